/- FnExactSame: what the printed functions come to, for every input. -/
import Derived.Test.YtkpipmojkhikaaaPAllx21
import Derived.Test.YtkpipmojkhikaaaBase
import Derived.Test.YtkpipmojkhikaaaEv
import Derived.Test.YtkpipmojkhikaaaWalkFnExactSame
set_option linter.unusedVariables false
set_option linter.unusedSimpArgs false
namespace Go.Proofs.Ytkpipmojkhikaaa.Pure.ExactSameW
open Go.RowKit Go.Proofs.Ytkpipmojkhikaaa.PAll Go.Proofs.YtkpipmojkhikaaaW.PrintWords Go.Proofs.YtkpipmojkhikaaaW.PrintLast Go.Proofs.YtkpipmojkhikaaaW.PrintMore Go.Proofs.Ytkpipmojkhikaaa.Base

theorem pow2 {w : Int} (h0 : 0 ≤ w) (h8 : w ≤ 8) {k : Nat} (hk : 20 ≤ k) : spec_l01Pow2.f k w = some (P2 w) := by
  obtain ⟨m, rfl⟩ := rounds_of hk
  have : w = 0 ∨ w = 1 ∨ w = 2 ∨ w = 3 ∨ w = 4 ∨ w = 5 ∨ w = 6 ∨ w = 7 ∨ w = 8 := by omega
  rcases this with rfl | rfl | rfl | rfl | rfl | rfl | rfl | rfl | rfl <;> simp [spec_l01Pow2.f, spec_l01Pow2.l0, P2, wrap64]


theorem inS (x a b : Int) : spec_l01In.f x a b = some (decide (a ≤ x ∧ x ≤ b)) := by
  unfold spec_l01In.f
  by_cases h : x ≥ a
  · rw [if_pos h]; simp [h]
  · rw [if_neg h]; simp [h]


theorem inI (x a b : Int) : impl_within.f x a b = some (decide (a ≤ x ∧ x ≤ b)) := by
  unfold impl_within.f
  by_cases h : x ≥ a
  · rw [if_pos h]; simp [h]
  · rw [if_neg h]; simp [h]


theorem wokS (w a : Int) {k : Nat} (hk : 20 ≤ k) : spec_WordOk.f k w a = some (wok w a) := by
  unfold spec_WordOk.f wok
  rw [inS]; simp only [Option.bind_some]
  by_cases h : 1 ≤ w ∧ w ≤ 8
  · have hp := P2_pos (by omega : 0 ≤ w) h.2
    rw [if_pos (by simp [h]), pow2 (by omega) h.2 hk]; simp only [Option.bind_some]
    rw [inS, wrap_id (by omega) (by omega)]; simp [h]
  · rw [if_neg (by simp; omega)]; simp; omega


theorem wokI (w a : Int) : impl_WordOk.f w a = some (wok w a) := by
  unfold impl_WordOk.f impl_isWidth.f wok
  rw [inI]; simp only [Option.bind_some]
  by_cases h : 1 ≤ w ∧ w ≤ 8
  · have hp := P2_pos (by omega : 0 ≤ w) h.2
    rw [if_pos (by simp [h]), if_pos (u64_nonneg w), u64_id (by omega) (by omega), shl_one (by omega) h.2, inI, wrap_id (by omega) (by omega)]
    simp [h]
  · rw [if_neg (by simp; omega)]; simp; omega


theorem szNode (l : List S75) (h : l.length ≤ 9223372036854775807) : laws_szNodeS.f l 1048576 = some (if (l.length : Int) > 1048576 then -1 else 1048576 - (l.length : Int)) := by
  unfold laws_szNodeS.f
  rw [wrap_id (by omega) (by omega)]
  by_cases c : (l.length : Int) > 1048576
  · rw [if_pos (by omega), if_pos c]
  · rw [if_neg (by omega), if_neg c]


theorem szNode_left (l : List S75) (h : l.length ≤ 9223372036854775807) (m : Int) (h0 : 0 ≤ m) (h1 : m ≤ 1048576) : laws_szNodeS.f l m = some (if (l.length : Int) > m then -1 else m - (l.length : Int)) := by
  unfold laws_szNodeS.f
  rw [wrap_id (by omega) (by omega)]
  by_cases c : (l.length : Int) > m
  · rw [if_pos (by omega), if_pos c]
  · rw [if_neg (by omega), if_neg c]


def cvNode (x : S75) : S31 := ⟨x.f0, x.f1, x.f2, x.f3, x.f4, x.f5⟩
theorem toNode_from (l : List S75) (hl : l.length ≤ 1048576) (d : Nat) : ∀ (k : Nat) (acc : List S31) (i : Nat), acc.length = l.length → i ≤ l.length → l.length - i = d → d < k →
    laws_toNodeS.l0 k l acc (i : Int) = some (acc.take i ++ (l.drop i).map cvNode) := by
  induction d with
  | zero =>
    intro k acc i ha hi hd hk
    obtain ⟨k, rfl⟩ : ∃ m, k = m + 1 := ⟨k - 1, by omega⟩
    simp only [laws_toNodeS.l0]
    rw [if_neg (by omega), List.drop_eq_nil_of_le (by omega), List.take_of_length_le (by omega)]; simp
  | succ d ih =>
    intro k acc i ha hi hd hk
    obtain ⟨k, rfl⟩ : ∃ m, k = m + 1 := ⟨k - 1, by omega⟩
    have hlt : i < l.length := by omega
    simp only [laws_toNodeS.l0]
    rw [if_pos (by omega), if_pos (by omega)]
    unfold laws_toNode.f
    simp only [Option.bind_some]
    have hrd : rd_T75 l (i : Int) = l[i] := by
      unfold rd_T75
      rw [Int.toNat_natCast, List.getD_eq_getElem?_getD, List.getElem?_eq_getElem hlt]; rfl
    rw [if_pos (by omega), hrd, wrap_id (by omega) (by omega), show ((i : Int) + 1) = ((i + 1 : Nat) : Int) by omega, Int.toNat_natCast,
      ih k _ (i + 1) (by simpa using ha) (by omega) (by omega) (by omega)]
    congr 1
    rw [List.drop_eq_getElem_cons hlt, List.map_cons]
    have ht : (acc.set i (cvNode l[i])).take (i + 1) = acc.take i ++ [cvNode l[i]] := by
      rw [List.take_succ_eq_append_getElem (by simpa using (by omega : i < acc.length)), List.take_set_of_le (by omega)]
      simp
    show (acc.set i (cvNode l[i])).take (i + 1) ++ _ = _
    rw [ht, List.append_assoc]; rfl
theorem toNode (l : List S75) (hl : l.length ≤ 1048576) : Ev (fun k => laws_toNodeS.f k l) (l.map cvNode) := by
  refine ev_of (l.length + 2) fun k hk => ?_
  unfold laws_toNodeS.f
  rw [if_pos (by omega), if_pos (by omega)]
  have := toNode_from l hl l.length k (List.replicate ((l.length : Int) : Int).toNat z31) 0 (by simp) (by omega) (by omega) (by omega)
  simpa using this


theorem eqNode_one (x : S31) : laws_eqNode.f x.f0 x.f1 x.f2 x.f3 x.f4 x.f5 x.f0 x.f1 x.f2 x.f3 x.f4 x.f5 = some true := by
  unfold laws_eqNode.f; simp
theorem eqNode_from (l : List S31) (hl : l.length ≤ 4611686018427387904) (d : Nat) : ∀ (k i : Nat), i ≤ l.length → l.length - i = d → d < k → laws_eqNodeS.l0 k l l (i : Int) = some true := by
  induction d with
  | zero =>
    intro k i hi hd hk
    obtain ⟨k, rfl⟩ : ∃ m, k = m + 1 := ⟨k - 1, by omega⟩
    simp only [laws_eqNodeS.l0]
    rw [if_neg (by omega)]
  | succ d ih =>
    intro k i hi hd hk
    obtain ⟨k, rfl⟩ : ∃ m, k = m + 1 := ⟨k - 1, by omega⟩
    simp only [laws_eqNodeS.l0]
    rw [if_pos (by omega), if_pos (by omega), if_pos (by omega), eqNode_one]
    simp only [Option.bind_some, if_true]
    rw [wrap_id (by omega) (by omega), show ((i : Int) + 1) = ((i + 1 : Nat) : Int) by omega]
    exact ih k (i + 1) (by omega) (by omega) (by omega)
theorem eqNode (l : List S31) (hl : l.length ≤ 4611686018427387904) : Ev (fun k => laws_eqNodeS.f k l l) true := by
  refine ev_of (l.length + 2) fun k hk => ?_
  unfold laws_eqNodeS.f
  rw [if_pos rfl]
  exact eqNode_from l hl l.length k 0 (by omega) (by omega) (by omega)


theorem partsS (op w q a b c : Int) {k : Nat} (hk : 1 ≤ k) : spec_Parts.f k op w q a b c = some (partsL op a b c) := by
  obtain ⟨k, rfl⟩ : ∃ m, k = m + 1 := ⟨k - 1, by omega⟩
  unfold spec_Parts.f partsL
  simp only [spec_Parts.j0, inS]
  by_cases h2 : op = 2
  · subst h2; simp
  · by_cases h17 : op = 17
    · subst h17; simp
    · by_cases h19 : op = 19
      · subst h19; simp
      · by_cases h20 : op = 20
        · subst h20; simp
        · have hq : ¬ (op = 2 ∨ op = 17 ∨ op = 19 ∨ op = 20) := by omega
          rw [if_neg h2, if_neg h17, if_neg h19, if_neg (by simpa using h20), if_neg hq]
          simp only [Option.bind_some, decide_eq_true_eq]
          by_cases h3 : 3 ≤ op ∧ op ≤ 16
          · rw [if_pos h3, if_pos h3]
          · rw [if_neg h3, if_neg h3]
            by_cases h18 : op = 18
            · rw [if_pos h18, if_pos h18]
            · rw [if_neg h18, if_neg h18]


theorem rdN (l : List S31) (i : Nat) (h : i < l.length) : rd_T31 l (i : Int) = l[i] := by
  unfold rd_T31
  rw [Int.toNat_natCast, List.getD_eq_getElem?_getD, List.getElem?_eq_getElem h]; rfl
theorem rdI (l : List Int) (i : Nat) (h : i < l.length) : rd l (i : Int) = l[i] := by simp [rd, h]
theorem inB_iff {x a b : Int} : inB x a b = true ↔ a ≤ x ∧ x ≤ b := by simp [inB]
theorem inSB (x a b : Int) : spec_l01In.f x a b = some (inB x a b) := inS x a b
theorem node_l0 (l : List S31) (i : Int) (hi0 : 0 ≤ i) (hi1 : i ≤ 9223372036854775807) (ps : List Int) (hps : ps.length ≤ 3) (n0 n1 n2 n3 n4 n5 : Int) (r : Bool)
    (h1 : (∀ p ∈ ps, inB p 0 (i - 1) = true) → Ev (fun k => spec_l02Node.l0 k l i ps (ps.length : Int) n0 n1 n2 n3 n4 n5) r) (h2 : (¬ ∀ p ∈ ps, inB p 0 (i - 1) = true) → r = false) (d : Nat) :
    ∀ j : Nat, j + d = ps.length → (∀ t : Nat, t < j → inB (rd ps (t : Int)) 0 (i - 1) = true) → Ev (fun k => spec_l02Node.l0 k l i ps (j : Int) n0 n1 n2 n3 n4 n5) r := by
  induction d with
  | zero =>
    intro j hj hA
    obtain rfl : j = ps.length := by omega
    refine h1 fun p hp => ?_
    obtain ⟨t, ht, rfl⟩ := List.getElem_of_mem hp
    rw [← rdI ps t ht]; exact hA t ht
  | succ d ih =>
    intro j hj hA
    have hlt : j < ps.length := by omega
    refine ev_succ ?_
    simp only [spec_l02Node.l0]
    refine ev_pos (by omega) (ev_pos (by omega) (ev_bind0 (inSB _ _ _) ?_))
    rw [wrap_id (x := i - 1) (by omega) (by omega)]
    by_cases hb : inB (rd ps (j : Int)) 0 (i - 1) = true
    · refine ev_pos hb ?_
      rw [wrap_id (by omega) (by omega)]
      refine ih (j + 1) (by omega) fun t ht => ?_
      rcases Nat.lt_or_ge t j with h | h
      · exact hA t h
      · obtain rfl : t = j := by omega
        exact hb
    · refine ev_neg hb ?_
      rw [h2 fun h => hb (by rw [rdI ps j hlt]; exact h _ (List.getElem_mem hlt))]
      exact ev_now
theorem node_l1 (l : List S31) (hl : l.length ≤ 4611686018427387904) (ps : List Int) (hps : ps.length ≤ 3) (hp : ∀ p ∈ ps, 0 ≤ p ∧ p < (l.length : Int)) (n0 n1 n2 n3 n4 n5 : Int) (r : Bool)
    (h : Ev (fun k => spec_l02Node.l1 k l ps (ps.map fun p => (rd_T31 l p).f1) (ps.length : Int) n0 n1 n2 n3 n4 n5) r) (d : Nat) :
    ∀ j : Nat, j + d = ps.length → Ev (fun k => spec_l02Node.l1 k l ps ((ps.take j).map fun p => (rd_T31 l p).f1) (j : Int) n0 n1 n2 n3 n4 n5) r := by
  induction d with
  | zero =>
    intro j hj
    obtain rfl : j = ps.length := by omega
    rw [List.take_of_length_le (by omega)]; exact h
  | succ d ih =>
    intro j hj
    have hlt : j < ps.length := by omega
    have hq := hp _ (List.getElem_mem hlt)
    refine ev_succ ?_
    simp only [spec_l02Node.l1]
    rw [rdI ps j hlt]
    refine ev_pos (by omega) (ev_pos (by omega) (ev_pos hq.1 (ev_pos hq.2 (ev_pos (by simp; omega) ?_))))
    rw [wrap_id (by omega) (by omega), show ((j : Int) + 1) = ((j + 1 : Nat) : Int) by omega]
    have := ih (j + 1) (by omega)
    rwa [List.take_succ_eq_append_getElem hlt, List.map_append] at this
theorem rd_take (l : List S31) (i : Nat) (p : Int) (h0 : 0 ≤ p) (h1 : p < i) : rd_T31 (l.take i) p = rd_T31 l p := by
  unfold rd_T31
  rw [List.getD_eq_getElem?_getD, List.getD_eq_getElem?_getD, List.getElem?_take, if_pos (by omega)]
theorem sw_ev (l : List S31) (ps ws : List Int) (op W K A B C : Int) (hps : ps = partsL op A B C) (hws : ws.length = ps.length) :
    Ev (fun k => spec_l02Node.l1 k l ps ws (ps.length : Int) op W K A B C) (inB op 0 20 && usesB op K A B C && rightSw op W K B (ws.getD 0 0) (ws.getD 1 0) (ws.getD 2 0)) := by
  have hl := partsL_len op A B C
  refine ev_of 60 fun k hk => ?_
  obtain ⟨k, rfl⟩ : ∃ m, k = m + 2 := ⟨k - 2, by omega⟩
  simp only [spec_l02Node.l1]
  rw [if_neg (by omega), wokS _ _ (by omega), inSB, inSB, inSB]
  simp only [Option.bind_some, spec_l02Node.j2, inSB]
  have rd0 : rd ws 0 = ws.getD 0 0 := rfl
  have rd1 : rd ws 1 = ws.getD 1 0 := rfl
  have rd2 : rd ws 2 = ws.getD 2 0 := rfl
  rw [rd0, rd1, rd2]
  generalize ws.getD 0 0 = u
  generalize ws.getD 1 0 = v
  generalize ws.getD 2 0 = x
  by_cases h0 : op = 0
  · subst h0; simp [inB, usesB, rightSw]; by_cases g : wok W K = true <;> by_cases a : A = 0 <;> by_cases b : B = 0 <;> simp [g, a, b]
  rw [if_neg h0]
  by_cases h1 : op = 1
  · subst h1; by_cases g : inB K 0 7 = true <;> by_cases a : A = 0 <;> by_cases b : B = 0 <;> simp [usesB, rightSw, g, a, b, inB_iff.mpr (show (0 : Int) ≤ 1 ∧ (1 : Int) ≤ 20 by omega)]
  rw [if_neg h1]
  by_cases h2 : op = 2
  · subst h2
    have hn : (0 : Int) < (ws.length : Int) := by rw [hws, hps]; simp [partsL]
    rw [if_pos rfl, if_pos hn]
    by_cases a : u = W <;> by_cases b : K = 0 <;> by_cases c : B = 0 <;> simp [inB, usesB, rightSw, a, b, c]
  rw [if_neg h2]
  by_cases h3 : 3 ≤ op ∧ op ≤ 12
  · have e : ps = [A, B] := by rw [hps]; unfold partsL; rw [if_neg (by omega), if_pos (by omega)]
    have hn : ws.length = 2 := by rw [hws, e]; rfl
    rw [if_pos (inB_iff.mpr h3), if_pos (by omega), if_pos (c := (1 : Int) < _) (by omega)]
    have hu : usesB op K A B C = (K == 0 && C == 0) := by unfold usesB; rw [if_neg (by omega), if_neg (by omega), if_neg (by omega), if_neg (by omega), if_pos (by omega)]
    have hr : rightSw op W K B u v x = (u == W && v == W) := by unfold rightSw; rw [if_neg (by omega), if_neg (by omega), if_neg (by omega), if_pos (by omega)]
    rw [hu, hr, inB_iff.mpr (show 0 ≤ op ∧ op ≤ 20 by omega)]
    by_cases a : u = W <;> by_cases b : K = 0 <;> by_cases c : v = W <;> simp [a, b, c]
  rw [if_neg (fun h => h3 (inB_iff.mp h))]
  by_cases h4 : 13 ≤ op ∧ op ≤ 15
  · have e : ps = [A, B] := by rw [hps]; unfold partsL; rw [if_neg (by omega), if_pos (by omega)]
    have hn : ws.length = 2 := by rw [hws, e]; rfl
    rw [if_pos (inB_iff.mpr h4), if_pos (by omega), if_pos (c := (1 : Int) < _) (by omega)]
    have hu : usesB op K A B C = (K == 0 && C == 0) := by unfold usesB; rw [if_neg (by omega), if_neg (by omega), if_neg (by omega), if_neg (by omega), if_pos (by omega)]
    have hr : rightSw op W K B u v x = (u == v && W == 1) := by unfold rightSw; rw [if_neg (by omega), if_neg (by omega), if_neg (by omega), if_neg (by omega), if_pos (by omega)]
    rw [hu, hr, inB_iff.mpr (show 0 ≤ op ∧ op ≤ 20 by omega)]
    by_cases a : u = v <;> by_cases b : K = 0 <;> by_cases c : W = 1 <;> simp [a, b, c]
  rw [if_neg (fun h => h4 (inB_iff.mp h))]
  by_cases h16 : op = 16
  · subst h16
    have hn : ws.length = 2 := by rw [hws, hps]; rfl
    rw [if_pos rfl, if_pos (by omega), if_pos (c := (1 : Int) < _) (by omega)]
    by_cases a : wrap64 (u + v) = W <;> by_cases b : K = 0 <;> simp [inB, usesB, rightSw, a, b]
  rw [if_neg h16]
  by_cases h17 : op = 17
  · subst h17
    have hn : ws.length = 1 := by rw [hws, hps]; rfl
    rw [if_pos rfl, if_pos (c := (0 : Int) < _) (by omega)]
    by_cases a : 0 ≤ K <;> by_cases b : K ≤ wrap64 (u - W) <;> by_cases c : B = 0 <;> simp [inB, usesB, rightSw, a, b, c]
  rw [if_neg h17]
  by_cases h18 : op = 18
  · subst h18
    have hn : ws.length = 3 := by rw [hws, hps]; rfl
    rw [if_pos rfl, if_pos (c := (0 : Int) < _) (by omega), if_pos (c := (1 : Int) < _) (by omega), if_pos (c := (2 : Int) < _) (by omega)]
    by_cases a : u = 1 <;> by_cases b : v = W <;> by_cases c : x = W <;> simp [inB, usesB, rightSw, a, b, c]
  rw [if_neg h18]
  by_cases h19 : op = 19
  · subst h19
    have hn : ws.length = 1 := by rw [hws, hps]; rfl
    rw [if_pos rfl, if_pos trivial, if_pos (c := (0 : Int) < _) (by omega)]
    by_cases a : inB K 0 7 = true <;> by_cases b : inB B 1 8 = true <;> by_cases c : u = 1 <;> by_cases d : W = 1 <;> simp [usesB, rightSw, a, b, c, d, inB_iff.mpr (show (0 : Int) ≤ 19 ∧ (19 : Int) ≤ 20 by omega)]
  rw [if_neg h19]
  by_cases h20 : op = 20
  · subst h20
    have hn : ws.length = 1 := by rw [hws, hps]; rfl
    rw [if_pos (by rfl), if_pos (c := (0 : Int) < _) (by omega)]
    by_cases a : inB K 0 7 = true <;> by_cases b : inB B 1 8 = true <;> by_cases c : u = 1 <;> by_cases d : W = 1 <;> simp [usesB, rightSw, a, b, c, d, inB_iff.mpr (show (0 : Int) ≤ 20 ∧ (20 : Int) ≤ 20 by omega)]
  rw [if_neg (by simpa using h20)]
  have hn : inB op 0 20 = false := by simp [inB]; omega
  simp [hn]
theorem node_ev (l : List S31) (hl : l.length ≤ 4611686018427387904) (i : Nat) (hi : i < l.length) : Ev (fun k => spec_l02Node.f k l (i : Int)) (rightB (l.take i) (rd_T31 l i).f0 (rd_T31 l i).f1 (rd_T31 l i).f2 (rd_T31 l i).f3 (rd_T31 l i).f4 (rd_T31 l i).f5) := by
  unfold spec_l02Node.f
  refine ev_pos (by omega) (ev_pos (by omega) (ev_bind (ev_of 1 fun k hk => partsS _ _ _ _ _ _ hk) ?_))
  generalize (rd_T31 l i).f0 = op
  generalize (rd_T31 l i).f1 = W
  generalize (rd_T31 l i).f2 = K
  generalize (rd_T31 l i).f3 = A
  generalize (rd_T31 l i).f4 = B
  generalize (rd_T31 l i).f5 = C
  have hlen := partsL_len op A B C
  have htk : ((l.take i).length : Int) = i := by rw [List.length_take]; omega
  refine node_l0 l i (by omega) (by omega) _ hlen op W K A B C _ (fun hall => ?_) (fun hn => ?_) _ 0 (Nat.zero_add _) (fun t ht => absurd ht (by omega))
  · refine ev_succ ?_
    simp only [spec_l02Node.l0]
    refine ev_neg (by omega) (ev_bind0 (inSB _ _ _) ?_)
    have hall' : (partsL op A B C).all (fun p => inB p 0 (((l.take i).length : Int) - 1)) = true := by rw [htk]; exact List.all_eq_true.mpr hall
    unfold rightB
    rw [hall']
    by_cases hw : inB W 1 8 = true
    · refine ev_pos hw ?_
      rw [hw]
      have hwv : ∀ t : Nat, wv (l.take i) (partsL op A B C) (partsL op A B C).length t = ((partsL op A B C).map fun p => (rd_T31 l p).f1).getD t 0 := by
        intro t
        unfold wv
        by_cases ht : t < (partsL op A B C).length
        · rw [if_pos ht, rdI _ t ht, List.getD_eq_getElem?_getD, List.getElem?_map, List.getElem?_eq_getElem ht]
          have := inB_iff.mp (hall _ (List.getElem_mem ht))
          rw [rd_take l i _ this.1 (by omega)]; rfl
        · rw [if_neg ht, List.getD_eq_getElem?_getD, List.getElem?_eq_none (by simp; omega)]; rfl
      rw [hwv, hwv, hwv]
      simp only [Bool.true_and, Bool.and_true]
      exact node_l1 l hl _ hlen (fun p hp => by have := inB_iff.mp (hall p hp); omega) op W K A B C _ (sw_ev l _ _ op W K A B C rfl (by simp)) _ 0 (Nat.zero_add _)
    · have hw' : inB W 1 8 = false := by simpa using hw
      refine ev_neg hw ?_
      rw [hw']; simp only [Bool.false_and]; exact ev_now
  · unfold rightB
    have hnot : (partsL op A B C).all (fun p => inB p 0 (((l.take i).length : Int) - 1)) = false := by
      rw [htk]
      cases e : (partsL op A B C).all (fun p => inB p 0 ((i : Int) - 1)) with
      | false => rfl
      | true => exact absurd (List.all_eq_true.mp e) hn
    rw [hnot]; simp


/-- Node i of a list is right. -/
def nodeB (l : List S31) (i : Nat) : Bool := rightB (l.take i) (rd_T31 l i).f0 (rd_T31 l i).f1 (rd_T31 l i).f2 (rd_T31 l i).f3 (rd_T31 l i).f4 (rd_T31 l i).f5
def NodesOk (l : List S31) : Prop := ∀ i < l.length, nodeB l i = true
def TermOkP (l : List S31) : Prop := 1 ≤ l.length ∧ l.length ≤ 80 ∧ NodesOk l
theorem termS_from (l : List S31) (hl : l.length ≤ 80) (d : Nat) : ∀ i : Nat, i + d = l.length → ∃ r, Ev (fun k => spec_TermOk.l0 k l (i : Int)) r ∧ Ev (fun k => impl_TermOk.l0 k l l (l.length : Int) (i : Int)) r ∧ (r = true ↔ ∀ j < l.length, i ≤ j → nodeB l j = true) := by
  induction d with
  | zero =>
    intro i hi
    refine ⟨true, ev_succ ?_, ev_succ ?_, by simp; intro j h1 h2; omega⟩
    · simp only [spec_TermOk.l0]; exact ev_neg (by omega) ev_now
    · simp only [impl_TermOk.l0]; exact ev_neg (by omega) ev_now
  | succ d ih =>
    intro i hi
    have hlt : i < l.length := by omega
    obtain ⟨r, e1, e2, h⟩ := ih (i + 1) (by omega)
    have hn := node_ev l (by omega) i hlt
    by_cases hb : nodeB l i = true
    · refine ⟨r, ev_succ ?_, ev_succ ?_, ?_⟩
      · simp only [spec_TermOk.l0]
        refine ev_pos (by omega) (ev_bind hn (ev_pos hb ?_))
        rw [wrap_id (by omega) (by omega), show ((i : Int) + 1) = ((i + 1 : Nat) : Int) by omega]; exact e1
      · simp only [impl_TermOk.l0]
        refine ev_pos (by omega) (ev_pos (by omega) (ev_pos (by omega) (ev_pos (by omega) (ev_bind0 rfl (ev_pos hb ?_)))))
        rw [wrap_id (by omega) (by omega), show ((i : Int) + 1) = ((i + 1 : Nat) : Int) by omega]; exact e2
      · rw [h]
        constructor
        · intro hh j h1 h2
          rcases Nat.lt_or_ge i j with h3 | h3
          · exact hh j h1 h3
          · obtain rfl : i = j := by omega
            exact hb
        · intro hh j h1 h2
          exact hh j h1 (by omega)
    · refine ⟨false, ev_succ ?_, ev_succ ?_, ?_⟩
      · simp only [spec_TermOk.l0]
        exact ev_pos (by omega) (ev_bind hn (ev_neg hb ev_now))
      · simp only [impl_TermOk.l0]
        exact ev_pos (by omega) (ev_pos (by omega) (ev_pos (by omega) (ev_pos (by omega) (ev_bind0 rfl (ev_neg hb ev_now)))))
      · simp only [Bool.false_eq_true, false_iff]
        intro hh
        exact hb (hh i hlt (by omega))
theorem term_ev (l : List S31) : ∃ r, Ev (fun k => spec_TermOk.f k l) r ∧ Ev (fun k => impl_TermOk.f k l) r ∧ (r = true ↔ TermOkP l) := by
  by_cases hb : 1 ≤ (l.length : Int) ∧ (l.length : Int) ≤ 80
  · obtain ⟨r, e1, e2, h⟩ := termS_from l (by omega) l.length 0 (by omega)
    refine ⟨r, ?_, ?_, ?_⟩
    · unfold spec_TermOk.f; exact ev_bind0 (inS _ _ _) (ev_pos (by simpa using hb) e1)
    · unfold impl_TermOk.f; exact ev_bind0 (inI _ _ _) (ev_pos (by simpa using hb) e2)
    · rw [h]; unfold TermOkP NodesOk
      constructor
      · intro hh; exact ⟨by omega, by omega, fun i hi => hh i hi (by omega)⟩
      · intro hh j h1 _; exact hh.2.2 j h1
  · refine ⟨false, ?_, ?_, ?_⟩
    · unfold spec_TermOk.f; exact ev_bind0 (inS _ _ _) (ev_neg (by simpa using hb) ev_now)
    · unfold impl_TermOk.f; exact ev_bind0 (inI _ _ _) (ev_neg (by simpa using hb) ev_now)
    · simp only [Bool.false_eq_true, false_iff]; unfold TermOkP; omega


/-- The places of node i's parts. -/
def pl (l : List S31) (i : Nat) : List Int := partsL (rd_T31 l i).f0 (rd_T31 l i).f3 (rd_T31 l i).f4 (rd_T31 l i).f5
def PartsIn (l : List S31) : Prop := ∀ i < l.length, ∀ p ∈ pl l i, 0 ≤ p ∧ p < (i : Int)
theorem parts_in {l : List S31} (h : NodesOk l) : PartsIn l := by
  intro i hi p hp
  have hb := h i hi
  unfold nodeB rightB at hb
  simp only [Bool.and_eq_true] at hb
  have := inB_iff.mp (List.all_eq_true.mp hb.1.2 p hp)
  rw [List.length_take] at this
  omega
def setAll (met : List Bool) (ps : List Int) : List Bool := ps.foldl (fun m p => m.set p.toNat true) met
theorem setAll_len (ps : List Int) : ∀ met : List Bool, (setAll met ps).length = met.length := by
  induction ps with
  | nil => intro met; rfl
  | cons p ps ih => intro met; show (setAll (met.set p.toNat true) ps).length = _; rw [ih, List.length_set]
/-- Going down from node j - 1: who is met. -/
def stepR (pb : Nat → Bool) (l : List S31) (j : Nat) (met : List Bool) : List Bool := if met.getD j false = true ∧ pb j = true then setAll met (pl l j) else met
def rgo (pb : Nat → Bool) (l : List S31) : Nat → List Bool → List Bool
  | 0, met => met
  | j + 1, met => rgo pb l j (stepR pb l j met)
theorem stepR_len (pb : Nat → Bool) (l : List S31) (j : Nat) (met : List Bool) : (stepR pb l j met).length = met.length := by
  unfold stepR; split
  · rw [setAll_len]
  · rfl
theorem rgo_len (pb : Nat → Bool) (l : List S31) (j : Nat) : ∀ met, (rgo pb l j met).length = met.length := by
  induction j with
  | zero => intro met; rfl
  | succ j ih => intro met; show (rgo pb l j _).length = _; rw [ih, stepR_len]
def reachL (pb : Nat → Bool) (l : List S31) (root : Nat) : List Bool := rgo pb l (root + 1) ((List.replicate l.length false).set root true)
theorem reachL_len (pb : Nat → Bool) (l : List S31) (root : Nat) : (reachL pb l root).length = l.length := by unfold reachL; rw [rgo_len]; simp
theorem rdB (l : List Bool) (i : Nat) (h : i < l.length) : rdOf false l (i : Int) = l[i] := by
  unfold rdOf
  rw [Int.toNat_natCast, List.getD_eq_getElem?_getD, List.getElem?_eq_getElem h]; rfl
theorem gdB (l : List Bool) (i : Nat) (h : i < l.length) : l.getD i false = l[i] := by
  rw [List.getD_eq_getElem?_getD, List.getElem?_eq_getElem h]; rfl
theorem setAll_drop (ps : List Int) (t : Nat) (h : t < ps.length) (met : List Bool) : setAll met (ps.drop t) = setAll (met.set (rd ps (t : Int)).toNat true) (ps.drop (t + 1)) := by
  rw [List.drop_eq_getElem_cons h, rdI ps t h]; rfl


theorem isqI (a b c d e f : Int) : impl_isQuant.f a b c d e f = some ((a == 19) || (a == 20)) := by
  unfold impl_isQuant.f
  by_cases h : a = 19
  · rw [if_pos h]; simp [h]
  · rw [if_neg h]; simp [h]


theorem isqS (a : Int) : spec_l02Quant.f a = some ((a == 19) || (a == 20)) := by
  unfold spec_l02Quant.f
  by_cases h : a = 19
  · rw [if_pos h]; simp [h]
  · rw [if_neg h]; simp [h]


/-- Texts as lists of bytes. -/
def mkB (l : List UInt8) : ByteArray := ⟨l.toArray⟩
theorem mkB_app (a b : List UInt8) : mkB a ++ mkB b = mkB (a ++ b) := by
  unfold mkB
  apply ByteArray.ext
  rw [ByteArray.data_append]; simp
theorem mkB_size (a : List UInt8) : (mkB a).size = a.length := by unfold mkB; simp [ByteArray.size]
theorem mkB_toList (a : List UInt8) : (mkB a).toList = a := by rw [ByteArray.toList_eq]; unfold mkB; simp
theorem mkB_lit (l : List UInt8) : (⟨l.toArray⟩ : ByteArray) = mkB l := rfl
/-- A whole number from 0 to 999 in decimal. -/
def d8 (n : Int) : UInt8 := UInt8.ofNat (48 + n.toNat)
def decL (n : Int) : List UInt8 := if n < 10 then [d8 n] else if n < 100 then [d8 (n / 10), d8 (n % 10)] else [d8 (n / 100), d8 (n / 10 % 10), d8 (n % 10)]
theorem decL_len (n : Int) : 1 ≤ (decL n).length ∧ (decL n).length ≤ 3 := by unfold decL; split <;> (try split) <;> simp
theorem digS {d : Int} (h0 : 0 ≤ d) (h1 : d < 10) : (⟨#[48, 49, 50, 51, 52, 53, 54, 55, 56, 57]⟩ : ByteArray).extract d.toNat (d + 1).toNat = mkB [d8 d] := by
  have : d = 0 ∨ d = 1 ∨ d = 2 ∨ d = 3 ∨ d = 4 ∨ d = 5 ∨ d = 6 ∨ d = 7 ∨ d = 8 ∨ d = 9 := by omega
  rcases this with rfl | rfl | rfl | rfl | rfl | rfl | rfl | rfl | rfl | rfl <;> decide +kernel
theorem digI {d : Int} (h0 : 0 ≤ d) (h1 : d < 10) : strOfNums [(IntKind.u64.wrap (48 + d)) % 256] = mkB [d8 d] := by
  have : d = 0 ∨ d = 1 ∨ d = 2 ∨ d = 3 ∨ d = 4 ∨ d = 5 ∨ d = 6 ∨ d = 7 ∨ d = 8 ∨ d = 9 := by omega
  rcases this with rfl | rfl | rfl | rfl | rfl | rfl | rfl | rfl | rfl | rfl <;> decide +kernel
theorem decS_step (a m : Int) (ha : 0 ≤ a) (h0 : 0 < m) (h1 : m ≤ 999) (acc : List UInt8) (hacc : acc.length ≤ 100) (r : ByteArray) (h : Ev (fun k => spec_l03Dec.l0 k a (mkB (d8 (m % 10) :: acc)) (m / 10)) r) :
    Ev (fun k => spec_l03Dec.l0 k a (mkB acc) m) r := by
  refine ev_succ ?_
  simp only [spec_l03Dec.l0]
  rw [Int.tmod_eq_emod_of_nonneg (by omega), Int.tdiv_eq_ediv_of_nonneg (by omega)]
  have hm : 0 ≤ m % 10 ∧ m % 10 < 10 := by omega
  rw [wrap_id (x := m % 10 + 1) (by omega) (by omega), wrap_id (x := m / 10) (by omega) (by omega), digS hm.1 hm.2, mkB_app, mkB_size, mkB_size]
  exact ev_neg (by omega) (ev_neg (by omega) (ev_pos (by omega) (ev_pos (by omega) (ev_pos (by omega) (ev_pos (by simp; omega) h)))))
theorem decS (n : Int) (h0 : 0 ≤ n) (h1 : n ≤ 999) : Ev (fun k => spec_l03Dec.f k n) (mkB (decL n)) := by
  unfold spec_l03Dec.f
  by_cases hz : n = 0
  · subst hz; exact ev_pos rfl (ev_eq (by decide +kernel))
  · refine ev_neg hz ?_
    have fin : ∀ l : List UInt8, Ev (fun k => spec_l03Dec.l0 k n (mkB l) 0) (mkB l) := by
      intro l
      refine ev_succ ?_
      simp only [spec_l03Dec.l0]
      exact ev_pos trivial (ev_neg (by omega) ev_now)
    refine decS_step n n h0 (by omega) h1 [] (by simp) _ ?_
    by_cases h10 : n < 10
    · rw [show n / 10 = 0 by omega, show n % 10 = n by omega]
      unfold decL; rw [if_pos h10]; exact fin _
    · refine decS_step n _ h0 (by omega) (by omega) _ (by simp) _ ?_
      by_cases h100 : n < 100
      · rw [show n / 10 / 10 = 0 by omega, show n / 10 % 10 = n / 10 by omega]
        unfold decL; rw [if_neg h10, if_pos h100]; exact fin _
      · refine decS_step n _ h0 (by omega) (by omega) _ (by simp) _ ?_
        rw [show n / 10 / 10 / 10 = 0 by omega, show n / 10 / 10 % 10 = n / 100 by omega]
        unfold decL; rw [if_neg h10, if_neg h100]; exact fin _
theorem decI_step (m : Int) (h1 : 0 ≤ m) (h2 : m ≤ 999) (acc : List UInt8) (hacc : acc.length ≤ 100) (h0 : 0 < m ∨ acc = []) (r : ByteArray) (h : Ev (fun k => impl_digits.l0 k (m / 10) (mkB (d8 (m % 10) :: acc))) r) :
    Ev (fun k => impl_digits.l0 k m (mkB acc)) r := by
  have hw : IntKind.u64.wrap (m / 10) = m / 10 := u64_id (by omega) (by omega)
  refine ev_succ ?_
  simp only [impl_digits.l0]
  rw [Int.tmod_eq_emod_of_nonneg (by omega), Int.tdiv_eq_ediv_of_nonneg (by omega), hw, mkB_toList]
  have hd := digI (d := m % 10) (by omega) (by omega)
  have fin : Ev (fun k => if (strOfNums [(IntKind.u64.wrap (48 + m % 10)) % 256]).size + (mkB acc).size ≤ 9223372036854775807 then impl_digits.l0 k (m / 10) (strOfNums [(IntKind.u64.wrap (48 + m % 10)) % 256] ++ mkB acc) else none) r := by
    rw [hd, mkB_app, mkB_size, mkB_size]
    exact ev_pos (by simp; omega) h
  by_cases he : acc = []
  · exact ev_pos he (ev_bind0 rfl fin)
  · exact ev_neg he (ev_pos (by rcases h0 with h | h; exact h; exact absurd h he) (ev_bind0 rfl fin))
theorem decI (n : Int) (h0 : 0 ≤ n) (h1 : n ≤ 999) : Ev (fun k => impl_decimal.f k n) (mkB (decL n)) := by
  unfold impl_decimal.f impl_digits.f
  have hu : IntKind.u64.wrap n = n := u64_id (by omega) (by omega)
  rw [hu]
  refine ev_neg (by omega) (ev_bind (a := mkB (decL n)) ?_ ev_now)
  have fin : ∀ l : List UInt8, l ≠ [] → Ev (fun k => impl_digits.l0 k 0 (mkB l)) (mkB l) := by
    intro l hl
    refine ev_succ ?_
    simp only [impl_digits.l0]
    rw [mkB_toList]
    exact ev_neg hl (ev_neg (by omega) ev_now)
  refine decI_step n h0 h1 [] (by simp) (.inr rfl) _ ?_
  by_cases h10 : n < 10
  · rw [show n / 10 = 0 by omega, show n % 10 = n by omega]
    unfold decL; rw [if_pos h10]; exact fin _ (by simp)
  · refine decI_step _ (by omega) (by omega) _ (by simp) (.inl (by omega)) _ ?_
    by_cases h100 : n < 100
    · rw [show n / 10 / 10 = 0 by omega, show n / 10 % 10 = n / 10 by omega]
      unfold decL; rw [if_neg h10, if_pos h100]; exact fin _ (by simp)
    · refine decI_step _ (by omega) (by omega) _ (by simp) (.inl (by omega)) _ ?_
      rw [show n / 10 / 10 / 10 = 0 by omega, show n / 10 / 10 % 10 = n / 100 by omega]
      unfold decL; rw [if_neg h10, if_neg h100]; exact fin _ (by simp)
/-- The words of the operators of two parts. -/
def wordsL : List (List UInt8) := [[97, 110, 100], [111, 114], [120, 111, 114], [97, 100, 100], [115, 117, 98], [109, 117, 108], [100, 105, 118], [114, 101, 109], [115, 104, 108], [115, 104, 114], [61], [60], [115, 60], [106, 111, 105, 110]]
theorem wordsL_len (i : Nat) : (wordsL.getD i []).length ≤ 4 := by
  by_cases h : i < 14
  · have : i = 0 ∨ i = 1 ∨ i = 2 ∨ i = 3 ∨ i = 4 ∨ i = 5 ∨ i = 6 ∨ i = 7 ∨ i = 8 ∨ i = 9 ∨ i = 10 ∨ i = 11 ∨ i = 12 ∨ i = 13 := by omega
    rcases this with rfl | rfl | rfl | rfl | rfl | rfl | rfl | rfl | rfl | rfl | rfl | rfl | rfl | rfl <;> decide
  · rw [List.getD_eq_getElem?_getD, List.getElem?_eq_none (by simp [wordsL]; omega)]; simp
/-- What stands behind the opening bracket of a node, ahead of its parts. -/
def hdL (op W K B : Int) : List UInt8 :=
  if op = 2 then [110, 111, 116] else if op = 17 then [115, 108, 105, 99, 101, 32] ++ decL K ++ [32] ++ decL W else if op = 18 then [105, 102]
  else if op = 19 then [97, 108, 108, 32, 118] ++ decL K ++ [58] ++ decL B else if op = 20 then [115, 111, 109, 101, 32, 118] ++ decL K ++ [58] ++ decL B else wordsL.getD (op - 3).toNat []
theorem hdL_len (op W K B : Int) : (hdL op W K B).length ≤ 20 := by
  have h1 := decL_len K; have h2 := decL_len W; have h3 := decL_len B; have h4 := wordsL_len (op - 3).toNat
  unfold hdL; repeat' split
  all_goals (try simp only [List.length_append, List.length_cons, List.length_nil])
  all_goals omega
def leafL (op W K : Int) : List UInt8 := if op = 0 then [35] ++ decL W ++ [58] ++ decL K else [118] ++ decL K ++ [58] ++ decL W
theorem leafL_len (op W K : Int) : 4 ≤ (leafL op W K).length ∧ (leafL op W K).length ≤ 10 := by
  have h1 := decL_len K; have h2 := decL_len W
  unfold leafL; split <;> simp only [List.length_append, List.length_cons, List.length_nil] <;> omega
/-- The parts' texts, a blank ahead of each. -/
def ptsL (ts : List (List UInt8)) (ps : List Int) : List UInt8 := ps.flatMap fun p => 32 :: ts.getD p.toNat []
def wholeL (op W K B : Int) (ts : List (List UInt8)) (ps : List Int) : List UInt8 := 40 :: hdL op W K B ++ ptsL ts ps ++ [41]
/-- The text of a node; empty where it is too long, or a part's is. -/
def txtN (ts : List (List UInt8)) (op W K A B C : Int) : List UInt8 :=
  if op = 0 ∨ op = 1 then leafL op W K else if ((partsL op A B C).all fun p => ts.getD p.toNat [] != []) = true ∧ (wholeL op W K B ts (partsL op A B C)).length ≤ 4000 then wholeL op W K B ts (partsL op A B C) else []
def textsL (l : List S31) : Nat → List (List UInt8)
  | 0 => []
  | i + 1 => textsL l i ++ [txtN (textsL l i) (rd_T31 l (i : Int)).f0 (rd_T31 l (i : Int)).f1 (rd_T31 l (i : Int)).f2 (rd_T31 l (i : Int)).f3 (rd_T31 l (i : Int)).f4 (rd_T31 l (i : Int)).f5]
theorem textsL_len (l : List S31) (i : Nat) : (textsL l i).length = i := by
  induction i with
  | zero => rfl
  | succ i ih => simp [textsL, ih]
theorem txtN_le (ts : List (List UInt8)) (op W K A B C : Int) : (txtN ts op W K A B C).length ≤ 4000 := by
  unfold txtN
  split
  · have := leafL_len op W K; omega
  · split
    · rename_i h; exact h.2
    · simp
theorem textsL_le (l : List S31) (i : Nat) : ∀ t ∈ textsL l i, t.length ≤ 4000 := by
  induction i with
  | zero => intro t ht; simp [textsL] at ht
  | succ i ih =>
    intro t ht
    simp only [textsL, List.mem_append, List.mem_singleton] at ht
    rcases ht with ht | rfl
    · exact ih t ht
    · exact txtN_le _ _ _ _ _ _ _
theorem getD_le (ts : List (List UInt8)) (h : ∀ t ∈ ts, t.length ≤ 4000) (i : Nat) : (ts.getD i []).length ≤ 4000 := by
  rw [List.getD_eq_getElem?_getD]
  by_cases hi : i < ts.length
  · rw [List.getElem?_eq_getElem hi]; exact h _ (List.getElem_mem hi)
  · rw [List.getElem?_eq_none (by omega)]; simp
theorem ptsL_le (ts : List (List UInt8)) (h : ∀ t ∈ ts, t.length ≤ 4000) (ps : List Int) : (ptsL ts ps).length ≤ 4001 * ps.length := by
  unfold ptsL
  induction ps with
  | nil => simp
  | cons p ps ih =>
    simp only [List.flatMap_cons, List.length_append, List.length_cons]
    have := getD_le ts h p.toNat
    omega
theorem ptsL_snoc (ts : List (List UInt8)) (ps : List Int) (t : Nat) (h : t < ps.length) : ptsL ts (ps.take (t + 1)) = ptsL ts (ps.take t) ++ ([32] ++ ts.getD (rd ps (t : Int)).toNat []) := by
  unfold ptsL
  rw [List.take_succ_eq_append_getElem h, List.flatMap_append, rdI ps t h]; simp
theorem rdB8 (ts : List (List UInt8)) (p : Int) (h0 : 0 ≤ p) (h1 : p.toNat < ts.length) (rest : List ByteArray) : rdOf ByteArray.empty (ts.map mkB ++ rest) p = mkB (ts.getD p.toNat []) := by
  unfold rdOf
  rw [List.getD_eq_getElem?_getD, List.getElem?_append_left (by simpa using h1), List.getElem?_map, List.getD_eq_getElem?_getD, List.getElem?_eq_getElem h1]; rfl
/-- What a right node's numbers are. -/
structure NumOk (op W K A B C : Int) : Prop where
  op0 : 0 ≤ op
  op1 : op ≤ 20
  w0 : 1 ≤ W
  w1 : W ≤ 8
  k0 : op = 0 ∨ op = 1 ∨ op = 17 ∨ op = 19 ∨ op = 20 → 0 ≤ K ∧ K ≤ 255
  b0 : op = 19 ∨ op = 20 → 0 ≤ B ∧ B ≤ 8
theorem width_ok {l : List S31} (h : NodesOk l) (i : Nat) (hi : i < l.length) : 1 ≤ (rd_T31 l (i : Int)).f1 ∧ (rd_T31 l (i : Int)).f1 ≤ 8 := by
  have hb := h i hi
  unfold nodeB rightB at hb
  simp only [Bool.and_eq_true] at hb
  exact inB_iff.mp hb.1.1.1.1
theorem num_ok {l : List S31} (hN : NodesOk l) (i : Nat) (hi : i < l.length) : NumOk (rd_T31 l i).f0 (rd_T31 l i).f1 (rd_T31 l i).f2 (rd_T31 l i).f3 (rd_T31 l i).f4 (rd_T31 l i).f5 := by
  have hb := hN i hi
  unfold nodeB at hb
  have hwid : ∀ p : Int, inB p 0 (((l.take i).length : Int) - 1) = true → 1 ≤ (rd_T31 (l.take i) p).f1 ∧ (rd_T31 (l.take i) p).f1 ≤ 8 := by
    intro p hp
    have hp := inB_iff.mp hp
    rw [List.length_take] at hp
    obtain ⟨q, rfl⟩ := Int.eq_ofNat_of_zero_le hp.1
    rw [rd_take l i _ hp.1 (by omega)]
    exact width_ok hN q (by omega)
  generalize l.take i = L at hb hwid
  generalize (rd_T31 l i).f0 = op at *
  generalize (rd_T31 l i).f1 = W at *
  generalize (rd_T31 l i).f2 = K at *
  generalize (rd_T31 l i).f3 = A at *
  generalize (rd_T31 l i).f4 = B at *
  generalize (rd_T31 l i).f5 = C at *
  unfold rightB at hb
  simp only [Bool.and_eq_true] at hb
  obtain ⟨⟨⟨⟨hw, hop⟩, hu⟩, hp⟩, hs⟩ := hb
  have hw := inB_iff.mp hw
  have hop := inB_iff.mp hop
  refine ⟨hop.1, hop.2, hw.1, hw.2, fun h => ?_, fun h => ?_⟩
  · rcases h with rfl | rfl | rfl | rfl | rfl
    · have hs : wok W K = true := by simpa [rightSw] using hs
      obtain ⟨h1, h2, h3, h4⟩ := wok_iff.mp hs
      have := P2_pos (by omega : 0 ≤ W) h2
      omega
    · have hs : inB K 0 7 = true := by simpa [rightSw] using hs
      have := inB_iff.mp hs; omega
    · have hA := hwid A (List.all_eq_true.mp hp A (by simp [partsL]))
      have hwv : wv L (partsL 17 A B C) (partsL 17 A B C).length 0 = (rd_T31 L A).f1 := by simp [wv, partsL, rd]
      rw [hwv] at hs
      have hs : inB K 0 (wrap64 ((rd_T31 L A).f1 - W)) = true := by simpa [rightSw] using hs
      rw [wrap_id (by omega) (by omega)] at hs
      have := inB_iff.mp hs; omega
    · have hs : inB K 0 7 = true := by
        simp only [rightSw] at hs; simp at hs; exact hs.1.1.1
      have := inB_iff.mp hs; omega
    · have hs : inB K 0 7 = true := by
        simp only [rightSw] at hs; simp at hs; exact hs.1.1.1
      have := inB_iff.mp hs; omega
  · have hs : inB B 1 8 = true := by
      rcases h with rfl | rfl <;> (simp only [rightSw] at hs; simp at hs; exact hs.1.1.2)
    have := inB_iff.mp hs; omega
theorem lit_app (a b : List UInt8) : (⟨a.toArray⟩ : ByteArray) ++ mkB b = mkB (a ++ b) := mkB_app a b
theorem app_lit (a b : List UInt8) : mkB a ++ (⟨b.toArray⟩ : ByteArray) = mkB (a ++ b) := mkB_app a b
theorem showS_l0 (ts : List (List UInt8)) (hts : ∀ t ∈ ts, t.length ≤ 4000) (ps : List Int) (hps : ps.length ≤ 3) (hp : ∀ p ∈ ps, 0 ≤ p ∧ p < (ts.length : Int)) (hd : List UInt8) (hh : hd.length ≤ 20) (d : Nat) : ∀ t : Nat, t + d = ps.length →
    Ev (fun k => spec_l03Show.l0 k (ts.map mkB) (mkB (hd ++ ptsL ts (ps.take t))) ps (t : Int)) (mkB (if ((ps.drop t).all fun p => ts.getD p.toNat [] != []) = true ∧ (40 :: hd ++ ptsL ts ps ++ [41]).length ≤ 4000 then 40 :: hd ++ ptsL ts ps ++ [41] else [])) := by
  have hle : ∀ t, (ptsL ts (ps.take t)).length ≤ 12003 := by
    intro t
    have := ptsL_le ts hts (ps.take t)
    rw [List.length_take] at this
    omega
  induction d with
  | zero =>
    intro t ht
    refine ev_succ ?_
    simp only [spec_l03Show.l0]
    have h1 := hle t
    rw [List.take_of_length_le (by omega)] at h1 ⊢
    rw [List.drop_eq_nil_of_le (by omega)]
    refine ev_neg (by omega) ?_
    rw [show (⟨#[40]⟩ : ByteArray) = mkB [40] from rfl, show (⟨#[41]⟩ : ByteArray) = mkB [41] from rfl, mkB_app, mkB_app, mkB_size, mkB_size, List.length_append, wrap_id (by omega) (by omega)]
    by_cases hb : (40 :: hd ++ ptsL ts ps ++ [41]).length ≤ 4000
    · have e : (if ((([] : List Int)).all fun p => ts.getD p.toNat [] != []) = true ∧ (40 :: hd ++ ptsL ts ps ++ [41]).length ≤ 4000 then 40 :: hd ++ ptsL ts ps ++ [41] else []) = 40 :: hd ++ ptsL ts ps ++ [41] := if_pos ⟨rfl, hb⟩
      rw [e]
      simp only [List.length_append, List.length_cons, List.length_nil] at hb
      refine ev_neg (by push_cast; omega) (ev_pos (by omega) (ev_pos (by simp; omega) (ev_eq ?_)))
      simp
    · have e : (if ((([] : List Int)).all fun p => ts.getD p.toNat [] != []) = true ∧ (40 :: hd ++ ptsL ts ps ++ [41]).length ≤ 4000 then 40 :: hd ++ ptsL ts ps ++ [41] else []) = [] := if_neg (fun h => hb h.2)
      rw [e]
      simp only [List.length_append, List.length_cons, List.length_nil] at hb
      exact ev_pos (by push_cast; omega) ev_now
  | succ d ih =>
    intro t ht
    have hlt : t < ps.length := by omega
    have hq := hp _ (List.getElem_mem hlt)
    have hr : rd ps (t : Int) = ps[t] := rdI ps t hlt
    have h1 := hle t
    refine ev_succ ?_
    simp only [spec_l03Show.l0]
    have hrd := rdB8 ts (rd ps (t : Int)) (by rw [hr]; exact hq.1) (by rw [hr]; omega) []
    rw [List.append_nil] at hrd
    have hlast := getD_le ts hts (rd ps (t : Int)).toNat
    rw [hrd, show (⟨#[32]⟩ : ByteArray) = mkB [32] from rfl, mkB_app, mkB_app, mkB_size, mkB_size, mkB_size, mkB_toList]
    refine ev_pos (by omega) (ev_pos (by omega) (ev_pos (by rw [hr]; exact hq.1) (ev_pos (by rw [hr, List.length_map]; exact hq.2) ?_)))
    rw [List.drop_eq_getElem_cons hlt, List.all_cons, ← hr]
    by_cases hz : ts.getD (rd ps (t : Int)).toNat [] = []
    · rw [if_neg (fun h => by rw [hz] at h; simp at h)]
      exact ev_pos hz ev_now
    · refine ev_neg hz (ev_pos (by simp only [List.length_append]; omega) (ev_pos (by simp only [List.length_append, List.length_cons, List.length_nil]; omega) ?_))
      rw [wrap_id (by omega) (by omega), show ((t : Int) + 1) = ((t + 1 : Nat) : Int) by omega, List.append_assoc, List.append_assoc, ← ptsL_snoc ts ps t hlt]
      have := ih (t + 1) (by omega)
      have e : (ts.getD (rd ps (t : Int)).toNat [] != []) = true := by simpa using hz
      rw [e, Bool.true_and]
      exact this
theorem showS (ts : List (List UInt8)) (hts : ∀ t ∈ ts, t.length ≤ 4000) (op W K A B C : Int) (hn : NumOk op W K A B C) (hp : ∀ p ∈ partsL op A B C, 0 ≤ p ∧ p < (ts.length : Int)) :
    Ev (fun k => spec_l03Show.f k op W K A B C (ts.map mkB)) (mkB (txtN ts op W K A B C)) := by
  have hW := decS W (by have := hn.w0; omega) (by have := hn.w1; omega)
  have lW := decL_len W; have lK := decL_len K; have lB := decL_len B
  have join : ∀ hd : List UInt8, hd = hdL op W K B → ¬ (op = 0 ∨ op = 1) → Ev (fun k => spec_l03Show.j0 k (ts.map mkB) (mkB hd) op W K A B C) (mkB (txtN ts op W K A B C)) := by
    intro hd he h01
    subst he
    refine ev_succ ?_
    simp only [spec_l03Show.j0]
    refine ev_bind (ev_of 1 fun k hk => partsS _ _ _ _ _ _ hk) ?_
    have := showS_l0 ts hts _ (partsL_len op A B C) hp (hdL op W K B) (hdL_len op W K B) (partsL op A B C).length 0 (by omega)
    rw [List.take_zero, List.drop_zero] at this
    unfold txtN
    rw [if_neg h01]
    simpa [ptsL, wholeL] using this
  unfold spec_l03Show.f
  by_cases o0 : op = 0
  · have hK := decS K (hn.k0 (.inl o0)).1 (by have := (hn.k0 (.inl o0)).2; omega)
    refine ev_pos o0 (ev_bind hW (ev_pos (by rw [mkB_size]; omega) (ev_pos (by rw [show (⟨#[35]⟩ : ByteArray) = mkB [35] from rfl, mkB_app, mkB_size]; simp; omega) (ev_bind hK (ev_pos ?_ (ev_eq ?_))))))
    · rw [show (⟨#[35]⟩ : ByteArray) = mkB [35] from rfl, show (⟨#[58]⟩ : ByteArray) = mkB [58] from rfl, mkB_app, mkB_app, mkB_size, mkB_size]; simp; omega
    · rw [show (⟨#[35]⟩ : ByteArray) = mkB [35] from rfl, show (⟨#[58]⟩ : ByteArray) = mkB [58] from rfl, mkB_app, mkB_app, mkB_app]
      unfold txtN leafL; rw [if_pos (.inl o0), if_pos o0]
  refine ev_neg o0 ?_
  by_cases o1 : op = 1
  · have hK := decS K (hn.k0 (.inr (.inl o1))).1 (by have := (hn.k0 (.inr (.inl o1))).2; omega)
    refine ev_pos o1 (ev_bind hK (ev_pos (by rw [mkB_size]; omega) (ev_pos (by rw [show (⟨#[118]⟩ : ByteArray) = mkB [118] from rfl, mkB_app, mkB_size]; simp; omega) (ev_bind hW (ev_pos ?_ (ev_eq ?_))))))
    · rw [show (⟨#[118]⟩ : ByteArray) = mkB [118] from rfl, show (⟨#[58]⟩ : ByteArray) = mkB [58] from rfl, mkB_app, mkB_app, mkB_size, mkB_size]; simp; omega
    · rw [show (⟨#[118]⟩ : ByteArray) = mkB [118] from rfl, show (⟨#[58]⟩ : ByteArray) = mkB [58] from rfl, mkB_app, mkB_app, mkB_app]
      unfold txtN leafL; rw [if_pos (.inr o1), if_neg o0]
  refine ev_neg o1 ?_
  have h01 : ¬ (op = 0 ∨ op = 1) := by omega
  by_cases o2 : op = 2
  · exact ev_pos o2 (join _ (by unfold hdL; rw [if_pos o2]) h01)
  refine ev_neg o2 ?_
  by_cases o17 : op = 17
  · have hK := decS K (hn.k0 (.inr (.inr (.inl o17)))).1 (by have := (hn.k0 (.inr (.inr (.inl o17)))).2; omega)
    refine ev_pos o17 (ev_bind hK (ev_pos (by rw [mkB_size]; omega) (ev_pos (by rw [show (⟨#[115, 108, 105, 99, 101, 32]⟩ : ByteArray) = mkB [115, 108, 105, 99, 101, 32] from rfl, mkB_app, mkB_size]; simp; omega) (ev_bind hW (ev_pos ?_ ?_)))))
    · rw [show (⟨#[115, 108, 105, 99, 101, 32]⟩ : ByteArray) = mkB [115, 108, 105, 99, 101, 32] from rfl, show (⟨#[32]⟩ : ByteArray) = mkB [32] from rfl, mkB_app, mkB_app, mkB_size, mkB_size]; simp; omega
    · rw [show (⟨#[115, 108, 105, 99, 101, 32]⟩ : ByteArray) = mkB [115, 108, 105, 99, 101, 32] from rfl, show (⟨#[32]⟩ : ByteArray) = mkB [32] from rfl, mkB_app, mkB_app, mkB_app]
      exact join _ (by unfold hdL; rw [if_neg o2, if_pos o17]) h01
  refine ev_neg o17 ?_
  by_cases o18 : op = 18
  · exact ev_pos o18 (join _ (by unfold hdL; rw [if_neg o2, if_neg o17, if_pos o18]) h01)
  refine ev_neg o18 ?_
  by_cases o19 : op = 19
  · have hK := decS K (hn.k0 (.inr (.inr (.inr (.inl o19))))).1 (by have := (hn.k0 (.inr (.inr (.inr (.inl o19))))).2; omega)
    have hB := decS B (hn.b0 (.inl o19)).1 (by have := (hn.b0 (.inl o19)).2; omega)
    refine ev_pos o19 (ev_bind hK (ev_pos (by rw [mkB_size]; omega) (ev_pos (by rw [show (⟨#[97, 108, 108, 32, 118]⟩ : ByteArray) = mkB [97, 108, 108, 32, 118] from rfl, mkB_app, mkB_size]; simp; omega) (ev_bind hB (ev_pos ?_ ?_)))))
    · rw [show (⟨#[97, 108, 108, 32, 118]⟩ : ByteArray) = mkB [97, 108, 108, 32, 118] from rfl, show (⟨#[58]⟩ : ByteArray) = mkB [58] from rfl, mkB_app, mkB_app, mkB_size, mkB_size]; simp; omega
    · rw [show (⟨#[97, 108, 108, 32, 118]⟩ : ByteArray) = mkB [97, 108, 108, 32, 118] from rfl, show (⟨#[58]⟩ : ByteArray) = mkB [58] from rfl, mkB_app, mkB_app, mkB_app]
      exact join _ (by unfold hdL; rw [if_neg o2, if_neg o17, if_neg o18, if_pos o19]) h01
  refine ev_neg o19 ?_
  by_cases o20 : op = 20
  · have hK := decS K (hn.k0 (.inr (.inr (.inr (.inr o20))))).1 (by have := (hn.k0 (.inr (.inr (.inr (.inr o20))))).2; omega)
    have hB := decS B (hn.b0 (.inr o20)).1 (by have := (hn.b0 (.inr o20)).2; omega)
    refine ev_pos o20 (ev_bind hK (ev_pos (by rw [mkB_size]; omega) (ev_pos (by rw [show (⟨#[115, 111, 109, 101, 32, 118]⟩ : ByteArray) = mkB [115, 111, 109, 101, 32, 118] from rfl, mkB_app, mkB_size]; simp; omega) (ev_bind hB (ev_pos ?_ ?_)))))
    · rw [show (⟨#[115, 111, 109, 101, 32, 118]⟩ : ByteArray) = mkB [115, 111, 109, 101, 32, 118] from rfl, show (⟨#[58]⟩ : ByteArray) = mkB [58] from rfl, mkB_app, mkB_app, mkB_size, mkB_size]; simp; omega
    · rw [show (⟨#[115, 111, 109, 101, 32, 118]⟩ : ByteArray) = mkB [115, 111, 109, 101, 32, 118] from rfl, show (⟨#[58]⟩ : ByteArray) = mkB [58] from rfl, mkB_app, mkB_app, mkB_app]
      exact join _ (by unfold hdL; rw [if_neg o2, if_neg o17, if_neg o18, if_neg o19, if_pos o20]) h01
  refine ev_neg o20 ?_
  have hop := hn.op0; have hop1 := hn.op1
  have e3 : wrap64 (op - 3) = op - 3 := wrap_id (by omega) (by omega)
  refine ev_bind0 (show spec_l03Words.f = some (wordsL.map mkB) from rfl) ?_
  rw [e3]
  refine ev_pos (by omega) (ev_pos (by simp [wordsL]; omega) ?_)
  have hrd := rdB8 wordsL (op - 3) (by omega) (by simp [wordsL]; omega) []
  rw [List.append_nil] at hrd
  rw [hrd]
  exact join _ (by unfold hdL; rw [if_neg o2, if_neg o17, if_neg o18, if_neg o19, if_neg o20]) h01
theorem headI (op W K A B C : Int) (hn : NumOk op W K A B C) : Ev (fun k => impl_head.f k op W K A B C) (mkB (if op = 0 ∨ op = 1 then leafL op W K else 40 :: hdL op W K B)) := by
  have hW := decI W (by have := hn.w0; omega) (by have := hn.w1; omega)
  have lW := decL_len W; have lK := decL_len K; have lB := decL_len B
  unfold impl_head.f
  by_cases o0 : op = 0
  · have hK := decI K (hn.k0 (.inl o0)).1 (by have := (hn.k0 (.inl o0)).2; omega)
    refine ev_pos o0 (ev_bind hW (ev_pos (by rw [mkB_size]; omega) (ev_pos (by rw [show (⟨#[35]⟩ : ByteArray) = mkB [35] from rfl, mkB_app, mkB_size]; simp; omega) (ev_bind hK (ev_pos ?_ (ev_eq ?_))))))
    · rw [show (⟨#[35]⟩ : ByteArray) = mkB [35] from rfl, show (⟨#[58]⟩ : ByteArray) = mkB [58] from rfl, mkB_app, mkB_app, mkB_size, mkB_size]; simp; omega
    · rw [show (⟨#[35]⟩ : ByteArray) = mkB [35] from rfl, show (⟨#[58]⟩ : ByteArray) = mkB [58] from rfl, mkB_app, mkB_app, mkB_app]
      unfold leafL; rw [if_pos (.inl o0), if_pos o0]
  refine ev_neg o0 ?_
  by_cases o1 : op = 1
  · have hK := decI K (hn.k0 (.inr (.inl o1))).1 (by have := (hn.k0 (.inr (.inl o1))).2; omega)
    refine ev_pos o1 (ev_bind hK (ev_pos (by rw [mkB_size]; omega) (ev_pos (by rw [show (⟨#[118]⟩ : ByteArray) = mkB [118] from rfl, mkB_app, mkB_size]; simp; omega) (ev_bind hW (ev_pos ?_ (ev_eq ?_))))))
    · rw [show (⟨#[118]⟩ : ByteArray) = mkB [118] from rfl, show (⟨#[58]⟩ : ByteArray) = mkB [58] from rfl, mkB_app, mkB_app, mkB_size, mkB_size]; simp; omega
    · rw [show (⟨#[118]⟩ : ByteArray) = mkB [118] from rfl, show (⟨#[58]⟩ : ByteArray) = mkB [58] from rfl, mkB_app, mkB_app, mkB_app]
      unfold leafL; rw [if_pos (.inr o1), if_neg o0]
  refine ev_neg o1 ?_
  rw [if_neg (show ¬ (op = 0 ∨ op = 1) by omega)]
  by_cases o2 : op = 2
  · exact ev_pos o2 (ev_eq (by unfold hdL; rw [if_pos o2]; rfl))
  refine ev_neg o2 ?_
  by_cases o17 : op = 17
  · have hK := decI K (hn.k0 (.inr (.inr (.inl o17)))).1 (by have := (hn.k0 (.inr (.inr (.inl o17)))).2; omega)
    refine ev_pos o17 (ev_bind hK (ev_pos (by rw [mkB_size]; omega) (ev_pos (by rw [show (⟨#[40, 115, 108, 105, 99, 101, 32]⟩ : ByteArray) = mkB [40, 115, 108, 105, 99, 101, 32] from rfl, mkB_app, mkB_size]; simp; omega) (ev_bind hW (ev_pos ?_ (ev_eq ?_))))))
    · rw [show (⟨#[40, 115, 108, 105, 99, 101, 32]⟩ : ByteArray) = mkB [40, 115, 108, 105, 99, 101, 32] from rfl, show (⟨#[32]⟩ : ByteArray) = mkB [32] from rfl, mkB_app, mkB_app, mkB_size, mkB_size]; simp; omega
    · rw [show (⟨#[40, 115, 108, 105, 99, 101, 32]⟩ : ByteArray) = mkB [40, 115, 108, 105, 99, 101, 32] from rfl, show (⟨#[32]⟩ : ByteArray) = mkB [32] from rfl, mkB_app, mkB_app, mkB_app]
      unfold hdL; rw [if_neg o2, if_pos o17]; rfl
  refine ev_neg o17 ?_
  by_cases o18 : op = 18
  · exact ev_pos o18 (ev_eq (by unfold hdL; rw [if_neg o2, if_neg o17, if_pos o18]; rfl))
  refine ev_neg o18 ?_
  by_cases o19 : op = 19
  · have hK := decI K (hn.k0 (.inr (.inr (.inr (.inl o19))))).1 (by have := (hn.k0 (.inr (.inr (.inr (.inl o19))))).2; omega)
    have hB := decI B (hn.b0 (.inl o19)).1 (by have := (hn.b0 (.inl o19)).2; omega)
    refine ev_pos o19 (ev_bind hK (ev_pos (by rw [mkB_size]; omega) (ev_pos (by rw [show (⟨#[40, 97, 108, 108, 32, 118]⟩ : ByteArray) = mkB [40, 97, 108, 108, 32, 118] from rfl, mkB_app, mkB_size]; simp; omega) (ev_bind hB (ev_pos ?_ (ev_eq ?_))))))
    · rw [show (⟨#[40, 97, 108, 108, 32, 118]⟩ : ByteArray) = mkB [40, 97, 108, 108, 32, 118] from rfl, show (⟨#[58]⟩ : ByteArray) = mkB [58] from rfl, mkB_app, mkB_app, mkB_size, mkB_size]; simp; omega
    · rw [show (⟨#[40, 97, 108, 108, 32, 118]⟩ : ByteArray) = mkB [40, 97, 108, 108, 32, 118] from rfl, show (⟨#[58]⟩ : ByteArray) = mkB [58] from rfl, mkB_app, mkB_app, mkB_app]
      unfold hdL; rw [if_neg o2, if_neg o17, if_neg o18, if_pos o19]; rfl
  refine ev_neg o19 ?_
  by_cases o20 : op = 20
  · have hK := decI K (hn.k0 (.inr (.inr (.inr (.inr o20))))).1 (by have := (hn.k0 (.inr (.inr (.inr (.inr o20))))).2; omega)
    have hB := decI B (hn.b0 (.inr o20)).1 (by have := (hn.b0 (.inr o20)).2; omega)
    refine ev_pos o20 (ev_bind hK (ev_pos (by rw [mkB_size]; omega) (ev_pos (by rw [show (⟨#[40, 115, 111, 109, 101, 32, 118]⟩ : ByteArray) = mkB [40, 115, 111, 109, 101, 32, 118] from rfl, mkB_app, mkB_size]; simp; omega) (ev_bind hB (ev_pos ?_ (ev_eq ?_))))))
    · rw [show (⟨#[40, 115, 111, 109, 101, 32, 118]⟩ : ByteArray) = mkB [40, 115, 111, 109, 101, 32, 118] from rfl, show (⟨#[58]⟩ : ByteArray) = mkB [58] from rfl, mkB_app, mkB_app, mkB_size, mkB_size]; simp; omega
    · rw [show (⟨#[40, 115, 111, 109, 101, 32, 118]⟩ : ByteArray) = mkB [40, 115, 111, 109, 101, 32, 118] from rfl, show (⟨#[58]⟩ : ByteArray) = mkB [58] from rfl, mkB_app, mkB_app, mkB_app]
      unfold hdL; rw [if_neg o2, if_neg o17, if_neg o18, if_neg o19, if_pos o20]; rfl
  refine ev_neg o20 ?_
  have hop := hn.op0; have hop1 := hn.op1
  have e3 : wrap64 (op - 3) = op - 3 := wrap_id (by omega) (by omega)
  have hlen := wordsL_len (op - 3).toNat
  refine ev_bind (a := mkB (wordsL.getD (op - 3).toNat [])) ?_ (ev_pos (by rw [mkB_size]; omega) (ev_eq ?_))
  · unfold impl_opWord.f
    refine ev_bind0 (a := wordsL.map mkB) rfl (ev_bind0 (inI _ _ _) (ev_pos (by simp; omega) ?_))
    rw [e3]
    refine ev_pos (by omega) (ev_pos (by simp [wordsL]; omega) (ev_eq ?_))
    have hrd := rdB8 wordsL (op - 3) (by omega) (by simp [wordsL]; omega) []
    rwa [List.append_nil] at hrd
  · rw [show (⟨#[40]⟩ : ByteArray) = mkB [40] from rfl, mkB_app]
    unfold hdL; rw [if_neg o2, if_neg o17, if_neg o18, if_neg o19, if_neg o20]; rfl
/-- The reference's texts. -/
theorem showS_from (l : List S31) (hl : l.length ≤ 80) (hN : NodesOk l) (d : Nat) : ∀ i : Nat, i + d = l.length → 1 ≤ l.length →
    Ev (fun k => spec_ShowTerm.l0 k l ((textsL l i).map mkB) (i : Int)) (mkB ((textsL l l.length).getD (l.length - 1) []), ((textsL l l.length).getD (l.length - 1) [] != [])) := by
  induction d with
  | zero =>
    intro i hi h0
    obtain rfl : i = l.length := by omega
    refine ev_succ ?_
    simp only [spec_ShowTerm.l0]
    rw [wrap_id (x := (l.length : Int) - 1) (by omega) (by omega)]
    have hrd := rdB8 (textsL l l.length) ((l.length : Int) - 1) (by omega) (by rw [textsL_len]; omega) []
    rw [List.append_nil, show ((l.length : Int) - 1).toNat = l.length - 1 by omega] at hrd
    rw [hrd, mkB_toList]
    exact ev_neg (by omega) (ev_pos (by omega) (ev_pos (by rw [List.length_map, textsL_len]; omega) ev_now))
  | succ d ih =>
    intro i hi h0
    have hlt : i < l.length := by omega
    have hn := num_ok hN i hlt
    have hp : ∀ p ∈ pl l i, 0 ≤ p ∧ p < ((textsL l i).length : Int) := by rw [textsL_len]; exact parts_in hN i hlt
    have hs := showS (textsL l i) (textsL_le l i) _ _ _ _ _ _ hn hp
    refine ev_succ ?_
    simp only [spec_ShowTerm.l0]
    refine ev_pos (by omega) (ev_pos (by omega) (ev_bind hs (ev_pos (by rw [List.length_map, textsL_len]; omega) ?_)))
    rw [wrap_id (by omega) (by omega), show ((i : Int) + 1) = ((i + 1 : Nat) : Int) by omega]
    have := ih (i + 1) (by omega) h0
    simpa [textsL, List.map_append] using this
/-- Whether a text stands, for each. -/
def fitsL (ts : List (List UInt8)) : List Bool := ts.map fun t => t != []
theorem map_set_next (ts : List (List UInt8)) (n : Nat) (t : List UInt8) (h : ts.length < n) :
    (ts.map mkB ++ List.replicate (n - ts.length) (mkB [])).set ts.length (mkB t) = (ts ++ [t]).map mkB ++ List.replicate (n - (ts.length + 1)) (mkB []) := by
  rw [List.set_append_right _ _ (by simp), List.length_map, Nat.sub_self, show n - ts.length = (n - (ts.length + 1)) + 1 by omega, List.replicate_succ]
  simp
theorem map_keep_next (ts : List (List UInt8)) (n : Nat) (h : ts.length < n) :
    ts.map mkB ++ List.replicate (n - ts.length) (mkB []) = (ts ++ [[]]).map mkB ++ List.replicate (n - (ts.length + 1)) (mkB []) := by
  rw [show n - ts.length = (n - (ts.length + 1)) + 1 by omega, List.replicate_succ]
  simp
theorem fit_set (ts : List (List UInt8)) (n : Nat) (b : Bool) (x : Bool) (rest : List Bool) : (fitsL ts ++ x :: rest).set ts.length b = fitsL ts ++ b :: rest := by
  rw [List.set_append_right _ _ (by simp [fitsL])]; simp [fitsL]
theorem fit_get (ts : List (List UInt8)) (b : Bool) (rest : List Bool) (i : Int) (hi : i = ts.length) : rdOf false (fitsL ts ++ b :: rest) i = b := by
  subst hi
  unfold rdOf
  rw [Int.toNat_natCast, List.getD_eq_getElem?_getD, List.getElem?_append_right (by simp [fitsL])]; simp [fitsL]
theorem fit_get_part (ts : List (List UInt8)) (rest : List Bool) (p : Int) (h0 : 0 ≤ p) (h1 : p < (ts.length : Int)) : rdOf false (fitsL ts ++ rest) p = (ts.getD p.toNat [] != []) := by
  have hlt : p.toNat < ts.length := by omega
  unfold rdOf
  rw [List.getD_eq_getElem?_getD, List.getElem?_append_left (by simpa [fitsL] using hlt), List.getD_eq_getElem?_getD, List.getElem?_eq_getElem hlt]
  simp [fitsL, hlt]
theorem showI_l1 (l : List S31) (hl : l.length ≤ 80) (i : Nat) (hi : i < l.length) (ts : List (List UInt8)) (hts : ∀ t ∈ ts, t.length ≤ 4000) (hlen : ts.length = i) (hd : List UInt8) (hh1 : 1 ≤ hd.length) (hh2 : hd.length ≤ 21) (op W K A B C : Int) (ps : List Int) (hps : partsL op A B C = ps)
    (hp : ∀ p ∈ ps, 0 ≤ p ∧ p < (i : Int)) (rest : List Bool) (R : ByteArray × Bool) (T : List UInt8)
    (hT : T = if (ps.all fun p => ts.getD p.toNat [] != []) = true ∧ (hd ++ ptsL ts ps ++ (if 0 < ps.length then [41] else [])).length ≤ 4000 then hd ++ ptsL ts ps ++ (if 0 < ps.length then [41] else []) else [])
    (hnext : Ev (fun k => impl_ShowTerm.l0 k l ((ts ++ [T]).map mkB ++ List.replicate (l.length - (i + 1)) (mkB [])) (fitsL (ts ++ [T]) ++ rest) l (l.length : Int) ((i + 1 : Nat) : Int)) R) (d : Nat) : ∀ t : Nat, t + d = ps.length →
    Ev (fun k => impl_ShowTerm.l1 k l (ts.map mkB ++ List.replicate (l.length - i) (mkB [])) (fitsL ts ++ ((ps.take t).all fun p => ts.getD p.toNat [] != []) :: rest) (i : Int) (mkB (hd ++ ptsL ts (ps.take t))) l (l.length : Int) (i : Int) ps (ps.length : Int) (t : Int) op W K A B C) R := by
  have hps3 : ps.length ≤ 3 := by rw [← hps]; exact partsL_len _ _ _ _
  have hle : ∀ t, (ptsL ts (ps.take t)).length ≤ 12003 := by
    intro t
    have := ptsL_le ts hts (ps.take t)
    rw [List.length_take] at this
    omega
  have hfl : (fitsL ts).length = i := by simp [fitsL, hlen]
  have hx4 : (ts.map mkB ++ List.replicate (l.length - i) (mkB [])).length = l.length := by simp [hlen]; omega
  induction d with
  | zero =>
    intro t ht
    have h1 := hle t
    rw [List.take_of_length_le (by omega)] at h1 ⊢
    have hT' : T = if (ps.all fun p => ts.getD p.toNat [] != []) = true ∧ (hd ++ ptsL ts ps ++ (if 0 < ps.length then [41] else [])).length ≤ 4000 then hd ++ ptsL ts ps ++ (if 0 < ps.length then [41] else []) else [] := hT
    clear hT
    generalize (ps.all fun p => ts.getD p.toNat [] != []) = b at hT' ⊢
    have fin : ∀ s' : List UInt8, hd ++ ptsL ts ps ++ (if 0 < ps.length then [41] else []) = s' → Ev (fun k => if 0 ≤ (i : Int) then (if (i : Int) < ((fitsL ts ++ b :: rest).length : Int) then (if rdOf false (fitsL ts ++ b :: rest) (i : Int) = true then ((some ((fitsL ts ++ b :: rest).set ((i : Int) : Int).toNat (decide (((mkB s').size : Int) ≤ 4000)) : List Bool)).bind fun y => (if rdOf false y (i : Int) = true then (if (i : Int) < ((ts.map mkB ++ List.replicate (l.length - i) (mkB [])).length : Int) then (impl_ShowTerm.l0 k l ((ts.map mkB ++ List.replicate (l.length - i) (mkB [])).set ((i : Int) : Int).toNat (mkB s')) y l (l.length : Int) (wrap64 ((i : Int) + 1))) else (none)) else (impl_ShowTerm.l0 k l (ts.map mkB ++ List.replicate (l.length - i) (mkB [])) y l (l.length : Int) (wrap64 ((i : Int) + 1)))))
        else ((some ((fitsL ts ++ b :: rest).set ((i : Int) : Int).toNat false : List Bool)).bind fun y => (if rdOf false y (i : Int) = true then (if (i : Int) < ((ts.map mkB ++ List.replicate (l.length - i) (mkB [])).length : Int) then (impl_ShowTerm.l0 k l ((ts.map mkB ++ List.replicate (l.length - i) (mkB [])).set ((i : Int) : Int).toNat (mkB s')) y l (l.length : Int) (wrap64 ((i : Int) + 1))) else (none)) else (impl_ShowTerm.l0 k l (ts.map mkB ++ List.replicate (l.length - i) (mkB [])) y l (l.length : Int) (wrap64 ((i : Int) + 1)))))) else (none)) else (none)) R := by
      intro s' hs'
      rw [hs'] at hT'
      have hs1 : s' ≠ [] := by rw [← hs']; intro h; have := congrArg List.length h; rw [List.length_append, List.length_append] at this; simp only [List.length_nil] at this; omega
      have hset := fit_set ts l.length (decide (((mkB s').size : Int) ≤ 4000)) b rest
      have hset0 := fit_set ts l.length false b rest
      rw [hlen] at hset hset0
      rw [Int.toNat_natCast, hset, hset0, wrap_id (by omega) (by omega), show ((i : Int) + 1) = ((i + 1 : Nat) : Int) by omega]
      refine ev_pos (by omega) (ev_pos (by rw [List.length_append, hfl]; simp; omega) ?_)
      rw [fit_get ts b rest i (by omega)]
      have keep := map_keep_next ts l.length (by omega)
      have sett := map_set_next ts l.length s' (by omega)
      rw [hlen] at keep sett
      cases hb : b with
      | true =>
        subst hb
        refine ev_pos rfl (ev_bind0 rfl ?_)
        rw [fit_get ts _ rest i (by omega)]
        by_cases hc : s'.length ≤ 4000
        · rw [if_pos ⟨rfl, hc⟩] at hT'
          rw [hT'] at hnext
          have hd4 : decide (((mkB s').size : Int) ≤ 4000) = true := decide_eq_true (by rw [mkB_size]; omega)
          rw [hd4]
          refine ev_pos rfl (ev_pos (by rw [hx4]; omega) ?_)
          rw [sett]
          have e : fitsL (ts ++ [s']) ++ rest = fitsL ts ++ true :: rest := by simp [fitsL, hs1]
          rw [e] at hnext; exact hnext
        · rw [if_neg (fun h => hc h.2)] at hT'
          rw [hT'] at hnext
          have hd4 : decide (((mkB s').size : Int) ≤ 4000) = false := decide_eq_false (by rw [mkB_size]; omega)
          rw [hd4]
          refine ev_neg (by simp) ?_
          rw [keep]
          have e : fitsL (ts ++ [[]]) ++ rest = fitsL ts ++ false :: rest := by simp [fitsL]
          rw [e] at hnext; exact hnext
      | false =>
        subst hb
        rw [if_neg (fun h => by simp at h)] at hT'
        rw [hT'] at hnext
        refine ev_neg (by simp) (ev_bind0 rfl ?_)
        rw [fit_get ts _ rest i (by omega)]
        refine ev_neg (by simp) ?_
        rw [keep]
        have e : fitsL (ts ++ [[]]) ++ rest = fitsL ts ++ false :: rest := by simp [fitsL]
        rw [e] at hnext; exact hnext
    refine ev_succ ?_
    simp only [impl_ShowTerm.l1]
    refine ev_neg (by omega) (ev_bind (ev_of 1 fun k hk => partsI _ _ _ _ _ _ hk) ?_)
    rw [hps]
    by_cases h0 : (ps.length : Int) > 0
    · refine ev_pos h0 (ev_pos (by rw [mkB_size, List.length_append]; omega) ?_)
      rw [show (⟨#[41]⟩ : ByteArray) = mkB [41] from rfl, mkB_app]
      exact fin _ (by rw [if_pos (by omega)])
    · exact ev_neg h0 (fin _ (by rw [if_neg (by omega), List.append_nil]))
  | succ d ih =>
    intro t ht
    have hlt : t < ps.length := by omega
    have hq := hp _ (List.getElem_mem hlt)
    have hr : rd ps (t : Int) = ps[t] := rdI ps t hlt
    have h1 := hle t
    refine ev_succ ?_
    simp only [impl_ShowTerm.l1]
    have hrd := rdB8 ts (rd ps (t : Int)) (by rw [hr]; exact hq.1) (by rw [hr]; omega) (List.replicate (l.length - i) (mkB []))
    have hlast := getD_le ts hts (rd ps (t : Int)).toNat
    have hset := fun b => fit_set ts l.length b ((ps.take t).all fun p => ts.getD p.toNat [] != []) rest
    rw [hlen] at hset
    rw [hrd, show (⟨#[32]⟩ : ByteArray) = mkB [32] from rfl, mkB_app, mkB_app, mkB_size, mkB_size, mkB_size, Int.toNat_natCast, hset, hset, fit_get ts _ rest i (by omega), fit_get_part ts _ (rd ps (t : Int)) (by rw [hr]; exact hq.1) (by rw [hr]; omega)]
    have hx5 : ((fitsL ts ++ ((ps.take t).all fun p => ts.getD p.toNat [] != []) :: rest).length : Int) = i + 1 + rest.length := by rw [List.length_append, hfl]; simp; omega
    refine ev_pos (by omega) (ev_pos (by omega) (ev_pos (by omega) (ev_pos (by simp only [List.length_append]; omega) (ev_pos (by rw [hr]; exact hq.1) (ev_pos (by rw [hr, hx4]; omega) (ev_pos (by simp only [List.length_append, List.length_cons, List.length_nil]; omega) (ev_pos (by omega) (ev_pos (by rw [hx5]; omega) ?_))))))))
    rw [wrap_id (by omega) (by omega), show ((t : Int) + 1) = ((t + 1 : Nat) : Int) by omega, List.append_assoc, List.append_assoc, ← ptsL_snoc ts ps t hlt]
    have := ih (t + 1) (by omega)
    rw [List.take_succ_eq_append_getElem hlt, List.all_append, ← hr] at this
    by_cases hb : ((ps.take t).all fun p => ts.getD p.toNat [] != []) = true
    · refine ev_pos hb (ev_pos (by rw [hx5, hr]; omega) ?_)
      rw [hb] at this
      simpa [← List.take_succ_eq_append_getElem hlt, hr] using this
    · refine ev_neg hb ?_
      have hb' : ((ps.take t).all fun p => ts.getD p.toNat [] != []) = false := by simpa using hb
      rw [hb'] at this
      simpa [← List.take_succ_eq_append_getElem hlt, hr] using this
theorem showI_from (l : List S31) (hl : l.length ≤ 80) (hN : NodesOk l) (h0 : 1 ≤ l.length) (d : Nat) : ∀ i : Nat, i + d = l.length →
    Ev (fun k => impl_ShowTerm.l0 k l ((textsL l i).map mkB ++ List.replicate (l.length - i) (mkB [])) (fitsL (textsL l i) ++ List.replicate (l.length - i) false) l (l.length : Int) (i : Int)) (mkB ((textsL l l.length).getD (l.length - 1) []), ((textsL l l.length).getD (l.length - 1) [] != [])) := by
  induction d with
  | zero =>
    intro i hi
    obtain rfl : i = l.length := by omega
    refine ev_succ ?_
    simp only [impl_ShowTerm.l0]
    rw [wrap_id (x := (l.length : Int) - 1) (by omega) (by omega)]
    have hrd := rdB8 (textsL l l.length) ((l.length : Int) - 1) (by omega) (by rw [textsL_len]; omega) (List.replicate (l.length - l.length) (mkB []))
    rw [show ((l.length : Int) - 1).toNat = l.length - 1 by omega] at hrd
    have hrf := fit_get_part (textsL l l.length) (List.replicate (l.length - l.length) false) ((l.length : Int) - 1) (by omega) (by rw [textsL_len]; omega)
    rw [show ((l.length : Int) - 1).toNat = l.length - 1 by omega] at hrf
    rw [hrd, hrf]
    exact ev_neg (by omega) (ev_pos (by omega) (ev_pos (by simp [textsL_len]; omega) (ev_pos (by simp [textsL_len, fitsL]; omega) ev_now)))
  | succ d ih =>
    intro i hi
    have hlt : i < l.length := by omega
    have hn := num_ok hN i hlt
    have hp : ∀ p ∈ pl l i, 0 ≤ p ∧ p < (i : Int) := parts_in hN i hlt
    have hh := headI _ _ _ _ _ _ hn
    have hsp : List.replicate (l.length - i) false = false :: List.replicate (l.length - (i + 1)) false := by rw [show l.length - i = (l.length - (i + 1)) + 1 by omega, List.replicate_succ]
    have hset := fit_set (textsL l i) l.length true false (List.replicate (l.length - (i + 1)) false)
    rw [textsL_len] at hset
    refine ev_succ ?_
    simp only [impl_ShowTerm.l0]
    rw [hsp, Int.toNat_natCast, hset]
    refine ev_pos (by omega) (ev_pos (by omega) (ev_pos (by omega) (ev_bind hh (ev_pos (by simp [textsL_len, fitsL]; omega) (ev_bind (ev_of 1 fun k hk => partsI _ _ _ _ _ _ hk) ?_)))))
    have hnext := ih (i + 1) (by omega)
    have key := showI_l1 l hl i hlt (textsL l i) (textsL_le l i) (textsL_len l i) (if (rd_T31 l (i : Int)).f0 = 0 ∨ (rd_T31 l (i : Int)).f0 = 1 then leafL (rd_T31 l (i : Int)).f0 (rd_T31 l (i : Int)).f1 (rd_T31 l (i : Int)).f2 else 40 :: hdL (rd_T31 l (i : Int)).f0 (rd_T31 l (i : Int)).f1 (rd_T31 l (i : Int)).f2 (rd_T31 l (i : Int)).f4)
      (by split; exact Nat.le_trans (by omega) (leafL_len _ _ _).1; simp) (by split; exact Nat.le_trans (leafL_len _ _ _).2 (by omega); have := hdL_len (rd_T31 l (i : Int)).f0 (rd_T31 l (i : Int)).f1 (rd_T31 l (i : Int)).f2 (rd_T31 l (i : Int)).f4; simp; omega)
      (rd_T31 l (i : Int)).f0 (rd_T31 l (i : Int)).f1 (rd_T31 l (i : Int)).f2 (rd_T31 l (i : Int)).f3 (rd_T31 l (i : Int)).f4 (rd_T31 l (i : Int)).f5 (pl l i) rfl hp (List.replicate (l.length - (i + 1)) false) _ _ ?_ hnext (pl l i).length 0 (by omega)
    · rw [List.take_zero] at key
      simp only [ptsL, List.flatMap_nil, List.append_nil, List.all_nil] at key
      exact key
    · have hop := hn.op0; have hop1 := hn.op1
      unfold txtN
      by_cases h01 : (rd_T31 l (i : Int)).f0 = 0 ∨ (rd_T31 l (i : Int)).f0 = 1
      · have hpl : pl l i = [] := by unfold pl partsL; rw [if_neg (by omega), if_neg (by omega), if_neg (by omega)]
        have := leafL_len (rd_T31 l (i : Int)).f0 (rd_T31 l (i : Int)).f1 (rd_T31 l (i : Int)).f2
        rw [if_pos h01, if_pos h01, hpl]
        simp only [ptsL, List.flatMap_nil, List.length_nil, List.append_nil, List.all_nil, Nat.lt_irrefl, if_false, true_and]
        rw [if_pos (by omega)]
      · have hpl : 0 < (pl l i).length := by
          unfold pl partsL
          split
          · simp
          · split
            · simp
            · rw [if_pos (by omega)]; simp
        rw [if_neg h01, if_neg h01, if_pos hpl]
        rfl
theorem ShowTerm_ev (l : List S31) : ∃ r : ByteArray × Bool, Ev (fun k => spec_ShowTerm.f k l) r ∧ Ev (fun k => impl_ShowTerm.f k l) r := by
  obtain ⟨b, e1, e2, h⟩ := term_ev l
  unfold spec_ShowTerm.f impl_ShowTerm.f
  by_cases hb : b = true
  · obtain ⟨h1, h2, h3⟩ := h.mp hb
    refine ⟨(mkB ((textsL l l.length).getD (l.length - 1) []), ((textsL l l.length).getD (l.length - 1) [] != [])), ev_bind e1 (ev_pos hb ?_), ev_bind e2 (ev_pos hb (ev_pos (by omega) (ev_pos (by simp; omega) (ev_pos (by simp; omega) ?_))))⟩
    · exact showS_from l h2 h3 l.length 0 (by omega) h1
    · have := showI_from l h2 h3 h1 l.length 0 (by omega)
      simp only [textsL, fitsL, List.map_nil, List.nil_append, Nat.sub_zero] at this
      exact this
  · exact ⟨(mkB [], false), ev_bind e1 (ev_neg hb ev_now), ev_bind e2 (ev_neg hb ev_now)⟩

end Go.Proofs.Ytkpipmojkhikaaa.Pure.ExactSameW
namespace Go.Proofs.Ytkpipmojkhikaaa.Pure
open Go.RowKit Go.Proofs.Ytkpipmojkhikaaa.PAll Go.Proofs.YtkpipmojkhikaaaW.PrintWords Go.Proofs.YtkpipmojkhikaaaW.PrintLast Go.Proofs.YtkpipmojkhikaaaW.PrintMore Go.Proofs.Ytkpipmojkhikaaa.Base Go.Proofs.Ytkpipmojkhikaaa.Pure.ExactSameW

theorem Same_ev (a b : List S31) : ∃ r : Bool, Ev (fun k => spec_Same.f k a b) r ∧ Ev (fun k => impl_Same.f k a b) r := by
  obtain ⟨r, e1, e2⟩ := ShowTerm_ev a
  obtain ⟨s, f1, f2⟩ := ShowTerm_ev b
  have fin : ∃ t : Bool, Ev (fun _ => if r.2 = true then (if s.2 = true then (some (r.1.toList == s.1.toList)) else (some false)) else (some false)) t := by
    by_cases h : r.2 = true
    · by_cases g : s.2 = true
      · exact ⟨_, ev_pos h (ev_pos g ev_now)⟩
      · exact ⟨_, ev_pos h (ev_neg g ev_now)⟩
    · exact ⟨_, ev_neg h ev_now⟩
  obtain ⟨t, ht⟩ := fin
  unfold spec_Same.f impl_Same.f
  exact ⟨t, ev_bind e1 (ev_bind f1 ht), ev_bind e2 (ev_bind f2 ht)⟩
theorem FnExactSame : laws_FnExactSame.Pure := by
  intro l m h0 h1 h2 g0 g1 g2
  refine Ev.rounds ?_
  unfold laws_FnExactSame.f
  refine ev_bind0 (szNode l h0) ?_
  by_cases hb : (l.length : Int) > 1048576
  · rw [if_pos hb]; exact ev_pos (by omega) ev_now
  · rw [if_neg hb]
    refine ev_neg (by omega) (ev_bind0 (szNode_left m g0 _ (by omega) (by omega)) ?_)
    by_cases hc : (m.length : Int) > 1048576 - (l.length : Int)
    · rw [if_pos hc]; exact ev_pos (by omega) ev_now
    · rw [if_neg hc]
      refine ev_neg (by omega) ?_
      have hl : l.length ≤ 1048576 := by omega
      have hm : m.length ≤ 1048576 := by omega
      have hl2 : (l.map cvNode).length ≤ 1048576 := by rw [List.length_map]; exact hl
      have hm2 : (m.map cvNode).length ≤ 1048576 := by rw [List.length_map]; exact hm
      obtain ⟨r, e1, e2⟩ := Same_ev (l.map cvNode) (m.map cvNode)
      refine ev_bind (toNode l hl) (ev_bind (toNode m hm) (ev_bind e1 (ev_bind (toNode l hl) (ev_bind (toNode m hm) (ev_bind e2 (ev_neg (by simp) ?_))))))
      refine ev_bind (toNode l hl) (ev_bind (eqNode _ (by omega)) (ev_pos rfl ?_))
      exact ev_bind (toNode m hm) (ev_bind (eqNode _ (by omega)) (ev_pos rfl ev_now))
end Go.Proofs.Ytkpipmojkhikaaa.Pure
