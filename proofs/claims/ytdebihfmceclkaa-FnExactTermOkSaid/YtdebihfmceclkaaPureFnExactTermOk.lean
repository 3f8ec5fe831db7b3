/- FnExactTermOk: what the printed functions come to, for every input. -/
import Derived.Test.YtdebihfmceclkaaPFnExactTermOkx8
import Derived.Test.YtdebihfmceclkaaBase
import Derived.Test.YtdebihfmceclkaaEv
import Derived.Test.YtdebihfmceclkaaWalkFnExactTermOk
set_option linter.unusedVariables false
set_option linter.unusedSimpArgs false
namespace Go.Proofs.Ytdebihfmceclkaa.Pure.ExactTermOkW
open Go.RowKit Go.Proofs.Ytdebihfmceclkaa.PFnExactTermOk Go.Proofs.YtdebihfmceclkaaW.PrintWords Go.Proofs.YtdebihfmceclkaaW.PrintLast Go.Proofs.YtdebihfmceclkaaW.PrintMore Go.Proofs.Ytdebihfmceclkaa.Base

theorem pow2 {w : Int} (h0 : 0 ≤ w) (h8 : w ≤ 8) {k : Nat} (hk : 20 ≤ k) : spec_l01Pow2.f k w = some (P2 w) := by
  obtain ⟨m, rfl⟩ := rounds_of hk
  have : w = 0 ∨ w = 1 ∨ w = 2 ∨ w = 3 ∨ w = 4 ∨ w = 5 ∨ w = 6 ∨ w = 7 ∨ w = 8 := by omega
  rcases this with rfl | rfl | rfl | rfl | rfl | rfl | rfl | rfl | rfl <;> simp [spec_l01Pow2.f, spec_l01Pow2.l0, P2, wrap64]


theorem inS (x a b : Int) : spec_l01In.f x a b = some (decide (a ≤ x ∧ x ≤ b)) := by
  unfold spec_l01In.f
  by_cases h : x ≥ a
  · rw [if_pos h]; simp [h]
  · rw [if_neg h]; simp [h]


theorem inI (x a b : Int) : impl_within.f x a b = some (decide (a ≤ x ∧ x ≤ b)) := by
  unfold impl_within.f
  by_cases h : x ≥ a
  · rw [if_pos h]; simp [h]
  · rw [if_neg h]; simp [h]


theorem wokS (w a : Int) {k : Nat} (hk : 20 ≤ k) : spec_WordOk.f k w a = some (wok w a) := by
  unfold spec_WordOk.f wok
  rw [inS]; simp only [Option.bind_some]
  by_cases h : 1 ≤ w ∧ w ≤ 8
  · have hp := P2_pos (by omega : 0 ≤ w) h.2
    rw [if_pos (by simp [h]), pow2 (by omega) h.2 hk]; simp only [Option.bind_some]
    rw [inS, wrap_id (by omega) (by omega)]; simp [h]
  · rw [if_neg (by simp; omega)]; simp; omega


theorem wokI (w a : Int) : impl_WordOk.f w a = some (wok w a) := by
  unfold impl_WordOk.f impl_isWidth.f wok
  rw [inI]; simp only [Option.bind_some]
  by_cases h : 1 ≤ w ∧ w ≤ 8
  · have hp := P2_pos (by omega : 0 ≤ w) h.2
    rw [if_pos (by simp [h]), if_pos (u64_nonneg w), u64_id (by omega) (by omega), shl_one (by omega) h.2, inI, wrap_id (by omega) (by omega)]
    simp [h]
  · rw [if_neg (by simp; omega)]; simp; omega


theorem szNode (l : List S34) (h : l.length ≤ 9223372036854775807) : laws_szNodeS.f l 1048576 = some (if (l.length : Int) > 1048576 then -1 else 1048576 - (l.length : Int)) := by
  unfold laws_szNodeS.f
  rw [wrap_id (by omega) (by omega)]
  by_cases c : (l.length : Int) > 1048576
  · rw [if_pos (by omega), if_pos c]
  · rw [if_neg (by omega), if_neg c]


theorem szNode_left (l : List S34) (h : l.length ≤ 9223372036854775807) (m : Int) (h0 : 0 ≤ m) (h1 : m ≤ 1048576) : laws_szNodeS.f l m = some (if (l.length : Int) > m then -1 else m - (l.length : Int)) := by
  unfold laws_szNodeS.f
  rw [wrap_id (by omega) (by omega)]
  by_cases c : (l.length : Int) > m
  · rw [if_pos (by omega), if_pos c]
  · rw [if_neg (by omega), if_neg c]


def cvNode (x : S34) : S36 := ⟨x.f0, x.f1, x.f2, x.f3, x.f4, x.f5⟩
theorem toNode_from (l : List S34) (hl : l.length ≤ 1048576) (d : Nat) : ∀ (k : Nat) (acc : List S36) (i : Nat), acc.length = l.length → i ≤ l.length → l.length - i = d → d < k →
    laws_toNodeS.l0 k l acc (i : Int) = some (acc.take i ++ (l.drop i).map cvNode) := by
  induction d with
  | zero =>
    intro k acc i ha hi hd hk
    obtain ⟨k, rfl⟩ : ∃ m, k = m + 1 := ⟨k - 1, by omega⟩
    simp only [laws_toNodeS.l0]
    rw [if_neg (by omega), List.drop_eq_nil_of_le (by omega), List.take_of_length_le (by omega)]; simp
  | succ d ih =>
    intro k acc i ha hi hd hk
    obtain ⟨k, rfl⟩ : ∃ m, k = m + 1 := ⟨k - 1, by omega⟩
    have hlt : i < l.length := by omega
    simp only [laws_toNodeS.l0]
    rw [if_pos (by omega), if_pos (by omega)]
    unfold laws_toNode.f
    simp only [Option.bind_some]
    have hrd : rd_T34 l (i : Int) = l[i] := by
      unfold rd_T34
      rw [Int.toNat_natCast, List.getD_eq_getElem?_getD, List.getElem?_eq_getElem hlt]; rfl
    rw [if_pos (by omega), hrd, wrap_id (by omega) (by omega), show ((i : Int) + 1) = ((i + 1 : Nat) : Int) by omega, Int.toNat_natCast,
      ih k _ (i + 1) (by simpa using ha) (by omega) (by omega) (by omega)]
    congr 1
    rw [List.drop_eq_getElem_cons hlt, List.map_cons]
    have ht : (acc.set i (cvNode l[i])).take (i + 1) = acc.take i ++ [cvNode l[i]] := by
      rw [List.take_succ_eq_append_getElem (by simpa using (by omega : i < acc.length)), List.take_set_of_le (by omega)]
      simp
    show (acc.set i (cvNode l[i])).take (i + 1) ++ _ = _
    rw [ht, List.append_assoc]; rfl
theorem toNode (l : List S34) (hl : l.length ≤ 1048576) : Ev (fun k => laws_toNodeS.f k l) (l.map cvNode) := by
  refine ev_of (l.length + 2) fun k hk => ?_
  unfold laws_toNodeS.f
  rw [if_pos (by omega), if_pos (by omega)]
  have := toNode_from l hl l.length k (List.replicate ((l.length : Int) : Int).toNat z36) 0 (by simp) (by omega) (by omega) (by omega)
  simpa using this


theorem eqNode_one (x : S36) : laws_eqNode.f x.f0 x.f1 x.f2 x.f3 x.f4 x.f5 x.f0 x.f1 x.f2 x.f3 x.f4 x.f5 = some true := by
  unfold laws_eqNode.f; simp
theorem eqNode_from (l : List S36) (hl : l.length ≤ 4611686018427387904) (d : Nat) : ∀ (k i : Nat), i ≤ l.length → l.length - i = d → d < k → laws_eqNodeS.l0 k l l (i : Int) = some true := by
  induction d with
  | zero =>
    intro k i hi hd hk
    obtain ⟨k, rfl⟩ : ∃ m, k = m + 1 := ⟨k - 1, by omega⟩
    simp only [laws_eqNodeS.l0]
    rw [if_neg (by omega)]
  | succ d ih =>
    intro k i hi hd hk
    obtain ⟨k, rfl⟩ : ∃ m, k = m + 1 := ⟨k - 1, by omega⟩
    simp only [laws_eqNodeS.l0]
    rw [if_pos (by omega), if_pos (by omega), if_pos (by omega), eqNode_one]
    simp only [Option.bind_some, if_true]
    rw [wrap_id (by omega) (by omega), show ((i : Int) + 1) = ((i + 1 : Nat) : Int) by omega]
    exact ih k (i + 1) (by omega) (by omega) (by omega)
theorem eqNode (l : List S36) (hl : l.length ≤ 4611686018427387904) : Ev (fun k => laws_eqNodeS.f k l l) true := by
  refine ev_of (l.length + 2) fun k hk => ?_
  unfold laws_eqNodeS.f
  rw [if_pos rfl]
  exact eqNode_from l hl l.length k 0 (by omega) (by omega) (by omega)


theorem partsS (op w q a b c : Int) {k : Nat} (hk : 1 ≤ k) : spec_Parts.f k op w q a b c = some (partsL op a b c) := by
  obtain ⟨k, rfl⟩ : ∃ m, k = m + 1 := ⟨k - 1, by omega⟩
  unfold spec_Parts.f partsL
  simp only [spec_Parts.j0, inS]
  by_cases h2 : op = 2
  · subst h2; simp
  · by_cases h17 : op = 17
    · subst h17; simp
    · by_cases h19 : op = 19
      · subst h19; simp
      · by_cases h20 : op = 20
        · subst h20; simp
        · have hq : ¬ (op = 2 ∨ op = 17 ∨ op = 19 ∨ op = 20) := by omega
          rw [if_neg h2, if_neg h17, if_neg h19, if_neg (by simpa using h20), if_neg hq]
          simp only [Option.bind_some, decide_eq_true_eq]
          by_cases h3 : 3 ≤ op ∧ op ≤ 16
          · rw [if_pos h3, if_pos h3]
          · rw [if_neg h3, if_neg h3]
            by_cases h18 : op = 18
            · rw [if_pos h18, if_pos h18]
            · rw [if_neg h18, if_neg h18]


theorem rdN (l : List S36) (i : Nat) (h : i < l.length) : rd_T36 l (i : Int) = l[i] := by
  unfold rd_T36
  rw [Int.toNat_natCast, List.getD_eq_getElem?_getD, List.getElem?_eq_getElem h]; rfl
theorem rdI (l : List Int) (i : Nat) (h : i < l.length) : rd l (i : Int) = l[i] := by simp [rd, h]
theorem inB_iff {x a b : Int} : inB x a b = true ↔ a ≤ x ∧ x ≤ b := by simp [inB]
theorem inSB (x a b : Int) : spec_l01In.f x a b = some (inB x a b) := inS x a b
theorem node_l0 (l : List S36) (i : Int) (hi0 : 0 ≤ i) (hi1 : i ≤ 9223372036854775807) (ps : List Int) (hps : ps.length ≤ 3) (n0 n1 n2 n3 n4 n5 : Int) (r : Bool)
    (h1 : (∀ p ∈ ps, inB p 0 (i - 1) = true) → Ev (fun k => spec_l02Node.l0 k l i ps (ps.length : Int) n0 n1 n2 n3 n4 n5) r) (h2 : (¬ ∀ p ∈ ps, inB p 0 (i - 1) = true) → r = false) (d : Nat) :
    ∀ j : Nat, j + d = ps.length → (∀ t : Nat, t < j → inB (rd ps (t : Int)) 0 (i - 1) = true) → Ev (fun k => spec_l02Node.l0 k l i ps (j : Int) n0 n1 n2 n3 n4 n5) r := by
  induction d with
  | zero =>
    intro j hj hA
    obtain rfl : j = ps.length := by omega
    refine h1 fun p hp => ?_
    obtain ⟨t, ht, rfl⟩ := List.getElem_of_mem hp
    rw [← rdI ps t ht]; exact hA t ht
  | succ d ih =>
    intro j hj hA
    have hlt : j < ps.length := by omega
    refine ev_succ ?_
    simp only [spec_l02Node.l0]
    refine ev_pos (by omega) (ev_pos (by omega) (ev_bind0 (inSB _ _ _) ?_))
    rw [wrap_id (x := i - 1) (by omega) (by omega)]
    by_cases hb : inB (rd ps (j : Int)) 0 (i - 1) = true
    · refine ev_pos hb ?_
      rw [wrap_id (by omega) (by omega)]
      refine ih (j + 1) (by omega) fun t ht => ?_
      rcases Nat.lt_or_ge t j with h | h
      · exact hA t h
      · obtain rfl : t = j := by omega
        exact hb
    · refine ev_neg hb ?_
      rw [h2 fun h => hb (by rw [rdI ps j hlt]; exact h _ (List.getElem_mem hlt))]
      exact ev_now
theorem node_l1 (l : List S36) (hl : l.length ≤ 4611686018427387904) (ps : List Int) (hps : ps.length ≤ 3) (hp : ∀ p ∈ ps, 0 ≤ p ∧ p < (l.length : Int)) (n0 n1 n2 n3 n4 n5 : Int) (r : Bool)
    (h : Ev (fun k => spec_l02Node.l1 k l ps (ps.map fun p => (rd_T36 l p).f1) (ps.length : Int) n0 n1 n2 n3 n4 n5) r) (d : Nat) :
    ∀ j : Nat, j + d = ps.length → Ev (fun k => spec_l02Node.l1 k l ps ((ps.take j).map fun p => (rd_T36 l p).f1) (j : Int) n0 n1 n2 n3 n4 n5) r := by
  induction d with
  | zero =>
    intro j hj
    obtain rfl : j = ps.length := by omega
    rw [List.take_of_length_le (by omega)]; exact h
  | succ d ih =>
    intro j hj
    have hlt : j < ps.length := by omega
    have hq := hp _ (List.getElem_mem hlt)
    refine ev_succ ?_
    simp only [spec_l02Node.l1]
    rw [rdI ps j hlt]
    refine ev_pos (by omega) (ev_pos (by omega) (ev_pos hq.1 (ev_pos hq.2 (ev_pos (by simp; omega) ?_))))
    rw [wrap_id (by omega) (by omega), show ((j : Int) + 1) = ((j + 1 : Nat) : Int) by omega]
    have := ih (j + 1) (by omega)
    rwa [List.take_succ_eq_append_getElem hlt, List.map_append] at this
theorem rd_take (l : List S36) (i : Nat) (p : Int) (h0 : 0 ≤ p) (h1 : p < i) : rd_T36 (l.take i) p = rd_T36 l p := by
  unfold rd_T36
  rw [List.getD_eq_getElem?_getD, List.getD_eq_getElem?_getD, List.getElem?_take, if_pos (by omega)]
theorem sw_ev (l : List S36) (ps ws : List Int) (op W K A B C : Int) (hps : ps = partsL op A B C) (hws : ws.length = ps.length) :
    Ev (fun k => spec_l02Node.l1 k l ps ws (ps.length : Int) op W K A B C) (inB op 0 20 && usesB op K A B C && rightSw op W K B (ws.getD 0 0) (ws.getD 1 0) (ws.getD 2 0)) := by
  have hl := partsL_len op A B C
  refine ev_of 60 fun k hk => ?_
  obtain ⟨k, rfl⟩ : ∃ m, k = m + 2 := ⟨k - 2, by omega⟩
  simp only [spec_l02Node.l1]
  rw [if_neg (by omega), wokS _ _ (by omega), inSB, inSB, inSB]
  simp only [Option.bind_some, spec_l02Node.j2, inSB]
  have rd0 : rd ws 0 = ws.getD 0 0 := rfl
  have rd1 : rd ws 1 = ws.getD 1 0 := rfl
  have rd2 : rd ws 2 = ws.getD 2 0 := rfl
  rw [rd0, rd1, rd2]
  generalize ws.getD 0 0 = u
  generalize ws.getD 1 0 = v
  generalize ws.getD 2 0 = x
  by_cases h0 : op = 0
  · subst h0; simp [inB, usesB, rightSw]; by_cases g : wok W K = true <;> by_cases a : A = 0 <;> by_cases b : B = 0 <;> simp [g, a, b]
  rw [if_neg h0]
  by_cases h1 : op = 1
  · subst h1; by_cases g : inB K 0 7 = true <;> by_cases a : A = 0 <;> by_cases b : B = 0 <;> simp [usesB, rightSw, g, a, b, inB_iff.mpr (show (0 : Int) ≤ 1 ∧ (1 : Int) ≤ 20 by omega)]
  rw [if_neg h1]
  by_cases h2 : op = 2
  · subst h2
    have hn : (0 : Int) < (ws.length : Int) := by rw [hws, hps]; simp [partsL]
    rw [if_pos rfl, if_pos hn]
    by_cases a : u = W <;> by_cases b : K = 0 <;> by_cases c : B = 0 <;> simp [inB, usesB, rightSw, a, b, c]
  rw [if_neg h2]
  by_cases h3 : 3 ≤ op ∧ op ≤ 12
  · have e : ps = [A, B] := by rw [hps]; unfold partsL; rw [if_neg (by omega), if_pos (by omega)]
    have hn : ws.length = 2 := by rw [hws, e]; rfl
    rw [if_pos (inB_iff.mpr h3), if_pos (by omega), if_pos (c := (1 : Int) < _) (by omega)]
    have hu : usesB op K A B C = (K == 0 && C == 0) := by unfold usesB; rw [if_neg (by omega), if_neg (by omega), if_neg (by omega), if_neg (by omega), if_pos (by omega)]
    have hr : rightSw op W K B u v x = (u == W && v == W) := by unfold rightSw; rw [if_neg (by omega), if_neg (by omega), if_neg (by omega), if_pos (by omega)]
    rw [hu, hr, inB_iff.mpr (show 0 ≤ op ∧ op ≤ 20 by omega)]
    by_cases a : u = W <;> by_cases b : K = 0 <;> by_cases c : v = W <;> simp [a, b, c]
  rw [if_neg (fun h => h3 (inB_iff.mp h))]
  by_cases h4 : 13 ≤ op ∧ op ≤ 15
  · have e : ps = [A, B] := by rw [hps]; unfold partsL; rw [if_neg (by omega), if_pos (by omega)]
    have hn : ws.length = 2 := by rw [hws, e]; rfl
    rw [if_pos (inB_iff.mpr h4), if_pos (by omega), if_pos (c := (1 : Int) < _) (by omega)]
    have hu : usesB op K A B C = (K == 0 && C == 0) := by unfold usesB; rw [if_neg (by omega), if_neg (by omega), if_neg (by omega), if_neg (by omega), if_pos (by omega)]
    have hr : rightSw op W K B u v x = (u == v && W == 1) := by unfold rightSw; rw [if_neg (by omega), if_neg (by omega), if_neg (by omega), if_neg (by omega), if_pos (by omega)]
    rw [hu, hr, inB_iff.mpr (show 0 ≤ op ∧ op ≤ 20 by omega)]
    by_cases a : u = v <;> by_cases b : K = 0 <;> by_cases c : W = 1 <;> simp [a, b, c]
  rw [if_neg (fun h => h4 (inB_iff.mp h))]
  by_cases h16 : op = 16
  · subst h16
    have hn : ws.length = 2 := by rw [hws, hps]; rfl
    rw [if_pos rfl, if_pos (by omega), if_pos (c := (1 : Int) < _) (by omega)]
    by_cases a : wrap64 (u + v) = W <;> by_cases b : K = 0 <;> simp [inB, usesB, rightSw, a, b]
  rw [if_neg h16]
  by_cases h17 : op = 17
  · subst h17
    have hn : ws.length = 1 := by rw [hws, hps]; rfl
    rw [if_pos rfl, if_pos (c := (0 : Int) < _) (by omega)]
    by_cases a : 0 ≤ K <;> by_cases b : K ≤ wrap64 (u - W) <;> by_cases c : B = 0 <;> simp [inB, usesB, rightSw, a, b, c]
  rw [if_neg h17]
  by_cases h18 : op = 18
  · subst h18
    have hn : ws.length = 3 := by rw [hws, hps]; rfl
    rw [if_pos rfl, if_pos (c := (0 : Int) < _) (by omega), if_pos (c := (1 : Int) < _) (by omega), if_pos (c := (2 : Int) < _) (by omega)]
    by_cases a : u = 1 <;> by_cases b : v = W <;> by_cases c : x = W <;> simp [inB, usesB, rightSw, a, b, c]
  rw [if_neg h18]
  by_cases h19 : op = 19
  · subst h19
    have hn : ws.length = 1 := by rw [hws, hps]; rfl
    rw [if_pos rfl, if_pos trivial, if_pos (c := (0 : Int) < _) (by omega)]
    by_cases a : inB K 0 7 = true <;> by_cases b : inB B 1 8 = true <;> by_cases c : u = 1 <;> by_cases d : W = 1 <;> simp [usesB, rightSw, a, b, c, d, inB_iff.mpr (show (0 : Int) ≤ 19 ∧ (19 : Int) ≤ 20 by omega)]
  rw [if_neg h19]
  by_cases h20 : op = 20
  · subst h20
    have hn : ws.length = 1 := by rw [hws, hps]; rfl
    rw [if_pos (by rfl), if_pos (c := (0 : Int) < _) (by omega)]
    by_cases a : inB K 0 7 = true <;> by_cases b : inB B 1 8 = true <;> by_cases c : u = 1 <;> by_cases d : W = 1 <;> simp [usesB, rightSw, a, b, c, d, inB_iff.mpr (show (0 : Int) ≤ 20 ∧ (20 : Int) ≤ 20 by omega)]
  rw [if_neg (by simpa using h20)]
  have hn : inB op 0 20 = false := by simp [inB]; omega
  simp [hn]
theorem node_ev (l : List S36) (hl : l.length ≤ 4611686018427387904) (i : Nat) (hi : i < l.length) : Ev (fun k => spec_l02Node.f k l (i : Int)) (rightB (l.take i) (rd_T36 l i).f0 (rd_T36 l i).f1 (rd_T36 l i).f2 (rd_T36 l i).f3 (rd_T36 l i).f4 (rd_T36 l i).f5) := by
  unfold spec_l02Node.f
  refine ev_pos (by omega) (ev_pos (by omega) (ev_bind (ev_of 1 fun k hk => partsS _ _ _ _ _ _ hk) ?_))
  generalize (rd_T36 l i).f0 = op
  generalize (rd_T36 l i).f1 = W
  generalize (rd_T36 l i).f2 = K
  generalize (rd_T36 l i).f3 = A
  generalize (rd_T36 l i).f4 = B
  generalize (rd_T36 l i).f5 = C
  have hlen := partsL_len op A B C
  have htk : ((l.take i).length : Int) = i := by rw [List.length_take]; omega
  refine node_l0 l i (by omega) (by omega) _ hlen op W K A B C _ (fun hall => ?_) (fun hn => ?_) _ 0 (Nat.zero_add _) (fun t ht => absurd ht (by omega))
  · refine ev_succ ?_
    simp only [spec_l02Node.l0]
    refine ev_neg (by omega) (ev_bind0 (inSB _ _ _) ?_)
    have hall' : (partsL op A B C).all (fun p => inB p 0 (((l.take i).length : Int) - 1)) = true := by rw [htk]; exact List.all_eq_true.mpr hall
    unfold rightB
    rw [hall']
    by_cases hw : inB W 1 8 = true
    · refine ev_pos hw ?_
      rw [hw]
      have hwv : ∀ t : Nat, wv (l.take i) (partsL op A B C) (partsL op A B C).length t = ((partsL op A B C).map fun p => (rd_T36 l p).f1).getD t 0 := by
        intro t
        unfold wv
        by_cases ht : t < (partsL op A B C).length
        · rw [if_pos ht, rdI _ t ht, List.getD_eq_getElem?_getD, List.getElem?_map, List.getElem?_eq_getElem ht]
          have := inB_iff.mp (hall _ (List.getElem_mem ht))
          rw [rd_take l i _ this.1 (by omega)]; rfl
        · rw [if_neg ht, List.getD_eq_getElem?_getD, List.getElem?_eq_none (by simp; omega)]; rfl
      rw [hwv, hwv, hwv]
      simp only [Bool.true_and, Bool.and_true]
      exact node_l1 l hl _ hlen (fun p hp => by have := inB_iff.mp (hall p hp); omega) op W K A B C _ (sw_ev l _ _ op W K A B C rfl (by simp)) _ 0 (Nat.zero_add _)
    · have hw' : inB W 1 8 = false := by simpa using hw
      refine ev_neg hw ?_
      rw [hw']; simp only [Bool.false_and]; exact ev_now
  · unfold rightB
    have hnot : (partsL op A B C).all (fun p => inB p 0 (((l.take i).length : Int) - 1)) = false := by
      rw [htk]
      cases e : (partsL op A B C).all (fun p => inB p 0 ((i : Int) - 1)) with
      | false => rfl
      | true => exact absurd (List.all_eq_true.mp e) hn
    rw [hnot]; simp


/-- Node i of a list is right. -/
def nodeB (l : List S36) (i : Nat) : Bool := rightB (l.take i) (rd_T36 l i).f0 (rd_T36 l i).f1 (rd_T36 l i).f2 (rd_T36 l i).f3 (rd_T36 l i).f4 (rd_T36 l i).f5
def NodesOk (l : List S36) : Prop := ∀ i < l.length, nodeB l i = true
def TermOkP (l : List S36) : Prop := 1 ≤ l.length ∧ l.length ≤ 80 ∧ NodesOk l
theorem termS_from (l : List S36) (hl : l.length ≤ 80) (d : Nat) : ∀ i : Nat, i + d = l.length → ∃ r, Ev (fun k => spec_TermOk.l0 k l (i : Int)) r ∧ Ev (fun k => impl_TermOk.l0 k l l (l.length : Int) (i : Int)) r ∧ (r = true ↔ ∀ j < l.length, i ≤ j → nodeB l j = true) := by
  induction d with
  | zero =>
    intro i hi
    refine ⟨true, ev_succ ?_, ev_succ ?_, by simp; intro j h1 h2; omega⟩
    · simp only [spec_TermOk.l0]; exact ev_neg (by omega) ev_now
    · simp only [impl_TermOk.l0]; exact ev_neg (by omega) ev_now
  | succ d ih =>
    intro i hi
    have hlt : i < l.length := by omega
    obtain ⟨r, e1, e2, h⟩ := ih (i + 1) (by omega)
    have hn := node_ev l (by omega) i hlt
    by_cases hb : nodeB l i = true
    · refine ⟨r, ev_succ ?_, ev_succ ?_, ?_⟩
      · simp only [spec_TermOk.l0]
        refine ev_pos (by omega) (ev_bind hn (ev_pos hb ?_))
        rw [wrap_id (by omega) (by omega), show ((i : Int) + 1) = ((i + 1 : Nat) : Int) by omega]; exact e1
      · simp only [impl_TermOk.l0]
        refine ev_pos (by omega) (ev_pos (by omega) (ev_pos (by omega) (ev_pos (by omega) (ev_bind0 rfl (ev_pos hb ?_)))))
        rw [wrap_id (by omega) (by omega), show ((i : Int) + 1) = ((i + 1 : Nat) : Int) by omega]; exact e2
      · rw [h]
        constructor
        · intro hh j h1 h2
          rcases Nat.lt_or_ge i j with h3 | h3
          · exact hh j h1 h3
          · obtain rfl : i = j := by omega
            exact hb
        · intro hh j h1 h2
          exact hh j h1 (by omega)
    · refine ⟨false, ev_succ ?_, ev_succ ?_, ?_⟩
      · simp only [spec_TermOk.l0]
        exact ev_pos (by omega) (ev_bind hn (ev_neg hb ev_now))
      · simp only [impl_TermOk.l0]
        exact ev_pos (by omega) (ev_pos (by omega) (ev_pos (by omega) (ev_pos (by omega) (ev_bind0 rfl (ev_neg hb ev_now)))))
      · simp only [Bool.false_eq_true, false_iff]
        intro hh
        exact hb (hh i hlt (by omega))
theorem term_ev (l : List S36) : ∃ r, Ev (fun k => spec_TermOk.f k l) r ∧ Ev (fun k => impl_TermOk.f k l) r ∧ (r = true ↔ TermOkP l) := by
  by_cases hb : 1 ≤ (l.length : Int) ∧ (l.length : Int) ≤ 80
  · obtain ⟨r, e1, e2, h⟩ := termS_from l (by omega) l.length 0 (by omega)
    refine ⟨r, ?_, ?_, ?_⟩
    · unfold spec_TermOk.f; exact ev_bind0 (inS _ _ _) (ev_pos (by simpa using hb) e1)
    · unfold impl_TermOk.f; exact ev_bind0 (inI _ _ _) (ev_pos (by simpa using hb) e2)
    · rw [h]; unfold TermOkP NodesOk
      constructor
      · intro hh; exact ⟨by omega, by omega, fun i hi => hh i hi (by omega)⟩
      · intro hh j h1 _; exact hh.2.2 j h1
  · refine ⟨false, ?_, ?_, ?_⟩
    · unfold spec_TermOk.f; exact ev_bind0 (inS _ _ _) (ev_neg (by simpa using hb) ev_now)
    · unfold impl_TermOk.f; exact ev_bind0 (inI _ _ _) (ev_neg (by simpa using hb) ev_now)
    · simp only [Bool.false_eq_true, false_iff]; unfold TermOkP; omega

end Go.Proofs.Ytdebihfmceclkaa.Pure.ExactTermOkW
namespace Go.Proofs.Ytdebihfmceclkaa.Pure
open Go.RowKit Go.Proofs.Ytdebihfmceclkaa.PFnExactTermOk Go.Proofs.YtdebihfmceclkaaW.PrintWords Go.Proofs.YtdebihfmceclkaaW.PrintLast Go.Proofs.YtdebihfmceclkaaW.PrintMore Go.Proofs.Ytdebihfmceclkaa.Base Go.Proofs.Ytdebihfmceclkaa.Pure.ExactTermOkW

theorem FnExactTermOk : laws_FnExactTermOk.Pure := by
  intro l h0 h1 h2
  refine Ev.rounds ?_
  unfold laws_FnExactTermOk.f
  refine ev_bind0 (szNode l h0) ?_
  by_cases hb : (l.length : Int) > 1048576
  · rw [if_pos hb]; exact ev_pos (by omega) ev_now
  · rw [if_neg hb]
    refine ev_neg (by omega) ?_
    have hl : l.length ≤ 1048576 := by omega
    obtain ⟨r, e1, e2, _⟩ := term_ev (l.map cvNode)
    exact ev_bind (toNode l hl) (ev_bind e1 (ev_bind (toNode l hl) (ev_bind e2 (ev_neg (by simp) (ev_bind (toNode l hl) (ev_bind (eqNode _ (by rw [List.length_map]; omega)) (ev_pos rfl ev_now)))))))
end Go.Proofs.Ytdebihfmceclkaa.Pure
