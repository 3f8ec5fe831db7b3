/- FnExactPrune: what the printed functions come to, for every input. -/
import Derived.Test.YtdebihfmceclkaaPAllx21
import Derived.Test.YtdebihfmceclkaaBase
import Derived.Test.YtdebihfmceclkaaEv
import Derived.Test.YtdebihfmceclkaaWalkFnExactPrune
set_option linter.unusedVariables false
set_option linter.unusedSimpArgs false
namespace Go.Proofs.Ytdebihfmceclkaa.Pure.ExactPruneW
open Go.RowKit Go.Proofs.Ytdebihfmceclkaa.PAll Go.Proofs.YtdebihfmceclkaaW.PrintWords Go.Proofs.YtdebihfmceclkaaW.PrintLast Go.Proofs.YtdebihfmceclkaaW.PrintMore Go.Proofs.Ytdebihfmceclkaa.Base

theorem pow2 {w : Int} (h0 : 0 ≤ w) (h8 : w ≤ 8) {k : Nat} (hk : 20 ≤ k) : spec_l01Pow2.f k w = some (P2 w) := by
  obtain ⟨m, rfl⟩ := rounds_of hk
  have : w = 0 ∨ w = 1 ∨ w = 2 ∨ w = 3 ∨ w = 4 ∨ w = 5 ∨ w = 6 ∨ w = 7 ∨ w = 8 := by omega
  rcases this with rfl | rfl | rfl | rfl | rfl | rfl | rfl | rfl | rfl <;> simp [spec_l01Pow2.f, spec_l01Pow2.l0, P2, wrap64]


theorem inS (x a b : Int) : spec_l01In.f x a b = some (decide (a ≤ x ∧ x ≤ b)) := by
  unfold spec_l01In.f
  by_cases h : x ≥ a
  · rw [if_pos h]; simp [h]
  · rw [if_neg h]; simp [h]


theorem inI (x a b : Int) : impl_within.f x a b = some (decide (a ≤ x ∧ x ≤ b)) := by
  unfold impl_within.f
  by_cases h : x ≥ a
  · rw [if_pos h]; simp [h]
  · rw [if_neg h]; simp [h]


theorem wokS (w a : Int) {k : Nat} (hk : 20 ≤ k) : spec_WordOk.f k w a = some (wok w a) := by
  unfold spec_WordOk.f wok
  rw [inS]; simp only [Option.bind_some]
  by_cases h : 1 ≤ w ∧ w ≤ 8
  · have hp := P2_pos (by omega : 0 ≤ w) h.2
    rw [if_pos (by simp [h]), pow2 (by omega) h.2 hk]; simp only [Option.bind_some]
    rw [inS, wrap_id (by omega) (by omega)]; simp [h]
  · rw [if_neg (by simp; omega)]; simp; omega


theorem wokI (w a : Int) : impl_WordOk.f w a = some (wok w a) := by
  unfold impl_WordOk.f impl_isWidth.f wok
  rw [inI]; simp only [Option.bind_some]
  by_cases h : 1 ≤ w ∧ w ≤ 8
  · have hp := P2_pos (by omega : 0 ≤ w) h.2
    rw [if_pos (by simp [h]), if_pos (u64_nonneg w), u64_id (by omega) (by omega), shl_one (by omega) h.2, inI, wrap_id (by omega) (by omega)]
    simp [h]
  · rw [if_neg (by simp; omega)]; simp; omega


theorem szNode (l : List S34) (h : l.length ≤ 9223372036854775807) : laws_szNodeS.f l 1048576 = some (if (l.length : Int) > 1048576 then -1 else 1048576 - (l.length : Int)) := by
  unfold laws_szNodeS.f
  rw [wrap_id (by omega) (by omega)]
  by_cases c : (l.length : Int) > 1048576
  · rw [if_pos (by omega), if_pos c]
  · rw [if_neg (by omega), if_neg c]


theorem szNode_left (l : List S34) (h : l.length ≤ 9223372036854775807) (m : Int) (h0 : 0 ≤ m) (h1 : m ≤ 1048576) : laws_szNodeS.f l m = some (if (l.length : Int) > m then -1 else m - (l.length : Int)) := by
  unfold laws_szNodeS.f
  rw [wrap_id (by omega) (by omega)]
  by_cases c : (l.length : Int) > m
  · rw [if_pos (by omega), if_pos c]
  · rw [if_neg (by omega), if_neg c]


def cvNode (x : S34) : S36 := ⟨x.f0, x.f1, x.f2, x.f3, x.f4, x.f5⟩
theorem toNode_from (l : List S34) (hl : l.length ≤ 1048576) (d : Nat) : ∀ (k : Nat) (acc : List S36) (i : Nat), acc.length = l.length → i ≤ l.length → l.length - i = d → d < k →
    laws_toNodeS.l0 k l acc (i : Int) = some (acc.take i ++ (l.drop i).map cvNode) := by
  induction d with
  | zero =>
    intro k acc i ha hi hd hk
    obtain ⟨k, rfl⟩ : ∃ m, k = m + 1 := ⟨k - 1, by omega⟩
    simp only [laws_toNodeS.l0]
    rw [if_neg (by omega), List.drop_eq_nil_of_le (by omega), List.take_of_length_le (by omega)]; simp
  | succ d ih =>
    intro k acc i ha hi hd hk
    obtain ⟨k, rfl⟩ : ∃ m, k = m + 1 := ⟨k - 1, by omega⟩
    have hlt : i < l.length := by omega
    simp only [laws_toNodeS.l0]
    rw [if_pos (by omega), if_pos (by omega)]
    unfold laws_toNode.f
    simp only [Option.bind_some]
    have hrd : rd_T34 l (i : Int) = l[i] := by
      unfold rd_T34
      rw [Int.toNat_natCast, List.getD_eq_getElem?_getD, List.getElem?_eq_getElem hlt]; rfl
    rw [if_pos (by omega), hrd, wrap_id (by omega) (by omega), show ((i : Int) + 1) = ((i + 1 : Nat) : Int) by omega, Int.toNat_natCast,
      ih k _ (i + 1) (by simpa using ha) (by omega) (by omega) (by omega)]
    congr 1
    rw [List.drop_eq_getElem_cons hlt, List.map_cons]
    have ht : (acc.set i (cvNode l[i])).take (i + 1) = acc.take i ++ [cvNode l[i]] := by
      rw [List.take_succ_eq_append_getElem (by simpa using (by omega : i < acc.length)), List.take_set_of_le (by omega)]
      simp
    show (acc.set i (cvNode l[i])).take (i + 1) ++ _ = _
    rw [ht, List.append_assoc]; rfl
theorem toNode (l : List S34) (hl : l.length ≤ 1048576) : Ev (fun k => laws_toNodeS.f k l) (l.map cvNode) := by
  refine ev_of (l.length + 2) fun k hk => ?_
  unfold laws_toNodeS.f
  rw [if_pos (by omega), if_pos (by omega)]
  have := toNode_from l hl l.length k (List.replicate ((l.length : Int) : Int).toNat z36) 0 (by simp) (by omega) (by omega) (by omega)
  simpa using this


theorem eqNode_one (x : S36) : laws_eqNode.f x.f0 x.f1 x.f2 x.f3 x.f4 x.f5 x.f0 x.f1 x.f2 x.f3 x.f4 x.f5 = some true := by
  unfold laws_eqNode.f; simp
theorem eqNode_from (l : List S36) (hl : l.length ≤ 4611686018427387904) (d : Nat) : ∀ (k i : Nat), i ≤ l.length → l.length - i = d → d < k → laws_eqNodeS.l0 k l l (i : Int) = some true := by
  induction d with
  | zero =>
    intro k i hi hd hk
    obtain ⟨k, rfl⟩ : ∃ m, k = m + 1 := ⟨k - 1, by omega⟩
    simp only [laws_eqNodeS.l0]
    rw [if_neg (by omega)]
  | succ d ih =>
    intro k i hi hd hk
    obtain ⟨k, rfl⟩ : ∃ m, k = m + 1 := ⟨k - 1, by omega⟩
    simp only [laws_eqNodeS.l0]
    rw [if_pos (by omega), if_pos (by omega), if_pos (by omega), eqNode_one]
    simp only [Option.bind_some, if_true]
    rw [wrap_id (by omega) (by omega), show ((i : Int) + 1) = ((i + 1 : Nat) : Int) by omega]
    exact ih k (i + 1) (by omega) (by omega) (by omega)
theorem eqNode (l : List S36) (hl : l.length ≤ 4611686018427387904) : Ev (fun k => laws_eqNodeS.f k l l) true := by
  refine ev_of (l.length + 2) fun k hk => ?_
  unfold laws_eqNodeS.f
  rw [if_pos rfl]
  exact eqNode_from l hl l.length k 0 (by omega) (by omega) (by omega)


def mkNode (m : Int) : S36 := ⟨m, m + 1, m + 2, m + 3, m + 4, m + 5⟩
def mksNode : Nat → Int → List S36
  | 0, _ => []
  | c + 1, m => mkNode m :: mksNode c (m + 6)
theorem mksNode_len (c : Nat) : ∀ m, (mksNode c m).length = c := by
  induction c with
  | zero => intro m; rfl
  | succ c ih => intro m; simp [mksNode, ih]
theorem markNode_from (d : Nat) : ∀ (k : Nat) (l : List S36) (i : Nat) (m : Int), l.length ≤ 576460752303423488 → 0 ≤ m → m + 6 * (l.length - i : Nat) ≤ 9223372036854775807 → i ≤ l.length → l.length - i = d → d < k →
    laws_markNodeS.l0 k l m (i : Int) = some (m + 6 * (d : Int), l.take i ++ mksNode d m) := by
  induction d with
  | zero =>
    intro k l i m hl h0 h1 hi hd hk
    obtain ⟨k, rfl⟩ : ∃ m, k = m + 1 := ⟨k - 1, by omega⟩
    simp only [laws_markNodeS.l0]
    rw [if_neg (by omega), List.take_of_length_le (by omega)]; simp [mksNode]
  | succ d ih =>
    intro k l i m hl h0 h1 hi hd hk
    obtain ⟨k, rfl⟩ : ∃ m, k = m + 1 := ⟨k - 1, by omega⟩
    have hlt : i < l.length := by omega
    have hset : ∀ (x : S36) (l : List S36), i < l.length → rd_T36 (l.set i x) (i : Int) = x := by
      intro x l hlt
      unfold rd_T36
      rw [Int.toNat_natCast, List.getD_eq_getElem?_getD, List.getElem?_set_self hlt]; rfl
    simp only [laws_markNodeS.l0]
    rw [if_pos (by omega), if_pos (by omega)]
    simp only [Option.bind_some, Int.toNat_natCast]
    simp only [hset _ _ hlt, hset _ _ (by simpa using hlt : i < (l.set i _).length), List.set_set, List.length_set, hlt]
    rw [wrap_id (x := m + 1) (by omega) (by omega)]
    rw [wrap_id (x := m + 1 + 1) (by omega) (by omega)]
    rw [wrap_id (x := m + 1 + 1 + 1) (by omega) (by omega)]
    rw [wrap_id (x := m + 1 + 1 + 1 + 1) (by omega) (by omega)]
    rw [wrap_id (x := m + 1 + 1 + 1 + 1 + 1) (by omega) (by omega)]
    rw [wrap_id (x := m + 1 + 1 + 1 + 1 + 1 + 1) (by omega) (by omega)]
    rw [wrap_id (x := (i : Int) + 1) (by omega) (by omega)]
    rw [show ((i : Int) + 1) = ((i + 1 : Nat) : Int) by omega]
    rw [show m + 1 + 1 + 1 + 1 + 1 + 1 = m + 6 by omega]
    rw [ih k _ (i + 1) (m + 6) (by simpa using hl) (by omega) (by rw [List.length_set]; omega) (by rw [List.length_set]; omega) (by rw [List.length_set]; omega) (by omega)]
    congr 1
    rw [Prod.mk.injEq]
    refine ⟨by omega, ?_⟩
    rw [List.take_succ_eq_append_getElem (by simpa using hlt), List.take_set_of_le (by omega), List.append_assoc]
    simp only [List.getElem_set_self, List.singleton_append, mksNode, mkNode]
    try simp only [show ∀ z : Int, z + 1 + 1 = z + 2 from fun z => by omega]
    try simp [Int.add_assoc]
theorem markNode (l : List S36) (hl : l.length ≤ 576460752303423488) : Ev (fun k => laws_markNodeS.f k l 1) (1 + 6 * (l.length : Int), mksNode l.length 1) := by
  refine ev_of (l.length + 2) fun k hk => ?_
  unfold laws_markNodeS.f
  have := markNode_from l.length k l 0 1 (by omega) (by omega) (by omega) (by omega) (by omega) (by omega)
  simpa using this


theorem heldNode_from (d : Nat) : ∀ (k : Nat) (l : List S36) (i : Nat) (m : Int), l.length ≤ 576460752303423488 → 0 ≤ m → m + 6 * (d : Int) ≤ 9223372036854775807 → i ≤ l.length → l.length - i = d → l.drop i = mksNode d m → d < k →
    laws_heldNodeS.l0 k l m (i : Int) = some (m + 6 * (d : Int)) := by
  induction d with
  | zero =>
    intro k l i m hl h0 h1 hi hd he hk
    obtain ⟨k, rfl⟩ : ∃ m, k = m + 1 := ⟨k - 1, by omega⟩
    simp only [laws_heldNodeS.l0]
    rw [if_neg (by omega)]; simp
  | succ d ih =>
    intro k l i m hl h0 h1 hi hd he hk
    obtain ⟨k, rfl⟩ : ∃ m, k = m + 1 := ⟨k - 1, by omega⟩
    have hlt : i < l.length := by omega
    have hx : rd_T36 l (i : Int) = mkNode m := by
      unfold rd_T36
      rw [Int.toNat_natCast, List.getD_eq_getElem?_getD, List.getElem?_eq_getElem hlt]
      rw [List.drop_eq_getElem_cons hlt, mksNode] at he
      exact (List.cons.inj he).1
    have he2 : l.drop (i + 1) = mksNode d (m + 6) := by
      rw [List.drop_eq_getElem_cons hlt, mksNode] at he
      exact (List.cons.inj he).2
    simp only [laws_heldNodeS.l0]
    rw [if_pos (by omega), if_pos (by omega), hx]
    simp only [mkNode]
    rw [wrap_id (x := m + 1) (by omega) (by omega)]
    rw [wrap_id (x := m + 1 + 1) (by omega) (by omega)]
    rw [wrap_id (x := m + 1 + 1 + 1) (by omega) (by omega)]
    rw [wrap_id (x := m + 1 + 1 + 1 + 1) (by omega) (by omega)]
    rw [wrap_id (x := m + 1 + 1 + 1 + 1 + 1) (by omega) (by omega)]
    rw [wrap_id (x := m + 1 + 1 + 1 + 1 + 1 + 1) (by omega) (by omega)]
    rw [wrap_id (x := (i : Int) + 1) (by omega) (by omega)]
    simp only [show m + 1 + 1 = m + 2 by omega, show m + 2 + 1 = m + 3 by omega, show m + 3 + 1 = m + 4 by omega, show m + 4 + 1 = m + 5 by omega, show m + 5 + 1 = m + 6 by omega, if_true, bne_self_eq_false, Bool.false_eq_true, if_false]
    rw [show ((i : Int) + 1) = ((i + 1 : Nat) : Int) by omega]
    rw [ih k l (i + 1) (m + 6) hl (by omega) (by omega) (by omega) (by omega) he2 (by omega)]
    congr 1; omega
theorem heldNode (c : Nat) (hl : c ≤ 576460752303423488) : Ev (fun k => laws_heldNodeS.f k (mksNode c 1) 1) (1 + 6 * (c : Int)) := by
  refine ev_of (c + 2) fun k hk => ?_
  unfold laws_heldNodeS.f
  have hlen := mksNode_len c 1
  exact heldNode_from c k (mksNode c 1) 0 1 (by omega) (by omega) (by omega) (by omega) (by omega) rfl (by omega)


theorem partsS (op w q a b c : Int) {k : Nat} (hk : 1 ≤ k) : spec_Parts.f k op w q a b c = some (partsL op a b c) := by
  obtain ⟨k, rfl⟩ : ∃ m, k = m + 1 := ⟨k - 1, by omega⟩
  unfold spec_Parts.f partsL
  simp only [spec_Parts.j0, inS]
  by_cases h2 : op = 2
  · subst h2; simp
  · by_cases h17 : op = 17
    · subst h17; simp
    · by_cases h19 : op = 19
      · subst h19; simp
      · by_cases h20 : op = 20
        · subst h20; simp
        · have hq : ¬ (op = 2 ∨ op = 17 ∨ op = 19 ∨ op = 20) := by omega
          rw [if_neg h2, if_neg h17, if_neg h19, if_neg (by simpa using h20), if_neg hq]
          simp only [Option.bind_some, decide_eq_true_eq]
          by_cases h3 : 3 ≤ op ∧ op ≤ 16
          · rw [if_pos h3, if_pos h3]
          · rw [if_neg h3, if_neg h3]
            by_cases h18 : op = 18
            · rw [if_pos h18, if_pos h18]
            · rw [if_neg h18, if_neg h18]


theorem rdN (l : List S36) (i : Nat) (h : i < l.length) : rd_T36 l (i : Int) = l[i] := by
  unfold rd_T36
  rw [Int.toNat_natCast, List.getD_eq_getElem?_getD, List.getElem?_eq_getElem h]; rfl
theorem rdI (l : List Int) (i : Nat) (h : i < l.length) : rd l (i : Int) = l[i] := by simp [rd, h]
theorem inB_iff {x a b : Int} : inB x a b = true ↔ a ≤ x ∧ x ≤ b := by simp [inB]
theorem inSB (x a b : Int) : spec_l01In.f x a b = some (inB x a b) := inS x a b
theorem node_l0 (l : List S36) (i : Int) (hi0 : 0 ≤ i) (hi1 : i ≤ 9223372036854775807) (ps : List Int) (hps : ps.length ≤ 3) (n0 n1 n2 n3 n4 n5 : Int) (r : Bool)
    (h1 : (∀ p ∈ ps, inB p 0 (i - 1) = true) → Ev (fun k => spec_l02Node.l0 k l i ps (ps.length : Int) n0 n1 n2 n3 n4 n5) r) (h2 : (¬ ∀ p ∈ ps, inB p 0 (i - 1) = true) → r = false) (d : Nat) :
    ∀ j : Nat, j + d = ps.length → (∀ t : Nat, t < j → inB (rd ps (t : Int)) 0 (i - 1) = true) → Ev (fun k => spec_l02Node.l0 k l i ps (j : Int) n0 n1 n2 n3 n4 n5) r := by
  induction d with
  | zero =>
    intro j hj hA
    obtain rfl : j = ps.length := by omega
    refine h1 fun p hp => ?_
    obtain ⟨t, ht, rfl⟩ := List.getElem_of_mem hp
    rw [← rdI ps t ht]; exact hA t ht
  | succ d ih =>
    intro j hj hA
    have hlt : j < ps.length := by omega
    refine ev_succ ?_
    simp only [spec_l02Node.l0]
    refine ev_pos (by omega) (ev_pos (by omega) (ev_bind0 (inSB _ _ _) ?_))
    rw [wrap_id (x := i - 1) (by omega) (by omega)]
    by_cases hb : inB (rd ps (j : Int)) 0 (i - 1) = true
    · refine ev_pos hb ?_
      rw [wrap_id (by omega) (by omega)]
      refine ih (j + 1) (by omega) fun t ht => ?_
      rcases Nat.lt_or_ge t j with h | h
      · exact hA t h
      · obtain rfl : t = j := by omega
        exact hb
    · refine ev_neg hb ?_
      rw [h2 fun h => hb (by rw [rdI ps j hlt]; exact h _ (List.getElem_mem hlt))]
      exact ev_now
theorem node_l1 (l : List S36) (hl : l.length ≤ 4611686018427387904) (ps : List Int) (hps : ps.length ≤ 3) (hp : ∀ p ∈ ps, 0 ≤ p ∧ p < (l.length : Int)) (n0 n1 n2 n3 n4 n5 : Int) (r : Bool)
    (h : Ev (fun k => spec_l02Node.l1 k l ps (ps.map fun p => (rd_T36 l p).f1) (ps.length : Int) n0 n1 n2 n3 n4 n5) r) (d : Nat) :
    ∀ j : Nat, j + d = ps.length → Ev (fun k => spec_l02Node.l1 k l ps ((ps.take j).map fun p => (rd_T36 l p).f1) (j : Int) n0 n1 n2 n3 n4 n5) r := by
  induction d with
  | zero =>
    intro j hj
    obtain rfl : j = ps.length := by omega
    rw [List.take_of_length_le (by omega)]; exact h
  | succ d ih =>
    intro j hj
    have hlt : j < ps.length := by omega
    have hq := hp _ (List.getElem_mem hlt)
    refine ev_succ ?_
    simp only [spec_l02Node.l1]
    rw [rdI ps j hlt]
    refine ev_pos (by omega) (ev_pos (by omega) (ev_pos hq.1 (ev_pos hq.2 (ev_pos (by simp; omega) ?_))))
    rw [wrap_id (by omega) (by omega), show ((j : Int) + 1) = ((j + 1 : Nat) : Int) by omega]
    have := ih (j + 1) (by omega)
    rwa [List.take_succ_eq_append_getElem hlt, List.map_append] at this
theorem rd_take (l : List S36) (i : Nat) (p : Int) (h0 : 0 ≤ p) (h1 : p < i) : rd_T36 (l.take i) p = rd_T36 l p := by
  unfold rd_T36
  rw [List.getD_eq_getElem?_getD, List.getD_eq_getElem?_getD, List.getElem?_take, if_pos (by omega)]
theorem sw_ev (l : List S36) (ps ws : List Int) (op W K A B C : Int) (hps : ps = partsL op A B C) (hws : ws.length = ps.length) :
    Ev (fun k => spec_l02Node.l1 k l ps ws (ps.length : Int) op W K A B C) (inB op 0 20 && usesB op K A B C && rightSw op W K B (ws.getD 0 0) (ws.getD 1 0) (ws.getD 2 0)) := by
  have hl := partsL_len op A B C
  refine ev_of 60 fun k hk => ?_
  obtain ⟨k, rfl⟩ : ∃ m, k = m + 2 := ⟨k - 2, by omega⟩
  simp only [spec_l02Node.l1]
  rw [if_neg (by omega), wokS _ _ (by omega), inSB, inSB, inSB]
  simp only [Option.bind_some, spec_l02Node.j2, inSB]
  have rd0 : rd ws 0 = ws.getD 0 0 := rfl
  have rd1 : rd ws 1 = ws.getD 1 0 := rfl
  have rd2 : rd ws 2 = ws.getD 2 0 := rfl
  rw [rd0, rd1, rd2]
  generalize ws.getD 0 0 = u
  generalize ws.getD 1 0 = v
  generalize ws.getD 2 0 = x
  by_cases h0 : op = 0
  · subst h0; simp [inB, usesB, rightSw]; by_cases g : wok W K = true <;> by_cases a : A = 0 <;> by_cases b : B = 0 <;> simp [g, a, b]
  rw [if_neg h0]
  by_cases h1 : op = 1
  · subst h1; by_cases g : inB K 0 7 = true <;> by_cases a : A = 0 <;> by_cases b : B = 0 <;> simp [usesB, rightSw, g, a, b, inB_iff.mpr (show (0 : Int) ≤ 1 ∧ (1 : Int) ≤ 20 by omega)]
  rw [if_neg h1]
  by_cases h2 : op = 2
  · subst h2
    have hn : (0 : Int) < (ws.length : Int) := by rw [hws, hps]; simp [partsL]
    rw [if_pos rfl, if_pos hn]
    by_cases a : u = W <;> by_cases b : K = 0 <;> by_cases c : B = 0 <;> simp [inB, usesB, rightSw, a, b, c]
  rw [if_neg h2]
  by_cases h3 : 3 ≤ op ∧ op ≤ 12
  · have e : ps = [A, B] := by rw [hps]; unfold partsL; rw [if_neg (by omega), if_pos (by omega)]
    have hn : ws.length = 2 := by rw [hws, e]; rfl
    rw [if_pos (inB_iff.mpr h3), if_pos (by omega), if_pos (c := (1 : Int) < _) (by omega)]
    have hu : usesB op K A B C = (K == 0 && C == 0) := by unfold usesB; rw [if_neg (by omega), if_neg (by omega), if_neg (by omega), if_neg (by omega), if_pos (by omega)]
    have hr : rightSw op W K B u v x = (u == W && v == W) := by unfold rightSw; rw [if_neg (by omega), if_neg (by omega), if_neg (by omega), if_pos (by omega)]
    rw [hu, hr, inB_iff.mpr (show 0 ≤ op ∧ op ≤ 20 by omega)]
    by_cases a : u = W <;> by_cases b : K = 0 <;> by_cases c : v = W <;> simp [a, b, c]
  rw [if_neg (fun h => h3 (inB_iff.mp h))]
  by_cases h4 : 13 ≤ op ∧ op ≤ 15
  · have e : ps = [A, B] := by rw [hps]; unfold partsL; rw [if_neg (by omega), if_pos (by omega)]
    have hn : ws.length = 2 := by rw [hws, e]; rfl
    rw [if_pos (inB_iff.mpr h4), if_pos (by omega), if_pos (c := (1 : Int) < _) (by omega)]
    have hu : usesB op K A B C = (K == 0 && C == 0) := by unfold usesB; rw [if_neg (by omega), if_neg (by omega), if_neg (by omega), if_neg (by omega), if_pos (by omega)]
    have hr : rightSw op W K B u v x = (u == v && W == 1) := by unfold rightSw; rw [if_neg (by omega), if_neg (by omega), if_neg (by omega), if_neg (by omega), if_pos (by omega)]
    rw [hu, hr, inB_iff.mpr (show 0 ≤ op ∧ op ≤ 20 by omega)]
    by_cases a : u = v <;> by_cases b : K = 0 <;> by_cases c : W = 1 <;> simp [a, b, c]
  rw [if_neg (fun h => h4 (inB_iff.mp h))]
  by_cases h16 : op = 16
  · subst h16
    have hn : ws.length = 2 := by rw [hws, hps]; rfl
    rw [if_pos rfl, if_pos (by omega), if_pos (c := (1 : Int) < _) (by omega)]
    by_cases a : wrap64 (u + v) = W <;> by_cases b : K = 0 <;> simp [inB, usesB, rightSw, a, b]
  rw [if_neg h16]
  by_cases h17 : op = 17
  · subst h17
    have hn : ws.length = 1 := by rw [hws, hps]; rfl
    rw [if_pos rfl, if_pos (c := (0 : Int) < _) (by omega)]
    by_cases a : 0 ≤ K <;> by_cases b : K ≤ wrap64 (u - W) <;> by_cases c : B = 0 <;> simp [inB, usesB, rightSw, a, b, c]
  rw [if_neg h17]
  by_cases h18 : op = 18
  · subst h18
    have hn : ws.length = 3 := by rw [hws, hps]; rfl
    rw [if_pos rfl, if_pos (c := (0 : Int) < _) (by omega), if_pos (c := (1 : Int) < _) (by omega), if_pos (c := (2 : Int) < _) (by omega)]
    by_cases a : u = 1 <;> by_cases b : v = W <;> by_cases c : x = W <;> simp [inB, usesB, rightSw, a, b, c]
  rw [if_neg h18]
  by_cases h19 : op = 19
  · subst h19
    have hn : ws.length = 1 := by rw [hws, hps]; rfl
    rw [if_pos rfl, if_pos trivial, if_pos (c := (0 : Int) < _) (by omega)]
    by_cases a : inB K 0 7 = true <;> by_cases b : inB B 1 8 = true <;> by_cases c : u = 1 <;> by_cases d : W = 1 <;> simp [usesB, rightSw, a, b, c, d, inB_iff.mpr (show (0 : Int) ≤ 19 ∧ (19 : Int) ≤ 20 by omega)]
  rw [if_neg h19]
  by_cases h20 : op = 20
  · subst h20
    have hn : ws.length = 1 := by rw [hws, hps]; rfl
    rw [if_pos (by rfl), if_pos (c := (0 : Int) < _) (by omega)]
    by_cases a : inB K 0 7 = true <;> by_cases b : inB B 1 8 = true <;> by_cases c : u = 1 <;> by_cases d : W = 1 <;> simp [usesB, rightSw, a, b, c, d, inB_iff.mpr (show (0 : Int) ≤ 20 ∧ (20 : Int) ≤ 20 by omega)]
  rw [if_neg (by simpa using h20)]
  have hn : inB op 0 20 = false := by simp [inB]; omega
  simp [hn]
theorem node_ev (l : List S36) (hl : l.length ≤ 4611686018427387904) (i : Nat) (hi : i < l.length) : Ev (fun k => spec_l02Node.f k l (i : Int)) (rightB (l.take i) (rd_T36 l i).f0 (rd_T36 l i).f1 (rd_T36 l i).f2 (rd_T36 l i).f3 (rd_T36 l i).f4 (rd_T36 l i).f5) := by
  unfold spec_l02Node.f
  refine ev_pos (by omega) (ev_pos (by omega) (ev_bind (ev_of 1 fun k hk => partsS _ _ _ _ _ _ hk) ?_))
  generalize (rd_T36 l i).f0 = op
  generalize (rd_T36 l i).f1 = W
  generalize (rd_T36 l i).f2 = K
  generalize (rd_T36 l i).f3 = A
  generalize (rd_T36 l i).f4 = B
  generalize (rd_T36 l i).f5 = C
  have hlen := partsL_len op A B C
  have htk : ((l.take i).length : Int) = i := by rw [List.length_take]; omega
  refine node_l0 l i (by omega) (by omega) _ hlen op W K A B C _ (fun hall => ?_) (fun hn => ?_) _ 0 (Nat.zero_add _) (fun t ht => absurd ht (by omega))
  · refine ev_succ ?_
    simp only [spec_l02Node.l0]
    refine ev_neg (by omega) (ev_bind0 (inSB _ _ _) ?_)
    have hall' : (partsL op A B C).all (fun p => inB p 0 (((l.take i).length : Int) - 1)) = true := by rw [htk]; exact List.all_eq_true.mpr hall
    unfold rightB
    rw [hall']
    by_cases hw : inB W 1 8 = true
    · refine ev_pos hw ?_
      rw [hw]
      have hwv : ∀ t : Nat, wv (l.take i) (partsL op A B C) (partsL op A B C).length t = ((partsL op A B C).map fun p => (rd_T36 l p).f1).getD t 0 := by
        intro t
        unfold wv
        by_cases ht : t < (partsL op A B C).length
        · rw [if_pos ht, rdI _ t ht, List.getD_eq_getElem?_getD, List.getElem?_map, List.getElem?_eq_getElem ht]
          have := inB_iff.mp (hall _ (List.getElem_mem ht))
          rw [rd_take l i _ this.1 (by omega)]; rfl
        · rw [if_neg ht, List.getD_eq_getElem?_getD, List.getElem?_eq_none (by simp; omega)]; rfl
      rw [hwv, hwv, hwv]
      simp only [Bool.true_and, Bool.and_true]
      exact node_l1 l hl _ hlen (fun p hp => by have := inB_iff.mp (hall p hp); omega) op W K A B C _ (sw_ev l _ _ op W K A B C rfl (by simp)) _ 0 (Nat.zero_add _)
    · have hw' : inB W 1 8 = false := by simpa using hw
      refine ev_neg hw ?_
      rw [hw']; simp only [Bool.false_and]; exact ev_now
  · unfold rightB
    have hnot : (partsL op A B C).all (fun p => inB p 0 (((l.take i).length : Int) - 1)) = false := by
      rw [htk]
      cases e : (partsL op A B C).all (fun p => inB p 0 ((i : Int) - 1)) with
      | false => rfl
      | true => exact absurd (List.all_eq_true.mp e) hn
    rw [hnot]; simp


/-- Node i of a list is right. -/
def nodeB (l : List S36) (i : Nat) : Bool := rightB (l.take i) (rd_T36 l i).f0 (rd_T36 l i).f1 (rd_T36 l i).f2 (rd_T36 l i).f3 (rd_T36 l i).f4 (rd_T36 l i).f5
def NodesOk (l : List S36) : Prop := ∀ i < l.length, nodeB l i = true
def TermOkP (l : List S36) : Prop := 1 ≤ l.length ∧ l.length ≤ 80 ∧ NodesOk l
theorem termS_from (l : List S36) (hl : l.length ≤ 80) (d : Nat) : ∀ i : Nat, i + d = l.length → ∃ r, Ev (fun k => spec_TermOk.l0 k l (i : Int)) r ∧ Ev (fun k => impl_TermOk.l0 k l l (l.length : Int) (i : Int)) r ∧ (r = true ↔ ∀ j < l.length, i ≤ j → nodeB l j = true) := by
  induction d with
  | zero =>
    intro i hi
    refine ⟨true, ev_succ ?_, ev_succ ?_, by simp; intro j h1 h2; omega⟩
    · simp only [spec_TermOk.l0]; exact ev_neg (by omega) ev_now
    · simp only [impl_TermOk.l0]; exact ev_neg (by omega) ev_now
  | succ d ih =>
    intro i hi
    have hlt : i < l.length := by omega
    obtain ⟨r, e1, e2, h⟩ := ih (i + 1) (by omega)
    have hn := node_ev l (by omega) i hlt
    by_cases hb : nodeB l i = true
    · refine ⟨r, ev_succ ?_, ev_succ ?_, ?_⟩
      · simp only [spec_TermOk.l0]
        refine ev_pos (by omega) (ev_bind hn (ev_pos hb ?_))
        rw [wrap_id (by omega) (by omega), show ((i : Int) + 1) = ((i + 1 : Nat) : Int) by omega]; exact e1
      · simp only [impl_TermOk.l0]
        refine ev_pos (by omega) (ev_pos (by omega) (ev_pos (by omega) (ev_pos (by omega) (ev_bind0 rfl (ev_pos hb ?_)))))
        rw [wrap_id (by omega) (by omega), show ((i : Int) + 1) = ((i + 1 : Nat) : Int) by omega]; exact e2
      · rw [h]
        constructor
        · intro hh j h1 h2
          rcases Nat.lt_or_ge i j with h3 | h3
          · exact hh j h1 h3
          · obtain rfl : i = j := by omega
            exact hb
        · intro hh j h1 h2
          exact hh j h1 (by omega)
    · refine ⟨false, ev_succ ?_, ev_succ ?_, ?_⟩
      · simp only [spec_TermOk.l0]
        exact ev_pos (by omega) (ev_bind hn (ev_neg hb ev_now))
      · simp only [impl_TermOk.l0]
        exact ev_pos (by omega) (ev_pos (by omega) (ev_pos (by omega) (ev_pos (by omega) (ev_bind0 rfl (ev_neg hb ev_now)))))
      · simp only [Bool.false_eq_true, false_iff]
        intro hh
        exact hb (hh i hlt (by omega))
theorem term_ev (l : List S36) : ∃ r, Ev (fun k => spec_TermOk.f k l) r ∧ Ev (fun k => impl_TermOk.f k l) r ∧ (r = true ↔ TermOkP l) := by
  by_cases hb : 1 ≤ (l.length : Int) ∧ (l.length : Int) ≤ 80
  · obtain ⟨r, e1, e2, h⟩ := termS_from l (by omega) l.length 0 (by omega)
    refine ⟨r, ?_, ?_, ?_⟩
    · unfold spec_TermOk.f; exact ev_bind0 (inS _ _ _) (ev_pos (by simpa using hb) e1)
    · unfold impl_TermOk.f; exact ev_bind0 (inI _ _ _) (ev_pos (by simpa using hb) e2)
    · rw [h]; unfold TermOkP NodesOk
      constructor
      · intro hh; exact ⟨by omega, by omega, fun i hi => hh i hi (by omega)⟩
      · intro hh j h1 _; exact hh.2.2 j h1
  · refine ⟨false, ?_, ?_, ?_⟩
    · unfold spec_TermOk.f; exact ev_bind0 (inS _ _ _) (ev_neg (by simpa using hb) ev_now)
    · unfold impl_TermOk.f; exact ev_bind0 (inI _ _ _) (ev_neg (by simpa using hb) ev_now)
    · simp only [Bool.false_eq_true, false_iff]; unfold TermOkP; omega


/-- The places of node i's parts. -/
def pl (l : List S36) (i : Nat) : List Int := partsL (rd_T36 l i).f0 (rd_T36 l i).f3 (rd_T36 l i).f4 (rd_T36 l i).f5
def PartsIn (l : List S36) : Prop := ∀ i < l.length, ∀ p ∈ pl l i, 0 ≤ p ∧ p < (i : Int)
theorem parts_in {l : List S36} (h : NodesOk l) : PartsIn l := by
  intro i hi p hp
  have hb := h i hi
  unfold nodeB rightB at hb
  simp only [Bool.and_eq_true] at hb
  have := inB_iff.mp (List.all_eq_true.mp hb.1.2 p hp)
  rw [List.length_take] at this
  omega
def setAll (met : List Bool) (ps : List Int) : List Bool := ps.foldl (fun m p => m.set p.toNat true) met
theorem setAll_len (ps : List Int) : ∀ met : List Bool, (setAll met ps).length = met.length := by
  induction ps with
  | nil => intro met; rfl
  | cons p ps ih => intro met; show (setAll (met.set p.toNat true) ps).length = _; rw [ih, List.length_set]
/-- Going down from node j - 1: who is met. -/
def stepR (pb : Nat → Bool) (l : List S36) (j : Nat) (met : List Bool) : List Bool := if met.getD j false = true ∧ pb j = true then setAll met (pl l j) else met
def rgo (pb : Nat → Bool) (l : List S36) : Nat → List Bool → List Bool
  | 0, met => met
  | j + 1, met => rgo pb l j (stepR pb l j met)
theorem stepR_len (pb : Nat → Bool) (l : List S36) (j : Nat) (met : List Bool) : (stepR pb l j met).length = met.length := by
  unfold stepR; split
  · rw [setAll_len]
  · rfl
theorem rgo_len (pb : Nat → Bool) (l : List S36) (j : Nat) : ∀ met, (rgo pb l j met).length = met.length := by
  induction j with
  | zero => intro met; rfl
  | succ j ih => intro met; show (rgo pb l j _).length = _; rw [ih, stepR_len]
def reachL (pb : Nat → Bool) (l : List S36) (root : Nat) : List Bool := rgo pb l (root + 1) ((List.replicate l.length false).set root true)
theorem reachL_len (pb : Nat → Bool) (l : List S36) (root : Nat) : (reachL pb l root).length = l.length := by unfold reachL; rw [rgo_len]; simp
theorem rdB (l : List Bool) (i : Nat) (h : i < l.length) : rdOf false l (i : Int) = l[i] := by
  unfold rdOf
  rw [Int.toNat_natCast, List.getD_eq_getElem?_getD, List.getElem?_eq_getElem h]; rfl
theorem gdB (l : List Bool) (i : Nat) (h : i < l.length) : l.getD i false = l[i] := by
  rw [List.getD_eq_getElem?_getD, List.getElem?_eq_getElem h]; rfl
theorem setAll_drop (ps : List Int) (t : Nat) (h : t < ps.length) (met : List Bool) : setAll met (ps.drop t) = setAll (met.set (rd ps (t : Int)).toNat true) (ps.drop (t + 1)) := by
  rw [List.drop_eq_getElem_cons h, rdI ps t h]; rfl


theorem reachI_l1 (pf : Int → Option Bool) (l : List S36) (x8 : Int) (ps : List Int) (hps : ps.length ≤ 3) (hp : ∀ p ∈ ps, 0 ≤ p ∧ p < (l.length : Int)) (R : List Bool) (d : Nat) : ∀ (t : Nat) (met : List Bool), t + d = ps.length → met.length = l.length →
    Ev (fun k => impl_reach.l0 pf k l (setAll met (ps.drop t)) (wrap64 (x8 - 1))) R → Ev (fun k => impl_reach.l1 pf k l met x8 ps (ps.length : Int) (t : Int)) R := by
  induction d with
  | zero =>
    intro t met ht hm h
    refine ev_succ ?_
    simp only [impl_reach.l1]
    refine ev_neg (by omega) ?_
    rw [List.drop_eq_nil_of_le (by omega)] at h
    exact h
  | succ d ih =>
    intro t met ht hm h
    have hlt : t < ps.length := by omega
    have hq := hp _ (List.getElem_mem hlt)
    refine ev_succ ?_
    simp only [impl_reach.l1]
    rw [setAll_drop ps t hlt] at h
    refine ev_pos (by omega) (ev_pos (by omega) (ev_pos (by omega) (ev_pos (by rw [rdI ps t hlt]; exact hq.1) (ev_pos (by rw [rdI ps t hlt]; omega) ?_))))
    rw [wrap_id (by omega) (by omega), show ((t : Int) + 1) = ((t + 1 : Nat) : Int) by omega]
    exact ih (t + 1) _ (by omega) (by rw [List.length_set]; exact hm) h
theorem reachI_l0 (pf : Int → Option Bool) (pb : Nat → Bool) (l : List S36) (hl : l.length ≤ 4611686018427387904) (hP : PartsIn l) (hpf : ∀ i : Nat, i < l.length → pf (i : Int) = some (pb i)) (j : Nat) : ∀ met : List Bool, j ≤ l.length → met.length = l.length →
    Ev (fun k => impl_reach.l0 pf k l met ((j : Int) - 1)) (rgo pb l j met) := by
  induction j with
  | zero =>
    intro met hj hm
    refine ev_succ ?_
    simp only [impl_reach.l0]
    exact ev_neg (by omega) ev_now
  | succ j ih =>
    intro met hj hm
    have hlt : j < met.length := by omega
    rw [show ((j + 1 : Nat) : Int) - 1 = (j : Int) by omega]
    show Ev _ (rgo pb l j (stepR pb l j met))
    refine ev_succ ?_
    simp only [impl_reach.l0]
    refine ev_pos (by omega) (ev_pos (by omega) (ev_pos (by omega) ?_))
    rw [rdB met j hlt]
    have jump : ∀ met' : List Bool, met'.length = l.length → Ev (fun k => impl_reach.l0 pf k l met' (wrap64 ((j : Int) - 1))) (rgo pb l j met') := by
      intro met' hm'
      rw [wrap_id (by omega) (by omega)]
      exact ih met' (by omega) hm'
    by_cases hb : met[j] = true
    · refine ev_pos hb (ev_bind0 (hpf j (by omega)) ?_)
      by_cases hq : pb j = true
      · have hs : stepR pb l j met = setAll met (pl l j) := by unfold stepR; rw [if_pos ⟨by rw [gdB met j hlt]; exact hb, hq⟩]
        rw [hq, hs]
        refine ev_succ ?_
        simp only [impl_reach.j1]
        refine ev_neg (by decide) (ev_pos (by omega) (ev_pos (by omega) (ev_bind (ev_of 1 fun k hk => partsI _ _ _ _ _ _ hk) ?_)))
        have h0 := reachI_l1 pf l (j : Int) (pl l j) (partsL_len _ _ _ _) (fun p hp => by have := hP j (by omega) p hp; omega) (rgo pb l j (setAll met (pl l j))) (pl l j).length 0 met (by omega) hm (jump _ (by rw [List.drop_zero, setAll_len]; exact hm))
        exact h0
      · have hq' : pb j = false := by simpa using hq
        have hs : stepR pb l j met = met := by unfold stepR; rw [if_neg (fun h => hq h.2)]
        rw [hq', hs]
        refine ev_succ ?_
        simp only [impl_reach.j1]
        exact ev_pos rfl (jump met hm)
    · have hs : stepR pb l j met = met := by unfold stepR; rw [if_neg (fun h => hb (by rw [← gdB met j hlt]; exact h.1))]
      rw [hs]
      refine ev_neg hb ?_
      refine ev_succ ?_
      simp only [impl_reach.j1]
      exact ev_pos trivial (jump met hm)
theorem reach_ev (pf : Int → Option Bool) (pb : Nat → Bool) (l : List S36) (hl : l.length ≤ 281474976710656) (hP : PartsIn l) (hpf : ∀ i : Nat, i < l.length → pf (i : Int) = some (pb i)) (root : Nat) (hr : root < l.length) :
    Ev (fun k => impl_reach.f pf k l (root : Int)) (reachL pb l root) := by
  unfold impl_reach.f
  refine ev_pos (by omega) (ev_pos (by omega) (ev_bind0 rfl (ev_pos (by omega) (ev_pos (by simp; omega) ?_))))
  have := reachI_l0 pf pb l (by omega) hP hpf (root + 1) ((List.replicate l.length false).set root true) (by omega) (by simp)
  rw [show ((root + 1 : Nat) : Int) - 1 = (root : Int) by omega] at this
  rw [Int.toNat_natCast, Int.toNat_natCast]
  exact this


theorem reached_ev (l : List S36) (hl : l.length ≤ 281474976710656) (h0 : 1 ≤ l.length) (hP : PartsIn l) : Ev (fun k => impl_reached.f k l) (reachL (fun _ => true) l (l.length - 1)) := by
  unfold impl_reached.f
  rw [wrap_id (by omega) (by omega), show (l.length : Int) - 1 = ((l.length - 1 : Nat) : Int) by omega]
  exact ev_bind (reach_ev impl_reached_1.f (fun _ => true) l hl hP (fun i _ => rfl) (l.length - 1) (by omega)) ev_now


theorem reachS_l2 (l : List S36) (i : Nat) (hi : i < l.length) (ps : List Int) (hps : ps.length ≤ 3) (hp : ∀ p ∈ ps, 0 ≤ p ∧ p < (l.length : Int)) (R : List Bool) (d : Nat) : ∀ (t : Nat) (met : List Bool), t + d = ps.length → met.length = l.length → met.getD i false = true →
    Ev (fun k => spec_l02Reach.l1 k l (setAll met (ps.drop t)) (wrap64 ((i : Int) - 1))) R → Ev (fun k => spec_l02Reach.l2 k l met (i : Int) ps (t : Int)) R := by
  induction d with
  | zero =>
    intro t met ht hm hb h
    refine ev_succ ?_
    simp only [spec_l02Reach.l2]
    refine ev_neg (by omega) ?_
    rw [List.drop_eq_nil_of_le (by omega)] at h
    exact h
  | succ d ih =>
    intro t met ht hm hb h
    have hlt : t < ps.length := by omega
    have hq := hp _ (List.getElem_mem hlt)
    have him : i < met.length := by omega
    refine ev_succ ?_
    simp only [spec_l02Reach.l2]
    rw [setAll_drop ps t hlt] at h
    refine ev_pos (by omega) (ev_pos (by omega) (ev_pos (by omega) (ev_pos (by rw [rdB met i him, ← gdB met i him]; exact hb) (ev_pos (by omega) (ev_pos (by rw [rdI ps t hlt]; exact hq.1) (ev_pos (by rw [rdI ps t hlt]; omega) ?_))))))
    rw [wrap_id (by omega) (by omega), show ((t : Int) + 1) = ((t + 1 : Nat) : Int) by omega]
    refine ih (t + 1) _ (by omega) (by rw [List.length_set]; exact hm) ?_ h
    rw [gdB _ i (by rw [List.length_set]; exact him), List.getElem_set]
    split
    · rfl
    · rw [← gdB met i him]; exact hb
theorem reachS_l1 (l : List S36) (hl : l.length ≤ 4611686018427387904) (hP : PartsIn l) (j : Nat) : ∀ met : List Bool, j ≤ l.length → met.length = l.length → Ev (fun k => spec_l02Reach.l1 k l met ((j : Int) - 1)) (rgo (fun _ => true) l j met) := by
  induction j with
  | zero =>
    intro met hj hm
    refine ev_succ ?_
    simp only [spec_l02Reach.l1]
    exact ev_neg (by omega) ev_now
  | succ j ih =>
    intro met hj hm
    have hlt : j < met.length := by omega
    rw [show ((j + 1 : Nat) : Int) - 1 = (j : Int) by omega]
    show Ev _ (rgo _ l j (stepR _ l j met))
    have jump : ∀ met' : List Bool, met'.length = l.length → Ev (fun k => spec_l02Reach.l1 k l met' (wrap64 ((j : Int) - 1))) (rgo (fun _ => true) l j met') := by
      intro met' hm'
      rw [wrap_id (by omega) (by omega)]
      exact ih met' (by omega) hm'
    refine ev_succ ?_
    simp only [spec_l02Reach.l1]
    refine ev_pos (by omega) (ev_pos (by omega) (ev_pos (by omega) (ev_bind (ev_of 1 fun k hk => partsS _ _ _ _ _ _ hk) ?_)))
    by_cases hb : met.getD j false = true
    · have hs : stepR (fun _ => true) l j met = setAll met (pl l j) := by unfold stepR; rw [if_pos ⟨hb, rfl⟩]
      rw [hs]
      exact reachS_l2 l j (by omega) (pl l j) (partsL_len _ _ _ _) (fun p hp => by have := hP j (by omega) p hp; omega) (rgo _ l j (setAll met (pl l j))) (pl l j).length 0 met (by omega) hm hb (jump _ (by rw [List.drop_zero, setAll_len]; exact hm))
    · have hs : stepR (fun _ => true) l j met = met := by unfold stepR; rw [if_neg (fun h => hb h.1)]
      rw [hs]
      refine ev_succ ?_
      simp only [spec_l02Reach.l2]
      by_cases h0 : (0 : Int) < ((pl l j).length : Int)
      · refine ev_pos h0 (ev_pos (by omega) (ev_pos (by omega) (ev_neg ?_ (jump met hm))))
        rw [rdB met j hlt, ← gdB met j hlt]; exact hb
      · exact ev_neg h0 (jump met hm)
theorem reachS_l0 (l : List S36) (hl : l.length ≤ 1048576) (hP : PartsIn l) (d : Nat) : ∀ i : Nat, i + d = l.length →
    Ev (fun k => spec_l02Reach.l0 k l ((List.range i).map fun t : Nat => ((t : Int) == (l.length : Int) - 1)) (i : Int)) (rgo (fun _ => true) l l.length ((List.range l.length).map fun t : Nat => ((t : Int) == (l.length : Int) - 1))) := by
  induction d with
  | zero =>
    intro i hi
    obtain rfl : i = l.length := by omega
    refine ev_succ ?_
    simp only [spec_l02Reach.l0]
    refine ev_neg (by omega) ?_
    rw [wrap_id (by omega) (by omega)]
    exact reachS_l1 l (by omega) hP l.length _ (Nat.le_refl _) (by simp)
  | succ d ih =>
    intro i hi
    refine ev_succ ?_
    simp only [spec_l02Reach.l0]
    refine ev_pos (by omega) (ev_pos (by rw [List.length_map, List.length_range]; omega) ?_)
    rw [wrap_id (x := (l.length : Int) - 1) (by omega) (by omega), wrap_id (by omega) (by omega), show ((i : Int) + 1) = ((i + 1 : Nat) : Int) by omega]
    have := ih (i + 1) (by omega)
    rwa [List.range_succ, List.map_append] at this
theorem l02Reach_ev (l : List S36) (hl : l.length ≤ 1048576) (h0 : 1 ≤ l.length) (hP : PartsIn l) : Ev (fun k => spec_l02Reach.f k l) (reachL (fun _ => true) l (l.length - 1)) := by
  unfold spec_l02Reach.f reachL
  have := reachS_l0 l hl hP l.length 0 (by omega)
  rw [show l.length - 1 + 1 = l.length by omega]
  have e : (List.replicate l.length false).set (l.length - 1) true = (List.range l.length).map fun t : Nat => ((t : Int) == (l.length : Int) - 1) := by
    apply List.ext_getElem
    · simp
    · intro t h1 h2
      rw [List.getElem_set, List.getElem_map, List.getElem_range]
      by_cases c : l.length - 1 = t
      · rw [if_pos c]; symm; simp; omega
      · rw [if_neg c, List.getElem_replicate]; symm; simp; simp at h2; omega
  rw [e]
  exact this


theorem isqI (a b c d e f : Int) : impl_isQuant.f a b c d e f = some ((a == 19) || (a == 20)) := by
  unfold impl_isQuant.f
  by_cases h : a = 19
  · rw [if_pos h]; simp [h]
  · rw [if_neg h]; simp [h]


theorem setAll_mono (ps : List Int) : ∀ (met : List Bool) (i : Nat), met.getD i false = true → (setAll met ps).getD i false = true := by
  induction ps with
  | nil => intro met i h; exact h
  | cons p ps ih =>
    intro met i h
    refine ih _ i ?_
    rw [List.getD_eq_getElem?_getD, List.getElem?_set]
    split
    · split
      · rfl
      · rename_i h1 h2; subst h1; rw [List.getD_eq_getElem?_getD, List.getElem?_eq_none (by omega)] at h; simp at h
    · rwa [List.getD_eq_getElem?_getD] at h
theorem setAll_mem (ps : List Int) : ∀ (met : List Bool) (p : Int), p ∈ ps → 0 ≤ p → p.toNat < met.length → (setAll met ps).getD p.toNat false = true := by
  induction ps with
  | nil => intro met p h; cases h
  | cons q ps ih =>
    intro met p h h0 h1
    show (setAll (met.set q.toNat true) ps).getD p.toNat false = true
    rcases List.mem_cons.mp h with rfl | h
    · refine setAll_mono ps _ _ ?_
      rw [List.getD_eq_getElem?_getD, List.getElem?_set, if_pos rfl, if_pos h1]; rfl
    · exact ih _ p h h0 (by rw [List.length_set]; exact h1)
theorem setAll_far (ps : List Int) : ∀ (met : List Bool) (i : Nat), (∀ p ∈ ps, p.toNat ≠ i) → (setAll met ps).getD i false = met.getD i false := by
  induction ps with
  | nil => intro met i _; rfl
  | cons q ps ih =>
    intro met i h
    show (setAll (met.set q.toNat true) ps).getD i false = _
    rw [ih _ i (fun p hp => h p (List.mem_cons_of_mem _ hp)), List.getD_eq_getElem?_getD, List.getElem?_set, if_neg (h q List.mem_cons_self), List.getD_eq_getElem?_getD]
/-- What is reached has its parts reached. -/
theorem rgo_closed (l : List S36) (hP : PartsIn l) (j : Nat) : ∀ met : List Bool, j ≤ l.length → met.length = l.length → (∀ i < l.length, j ≤ i → met.getD i false = true → ∀ p ∈ pl l i, met.getD p.toNat false = true) →
    ∀ i < l.length, (rgo (fun _ => true) l j met).getD i false = true → ∀ p ∈ pl l i, (rgo (fun _ => true) l j met).getD p.toNat false = true := by
  induction j with
  | zero => intro met _ _ h i hi hm p hp; exact h i hi (by omega) hm p hp
  | succ j ih =>
    intro met hj hm h
    refine ih _ (by omega) (by rw [stepR_len]; exact hm) ?_
    intro i hi hij hmi p hp
    by_cases hb : met.getD j false = true
    · have hs : stepR (fun _ => true) l j met = setAll met (pl l j) := by unfold stepR; rw [if_pos ⟨hb, rfl⟩]
      rw [hs] at hmi ⊢
      rcases Nat.eq_or_lt_of_le hij with rfl | hlt
      · have := hP j (by omega) p hp
        exact setAll_mem _ _ p hp this.1 (by omega)
      · rw [setAll_far _ _ i (fun q hq => by have := hP j (by omega) q hq; omega)] at hmi
        exact setAll_mono _ _ _ (h i hi (by omega) hmi p hp)
    · have hs : stepR (fun _ => true) l j met = met := by unfold stepR; rw [if_neg (fun h => hb h.1)]
      rw [hs] at hmi ⊢
      rcases Nat.eq_or_lt_of_le hij with rfl | hlt
      · exact absurd hmi hb
      · exact h i hi (by omega) hmi p hp
theorem reach_closed (l : List S36) (hP : PartsIn l) (root : Nat) (hr : root < l.length) : ∀ i < l.length, (reachL (fun _ => true) l root).getD i false = true → ∀ p ∈ pl l i, (reachL (fun _ => true) l root).getD p.toNat false = true := by
  unfold reachL
  refine rgo_closed l hP (root + 1) _ (by omega) (by simp) ?_
  intro i hi hij hm p hp
  rw [List.getD_eq_getElem?_getD, List.getElem?_set, if_neg (by omega), List.getElem?_replicate, if_pos hi] at hm
  simp at hm
def cntL (met : List Bool) : Nat → Nat
  | 0 => 0
  | i + 1 => cntL met i + (if met.getD i false = true then 1 else 0)
theorem cntL_le (met : List Bool) (i : Nat) : cntL met i ≤ i := by
  induction i with
  | zero => exact Nat.le_refl _
  | succ i ih => unfold cntL; split <;> omega
theorem rd_get (l : List Int) (p : Int) : rd l p = l.getD p.toNat 0 := rfl
theorem kept_inv (l : List S36) (met : List Bool) (i : Nat) : i ≤ l.length → (keptS l met i).2.length = cntL met i ∧ ∀ p < i, met.getD p false = true → (keptS l met i).1.getD p 0 = (cntL met p : Int) := by
  induction i with
  | zero => intro _; exact ⟨rfl, fun p hp => absurd hp (by omega)⟩
  | succ i ih =>
    intro hi
    obtain ⟨h1, h2⟩ := ih (by omega)
    have hl := (keptS_len l met i).1
    have hcn : cntL met (i + 1) = cntL met i + (if met.getD i false = true then 1 else 0) := rfl
    rw [hcn]
    unfold keptS
    by_cases hb : met.getD i false = true
    · rw [if_pos hb, if_pos hb]
      refine ⟨by simp [h1], fun p hp hm => ?_⟩
      rw [List.getD_eq_getElem?_getD, List.getElem?_set]
      by_cases hpi : i = p
      · subst hpi; rw [if_pos rfl, if_pos (by omega), h1]; rfl
      · rw [if_neg hpi, ← List.getD_eq_getElem?_getD]; exact h2 p (by omega) hm
    · rw [if_neg hb, if_neg hb]
      refine ⟨by omega, fun p hp hm => ?_⟩
      by_cases hpi : i = p
      · subst hpi; exact absurd hm hb
      · exact h2 p (by omega) hm
def placeL (met : List Bool) (i : Nat) : List Int := (List.range i).map fun t => (cntL met t : Int)
theorem placeL_get (met : List Bool) (i : Nat) (p : Int) (h0 : 0 ≤ p) (h1 : p < (i : Int)) : rd (placeL met i) p = (cntL met p.toNat : Int) := by
  rw [rd_get, List.getD_eq_getElem?_getD]
  unfold placeL
  rw [List.getElem?_map, List.getElem?_range (by omega)]; rfl
theorem placeL_len (met : List Bool) (i : Nat) : (placeL met i).length = i := by simp [placeL]
theorem pruneS_from (l : List S36) (hl : l.length ≤ 80) (hP : PartsIn l) (met : List Bool) (hm : met.length = l.length) (hc : ∀ i < l.length, met.getD i false = true → ∀ p ∈ pl l i, met.getD p.toNat false = true) (d : Nat) : ∀ i : Nat, i + d = l.length →
    Ev (fun k => spec_Prune.l0 k l (keptS l met i).2 met (placeL met i) (i : Int)) (keptS l met l.length).2 := by
  induction d with
  | zero =>
    intro i hi
    obtain rfl : i = l.length := by omega
    refine ev_succ ?_
    simp only [spec_Prune.l0]
    exact ev_neg (by omega) ev_now
  | succ d ih =>
    intro i hi
    have hlt : i < l.length := by omega
    have him : i < met.length := by omega
    obtain ⟨k1, k2⟩ := kept_inv l met i (by omega)
    have hcl := cntL_le met i
    have hnext := ih (i + 1) (by omega)
    have hpl : placeL met i ++ [((keptS l met i).2.length : Int)] = placeL met (i + 1) := by unfold placeL; rw [List.range_succ, List.map_append, k1]; rfl
    refine ev_succ ?_
    simp only [spec_Prune.l0]
    rw [hpl, wrap_id (by omega) (by omega), show ((i : Int) + 1) = ((i + 1 : Nat) : Int) by omega, rdB met i him, ← gdB met i him]
    refine ev_pos (by omega) (ev_pos (by rw [placeL_len]; omega) (ev_bind0 rfl (ev_pos (by omega) (ev_pos (by omega) ?_))))
    by_cases hb : met.getD i false = true
    · refine ev_pos hb (ev_bind (ev_of 1 fun k hk => partsS _ _ _ _ _ _ hk) ?_)
      have hkn : (keptS l met (i + 1)).2 = (keptS l met i).2 ++ [renN (fun p => rd (placeL met (i + 1)) p) (rd_T36 l (i : Int))] := by
        show (if met.getD i false = true then _ else _ : List Int × List S36).2 = _
        rw [if_pos hb]
        have key : ∀ p ∈ pl l i, rd ((keptS l met i).1.set i ((keptS l met i).2.length : Int)) p = rd (placeL met (i + 1)) p := by
          intro p hp
          have hp1 := hP i hlt p hp
          rw [placeL_get met (i + 1) p hp1.1 (by omega), rd_get, List.getD_eq_getElem?_getD, List.getElem?_set, if_neg (by omega), ← List.getD_eq_getElem?_getD]
          exact k2 p.toNat (by omega) (hc i hlt hb p hp)
        simp only [renN]
        congr 2
        unfold pl at key
        generalize (rd_T36 l (i : Int)).f3 = A at *
        generalize (rd_T36 l (i : Int)).f4 = B at *
        generalize (rd_T36 l (i : Int)).f5 = C at *
        generalize (rd_T36 l (i : Int)).f0 = op at *
        have h3 : 0 < (partsL op A B C).length → A ∈ partsL op A B C := by unfold partsL; split <;> (try split) <;> (try split) <;> simp
        have h4 : 1 < (partsL op A B C).length → B ∈ partsL op A B C := by unfold partsL; split <;> (try split) <;> (try split) <;> simp
        have h5 : 2 < (partsL op A B C).length → C ∈ partsL op A B C := by unfold partsL; split <;> (try split) <;> (try split) <;> simp
        congr 1
        · by_cases h : 0 < (partsL op A B C).length
          · rw [if_pos h, if_pos h, key A (h3 h)]
          · rw [if_neg h, if_neg h]
        · by_cases h : 1 < (partsL op A B C).length
          · rw [if_pos h, if_pos h, key B (h4 h)]
          · rw [if_neg h, if_neg h]
        · by_cases h : 2 < (partsL op A B C).length
          · rw [if_pos h, if_pos h, key C (h5 h)]
          · rw [if_neg h, if_neg h]
      rw [hkn] at hnext
      have hin : ∀ p ∈ pl l i, 0 ≤ p ∧ p < ((placeL met (i + 1)).length : Int) := by intro p hp; have := hP i hlt p hp; rw [placeL_len]; omega
      unfold pl at hin
      unfold renN at hnext
      have hlen : (keptS l met i).2.length < 2932031007402 := by omega
      generalize (rd_T36 l (i : Int)).f3 = A at *
      generalize (rd_T36 l (i : Int)).f4 = B at *
      generalize (rd_T36 l (i : Int)).f5 = C at *
      generalize (rd_T36 l (i : Int)).f0 = op at *
      have h3 : 0 < (partsL op A B C).length → A ∈ partsL op A B C := by unfold partsL; split <;> (try split) <;> (try split) <;> simp
      have h4 : 1 < (partsL op A B C).length → B ∈ partsL op A B C := by unfold partsL; split <;> (try split) <;> (try split) <;> simp
      have h5 : 2 < (partsL op A B C).length → C ∈ partsL op A B C := by unfold partsL; split <;> (try split) <;> (try split) <;> simp
      have h45 : 2 < (partsL op A B C).length → 1 < (partsL op A B C).length := by omega
      have tail : ∀ A' : Int, A' = (if 0 < (partsL op A B C).length then rd (placeL met (i + 1)) A else A) → Ev (fun k => spec_Prune.j1 k l (keptS l met i).2 met (placeL met (i + 1)) (i : Int) (partsL op A B C) op (rd_T36 l (i : Int)).f1 (rd_T36 l (i : Int)).f2 A' B C) (keptS l met l.length).2 := by
        intro A' hA'
        refine ev_succ ?_
        simp only [spec_Prune.j1]
        rw [wrap_id (by omega) (by omega), show ((i : Int) + 1) = ((i + 1 : Nat) : Int) by omega]
        subst hA'
        by_cases g1 : 1 < (partsL op A B C).length
        · refine ev_pos (by omega) (ev_pos (hin _ (h4 g1)).1 (ev_pos (hin _ (h4 g1)).2 ?_))
          by_cases g2 : 2 < (partsL op A B C).length
          · refine ev_pos (by omega) (ev_pos (hin _ (h5 g2)).1 (ev_pos (hin _ (h5 g2)).2 (ev_pos hlen ?_)))
            rw [if_pos g1, if_pos g2] at hnext; exact hnext
          · refine ev_neg (by omega) (ev_pos hlen ?_)
            rw [if_pos g1, if_neg g2] at hnext; exact hnext
        · have g2 : ¬ 2 < (partsL op A B C).length := by omega
          refine ev_neg (by omega) (ev_neg (by omega) (ev_pos hlen ?_))
          rw [if_neg g1, if_neg g2] at hnext; exact hnext
      by_cases g0 : 0 < (partsL op A B C).length
      · exact ev_pos (by omega) (ev_pos (hin _ (h3 g0)).1 (ev_pos (hin _ (h3 g0)).2 (tail _ (by rw [if_pos g0]))))
      · exact ev_neg (by omega) (tail _ (by rw [if_neg g0]))
    · refine ev_neg hb ?_
      have hkn : keptS l met (i + 1) = keptS l met i := by
        show (if met.getD i false = true then _ else _ : List Int × List S36) = _
        rw [if_neg hb]
      rw [hkn] at hnext
      exact hnext
/-- A term without what its root does not reach. -/
def prunL (l : List S36) : List S36 := (keptS l (reachL (fun _ => true) l (l.length - 1)) l.length).2
theorem prunL_le (l : List S36) : (prunL l).length ≤ l.length := (keptS_len l _ _).2
theorem PruneS_ok (l : List S36) (h : TermOkP l) (e1 : Ev (fun k => spec_TermOk.f k l) true) : Ev (fun k => spec_Prune.f k l) (prunL l) := by
  obtain ⟨h1, h2, h3⟩ := h
  have hP := parts_in h3
  unfold spec_Prune.f
  refine ev_bind0 rfl (ev_bind e1 (ev_pos rfl (ev_bind (l02Reach_ev l (by omega) h1 hP) ?_)))
  exact pruneS_from l h2 hP _ (reachL_len _ _ _) (reach_closed l hP _ (by omega)) l.length 0 (by omega)


theorem Prune_ev (l : List S36) : ∃ r : List S36, Ev (fun k => spec_Prune.f k l) r ∧ Ev (fun k => impl_Prune.f k l) r ∧ r.length ≤ 80 := by
  obtain ⟨b, e1, e2, h⟩ := term_ev l
  by_cases hb : b = true
  · subst hb
    have hT := h.mp rfl
    obtain ⟨h1, h2, h3⟩ := hT
    have hP := parts_in h3
    refine ⟨prunL l, PruneS_ok l ⟨h1, h2, h3⟩ e1, ?_, by have := prunL_le l; omega⟩
    unfold impl_Prune.f
    refine ev_bind e2 (ev_pos rfl (ev_bind (reached_ev l (by omega) h1 hP) (ev_pos ⟨reachL_len _ _ _, by omega, ?_⟩ ev_now)))
    unfold partsInB
    rw [List.all_eq_true]
    intro i hi
    rw [List.all_eq_true]
    intro p hp
    have := hP i (List.mem_range.mp hi) p hp
    have := List.mem_range.mp hi
    exact inB_iff.mpr (by omega)
  · have hb' : b = false := by simpa using hb
    subst hb'
    refine ⟨[], ?_, ?_, by simp⟩
    · unfold spec_Prune.f; exact ev_bind0 rfl (ev_bind e1 (ev_neg (by simp) ev_now))
    · unfold impl_Prune.f; exact ev_bind e2 (ev_neg (by simp) ev_now)

end Go.Proofs.Ytdebihfmceclkaa.Pure.ExactPruneW
namespace Go.Proofs.Ytdebihfmceclkaa.Pure
open Go.RowKit Go.Proofs.Ytdebihfmceclkaa.PAll Go.Proofs.YtdebihfmceclkaaW.PrintWords Go.Proofs.YtdebihfmceclkaaW.PrintLast Go.Proofs.YtdebihfmceclkaaW.PrintMore Go.Proofs.Ytdebihfmceclkaa.Base Go.Proofs.Ytdebihfmceclkaa.Pure.ExactPruneW

theorem FnExactPrune : laws_FnExactPrune.Pure := by
  intro l h0 h1 h2
  refine Ev.rounds ?_
  unfold laws_FnExactPrune.f
  refine ev_bind0 (szNode l h0) ?_
  by_cases hb : (l.length : Int) > 1048576
  · rw [if_pos hb]; exact ev_pos (by omega) ev_now
  · rw [if_neg hb]
    refine ev_neg (by omega) ?_
    have hl : l.length ≤ 1048576 := by omega
    have hl2 : (l.map cvNode).length ≤ 1048576 := by rw [List.length_map]; exact hl
    obtain ⟨r, e1, e2, hr⟩ := Prune_ev (l.map cvNode)
    refine ev_bind (toNode l hl) (ev_bind e1 (ev_bind (toNode l hl) (ev_bind e2 (ev_bind (eqNode r (by omega)) (ev_pos rfl ?_)))))
    refine ev_bind (toNode l hl) (ev_bind (eqNode _ (by omega)) (ev_pos rfl ?_))
    refine ev_bind (markNode _ (by omega)) (ev_neg (by simp; omega) (ev_bind (eqNode r (by omega)) ?_))
    refine ev_succ ?_
    simp only [laws_FnExactPrune.j0]
    refine ev_neg (by decide) ?_
    refine ev_bind (markNode r (by omega)) (ev_bind (heldNode _ (by omega)) (ev_neg (by simp; omega) (ev_pos (by simp) ?_)))
    refine ev_bind (toNode l hl) (ev_bind e2 (ev_bind (eqNode r (by omega)) (ev_pos rfl ?_)))
    exact ev_bind (heldNode _ (by omega)) (ev_neg (by simp; omega) (ev_pos (by simp) ev_now))
end Go.Proofs.Ytdebihfmceclkaa.Pure
