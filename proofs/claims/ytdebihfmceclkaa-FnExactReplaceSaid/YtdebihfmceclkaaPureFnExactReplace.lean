/- FnExactReplace: what the printed functions come to, for every input. -/
import Derived.Test.YtdebihfmceclkaaPFnExactReplacex11
import Derived.Test.YtdebihfmceclkaaBase
import Derived.Test.YtdebihfmceclkaaEv
import Derived.Test.YtdebihfmceclkaaWalkFnExactReplace
set_option linter.unusedVariables false
set_option linter.unusedSimpArgs false
namespace Go.Proofs.Ytdebihfmceclkaa.Pure.ExactReplaceW
open Go.RowKit Go.Proofs.Ytdebihfmceclkaa.PFnExactReplace Go.Proofs.YtdebihfmceclkaaW.PrintWords Go.Proofs.YtdebihfmceclkaaW.PrintLast Go.Proofs.YtdebihfmceclkaaW.PrintMore Go.Proofs.Ytdebihfmceclkaa.Base

theorem pow2 {w : Int} (h0 : 0 ≤ w) (h8 : w ≤ 8) {k : Nat} (hk : 20 ≤ k) : spec_l01Pow2.f k w = some (P2 w) := by
  obtain ⟨m, rfl⟩ := rounds_of hk
  have : w = 0 ∨ w = 1 ∨ w = 2 ∨ w = 3 ∨ w = 4 ∨ w = 5 ∨ w = 6 ∨ w = 7 ∨ w = 8 := by omega
  rcases this with rfl | rfl | rfl | rfl | rfl | rfl | rfl | rfl | rfl <;> simp [spec_l01Pow2.f, spec_l01Pow2.l0, P2, wrap64]


theorem inS (x a b : Int) : spec_l01In.f x a b = some (decide (a ≤ x ∧ x ≤ b)) := by
  unfold spec_l01In.f
  by_cases h : x ≥ a
  · rw [if_pos h]; simp [h]
  · rw [if_neg h]; simp [h]


theorem inI (x a b : Int) : impl_within.f x a b = some (decide (a ≤ x ∧ x ≤ b)) := by
  unfold impl_within.f
  by_cases h : x ≥ a
  · rw [if_pos h]; simp [h]
  · rw [if_neg h]; simp [h]


theorem wokS (w a : Int) {k : Nat} (hk : 20 ≤ k) : spec_WordOk.f k w a = some (wok w a) := by
  unfold spec_WordOk.f wok
  rw [inS]; simp only [Option.bind_some]
  by_cases h : 1 ≤ w ∧ w ≤ 8
  · have hp := P2_pos (by omega : 0 ≤ w) h.2
    rw [if_pos (by simp [h]), pow2 (by omega) h.2 hk]; simp only [Option.bind_some]
    rw [inS, wrap_id (by omega) (by omega)]; simp [h]
  · rw [if_neg (by simp; omega)]; simp; omega


theorem wokI (w a : Int) : impl_WordOk.f w a = some (wok w a) := by
  unfold impl_WordOk.f impl_isWidth.f wok
  rw [inI]; simp only [Option.bind_some]
  by_cases h : 1 ≤ w ∧ w ≤ 8
  · have hp := P2_pos (by omega : 0 ≤ w) h.2
    rw [if_pos (by simp [h]), if_pos (u64_nonneg w), u64_id (by omega) (by omega), shl_one (by omega) h.2, inI, wrap_id (by omega) (by omega)]
    simp [h]
  · rw [if_neg (by simp; omega)]; simp; omega


theorem szNode (l : List S34) (h : l.length ≤ 9223372036854775807) : laws_szNodeS.f l 1048576 = some (if (l.length : Int) > 1048576 then -1 else 1048576 - (l.length : Int)) := by
  unfold laws_szNodeS.f
  rw [wrap_id (by omega) (by omega)]
  by_cases c : (l.length : Int) > 1048576
  · rw [if_pos (by omega), if_pos c]
  · rw [if_neg (by omega), if_neg c]


theorem szNode_left (l : List S34) (h : l.length ≤ 9223372036854775807) (m : Int) (h0 : 0 ≤ m) (h1 : m ≤ 1048576) : laws_szNodeS.f l m = some (if (l.length : Int) > m then -1 else m - (l.length : Int)) := by
  unfold laws_szNodeS.f
  rw [wrap_id (by omega) (by omega)]
  by_cases c : (l.length : Int) > m
  · rw [if_pos (by omega), if_pos c]
  · rw [if_neg (by omega), if_neg c]


def cvNode (x : S34) : S36 := ⟨x.f0, x.f1, x.f2, x.f3, x.f4, x.f5⟩
theorem toNode_from (l : List S34) (hl : l.length ≤ 1048576) (d : Nat) : ∀ (k : Nat) (acc : List S36) (i : Nat), acc.length = l.length → i ≤ l.length → l.length - i = d → d < k →
    laws_toNodeS.l0 k l acc (i : Int) = some (acc.take i ++ (l.drop i).map cvNode) := by
  induction d with
  | zero =>
    intro k acc i ha hi hd hk
    obtain ⟨k, rfl⟩ : ∃ m, k = m + 1 := ⟨k - 1, by omega⟩
    simp only [laws_toNodeS.l0]
    rw [if_neg (by omega), List.drop_eq_nil_of_le (by omega), List.take_of_length_le (by omega)]; simp
  | succ d ih =>
    intro k acc i ha hi hd hk
    obtain ⟨k, rfl⟩ : ∃ m, k = m + 1 := ⟨k - 1, by omega⟩
    have hlt : i < l.length := by omega
    simp only [laws_toNodeS.l0]
    rw [if_pos (by omega), if_pos (by omega)]
    unfold laws_toNode.f
    simp only [Option.bind_some]
    have hrd : rd_T34 l (i : Int) = l[i] := by
      unfold rd_T34
      rw [Int.toNat_natCast, List.getD_eq_getElem?_getD, List.getElem?_eq_getElem hlt]; rfl
    rw [if_pos (by omega), hrd, wrap_id (by omega) (by omega), show ((i : Int) + 1) = ((i + 1 : Nat) : Int) by omega, Int.toNat_natCast,
      ih k _ (i + 1) (by simpa using ha) (by omega) (by omega) (by omega)]
    congr 1
    rw [List.drop_eq_getElem_cons hlt, List.map_cons]
    have ht : (acc.set i (cvNode l[i])).take (i + 1) = acc.take i ++ [cvNode l[i]] := by
      rw [List.take_succ_eq_append_getElem (by simpa using (by omega : i < acc.length)), List.take_set_of_le (by omega)]
      simp
    show (acc.set i (cvNode l[i])).take (i + 1) ++ _ = _
    rw [ht, List.append_assoc]; rfl
theorem toNode (l : List S34) (hl : l.length ≤ 1048576) : Ev (fun k => laws_toNodeS.f k l) (l.map cvNode) := by
  refine ev_of (l.length + 2) fun k hk => ?_
  unfold laws_toNodeS.f
  rw [if_pos (by omega), if_pos (by omega)]
  have := toNode_from l hl l.length k (List.replicate ((l.length : Int) : Int).toNat z36) 0 (by simp) (by omega) (by omega) (by omega)
  simpa using this


theorem eqNode_one (x : S36) : laws_eqNode.f x.f0 x.f1 x.f2 x.f3 x.f4 x.f5 x.f0 x.f1 x.f2 x.f3 x.f4 x.f5 = some true := by
  unfold laws_eqNode.f; simp
theorem eqNode_from (l : List S36) (hl : l.length ≤ 4611686018427387904) (d : Nat) : ∀ (k i : Nat), i ≤ l.length → l.length - i = d → d < k → laws_eqNodeS.l0 k l l (i : Int) = some true := by
  induction d with
  | zero =>
    intro k i hi hd hk
    obtain ⟨k, rfl⟩ : ∃ m, k = m + 1 := ⟨k - 1, by omega⟩
    simp only [laws_eqNodeS.l0]
    rw [if_neg (by omega)]
  | succ d ih =>
    intro k i hi hd hk
    obtain ⟨k, rfl⟩ : ∃ m, k = m + 1 := ⟨k - 1, by omega⟩
    simp only [laws_eqNodeS.l0]
    rw [if_pos (by omega), if_pos (by omega), if_pos (by omega), eqNode_one]
    simp only [Option.bind_some, if_true]
    rw [wrap_id (by omega) (by omega), show ((i : Int) + 1) = ((i + 1 : Nat) : Int) by omega]
    exact ih k (i + 1) (by omega) (by omega) (by omega)
theorem eqNode (l : List S36) (hl : l.length ≤ 4611686018427387904) : Ev (fun k => laws_eqNodeS.f k l l) true := by
  refine ev_of (l.length + 2) fun k hk => ?_
  unfold laws_eqNodeS.f
  rw [if_pos rfl]
  exact eqNode_from l hl l.length k 0 (by omega) (by omega) (by omega)


def mkNode (m : Int) : S36 := ⟨m, m + 1, m + 2, m + 3, m + 4, m + 5⟩
def mksNode : Nat → Int → List S36
  | 0, _ => []
  | c + 1, m => mkNode m :: mksNode c (m + 6)
theorem mksNode_len (c : Nat) : ∀ m, (mksNode c m).length = c := by
  induction c with
  | zero => intro m; rfl
  | succ c ih => intro m; simp [mksNode, ih]
theorem markNode_from (d : Nat) : ∀ (k : Nat) (l : List S36) (i : Nat) (m : Int), l.length ≤ 576460752303423488 → 0 ≤ m → m + 6 * (l.length - i : Nat) ≤ 9223372036854775807 → i ≤ l.length → l.length - i = d → d < k →
    laws_markNodeS.l0 k l m (i : Int) = some (m + 6 * (d : Int), l.take i ++ mksNode d m) := by
  induction d with
  | zero =>
    intro k l i m hl h0 h1 hi hd hk
    obtain ⟨k, rfl⟩ : ∃ m, k = m + 1 := ⟨k - 1, by omega⟩
    simp only [laws_markNodeS.l0]
    rw [if_neg (by omega), List.take_of_length_le (by omega)]; simp [mksNode]
  | succ d ih =>
    intro k l i m hl h0 h1 hi hd hk
    obtain ⟨k, rfl⟩ : ∃ m, k = m + 1 := ⟨k - 1, by omega⟩
    have hlt : i < l.length := by omega
    have hset : ∀ (x : S36) (l : List S36), i < l.length → rd_T36 (l.set i x) (i : Int) = x := by
      intro x l hlt
      unfold rd_T36
      rw [Int.toNat_natCast, List.getD_eq_getElem?_getD, List.getElem?_set_self hlt]; rfl
    simp only [laws_markNodeS.l0]
    rw [if_pos (by omega), if_pos (by omega)]
    simp only [Option.bind_some, Int.toNat_natCast]
    simp only [hset _ _ hlt, hset _ _ (by simpa using hlt : i < (l.set i _).length), List.set_set, List.length_set, hlt]
    rw [wrap_id (x := m + 1) (by omega) (by omega)]
    rw [wrap_id (x := m + 1 + 1) (by omega) (by omega)]
    rw [wrap_id (x := m + 1 + 1 + 1) (by omega) (by omega)]
    rw [wrap_id (x := m + 1 + 1 + 1 + 1) (by omega) (by omega)]
    rw [wrap_id (x := m + 1 + 1 + 1 + 1 + 1) (by omega) (by omega)]
    rw [wrap_id (x := m + 1 + 1 + 1 + 1 + 1 + 1) (by omega) (by omega)]
    rw [wrap_id (x := (i : Int) + 1) (by omega) (by omega)]
    rw [show ((i : Int) + 1) = ((i + 1 : Nat) : Int) by omega]
    rw [show m + 1 + 1 + 1 + 1 + 1 + 1 = m + 6 by omega]
    rw [ih k _ (i + 1) (m + 6) (by simpa using hl) (by omega) (by rw [List.length_set]; omega) (by rw [List.length_set]; omega) (by rw [List.length_set]; omega) (by omega)]
    congr 1
    rw [Prod.mk.injEq]
    refine ⟨by omega, ?_⟩
    rw [List.take_succ_eq_append_getElem (by simpa using hlt), List.take_set_of_le (by omega), List.append_assoc]
    simp only [List.getElem_set_self, List.singleton_append, mksNode, mkNode]
    try simp only [show ∀ z : Int, z + 1 + 1 = z + 2 from fun z => by omega]
    try simp [Int.add_assoc]
theorem markNode (l : List S36) (hl : l.length ≤ 576460752303423488) : Ev (fun k => laws_markNodeS.f k l 1) (1 + 6 * (l.length : Int), mksNode l.length 1) := by
  refine ev_of (l.length + 2) fun k hk => ?_
  unfold laws_markNodeS.f
  have := markNode_from l.length k l 0 1 (by omega) (by omega) (by omega) (by omega) (by omega) (by omega)
  simpa using this


theorem heldNode_from (d : Nat) : ∀ (k : Nat) (l : List S36) (i : Nat) (m : Int), l.length ≤ 576460752303423488 → 0 ≤ m → m + 6 * (d : Int) ≤ 9223372036854775807 → i ≤ l.length → l.length - i = d → l.drop i = mksNode d m → d < k →
    laws_heldNodeS.l0 k l m (i : Int) = some (m + 6 * (d : Int)) := by
  induction d with
  | zero =>
    intro k l i m hl h0 h1 hi hd he hk
    obtain ⟨k, rfl⟩ : ∃ m, k = m + 1 := ⟨k - 1, by omega⟩
    simp only [laws_heldNodeS.l0]
    rw [if_neg (by omega)]; simp
  | succ d ih =>
    intro k l i m hl h0 h1 hi hd he hk
    obtain ⟨k, rfl⟩ : ∃ m, k = m + 1 := ⟨k - 1, by omega⟩
    have hlt : i < l.length := by omega
    have hx : rd_T36 l (i : Int) = mkNode m := by
      unfold rd_T36
      rw [Int.toNat_natCast, List.getD_eq_getElem?_getD, List.getElem?_eq_getElem hlt]
      rw [List.drop_eq_getElem_cons hlt, mksNode] at he
      exact (List.cons.inj he).1
    have he2 : l.drop (i + 1) = mksNode d (m + 6) := by
      rw [List.drop_eq_getElem_cons hlt, mksNode] at he
      exact (List.cons.inj he).2
    simp only [laws_heldNodeS.l0]
    rw [if_pos (by omega), if_pos (by omega), hx]
    simp only [mkNode]
    rw [wrap_id (x := m + 1) (by omega) (by omega)]
    rw [wrap_id (x := m + 1 + 1) (by omega) (by omega)]
    rw [wrap_id (x := m + 1 + 1 + 1) (by omega) (by omega)]
    rw [wrap_id (x := m + 1 + 1 + 1 + 1) (by omega) (by omega)]
    rw [wrap_id (x := m + 1 + 1 + 1 + 1 + 1) (by omega) (by omega)]
    rw [wrap_id (x := m + 1 + 1 + 1 + 1 + 1 + 1) (by omega) (by omega)]
    rw [wrap_id (x := (i : Int) + 1) (by omega) (by omega)]
    simp only [show m + 1 + 1 = m + 2 by omega, show m + 2 + 1 = m + 3 by omega, show m + 3 + 1 = m + 4 by omega, show m + 4 + 1 = m + 5 by omega, show m + 5 + 1 = m + 6 by omega, if_true, bne_self_eq_false, Bool.false_eq_true, if_false]
    rw [show ((i : Int) + 1) = ((i + 1 : Nat) : Int) by omega]
    rw [ih k l (i + 1) (m + 6) hl (by omega) (by omega) (by omega) (by omega) he2 (by omega)]
    congr 1; omega
theorem heldNode (c : Nat) (hl : c ≤ 576460752303423488) : Ev (fun k => laws_heldNodeS.f k (mksNode c 1) 1) (1 + 6 * (c : Int)) := by
  refine ev_of (c + 2) fun k hk => ?_
  unfold laws_heldNodeS.f
  have hlen := mksNode_len c 1
  exact heldNode_from c k (mksNode c 1) 0 1 (by omega) (by omega) (by omega) (by omega) (by omega) rfl (by omega)


theorem partsS (op w q a b c : Int) {k : Nat} (hk : 1 ≤ k) : spec_Parts.f k op w q a b c = some (partsL op a b c) := by
  obtain ⟨k, rfl⟩ : ∃ m, k = m + 1 := ⟨k - 1, by omega⟩
  unfold spec_Parts.f partsL
  simp only [spec_Parts.j0, inS]
  by_cases h2 : op = 2
  · subst h2; simp
  · by_cases h17 : op = 17
    · subst h17; simp
    · by_cases h19 : op = 19
      · subst h19; simp
      · by_cases h20 : op = 20
        · subst h20; simp
        · have hq : ¬ (op = 2 ∨ op = 17 ∨ op = 19 ∨ op = 20) := by omega
          rw [if_neg h2, if_neg h17, if_neg h19, if_neg (by simpa using h20), if_neg hq]
          simp only [Option.bind_some, decide_eq_true_eq]
          by_cases h3 : 3 ≤ op ∧ op ≤ 16
          · rw [if_pos h3, if_pos h3]
          · rw [if_neg h3, if_neg h3]
            by_cases h18 : op = 18
            · rw [if_pos h18, if_pos h18]
            · rw [if_neg h18, if_neg h18]


theorem rdN (l : List S36) (i : Nat) (h : i < l.length) : rd_T36 l (i : Int) = l[i] := by
  unfold rd_T36
  rw [Int.toNat_natCast, List.getD_eq_getElem?_getD, List.getElem?_eq_getElem h]; rfl
theorem rdI (l : List Int) (i : Nat) (h : i < l.length) : rd l (i : Int) = l[i] := by simp [rd, h]
theorem inB_iff {x a b : Int} : inB x a b = true ↔ a ≤ x ∧ x ≤ b := by simp [inB]
theorem inSB (x a b : Int) : spec_l01In.f x a b = some (inB x a b) := inS x a b
theorem node_l0 (l : List S36) (i : Int) (hi0 : 0 ≤ i) (hi1 : i ≤ 9223372036854775807) (ps : List Int) (hps : ps.length ≤ 3) (n0 n1 n2 n3 n4 n5 : Int) (r : Bool)
    (h1 : (∀ p ∈ ps, inB p 0 (i - 1) = true) → Ev (fun k => spec_l02Node.l0 k l i ps (ps.length : Int) n0 n1 n2 n3 n4 n5) r) (h2 : (¬ ∀ p ∈ ps, inB p 0 (i - 1) = true) → r = false) (d : Nat) :
    ∀ j : Nat, j + d = ps.length → (∀ t : Nat, t < j → inB (rd ps (t : Int)) 0 (i - 1) = true) → Ev (fun k => spec_l02Node.l0 k l i ps (j : Int) n0 n1 n2 n3 n4 n5) r := by
  induction d with
  | zero =>
    intro j hj hA
    obtain rfl : j = ps.length := by omega
    refine h1 fun p hp => ?_
    obtain ⟨t, ht, rfl⟩ := List.getElem_of_mem hp
    rw [← rdI ps t ht]; exact hA t ht
  | succ d ih =>
    intro j hj hA
    have hlt : j < ps.length := by omega
    refine ev_succ ?_
    simp only [spec_l02Node.l0]
    refine ev_pos (by omega) (ev_pos (by omega) (ev_bind0 (inSB _ _ _) ?_))
    rw [wrap_id (x := i - 1) (by omega) (by omega)]
    by_cases hb : inB (rd ps (j : Int)) 0 (i - 1) = true
    · refine ev_pos hb ?_
      rw [wrap_id (by omega) (by omega)]
      refine ih (j + 1) (by omega) fun t ht => ?_
      rcases Nat.lt_or_ge t j with h | h
      · exact hA t h
      · obtain rfl : t = j := by omega
        exact hb
    · refine ev_neg hb ?_
      rw [h2 fun h => hb (by rw [rdI ps j hlt]; exact h _ (List.getElem_mem hlt))]
      exact ev_now
theorem node_l1 (l : List S36) (hl : l.length ≤ 4611686018427387904) (ps : List Int) (hps : ps.length ≤ 3) (hp : ∀ p ∈ ps, 0 ≤ p ∧ p < (l.length : Int)) (n0 n1 n2 n3 n4 n5 : Int) (r : Bool)
    (h : Ev (fun k => spec_l02Node.l1 k l ps (ps.map fun p => (rd_T36 l p).f1) (ps.length : Int) n0 n1 n2 n3 n4 n5) r) (d : Nat) :
    ∀ j : Nat, j + d = ps.length → Ev (fun k => spec_l02Node.l1 k l ps ((ps.take j).map fun p => (rd_T36 l p).f1) (j : Int) n0 n1 n2 n3 n4 n5) r := by
  induction d with
  | zero =>
    intro j hj
    obtain rfl : j = ps.length := by omega
    rw [List.take_of_length_le (by omega)]; exact h
  | succ d ih =>
    intro j hj
    have hlt : j < ps.length := by omega
    have hq := hp _ (List.getElem_mem hlt)
    refine ev_succ ?_
    simp only [spec_l02Node.l1]
    rw [rdI ps j hlt]
    refine ev_pos (by omega) (ev_pos (by omega) (ev_pos hq.1 (ev_pos hq.2 (ev_pos (by simp; omega) ?_))))
    rw [wrap_id (by omega) (by omega), show ((j : Int) + 1) = ((j + 1 : Nat) : Int) by omega]
    have := ih (j + 1) (by omega)
    rwa [List.take_succ_eq_append_getElem hlt, List.map_append] at this
theorem rd_take (l : List S36) (i : Nat) (p : Int) (h0 : 0 ≤ p) (h1 : p < i) : rd_T36 (l.take i) p = rd_T36 l p := by
  unfold rd_T36
  rw [List.getD_eq_getElem?_getD, List.getD_eq_getElem?_getD, List.getElem?_take, if_pos (by omega)]
theorem sw_ev (l : List S36) (ps ws : List Int) (op W K A B C : Int) (hps : ps = partsL op A B C) (hws : ws.length = ps.length) :
    Ev (fun k => spec_l02Node.l1 k l ps ws (ps.length : Int) op W K A B C) (inB op 0 20 && usesB op K A B C && rightSw op W K B (ws.getD 0 0) (ws.getD 1 0) (ws.getD 2 0)) := by
  have hl := partsL_len op A B C
  refine ev_of 60 fun k hk => ?_
  obtain ⟨k, rfl⟩ : ∃ m, k = m + 2 := ⟨k - 2, by omega⟩
  simp only [spec_l02Node.l1]
  rw [if_neg (by omega), wokS _ _ (by omega), inSB, inSB, inSB]
  simp only [Option.bind_some, spec_l02Node.j2, inSB]
  have rd0 : rd ws 0 = ws.getD 0 0 := rfl
  have rd1 : rd ws 1 = ws.getD 1 0 := rfl
  have rd2 : rd ws 2 = ws.getD 2 0 := rfl
  rw [rd0, rd1, rd2]
  generalize ws.getD 0 0 = u
  generalize ws.getD 1 0 = v
  generalize ws.getD 2 0 = x
  by_cases h0 : op = 0
  · subst h0; simp [inB, usesB, rightSw]; by_cases g : wok W K = true <;> by_cases a : A = 0 <;> by_cases b : B = 0 <;> simp [g, a, b]
  rw [if_neg h0]
  by_cases h1 : op = 1
  · subst h1; by_cases g : inB K 0 7 = true <;> by_cases a : A = 0 <;> by_cases b : B = 0 <;> simp [usesB, rightSw, g, a, b, inB_iff.mpr (show (0 : Int) ≤ 1 ∧ (1 : Int) ≤ 20 by omega)]
  rw [if_neg h1]
  by_cases h2 : op = 2
  · subst h2
    have hn : (0 : Int) < (ws.length : Int) := by rw [hws, hps]; simp [partsL]
    rw [if_pos rfl, if_pos hn]
    by_cases a : u = W <;> by_cases b : K = 0 <;> by_cases c : B = 0 <;> simp [inB, usesB, rightSw, a, b, c]
  rw [if_neg h2]
  by_cases h3 : 3 ≤ op ∧ op ≤ 12
  · have e : ps = [A, B] := by rw [hps]; unfold partsL; rw [if_neg (by omega), if_pos (by omega)]
    have hn : ws.length = 2 := by rw [hws, e]; rfl
    rw [if_pos (inB_iff.mpr h3), if_pos (by omega), if_pos (c := (1 : Int) < _) (by omega)]
    have hu : usesB op K A B C = (K == 0 && C == 0) := by unfold usesB; rw [if_neg (by omega), if_neg (by omega), if_neg (by omega), if_neg (by omega), if_pos (by omega)]
    have hr : rightSw op W K B u v x = (u == W && v == W) := by unfold rightSw; rw [if_neg (by omega), if_neg (by omega), if_neg (by omega), if_pos (by omega)]
    rw [hu, hr, inB_iff.mpr (show 0 ≤ op ∧ op ≤ 20 by omega)]
    by_cases a : u = W <;> by_cases b : K = 0 <;> by_cases c : v = W <;> simp [a, b, c]
  rw [if_neg (fun h => h3 (inB_iff.mp h))]
  by_cases h4 : 13 ≤ op ∧ op ≤ 15
  · have e : ps = [A, B] := by rw [hps]; unfold partsL; rw [if_neg (by omega), if_pos (by omega)]
    have hn : ws.length = 2 := by rw [hws, e]; rfl
    rw [if_pos (inB_iff.mpr h4), if_pos (by omega), if_pos (c := (1 : Int) < _) (by omega)]
    have hu : usesB op K A B C = (K == 0 && C == 0) := by unfold usesB; rw [if_neg (by omega), if_neg (by omega), if_neg (by omega), if_neg (by omega), if_pos (by omega)]
    have hr : rightSw op W K B u v x = (u == v && W == 1) := by unfold rightSw; rw [if_neg (by omega), if_neg (by omega), if_neg (by omega), if_neg (by omega), if_pos (by omega)]
    rw [hu, hr, inB_iff.mpr (show 0 ≤ op ∧ op ≤ 20 by omega)]
    by_cases a : u = v <;> by_cases b : K = 0 <;> by_cases c : W = 1 <;> simp [a, b, c]
  rw [if_neg (fun h => h4 (inB_iff.mp h))]
  by_cases h16 : op = 16
  · subst h16
    have hn : ws.length = 2 := by rw [hws, hps]; rfl
    rw [if_pos rfl, if_pos (by omega), if_pos (c := (1 : Int) < _) (by omega)]
    by_cases a : wrap64 (u + v) = W <;> by_cases b : K = 0 <;> simp [inB, usesB, rightSw, a, b]
  rw [if_neg h16]
  by_cases h17 : op = 17
  · subst h17
    have hn : ws.length = 1 := by rw [hws, hps]; rfl
    rw [if_pos rfl, if_pos (c := (0 : Int) < _) (by omega)]
    by_cases a : 0 ≤ K <;> by_cases b : K ≤ wrap64 (u - W) <;> by_cases c : B = 0 <;> simp [inB, usesB, rightSw, a, b, c]
  rw [if_neg h17]
  by_cases h18 : op = 18
  · subst h18
    have hn : ws.length = 3 := by rw [hws, hps]; rfl
    rw [if_pos rfl, if_pos (c := (0 : Int) < _) (by omega), if_pos (c := (1 : Int) < _) (by omega), if_pos (c := (2 : Int) < _) (by omega)]
    by_cases a : u = 1 <;> by_cases b : v = W <;> by_cases c : x = W <;> simp [inB, usesB, rightSw, a, b, c]
  rw [if_neg h18]
  by_cases h19 : op = 19
  · subst h19
    have hn : ws.length = 1 := by rw [hws, hps]; rfl
    rw [if_pos rfl, if_pos trivial, if_pos (c := (0 : Int) < _) (by omega)]
    by_cases a : inB K 0 7 = true <;> by_cases b : inB B 1 8 = true <;> by_cases c : u = 1 <;> by_cases d : W = 1 <;> simp [usesB, rightSw, a, b, c, d, inB_iff.mpr (show (0 : Int) ≤ 19 ∧ (19 : Int) ≤ 20 by omega)]
  rw [if_neg h19]
  by_cases h20 : op = 20
  · subst h20
    have hn : ws.length = 1 := by rw [hws, hps]; rfl
    rw [if_pos (by rfl), if_pos (c := (0 : Int) < _) (by omega)]
    by_cases a : inB K 0 7 = true <;> by_cases b : inB B 1 8 = true <;> by_cases c : u = 1 <;> by_cases d : W = 1 <;> simp [usesB, rightSw, a, b, c, d, inB_iff.mpr (show (0 : Int) ≤ 20 ∧ (20 : Int) ≤ 20 by omega)]
  rw [if_neg (by simpa using h20)]
  have hn : inB op 0 20 = false := by simp [inB]; omega
  simp [hn]
theorem node_ev (l : List S36) (hl : l.length ≤ 4611686018427387904) (i : Nat) (hi : i < l.length) : Ev (fun k => spec_l02Node.f k l (i : Int)) (rightB (l.take i) (rd_T36 l i).f0 (rd_T36 l i).f1 (rd_T36 l i).f2 (rd_T36 l i).f3 (rd_T36 l i).f4 (rd_T36 l i).f5) := by
  unfold spec_l02Node.f
  refine ev_pos (by omega) (ev_pos (by omega) (ev_bind (ev_of 1 fun k hk => partsS _ _ _ _ _ _ hk) ?_))
  generalize (rd_T36 l i).f0 = op
  generalize (rd_T36 l i).f1 = W
  generalize (rd_T36 l i).f2 = K
  generalize (rd_T36 l i).f3 = A
  generalize (rd_T36 l i).f4 = B
  generalize (rd_T36 l i).f5 = C
  have hlen := partsL_len op A B C
  have htk : ((l.take i).length : Int) = i := by rw [List.length_take]; omega
  refine node_l0 l i (by omega) (by omega) _ hlen op W K A B C _ (fun hall => ?_) (fun hn => ?_) _ 0 (Nat.zero_add _) (fun t ht => absurd ht (by omega))
  · refine ev_succ ?_
    simp only [spec_l02Node.l0]
    refine ev_neg (by omega) (ev_bind0 (inSB _ _ _) ?_)
    have hall' : (partsL op A B C).all (fun p => inB p 0 (((l.take i).length : Int) - 1)) = true := by rw [htk]; exact List.all_eq_true.mpr hall
    unfold rightB
    rw [hall']
    by_cases hw : inB W 1 8 = true
    · refine ev_pos hw ?_
      rw [hw]
      have hwv : ∀ t : Nat, wv (l.take i) (partsL op A B C) (partsL op A B C).length t = ((partsL op A B C).map fun p => (rd_T36 l p).f1).getD t 0 := by
        intro t
        unfold wv
        by_cases ht : t < (partsL op A B C).length
        · rw [if_pos ht, rdI _ t ht, List.getD_eq_getElem?_getD, List.getElem?_map, List.getElem?_eq_getElem ht]
          have := inB_iff.mp (hall _ (List.getElem_mem ht))
          rw [rd_take l i _ this.1 (by omega)]; rfl
        · rw [if_neg ht, List.getD_eq_getElem?_getD, List.getElem?_eq_none (by simp; omega)]; rfl
      rw [hwv, hwv, hwv]
      simp only [Bool.true_and, Bool.and_true]
      exact node_l1 l hl _ hlen (fun p hp => by have := inB_iff.mp (hall p hp); omega) op W K A B C _ (sw_ev l _ _ op W K A B C rfl (by simp)) _ 0 (Nat.zero_add _)
    · have hw' : inB W 1 8 = false := by simpa using hw
      refine ev_neg hw ?_
      rw [hw']; simp only [Bool.false_and]; exact ev_now
  · unfold rightB
    have hnot : (partsL op A B C).all (fun p => inB p 0 (((l.take i).length : Int) - 1)) = false := by
      rw [htk]
      cases e : (partsL op A B C).all (fun p => inB p 0 ((i : Int) - 1)) with
      | false => rfl
      | true => exact absurd (List.all_eq_true.mp e) hn
    rw [hnot]; simp


/-- Node i of a list is right. -/
def nodeB (l : List S36) (i : Nat) : Bool := rightB (l.take i) (rd_T36 l i).f0 (rd_T36 l i).f1 (rd_T36 l i).f2 (rd_T36 l i).f3 (rd_T36 l i).f4 (rd_T36 l i).f5
def NodesOk (l : List S36) : Prop := ∀ i < l.length, nodeB l i = true
def TermOkP (l : List S36) : Prop := 1 ≤ l.length ∧ l.length ≤ 80 ∧ NodesOk l
theorem termS_from (l : List S36) (hl : l.length ≤ 80) (d : Nat) : ∀ i : Nat, i + d = l.length → ∃ r, Ev (fun k => spec_TermOk.l0 k l (i : Int)) r ∧ Ev (fun k => impl_TermOk.l0 k l l (l.length : Int) (i : Int)) r ∧ (r = true ↔ ∀ j < l.length, i ≤ j → nodeB l j = true) := by
  induction d with
  | zero =>
    intro i hi
    refine ⟨true, ev_succ ?_, ev_succ ?_, by simp; intro j h1 h2; omega⟩
    · simp only [spec_TermOk.l0]; exact ev_neg (by omega) ev_now
    · simp only [impl_TermOk.l0]; exact ev_neg (by omega) ev_now
  | succ d ih =>
    intro i hi
    have hlt : i < l.length := by omega
    obtain ⟨r, e1, e2, h⟩ := ih (i + 1) (by omega)
    have hn := node_ev l (by omega) i hlt
    by_cases hb : nodeB l i = true
    · refine ⟨r, ev_succ ?_, ev_succ ?_, ?_⟩
      · simp only [spec_TermOk.l0]
        refine ev_pos (by omega) (ev_bind hn (ev_pos hb ?_))
        rw [wrap_id (by omega) (by omega), show ((i : Int) + 1) = ((i + 1 : Nat) : Int) by omega]; exact e1
      · simp only [impl_TermOk.l0]
        refine ev_pos (by omega) (ev_pos (by omega) (ev_pos (by omega) (ev_pos (by omega) (ev_bind0 rfl (ev_pos hb ?_)))))
        rw [wrap_id (by omega) (by omega), show ((i : Int) + 1) = ((i + 1 : Nat) : Int) by omega]; exact e2
      · rw [h]
        constructor
        · intro hh j h1 h2
          rcases Nat.lt_or_ge i j with h3 | h3
          · exact hh j h1 h3
          · obtain rfl : i = j := by omega
            exact hb
        · intro hh j h1 h2
          exact hh j h1 (by omega)
    · refine ⟨false, ev_succ ?_, ev_succ ?_, ?_⟩
      · simp only [spec_TermOk.l0]
        exact ev_pos (by omega) (ev_bind hn (ev_neg hb ev_now))
      · simp only [impl_TermOk.l0]
        exact ev_pos (by omega) (ev_pos (by omega) (ev_pos (by omega) (ev_pos (by omega) (ev_bind0 rfl (ev_neg hb ev_now)))))
      · simp only [Bool.false_eq_true, false_iff]
        intro hh
        exact hb (hh i hlt (by omega))
theorem term_ev (l : List S36) : ∃ r, Ev (fun k => spec_TermOk.f k l) r ∧ Ev (fun k => impl_TermOk.f k l) r ∧ (r = true ↔ TermOkP l) := by
  by_cases hb : 1 ≤ (l.length : Int) ∧ (l.length : Int) ≤ 80
  · obtain ⟨r, e1, e2, h⟩ := termS_from l (by omega) l.length 0 (by omega)
    refine ⟨r, ?_, ?_, ?_⟩
    · unfold spec_TermOk.f; exact ev_bind0 (inS _ _ _) (ev_pos (by simpa using hb) e1)
    · unfold impl_TermOk.f; exact ev_bind0 (inI _ _ _) (ev_pos (by simpa using hb) e2)
    · rw [h]; unfold TermOkP NodesOk
      constructor
      · intro hh; exact ⟨by omega, by omega, fun i hi => hh i hi (by omega)⟩
      · intro hh j h1 _; exact hh.2.2 j h1
  · refine ⟨false, ?_, ?_, ?_⟩
    · unfold spec_TermOk.f; exact ev_bind0 (inS _ _ _) (ev_neg (by simpa using hb) ev_now)
    · unfold impl_TermOk.f; exact ev_bind0 (inI _ _ _) (ev_neg (by simpa using hb) ev_now)
    · simp only [Bool.false_eq_true, false_iff]; unfold TermOkP; omega


/-- The places of node i's parts. -/
def pl (l : List S36) (i : Nat) : List Int := partsL (rd_T36 l i).f0 (rd_T36 l i).f3 (rd_T36 l i).f4 (rd_T36 l i).f5
def PartsIn (l : List S36) : Prop := ∀ i < l.length, ∀ p ∈ pl l i, 0 ≤ p ∧ p < (i : Int)
theorem parts_in {l : List S36} (h : NodesOk l) : PartsIn l := by
  intro i hi p hp
  have hb := h i hi
  unfold nodeB rightB at hb
  simp only [Bool.and_eq_true] at hb
  have := inB_iff.mp (List.all_eq_true.mp hb.1.2 p hp)
  rw [List.length_take] at this
  omega
def setAll (met : List Bool) (ps : List Int) : List Bool := ps.foldl (fun m p => m.set p.toNat true) met
theorem setAll_len (ps : List Int) : ∀ met : List Bool, (setAll met ps).length = met.length := by
  induction ps with
  | nil => intro met; rfl
  | cons p ps ih => intro met; show (setAll (met.set p.toNat true) ps).length = _; rw [ih, List.length_set]
/-- Going down from node j - 1: who is met. -/
def stepR (pb : Nat → Bool) (l : List S36) (j : Nat) (met : List Bool) : List Bool := if met.getD j false = true ∧ pb j = true then setAll met (pl l j) else met
def rgo (pb : Nat → Bool) (l : List S36) : Nat → List Bool → List Bool
  | 0, met => met
  | j + 1, met => rgo pb l j (stepR pb l j met)
theorem stepR_len (pb : Nat → Bool) (l : List S36) (j : Nat) (met : List Bool) : (stepR pb l j met).length = met.length := by
  unfold stepR; split
  · rw [setAll_len]
  · rfl
theorem rgo_len (pb : Nat → Bool) (l : List S36) (j : Nat) : ∀ met, (rgo pb l j met).length = met.length := by
  induction j with
  | zero => intro met; rfl
  | succ j ih => intro met; show (rgo pb l j _).length = _; rw [ih, stepR_len]
def reachL (pb : Nat → Bool) (l : List S36) (root : Nat) : List Bool := rgo pb l (root + 1) ((List.replicate l.length false).set root true)
theorem reachL_len (pb : Nat → Bool) (l : List S36) (root : Nat) : (reachL pb l root).length = l.length := by unfold reachL; rw [rgo_len]; simp
theorem rdB (l : List Bool) (i : Nat) (h : i < l.length) : rdOf false l (i : Int) = l[i] := by
  unfold rdOf
  rw [Int.toNat_natCast, List.getD_eq_getElem?_getD, List.getElem?_eq_getElem h]; rfl
theorem gdB (l : List Bool) (i : Nat) (h : i < l.length) : l.getD i false = l[i] := by
  rw [List.getD_eq_getElem?_getD, List.getElem?_eq_getElem h]; rfl
theorem setAll_drop (ps : List Int) (t : Nat) (h : t < ps.length) (met : List Bool) : setAll met (ps.drop t) = setAll (met.set (rd ps (t : Int)).toNat true) (ps.drop (t + 1)) := by
  rw [List.drop_eq_getElem_cons h, rdI ps t h]; rfl


theorem isqI (a b c d e f : Int) : impl_isQuant.f a b c d e f = some ((a == 19) || (a == 20)) := by
  unfold impl_isQuant.f
  by_cases h : a = 19
  · rw [if_pos h]; simp [h]
  · rw [if_neg h]; simp [h]


theorem isqS (a : Int) : spec_l02Quant.f a = some ((a == 19) || (a == 20)) := by
  unfold spec_l02Quant.f
  by_cases h : a = 19
  · rw [if_pos h]; simp [h]
  · rw [if_neg h]; simp [h]


def repN (v q : Int) (x : S36) : S36 := if x.f0 = 1 ∧ x.f2 = v then ⟨0, x.f1, q, 0, 0, 0⟩ else x
theorem var_plain {l : List S36} (h : NodesOk l) (i : Nat) (hi : i < l.length) (ho : l[i].f0 = 1) : l[i].f3 = 0 ∧ l[i].f4 = 0 ∧ l[i].f5 = 0 := by
  have hb := h i hi
  unfold nodeB rightB at hb
  rw [rdN l i hi] at hb
  simp only [Bool.and_eq_true] at hb
  have := hb.1.1.2
  unfold usesB at this
  rw [if_pos (Or.inr ho)] at this
  simpa [and_assoc] using this
theorem rep_step (v q : Int) (l : List S36) (i : Nat) (hi : i < l.length) : (l.take (i + 1)).map (repN v q) = (l.take i).map (repN v q) ++ [repN v q l[i]] := by
  rw [List.take_succ_eq_append_getElem hi, List.map_append]; rfl
theorem rep_set (v q : Int) (l : List S36) (i : Nat) (hi : i < l.length) (y : S36) (hy : y = repN v q l[i]) : ((l.take i).map (repN v q) ++ l.drop i).set i y = (l.take (i + 1)).map (repN v q) ++ l.drop (i + 1) := by
  subst hy
  have hlen : ((l.take i).map (repN v q)).length = i := by rw [List.length_map, List.length_take]; omega
  rw [List.set_append_right _ _ (by omega), hlen, Nat.sub_self, List.drop_eq_getElem_cons hi, List.set_cons_zero, rep_step v q l i hi, List.append_assoc]; rfl
theorem rep_same (v q : Int) (l : List S36) (i : Nat) (hi : i < l.length) (hy : repN v q l[i] = l[i]) : (l.take i).map (repN v q) ++ l.drop i = (l.take (i + 1)).map (repN v q) ++ l.drop (i + 1) := by
  rw [rep_step v q l i hi, hy, List.append_assoc, List.drop_eq_getElem_cons hi]; rfl
theorem rep_from (v q : Int) (l : List S36) (hl : l.length ≤ 80) (hN : NodesOk l) (d : Nat) : ∀ i : Nat, i + d = l.length →
    ∃ r : List S36 × Bool, Ev (fun k => spec_Replace.l0 k l v q ((l.take i).map (repN v q)) (i : Int)) r ∧ Ev (fun k => impl_Replace.l0 k v q ((l.take i).map (repN v q) ++ l.drop i) l (l.length : Int) (i : Int)) r ∧ r.1.length ≤ 80 := by
  induction d with
  | zero =>
    intro i hi
    obtain rfl : i = l.length := by omega
    refine ⟨(l.map (repN v q), true), ev_succ ?_, ev_succ ?_, by simpa using hl⟩
    · simp only [spec_Replace.l0]
      refine ev_neg (by omega) ?_
      rw [List.take_of_length_le (Nat.le_refl _)]; exact ev_now
    · simp only [impl_Replace.l0]
      refine ev_neg (by omega) ?_
      rw [List.take_of_length_le (Nat.le_refl _), List.drop_eq_nil_of_le (Nat.le_refl _), List.append_nil]; exact ev_now
  | succ d ih =>
    intro i hi
    have hlt : i < l.length := by omega
    have hlen : ((l.take i).map (repN v q)).length = i := by rw [List.length_map, List.length_take]; omega
    have hlen2 : ((l.take i).map (repN v q) ++ l.drop i).length = l.length := by rw [List.length_append, hlen, List.length_drop]; omega
    obtain ⟨r, e1, e2, hr⟩ := ih (i + 1) (by omega)
    have hpl := var_plain hN i hlt
    have key : (((l[i].f0 == 19) || (l[i].f0 == 20)) = true ∧ l[i].f2 = v) ∨ (l[i].f0 = 1 ∧ l[i].f2 = v ∧ wok l[i].f1 q = false) ∨ (l[i].f0 = 1 ∧ l[i].f2 = v ∧ wok l[i].f1 q = true) ∨ (¬ (l[i].f0 = 1 ∧ l[i].f2 = v) ∧ ¬ (((l[i].f0 == 19) || (l[i].f0 == 20)) = true ∧ l[i].f2 = v)) := by
      by_cases a : ((l[i].f0 == 19) || (l[i].f0 == 20)) = true ∧ l[i].f2 = v
      · exact Or.inl a
      · by_cases b : l[i].f0 = 1 ∧ l[i].f2 = v
        · cases c : wok l[i].f1 q
          · exact Or.inr (Or.inl ⟨b.1, b.2, rfl⟩)
          · exact Or.inr (Or.inr (Or.inl ⟨b.1, b.2, rfl⟩))
        · exact Or.inr (Or.inr (Or.inr ⟨b, a⟩))
    have wS : ∀ w a : Int, Ev (fun k => spec_WordOk.f k w a) (wok w a) := fun w a => ev_of 20 fun k hk => wokS w a hk
    -- where the node is left, or replaced
    have goS : ∀ (op W K A B C : Int), l[i] = ⟨op, W, K, A, B, C⟩ → Ev (fun k => spec_Replace.j1 k l v q ((l.take i).map (repN v q)) (i : Int) false op W K A B C) r := by
      intro op W K A B C e
      refine ev_succ ?_
      simp only [spec_Replace.j1]
      refine ev_neg (by decide) ?_
      have nx : ∀ y : S36, y = repN v q l[i] → Ev (fun k => spec_Replace.l0 k l v q ((l.take i).map (repN v q) ++ [y]) (wrap64 ((i : Int) + 1))) r := by
        rintro y rfl
        rw [wrap_id (by omega) (by omega), show ((i : Int) + 1) = ((i + 1 : Nat) : Int) by omega, ← rep_step v q l i hlt]; exact e1
      rw [e] at nx hpl
      by_cases a : op = 1
      · refine ev_pos a ?_
        by_cases b : K = v
        · refine ev_pos b (ev_pos (by omega) (nx _ ?_))
          obtain ⟨p1, p2, p3⟩ := hpl a
          simp only at p1 p2 p3
          unfold repN; rw [if_pos ⟨a, b⟩, p1, p2, p3]
        · refine ev_neg b (ev_pos (by omega) (nx _ ?_))
          unfold repN; rw [if_neg (fun h => b h.2)]
      · refine ev_neg a (ev_pos (by omega) (nx _ ?_))
        unfold repN; rw [if_neg (fun h => a h.1)]
    have goI : ∀ (op W K A B C : Int), l[i] = ⟨op, W, K, A, B, C⟩ → Ev (fun k => impl_Replace.j1 k v q ((l.take i).map (repN v q) ++ l.drop i) (i : Int) l (l.length : Int) (i : Int) false op W K A B C) r := by
      intro op W K A B C e
      refine ev_succ ?_
      simp only [impl_Replace.j1]
      refine ev_neg (by decide) ?_
      have e2' : Ev (fun k => impl_Replace.l0 k v q ((l.take (i + 1)).map (repN v q) ++ l.drop (i + 1)) l (l.length : Int) (wrap64 ((i : Int) + 1))) r := by
        rw [wrap_id (by omega) (by omega), show ((i : Int) + 1) = ((i + 1 : Nat) : Int) by omega]; exact e2
      have same : repN v q l[i] = l[i] → Ev (fun k => impl_Replace.l0 k v q ((l.take i).map (repN v q) ++ l.drop i) l (l.length : Int) (wrap64 ((i : Int) + 1))) r := by
        intro h
        rw [rep_same v q l i hlt h]; exact e2'
      have st := fun y hy => rep_set v q l i hlt y hy
      rw [e] at same st
      by_cases a : op = 1
      · refine ev_pos a ?_
        by_cases b : K = v
        · refine ev_pos b (ev_pos (by omega) (ev_pos (by rw [hlen2]; omega) ?_))
          rw [Int.toNat_natCast, st ⟨0, W, q, 0, 0, 0⟩ (by unfold repN; rw [if_pos ⟨a, b⟩])]
          exact e2'
        · refine ev_neg b (same ?_)
          unfold repN; rw [if_neg (fun h => b h.2)]
      · refine ev_neg a (same ?_)
        unfold repN; rw [if_neg (fun h => a h.1)]
    rcases key with ⟨ka, kb⟩ | ⟨ka, kb, kc⟩ | ⟨ka, kb, kc⟩ | ⟨ka, kb⟩
    · refine ⟨([], false), ev_succ ?_, ev_succ ?_, by simp⟩
      · simp only [spec_Replace.l0]
        rw [rdN l i hlt]
        refine ev_pos (by omega) (ev_pos (by omega) (ev_bind0 (isqS _) (ev_pos ka (ev_pos kb (ev_succ ?_)))))
        simp only [spec_Replace.j1]; exact ev_pos trivial ev_now
      · simp only [impl_Replace.l0]
        rw [rdN l i hlt]
        refine ev_pos (by omega) (ev_pos (by omega) (ev_pos (by omega) (ev_bind0 (isqI _ _ _ _ _ _) (ev_pos ka (ev_pos kb (ev_succ ?_))))))
        simp only [impl_Replace.j1]; exact ev_pos trivial ev_now
    · have nq : ¬ ((l[i].f0 == 19) || (l[i].f0 == 20)) = true := by simp [ka]
      refine ⟨([], false), ev_succ ?_, ev_succ ?_, by simp⟩
      · simp only [spec_Replace.l0]
        rw [rdN l i hlt]
        refine ev_pos (by omega) (ev_pos (by omega) (ev_bind0 (isqS _) (ev_neg nq (ev_pos ka (ev_pos kb (ev_bind (wS _ _) (ev_succ ?_)))))))
        rw [kc]; simp only [spec_Replace.j1]; exact ev_pos rfl ev_now
      · simp only [impl_Replace.l0]
        rw [rdN l i hlt]
        refine ev_pos (by omega) (ev_pos (by omega) (ev_pos (by omega) (ev_bind0 (isqI _ _ _ _ _ _) (ev_neg nq (ev_pos ka (ev_pos kb (ev_bind0 (wokI _ _) (ev_succ ?_))))))))
        rw [kc]; simp only [impl_Replace.j1]; exact ev_pos rfl ev_now
    · have nq : ¬ ((l[i].f0 == 19) || (l[i].f0 == 20)) = true := by simp [ka]
      refine ⟨r, ev_succ ?_, ev_succ ?_, hr⟩
      · simp only [spec_Replace.l0]
        rw [rdN l i hlt]
        refine ev_pos (by omega) (ev_pos (by omega) (ev_bind0 (isqS _) (ev_neg nq (ev_pos ka (ev_pos kb (ev_bind (wS _ _) ?_))))))
        rw [kc]; exact goS _ _ _ _ _ _ rfl
      · simp only [impl_Replace.l0]
        rw [rdN l i hlt]
        refine ev_pos (by omega) (ev_pos (by omega) (ev_pos (by omega) (ev_bind0 (isqI _ _ _ _ _ _) (ev_neg nq (ev_pos ka (ev_pos kb (ev_bind0 (wokI _ _) ?_)))))))
        rw [kc]; exact goI _ _ _ _ _ _ rfl
    · refine ⟨r, ev_succ ?_, ev_succ ?_, hr⟩
      · simp only [spec_Replace.l0]
        rw [rdN l i hlt]
        refine ev_pos (by omega) (ev_pos (by omega) (ev_bind0 (isqS _) ?_))
        by_cases a : ((l[i].f0 == 19) || (l[i].f0 == 20)) = true
        · refine ev_pos a (ev_neg (fun h => kb ⟨a, h⟩) ?_)
          by_cases b : l[i].f0 = 1
          · exact ev_pos b (goS _ _ _ _ _ _ rfl)
          · exact ev_neg b (goS _ _ _ _ _ _ rfl)
        · refine ev_neg a ?_
          by_cases b : l[i].f0 = 1
          · exact ev_pos b (ev_neg (fun h => ka ⟨b, h⟩) (goS _ _ _ _ _ _ rfl))
          · exact ev_neg b (goS _ _ _ _ _ _ rfl)
      · simp only [impl_Replace.l0]
        rw [rdN l i hlt]
        refine ev_pos (by omega) (ev_pos (by omega) (ev_pos (by omega) (ev_bind0 (isqI _ _ _ _ _ _) ?_)))
        by_cases a : ((l[i].f0 == 19) || (l[i].f0 == 20)) = true
        · refine ev_pos a (ev_neg (fun h => kb ⟨a, h⟩) ?_)
          by_cases b : l[i].f0 = 1
          · exact ev_pos b (goI _ _ _ _ _ _ rfl)
          · exact ev_neg b (goI _ _ _ _ _ _ rfl)
        · refine ev_neg a ?_
          by_cases b : l[i].f0 = 1
          · exact ev_pos b (ev_neg (fun h => ka ⟨b, h⟩) (goI _ _ _ _ _ _ rfl))
          · exact ev_neg b (goI _ _ _ _ _ _ rfl)
theorem Replace_ev (l : List S36) (v q : Int) : ∃ r : List S36 × Bool, Ev (fun k => spec_Replace.f k l v q) r ∧ Ev (fun k => impl_Replace.f k l v q) r ∧ r.1.length ≤ 80 := by
  obtain ⟨b, e1, e2, h⟩ := term_ev l
  unfold spec_Replace.f impl_Replace.f
  by_cases hb : b = true
  · obtain ⟨h1, h2, h3⟩ := h.mp hb
    obtain ⟨r, f1, f2, hr⟩ := rep_from v q l h2 h3 l.length 0 (by omega)
    refine ⟨r, ev_bind0 rfl (ev_bind e1 (ev_pos hb f1)), ev_bind e2 (ev_pos hb (ev_pos (by simp; omega) f2)), hr⟩
  · exact ⟨([], false), ev_bind0 rfl (ev_bind e1 (ev_neg hb ev_now)), ev_bind e2 (ev_neg hb ev_now), by simp⟩

end Go.Proofs.Ytdebihfmceclkaa.Pure.ExactReplaceW
namespace Go.Proofs.Ytdebihfmceclkaa.Pure
open Go.RowKit Go.Proofs.Ytdebihfmceclkaa.PFnExactReplace Go.Proofs.YtdebihfmceclkaaW.PrintWords Go.Proofs.YtdebihfmceclkaaW.PrintLast Go.Proofs.YtdebihfmceclkaaW.PrintMore Go.Proofs.Ytdebihfmceclkaa.Base Go.Proofs.Ytdebihfmceclkaa.Pure.ExactReplaceW

theorem FnExactReplace : laws_FnExactReplace.Pure := by
  intro l v q h0 h1 h2 _ _
  refine Ev.rounds ?_
  unfold laws_FnExactReplace.f
  refine ev_bind0 (szNode l h0) ?_
  by_cases hb : (l.length : Int) > 1048576
  · rw [if_pos hb]; exact ev_pos (by omega) ev_now
  · rw [if_neg hb]
    refine ev_neg (by omega) ?_
    have hl : l.length ≤ 1048576 := by omega
    have hl2 : (l.map cvNode).length ≤ 1048576 := by rw [List.length_map]; exact hl
    obtain ⟨⟨r, b⟩, e1, e2, hr⟩ := Replace_ev (l.map cvNode) v q
    have hr : r.length ≤ 80 := hr
    refine ev_bind (toNode l hl) (ev_bind e1 (ev_bind (toNode l hl) (ev_bind e2 (ev_bind (eqNode r (by omega)) (ev_pos rfl ?_)))))
    refine ev_succ ?_
    simp only [laws_FnExactReplace.j0]
    refine ev_neg (by simp) ?_
    refine ev_bind (toNode l hl) (ev_bind (eqNode _ (by omega)) (ev_pos rfl ?_))
    refine ev_bind (markNode _ (by omega)) (ev_neg (by simp; omega) (ev_bind (eqNode r (by omega)) (ev_pos rfl ?_)))
    refine ev_succ ?_
    simp only [laws_FnExactReplace.j1]
    refine ev_neg (by simp) ?_
    refine ev_bind (markNode r (by omega)) (ev_bind (heldNode _ (by omega)) (ev_neg (by simp; omega) (ev_pos (by simp) ?_)))
    refine ev_bind (toNode l hl) (ev_bind e2 (ev_bind (eqNode r (by omega)) (ev_pos rfl ?_)))
    refine ev_succ ?_
    simp only [laws_FnExactReplace.j2]
    refine ev_neg (by simp) ?_
    exact ev_bind (heldNode _ (by omega)) (ev_neg (by simp; omega) (ev_pos (by simp) ev_now))
end Go.Proofs.Ytdebihfmceclkaa.Pure
