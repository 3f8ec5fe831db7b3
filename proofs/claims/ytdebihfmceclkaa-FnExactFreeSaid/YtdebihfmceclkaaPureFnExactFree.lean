/- FnExactFree: what the printed functions come to, for every input. -/
import Derived.Test.YtdebihfmceclkaaPFnExactFreex15
import Derived.Test.YtdebihfmceclkaaBase
import Derived.Test.YtdebihfmceclkaaEv
import Derived.Test.YtdebihfmceclkaaWalkFnExactFree
set_option linter.unusedVariables false
set_option linter.unusedSimpArgs false
namespace Go.Proofs.Ytdebihfmceclkaa.Pure.ExactFreeW
open Go.RowKit Go.Proofs.Ytdebihfmceclkaa.PFnExactFree Go.Proofs.YtdebihfmceclkaaW.PrintWords Go.Proofs.YtdebihfmceclkaaW.PrintLast Go.Proofs.YtdebihfmceclkaaW.PrintMore Go.Proofs.Ytdebihfmceclkaa.Base

theorem pow2 {w : Int} (h0 : 0 ≤ w) (h8 : w ≤ 8) {k : Nat} (hk : 20 ≤ k) : spec_l01Pow2.f k w = some (P2 w) := by
  obtain ⟨m, rfl⟩ := rounds_of hk
  have : w = 0 ∨ w = 1 ∨ w = 2 ∨ w = 3 ∨ w = 4 ∨ w = 5 ∨ w = 6 ∨ w = 7 ∨ w = 8 := by omega
  rcases this with rfl | rfl | rfl | rfl | rfl | rfl | rfl | rfl | rfl <;> simp [spec_l01Pow2.f, spec_l01Pow2.l0, P2, wrap64]


theorem inS (x a b : Int) : spec_l01In.f x a b = some (decide (a ≤ x ∧ x ≤ b)) := by
  unfold spec_l01In.f
  by_cases h : x ≥ a
  · rw [if_pos h]; simp [h]
  · rw [if_neg h]; simp [h]


theorem inI (x a b : Int) : impl_within.f x a b = some (decide (a ≤ x ∧ x ≤ b)) := by
  unfold impl_within.f
  by_cases h : x ≥ a
  · rw [if_pos h]; simp [h]
  · rw [if_neg h]; simp [h]


theorem wokS (w a : Int) {k : Nat} (hk : 20 ≤ k) : spec_WordOk.f k w a = some (wok w a) := by
  unfold spec_WordOk.f wok
  rw [inS]; simp only [Option.bind_some]
  by_cases h : 1 ≤ w ∧ w ≤ 8
  · have hp := P2_pos (by omega : 0 ≤ w) h.2
    rw [if_pos (by simp [h]), pow2 (by omega) h.2 hk]; simp only [Option.bind_some]
    rw [inS, wrap_id (by omega) (by omega)]; simp [h]
  · rw [if_neg (by simp; omega)]; simp; omega


theorem wokI (w a : Int) : impl_WordOk.f w a = some (wok w a) := by
  unfold impl_WordOk.f impl_isWidth.f wok
  rw [inI]; simp only [Option.bind_some]
  by_cases h : 1 ≤ w ∧ w ≤ 8
  · have hp := P2_pos (by omega : 0 ≤ w) h.2
    rw [if_pos (by simp [h]), if_pos (u64_nonneg w), u64_id (by omega) (by omega), shl_one (by omega) h.2, inI, wrap_id (by omega) (by omega)]
    simp [h]
  · rw [if_neg (by simp; omega)]; simp; omega


theorem szNode (l : List S34) (h : l.length ≤ 9223372036854775807) : laws_szNodeS.f l 1048576 = some (if (l.length : Int) > 1048576 then -1 else 1048576 - (l.length : Int)) := by
  unfold laws_szNodeS.f
  rw [wrap_id (by omega) (by omega)]
  by_cases c : (l.length : Int) > 1048576
  · rw [if_pos (by omega), if_pos c]
  · rw [if_neg (by omega), if_neg c]


theorem szNode_left (l : List S34) (h : l.length ≤ 9223372036854775807) (m : Int) (h0 : 0 ≤ m) (h1 : m ≤ 1048576) : laws_szNodeS.f l m = some (if (l.length : Int) > m then -1 else m - (l.length : Int)) := by
  unfold laws_szNodeS.f
  rw [wrap_id (by omega) (by omega)]
  by_cases c : (l.length : Int) > m
  · rw [if_pos (by omega), if_pos c]
  · rw [if_neg (by omega), if_neg c]


def cvNode (x : S34) : S36 := ⟨x.f0, x.f1, x.f2, x.f3, x.f4, x.f5⟩
theorem toNode_from (l : List S34) (hl : l.length ≤ 1048576) (d : Nat) : ∀ (k : Nat) (acc : List S36) (i : Nat), acc.length = l.length → i ≤ l.length → l.length - i = d → d < k →
    laws_toNodeS.l0 k l acc (i : Int) = some (acc.take i ++ (l.drop i).map cvNode) := by
  induction d with
  | zero =>
    intro k acc i ha hi hd hk
    obtain ⟨k, rfl⟩ : ∃ m, k = m + 1 := ⟨k - 1, by omega⟩
    simp only [laws_toNodeS.l0]
    rw [if_neg (by omega), List.drop_eq_nil_of_le (by omega), List.take_of_length_le (by omega)]; simp
  | succ d ih =>
    intro k acc i ha hi hd hk
    obtain ⟨k, rfl⟩ : ∃ m, k = m + 1 := ⟨k - 1, by omega⟩
    have hlt : i < l.length := by omega
    simp only [laws_toNodeS.l0]
    rw [if_pos (by omega), if_pos (by omega)]
    unfold laws_toNode.f
    simp only [Option.bind_some]
    have hrd : rd_T34 l (i : Int) = l[i] := by
      unfold rd_T34
      rw [Int.toNat_natCast, List.getD_eq_getElem?_getD, List.getElem?_eq_getElem hlt]; rfl
    rw [if_pos (by omega), hrd, wrap_id (by omega) (by omega), show ((i : Int) + 1) = ((i + 1 : Nat) : Int) by omega, Int.toNat_natCast,
      ih k _ (i + 1) (by simpa using ha) (by omega) (by omega) (by omega)]
    congr 1
    rw [List.drop_eq_getElem_cons hlt, List.map_cons]
    have ht : (acc.set i (cvNode l[i])).take (i + 1) = acc.take i ++ [cvNode l[i]] := by
      rw [List.take_succ_eq_append_getElem (by simpa using (by omega : i < acc.length)), List.take_set_of_le (by omega)]
      simp
    show (acc.set i (cvNode l[i])).take (i + 1) ++ _ = _
    rw [ht, List.append_assoc]; rfl
theorem toNode (l : List S34) (hl : l.length ≤ 1048576) : Ev (fun k => laws_toNodeS.f k l) (l.map cvNode) := by
  refine ev_of (l.length + 2) fun k hk => ?_
  unfold laws_toNodeS.f
  rw [if_pos (by omega), if_pos (by omega)]
  have := toNode_from l hl l.length k (List.replicate ((l.length : Int) : Int).toNat z36) 0 (by simp) (by omega) (by omega) (by omega)
  simpa using this


theorem eqNode_one (x : S36) : laws_eqNode.f x.f0 x.f1 x.f2 x.f3 x.f4 x.f5 x.f0 x.f1 x.f2 x.f3 x.f4 x.f5 = some true := by
  unfold laws_eqNode.f; simp
theorem eqNode_from (l : List S36) (hl : l.length ≤ 4611686018427387904) (d : Nat) : ∀ (k i : Nat), i ≤ l.length → l.length - i = d → d < k → laws_eqNodeS.l0 k l l (i : Int) = some true := by
  induction d with
  | zero =>
    intro k i hi hd hk
    obtain ⟨k, rfl⟩ : ∃ m, k = m + 1 := ⟨k - 1, by omega⟩
    simp only [laws_eqNodeS.l0]
    rw [if_neg (by omega)]
  | succ d ih =>
    intro k i hi hd hk
    obtain ⟨k, rfl⟩ : ∃ m, k = m + 1 := ⟨k - 1, by omega⟩
    simp only [laws_eqNodeS.l0]
    rw [if_pos (by omega), if_pos (by omega), if_pos (by omega), eqNode_one]
    simp only [Option.bind_some, if_true]
    rw [wrap_id (by omega) (by omega), show ((i : Int) + 1) = ((i + 1 : Nat) : Int) by omega]
    exact ih k (i + 1) (by omega) (by omega) (by omega)
theorem eqNode (l : List S36) (hl : l.length ≤ 4611686018427387904) : Ev (fun k => laws_eqNodeS.f k l l) true := by
  refine ev_of (l.length + 2) fun k hk => ?_
  unfold laws_eqNodeS.f
  rw [if_pos rfl]
  exact eqNode_from l hl l.length k 0 (by omega) (by omega) (by omega)


def mkNode (m : Int) : S36 := ⟨m, m + 1, m + 2, m + 3, m + 4, m + 5⟩
def mksNode : Nat → Int → List S36
  | 0, _ => []
  | c + 1, m => mkNode m :: mksNode c (m + 6)
theorem mksNode_len (c : Nat) : ∀ m, (mksNode c m).length = c := by
  induction c with
  | zero => intro m; rfl
  | succ c ih => intro m; simp [mksNode, ih]
theorem markNode_from (d : Nat) : ∀ (k : Nat) (l : List S36) (i : Nat) (m : Int), l.length ≤ 576460752303423488 → 0 ≤ m → m + 6 * (l.length - i : Nat) ≤ 9223372036854775807 → i ≤ l.length → l.length - i = d → d < k →
    laws_markNodeS.l0 k l m (i : Int) = some (m + 6 * (d : Int), l.take i ++ mksNode d m) := by
  induction d with
  | zero =>
    intro k l i m hl h0 h1 hi hd hk
    obtain ⟨k, rfl⟩ : ∃ m, k = m + 1 := ⟨k - 1, by omega⟩
    simp only [laws_markNodeS.l0]
    rw [if_neg (by omega), List.take_of_length_le (by omega)]; simp [mksNode]
  | succ d ih =>
    intro k l i m hl h0 h1 hi hd hk
    obtain ⟨k, rfl⟩ : ∃ m, k = m + 1 := ⟨k - 1, by omega⟩
    have hlt : i < l.length := by omega
    have hset : ∀ (x : S36) (l : List S36), i < l.length → rd_T36 (l.set i x) (i : Int) = x := by
      intro x l hlt
      unfold rd_T36
      rw [Int.toNat_natCast, List.getD_eq_getElem?_getD, List.getElem?_set_self hlt]; rfl
    simp only [laws_markNodeS.l0]
    rw [if_pos (by omega), if_pos (by omega)]
    simp only [Option.bind_some, Int.toNat_natCast]
    simp only [hset _ _ hlt, hset _ _ (by simpa using hlt : i < (l.set i _).length), List.set_set, List.length_set, hlt]
    rw [wrap_id (x := m + 1) (by omega) (by omega)]
    rw [wrap_id (x := m + 1 + 1) (by omega) (by omega)]
    rw [wrap_id (x := m + 1 + 1 + 1) (by omega) (by omega)]
    rw [wrap_id (x := m + 1 + 1 + 1 + 1) (by omega) (by omega)]
    rw [wrap_id (x := m + 1 + 1 + 1 + 1 + 1) (by omega) (by omega)]
    rw [wrap_id (x := m + 1 + 1 + 1 + 1 + 1 + 1) (by omega) (by omega)]
    rw [wrap_id (x := (i : Int) + 1) (by omega) (by omega)]
    rw [show ((i : Int) + 1) = ((i + 1 : Nat) : Int) by omega]
    rw [show m + 1 + 1 + 1 + 1 + 1 + 1 = m + 6 by omega]
    rw [ih k _ (i + 1) (m + 6) (by simpa using hl) (by omega) (by rw [List.length_set]; omega) (by rw [List.length_set]; omega) (by rw [List.length_set]; omega) (by omega)]
    congr 1
    rw [Prod.mk.injEq]
    refine ⟨by omega, ?_⟩
    rw [List.take_succ_eq_append_getElem (by simpa using hlt), List.take_set_of_le (by omega), List.append_assoc]
    simp only [List.getElem_set_self, List.singleton_append, mksNode, mkNode]
    try simp only [show ∀ z : Int, z + 1 + 1 = z + 2 from fun z => by omega]
    try simp [Int.add_assoc]
theorem markNode (l : List S36) (hl : l.length ≤ 576460752303423488) : Ev (fun k => laws_markNodeS.f k l 1) (1 + 6 * (l.length : Int), mksNode l.length 1) := by
  refine ev_of (l.length + 2) fun k hk => ?_
  unfold laws_markNodeS.f
  have := markNode_from l.length k l 0 1 (by omega) (by omega) (by omega) (by omega) (by omega) (by omega)
  simpa using this


theorem eqInt_from (l : List Int) (hl : l.length ≤ 4611686018427387904) (d : Nat) : ∀ (k i : Nat), i ≤ l.length → l.length - i = d → d < k → laws_eqIntS.l0 k l l (i : Int) = some true := by
  induction d with
  | zero =>
    intro k i hi hd hk
    obtain ⟨k, rfl⟩ : ∃ m, k = m + 1 := ⟨k - 1, by omega⟩
    simp only [laws_eqIntS.l0]
    rw [if_neg (by omega)]
  | succ d ih =>
    intro k i hi hd hk
    obtain ⟨k, rfl⟩ : ∃ m, k = m + 1 := ⟨k - 1, by omega⟩
    simp only [laws_eqIntS.l0]
    rw [if_pos (by omega), if_pos (by omega), if_pos (by omega)]
    rw [if_pos trivial]
    rw [wrap_id (by omega) (by omega), show ((i : Int) + 1) = ((i + 1 : Nat) : Int) by omega]
    exact ih k (i + 1) (by omega) (by omega) (by omega)
theorem eqInt (l : List Int) (hl : l.length ≤ 4611686018427387904) : Ev (fun k => laws_eqIntS.f k l l) true := by
  refine ev_of (l.length + 2) fun k hk => ?_
  unfold laws_eqIntS.f
  rw [if_pos rfl]
  exact eqInt_from l hl l.length k 0 (by omega) (by omega) (by omega)


def mksInt : Nat → Int → List Int
  | 0, _ => []
  | c + 1, m => m :: mksInt c (m + 1)
theorem mksInt_len (c : Nat) : ∀ m, (mksInt c m).length = c := by
  induction c with
  | zero => intro m; rfl
  | succ c ih => intro m; simp [mksInt, ih]
theorem markInt_from (d : Nat) : ∀ (k : Nat) (l : List Int) (i : Nat) (m : Int), l.length ≤ 576460752303423488 → 0 ≤ m → m + (d : Int) ≤ 9223372036854775807 → i ≤ l.length → l.length - i = d → d < k →
    laws_markIntS.l0 k l m (i : Int) = some (m + (d : Int), l.take i ++ mksInt d m) := by
  induction d with
  | zero =>
    intro k l i m hl h0 h1 hi hd hk
    obtain ⟨k, rfl⟩ : ∃ m, k = m + 1 := ⟨k - 1, by omega⟩
    simp only [laws_markIntS.l0]
    rw [if_neg (by omega), List.take_of_length_le (by omega)]; simp [mksInt]
  | succ d ih =>
    intro k l i m hl h0 h1 hi hd hk
    obtain ⟨k, rfl⟩ : ∃ m, k = m + 1 := ⟨k - 1, by omega⟩
    have hlt : i < l.length := by omega
    simp only [laws_markIntS.l0]
    rw [if_pos (by omega), if_pos (by omega), wrap_id (x := m + 1) (by omega) (by omega), wrap_id (x := (i : Int) + 1) (by omega) (by omega), show ((i : Int) + 1) = ((i + 1 : Nat) : Int) by omega, Int.toNat_natCast,
      ih k _ (i + 1) (m + 1) (by simpa using hl) (by omega) (by omega) (by rw [List.length_set]; omega) (by rw [List.length_set]; omega) (by omega)]
    congr 1
    rw [Prod.mk.injEq]
    refine ⟨by omega, ?_⟩
    rw [List.take_succ_eq_append_getElem (by simpa using hlt), List.take_set_of_le (by omega), List.append_assoc]
    simp only [List.getElem_set_self, List.singleton_append, mksInt]
theorem markInt (l : List Int) (hl : l.length ≤ 576460752303423488) : Ev (fun k => laws_markIntS.f k l 1) (1 + (l.length : Int), mksInt l.length 1) := by
  refine ev_of (l.length + 2) fun k hk => ?_
  unfold laws_markIntS.f
  have := markInt_from l.length k l 0 1 (by omega) (by omega) (by omega) (by omega) (by omega) (by omega)
  simpa using this


theorem heldInt_from (d : Nat) : ∀ (k : Nat) (l : List Int) (i : Nat) (m : Int), l.length ≤ 576460752303423488 → 0 ≤ m → m + (d : Int) ≤ 9223372036854775807 → i ≤ l.length → l.length - i = d → l.drop i = mksInt d m → d < k →
    laws_heldIntS.l0 k l m (i : Int) = some (m + (d : Int)) := by
  induction d with
  | zero =>
    intro k l i m hl h0 h1 hi hd he hk
    obtain ⟨k, rfl⟩ : ∃ m, k = m + 1 := ⟨k - 1, by omega⟩
    simp only [laws_heldIntS.l0]
    rw [if_neg (by omega)]; simp
  | succ d ih =>
    intro k l i m hl h0 h1 hi hd he hk
    obtain ⟨k, rfl⟩ : ∃ m, k = m + 1 := ⟨k - 1, by omega⟩
    have hlt : i < l.length := by omega
    have hx : rd l (i : Int) = m := by
      unfold rd
      rw [Int.toNat_natCast, List.getD_eq_getElem?_getD, List.getElem?_eq_getElem hlt]
      rw [List.drop_eq_getElem_cons hlt, mksInt] at he
      exact (List.cons.inj he).1
    have he2 : l.drop (i + 1) = mksInt d (m + 1) := by
      rw [List.drop_eq_getElem_cons hlt, mksInt] at he
      exact (List.cons.inj he).2
    simp only [laws_heldIntS.l0]
    rw [if_pos (by omega), if_pos (by omega), hx]
    rw [if_pos rfl]
    rw [wrap_id (x := m + 1) (by omega) (by omega), wrap_id (x := (i : Int) + 1) (by omega) (by omega), show ((i : Int) + 1) = ((i + 1 : Nat) : Int) by omega,
      ih k l (i + 1) (m + 1) hl (by omega) (by omega) (by omega) (by omega) he2 (by omega)]
    congr 1; omega
theorem heldInt (c : Nat) (hl : c ≤ 576460752303423488) : Ev (fun k => laws_heldIntS.f k (mksInt c 1) 1) (1 + (c : Int)) := by
  refine ev_of (c + 2) fun k hk => ?_
  unfold laws_heldIntS.f
  have hlen := mksInt_len c 1
  exact heldInt_from c k (mksInt c 1) 0 1 (by omega) (by omega) (by omega) (by omega) (by omega) rfl (by omega)


theorem partsS (op w q a b c : Int) {k : Nat} (hk : 1 ≤ k) : spec_Parts.f k op w q a b c = some (partsL op a b c) := by
  obtain ⟨k, rfl⟩ : ∃ m, k = m + 1 := ⟨k - 1, by omega⟩
  unfold spec_Parts.f partsL
  simp only [spec_Parts.j0, inS]
  by_cases h2 : op = 2
  · subst h2; simp
  · by_cases h17 : op = 17
    · subst h17; simp
    · by_cases h19 : op = 19
      · subst h19; simp
      · by_cases h20 : op = 20
        · subst h20; simp
        · have hq : ¬ (op = 2 ∨ op = 17 ∨ op = 19 ∨ op = 20) := by omega
          rw [if_neg h2, if_neg h17, if_neg h19, if_neg (by simpa using h20), if_neg hq]
          simp only [Option.bind_some, decide_eq_true_eq]
          by_cases h3 : 3 ≤ op ∧ op ≤ 16
          · rw [if_pos h3, if_pos h3]
          · rw [if_neg h3, if_neg h3]
            by_cases h18 : op = 18
            · rw [if_pos h18, if_pos h18]
            · rw [if_neg h18, if_neg h18]


theorem rdN (l : List S36) (i : Nat) (h : i < l.length) : rd_T36 l (i : Int) = l[i] := by
  unfold rd_T36
  rw [Int.toNat_natCast, List.getD_eq_getElem?_getD, List.getElem?_eq_getElem h]; rfl
theorem rdI (l : List Int) (i : Nat) (h : i < l.length) : rd l (i : Int) = l[i] := by simp [rd, h]
theorem inB_iff {x a b : Int} : inB x a b = true ↔ a ≤ x ∧ x ≤ b := by simp [inB]
theorem inSB (x a b : Int) : spec_l01In.f x a b = some (inB x a b) := inS x a b
theorem node_l0 (l : List S36) (i : Int) (hi0 : 0 ≤ i) (hi1 : i ≤ 9223372036854775807) (ps : List Int) (hps : ps.length ≤ 3) (n0 n1 n2 n3 n4 n5 : Int) (r : Bool)
    (h1 : (∀ p ∈ ps, inB p 0 (i - 1) = true) → Ev (fun k => spec_l02Node.l0 k l i ps (ps.length : Int) n0 n1 n2 n3 n4 n5) r) (h2 : (¬ ∀ p ∈ ps, inB p 0 (i - 1) = true) → r = false) (d : Nat) :
    ∀ j : Nat, j + d = ps.length → (∀ t : Nat, t < j → inB (rd ps (t : Int)) 0 (i - 1) = true) → Ev (fun k => spec_l02Node.l0 k l i ps (j : Int) n0 n1 n2 n3 n4 n5) r := by
  induction d with
  | zero =>
    intro j hj hA
    obtain rfl : j = ps.length := by omega
    refine h1 fun p hp => ?_
    obtain ⟨t, ht, rfl⟩ := List.getElem_of_mem hp
    rw [← rdI ps t ht]; exact hA t ht
  | succ d ih =>
    intro j hj hA
    have hlt : j < ps.length := by omega
    refine ev_succ ?_
    simp only [spec_l02Node.l0]
    refine ev_pos (by omega) (ev_pos (by omega) (ev_bind0 (inSB _ _ _) ?_))
    rw [wrap_id (x := i - 1) (by omega) (by omega)]
    by_cases hb : inB (rd ps (j : Int)) 0 (i - 1) = true
    · refine ev_pos hb ?_
      rw [wrap_id (by omega) (by omega)]
      refine ih (j + 1) (by omega) fun t ht => ?_
      rcases Nat.lt_or_ge t j with h | h
      · exact hA t h
      · obtain rfl : t = j := by omega
        exact hb
    · refine ev_neg hb ?_
      rw [h2 fun h => hb (by rw [rdI ps j hlt]; exact h _ (List.getElem_mem hlt))]
      exact ev_now
theorem node_l1 (l : List S36) (hl : l.length ≤ 4611686018427387904) (ps : List Int) (hps : ps.length ≤ 3) (hp : ∀ p ∈ ps, 0 ≤ p ∧ p < (l.length : Int)) (n0 n1 n2 n3 n4 n5 : Int) (r : Bool)
    (h : Ev (fun k => spec_l02Node.l1 k l ps (ps.map fun p => (rd_T36 l p).f1) (ps.length : Int) n0 n1 n2 n3 n4 n5) r) (d : Nat) :
    ∀ j : Nat, j + d = ps.length → Ev (fun k => spec_l02Node.l1 k l ps ((ps.take j).map fun p => (rd_T36 l p).f1) (j : Int) n0 n1 n2 n3 n4 n5) r := by
  induction d with
  | zero =>
    intro j hj
    obtain rfl : j = ps.length := by omega
    rw [List.take_of_length_le (by omega)]; exact h
  | succ d ih =>
    intro j hj
    have hlt : j < ps.length := by omega
    have hq := hp _ (List.getElem_mem hlt)
    refine ev_succ ?_
    simp only [spec_l02Node.l1]
    rw [rdI ps j hlt]
    refine ev_pos (by omega) (ev_pos (by omega) (ev_pos hq.1 (ev_pos hq.2 (ev_pos (by simp; omega) ?_))))
    rw [wrap_id (by omega) (by omega), show ((j : Int) + 1) = ((j + 1 : Nat) : Int) by omega]
    have := ih (j + 1) (by omega)
    rwa [List.take_succ_eq_append_getElem hlt, List.map_append] at this
theorem rd_take (l : List S36) (i : Nat) (p : Int) (h0 : 0 ≤ p) (h1 : p < i) : rd_T36 (l.take i) p = rd_T36 l p := by
  unfold rd_T36
  rw [List.getD_eq_getElem?_getD, List.getD_eq_getElem?_getD, List.getElem?_take, if_pos (by omega)]
theorem sw_ev (l : List S36) (ps ws : List Int) (op W K A B C : Int) (hps : ps = partsL op A B C) (hws : ws.length = ps.length) :
    Ev (fun k => spec_l02Node.l1 k l ps ws (ps.length : Int) op W K A B C) (inB op 0 20 && usesB op K A B C && rightSw op W K B (ws.getD 0 0) (ws.getD 1 0) (ws.getD 2 0)) := by
  have hl := partsL_len op A B C
  refine ev_of 60 fun k hk => ?_
  obtain ⟨k, rfl⟩ : ∃ m, k = m + 2 := ⟨k - 2, by omega⟩
  simp only [spec_l02Node.l1]
  rw [if_neg (by omega), wokS _ _ (by omega), inSB, inSB, inSB]
  simp only [Option.bind_some, spec_l02Node.j2, inSB]
  have rd0 : rd ws 0 = ws.getD 0 0 := rfl
  have rd1 : rd ws 1 = ws.getD 1 0 := rfl
  have rd2 : rd ws 2 = ws.getD 2 0 := rfl
  rw [rd0, rd1, rd2]
  generalize ws.getD 0 0 = u
  generalize ws.getD 1 0 = v
  generalize ws.getD 2 0 = x
  by_cases h0 : op = 0
  · subst h0; simp [inB, usesB, rightSw]; by_cases g : wok W K = true <;> by_cases a : A = 0 <;> by_cases b : B = 0 <;> simp [g, a, b]
  rw [if_neg h0]
  by_cases h1 : op = 1
  · subst h1; by_cases g : inB K 0 7 = true <;> by_cases a : A = 0 <;> by_cases b : B = 0 <;> simp [usesB, rightSw, g, a, b, inB_iff.mpr (show (0 : Int) ≤ 1 ∧ (1 : Int) ≤ 20 by omega)]
  rw [if_neg h1]
  by_cases h2 : op = 2
  · subst h2
    have hn : (0 : Int) < (ws.length : Int) := by rw [hws, hps]; simp [partsL]
    rw [if_pos rfl, if_pos hn]
    by_cases a : u = W <;> by_cases b : K = 0 <;> by_cases c : B = 0 <;> simp [inB, usesB, rightSw, a, b, c]
  rw [if_neg h2]
  by_cases h3 : 3 ≤ op ∧ op ≤ 12
  · have e : ps = [A, B] := by rw [hps]; unfold partsL; rw [if_neg (by omega), if_pos (by omega)]
    have hn : ws.length = 2 := by rw [hws, e]; rfl
    rw [if_pos (inB_iff.mpr h3), if_pos (by omega), if_pos (c := (1 : Int) < _) (by omega)]
    have hu : usesB op K A B C = (K == 0 && C == 0) := by unfold usesB; rw [if_neg (by omega), if_neg (by omega), if_neg (by omega), if_neg (by omega), if_pos (by omega)]
    have hr : rightSw op W K B u v x = (u == W && v == W) := by unfold rightSw; rw [if_neg (by omega), if_neg (by omega), if_neg (by omega), if_pos (by omega)]
    rw [hu, hr, inB_iff.mpr (show 0 ≤ op ∧ op ≤ 20 by omega)]
    by_cases a : u = W <;> by_cases b : K = 0 <;> by_cases c : v = W <;> simp [a, b, c]
  rw [if_neg (fun h => h3 (inB_iff.mp h))]
  by_cases h4 : 13 ≤ op ∧ op ≤ 15
  · have e : ps = [A, B] := by rw [hps]; unfold partsL; rw [if_neg (by omega), if_pos (by omega)]
    have hn : ws.length = 2 := by rw [hws, e]; rfl
    rw [if_pos (inB_iff.mpr h4), if_pos (by omega), if_pos (c := (1 : Int) < _) (by omega)]
    have hu : usesB op K A B C = (K == 0 && C == 0) := by unfold usesB; rw [if_neg (by omega), if_neg (by omega), if_neg (by omega), if_neg (by omega), if_pos (by omega)]
    have hr : rightSw op W K B u v x = (u == v && W == 1) := by unfold rightSw; rw [if_neg (by omega), if_neg (by omega), if_neg (by omega), if_neg (by omega), if_pos (by omega)]
    rw [hu, hr, inB_iff.mpr (show 0 ≤ op ∧ op ≤ 20 by omega)]
    by_cases a : u = v <;> by_cases b : K = 0 <;> by_cases c : W = 1 <;> simp [a, b, c]
  rw [if_neg (fun h => h4 (inB_iff.mp h))]
  by_cases h16 : op = 16
  · subst h16
    have hn : ws.length = 2 := by rw [hws, hps]; rfl
    rw [if_pos rfl, if_pos (by omega), if_pos (c := (1 : Int) < _) (by omega)]
    by_cases a : wrap64 (u + v) = W <;> by_cases b : K = 0 <;> simp [inB, usesB, rightSw, a, b]
  rw [if_neg h16]
  by_cases h17 : op = 17
  · subst h17
    have hn : ws.length = 1 := by rw [hws, hps]; rfl
    rw [if_pos rfl, if_pos (c := (0 : Int) < _) (by omega)]
    by_cases a : 0 ≤ K <;> by_cases b : K ≤ wrap64 (u - W) <;> by_cases c : B = 0 <;> simp [inB, usesB, rightSw, a, b, c]
  rw [if_neg h17]
  by_cases h18 : op = 18
  · subst h18
    have hn : ws.length = 3 := by rw [hws, hps]; rfl
    rw [if_pos rfl, if_pos (c := (0 : Int) < _) (by omega), if_pos (c := (1 : Int) < _) (by omega), if_pos (c := (2 : Int) < _) (by omega)]
    by_cases a : u = 1 <;> by_cases b : v = W <;> by_cases c : x = W <;> simp [inB, usesB, rightSw, a, b, c]
  rw [if_neg h18]
  by_cases h19 : op = 19
  · subst h19
    have hn : ws.length = 1 := by rw [hws, hps]; rfl
    rw [if_pos rfl, if_pos trivial, if_pos (c := (0 : Int) < _) (by omega)]
    by_cases a : inB K 0 7 = true <;> by_cases b : inB B 1 8 = true <;> by_cases c : u = 1 <;> by_cases d : W = 1 <;> simp [usesB, rightSw, a, b, c, d, inB_iff.mpr (show (0 : Int) ≤ 19 ∧ (19 : Int) ≤ 20 by omega)]
  rw [if_neg h19]
  by_cases h20 : op = 20
  · subst h20
    have hn : ws.length = 1 := by rw [hws, hps]; rfl
    rw [if_pos (by rfl), if_pos (c := (0 : Int) < _) (by omega)]
    by_cases a : inB K 0 7 = true <;> by_cases b : inB B 1 8 = true <;> by_cases c : u = 1 <;> by_cases d : W = 1 <;> simp [usesB, rightSw, a, b, c, d, inB_iff.mpr (show (0 : Int) ≤ 20 ∧ (20 : Int) ≤ 20 by omega)]
  rw [if_neg (by simpa using h20)]
  have hn : inB op 0 20 = false := by simp [inB]; omega
  simp [hn]
theorem node_ev (l : List S36) (hl : l.length ≤ 4611686018427387904) (i : Nat) (hi : i < l.length) : Ev (fun k => spec_l02Node.f k l (i : Int)) (rightB (l.take i) (rd_T36 l i).f0 (rd_T36 l i).f1 (rd_T36 l i).f2 (rd_T36 l i).f3 (rd_T36 l i).f4 (rd_T36 l i).f5) := by
  unfold spec_l02Node.f
  refine ev_pos (by omega) (ev_pos (by omega) (ev_bind (ev_of 1 fun k hk => partsS _ _ _ _ _ _ hk) ?_))
  generalize (rd_T36 l i).f0 = op
  generalize (rd_T36 l i).f1 = W
  generalize (rd_T36 l i).f2 = K
  generalize (rd_T36 l i).f3 = A
  generalize (rd_T36 l i).f4 = B
  generalize (rd_T36 l i).f5 = C
  have hlen := partsL_len op A B C
  have htk : ((l.take i).length : Int) = i := by rw [List.length_take]; omega
  refine node_l0 l i (by omega) (by omega) _ hlen op W K A B C _ (fun hall => ?_) (fun hn => ?_) _ 0 (Nat.zero_add _) (fun t ht => absurd ht (by omega))
  · refine ev_succ ?_
    simp only [spec_l02Node.l0]
    refine ev_neg (by omega) (ev_bind0 (inSB _ _ _) ?_)
    have hall' : (partsL op A B C).all (fun p => inB p 0 (((l.take i).length : Int) - 1)) = true := by rw [htk]; exact List.all_eq_true.mpr hall
    unfold rightB
    rw [hall']
    by_cases hw : inB W 1 8 = true
    · refine ev_pos hw ?_
      rw [hw]
      have hwv : ∀ t : Nat, wv (l.take i) (partsL op A B C) (partsL op A B C).length t = ((partsL op A B C).map fun p => (rd_T36 l p).f1).getD t 0 := by
        intro t
        unfold wv
        by_cases ht : t < (partsL op A B C).length
        · rw [if_pos ht, rdI _ t ht, List.getD_eq_getElem?_getD, List.getElem?_map, List.getElem?_eq_getElem ht]
          have := inB_iff.mp (hall _ (List.getElem_mem ht))
          rw [rd_take l i _ this.1 (by omega)]; rfl
        · rw [if_neg ht, List.getD_eq_getElem?_getD, List.getElem?_eq_none (by simp; omega)]; rfl
      rw [hwv, hwv, hwv]
      simp only [Bool.true_and, Bool.and_true]
      exact node_l1 l hl _ hlen (fun p hp => by have := inB_iff.mp (hall p hp); omega) op W K A B C _ (sw_ev l _ _ op W K A B C rfl (by simp)) _ 0 (Nat.zero_add _)
    · have hw' : inB W 1 8 = false := by simpa using hw
      refine ev_neg hw ?_
      rw [hw']; simp only [Bool.false_and]; exact ev_now
  · unfold rightB
    have hnot : (partsL op A B C).all (fun p => inB p 0 (((l.take i).length : Int) - 1)) = false := by
      rw [htk]
      cases e : (partsL op A B C).all (fun p => inB p 0 ((i : Int) - 1)) with
      | false => rfl
      | true => exact absurd (List.all_eq_true.mp e) hn
    rw [hnot]; simp


/-- Node i of a list is right. -/
def nodeB (l : List S36) (i : Nat) : Bool := rightB (l.take i) (rd_T36 l i).f0 (rd_T36 l i).f1 (rd_T36 l i).f2 (rd_T36 l i).f3 (rd_T36 l i).f4 (rd_T36 l i).f5
def NodesOk (l : List S36) : Prop := ∀ i < l.length, nodeB l i = true
def TermOkP (l : List S36) : Prop := 1 ≤ l.length ∧ l.length ≤ 80 ∧ NodesOk l
theorem termS_from (l : List S36) (hl : l.length ≤ 80) (d : Nat) : ∀ i : Nat, i + d = l.length → ∃ r, Ev (fun k => spec_TermOk.l0 k l (i : Int)) r ∧ Ev (fun k => impl_TermOk.l0 k l l (l.length : Int) (i : Int)) r ∧ (r = true ↔ ∀ j < l.length, i ≤ j → nodeB l j = true) := by
  induction d with
  | zero =>
    intro i hi
    refine ⟨true, ev_succ ?_, ev_succ ?_, by simp; intro j h1 h2; omega⟩
    · simp only [spec_TermOk.l0]; exact ev_neg (by omega) ev_now
    · simp only [impl_TermOk.l0]; exact ev_neg (by omega) ev_now
  | succ d ih =>
    intro i hi
    have hlt : i < l.length := by omega
    obtain ⟨r, e1, e2, h⟩ := ih (i + 1) (by omega)
    have hn := node_ev l (by omega) i hlt
    by_cases hb : nodeB l i = true
    · refine ⟨r, ev_succ ?_, ev_succ ?_, ?_⟩
      · simp only [spec_TermOk.l0]
        refine ev_pos (by omega) (ev_bind hn (ev_pos hb ?_))
        rw [wrap_id (by omega) (by omega), show ((i : Int) + 1) = ((i + 1 : Nat) : Int) by omega]; exact e1
      · simp only [impl_TermOk.l0]
        refine ev_pos (by omega) (ev_pos (by omega) (ev_pos (by omega) (ev_pos (by omega) (ev_bind0 rfl (ev_pos hb ?_)))))
        rw [wrap_id (by omega) (by omega), show ((i : Int) + 1) = ((i + 1 : Nat) : Int) by omega]; exact e2
      · rw [h]
        constructor
        · intro hh j h1 h2
          rcases Nat.lt_or_ge i j with h3 | h3
          · exact hh j h1 h3
          · obtain rfl : i = j := by omega
            exact hb
        · intro hh j h1 h2
          exact hh j h1 (by omega)
    · refine ⟨false, ev_succ ?_, ev_succ ?_, ?_⟩
      · simp only [spec_TermOk.l0]
        exact ev_pos (by omega) (ev_bind hn (ev_neg hb ev_now))
      · simp only [impl_TermOk.l0]
        exact ev_pos (by omega) (ev_pos (by omega) (ev_pos (by omega) (ev_pos (by omega) (ev_bind0 rfl (ev_neg hb ev_now)))))
      · simp only [Bool.false_eq_true, false_iff]
        intro hh
        exact hb (hh i hlt (by omega))
theorem term_ev (l : List S36) : ∃ r, Ev (fun k => spec_TermOk.f k l) r ∧ Ev (fun k => impl_TermOk.f k l) r ∧ (r = true ↔ TermOkP l) := by
  by_cases hb : 1 ≤ (l.length : Int) ∧ (l.length : Int) ≤ 80
  · obtain ⟨r, e1, e2, h⟩ := termS_from l (by omega) l.length 0 (by omega)
    refine ⟨r, ?_, ?_, ?_⟩
    · unfold spec_TermOk.f; exact ev_bind0 (inS _ _ _) (ev_pos (by simpa using hb) e1)
    · unfold impl_TermOk.f; exact ev_bind0 (inI _ _ _) (ev_pos (by simpa using hb) e2)
    · rw [h]; unfold TermOkP NodesOk
      constructor
      · intro hh; exact ⟨by omega, by omega, fun i hi => hh i hi (by omega)⟩
      · intro hh j h1 _; exact hh.2.2 j h1
  · refine ⟨false, ?_, ?_, ?_⟩
    · unfold spec_TermOk.f; exact ev_bind0 (inS _ _ _) (ev_neg (by simpa using hb) ev_now)
    · unfold impl_TermOk.f; exact ev_bind0 (inI _ _ _) (ev_neg (by simpa using hb) ev_now)
    · simp only [Bool.false_eq_true, false_iff]; unfold TermOkP; omega


/-- The places of node i's parts. -/
def pl (l : List S36) (i : Nat) : List Int := partsL (rd_T36 l i).f0 (rd_T36 l i).f3 (rd_T36 l i).f4 (rd_T36 l i).f5
def PartsIn (l : List S36) : Prop := ∀ i < l.length, ∀ p ∈ pl l i, 0 ≤ p ∧ p < (i : Int)
theorem parts_in {l : List S36} (h : NodesOk l) : PartsIn l := by
  intro i hi p hp
  have hb := h i hi
  unfold nodeB rightB at hb
  simp only [Bool.and_eq_true] at hb
  have := inB_iff.mp (List.all_eq_true.mp hb.1.2 p hp)
  rw [List.length_take] at this
  omega
def setAll (met : List Bool) (ps : List Int) : List Bool := ps.foldl (fun m p => m.set p.toNat true) met
theorem setAll_len (ps : List Int) : ∀ met : List Bool, (setAll met ps).length = met.length := by
  induction ps with
  | nil => intro met; rfl
  | cons p ps ih => intro met; show (setAll (met.set p.toNat true) ps).length = _; rw [ih, List.length_set]
/-- Going down from node j - 1: who is met. -/
def stepR (pb : Nat → Bool) (l : List S36) (j : Nat) (met : List Bool) : List Bool := if met.getD j false = true ∧ pb j = true then setAll met (pl l j) else met
def rgo (pb : Nat → Bool) (l : List S36) : Nat → List Bool → List Bool
  | 0, met => met
  | j + 1, met => rgo pb l j (stepR pb l j met)
theorem stepR_len (pb : Nat → Bool) (l : List S36) (j : Nat) (met : List Bool) : (stepR pb l j met).length = met.length := by
  unfold stepR; split
  · rw [setAll_len]
  · rfl
theorem rgo_len (pb : Nat → Bool) (l : List S36) (j : Nat) : ∀ met, (rgo pb l j met).length = met.length := by
  induction j with
  | zero => intro met; rfl
  | succ j ih => intro met; show (rgo pb l j _).length = _; rw [ih, stepR_len]
def reachL (pb : Nat → Bool) (l : List S36) (root : Nat) : List Bool := rgo pb l (root + 1) ((List.replicate l.length false).set root true)
theorem reachL_len (pb : Nat → Bool) (l : List S36) (root : Nat) : (reachL pb l root).length = l.length := by unfold reachL; rw [rgo_len]; simp
theorem rdB (l : List Bool) (i : Nat) (h : i < l.length) : rdOf false l (i : Int) = l[i] := by
  unfold rdOf
  rw [Int.toNat_natCast, List.getD_eq_getElem?_getD, List.getElem?_eq_getElem h]; rfl
theorem gdB (l : List Bool) (i : Nat) (h : i < l.length) : l.getD i false = l[i] := by
  rw [List.getD_eq_getElem?_getD, List.getElem?_eq_getElem h]; rfl
theorem setAll_drop (ps : List Int) (t : Nat) (h : t < ps.length) (met : List Bool) : setAll met (ps.drop t) = setAll (met.set (rd ps (t : Int)).toNat true) (ps.drop (t + 1)) := by
  rw [List.drop_eq_getElem_cons h, rdI ps t h]; rfl


theorem reachI_l1 (pf : Int → Option Bool) (l : List S36) (x8 : Int) (ps : List Int) (hps : ps.length ≤ 3) (hp : ∀ p ∈ ps, 0 ≤ p ∧ p < (l.length : Int)) (R : List Bool) (d : Nat) : ∀ (t : Nat) (met : List Bool), t + d = ps.length → met.length = l.length →
    Ev (fun k => impl_reach.l0 pf k l (setAll met (ps.drop t)) (wrap64 (x8 - 1))) R → Ev (fun k => impl_reach.l1 pf k l met x8 ps (ps.length : Int) (t : Int)) R := by
  induction d with
  | zero =>
    intro t met ht hm h
    refine ev_succ ?_
    simp only [impl_reach.l1]
    refine ev_neg (by omega) ?_
    rw [List.drop_eq_nil_of_le (by omega)] at h
    exact h
  | succ d ih =>
    intro t met ht hm h
    have hlt : t < ps.length := by omega
    have hq := hp _ (List.getElem_mem hlt)
    refine ev_succ ?_
    simp only [impl_reach.l1]
    rw [setAll_drop ps t hlt] at h
    refine ev_pos (by omega) (ev_pos (by omega) (ev_pos (by omega) (ev_pos (by rw [rdI ps t hlt]; exact hq.1) (ev_pos (by rw [rdI ps t hlt]; omega) ?_))))
    rw [wrap_id (by omega) (by omega), show ((t : Int) + 1) = ((t + 1 : Nat) : Int) by omega]
    exact ih (t + 1) _ (by omega) (by rw [List.length_set]; exact hm) h
theorem reachI_l0 (pf : Int → Option Bool) (pb : Nat → Bool) (l : List S36) (hl : l.length ≤ 4611686018427387904) (hP : PartsIn l) (hpf : ∀ i : Nat, i < l.length → pf (i : Int) = some (pb i)) (j : Nat) : ∀ met : List Bool, j ≤ l.length → met.length = l.length →
    Ev (fun k => impl_reach.l0 pf k l met ((j : Int) - 1)) (rgo pb l j met) := by
  induction j with
  | zero =>
    intro met hj hm
    refine ev_succ ?_
    simp only [impl_reach.l0]
    exact ev_neg (by omega) ev_now
  | succ j ih =>
    intro met hj hm
    have hlt : j < met.length := by omega
    rw [show ((j + 1 : Nat) : Int) - 1 = (j : Int) by omega]
    show Ev _ (rgo pb l j (stepR pb l j met))
    refine ev_succ ?_
    simp only [impl_reach.l0]
    refine ev_pos (by omega) (ev_pos (by omega) (ev_pos (by omega) ?_))
    rw [rdB met j hlt]
    have jump : ∀ met' : List Bool, met'.length = l.length → Ev (fun k => impl_reach.l0 pf k l met' (wrap64 ((j : Int) - 1))) (rgo pb l j met') := by
      intro met' hm'
      rw [wrap_id (by omega) (by omega)]
      exact ih met' (by omega) hm'
    by_cases hb : met[j] = true
    · refine ev_pos hb (ev_bind0 (hpf j (by omega)) ?_)
      by_cases hq : pb j = true
      · have hs : stepR pb l j met = setAll met (pl l j) := by unfold stepR; rw [if_pos ⟨by rw [gdB met j hlt]; exact hb, hq⟩]
        rw [hq, hs]
        refine ev_succ ?_
        simp only [impl_reach.j1]
        refine ev_neg (by decide) (ev_pos (by omega) (ev_pos (by omega) (ev_bind (ev_of 1 fun k hk => partsI _ _ _ _ _ _ hk) ?_)))
        have h0 := reachI_l1 pf l (j : Int) (pl l j) (partsL_len _ _ _ _) (fun p hp => by have := hP j (by omega) p hp; omega) (rgo pb l j (setAll met (pl l j))) (pl l j).length 0 met (by omega) hm (jump _ (by rw [List.drop_zero, setAll_len]; exact hm))
        exact h0
      · have hq' : pb j = false := by simpa using hq
        have hs : stepR pb l j met = met := by unfold stepR; rw [if_neg (fun h => hq h.2)]
        rw [hq', hs]
        refine ev_succ ?_
        simp only [impl_reach.j1]
        exact ev_pos rfl (jump met hm)
    · have hs : stepR pb l j met = met := by unfold stepR; rw [if_neg (fun h => hb (by rw [← gdB met j hlt]; exact h.1))]
      rw [hs]
      refine ev_neg hb ?_
      refine ev_succ ?_
      simp only [impl_reach.j1]
      exact ev_pos trivial (jump met hm)
theorem reach_ev (pf : Int → Option Bool) (pb : Nat → Bool) (l : List S36) (hl : l.length ≤ 281474976710656) (hP : PartsIn l) (hpf : ∀ i : Nat, i < l.length → pf (i : Int) = some (pb i)) (root : Nat) (hr : root < l.length) :
    Ev (fun k => impl_reach.f pf k l (root : Int)) (reachL pb l root) := by
  unfold impl_reach.f
  refine ev_pos (by omega) (ev_pos (by omega) (ev_bind0 rfl (ev_pos (by omega) (ev_pos (by simp; omega) ?_))))
  have := reachI_l0 pf pb l (by omega) hP hpf (root + 1) ((List.replicate l.length false).set root true) (by omega) (by simp)
  rw [show ((root + 1 : Nat) : Int) - 1 = (root : Int) by omega] at this
  rw [Int.toNat_natCast, Int.toNat_natCast]
  exact this


theorem isqI (a b c d e f : Int) : impl_isQuant.f a b c d e f = some ((a == 19) || (a == 20)) := by
  unfold impl_isQuant.f
  by_cases h : a = 19
  · rw [if_pos h]; simp [h]
  · rw [if_neg h]; simp [h]


def isqB (l : List S36) (i : Nat) : Bool := ((rd_T36 l i).f0 == 19) || ((rd_T36 l i).f0 == 20)
def varB (l : List S36) (v : Int) (i : Nat) : Bool := ((rd_T36 l i).f0 == 1) && ((rd_T36 l i).f2 == v)
def bindB (l : List S36) (v : Int) (i : Nat) : Bool := isqB l i && ((rd_T36 l i).f2 == v)
def cellF (l : List S36) (T : List (List Bool)) (i v : Nat) : Bool :=
  if bindB l v i = true then false else (varB l v i || (pl l i).any fun p => (T.getD p.toNat []).getD v false)
def FT (l : List S36) : Nat → List (List Bool)
  | 0 => []
  | i + 1 => FT l i ++ [(List.range 8).map (cellF l (FT l i) i)]
theorem FT_len (l : List S36) (i : Nat) : (FT l i).length = i := by
  induction i with
  | zero => rfl
  | succ i ih => simp [FT, ih]
theorem FT_row (l : List S36) (i : Nat) : ∀ r ∈ FT l i, r.length = 8 := by
  induction i with
  | zero => intro r hr; simp [FT] at hr
  | succ i ih =>
    intro r hr
    simp only [FT, List.mem_append, List.mem_singleton] at hr
    rcases hr with hr | rfl
    · exact ih r hr
    · simp
theorem FT_get (l : List S36) (n : Nat) : ∀ i < n, (FT l n).getD i [] = (List.range 8).map (cellF l (FT l i) i) := by
  induction n with
  | zero => intro i hi; omega
  | succ n ih =>
    intro i hi
    rw [FT, List.getD_eq_getElem?_getD]
    by_cases h : i < n
    · rw [List.getElem?_append_left (by rw [FT_len]; exact h), ← List.getD_eq_getElem?_getD]; exact ih i h
    · obtain rfl : i = n := by omega
      rw [List.getElem?_append_right (by rw [FT_len]; exact Nat.le_refl _), FT_len, Nat.sub_self]; rfl
def DF (l : List S36) (n v i : Nat) : Bool := ((FT l n).getD i []).getD v false
theorem DF_eq (l : List S36) (hP : PartsIn l) (v : Nat) (hv : v < 8) (i : Nat) (hi : i < l.length) : DF l l.length v i = if bindB l v i = true then false else (varB l v i || (pl l i).any fun p => DF l l.length v p.toNat) := by
  unfold DF
  rw [FT_get l l.length i hi, List.getD_eq_getElem?_getD, List.getElem?_map, List.getElem?_range hv]
  show cellF l (FT l i) i v = _
  unfold cellF
  have e : ((pl l i).any fun p => ((FT l i).getD p.toNat []).getD v false) = (pl l i).any fun p => ((FT l l.length).getD p.toNat []).getD v false := by
    rw [Bool.eq_iff_iff, List.any_eq_true, List.any_eq_true]
    constructor
    · rintro ⟨p, hp, h⟩
      have := hP i hi p hp
      exact ⟨p, hp, by rw [FT_get l i p.toNat (by omega)] at h; rw [FT_get l l.length p.toNat (by omega)]; exact h⟩
    · rintro ⟨p, hp, h⟩
      have := hP i hi p hp
      exact ⟨p, hp, by rw [FT_get l l.length p.toNat (by omega)] at h; rw [FT_get l i p.toNat (by omega)]; exact h⟩
  rw [e]
theorem setAll_get (ps : List Int) : ∀ (met : List Bool) (i : Nat), (setAll met ps).getD i false = true ↔ met.getD i false = true ∨ (i < met.length ∧ ∃ p ∈ ps, p.toNat = i) := by
  induction ps with
  | nil => intro met i; simp [setAll]
  | cons p ps ih =>
    intro met i
    show (setAll (met.set p.toNat true) ps).getD i false = true ↔ _
    rw [ih, List.length_set]
    have h1 : (met.set p.toNat true).getD i false = true ↔ met.getD i false = true ∨ (i < met.length ∧ p.toNat = i) := by
      by_cases hi : i < met.length
      · rw [gdB _ i (by rw [List.length_set]; exact hi), List.getElem_set, gdB met i hi]
        by_cases c : p.toNat = i
        · simp [c, hi]
        · simp [c]
      · rw [List.getD_eq_getElem?_getD, List.getElem?_eq_none (by rw [List.length_set]; omega), List.getD_eq_getElem?_getD, List.getElem?_eq_none (by omega)]
        simp [hi]
    rw [h1]
    constructor
    · rintro ((h | h) | ⟨h, q, hq, e⟩)
      · exact .inl h
      · exact .inr ⟨h.1, p, List.mem_cons_self .., h.2⟩
      · exact .inr ⟨h, q, List.mem_cons_of_mem _ hq, e⟩
    · rintro (h | ⟨h, q, hq, e⟩)
      · exact .inl (.inl h)
      · rcases List.mem_cons.mp hq with rfl | hq
        · exact .inl (.inr ⟨h, e⟩)
        · exact .inr ⟨h, q, hq, e⟩
theorem free_reach (l : List S36) (hP : PartsIn l) (v : Nat) (hv : v < 8) (j : Nat) : ∀ met : List Bool, j ≤ l.length → met.length = l.length →
    (((∃ i, j ≤ i ∧ i < l.length ∧ met.getD i false = true ∧ varB l v i = true) ∨ (∃ i < j, met.getD i false = true ∧ DF l l.length v i = true)) ↔
      ∃ i < l.length, (rgo (fun i => !bindB l v i) l j met).getD i false = true ∧ varB l v i = true) := by
  induction j with
  | zero =>
    intro met hj hm
    simp only [rgo]
    constructor
    · rintro (⟨i, _, h1, h2, h3⟩ | ⟨i, h, _⟩)
      · exact ⟨i, h1, h2, h3⟩
      · omega
    · rintro ⟨i, h1, h2, h3⟩; exact .inl ⟨i, by omega, h1, h2, h3⟩
  | succ j ih =>
    intro met hj hm
    show _ ↔ ∃ i < l.length, (rgo (fun i => !bindB l v i) l j (stepR _ l j met)).getD i false = true ∧ varB l v i = true
    rw [← ih _ (by omega) (by rw [stepR_len]; exact hm)]
    have hD := DF_eq l hP v hv j (by omega)
    by_cases hb : met.getD j false = true
    · by_cases hq : bindB l v j = true
      · have hs : stepR (fun i => !bindB l v i) l j met = met := by unfold stepR; rw [if_neg (by simp [hq])]
        rw [hs]
        rw [if_pos hq] at hD
        have hnv : varB l v j = false := by
          unfold bindB isqB at hq
          unfold varB
          have : (rd_T36 l j).f0 = 19 ∨ (rd_T36 l j).f0 = 20 := by simp at hq; exact hq.1
          rcases this with h | h <;> simp [h]
        constructor
        · rintro (⟨i, h0, h1, h2, h3⟩ | ⟨i, h0, h1, h2⟩)
          · exact .inl ⟨i, by omega, h1, h2, h3⟩
          · rcases Nat.lt_or_ge i j with c | c
            · exact .inr ⟨i, c, h1, h2⟩
            · obtain rfl : i = j := by omega
              rw [hD] at h2; simp at h2
        · rintro (⟨i, h0, h1, h2, h3⟩ | ⟨i, h0, h1, h2⟩)
          · rcases Nat.lt_or_ge j i with c | c
            · exact .inl ⟨i, by omega, h1, h2, h3⟩
            · obtain rfl : i = j := by omega
              rw [hnv] at h3; simp at h3
          · exact .inr ⟨i, by omega, h1, h2⟩
      · have hs : stepR (fun i => !bindB l v i) l j met = setAll met (pl l j) := by unfold stepR; rw [if_pos ⟨hb, by simpa using hq⟩]
        rw [hs]
        rw [if_neg hq] at hD
        have hin := hP j (by omega)
        constructor
        · rintro (⟨i, h0, h1, h2, h3⟩ | ⟨i, h0, h1, h2⟩)
          · exact .inl ⟨i, by omega, h1, (setAll_get _ _ _).mpr (.inl h2), h3⟩
          · rcases Nat.lt_or_ge i j with c | c
            · exact .inr ⟨i, c, (setAll_get _ _ _).mpr (.inl h1), h2⟩
            · obtain rfl : i = j := by omega
              rw [hD, Bool.or_eq_true, List.any_eq_true] at h2
              rcases h2 with h2 | ⟨p, hp, h2⟩
              · exact .inl ⟨i, by omega, by omega, (setAll_get _ _ _).mpr (.inl h1), h2⟩
              · have := hin p hp
                exact .inr ⟨p.toNat, by omega, (setAll_get _ _ _).mpr (.inr ⟨by omega, p, hp, rfl⟩), h2⟩
        · rintro (⟨i, h0, h1, h2, h3⟩ | ⟨i, h0, h1, h2⟩)
          · have h2' : met.getD i false = true := by
              rcases (setAll_get _ _ _).mp h2 with h | ⟨_, p, hp, e⟩
              · exact h
              · have := hin p hp; omega
            rcases Nat.lt_or_ge j i with c | c
            · exact .inl ⟨i, by omega, h1, h2', h3⟩
            · obtain rfl : i = j := by omega
              exact .inr ⟨i, by omega, h2', by rw [hD, h3, Bool.true_or]⟩
          · rcases (setAll_get _ _ _).mp h1 with h | ⟨_, p, hp, e⟩
            · exact .inr ⟨i, by omega, h, h2⟩
            · refine .inr ⟨j, by omega, hb, ?_⟩
              rw [hD, Bool.or_eq_true, List.any_eq_true]
              exact .inr ⟨p, hp, by rw [e]; exact h2⟩
    · have hs : stepR (fun i => !bindB l v i) l j met = met := by unfold stepR; rw [if_neg (fun h => hb h.1)]
      rw [hs]
      constructor
      · rintro (⟨i, h0, h1, h2, h3⟩ | ⟨i, h0, h1, h2⟩)
        · exact .inl ⟨i, by omega, h1, h2, h3⟩
        · rcases Nat.lt_or_ge i j with c | c
          · exact .inr ⟨i, c, h1, h2⟩
          · obtain rfl : i = j := by omega
            exact absurd h1 hb
      · rintro (⟨i, h0, h1, h2, h3⟩ | ⟨i, h0, h1, h2⟩)
        · rcases Nat.lt_or_ge j i with c | c
          · exact .inl ⟨i, by omega, h1, h2, h3⟩
          · obtain rfl : i = j := by omega
            exact absurd h2 hb
        · exact .inr ⟨i, by omega, h1, h2⟩
theorem free_root (l : List S36) (h0 : 1 ≤ l.length) (hP : PartsIn l) (v : Nat) (hv : v < 8) :
    (∃ i < l.length, (reachL (fun i => !bindB l v i) l (l.length - 1)).getD i false = true ∧ varB l v i = true) ↔ DF l l.length v (l.length - 1) = true := by
  unfold reachL
  rw [show l.length - 1 + 1 = l.length by omega, ← free_reach l hP v hv l.length _ (Nat.le_refl _) (by simp)]
  have hm : ∀ i, ((List.replicate l.length false).set (l.length - 1) true).getD i false = true ↔ i = l.length - 1 := by
    intro i
    by_cases hi : i < l.length
    · rw [gdB _ i (by simpa using hi), List.getElem_set]
      by_cases c : l.length - 1 = i
      · simp [c]
      · simp [c]; omega
    · rw [List.getD_eq_getElem?_getD, List.getElem?_eq_none (by simp; omega)]; simp; omega
  constructor
  · rintro (⟨i, a, b, _⟩ | ⟨i, a, b, c⟩)
    · omega
    · rw [(hm i).mp b] at c; exact c
  · intro h; exact .inr ⟨l.length - 1, by omega, (hm _).mpr rfl, h⟩
theorem placeOf_ev (l : List S36) (hl : l.length ≤ 4611686018427387904) (v : Int) (met : List Bool) (hm : met.length = l.length) (d : Nat) : ∀ i : Nat, i + d = l.length →
    ∃ r, Ev (fun k => impl_placeOf.l0 k v met l (l.length : Int) (i : Int)) r ∧ (r ≥ 0 ↔ ∃ j, i ≤ j ∧ j < l.length ∧ met.getD j false = true ∧ varB l v j = true) := by
  induction d with
  | zero =>
    intro i hi
    refine ⟨-1, ev_succ ?_, ?_⟩
    · simp only [impl_placeOf.l0]; exact ev_neg (by omega) ev_now
    · constructor
      · intro h; omega
      · rintro ⟨j, a, b, _⟩; omega
  | succ d ih =>
    intro i hi
    have hlt : i < l.length := by omega
    obtain ⟨r, e, h⟩ := ih (i + 1) (by omega)
    have e' : Ev (fun k => impl_placeOf.l0 k v met l (l.length : Int) (wrap64 ((i : Int) + 1))) r := by
      rw [wrap_id (by omega) (by omega), show ((i : Int) + 1) = ((i + 1 : Nat) : Int) by omega]; exact e
    have skip : ¬ (met.getD i false = true ∧ varB l v i = true) → (r ≥ 0 ↔ ∃ j, i ≤ j ∧ j < l.length ∧ met.getD j false = true ∧ varB l v j = true) := by
      intro hn
      rw [h]
      constructor
      · rintro ⟨j, a, b⟩; exact ⟨j, by omega, b⟩
      · rintro ⟨j, a, b, c⟩
        rcases Nat.lt_or_ge i j with q | q
        · exact ⟨j, by omega, b, c⟩
        · obtain rfl : i = j := by omega
          exact absurd c hn
    by_cases hb : met.getD i false = true
    · by_cases h1 : (rd_T36 l i).f0 = 1
      · by_cases h2 : (rd_T36 l i).f2 = v
        · refine ⟨(i : Int), ev_succ ?_, ?_⟩
          · simp only [impl_placeOf.l0]
            exact ev_pos (by omega) (ev_pos (by omega) (ev_pos (by omega) (ev_pos (by omega) (ev_pos (by rw [rdB met i (by omega), ← gdB met i (by omega)]; exact hb) (ev_pos h1 (ev_pos h2 ev_now))))))
          · exact ⟨fun _ => ⟨i, by omega, hlt, hb, by unfold varB; simp [h1, h2]⟩, fun _ => by omega⟩
        · refine ⟨r, ev_succ ?_, skip (fun hh => h2 ?_)⟩
          · simp only [impl_placeOf.l0]
            exact ev_pos (by omega) (ev_pos (by omega) (ev_pos (by omega) (ev_pos (by omega) (ev_pos (by rw [rdB met i (by omega), ← gdB met i (by omega)]; exact hb) (ev_pos h1 (ev_neg h2 e'))))))
          · have := hh.2; unfold varB at this; simp at this; exact this.2
      · refine ⟨r, ev_succ ?_, skip (fun hh => h1 ?_)⟩
        · simp only [impl_placeOf.l0]
          exact ev_pos (by omega) (ev_pos (by omega) (ev_pos (by omega) (ev_pos (by omega) (ev_pos (by rw [rdB met i (by omega), ← gdB met i (by omega)]; exact hb) (ev_neg h1 e')))))
        · have := hh.2; unfold varB at this; simp at this; exact this.1
    · refine ⟨r, ev_succ ?_, skip (fun hh => hb hh.1)⟩
      simp only [impl_placeOf.l0]
      exact ev_pos (by omega) (ev_pos (by omega) (ev_pos (by omega) (ev_pos (by omega) (ev_neg (by rw [rdB met i (by omega), ← gdB met i (by omega)]; exact hb) e'))))
theorem freeAt_ev (l : List S36) (hl : l.length ≤ 281474976710656) (h0 : 1 ≤ l.length) (hP : PartsIn l) (v : Int) : Ev (fun k => impl_freeAt.f k l v) (reachL (fun i => !bindB l v i) l (l.length - 1)) := by
  unfold impl_freeAt.f
  rw [wrap_id (by omega) (by omega), show (l.length : Int) - 1 = ((l.length - 1 : Nat) : Int) by omega]
  refine reach_ev _ _ l hl hP (fun i hi => ?_) (l.length - 1) (by omega)
  unfold impl_freeAt_1.f
  rw [if_pos (by omega), if_pos (by omega)]
  unfold bindB isqB
  congr 1
  cases ((rd_T36 l i).f0 == 19) || ((rd_T36 l i).f0 == 20) <;> simp [bne]
theorem firstFree_ev (l : List S36) (hl : l.length ≤ 281474976710656) (h0 : 1 ≤ l.length) (hP : PartsIn l) (v : Nat) (hv : v < 8) : ∃ r, Ev (fun k => impl_firstFree.f k l (v : Int)) r ∧ (r ≥ 0 ↔ DF l l.length v (l.length - 1) = true) := by
  obtain ⟨r, e, h⟩ := placeOf_ev l (by omega) (v : Int) (reachL (fun i => !bindB l v i) l (l.length - 1)) (reachL_len _ _ _) l.length 0 (by omega)
  refine ⟨r, ?_, ?_⟩
  · unfold impl_firstFree.f impl_placeOf.f
    exact ev_bind (freeAt_ev l hl h0 hP (v : Int)) (ev_bind e ev_now)
  · rw [h, ← free_root l h0 hP v hv]
    constructor
    · rintro ⟨j, _, a⟩; exact ⟨j, a⟩
    · rintro ⟨j, a⟩; exact ⟨j, by omega, a⟩
theorem l2F (l : List S36) (i : Nat) (hi : i < l.length) (hl : l.length ≤ 80) (T : List (List Bool)) (hT : T.length = i) (hR : ∀ r ∈ T, r.length = 8) (row : List Bool) (v : Nat) (hv : v < 8) (hrow : row.length = v) (ps : List Int) (hps : ps.length ≤ 3) (hp : ∀ p ∈ ps, 0 ≤ p ∧ p < (i : Int)) (R : List Bool) (d : Nat) :
    ∀ (t : Nat) (x7 : Bool), t + d = ps.length →
    Ev (fun k => spec_l02Free.l1 k l T (i : Int) (row ++ [if bindB l v i = true then false else (x7 || (ps.drop t).any fun p => (T.getD p.toNat []).getD v false)]) (wrap64 ((v : Int) + 1))) R →
    Ev (fun k => spec_l02Free.l2 k l T (i : Int) row (v : Int) x7 ps (t : Int)) R := by
  induction d with
  | zero =>
    intro t x7 ht h
    rw [List.drop_eq_nil_of_le (by omega)] at h
    simp only [List.any_nil, Bool.or_false] at h
    refine ev_succ ?_
    simp only [spec_l02Free.l2]
    refine ev_neg (by omega) (ev_pos (by omega) (ev_pos (by omega) ?_))
    unfold bindB isqB at h
    by_cases a : (rd_T36 l i).f0 = 19
    · refine ev_pos a ?_
      by_cases b : (rd_T36 l i).f2 = (v : Int)
      · rw [if_pos (by simp [a, b])] at h
        exact ev_pos b (ev_pos (by omega) h)
      · rw [if_neg (by simp [a, b])] at h
        exact ev_neg b (ev_pos (by omega) h)
    · refine ev_neg a ?_
      by_cases a2 : (rd_T36 l i).f0 = 20
      · refine ev_pos a2 ?_
        by_cases b : (rd_T36 l i).f2 = (v : Int)
        · rw [if_pos (by simp [a2, b])] at h
          exact ev_pos b (ev_pos (by omega) h)
        · rw [if_neg (by simp [a2, b])] at h
          exact ev_neg b (ev_pos (by omega) h)
      · rw [if_neg (by simp [a, a2])] at h
        exact ev_neg a2 (ev_pos (by omega) h)
  | succ d ih =>
    intro t x7 ht h
    have hlt : t < ps.length := by omega
    have hq := hp _ (List.getElem_mem hlt)
    rw [List.drop_eq_getElem_cons hlt, List.any_cons, ← Bool.or_assoc] at h
    refine ev_succ ?_
    simp only [spec_l02Free.l2]
    refine ev_pos (by omega) ?_
    rw [wrap_id (x := (t : Int) + 1) (by omega) (by omega), show ((t : Int) + 1) = ((t + 1 : Nat) : Int) by omega, rdI ps t hlt]
    by_cases hx : x7 = true
    · rw [hx, Bool.true_or] at h
      exact ev_pos hx (ih (t + 1) true (by omega) h)
    · have hx' : x7 = false := by simpa using hx
      rw [hx', Bool.false_or] at h
      have hr : (T.getD ps[t].toNat []).length = 8 := by
        rw [List.getD_eq_getElem?_getD, List.getElem?_eq_getElem (by omega)]
        exact hR _ (List.getElem_mem _)
      refine ev_neg hx (ev_pos (by omega) (ev_pos hq.1 (ev_pos (by omega) (ev_pos (by omega) (ev_pos ?_ ?_)))))
      · show (v : Int) < ((T.getD ps[t].toNat []).length : Int); omega
      · refine ih (t + 1) _ (by omega) ?_
        exact h
theorem l1F (l : List S36) (i : Nat) (hi : i < l.length) (hl : l.length ≤ 80) (hP : PartsIn l) (T : List (List Bool)) (hT : T.length = i) (hR : ∀ r ∈ T, r.length = 8) (R : List Bool)
    (h : Ev (fun k => spec_l02Free.l0 k l (T ++ [(List.range 8).map (cellF l T i)]) (wrap64 ((i : Int) + 1))) R) (d : Nat) :
    ∀ v : Nat, v + d = 8 → Ev (fun k => spec_l02Free.l1 k l T (i : Int) ((List.range v).map (cellF l T i)) (v : Int)) R := by
  induction d with
  | zero =>
    intro v hv
    obtain rfl : v = 8 := by omega
    refine ev_succ ?_
    simp only [spec_l02Free.l1]
    exact ev_neg (by omega) (ev_pos (by omega) h)
  | succ d ih =>
    intro v hv
    refine ev_succ ?_
    simp only [spec_l02Free.l1]
    have go : ∀ x7 : Bool, x7 = varB l v i → Ev (fun k => spec_l02Free.j2 k l T (i : Int) ((List.range v).map (cellF l T i)) (v : Int) x7) R := by
      rintro x7 rfl
      refine ev_succ ?_
      simp only [spec_l02Free.j2]
      refine ev_pos (by omega) (ev_pos (by omega) (ev_bind (ev_of 1 fun k hk => partsS _ _ _ _ _ _ hk) ?_))
      refine l2F l i hi hl T hT hR _ v (by omega) (by simp) (pl l i) (partsL_len _ _ _ _) (hP i hi) R (pl l i).length 0 _ (by omega) ?_
      have := ih (v + 1) (by omega)
      rw [List.range_succ, List.map_append] at this
      rw [wrap_id (by omega) (by omega), show ((v : Int) + 1) = ((v + 1 : Nat) : Int) by omega]
      exact this
    refine ev_pos (by omega) (ev_pos (by omega) (ev_pos (by omega) ?_))
    by_cases a : (rd_T36 l i).f0 = 1
    · exact ev_pos a (go _ (by unfold varB; simp [a]))
    · exact ev_neg a (go _ (by unfold varB; simp [a]))
theorem l0F (l : List S36) (hl : l.length ≤ 80) (h0 : 1 ≤ l.length) (hP : PartsIn l) (d : Nat) : ∀ i : Nat, i + d = l.length → Ev (fun k => spec_l02Free.l0 k l (FT l i) (i : Int)) ((FT l l.length).getD (l.length - 1) []) := by
  induction d with
  | zero =>
    intro i hi
    obtain rfl : i = l.length := by omega
    refine ev_succ ?_
    simp only [spec_l02Free.l0]
    rw [wrap_id (x := (l.length : Int) - 1) (by omega) (by omega)]
    refine ev_neg (by omega) (ev_pos (by omega) (ev_pos (by rw [FT_len]; omega) (ev_eq ?_)))
    unfold rd_L4
    rw [show ((l.length : Int) - 1).toNat = l.length - 1 by omega]
  | succ d ih =>
    intro i hi
    refine ev_succ ?_
    simp only [spec_l02Free.l0]
    refine ev_pos (by omega) ?_
    refine l1F l i (by omega) hl hP (FT l i) (FT_len l i) (FT_row l i) _ ?_ 8 0 rfl
    have := ih (i + 1) (by omega)
    rw [wrap_id (by omega) (by omega), show ((i : Int) + 1) = ((i + 1 : Nat) : Int) by omega]
    exact this
theorem l02Free_ev (l : List S36) (hl : l.length ≤ 80) (h0 : 1 ≤ l.length) (hP : PartsIn l) : Ev (fun k => spec_l02Free.f k l) ((FT l l.length).getD (l.length - 1) []) := l0F l hl h0 hP l.length 0 (by omega)


theorem free_from (l : List S36) (hl : l.length ≤ 80) (h0 : 1 ≤ l.length) (hP : PartsIn l) (d : Nat) : ∀ (v : Nat) (out : List Int), v + d = 8 → out.length + d ≤ 8 →
    ∃ r, Ev (fun k => spec_Free.l0 k out ((FT l l.length).getD (l.length - 1) []) (v : Int)) r ∧ Ev (fun k => impl_Free.l0 k l out (v : Int)) r ∧ r.length ≤ 8 := by
  have hrow : ((FT l l.length).getD (l.length - 1) []).length = 8 := by rw [FT_get l l.length _ (by omega)]; simp
  induction d with
  | zero =>
    intro v out hv ho
    refine ⟨out, ev_succ ?_, ev_succ ?_, by omega⟩
    · simp only [spec_Free.l0]; exact ev_neg (by omega) ev_now
    · simp only [impl_Free.l0]; exact ev_neg (by omega) ev_now
  | succ d ih =>
    intro v out hv ho
    obtain ⟨q, eq, hq⟩ := firstFree_ev l (by omega) h0 hP v (by omega)
    have hrd : rdOf false ((FT l l.length).getD (l.length - 1) []) (v : Int) = DF l l.length v (l.length - 1) := by
      unfold rdOf DF; rw [Int.toNat_natCast]
    by_cases hD : DF l l.length v (l.length - 1) = true
    · obtain ⟨r, e1, e2, hr⟩ := ih (v + 1) (out ++ [(v : Int)]) (by omega) (by simp; omega)
      refine ⟨r, ev_succ ?_, ev_succ ?_, hr⟩
      · simp only [spec_Free.l0]
        refine ev_pos (by omega) (ev_pos (by omega) (ev_pos (by omega) (ev_pos (by rw [hrd]; exact hD) (ev_pos (by omega) ?_))))
        rw [wrap_id (by omega) (by omega), show ((v : Int) + 1) = ((v + 1 : Nat) : Int) by omega]; exact e1
      · simp only [impl_Free.l0]
        refine ev_pos (by omega) (ev_bind eq (ev_pos (hq.mpr hD) (ev_pos (by omega) ?_)))
        rw [wrap_id (by omega) (by omega), show ((v : Int) + 1) = ((v + 1 : Nat) : Int) by omega]; exact e2
    · obtain ⟨r, e1, e2, hr⟩ := ih (v + 1) out (by omega) (by omega)
      refine ⟨r, ev_succ ?_, ev_succ ?_, hr⟩
      · simp only [spec_Free.l0]
        refine ev_pos (by omega) (ev_pos (by omega) (ev_pos (by omega) (ev_neg (by rw [hrd]; exact hD) ?_)))
        rw [wrap_id (by omega) (by omega), show ((v : Int) + 1) = ((v + 1 : Nat) : Int) by omega]; exact e1
      · simp only [impl_Free.l0]
        refine ev_pos (by omega) (ev_bind eq (ev_neg (fun h => hD (hq.mp h)) ?_))
        rw [wrap_id (by omega) (by omega), show ((v : Int) + 1) = ((v + 1 : Nat) : Int) by omega]; exact e2
theorem Free_ev (l : List S36) : ∃ r, Ev (fun k => spec_Free.f k l) r ∧ Ev (fun k => impl_Free.f k l) r ∧ r.length ≤ 8 := by
  obtain ⟨b, e1, e2, h⟩ := term_ev l
  unfold spec_Free.f impl_Free.f
  by_cases hb : b = true
  · obtain ⟨h1, h2, h3⟩ := h.mp hb
    obtain ⟨r, f1, f2, hr⟩ := free_from l h2 h1 (parts_in h3) 8 0 [] rfl (by simp)
    exact ⟨r, ev_bind0 rfl (ev_bind e1 (ev_pos hb (ev_bind (l02Free_ev l h2 h1 (parts_in h3)) f1))), ev_bind0 rfl (ev_bind e2 (ev_pos hb f2)), hr⟩
  · exact ⟨[], ev_bind0 rfl (ev_bind e1 (ev_neg hb ev_now)), ev_bind0 rfl (ev_bind e2 (ev_neg hb ev_now)), by simp⟩

end Go.Proofs.Ytdebihfmceclkaa.Pure.ExactFreeW
namespace Go.Proofs.Ytdebihfmceclkaa.Pure
open Go.RowKit Go.Proofs.Ytdebihfmceclkaa.PFnExactFree Go.Proofs.YtdebihfmceclkaaW.PrintWords Go.Proofs.YtdebihfmceclkaaW.PrintLast Go.Proofs.YtdebihfmceclkaaW.PrintMore Go.Proofs.Ytdebihfmceclkaa.Base Go.Proofs.Ytdebihfmceclkaa.Pure.ExactFreeW

theorem FnExactFree : laws_FnExactFree.Pure := by
  intro l h0 h1 h2
  refine Ev.rounds ?_
  unfold laws_FnExactFree.f
  refine ev_bind0 (szNode l h0) ?_
  by_cases hb : (l.length : Int) > 1048576
  · rw [if_pos hb]; exact ev_pos (by omega) ev_now
  · rw [if_neg hb]
    refine ev_neg (by omega) ?_
    have hl : l.length ≤ 1048576 := by omega
    have hl2 : (l.map cvNode).length ≤ 1048576 := by rw [List.length_map]; exact hl
    obtain ⟨r, e1, e2, hr⟩ := Free_ev (l.map cvNode)
    refine ev_bind (toNode l hl) (ev_bind e1 (ev_bind (toNode l hl) (ev_bind e2 (ev_bind (eqInt r (by omega)) (ev_pos rfl ?_)))))
    refine ev_bind (toNode l hl) (ev_bind (eqNode _ (by omega)) (ev_pos rfl ?_))
    refine ev_bind (markNode _ (by omega)) (ev_neg (by simp; omega) (ev_bind (eqInt r (by omega)) ?_))
    refine ev_succ ?_
    simp only [laws_FnExactFree.j0]
    refine ev_neg (by decide) ?_
    refine ev_bind (markInt r (by omega)) (ev_bind (heldInt _ (by omega)) (ev_neg (by simp; omega) (ev_pos (by simp) ?_)))
    refine ev_bind (toNode l hl) (ev_bind e2 (ev_bind (eqInt r (by omega)) (ev_pos rfl ?_)))
    exact ev_bind (heldInt _ (by omega)) (ev_neg (by simp; omega) (ev_pos (by simp) ev_now))
end Go.Proofs.Ytdebihfmceclkaa.Pure
