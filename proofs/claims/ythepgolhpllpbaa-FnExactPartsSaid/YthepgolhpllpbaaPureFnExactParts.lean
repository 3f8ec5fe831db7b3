/- FnExactParts: what the printed functions come to, for every input. -/
import Derived.Test.YthepgolhpllpbaaPFnExactPartsx2
import Derived.Test.YthepgolhpllpbaaBase
import Derived.Test.YthepgolhpllpbaaEv
import Derived.Test.YthepgolhpllpbaaWalkFnExactParts
set_option linter.unusedVariables false
set_option linter.unusedSimpArgs false
namespace Go.Proofs.Ythepgolhpllpbaa.Pure.ExactPartsW
open Go.RowKit Go.Proofs.Ythepgolhpllpbaa.PFnExactParts Go.Proofs.YthepgolhpllpbaaW.PrintWords Go.Proofs.YthepgolhpllpbaaW.PrintLast Go.Proofs.YthepgolhpllpbaaW.PrintMore Go.Proofs.Ythepgolhpllpbaa.Base

theorem inS (x a b : Int) : spec_l01In.f x a b = some (decide (a ≤ x ∧ x ≤ b)) := by
  unfold spec_l01In.f
  by_cases h : x ≥ a
  · rw [if_pos h]; simp [h]
  · rw [if_neg h]; simp [h]


theorem inI (x a b : Int) : impl_within.f x a b = some (decide (a ≤ x ∧ x ≤ b)) := by
  unfold impl_within.f
  by_cases h : x ≥ a
  · rw [if_pos h]; simp [h]
  · rw [if_neg h]; simp [h]


theorem eqInt_from (l : List Int) (hl : l.length ≤ 4611686018427387904) (d : Nat) : ∀ (k i : Nat), i ≤ l.length → l.length - i = d → d < k → laws_eqIntS.l0 k l l (i : Int) = some true := by
  induction d with
  | zero =>
    intro k i hi hd hk
    obtain ⟨k, rfl⟩ : ∃ m, k = m + 1 := ⟨k - 1, by omega⟩
    simp only [laws_eqIntS.l0]
    rw [if_neg (by omega)]
  | succ d ih =>
    intro k i hi hd hk
    obtain ⟨k, rfl⟩ : ∃ m, k = m + 1 := ⟨k - 1, by omega⟩
    simp only [laws_eqIntS.l0]
    rw [if_pos (by omega), if_pos (by omega), if_pos (by omega)]
    rw [if_pos trivial]
    rw [wrap_id (by omega) (by omega), show ((i : Int) + 1) = ((i + 1 : Nat) : Int) by omega]
    exact ih k (i + 1) (by omega) (by omega) (by omega)
theorem eqInt (l : List Int) (hl : l.length ≤ 4611686018427387904) : Ev (fun k => laws_eqIntS.f k l l) true := by
  refine ev_of (l.length + 2) fun k hk => ?_
  unfold laws_eqIntS.f
  rw [if_pos rfl]
  exact eqInt_from l hl l.length k 0 (by omega) (by omega) (by omega)


def mksInt : Nat → Int → List Int
  | 0, _ => []
  | c + 1, m => m :: mksInt c (m + 1)
theorem mksInt_len (c : Nat) : ∀ m, (mksInt c m).length = c := by
  induction c with
  | zero => intro m; rfl
  | succ c ih => intro m; simp [mksInt, ih]
theorem markInt_from (d : Nat) : ∀ (k : Nat) (l : List Int) (i : Nat) (m : Int), l.length ≤ 576460752303423488 → 0 ≤ m → m + (d : Int) ≤ 9223372036854775807 → i ≤ l.length → l.length - i = d → d < k →
    laws_markIntS.l0 k l m (i : Int) = some (m + (d : Int), l.take i ++ mksInt d m) := by
  induction d with
  | zero =>
    intro k l i m hl h0 h1 hi hd hk
    obtain ⟨k, rfl⟩ : ∃ m, k = m + 1 := ⟨k - 1, by omega⟩
    simp only [laws_markIntS.l0]
    rw [if_neg (by omega), List.take_of_length_le (by omega)]; simp [mksInt]
  | succ d ih =>
    intro k l i m hl h0 h1 hi hd hk
    obtain ⟨k, rfl⟩ : ∃ m, k = m + 1 := ⟨k - 1, by omega⟩
    have hlt : i < l.length := by omega
    simp only [laws_markIntS.l0]
    rw [if_pos (by omega), if_pos (by omega), wrap_id (x := m + 1) (by omega) (by omega), wrap_id (x := (i : Int) + 1) (by omega) (by omega), show ((i : Int) + 1) = ((i + 1 : Nat) : Int) by omega, Int.toNat_natCast,
      ih k _ (i + 1) (m + 1) (by simpa using hl) (by omega) (by omega) (by rw [List.length_set]; omega) (by rw [List.length_set]; omega) (by omega)]
    congr 1
    rw [Prod.mk.injEq]
    refine ⟨by omega, ?_⟩
    rw [List.take_succ_eq_append_getElem (by simpa using hlt), List.take_set_of_le (by omega), List.append_assoc]
    simp only [List.getElem_set_self, List.singleton_append, mksInt]
theorem markInt (l : List Int) (hl : l.length ≤ 576460752303423488) : Ev (fun k => laws_markIntS.f k l 1) (1 + (l.length : Int), mksInt l.length 1) := by
  refine ev_of (l.length + 2) fun k hk => ?_
  unfold laws_markIntS.f
  have := markInt_from l.length k l 0 1 (by omega) (by omega) (by omega) (by omega) (by omega) (by omega)
  simpa using this


theorem heldInt_from (d : Nat) : ∀ (k : Nat) (l : List Int) (i : Nat) (m : Int), l.length ≤ 576460752303423488 → 0 ≤ m → m + (d : Int) ≤ 9223372036854775807 → i ≤ l.length → l.length - i = d → l.drop i = mksInt d m → d < k →
    laws_heldIntS.l0 k l m (i : Int) = some (m + (d : Int)) := by
  induction d with
  | zero =>
    intro k l i m hl h0 h1 hi hd he hk
    obtain ⟨k, rfl⟩ : ∃ m, k = m + 1 := ⟨k - 1, by omega⟩
    simp only [laws_heldIntS.l0]
    rw [if_neg (by omega)]; simp
  | succ d ih =>
    intro k l i m hl h0 h1 hi hd he hk
    obtain ⟨k, rfl⟩ : ∃ m, k = m + 1 := ⟨k - 1, by omega⟩
    have hlt : i < l.length := by omega
    have hx : rd l (i : Int) = m := by
      unfold rd
      rw [Int.toNat_natCast, List.getD_eq_getElem?_getD, List.getElem?_eq_getElem hlt]
      rw [List.drop_eq_getElem_cons hlt, mksInt] at he
      exact (List.cons.inj he).1
    have he2 : l.drop (i + 1) = mksInt d (m + 1) := by
      rw [List.drop_eq_getElem_cons hlt, mksInt] at he
      exact (List.cons.inj he).2
    simp only [laws_heldIntS.l0]
    rw [if_pos (by omega), if_pos (by omega), hx]
    rw [if_pos rfl]
    rw [wrap_id (x := m + 1) (by omega) (by omega), wrap_id (x := (i : Int) + 1) (by omega) (by omega), show ((i : Int) + 1) = ((i + 1 : Nat) : Int) by omega,
      ih k l (i + 1) (m + 1) hl (by omega) (by omega) (by omega) (by omega) he2 (by omega)]
    congr 1; omega
theorem heldInt (c : Nat) (hl : c ≤ 576460752303423488) : Ev (fun k => laws_heldIntS.f k (mksInt c 1) 1) (1 + (c : Int)) := by
  refine ev_of (c + 2) fun k hk => ?_
  unfold laws_heldIntS.f
  have hlen := mksInt_len c 1
  exact heldInt_from c k (mksInt c 1) 0 1 (by omega) (by omega) (by omega) (by omega) (by omega) rfl (by omega)


def partsL (op a b c : Int) : List Int := if op = 2 ∨ op = 17 ∨ op = 19 ∨ op = 20 then [a] else if 3 ≤ op ∧ op ≤ 16 then [a, b] else if op = 18 then [a, b, c] else []
theorem partsL_len (op a b c : Int) : (partsL op a b c).length ≤ 3 := by
  unfold partsL; split <;> (try split) <;> (try split) <;> simp
theorem partsS (op w q a b c : Int) {k : Nat} (hk : 1 ≤ k) : spec_Parts.f k op w q a b c = some (partsL op a b c) := by
  obtain ⟨k, rfl⟩ : ∃ m, k = m + 1 := ⟨k - 1, by omega⟩
  unfold spec_Parts.f partsL
  simp only [spec_Parts.j0, inS]
  by_cases h2 : op = 2
  · subst h2; simp
  · by_cases h17 : op = 17
    · subst h17; simp
    · by_cases h19 : op = 19
      · subst h19; simp
      · by_cases h20 : op = 20
        · subst h20; simp
        · have hq : ¬ (op = 2 ∨ op = 17 ∨ op = 19 ∨ op = 20) := by omega
          rw [if_neg h2, if_neg h17, if_neg h19, if_neg (by simpa using h20), if_neg hq]
          simp only [Option.bind_some, decide_eq_true_eq]
          by_cases h3 : 3 ≤ op ∧ op ≤ 16
          · rw [if_pos h3, if_pos h3]
          · rw [if_neg h3, if_neg h3]
            by_cases h18 : op = 18
            · rw [if_pos h18, if_pos h18]
            · rw [if_neg h18, if_neg h18]


theorem partsI (op w q a b c : Int) {k : Nat} (hk : 1 ≤ k) : impl_Parts.f k op w q a b c = some (partsL op a b c) := by
  obtain ⟨k, rfl⟩ : ∃ m, k = m + 1 := ⟨k - 1, by omega⟩
  unfold impl_Parts.f partsL impl_isQuant.f
  simp only [impl_Parts.j0, inI]
  by_cases h2 : op = 2
  · subst h2; simp
  · by_cases h17 : op = 17
    · subst h17; simp
    · by_cases h19 : op = 19
      · subst h19; simp
      · by_cases h20 : op = 20
        · subst h20; simp
        · have hq : ¬ (op = 2 ∨ op = 17 ∨ op = 19 ∨ op = 20) := by omega
          rw [if_neg h2, if_neg h17, if_neg h19, if_neg hq]
          simp only [Option.bind_some, decide_eq_true_eq]
          rw [if_neg (by simpa using h20)]
          by_cases h3 : 3 ≤ op ∧ op ≤ 16
          · rw [if_pos h3, if_pos h3]
          · rw [if_neg h3, if_neg h3]
            by_cases h18 : op = 18
            · rw [if_pos h18, if_pos h18]
            · rw [if_neg h18, if_neg h18]

end Go.Proofs.Ythepgolhpllpbaa.Pure.ExactPartsW
namespace Go.Proofs.Ythepgolhpllpbaa.Pure
open Go.RowKit Go.Proofs.Ythepgolhpllpbaa.PFnExactParts Go.Proofs.YthepgolhpllpbaaW.PrintWords Go.Proofs.YthepgolhpllpbaaW.PrintLast Go.Proofs.YthepgolhpllpbaaW.PrintMore Go.Proofs.Ythepgolhpllpbaa.Base Go.Proofs.Ythepgolhpllpbaa.Pure.ExactPartsW

theorem FnExactParts : laws_FnExactParts.Pure := by
  intro op w q a b c _ _ _ _ _ _
  refine Ev.rounds ?_
  unfold laws_FnExactParts.f laws_toNode.f
  have hl := partsL_len op a b c
  have eS : Ev (fun k => spec_Parts.f k op w q a b c) (partsL op a b c) := ev_of 1 fun k hk => partsS _ _ _ _ _ _ hk
  have eI : Ev (fun k => impl_Parts.f k op w q a b c) (partsL op a b c) := ev_of 1 fun k hk => partsI _ _ _ _ _ _ hk
  refine ev_bind0 rfl (ev_bind eS (ev_bind0 rfl (ev_bind eI (ev_bind (eqInt _ (by omega)) (ev_pos rfl ?_)))))
  refine ev_bind (markInt _ (by omega)) (ev_bind (heldInt _ (by omega)) (ev_neg (by simp; omega) (ev_pos (by simp) ?_)))
  refine ev_bind0 rfl (ev_bind eI (ev_bind (eqInt _ (by omega)) (ev_pos rfl ?_)))
  exact ev_bind (heldInt _ (by omega)) (ev_neg (by simp; omega) (ev_pos (by simp) ev_now))
end Go.Proofs.Ythepgolhpllpbaa.Pure
