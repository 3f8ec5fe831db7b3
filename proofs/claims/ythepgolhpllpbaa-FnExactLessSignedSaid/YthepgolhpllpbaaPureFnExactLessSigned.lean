/- FnExactLessSigned: what the printed functions come to, for every input. -/
import Derived.Test.YthepgolhpllpbaaPFnExactLessSignedx1
import Derived.Test.YthepgolhpllpbaaBase
set_option linter.unusedVariables false
set_option linter.unusedSimpArgs false
namespace Go.Proofs.Ythepgolhpllpbaa.Pure.ExactLessSignedW
open Go.RowKit Go.Proofs.Ythepgolhpllpbaa.PFnExactLessSigned Go.Proofs.YthepgolhpllpbaaW.PrintWords Go.Proofs.YthepgolhpllpbaaW.PrintLast Go.Proofs.YthepgolhpllpbaaW.PrintMore Go.Proofs.Ythepgolhpllpbaa.Base

theorem pow2 {w : Int} (h0 : 0 ≤ w) (h8 : w ≤ 8) {k : Nat} (hk : 20 ≤ k) : spec_l01Pow2.f k w = some (P2 w) := by
  obtain ⟨m, rfl⟩ := rounds_of hk
  have : w = 0 ∨ w = 1 ∨ w = 2 ∨ w = 3 ∨ w = 4 ∨ w = 5 ∨ w = 6 ∨ w = 7 ∨ w = 8 := by omega
  rcases this with rfl | rfl | rfl | rfl | rfl | rfl | rfl | rfl | rfl <;> simp [spec_l01Pow2.f, spec_l01Pow2.l0, P2, wrap64]


theorem inS (x a b : Int) : spec_l01In.f x a b = some (decide (a ≤ x ∧ x ≤ b)) := by
  unfold spec_l01In.f
  by_cases h : x ≥ a
  · rw [if_pos h]; simp [h]
  · rw [if_neg h]; simp [h]


theorem inI (x a b : Int) : impl_within.f x a b = some (decide (a ≤ x ∧ x ≤ b)) := by
  unfold impl_within.f
  by_cases h : x ≥ a
  · rw [if_pos h]; simp [h]
  · rw [if_neg h]; simp [h]


theorem wokS (w a : Int) {k : Nat} (hk : 20 ≤ k) : spec_WordOk.f k w a = some (wok w a) := by
  unfold spec_WordOk.f wok
  rw [inS]; simp only [Option.bind_some]
  by_cases h : 1 ≤ w ∧ w ≤ 8
  · have hp := P2_pos (by omega : 0 ≤ w) h.2
    rw [if_pos (by simp [h]), pow2 (by omega) h.2 hk]; simp only [Option.bind_some]
    rw [inS, wrap_id (by omega) (by omega)]; simp [h]
  · rw [if_neg (by simp; omega)]; simp; omega


theorem wokI (w a : Int) : impl_WordOk.f w a = some (wok w a) := by
  unfold impl_WordOk.f impl_isWidth.f wok
  rw [inI]; simp only [Option.bind_some]
  by_cases h : 1 ≤ w ∧ w ≤ 8
  · have hp := P2_pos (by omega : 0 ≤ w) h.2
    rw [if_pos (by simp [h]), if_pos (u64_nonneg w), u64_id (by omega) (by omega), shl_one (by omega) h.2, inI, wrap_id (by omega) (by omega)]
    simp [h]
  · rw [if_neg (by simp; omega)]; simp; omega


theorem twoS (w a b : Int) {k : Nat} (hk : 20 ≤ k) : spec_l01Two.f k w a b = some (wok w a && wok w b) := by
  unfold spec_l01Two.f
  rw [wokS w a hk, wokS w b hk]; cases wok w a <;> simp


theorem twoI (w a b : Int) : impl_two.f w a b = some (wok w a && wok w b) := by
  unfold impl_two.f
  rw [wokI w a, wokI w b]; cases wok w a <;> simp


theorem SignedS (w a : Int) {k : Nat} (hk : 20 ≤ k) : spec_Signed.f k w a = some (if wok w a = true then (if a ≥ P2 (w - 1) then a - P2 w else a) else 0) := by
  unfold spec_Signed.f
  rw [wokS w a hk]; simp only [Option.bind_some]
  by_cases ha : wok w a = true
  · rw [if_pos ha, if_pos ha]
    obtain ⟨h1, h8, ha0, hA⟩ := wok_iff.mp ha
    have hp := P2_pos (by omega : 0 ≤ w) h8
    have hq := P2_pos (by omega : 0 ≤ w - 1) (by omega)
    rw [wrap_id (x := w - 1) (by omega) (by omega), pow2 (by omega) (by omega) hk, pow2 (by omega) h8 hk]; simp only [Option.bind_some]
    by_cases hs : a ≥ P2 (w - 1)
    · rw [if_pos hs, if_pos hs, wrap_id (by omega) (by omega)]
    · rw [if_neg hs, if_neg hs]
  · rw [if_neg ha, if_neg ha]


theorem SignedI (w a : Int) : impl_Signed.f w a = some (if wok w a = true then (if a ≥ P2 (w - 1) then a - P2 w else a) else 0) := by
  unfold impl_Signed.f
  rw [wokI w a]; simp only [Option.bind_some]
  by_cases ha : wok w a = true
  · rw [if_pos ha, if_pos ha]
    obtain ⟨h1, h8, ha0, hA⟩ := wok_iff.mp ha
    have hp := P2_pos (by omega : 0 ≤ w) h8
    have hq := P2_pos (by omega : 0 ≤ w - 1) (by omega)
    rw [if_pos (u64_nonneg _), wrap_id (x := w - 1) (by omega) (by omega), u64_id (x := w - 1) (by omega) (by omega), u64_id (x := w) (by omega) (by omega), shl_one (by omega) (by omega), shl_one (by omega) h8]
    by_cases hs : a ≥ P2 (w - 1)
    · rw [if_pos hs, if_pos hs, if_pos (by omega), wrap_id (by omega) (by omega)]
    · rw [if_neg hs, if_neg hs]
  · rw [if_neg ha, if_neg ha]


theorem boolS (b : Bool) : spec_l01Bool.f b = some (if b = true then 1 else 0) := by
  unfold spec_l01Bool.f; cases b <;> simp


theorem bitI (b : Bool) : impl_bit.f b = some (if b = true then 1 else 0) := by
  unfold impl_bit.f; cases b <;> simp


theorem LessSignedS (w a b : Int) {k : Nat} (hk : 20 ≤ k) : spec_LessSigned.f k w a b = some (if (wok w a && wok w b) = true ∧ (if wok w a = true then (if a ≥ P2 (w - 1) then a - P2 w else a) else 0) < (if wok w b = true then (if b ≥ P2 (w - 1) then b - P2 w else b) else 0) then 1 else 0) := by
  unfold spec_LessSigned.f
  rw [twoS w a b hk, SignedS w a hk, SignedS w b hk]; simp only [Option.bind_some]
  by_cases h : (wok w a && wok w b) = true
  · rw [if_pos h, boolS]; simp only [Option.bind_some, decide_eq_true_eq, h, true_and]
  · rw [if_neg h, boolS]; simp only [Option.bind_some]; rw [if_neg (by simp), if_neg (fun z => h z.1)]


theorem LessSignedI (w a b : Int) : impl_LessSigned.f w a b = some (if (wok w a && wok w b) = true ∧ (if wok w a = true then (if a ≥ P2 (w - 1) then a - P2 w else a) else 0) < (if wok w b = true then (if b ≥ P2 (w - 1) then b - P2 w else b) else 0) then 1 else 0) := by
  unfold impl_LessSigned.f
  rw [twoI w a b, SignedI w a, SignedI w b]; simp only [Option.bind_some]
  by_cases h : (wok w a && wok w b) = true
  · rw [if_pos h, bitI]; simp only [Option.bind_some, decide_eq_true_eq, h, true_and]
  · rw [if_neg h, bitI]; simp only [Option.bind_some]; rw [if_neg (by simp), if_neg (fun z => h z.1)]

end Go.Proofs.Ythepgolhpllpbaa.Pure.ExactLessSignedW
namespace Go.Proofs.Ythepgolhpllpbaa.Pure
open Go.RowKit Go.Proofs.Ythepgolhpllpbaa.PFnExactLessSigned Go.Proofs.YthepgolhpllpbaaW.PrintWords Go.Proofs.YthepgolhpllpbaaW.PrintLast Go.Proofs.YthepgolhpllpbaaW.PrintMore Go.Proofs.Ythepgolhpllpbaa.Base Go.Proofs.Ythepgolhpllpbaa.Pure.ExactLessSignedW
theorem FnExactLessSigned : laws_FnExactLessSigned.Pure := by
  intro w a b _ _ _
  refine ⟨30, ?_⟩
  unfold laws_FnExactLessSigned.f
  rw [LessSignedS w a b (by omega), LessSignedI w a b]; simp only [Option.bind_some, if_true]
end Go.Proofs.Ythepgolhpllpbaa.Pure
