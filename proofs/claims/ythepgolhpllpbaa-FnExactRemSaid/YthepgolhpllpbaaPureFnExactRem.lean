/- FnExactRem: what the printed functions come to, for every input. -/
import Derived.Test.YthepgolhpllpbaaPFnExactRemx1
import Derived.Test.YthepgolhpllpbaaBase
set_option linter.unusedVariables false
set_option linter.unusedSimpArgs false
namespace Go.Proofs.Ythepgolhpllpbaa.Pure.ExactRemW
open Go.RowKit Go.Proofs.Ythepgolhpllpbaa.PFnExactRem Go.Proofs.YthepgolhpllpbaaW.PrintWords Go.Proofs.YthepgolhpllpbaaW.PrintLast Go.Proofs.YthepgolhpllpbaaW.PrintMore Go.Proofs.Ythepgolhpllpbaa.Base

theorem pow2 {w : Int} (h0 : 0 ≤ w) (h8 : w ≤ 8) {k : Nat} (hk : 20 ≤ k) : spec_l01Pow2.f k w = some (P2 w) := by
  obtain ⟨m, rfl⟩ := rounds_of hk
  have : w = 0 ∨ w = 1 ∨ w = 2 ∨ w = 3 ∨ w = 4 ∨ w = 5 ∨ w = 6 ∨ w = 7 ∨ w = 8 := by omega
  rcases this with rfl | rfl | rfl | rfl | rfl | rfl | rfl | rfl | rfl <;> simp [spec_l01Pow2.f, spec_l01Pow2.l0, P2, wrap64]


theorem inS (x a b : Int) : spec_l01In.f x a b = some (decide (a ≤ x ∧ x ≤ b)) := by
  unfold spec_l01In.f
  by_cases h : x ≥ a
  · rw [if_pos h]; simp [h]
  · rw [if_neg h]; simp [h]


theorem inI (x a b : Int) : impl_within.f x a b = some (decide (a ≤ x ∧ x ≤ b)) := by
  unfold impl_within.f
  by_cases h : x ≥ a
  · rw [if_pos h]; simp [h]
  · rw [if_neg h]; simp [h]


theorem wokS (w a : Int) {k : Nat} (hk : 20 ≤ k) : spec_WordOk.f k w a = some (wok w a) := by
  unfold spec_WordOk.f wok
  rw [inS]; simp only [Option.bind_some]
  by_cases h : 1 ≤ w ∧ w ≤ 8
  · have hp := P2_pos (by omega : 0 ≤ w) h.2
    rw [if_pos (by simp [h]), pow2 (by omega) h.2 hk]; simp only [Option.bind_some]
    rw [inS, wrap_id (by omega) (by omega)]; simp [h]
  · rw [if_neg (by simp; omega)]; simp; omega


theorem wokI (w a : Int) : impl_WordOk.f w a = some (wok w a) := by
  unfold impl_WordOk.f impl_isWidth.f wok
  rw [inI]; simp only [Option.bind_some]
  by_cases h : 1 ≤ w ∧ w ≤ 8
  · have hp := P2_pos (by omega : 0 ≤ w) h.2
    rw [if_pos (by simp [h]), if_pos (u64_nonneg w), u64_id (by omega) (by omega), shl_one (by omega) h.2, inI, wrap_id (by omega) (by omega)]
    simp [h]
  · rw [if_neg (by simp; omega)]; simp; omega


theorem twoS (w a b : Int) {k : Nat} (hk : 20 ≤ k) : spec_l01Two.f k w a b = some (wok w a && wok w b) := by
  unfold spec_l01Two.f
  rw [wokS w a hk, wokS w b hk]; cases wok w a <;> simp


theorem twoI (w a b : Int) : impl_two.f w a b = some (wok w a && wok w b) := by
  unfold impl_two.f
  rw [wokI w a, wokI w b]; cases wok w a <;> simp


theorem RemS (w a b : Int) {k : Nat} (hk : 20 ≤ k) : spec_Rem.f k w a b = some (if (wok w a && wok w b) = true then (if b = 0 then a else a % b) else 0) := by
  unfold spec_Rem.f
  rw [twoS w a b hk]; simp only [Option.bind_some]
  by_cases h : (wok w a && wok w b) = true
  · rw [if_pos h, if_pos h]
    obtain ⟨ha, hb⟩ := Bool.and_eq_true_iff.mp h
    obtain ⟨h1, h8, ha0, hA⟩ := wok_iff.mp ha
    obtain ⟨_, _, hb0, hB⟩ := wok_iff.mp hb
    have hp := P2_pos (by omega : 0 ≤ w) h8
    by_cases h0 : b = 0
    · rw [if_pos h0, if_pos h0]
    · rw [if_neg h0, if_neg h0]
      try rw [if_neg h0]
      rw [Int.tmod_eq_emod_of_nonneg ha0]
  · rw [if_neg h, if_neg h]


theorem RemI (w a b : Int) : impl_Rem.f w a b = some (if (wok w a && wok w b) = true then (if b = 0 then a else a % b) else 0) := by
  unfold impl_Rem.f
  rw [twoI w a b]; simp only [Option.bind_some]
  by_cases h : (wok w a && wok w b) = true
  · rw [if_pos h, if_pos h]
    obtain ⟨ha, hb⟩ := Bool.and_eq_true_iff.mp h
    obtain ⟨h1, h8, ha0, hA⟩ := wok_iff.mp ha
    obtain ⟨_, _, hb0, hB⟩ := wok_iff.mp hb
    have hp := P2_pos (by omega : 0 ≤ w) h8
    by_cases h0 : b = 0
    · rw [if_pos h0, if_pos h0]
    · rw [if_neg h0, if_neg h0]
      try rw [if_neg h0]
      rw [Int.tmod_eq_emod_of_nonneg ha0]
  · rw [if_neg h, if_neg h]

end Go.Proofs.Ythepgolhpllpbaa.Pure.ExactRemW
namespace Go.Proofs.Ythepgolhpllpbaa.Pure
open Go.RowKit Go.Proofs.Ythepgolhpllpbaa.PFnExactRem Go.Proofs.YthepgolhpllpbaaW.PrintWords Go.Proofs.YthepgolhpllpbaaW.PrintLast Go.Proofs.YthepgolhpllpbaaW.PrintMore Go.Proofs.Ythepgolhpllpbaa.Base Go.Proofs.Ythepgolhpllpbaa.Pure.ExactRemW
theorem FnExactRem : laws_FnExactRem.Pure := by
  intro w a b _ _ _
  refine ⟨30, ?_⟩
  unfold laws_FnExactRem.f
  rw [RemS w a b (by omega), RemI w a b]; simp only [Option.bind_some, if_true]
end Go.Proofs.Ythepgolhpllpbaa.Pure
