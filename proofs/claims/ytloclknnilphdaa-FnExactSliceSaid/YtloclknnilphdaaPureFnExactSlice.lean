/- FnExactSlice: what the printed functions come to, for every input. -/
import Derived.Test.YtloclknnilphdaaPFnExactSlicex1
import Derived.Test.YtloclknnilphdaaBase
set_option linter.unusedVariables false
set_option linter.unusedSimpArgs false
namespace Go.Proofs.Ytloclknnilphdaa.Pure.ExactSliceW
open Go.RowKit Go.Proofs.Ytloclknnilphdaa.PFnExactSlice Go.Proofs.YtloclknnilphdaaW.PrintWords Go.Proofs.YtloclknnilphdaaW.PrintLast Go.Proofs.YtloclknnilphdaaW.PrintMore Go.Proofs.Ytloclknnilphdaa.Base

theorem pow2 {w : Int} (h0 : 0 ≤ w) (h8 : w ≤ 8) {k : Nat} (hk : 20 ≤ k) : spec_l01Pow2.f k w = some (P2 w) := by
  obtain ⟨m, rfl⟩ := rounds_of hk
  have : w = 0 ∨ w = 1 ∨ w = 2 ∨ w = 3 ∨ w = 4 ∨ w = 5 ∨ w = 6 ∨ w = 7 ∨ w = 8 := by omega
  rcases this with rfl | rfl | rfl | rfl | rfl | rfl | rfl | rfl | rfl <;> simp [spec_l01Pow2.f, spec_l01Pow2.l0, P2, wrap64]


theorem inS (x a b : Int) : spec_l01In.f x a b = some (decide (a ≤ x ∧ x ≤ b)) := by
  unfold spec_l01In.f
  by_cases h : x ≥ a
  · rw [if_pos h]; simp [h]
  · rw [if_neg h]; simp [h]


theorem inI (x a b : Int) : impl_within.f x a b = some (decide (a ≤ x ∧ x ≤ b)) := by
  unfold impl_within.f
  by_cases h : x ≥ a
  · rw [if_pos h]; simp [h]
  · rw [if_neg h]; simp [h]


theorem wokS (w a : Int) {k : Nat} (hk : 20 ≤ k) : spec_WordOk.f k w a = some (wok w a) := by
  unfold spec_WordOk.f wok
  rw [inS]; simp only [Option.bind_some]
  by_cases h : 1 ≤ w ∧ w ≤ 8
  · have hp := P2_pos (by omega : 0 ≤ w) h.2
    rw [if_pos (by simp [h]), pow2 (by omega) h.2 hk]; simp only [Option.bind_some]
    rw [inS, wrap_id (by omega) (by omega)]; simp [h]
  · rw [if_neg (by simp; omega)]; simp; omega


theorem wokI (w a : Int) : impl_WordOk.f w a = some (wok w a) := by
  unfold impl_WordOk.f impl_isWidth.f wok
  rw [inI]; simp only [Option.bind_some]
  by_cases h : 1 ≤ w ∧ w ≤ 8
  · have hp := P2_pos (by omega : 0 ≤ w) h.2
    rw [if_pos (by simp [h]), if_pos (u64_nonneg w), u64_id (by omega) (by omega), shl_one (by omega) h.2, inI, wrap_id (by omega) (by omega)]
    simp [h]
  · rw [if_neg (by simp; omega)]; simp; omega


theorem cutI {w x : Int} (h0 : 0 ≤ w) (h8 : w ≤ 8) (h1 : -9223372036854775808 ≤ x) (h2 : x ≤ 9223372036854775807) : impl_cut.f w x = some (x % P2 w) := by
  unfold impl_cut.f
  have hp := P2_pos h0 h8
  rw [if_pos (u64_nonneg w), u64_id (by omega) (by omega), shl_one h0 h8, wrap_id (by omega) (by omega), mask_id h0 h8 h1 h2]


theorem SliceS (w a l n : Int) (hl1 : -9223372036854775808 ≤ l) (hl2 : l ≤ 9223372036854775807) {k : Nat} (hk : 21 ≤ k) : spec_Slice.f k w a l n = some (if wok w a = true ∧ 0 ≤ l ∧ 1 ≤ n ∧ n ≤ w - l then a / P2 l % P2 n else 0) := by
  unfold spec_Slice.f
  obtain ⟨k, rfl⟩ : ∃ m, k = m + 1 := ⟨k - 1, by omega⟩
  rw [wokS w a (by omega)]; simp only [Option.bind_some, spec_Slice.j0]
  by_cases ha : wok w a = true
  · rw [if_pos ha]
    obtain ⟨h1, h8, ha0, hA⟩ := wok_iff.mp ha
    have hp := P2_pos (by omega : 0 ≤ w) h8
    by_cases hl : l < 0
    · rw [if_pos hl, if_pos trivial, if_neg (by omega)]
    · rw [if_neg hl, inS, wrap_id (by omega) (by omega)]; simp only [Option.bind_some]
      by_cases hn : 1 ≤ n ∧ n ≤ w - l
      · have hpl := P2_pos (by omega : 0 ≤ l) (by omega : l ≤ 8)
        have hpn := P2_pos (by omega : 0 ≤ n) (by omega : n ≤ 8)
        have hq : 0 ≤ a / P2 l ∧ a / P2 l ≤ a := ⟨Int.ediv_nonneg ha0 (by omega), Int.ediv_le_self _ ha0⟩
        rw [if_neg (by simpa using hn), if_pos ⟨ha, by omega, hn.1, hn.2⟩, pow2 (by omega) (by omega) (by omega), pow2 (by omega) (by omega) (by omega)]; simp only [Option.bind_some]
        rw [if_neg (by omega), if_neg (by omega), Int.tdiv_eq_ediv_of_nonneg ha0, wrap_id (by omega) (by omega), Int.tmod_eq_emod_of_nonneg (by omega)]
      · rw [if_pos (by simp; omega), if_neg (by omega)]
  · rw [if_neg ha, if_pos trivial, if_neg (fun z => ha z.1)]


theorem SliceI (w a l n : Int) (hn1 : -9223372036854775808 ≤ n) (hn2 : n ≤ 9223372036854775807) : impl_Slice.f w a l n = some (if wok w a = true ∧ 0 ≤ l ∧ 1 ≤ n ∧ n ≤ w - l then a / P2 l % P2 n else 0) := by
  unfold impl_Slice.f
  rw [wokI w a]; simp only [Option.bind_some]
  by_cases ha : wok w a = true
  · rw [if_pos ha, inI]; simp only [Option.bind_some]
    obtain ⟨h1, h8, ha0, hA⟩ := wok_iff.mp ha
    have hp := P2_pos (by omega : 0 ≤ w) h8
    by_cases hn : 1 ≤ n ∧ n ≤ w
    · rw [if_pos (by simpa using hn), inI, wrap_id (by omega) (by omega)]; simp only [Option.bind_some]
      by_cases hl : 0 ≤ l ∧ l ≤ w - n
      · have hpl := P2_pos (by omega : 0 ≤ l) (by omega : l ≤ 8)
        have hpn := P2_pos (by omega : 0 ≤ n) (by omega : n ≤ 8)
        have hq : 0 ≤ a / P2 l ∧ a / P2 l ≤ a := ⟨Int.ediv_nonneg ha0 (by omega), Int.ediv_le_self _ ha0⟩
        rw [if_pos (by simpa using hl), if_pos (u64_nonneg l), u64_id (by omega) (by omega), shr_id (by omega) (by omega), cutI (by omega) (by omega) (by omega) (by omega), if_pos ⟨ha, by omega, by omega, by omega⟩]
        rfl
      · rw [if_neg (by simpa using hl), if_neg (by omega)]
    · rw [if_neg (by simpa using hn), if_neg (by omega)]
  · rw [if_neg ha, if_neg (fun z => ha z.1)]

end Go.Proofs.Ytloclknnilphdaa.Pure.ExactSliceW
namespace Go.Proofs.Ytloclknnilphdaa.Pure
open Go.RowKit Go.Proofs.Ytloclknnilphdaa.PFnExactSlice Go.Proofs.YtloclknnilphdaaW.PrintWords Go.Proofs.YtloclknnilphdaaW.PrintLast Go.Proofs.YtloclknnilphdaaW.PrintMore Go.Proofs.Ytloclknnilphdaa.Base Go.Proofs.Ytloclknnilphdaa.Pure.ExactSliceW
theorem FnExactSlice : laws_FnExactSlice.Pure := by
  intro w a l n _ _ hl hn
  refine ⟨30, ?_⟩
  have hl := wf64 hl
  have hn := wf64 hn
  unfold laws_FnExactSlice.f
  rw [SliceS w a l n hl.1 hl.2 (by omega), SliceI w a l n hn.1 hn.2]; simp only [Option.bind_some, if_true]
end Go.Proofs.Ytloclknnilphdaa.Pure
