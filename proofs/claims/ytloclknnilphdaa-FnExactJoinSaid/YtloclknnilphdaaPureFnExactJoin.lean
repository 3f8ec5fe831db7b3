/- FnExactJoin: what the printed functions come to, for every input. -/
import Derived.Test.YtloclknnilphdaaPFnExactJoinx1
import Derived.Test.YtloclknnilphdaaBase
set_option linter.unusedVariables false
set_option linter.unusedSimpArgs false
namespace Go.Proofs.Ytloclknnilphdaa.Pure.ExactJoinW
open Go.RowKit Go.Proofs.Ytloclknnilphdaa.PFnExactJoin Go.Proofs.YtloclknnilphdaaW.PrintWords Go.Proofs.YtloclknnilphdaaW.PrintLast Go.Proofs.YtloclknnilphdaaW.PrintMore Go.Proofs.Ytloclknnilphdaa.Base

theorem pow2 {w : Int} (h0 : 0 ≤ w) (h8 : w ≤ 8) {k : Nat} (hk : 20 ≤ k) : spec_l01Pow2.f k w = some (P2 w) := by
  obtain ⟨m, rfl⟩ := rounds_of hk
  have : w = 0 ∨ w = 1 ∨ w = 2 ∨ w = 3 ∨ w = 4 ∨ w = 5 ∨ w = 6 ∨ w = 7 ∨ w = 8 := by omega
  rcases this with rfl | rfl | rfl | rfl | rfl | rfl | rfl | rfl | rfl <;> simp [spec_l01Pow2.f, spec_l01Pow2.l0, P2, wrap64]


theorem inS (x a b : Int) : spec_l01In.f x a b = some (decide (a ≤ x ∧ x ≤ b)) := by
  unfold spec_l01In.f
  by_cases h : x ≥ a
  · rw [if_pos h]; simp [h]
  · rw [if_neg h]; simp [h]


theorem inI (x a b : Int) : impl_within.f x a b = some (decide (a ≤ x ∧ x ≤ b)) := by
  unfold impl_within.f
  by_cases h : x ≥ a
  · rw [if_pos h]; simp [h]
  · rw [if_neg h]; simp [h]


theorem wokS (w a : Int) {k : Nat} (hk : 20 ≤ k) : spec_WordOk.f k w a = some (wok w a) := by
  unfold spec_WordOk.f wok
  rw [inS]; simp only [Option.bind_some]
  by_cases h : 1 ≤ w ∧ w ≤ 8
  · have hp := P2_pos (by omega : 0 ≤ w) h.2
    rw [if_pos (by simp [h]), pow2 (by omega) h.2 hk]; simp only [Option.bind_some]
    rw [inS, wrap_id (by omega) (by omega)]; simp [h]
  · rw [if_neg (by simp; omega)]; simp; omega


theorem wokI (w a : Int) : impl_WordOk.f w a = some (wok w a) := by
  unfold impl_WordOk.f impl_isWidth.f wok
  rw [inI]; simp only [Option.bind_some]
  by_cases h : 1 ≤ w ∧ w ≤ 8
  · have hp := P2_pos (by omega : 0 ≤ w) h.2
    rw [if_pos (by simp [h]), if_pos (u64_nonneg w), u64_id (by omega) (by omega), shl_one (by omega) h.2, inI, wrap_id (by omega) (by omega)]
    simp [h]
  · rw [if_neg (by simp; omega)]; simp; omega


theorem JoinS (w a v b : Int) {k : Nat} (hk : 20 ≤ k) : spec_Join.f k w a v b = some (if wok w a = true ∧ wok v b = true ∧ w + v ≤ 8 then a * P2 v + b else 0) := by
  unfold spec_Join.f
  rw [wokS w a hk, wokS v b hk]; simp only [Option.bind_some]
  by_cases ha : wok w a = true
  · rw [if_pos ha]
    by_cases hb : wok v b = true
    · rw [if_pos hb]
      obtain ⟨h1, h8, ha0, hA⟩ := wok_iff.mp ha
      obtain ⟨g1, g8, hb0, hB⟩ := wok_iff.mp hb
      have hp := P2_pos (by omega : 0 ≤ w) h8
      have hq := P2_pos (by omega : 0 ≤ v) g8
      rw [wrap_id (x := w + v) (by omega) (by omega)]
      by_cases hs : w + v > 8
      · rw [if_pos hs, if_neg (by omega)]
      · have hm := mul_bd ha0 (by omega : a ≤ 255) (by omega : 0 ≤ P2 v) (by omega : P2 v ≤ 256)
        rw [if_neg hs, if_pos ⟨ha, hb, by omega⟩, pow2 (by omega) g8 hk]; simp only [Option.bind_some]
        rw [wrap_id (x := a * P2 v) (by omega) (by omega), wrap_id (by omega) (by omega)]
    · rw [if_neg hb, if_neg (fun z => hb z.2.1)]
  · rw [if_neg ha, if_neg (fun z => ha z.1)]


theorem JoinI (w a v b : Int) : impl_Join.f w a v b = some (if wok w a = true ∧ wok v b = true ∧ w + v ≤ 8 then a * P2 v + b else 0) := by
  unfold impl_Join.f
  rw [wokI w a, wokI v b]; simp only [Option.bind_some]
  by_cases ha : wok w a = true
  · rw [if_pos ha]
    by_cases hb : wok v b = true
    · rw [if_pos hb]
      obtain ⟨h1, h8, ha0, hA⟩ := wok_iff.mp ha
      obtain ⟨g1, g8, hb0, hB⟩ := wok_iff.mp hb
      have hp := P2_pos (by omega : 0 ≤ w) h8
      have hq := P2_pos (by omega : 0 ≤ v) g8
      rw [wrap_id (x := w + v) (by omega) (by omega)]
      by_cases hs : w + v > 8
      · rw [if_pos hs, if_neg (by omega)]
      · rw [if_neg hs, if_pos (u64_nonneg v), if_pos ⟨ha, hb, by omega⟩, u64_id (by omega) (by omega), shl_id ha0 (by omega) (by omega) g8, or_id (by omega) g8 ha0 (by omega) hb0 hB]
    · rw [if_neg hb, if_neg (fun z => hb z.2.1)]
  · rw [if_neg ha, if_neg (fun z => ha z.1)]

end Go.Proofs.Ytloclknnilphdaa.Pure.ExactJoinW
namespace Go.Proofs.Ytloclknnilphdaa.Pure
open Go.RowKit Go.Proofs.Ytloclknnilphdaa.PFnExactJoin Go.Proofs.YtloclknnilphdaaW.PrintWords Go.Proofs.YtloclknnilphdaaW.PrintLast Go.Proofs.YtloclknnilphdaaW.PrintMore Go.Proofs.Ytloclknnilphdaa.Base Go.Proofs.Ytloclknnilphdaa.Pure.ExactJoinW
theorem FnExactJoin : laws_FnExactJoin.Pure := by
  intro w a v b _ _ _ _
  refine ⟨30, ?_⟩
  unfold laws_FnExactJoin.f
  rw [JoinS w a v b (by omega), JoinI w a v b]; simp only [Option.bind_some, if_true]
end Go.Proofs.Ytloclknnilphdaa.Pure
