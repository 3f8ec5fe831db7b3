/- FnExactApply: what the printed functions come to, for every input. -/
import Derived.Test.YtdebihfmceclkaaPFnExactApplyx7
import Derived.Test.YtdebihfmceclkaaBase
import Derived.Test.YtdebihfmceclkaaEv
import Derived.Test.YtdebihfmceclkaaWalkFnExactApply
set_option linter.unusedVariables false
set_option linter.unusedSimpArgs false
namespace Go.Proofs.Ytdebihfmceclkaa.Pure.ExactApplyW
open Go.RowKit Go.Proofs.Ytdebihfmceclkaa.PFnExactApply Go.Proofs.YtdebihfmceclkaaW.PrintWords Go.Proofs.YtdebihfmceclkaaW.PrintLast Go.Proofs.YtdebihfmceclkaaW.PrintMore Go.Proofs.Ytdebihfmceclkaa.Base

theorem pow2 {w : Int} (h0 : 0 ≤ w) (h8 : w ≤ 8) {k : Nat} (hk : 20 ≤ k) : spec_l01Pow2.f k w = some (P2 w) := by
  obtain ⟨m, rfl⟩ := rounds_of hk
  have : w = 0 ∨ w = 1 ∨ w = 2 ∨ w = 3 ∨ w = 4 ∨ w = 5 ∨ w = 6 ∨ w = 7 ∨ w = 8 := by omega
  rcases this with rfl | rfl | rfl | rfl | rfl | rfl | rfl | rfl | rfl <;> simp [spec_l01Pow2.f, spec_l01Pow2.l0, P2, wrap64]


theorem inS (x a b : Int) : spec_l01In.f x a b = some (decide (a ≤ x ∧ x ≤ b)) := by
  unfold spec_l01In.f
  by_cases h : x ≥ a
  · rw [if_pos h]; simp [h]
  · rw [if_neg h]; simp [h]


theorem inI (x a b : Int) : impl_within.f x a b = some (decide (a ≤ x ∧ x ≤ b)) := by
  unfold impl_within.f
  by_cases h : x ≥ a
  · rw [if_pos h]; simp [h]
  · rw [if_neg h]; simp [h]


theorem wokS (w a : Int) {k : Nat} (hk : 20 ≤ k) : spec_WordOk.f k w a = some (wok w a) := by
  unfold spec_WordOk.f wok
  rw [inS]; simp only [Option.bind_some]
  by_cases h : 1 ≤ w ∧ w ≤ 8
  · have hp := P2_pos (by omega : 0 ≤ w) h.2
    rw [if_pos (by simp [h]), pow2 (by omega) h.2 hk]; simp only [Option.bind_some]
    rw [inS, wrap_id (by omega) (by omega)]; simp [h]
  · rw [if_neg (by simp; omega)]; simp; omega


theorem wokI (w a : Int) : impl_WordOk.f w a = some (wok w a) := by
  unfold impl_WordOk.f impl_isWidth.f wok
  rw [inI]; simp only [Option.bind_some]
  by_cases h : 1 ≤ w ∧ w ≤ 8
  · have hp := P2_pos (by omega : 0 ≤ w) h.2
    rw [if_pos (by simp [h]), if_pos (u64_nonneg w), u64_id (by omega) (by omega), shl_one (by omega) h.2, inI, wrap_id (by omega) (by omega)]
    simp [h]
  · rw [if_neg (by simp; omega)]; simp; omega


theorem twoS (w a b : Int) {k : Nat} (hk : 20 ≤ k) : spec_l01Two.f k w a b = some (wok w a && wok w b) := by
  unfold spec_l01Two.f
  rw [wokS w a hk, wokS w b hk]; cases wok w a <;> simp


theorem twoI (w a b : Int) : impl_two.f w a b = some (wok w a && wok w b) := by
  unfold impl_two.f
  rw [wokI w a, wokI w b]; cases wok w a <;> simp


theorem cutI {w x : Int} (h0 : 0 ≤ w) (h8 : w ≤ 8) (h1 : -9223372036854775808 ≤ x) (h2 : x ≤ 9223372036854775807) : impl_cut.f w x = some (x % P2 w) := by
  unfold impl_cut.f
  have hp := P2_pos h0 h8
  rw [if_pos (u64_nonneg w), u64_id (by omega) (by omega), shl_one h0 h8, wrap_id (by omega) (by omega), mask_id h0 h8 h1 h2]


theorem AddS (w a b : Int) {k : Nat} (hk : 20 ≤ k) : spec_Add.f k w a b = some (if (wok w a && wok w b) = true then (a + b) % P2 w else 0) := by
  unfold spec_Add.f
  rw [twoS w a b hk]; simp only [Option.bind_some]
  by_cases h : (wok w a && wok w b) = true
  · rw [if_pos h, if_pos h]
    obtain ⟨ha, hb⟩ := Bool.and_eq_true_iff.mp h
    obtain ⟨h1, h8, ha0, hA⟩ := wok_iff.mp ha
    obtain ⟨_, _, hb0, hB⟩ := wok_iff.mp hb
    have hp := P2_pos (by omega : 0 ≤ w) h8
    rw [pow2 (by omega) h8 hk]; simp only [Option.bind_some]
    rw [if_neg (by omega), wrap_id (by omega) (by omega), Int.tmod_eq_emod_of_nonneg (by omega)]
  · rw [if_neg h, if_neg h]


theorem AddI (w a b : Int) : impl_Add.f w a b = some (if (wok w a && wok w b) = true then (a + b) % P2 w else 0) := by
  unfold impl_Add.f
  rw [twoI w a b]; simp only [Option.bind_some]
  by_cases h : (wok w a && wok w b) = true
  · rw [if_pos h, if_pos h]
    obtain ⟨ha, hb⟩ := Bool.and_eq_true_iff.mp h
    obtain ⟨h1, h8, ha0, hA⟩ := wok_iff.mp ha
    obtain ⟨_, _, hb0, hB⟩ := wok_iff.mp hb
    have hp := P2_pos (by omega : 0 ≤ w) h8
    rw [wrap_id (by omega) (by omega), cutI (by omega) h8 (by omega) (by omega)]; rfl
  · rw [if_neg h, if_neg h]


theorem SubS (w a b : Int) {k : Nat} (hk : 20 ≤ k) : spec_Sub.f k w a b = some (if (wok w a && wok w b) = true then (a - b) % P2 w else 0) := by
  unfold spec_Sub.f
  rw [twoS w a b hk]; simp only [Option.bind_some]
  by_cases h : (wok w a && wok w b) = true
  · rw [if_pos h, if_pos h]
    obtain ⟨ha, hb⟩ := Bool.and_eq_true_iff.mp h
    obtain ⟨h1, h8, ha0, hA⟩ := wok_iff.mp ha
    obtain ⟨_, _, hb0, hB⟩ := wok_iff.mp hb
    have hp := P2_pos (by omega : 0 ≤ w) h8
    rw [pow2 (by omega) h8 hk]; simp only [Option.bind_some]
    rw [if_neg (by omega), wrap_id (x := a + P2 w) (by omega) (by omega), wrap_id (by omega) (by omega), Int.tmod_eq_emod_of_nonneg (by omega),
      show a + P2 w - b = a - b + P2 w by omega, Int.add_emod_right]
  · rw [if_neg h, if_neg h]


theorem SubI (w a b : Int) : impl_Sub.f w a b = some (if (wok w a && wok w b) = true then (a - b) % P2 w else 0) := by
  unfold impl_Sub.f
  rw [twoI w a b]; simp only [Option.bind_some]
  by_cases h : (wok w a && wok w b) = true
  · rw [if_pos h, if_pos h]
    obtain ⟨ha, hb⟩ := Bool.and_eq_true_iff.mp h
    obtain ⟨h1, h8, ha0, hA⟩ := wok_iff.mp ha
    obtain ⟨_, _, hb0, hB⟩ := wok_iff.mp hb
    have hp := P2_pos (by omega : 0 ≤ w) h8
    rw [wrap_id (by omega) (by omega), cutI (by omega) h8 (by omega) (by omega)]; rfl
  · rw [if_neg h, if_neg h]


theorem MulS (w a b : Int) {k : Nat} (hk : 20 ≤ k) : spec_Mul.f k w a b = some (if (wok w a && wok w b) = true then (a * b) % P2 w else 0) := by
  unfold spec_Mul.f
  rw [twoS w a b hk]; simp only [Option.bind_some]
  by_cases h : (wok w a && wok w b) = true
  · rw [if_pos h, if_pos h]
    obtain ⟨ha, hb⟩ := Bool.and_eq_true_iff.mp h
    obtain ⟨h1, h8, ha0, hA⟩ := wok_iff.mp ha
    obtain ⟨_, _, hb0, hB⟩ := wok_iff.mp hb
    have hp := P2_pos (by omega : 0 ≤ w) h8
    have hm := mul_bd ha0 (by omega : a ≤ 255) hb0 (by omega : b ≤ 255)
    rw [pow2 (by omega) h8 hk]; simp only [Option.bind_some]
    rw [if_neg (by omega), wrap_id (by omega) (by omega), Int.tmod_eq_emod_of_nonneg (by omega)]
  · rw [if_neg h, if_neg h]


theorem MulI (w a b : Int) : impl_Mul.f w a b = some (if (wok w a && wok w b) = true then (a * b) % P2 w else 0) := by
  unfold impl_Mul.f
  rw [twoI w a b]; simp only [Option.bind_some]
  by_cases h : (wok w a && wok w b) = true
  · rw [if_pos h, if_pos h]
    obtain ⟨ha, hb⟩ := Bool.and_eq_true_iff.mp h
    obtain ⟨h1, h8, ha0, hA⟩ := wok_iff.mp ha
    obtain ⟨_, _, hb0, hB⟩ := wok_iff.mp hb
    have hp := P2_pos (by omega : 0 ≤ w) h8
    have hm := mul_bd ha0 (by omega : a ≤ 255) hb0 (by omega : b ≤ 255)
    rw [wrap_id (by omega) (by omega), cutI (by omega) h8 (by omega) (by omega)]; rfl
  · rw [if_neg h, if_neg h]


theorem DivS (w a b : Int) {k : Nat} (hk : 20 ≤ k) : spec_Div.f k w a b = some (if (wok w a && wok w b) = true then (if b = 0 then P2 w - 1 else a / b) else 0) := by
  unfold spec_Div.f
  rw [twoS w a b hk]; simp only [Option.bind_some]
  by_cases h : (wok w a && wok w b) = true
  · rw [if_pos h, if_pos h]
    obtain ⟨ha, hb⟩ := Bool.and_eq_true_iff.mp h
    obtain ⟨h1, h8, ha0, hA⟩ := wok_iff.mp ha
    obtain ⟨_, _, hb0, hB⟩ := wok_iff.mp hb
    have hp := P2_pos (by omega : 0 ≤ w) h8
    by_cases h0 : b = 0
    · rw [if_pos h0, if_pos h0, pow2 (by omega) h8 hk]; simp only [Option.bind_some]
      rw [wrap_id (by omega) (by omega)]
    · rw [if_neg h0, if_neg h0]
      have hq : 0 ≤ a / b ∧ a / b ≤ a := ⟨Int.ediv_nonneg ha0 hb0, Int.ediv_le_self _ ha0⟩
      try rw [if_neg h0]
      rw [Int.tdiv_eq_ediv_of_nonneg ha0, wrap_id (by omega) (by omega)]
  · rw [if_neg h, if_neg h]


theorem DivI (w a b : Int) : impl_Div.f w a b = some (if (wok w a && wok w b) = true then (if b = 0 then P2 w - 1 else a / b) else 0) := by
  unfold impl_Div.f
  rw [twoI w a b]; simp only [Option.bind_some]
  by_cases h : (wok w a && wok w b) = true
  · rw [if_pos h, if_pos h]
    obtain ⟨ha, hb⟩ := Bool.and_eq_true_iff.mp h
    obtain ⟨h1, h8, ha0, hA⟩ := wok_iff.mp ha
    obtain ⟨_, _, hb0, hB⟩ := wok_iff.mp hb
    have hp := P2_pos (by omega : 0 ≤ w) h8
    by_cases h0 : b = 0
    · rw [if_pos h0, if_pos h0]
      try rw [if_pos (u64_nonneg w)]
      rw [u64_id (by omega) (by omega), shl_one (by omega) h8, wrap_id (by omega) (by omega)]
    · rw [if_neg h0, if_neg h0]
      have hq : 0 ≤ a / b ∧ a / b ≤ a := ⟨Int.ediv_nonneg ha0 hb0, Int.ediv_le_self _ ha0⟩
      try rw [if_neg h0]
      rw [Int.tdiv_eq_ediv_of_nonneg ha0, wrap_id (by omega) (by omega)]
  · rw [if_neg h, if_neg h]


theorem RemS (w a b : Int) {k : Nat} (hk : 20 ≤ k) : spec_Rem.f k w a b = some (if (wok w a && wok w b) = true then (if b = 0 then a else a % b) else 0) := by
  unfold spec_Rem.f
  rw [twoS w a b hk]; simp only [Option.bind_some]
  by_cases h : (wok w a && wok w b) = true
  · rw [if_pos h, if_pos h]
    obtain ⟨ha, hb⟩ := Bool.and_eq_true_iff.mp h
    obtain ⟨h1, h8, ha0, hA⟩ := wok_iff.mp ha
    obtain ⟨_, _, hb0, hB⟩ := wok_iff.mp hb
    have hp := P2_pos (by omega : 0 ≤ w) h8
    by_cases h0 : b = 0
    · rw [if_pos h0, if_pos h0]
    · rw [if_neg h0, if_neg h0]
      try rw [if_neg h0]
      rw [Int.tmod_eq_emod_of_nonneg ha0]
  · rw [if_neg h, if_neg h]


theorem RemI (w a b : Int) : impl_Rem.f w a b = some (if (wok w a && wok w b) = true then (if b = 0 then a else a % b) else 0) := by
  unfold impl_Rem.f
  rw [twoI w a b]; simp only [Option.bind_some]
  by_cases h : (wok w a && wok w b) = true
  · rw [if_pos h, if_pos h]
    obtain ⟨ha, hb⟩ := Bool.and_eq_true_iff.mp h
    obtain ⟨h1, h8, ha0, hA⟩ := wok_iff.mp ha
    obtain ⟨_, _, hb0, hB⟩ := wok_iff.mp hb
    have hp := P2_pos (by omega : 0 ≤ w) h8
    by_cases h0 : b = 0
    · rw [if_pos h0, if_pos h0]
    · rw [if_neg h0, if_neg h0]
      try rw [if_neg h0]
      rw [Int.tmod_eq_emod_of_nonneg ha0]
  · rw [if_neg h, if_neg h]


theorem ShrS (w a b : Int) {k : Nat} (hk : 20 ≤ k) : spec_Shr.f k w a b = some (if (wok w a && wok w b) = true then (if b ≥ w then 0 else a / P2 b) else 0) := by
  unfold spec_Shr.f
  rw [twoS w a b hk]; simp only [Option.bind_some]
  by_cases h : (wok w a && wok w b) = true
  · rw [if_pos h, if_pos h]
    obtain ⟨ha, hb⟩ := Bool.and_eq_true_iff.mp h
    obtain ⟨h1, h8, ha0, hA⟩ := wok_iff.mp ha
    obtain ⟨_, _, hb0, hB⟩ := wok_iff.mp hb
    have hp := P2_pos (by omega : 0 ≤ w) h8
    by_cases hw : b ≥ w
    · rw [if_pos hw, if_pos hw]
    · have hpb := P2_pos hb0 (by omega : b ≤ 8)
      have hq : 0 ≤ a / P2 b ∧ a / P2 b ≤ a := ⟨Int.ediv_nonneg ha0 (by omega), Int.ediv_le_self _ ha0⟩
      rw [if_neg hw, if_neg hw, pow2 hb0 (by omega) hk]; simp only [Option.bind_some]
      rw [if_neg (by omega), Int.tdiv_eq_ediv_of_nonneg ha0, wrap_id (by omega) (by omega)]
  · rw [if_neg h, if_neg h]


theorem ShrI (w a b : Int) : impl_Shr.f w a b = some (if (wok w a && wok w b) = true then (if b ≥ w then 0 else a / P2 b) else 0) := by
  unfold impl_Shr.f
  rw [twoI w a b]; simp only [Option.bind_some]
  by_cases h : (wok w a && wok w b) = true
  · rw [if_pos h, if_pos h]
    obtain ⟨ha, hb⟩ := Bool.and_eq_true_iff.mp h
    obtain ⟨h1, h8, ha0, hA⟩ := wok_iff.mp ha
    obtain ⟨_, _, hb0, hB⟩ := wok_iff.mp hb
    have hp := P2_pos (by omega : 0 ≤ w) h8
    by_cases hw : b ≥ w
    · rw [if_pos hw, if_pos hw]
    · rw [if_neg hw, if_neg hw, if_pos (u64_nonneg b), u64_id (by omega) (by omega), shr_id hb0 (by omega)]
  · rw [if_neg h, if_neg h]


theorem ShlS (w a b : Int) {k : Nat} (hk : 21 ≤ k) : spec_Shl.f k w a b = some (if (wok w a && wok w b) = true then (if b ≥ w then 0 else (a * P2 b) % P2 w) else 0) := by
  unfold spec_Shl.f
  obtain ⟨k, rfl⟩ : ∃ m, k = m + 1 := ⟨k - 1, by omega⟩
  rw [twoS w a b (by omega)]; simp only [Option.bind_some, spec_Shl.j0]
  by_cases h : (wok w a && wok w b) = true
  · rw [if_pos h, if_pos h]
    obtain ⟨ha, hb⟩ := Bool.and_eq_true_iff.mp h
    obtain ⟨h1, h8, ha0, hA⟩ := wok_iff.mp ha
    obtain ⟨_, _, hb0, hB⟩ := wok_iff.mp hb
    have hp := P2_pos (by omega : 0 ≤ w) h8
    by_cases hw : b ≥ w
    · rw [if_pos (by simpa using hw), if_pos hw]
    · have hpb := P2_pos hb0 (by omega : b ≤ 8)
      have hm := mul_bd ha0 (by omega : a ≤ 255) (by omega : 0 ≤ P2 b) (by omega : P2 b ≤ 256)
      rw [if_neg (by simpa using hw), if_neg hw, pow2 hb0 (by omega) (by omega), pow2 (by omega) h8 (by omega)]; simp only [Option.bind_some]
      rw [if_neg (by omega), wrap_id (by omega) (by omega), Int.tmod_eq_emod_of_nonneg (by omega)]
  · rw [if_neg h, if_neg h]; rfl


theorem ShlI (w a b : Int) : impl_Shl.f w a b = some (if (wok w a && wok w b) = true then (if b ≥ w then 0 else (a * P2 b) % P2 w) else 0) := by
  unfold impl_Shl.f
  rw [twoI w a b]; simp only [Option.bind_some]
  by_cases h : (wok w a && wok w b) = true
  · rw [if_pos h, if_pos h]
    obtain ⟨ha, hb⟩ := Bool.and_eq_true_iff.mp h
    obtain ⟨h1, h8, ha0, hA⟩ := wok_iff.mp ha
    obtain ⟨_, _, hb0, hB⟩ := wok_iff.mp hb
    have hp := P2_pos (by omega : 0 ≤ w) h8
    by_cases hw : b ≥ w
    · rw [if_pos hw, if_pos hw]
    · have hpb := P2_pos hb0 (by omega : b ≤ 8)
      have hm := mul_bd ha0 (by omega : a ≤ 255) (by omega : 0 ≤ P2 b) (by omega : P2 b ≤ 256)
      rw [if_neg hw, if_neg hw, if_pos (u64_nonneg b), u64_id (by omega) (by omega), shl_id ha0 (by omega) hb0 (by omega), cutI (by omega) h8 (by omega) (by omega)]; rfl
  · rw [if_neg h, if_neg h]


theorem FlipS (w a : Int) {k : Nat} (hk : 20 ≤ k) : spec_Flip.f k w a = some (if wok w a = true then P2 w - 1 - a else 0) := by
  unfold spec_Flip.f
  rw [wokS w a hk]; simp only [Option.bind_some]
  by_cases ha : wok w a = true
  · rw [if_pos ha, if_pos ha]
    obtain ⟨h1, h8, ha0, hA⟩ := wok_iff.mp ha
    have hp := P2_pos (by omega : 0 ≤ w) h8
    rw [pow2 (by omega) h8 hk]; simp only [Option.bind_some]
    rw [wrap_id (x := P2 w - 1) (by omega) (by omega), wrap_id (by omega) (by omega)]
  · rw [if_neg ha, if_neg ha]


theorem FlipI (w a : Int) : impl_Flip.f w a = some (if wok w a = true then P2 w - 1 - a else 0) := by
  unfold impl_Flip.f
  rw [wokI w a]; simp only [Option.bind_some]
  by_cases ha : wok w a = true
  · rw [if_pos ha, if_pos ha]
    obtain ⟨h1, h8, ha0, hA⟩ := wok_iff.mp ha
    have hp := P2_pos (by omega : 0 ≤ w) h8
    rw [if_pos (u64_nonneg w), u64_id (by omega) (by omega), shl_one (by omega) h8, wrap_id (x := P2 w - 1) (by omega) (by omega), wrap_id (by omega) (by omega)]
  · rw [if_neg ha, if_neg ha]


theorem SignedS (w a : Int) {k : Nat} (hk : 20 ≤ k) : spec_Signed.f k w a = some (if wok w a = true then (if a ≥ P2 (w - 1) then a - P2 w else a) else 0) := by
  unfold spec_Signed.f
  rw [wokS w a hk]; simp only [Option.bind_some]
  by_cases ha : wok w a = true
  · rw [if_pos ha, if_pos ha]
    obtain ⟨h1, h8, ha0, hA⟩ := wok_iff.mp ha
    have hp := P2_pos (by omega : 0 ≤ w) h8
    have hq := P2_pos (by omega : 0 ≤ w - 1) (by omega)
    rw [wrap_id (x := w - 1) (by omega) (by omega), pow2 (by omega) (by omega) hk, pow2 (by omega) h8 hk]; simp only [Option.bind_some]
    by_cases hs : a ≥ P2 (w - 1)
    · rw [if_pos hs, if_pos hs, wrap_id (by omega) (by omega)]
    · rw [if_neg hs, if_neg hs]
  · rw [if_neg ha, if_neg ha]


theorem SignedI (w a : Int) : impl_Signed.f w a = some (if wok w a = true then (if a ≥ P2 (w - 1) then a - P2 w else a) else 0) := by
  unfold impl_Signed.f
  rw [wokI w a]; simp only [Option.bind_some]
  by_cases ha : wok w a = true
  · rw [if_pos ha, if_pos ha]
    obtain ⟨h1, h8, ha0, hA⟩ := wok_iff.mp ha
    have hp := P2_pos (by omega : 0 ≤ w) h8
    have hq := P2_pos (by omega : 0 ≤ w - 1) (by omega)
    rw [if_pos (u64_nonneg _), wrap_id (x := w - 1) (by omega) (by omega), u64_id (x := w - 1) (by omega) (by omega), u64_id (x := w) (by omega) (by omega), shl_one (by omega) (by omega), shl_one (by omega) h8]
    by_cases hs : a ≥ P2 (w - 1)
    · rw [if_pos hs, if_pos hs, if_pos (by omega), wrap_id (by omega) (by omega)]
    · rw [if_neg hs, if_neg hs]
  · rw [if_neg ha, if_neg ha]


theorem boolS (b : Bool) : spec_l01Bool.f b = some (if b = true then 1 else 0) := by
  unfold spec_l01Bool.f; cases b <;> simp


theorem bitI (b : Bool) : impl_bit.f b = some (if b = true then 1 else 0) := by
  unfold impl_bit.f; cases b <;> simp


theorem LessS (w a b : Int) {k : Nat} (hk : 20 ≤ k) : spec_Less.f k w a b = some (if (wok w a && wok w b) = true ∧ a < b then 1 else 0) := by
  unfold spec_Less.f
  rw [twoS w a b hk]; simp only [Option.bind_some]
  by_cases h : (wok w a && wok w b) = true
  · rw [if_pos h, boolS]; simp only [Option.bind_some]; by_cases hl : a < b <;> simp [h, hl]
  · rw [if_neg h, boolS]; simp only [Option.bind_some]; simp [h]


theorem LessI (w a b : Int) : impl_Less.f w a b = some (if (wok w a && wok w b) = true ∧ a < b then 1 else 0) := by
  unfold impl_Less.f
  rw [twoI w a b]; simp only [Option.bind_some]
  by_cases h : (wok w a && wok w b) = true
  · rw [if_pos h, bitI]; simp only [Option.bind_some]; by_cases hl : a < b <;> simp [h, hl]
  · rw [if_neg h, bitI]; simp only [Option.bind_some]; simp [h]


theorem LessSignedS (w a b : Int) {k : Nat} (hk : 20 ≤ k) : spec_LessSigned.f k w a b = some (if (wok w a && wok w b) = true ∧ (if wok w a = true then (if a ≥ P2 (w - 1) then a - P2 w else a) else 0) < (if wok w b = true then (if b ≥ P2 (w - 1) then b - P2 w else b) else 0) then 1 else 0) := by
  unfold spec_LessSigned.f
  rw [twoS w a b hk, SignedS w a hk, SignedS w b hk]; simp only [Option.bind_some]
  by_cases h : (wok w a && wok w b) = true
  · rw [if_pos h, boolS]; simp only [Option.bind_some, decide_eq_true_eq, h, true_and]
  · rw [if_neg h, boolS]; simp only [Option.bind_some]; rw [if_neg (by simp), if_neg (fun z => h z.1)]


theorem LessSignedI (w a b : Int) : impl_LessSigned.f w a b = some (if (wok w a && wok w b) = true ∧ (if wok w a = true then (if a ≥ P2 (w - 1) then a - P2 w else a) else 0) < (if wok w b = true then (if b ≥ P2 (w - 1) then b - P2 w else b) else 0) then 1 else 0) := by
  unfold impl_LessSigned.f
  rw [twoI w a b, SignedI w a, SignedI w b]; simp only [Option.bind_some]
  by_cases h : (wok w a && wok w b) = true
  · rw [if_pos h, bitI]; simp only [Option.bind_some, decide_eq_true_eq, h, true_and]
  · rw [if_neg h, bitI]; simp only [Option.bind_some]; rw [if_neg (by simp), if_neg (fun z => h z.1)]


theorem SliceS (w a l n : Int) (hl1 : -9223372036854775808 ≤ l) (hl2 : l ≤ 9223372036854775807) {k : Nat} (hk : 21 ≤ k) : spec_Slice.f k w a l n = some (if wok w a = true ∧ 0 ≤ l ∧ 1 ≤ n ∧ n ≤ w - l then a / P2 l % P2 n else 0) := by
  unfold spec_Slice.f
  obtain ⟨k, rfl⟩ : ∃ m, k = m + 1 := ⟨k - 1, by omega⟩
  rw [wokS w a (by omega)]; simp only [Option.bind_some, spec_Slice.j0]
  by_cases ha : wok w a = true
  · rw [if_pos ha]
    obtain ⟨h1, h8, ha0, hA⟩ := wok_iff.mp ha
    have hp := P2_pos (by omega : 0 ≤ w) h8
    by_cases hl : l < 0
    · rw [if_pos hl, if_pos trivial, if_neg (by omega)]
    · rw [if_neg hl, inS, wrap_id (by omega) (by omega)]; simp only [Option.bind_some]
      by_cases hn : 1 ≤ n ∧ n ≤ w - l
      · have hpl := P2_pos (by omega : 0 ≤ l) (by omega : l ≤ 8)
        have hpn := P2_pos (by omega : 0 ≤ n) (by omega : n ≤ 8)
        have hq : 0 ≤ a / P2 l ∧ a / P2 l ≤ a := ⟨Int.ediv_nonneg ha0 (by omega), Int.ediv_le_self _ ha0⟩
        rw [if_neg (by simpa using hn), if_pos ⟨ha, by omega, hn.1, hn.2⟩, pow2 (by omega) (by omega) (by omega), pow2 (by omega) (by omega) (by omega)]; simp only [Option.bind_some]
        rw [if_neg (by omega), if_neg (by omega), Int.tdiv_eq_ediv_of_nonneg ha0, wrap_id (by omega) (by omega), Int.tmod_eq_emod_of_nonneg (by omega)]
      · rw [if_pos (by simp; omega), if_neg (by omega)]
  · rw [if_neg ha, if_pos trivial, if_neg (fun z => ha z.1)]


theorem SliceI (w a l n : Int) (hn1 : -9223372036854775808 ≤ n) (hn2 : n ≤ 9223372036854775807) : impl_Slice.f w a l n = some (if wok w a = true ∧ 0 ≤ l ∧ 1 ≤ n ∧ n ≤ w - l then a / P2 l % P2 n else 0) := by
  unfold impl_Slice.f
  rw [wokI w a]; simp only [Option.bind_some]
  by_cases ha : wok w a = true
  · rw [if_pos ha, inI]; simp only [Option.bind_some]
    obtain ⟨h1, h8, ha0, hA⟩ := wok_iff.mp ha
    have hp := P2_pos (by omega : 0 ≤ w) h8
    by_cases hn : 1 ≤ n ∧ n ≤ w
    · rw [if_pos (by simpa using hn), inI, wrap_id (by omega) (by omega)]; simp only [Option.bind_some]
      by_cases hl : 0 ≤ l ∧ l ≤ w - n
      · have hpl := P2_pos (by omega : 0 ≤ l) (by omega : l ≤ 8)
        have hpn := P2_pos (by omega : 0 ≤ n) (by omega : n ≤ 8)
        have hq : 0 ≤ a / P2 l ∧ a / P2 l ≤ a := ⟨Int.ediv_nonneg ha0 (by omega), Int.ediv_le_self _ ha0⟩
        rw [if_pos (by simpa using hl), if_pos (u64_nonneg l), u64_id (by omega) (by omega), shr_id (by omega) (by omega), cutI (by omega) (by omega) (by omega) (by omega), if_pos ⟨ha, by omega, by omega, by omega⟩]
        rfl
      · rw [if_neg (by simpa using hl), if_neg (by omega)]
    · rw [if_neg (by simpa using hn), if_neg (by omega)]
  · rw [if_neg ha, if_neg (fun z => ha z.1)]


/-- The operators of two parts of one width, from 3 to 12. -/
def vBin (op w a b : Int) : Int :=
  if op = 3 then Go.bits .and .i64 a b else if op = 4 then Go.bits .or .i64 a b else if op = 5 then Go.bits .xor .i64 a b
  else if op = 6 then (if (wok w a && wok w b) = true then (a + b) % P2 w else 0)
  else if op = 7 then (if (wok w a && wok w b) = true then (a - b) % P2 w else 0)
  else if op = 8 then (if (wok w a && wok w b) = true then (a * b) % P2 w else 0)
  else if op = 9 then (if (wok w a && wok w b) = true then (if b = 0 then P2 w - 1 else a / b) else 0)
  else if op = 10 then (if (wok w a && wok w b) = true then (if b = 0 then a else a % b) else 0)
  else if op = 11 then (if (wok w a && wok w b) = true then (if b ≥ w then 0 else (a * P2 b) % P2 w) else 0)
  else (if (wok w a && wok w b) = true then (if b ≥ w then 0 else a / P2 b) else 0)
def vLess (w a b : Int) : Int := if (wok w a && wok w b) = true ∧ a < b then 1 else 0
def vLessS (w a b : Int) : Int := if (wok w a && wok w b) = true ∧ (if wok w a = true then (if a ≥ P2 (w - 1) then a - P2 w else a) else 0) < (if wok w b = true then (if b ≥ P2 (w - 1) then b - P2 w else b) else 0) then 1 else 0
def vSlice (w a l n : Int) : Int := if wok w a = true ∧ 0 ≤ l ∧ 1 ≤ n ∧ n ≤ w - l then a / P2 l % P2 n else 0
def vFlip (w a : Int) : Int := if wok w a = true then P2 w - 1 - a else 0
/-- The arguments that are so. -/
def appOk (W w a b c : Int) : Prop := (1 ≤ W ∧ W ≤ 8) ∧ (1 ≤ w ∧ w ≤ 8) ∧ (0 ≤ a ∧ a ≤ 255) ∧ (0 ≤ b ∧ b ≤ 255) ∧ (0 ≤ c ∧ c ≤ 255)
instance (W w a b c : Int) : Decidable (appOk W w a b c) := by unfold appOk; infer_instance
def vApp (op W K w a b c : Int) : Int :=
  if op = 0 then K else if op = 2 then vFlip W a else if 3 ≤ op ∧ op ≤ 12 then vBin op W a b
  else if op = 13 then (if a = b then 1 else 0) else if op = 14 then vLess w a b else if op = 15 then vLessS w a b
  else if op = 16 then (if W < w then b else a * P2 (W - w) + b)
  else if op = 17 then vSlice w a K W
  else if op = 18 then (if a = 1 then b else c) else 0
def vApply (op W K w a b c : Int) : Int := if appOk W w a b c then vApp op W K w a b c else 0


theorem applyS_in (op W K A B C w a b c : Int) (h : appOk W w a b c) (hk1 : -9223372036854775808 ≤ K) (hk2 : K ≤ 9223372036854775807) {k : Nat} (hk : 40 ≤ k) :
    spec_Apply.j0 k w a b c false op W K A B C = some (vApp op W K w a b c) := by
  obtain ⟨k, rfl⟩ : ∃ m, k = m + 1 := ⟨k - 1, by omega⟩
  obtain ⟨⟨W1, W8⟩, ⟨w1, w8⟩, ⟨a0, a1⟩, ⟨b0, b1⟩, c0, c1⟩ := h
  simp only [spec_Apply.j0]
  rw [if_neg (by simp)]
  unfold vApp
  by_cases h0 : op = 0
  · rw [if_pos h0, if_pos h0]
  rw [if_neg h0, if_neg h0]
  by_cases h2 : op = 2
  · rw [if_pos h2, if_pos h2, FlipS _ _ (by omega)]; rfl
  rw [if_neg h2, if_neg h2]
  by_cases hb : 3 ≤ op ∧ op ≤ 12
  · rw [if_pos hb]
    have hc : op = 3 ∨ op = 4 ∨ op = 5 ∨ op = 6 ∨ op = 7 ∨ op = 8 ∨ op = 9 ∨ op = 10 ∨ op = 11 ∨ op = 12 := by omega
    rw [AddS _ _ _ (by omega), SubS _ _ _ (by omega), MulS _ _ _ (by omega), DivS _ _ _ (by omega), RemS _ _ _ (by omega), ShlS _ _ _ (by omega), ShrS _ _ _ (by omega)]
    rcases hc with rfl | rfl | rfl | rfl | rfl | rfl | rfl | rfl | rfl | rfl <;> simp [vBin]
  rw [if_neg (by omega : ¬ op = 3), if_neg (by omega : ¬ op = 4), if_neg (by omega : ¬ op = 5), if_neg (by omega : ¬ op = 6), if_neg (by omega : ¬ op = 7), if_neg (by omega : ¬ op = 8), if_neg (by omega : ¬ op = 9), if_neg (by omega : ¬ op = 10), if_neg (by omega : ¬ op = 11), if_neg (by omega : ¬ op = 12), if_neg hb]
  by_cases h13 : op = 13
  · rw [if_pos h13, if_pos h13, boolS]; simp
  rw [if_neg h13, if_neg h13]
  by_cases h14 : op = 14
  · rw [if_pos h14, if_pos h14, LessS _ _ _ (by omega)]; rfl
  rw [if_neg h14, if_neg h14]
  by_cases h15 : op = 15
  · rw [if_pos h15, if_pos h15, LessSignedS _ _ _ (by omega)]; rfl
  rw [if_neg h15, if_neg h15]
  by_cases h16 : op = 16
  · rw [if_pos h16, if_pos h16]
    by_cases hw : W < w
    · rw [if_pos hw, if_pos hw]
    · have hp := P2_pos (by omega : 0 ≤ W - w) (by omega)
      have hm := mul_bd a0 a1 (by omega : 0 ≤ P2 (W - w)) hp.2
      rw [if_neg hw, if_neg hw, wrap_id (x := W - w) (by omega) (by omega), pow2 (by omega) (by omega) (by omega)]
      simp only [Option.bind_some]
      rw [wrap_id (x := a * P2 (W - w)) (by omega) (by omega), wrap_id (by omega) (by omega)]
  rw [if_neg h16, if_neg h16]
  by_cases h17 : op = 17
  · rw [if_pos h17, if_pos h17, SliceS _ _ _ _ hk1 hk2 (by omega)]; rfl
  rw [if_neg h17, if_neg h17]
  by_cases h18 : op = 18
  · rw [if_pos h18, if_pos h18]; by_cases h1 : a = 1 <;> simp [h1]
  rw [if_neg h18, if_neg h18]
theorem applyS_no (op W K A B C w a b c : Int) {k : Nat} (hk : 1 ≤ k) : spec_Apply.j0 k w a b c true op W K A B C = some 0 := by
  obtain ⟨k, rfl⟩ : ∃ m, k = m + 1 := ⟨k - 1, by omega⟩
  simp only [spec_Apply.j0, if_true]
theorem ApplyS (op W K A B C w a b c : Int) (hk1 : -9223372036854775808 ≤ K) (hk2 : K ≤ 9223372036854775807) {k : Nat} (hk : 40 ≤ k) :
    spec_Apply.f k op W K A B C w a b c = some (vApply op W K w a b c) := by
  unfold spec_Apply.f vApply
  simp only [inS, Option.bind_some, decide_eq_true_eq, applyS_no op W K A B C w a b c (by omega : 1 ≤ k)]
  by_cases h : appOk W w a b c
  · rw [if_pos h]
    have h' := h
    obtain ⟨hW, hw, ha, hb, hc⟩ := h'
    simp only [hW, hw, ha, hb, hc, and_self, if_true, decide_true, Bool.not_true]
    exact applyS_in op W K A B C w a b c h hk1 hk2 hk
  · rw [if_neg h]
    unfold appOk at h
    by_cases hW : 1 ≤ W ∧ W ≤ 8
    · rw [if_pos hW]
      by_cases hw : 1 ≤ w ∧ w ≤ 8
      · rw [if_pos hw]
        by_cases ha : 0 ≤ a ∧ a ≤ 255
        · rw [if_pos ha]
          by_cases hb : 0 ≤ b ∧ b ≤ 255
          · rw [if_pos hb]
            have hc : ¬ (0 ≤ c ∧ c ≤ 255) := fun hc => h ⟨hW, hw, ha, hb, hc⟩
            rw [decide_eq_false hc]
            exact applyS_no op W K A B C w a b c (by omega)
          · rw [if_neg hb]
        · rw [if_neg ha]
      · rw [if_neg hw]
    · rw [if_neg hW]


theorem binI (op w a b : Int) (h : 3 ≤ op ∧ op ≤ 12) : impl_binary.f op w a b = some (vBin op w a b) := by
  unfold impl_binary.f
  have hc : op = 3 ∨ op = 4 ∨ op = 5 ∨ op = 6 ∨ op = 7 ∨ op = 8 ∨ op = 9 ∨ op = 10 ∨ op = 11 ∨ op = 12 := by omega
  rw [AddI, SubI, MulI, DivI, RemI, ShlI, ShrI]
  rcases hc with rfl | rfl | rfl | rfl | rfl | rfl | rfl | rfl | rfl | rfl <;> simp [vBin]


theorem applyI_j2 (op W K A B C b c : Int) (x : Bool) {k : Nat} (hk : 1 ≤ k) : impl_Apply.j2 k b c x op W K A B C = some (if x = true then b else if op = 18 then c else 0) := by
  obtain ⟨k, rfl⟩ : ∃ m, k = m + 1 := ⟨k - 1, by omega⟩
  simp only [impl_Apply.j2]
  cases x <;> simp
  by_cases h : op = 18 <;> simp [h]
theorem applyI_in (op W K A B C w a b c : Int) (h : appOk W w a b c) {k : Nat} (hk : 40 ≤ k) :
    impl_Apply.j0 k w a b c false op W K A B C = some (vApp op W K w a b c) := by
  obtain ⟨k, rfl⟩ : ∃ m, k = m + 2 := ⟨k - 2, by omega⟩
  obtain ⟨⟨W1, W8⟩, ⟨w1, w8⟩, ⟨a0, a1⟩, ⟨b0, b1⟩, c0, c1⟩ := h
  simp only [impl_Apply.j0, impl_Apply.j1]
  rw [if_neg (by simp)]
  unfold vApp
  by_cases h0 : op = 0
  · rw [if_pos h0, if_pos h0]
  rw [if_neg h0, if_neg h0]
  by_cases h2 : op = 2
  · rw [if_pos h2, if_pos h2, FlipI]; rfl
  rw [if_neg h2, if_neg h2, inI]
  simp only [Option.bind_some, decide_eq_true_eq]
  by_cases hb : 3 ≤ op ∧ op ≤ 12
  · rw [if_pos hb, if_pos hb, binI _ _ _ _ hb]; rfl
  rw [if_neg hb, if_neg hb]
  by_cases h13 : op = 13
  · rw [if_pos h13, if_pos h13, bitI]; simp
  rw [if_neg h13, if_neg h13]
  by_cases h14 : op = 14
  · rw [if_pos h14, if_pos h14, LessI]; rfl
  rw [if_neg h14, if_neg h14]
  by_cases h15 : op = 15
  · rw [if_pos h15, if_pos h15, LessSignedI]; rfl
  rw [if_neg h15, if_neg h15]
  by_cases h16 : op = 16
  · rw [if_pos h16, if_pos h16, if_pos h16]
    by_cases hw : W < w
    · rw [if_pos hw, if_pos hw]
    · have hp := P2_pos (by omega : 0 ≤ W - w) (by omega)
      have hm := mul_bd a0 a1 (by omega : 0 ≤ P2 (W - w)) hp.2
      rw [if_neg hw, if_neg hw, wrap_id (x := W - w) (by omega) (by omega), if_pos (u64_nonneg _), u64_id (by omega) (by omega), shl_id a0 a1 (by omega) (by omega), wrap_id (by omega) (by omega)]
  rw [if_neg h16, if_neg h16, if_neg h16, if_neg (by simp)]
  by_cases h17 : op = 17
  · rw [if_pos h17, if_pos h17, SliceI _ _ _ _ (by omega) (by omega)]; rfl
  rw [if_neg h17, if_neg h17]
  by_cases h18 : op = 18
  · rw [if_pos h18, if_pos h18, applyI_j2 _ _ _ _ _ _ _ _ _ (by omega)]; by_cases h1 : a = 1 <;> simp [h1, h18]
  rw [if_neg h18, if_neg h18, applyI_j2 _ _ _ _ _ _ _ _ _ (by omega)]; simp [h18]
theorem applyI_no (op W K A B C w a b c : Int) {k : Nat} (hk : 1 ≤ k) : impl_Apply.j0 k w a b c true op W K A B C = some 0 := by
  obtain ⟨k, rfl⟩ : ∃ m, k = m + 1 := ⟨k - 1, by omega⟩
  simp only [impl_Apply.j0, if_true]
theorem ApplyI (op W K A B C w a b c : Int) {k : Nat} (hk : 40 ≤ k) :
    impl_Apply.f k op W K A B C w a b c = some (vApply op W K w a b c) := by
  unfold impl_Apply.f impl_isWidth.f impl_isByte.f vApply
  simp only [inI, Option.bind_some, decide_eq_true_eq, applyI_no op W K A B C w a b c (by omega : 1 ≤ k)]
  by_cases h : appOk W w a b c
  · rw [if_pos h]
    have h' := h
    obtain ⟨hW, hw, ha, hb, hc⟩ := h'
    simp only [hW, hw, ha, hb, hc, and_self, if_true, decide_true, Bool.not_true]
    exact applyI_in op W K A B C w a b c h hk
  · rw [if_neg h]
    unfold appOk at h
    by_cases hW : 1 ≤ W ∧ W ≤ 8
    · rw [if_pos hW]
      by_cases hw : 1 ≤ w ∧ w ≤ 8
      · rw [if_pos hw]
        by_cases ha : 0 ≤ a ∧ a ≤ 255
        · rw [if_pos ha]
          by_cases hb : 0 ≤ b ∧ b ≤ 255
          · rw [if_pos hb]
            have hc : ¬ (0 ≤ c ∧ c ≤ 255) := fun hc => h ⟨hW, hw, ha, hb, hc⟩
            rw [decide_eq_false hc]
            exact applyI_no op W K A B C w a b c (by omega)
          · rw [if_neg hb]
        · rw [if_neg ha]
      · rw [if_neg hw]
    · rw [if_neg hW]

end Go.Proofs.Ytdebihfmceclkaa.Pure.ExactApplyW
namespace Go.Proofs.Ytdebihfmceclkaa.Pure
open Go.RowKit Go.Proofs.Ytdebihfmceclkaa.PFnExactApply Go.Proofs.YtdebihfmceclkaaW.PrintWords Go.Proofs.YtdebihfmceclkaaW.PrintLast Go.Proofs.YtdebihfmceclkaaW.PrintMore Go.Proofs.Ytdebihfmceclkaa.Base Go.Proofs.Ytdebihfmceclkaa.Pure.ExactApplyW

theorem FnExactApply : laws_FnExactApply.Pure := by
  intro op W K A B C w a b c _ _ hK _ _ _ _ _ _ _
  have hK := wf64 hK
  refine ⟨50, ?_⟩
  unfold laws_FnExactApply.f laws_toNode.f
  simp only [Option.bind_some]
  rw [ApplyS _ _ _ _ _ _ _ _ _ _ hK.1 hK.2 (by omega), ApplyI _ _ _ _ _ _ _ _ _ _ (by omega)]
  simp only [Option.bind_some, if_true]
end Go.Proofs.Ytdebihfmceclkaa.Pure
