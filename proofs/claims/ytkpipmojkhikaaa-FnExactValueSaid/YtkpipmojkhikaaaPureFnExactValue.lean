/- FnExactValue: what the printed functions come to, for every input. -/
import Derived.Test.YtkpipmojkhikaaaVExactValue0
import Derived.Test.YtkpipmojkhikaaaVExactValue1
import Derived.Test.YtkpipmojkhikaaaVExactValue2
import Derived.Test.YtkpipmojkhikaaaVExactValue3
import Derived.Test.YtkpipmojkhikaaaVExactValue4
import Derived.Test.YtkpipmojkhikaaaVExactValue5
import Derived.Test.YtkpipmojkhikaaaBase
import Derived.Test.YtkpipmojkhikaaaEv
import Derived.Test.YtkpipmojkhikaaaWalkFnExactValue
set_option linter.unusedVariables false
set_option linter.unusedSimpArgs false
namespace Go.Proofs.Ytkpipmojkhikaaa.Pure.ExactValueW
open Go.RowKit Go.Proofs.Ytkpipmojkhikaaa.PAll Go.Proofs.YtkpipmojkhikaaaW.PrintWords Go.Proofs.YtkpipmojkhikaaaW.PrintLast Go.Proofs.YtkpipmojkhikaaaW.PrintMore Go.Proofs.Ytkpipmojkhikaaa.Base

theorem pow2 {w : Int} (h0 : 0 ≤ w) (h8 : w ≤ 8) {k : Nat} (hk : 20 ≤ k) : spec_l01Pow2.f k w = some (P2 w) := by
 obtain ⟨m, rfl⟩ := rounds_of hk
 have : w = 0 ∨ w = 1 ∨ w = 2 ∨ w = 3 ∨ w = 4 ∨ w = 5 ∨ w = 6 ∨ w = 7 ∨ w = 8 := by omega
 rcases this with rfl | rfl | rfl | rfl | rfl | rfl | rfl | rfl | rfl <;> simp [spec_l01Pow2.f, spec_l01Pow2.l0, P2, wrap64]
theorem inS (x a b : Int) : spec_l01In.f x a b = some (decide (a ≤ x ∧ x ≤ b)) := by
 unfold spec_l01In.f
 by_cases h : x ≥ a
 ·rw [if_pos h]; simp [h]
 ·rw [if_neg h]; simp [h]
theorem inI (x a b : Int) : impl_within.f x a b = some (decide (a ≤ x ∧ x ≤ b)) := by
 unfold impl_within.f
 by_cases h : x ≥ a
 ·rw [if_pos h]; simp [h]
 ·rw [if_neg h]; simp [h]
theorem wokS (w a : Int) {k : Nat} (hk : 20 ≤ k) : spec_WordOk.f k w a = some (wok w a) := by
 unfold spec_WordOk.f wok
 rw [inS]; simp only [Option.bind_some]
 by_cases h : 1 ≤ w ∧ w ≤ 8
 ·have hp := P2_pos (by omega : 0 ≤ w) h.2
  rw [if_pos (by simp [h]), pow2 (by omega) h.2 hk]; simp only [Option.bind_some]
  rw [inS, wrap_id (by omega) (by omega)]; simp [h]
 ·rw [if_neg (by simp; omega)]; simp; omega
theorem wokI (w a : Int) : impl_WordOk.f w a = some (wok w a) := by
 unfold impl_WordOk.f impl_isWidth.f wok
 rw [inI]; simp only [Option.bind_some]
 by_cases h : 1 ≤ w ∧ w ≤ 8
 ·have hp := P2_pos (by omega : 0 ≤ w) h.2
  rw [if_pos (by simp [h]), if_pos (u64_nonneg w), u64_id (by omega) (by omega), shl_one (by omega) h.2, inI, wrap_id (by omega) (by omega)]
  simp [h]
 ·rw [if_neg (by simp; omega)]; simp; omega
theorem twoS (w a b : Int) {k : Nat} (hk : 20 ≤ k) : spec_l01Two.f k w a b = some (wok w a && wok w b) := by
 unfold spec_l01Two.f
 rw [wokS w a hk, wokS w b hk]; cases wok w a <;> simp
theorem twoI (w a b : Int) : impl_two.f w a b = some (wok w a && wok w b) := by
 unfold impl_two.f
 rw [wokI w a, wokI w b]; cases wok w a <;> simp
theorem cutI {w x : Int} (h0 : 0 ≤ w) (h8 : w ≤ 8) (h1 : -9223372036854775808 ≤ x) (h2 : x ≤ 9223372036854775807) : impl_cut.f w x = some (x % P2 w) := by
 unfold impl_cut.f
 have hp := P2_pos h0 h8
 rw [if_pos (u64_nonneg w), u64_id (by omega) (by omega), shl_one h0 h8, wrap_id (by omega) (by omega), mask_id h0 h8 h1 h2]
theorem AddS (w a b : Int) {k : Nat} (hk : 20 ≤ k) : spec_Add.f k w a b = some (if (wok w a && wok w b) = true then (a + b) % P2 w else 0) := by
 unfold spec_Add.f
 rw [twoS w a b hk]; simp only [Option.bind_some]
 by_cases h : (wok w a && wok w b) = true
 ·rw [if_pos h, if_pos h]
  obtain ⟨ha, hb⟩ := Bool.and_eq_true_iff.mp h
  obtain ⟨h1, h8, ha0, hA⟩ := wok_iff.mp ha
  obtain ⟨_, _, hb0, hB⟩ := wok_iff.mp hb
  have hp := P2_pos (by omega : 0 ≤ w) h8
  rw [pow2 (by omega) h8 hk]; simp only [Option.bind_some]
  rw [if_neg (by omega), wrap_id (by omega) (by omega), Int.tmod_eq_emod_of_nonneg (by omega)]
 ·rw [if_neg h, if_neg h]
theorem AddI (w a b : Int) : impl_Add.f w a b = some (if (wok w a && wok w b) = true then (a + b) % P2 w else 0) := by
 unfold impl_Add.f
 rw [twoI w a b]; simp only [Option.bind_some]
 by_cases h : (wok w a && wok w b) = true
 ·rw [if_pos h, if_pos h]
  obtain ⟨ha, hb⟩ := Bool.and_eq_true_iff.mp h
  obtain ⟨h1, h8, ha0, hA⟩ := wok_iff.mp ha
  obtain ⟨_, _, hb0, hB⟩ := wok_iff.mp hb
  have hp := P2_pos (by omega : 0 ≤ w) h8
  rw [wrap_id (by omega) (by omega), cutI (by omega) h8 (by omega) (by omega)]; rfl
 ·rw [if_neg h, if_neg h]
theorem SubS (w a b : Int) {k : Nat} (hk : 20 ≤ k) : spec_Sub.f k w a b = some (if (wok w a && wok w b) = true then (a - b) % P2 w else 0) := by
 unfold spec_Sub.f
 rw [twoS w a b hk]; simp only [Option.bind_some]
 by_cases h : (wok w a && wok w b) = true
 ·rw [if_pos h, if_pos h]
  obtain ⟨ha, hb⟩ := Bool.and_eq_true_iff.mp h
  obtain ⟨h1, h8, ha0, hA⟩ := wok_iff.mp ha
  obtain ⟨_, _, hb0, hB⟩ := wok_iff.mp hb
  have hp := P2_pos (by omega : 0 ≤ w) h8
  rw [pow2 (by omega) h8 hk]; simp only [Option.bind_some]
  rw [if_neg (by omega), wrap_id (x := a + P2 w) (by omega) (by omega), wrap_id (by omega) (by omega), Int.tmod_eq_emod_of_nonneg (by omega),
   show a + P2 w - b = a - b + P2 w by omega, Int.add_emod_right]
 ·rw [if_neg h, if_neg h]
theorem SubI (w a b : Int) : impl_Sub.f w a b = some (if (wok w a && wok w b) = true then (a - b) % P2 w else 0) := by
 unfold impl_Sub.f
 rw [twoI w a b]; simp only [Option.bind_some]
 by_cases h : (wok w a && wok w b) = true
 ·rw [if_pos h, if_pos h]
  obtain ⟨ha, hb⟩ := Bool.and_eq_true_iff.mp h
  obtain ⟨h1, h8, ha0, hA⟩ := wok_iff.mp ha
  obtain ⟨_, _, hb0, hB⟩ := wok_iff.mp hb
  have hp := P2_pos (by omega : 0 ≤ w) h8
  rw [wrap_id (by omega) (by omega), cutI (by omega) h8 (by omega) (by omega)]; rfl
 ·rw [if_neg h, if_neg h]
theorem MulS (w a b : Int) {k : Nat} (hk : 20 ≤ k) : spec_Mul.f k w a b = some (if (wok w a && wok w b) = true then (a * b) % P2 w else 0) := by
 unfold spec_Mul.f
 rw [twoS w a b hk]; simp only [Option.bind_some]
 by_cases h : (wok w a && wok w b) = true
 ·rw [if_pos h, if_pos h]
  obtain ⟨ha, hb⟩ := Bool.and_eq_true_iff.mp h
  obtain ⟨h1, h8, ha0, hA⟩ := wok_iff.mp ha
  obtain ⟨_, _, hb0, hB⟩ := wok_iff.mp hb
  have hp := P2_pos (by omega : 0 ≤ w) h8
  have hm := mul_bd ha0 (by omega : a ≤ 255) hb0 (by omega : b ≤ 255)
  rw [pow2 (by omega) h8 hk]; simp only [Option.bind_some]
  rw [if_neg (by omega), wrap_id (by omega) (by omega), Int.tmod_eq_emod_of_nonneg (by omega)]
 ·rw [if_neg h, if_neg h]
theorem MulI (w a b : Int) : impl_Mul.f w a b = some (if (wok w a && wok w b) = true then (a * b) % P2 w else 0) := by
 unfold impl_Mul.f
 rw [twoI w a b]; simp only [Option.bind_some]
 by_cases h : (wok w a && wok w b) = true
 ·rw [if_pos h, if_pos h]
  obtain ⟨ha, hb⟩ := Bool.and_eq_true_iff.mp h
  obtain ⟨h1, h8, ha0, hA⟩ := wok_iff.mp ha
  obtain ⟨_, _, hb0, hB⟩ := wok_iff.mp hb
  have hp := P2_pos (by omega : 0 ≤ w) h8
  have hm := mul_bd ha0 (by omega : a ≤ 255) hb0 (by omega : b ≤ 255)
  rw [wrap_id (by omega) (by omega), cutI (by omega) h8 (by omega) (by omega)]; rfl
 ·rw [if_neg h, if_neg h]
theorem DivS (w a b : Int) {k : Nat} (hk : 20 ≤ k) : spec_Div.f k w a b = some (if (wok w a && wok w b) = true then (if b = 0 then P2 w - 1 else a / b) else 0) := by
 unfold spec_Div.f
 rw [twoS w a b hk]; simp only [Option.bind_some]
 by_cases h : (wok w a && wok w b) = true
 ·rw [if_pos h, if_pos h]
  obtain ⟨ha, hb⟩ := Bool.and_eq_true_iff.mp h
  obtain ⟨h1, h8, ha0, hA⟩ := wok_iff.mp ha
  obtain ⟨_, _, hb0, hB⟩ := wok_iff.mp hb
  have hp := P2_pos (by omega : 0 ≤ w) h8
  by_cases h0 : b = 0
  ·rw [if_pos h0, if_pos h0, pow2 (by omega) h8 hk]; simp only [Option.bind_some]
   rw [wrap_id (by omega) (by omega)]
  ·rw [if_neg h0, if_neg h0]
   have hq : 0 ≤ a / b ∧ a / b ≤ a := ⟨Int.ediv_nonneg ha0 hb0, Int.ediv_le_self _ ha0⟩
   try rw [if_neg h0]
   rw [Int.tdiv_eq_ediv_of_nonneg ha0, wrap_id (by omega) (by omega)]
 ·rw [if_neg h, if_neg h]
theorem DivI (w a b : Int) : impl_Div.f w a b = some (if (wok w a && wok w b) = true then (if b = 0 then P2 w - 1 else a / b) else 0) := by
 unfold impl_Div.f
 rw [twoI w a b]; simp only [Option.bind_some]
 by_cases h : (wok w a && wok w b) = true
 ·rw [if_pos h, if_pos h]
  obtain ⟨ha, hb⟩ := Bool.and_eq_true_iff.mp h
  obtain ⟨h1, h8, ha0, hA⟩ := wok_iff.mp ha
  obtain ⟨_, _, hb0, hB⟩ := wok_iff.mp hb
  have hp := P2_pos (by omega : 0 ≤ w) h8
  by_cases h0 : b = 0
  ·rw [if_pos h0, if_pos h0]
   try rw [if_pos (u64_nonneg w)]
   rw [u64_id (by omega) (by omega), shl_one (by omega) h8, wrap_id (by omega) (by omega)]
  ·rw [if_neg h0, if_neg h0]
   have hq : 0 ≤ a / b ∧ a / b ≤ a := ⟨Int.ediv_nonneg ha0 hb0, Int.ediv_le_self _ ha0⟩
   try rw [if_neg h0]
   rw [Int.tdiv_eq_ediv_of_nonneg ha0, wrap_id (by omega) (by omega)]
 ·rw [if_neg h, if_neg h]
theorem RemS (w a b : Int) {k : Nat} (hk : 20 ≤ k) : spec_Rem.f k w a b = some (if (wok w a && wok w b) = true then (if b = 0 then a else a % b) else 0) := by
 unfold spec_Rem.f
 rw [twoS w a b hk]; simp only [Option.bind_some]
 by_cases h : (wok w a && wok w b) = true
 ·rw [if_pos h, if_pos h]
  obtain ⟨ha, hb⟩ := Bool.and_eq_true_iff.mp h
  obtain ⟨h1, h8, ha0, hA⟩ := wok_iff.mp ha
  obtain ⟨_, _, hb0, hB⟩ := wok_iff.mp hb
  have hp := P2_pos (by omega : 0 ≤ w) h8
  by_cases h0 : b = 0
  ·rw [if_pos h0, if_pos h0]
  ·rw [if_neg h0, if_neg h0]
   try rw [if_neg h0]
   rw [Int.tmod_eq_emod_of_nonneg ha0]
 ·rw [if_neg h, if_neg h]
theorem RemI (w a b : Int) : impl_Rem.f w a b = some (if (wok w a && wok w b) = true then (if b = 0 then a else a % b) else 0) := by
 unfold impl_Rem.f
 rw [twoI w a b]; simp only [Option.bind_some]
 by_cases h : (wok w a && wok w b) = true
 ·rw [if_pos h, if_pos h]
  obtain ⟨ha, hb⟩ := Bool.and_eq_true_iff.mp h
  obtain ⟨h1, h8, ha0, hA⟩ := wok_iff.mp ha
  obtain ⟨_, _, hb0, hB⟩ := wok_iff.mp hb
  have hp := P2_pos (by omega : 0 ≤ w) h8
  by_cases h0 : b = 0
  ·rw [if_pos h0, if_pos h0]
  ·rw [if_neg h0, if_neg h0]
   try rw [if_neg h0]
   rw [Int.tmod_eq_emod_of_nonneg ha0]
 ·rw [if_neg h, if_neg h]
theorem ShrS (w a b : Int) {k : Nat} (hk : 20 ≤ k) : spec_Shr.f k w a b = some (if (wok w a && wok w b) = true then (if b ≥ w then 0 else a / P2 b) else 0) := by
 unfold spec_Shr.f
 rw [twoS w a b hk]; simp only [Option.bind_some]
 by_cases h : (wok w a && wok w b) = true
 ·rw [if_pos h, if_pos h]
  obtain ⟨ha, hb⟩ := Bool.and_eq_true_iff.mp h
  obtain ⟨h1, h8, ha0, hA⟩ := wok_iff.mp ha
  obtain ⟨_, _, hb0, hB⟩ := wok_iff.mp hb
  have hp := P2_pos (by omega : 0 ≤ w) h8
  by_cases hw : b ≥ w
  ·rw [if_pos hw, if_pos hw]
  ·have hpb := P2_pos hb0 (by omega : b ≤ 8)
   have hq : 0 ≤ a / P2 b ∧ a / P2 b ≤ a := ⟨Int.ediv_nonneg ha0 (by omega), Int.ediv_le_self _ ha0⟩
   rw [if_neg hw, if_neg hw, pow2 hb0 (by omega) hk]; simp only [Option.bind_some]
   rw [if_neg (by omega), Int.tdiv_eq_ediv_of_nonneg ha0, wrap_id (by omega) (by omega)]
 ·rw [if_neg h, if_neg h]
theorem ShrI (w a b : Int) : impl_Shr.f w a b = some (if (wok w a && wok w b) = true then (if b ≥ w then 0 else a / P2 b) else 0) := by
 unfold impl_Shr.f
 rw [twoI w a b]; simp only [Option.bind_some]
 by_cases h : (wok w a && wok w b) = true
 ·rw [if_pos h, if_pos h]
  obtain ⟨ha, hb⟩ := Bool.and_eq_true_iff.mp h
  obtain ⟨h1, h8, ha0, hA⟩ := wok_iff.mp ha
  obtain ⟨_, _, hb0, hB⟩ := wok_iff.mp hb
  have hp := P2_pos (by omega : 0 ≤ w) h8
  by_cases hw : b ≥ w
  ·rw [if_pos hw, if_pos hw]
  ·rw [if_neg hw, if_neg hw, if_pos (u64_nonneg b), u64_id (by omega) (by omega), shr_id hb0 (by omega)]
 ·rw [if_neg h, if_neg h]
theorem ShlS (w a b : Int) {k : Nat} (hk : 21 ≤ k) : spec_Shl.f k w a b = some (if (wok w a && wok w b) = true then (if b ≥ w then 0 else (a * P2 b) % P2 w) else 0) := by
 unfold spec_Shl.f
 obtain ⟨k, rfl⟩ : ∃ m, k = m + 1 := ⟨k - 1, by omega⟩
 rw [twoS w a b (by omega)]; simp only [Option.bind_some, spec_Shl.j0]
 by_cases h : (wok w a && wok w b) = true
 ·rw [if_pos h, if_pos h]
  obtain ⟨ha, hb⟩ := Bool.and_eq_true_iff.mp h
  obtain ⟨h1, h8, ha0, hA⟩ := wok_iff.mp ha
  obtain ⟨_, _, hb0, hB⟩ := wok_iff.mp hb
  have hp := P2_pos (by omega : 0 ≤ w) h8
  by_cases hw : b ≥ w
  ·rw [if_pos (by simpa using hw), if_pos hw]
  ·have hpb := P2_pos hb0 (by omega : b ≤ 8)
   have hm := mul_bd ha0 (by omega : a ≤ 255) (by omega : 0 ≤ P2 b) (by omega : P2 b ≤ 256)
   rw [if_neg (by simpa using hw), if_neg hw, pow2 hb0 (by omega) (by omega), pow2 (by omega) h8 (by omega)]; simp only [Option.bind_some]
   rw [if_neg (by omega), wrap_id (by omega) (by omega), Int.tmod_eq_emod_of_nonneg (by omega)]
 ·rw [if_neg h, if_neg h]; rfl
theorem ShlI (w a b : Int) : impl_Shl.f w a b = some (if (wok w a && wok w b) = true then (if b ≥ w then 0 else (a * P2 b) % P2 w) else 0) := by
 unfold impl_Shl.f
 rw [twoI w a b]; simp only [Option.bind_some]
 by_cases h : (wok w a && wok w b) = true
 ·rw [if_pos h, if_pos h]
  obtain ⟨ha, hb⟩ := Bool.and_eq_true_iff.mp h
  obtain ⟨h1, h8, ha0, hA⟩ := wok_iff.mp ha
  obtain ⟨_, _, hb0, hB⟩ := wok_iff.mp hb
  have hp := P2_pos (by omega : 0 ≤ w) h8
  by_cases hw : b ≥ w
  ·rw [if_pos hw, if_pos hw]
  ·have hpb := P2_pos hb0 (by omega : b ≤ 8)
   have hm := mul_bd ha0 (by omega : a ≤ 255) (by omega : 0 ≤ P2 b) (by omega : P2 b ≤ 256)
   rw [if_neg hw, if_neg hw, if_pos (u64_nonneg b), u64_id (by omega) (by omega), shl_id ha0 (by omega) hb0 (by omega), cutI (by omega) h8 (by omega) (by omega)]; rfl
 ·rw [if_neg h, if_neg h]
theorem FlipS (w a : Int) {k : Nat} (hk : 20 ≤ k) : spec_Flip.f k w a = some (if wok w a = true then P2 w - 1 - a else 0) := by
 unfold spec_Flip.f
 rw [wokS w a hk]; simp only [Option.bind_some]
 by_cases ha : wok w a = true
 ·rw [if_pos ha, if_pos ha]
  obtain ⟨h1, h8, ha0, hA⟩ := wok_iff.mp ha
  have hp := P2_pos (by omega : 0 ≤ w) h8
  rw [pow2 (by omega) h8 hk]; simp only [Option.bind_some]
  rw [wrap_id (x := P2 w - 1) (by omega) (by omega), wrap_id (by omega) (by omega)]
 ·rw [if_neg ha, if_neg ha]
theorem FlipI (w a : Int) : impl_Flip.f w a = some (if wok w a = true then P2 w - 1 - a else 0) := by
 unfold impl_Flip.f
 rw [wokI w a]; simp only [Option.bind_some]
 by_cases ha : wok w a = true
 ·rw [if_pos ha, if_pos ha]
  obtain ⟨h1, h8, ha0, hA⟩ := wok_iff.mp ha
  have hp := P2_pos (by omega : 0 ≤ w) h8
  rw [if_pos (u64_nonneg w), u64_id (by omega) (by omega), shl_one (by omega) h8, wrap_id (x := P2 w - 1) (by omega) (by omega), wrap_id (by omega) (by omega)]
 ·rw [if_neg ha, if_neg ha]
theorem SignedS (w a : Int) {k : Nat} (hk : 20 ≤ k) : spec_Signed.f k w a = some (if wok w a = true then (if a ≥ P2 (w - 1) then a - P2 w else a) else 0) := by
 unfold spec_Signed.f
 rw [wokS w a hk]; simp only [Option.bind_some]
 by_cases ha : wok w a = true
 ·rw [if_pos ha, if_pos ha]
  obtain ⟨h1, h8, ha0, hA⟩ := wok_iff.mp ha
  have hp := P2_pos (by omega : 0 ≤ w) h8
  have hq := P2_pos (by omega : 0 ≤ w - 1) (by omega)
  rw [wrap_id (x := w - 1) (by omega) (by omega), pow2 (by omega) (by omega) hk, pow2 (by omega) h8 hk]; simp only [Option.bind_some]
  by_cases hs : a ≥ P2 (w - 1)
  ·rw [if_pos hs, if_pos hs, wrap_id (by omega) (by omega)]
  ·rw [if_neg hs, if_neg hs]
 ·rw [if_neg ha, if_neg ha]
theorem SignedI (w a : Int) : impl_Signed.f w a = some (if wok w a = true then (if a ≥ P2 (w - 1) then a - P2 w else a) else 0) := by
 unfold impl_Signed.f
 rw [wokI w a]; simp only [Option.bind_some]
 by_cases ha : wok w a = true
 ·rw [if_pos ha, if_pos ha]
  obtain ⟨h1, h8, ha0, hA⟩ := wok_iff.mp ha
  have hp := P2_pos (by omega : 0 ≤ w) h8
  have hq := P2_pos (by omega : 0 ≤ w - 1) (by omega)
  rw [if_pos (u64_nonneg _), wrap_id (x := w - 1) (by omega) (by omega), u64_id (x := w - 1) (by omega) (by omega), u64_id (x := w) (by omega) (by omega), shl_one (by omega) (by omega), shl_one (by omega) h8]
  by_cases hs : a ≥ P2 (w - 1)
  ·rw [if_pos hs, if_pos hs, if_pos (by omega), wrap_id (by omega) (by omega)]
  ·rw [if_neg hs, if_neg hs]
 ·rw [if_neg ha, if_neg ha]
theorem boolS (b : Bool) : spec_l01Bool.f b = some (if b = true then 1 else 0) := by
 unfold spec_l01Bool.f; cases b <;> simp
theorem bitI (b : Bool) : impl_bit.f b = some (if b = true then 1 else 0) := by
 unfold impl_bit.f; cases b <;> simp
theorem LessS (w a b : Int) {k : Nat} (hk : 20 ≤ k) : spec_Less.f k w a b = some (if (wok w a && wok w b) = true ∧ a < b then 1 else 0) := by
 unfold spec_Less.f
 rw [twoS w a b hk]; simp only [Option.bind_some]
 by_cases h : (wok w a && wok w b) = true
 ·rw [if_pos h, boolS]; simp only [Option.bind_some]; by_cases hl : a < b <;> simp [h, hl]
 ·rw [if_neg h, boolS]; simp only [Option.bind_some]; simp [h]
theorem LessI (w a b : Int) : impl_Less.f w a b = some (if (wok w a && wok w b) = true ∧ a < b then 1 else 0) := by
 unfold impl_Less.f
 rw [twoI w a b]; simp only [Option.bind_some]
 by_cases h : (wok w a && wok w b) = true
 ·rw [if_pos h, bitI]; simp only [Option.bind_some]; by_cases hl : a < b <;> simp [h, hl]
 ·rw [if_neg h, bitI]; simp only [Option.bind_some]; simp [h]
theorem LessSignedS (w a b : Int) {k : Nat} (hk : 20 ≤ k) : spec_LessSigned.f k w a b = some (if (wok w a && wok w b) = true ∧ (if wok w a = true then (if a ≥ P2 (w - 1) then a - P2 w else a) else 0) < (if wok w b = true then (if b ≥ P2 (w - 1) then b - P2 w else b) else 0) then 1 else 0) := by
 unfold spec_LessSigned.f
 rw [twoS w a b hk, SignedS w a hk, SignedS w b hk]; simp only [Option.bind_some]
 by_cases h : (wok w a && wok w b) = true
 ·rw [if_pos h, boolS]; simp only [Option.bind_some, decide_eq_true_eq, h, true_and]
 ·rw [if_neg h, boolS]; simp only [Option.bind_some]; rw [if_neg (by simp), if_neg (fun z => h z.1)]
theorem LessSignedI (w a b : Int) : impl_LessSigned.f w a b = some (if (wok w a && wok w b) = true ∧ (if wok w a = true then (if a ≥ P2 (w - 1) then a - P2 w else a) else 0) < (if wok w b = true then (if b ≥ P2 (w - 1) then b - P2 w else b) else 0) then 1 else 0) := by
 unfold impl_LessSigned.f
 rw [twoI w a b, SignedI w a, SignedI w b]; simp only [Option.bind_some]
 by_cases h : (wok w a && wok w b) = true
 ·rw [if_pos h, bitI]; simp only [Option.bind_some, decide_eq_true_eq, h, true_and]
 ·rw [if_neg h, bitI]; simp only [Option.bind_some]; rw [if_neg (by simp), if_neg (fun z => h z.1)]
theorem SliceS (w a l n : Int) (hl1 : -9223372036854775808 ≤ l) (hl2 : l ≤ 9223372036854775807) {k : Nat} (hk : 21 ≤ k) : spec_Slice.f k w a l n = some (if wok w a = true ∧ 0 ≤ l ∧ 1 ≤ n ∧ n ≤ w - l then a / P2 l % P2 n else 0) := by
 unfold spec_Slice.f
 obtain ⟨k, rfl⟩ : ∃ m, k = m + 1 := ⟨k - 1, by omega⟩
 rw [wokS w a (by omega)]; simp only [Option.bind_some, spec_Slice.j0]
 by_cases ha : wok w a = true
 ·rw [if_pos ha]
  obtain ⟨h1, h8, ha0, hA⟩ := wok_iff.mp ha
  have hp := P2_pos (by omega : 0 ≤ w) h8
  by_cases hl : l < 0
  ·rw [if_pos hl, if_pos trivial, if_neg (by omega)]
  ·rw [if_neg hl, inS, wrap_id (by omega) (by omega)]; simp only [Option.bind_some]
   by_cases hn : 1 ≤ n ∧ n ≤ w - l
   ·have hpl := P2_pos (by omega : 0 ≤ l) (by omega : l ≤ 8)
    have hpn := P2_pos (by omega : 0 ≤ n) (by omega : n ≤ 8)
    have hq : 0 ≤ a / P2 l ∧ a / P2 l ≤ a := ⟨Int.ediv_nonneg ha0 (by omega), Int.ediv_le_self _ ha0⟩
    rw [if_neg (by simpa using hn), if_pos ⟨ha, by omega, hn.1, hn.2⟩, pow2 (by omega) (by omega) (by omega), pow2 (by omega) (by omega) (by omega)]; simp only [Option.bind_some]
    rw [if_neg (by omega), if_neg (by omega), Int.tdiv_eq_ediv_of_nonneg ha0, wrap_id (by omega) (by omega), Int.tmod_eq_emod_of_nonneg (by omega)]
   ·rw [if_pos (by simp; omega), if_neg (by omega)]
 ·rw [if_neg ha, if_pos trivial, if_neg (fun z => ha z.1)]
theorem SliceI (w a l n : Int) (hn1 : -9223372036854775808 ≤ n) (hn2 : n ≤ 9223372036854775807) : impl_Slice.f w a l n = some (if wok w a = true ∧ 0 ≤ l ∧ 1 ≤ n ∧ n ≤ w - l then a / P2 l % P2 n else 0) := by
 unfold impl_Slice.f
 rw [wokI w a]; simp only [Option.bind_some]
 by_cases ha : wok w a = true
 ·rw [if_pos ha, inI]; simp only [Option.bind_some]
  obtain ⟨h1, h8, ha0, hA⟩ := wok_iff.mp ha
  have hp := P2_pos (by omega : 0 ≤ w) h8
  by_cases hn : 1 ≤ n ∧ n ≤ w
  ·rw [if_pos (by simpa using hn), inI, wrap_id (by omega) (by omega)]; simp only [Option.bind_some]
   by_cases hl : 0 ≤ l ∧ l ≤ w - n
   ·have hpl := P2_pos (by omega : 0 ≤ l) (by omega : l ≤ 8)
    have hpn := P2_pos (by omega : 0 ≤ n) (by omega : n ≤ 8)
    have hq : 0 ≤ a / P2 l ∧ a / P2 l ≤ a := ⟨Int.ediv_nonneg ha0 (by omega), Int.ediv_le_self _ ha0⟩
    rw [if_pos (by simpa using hl), if_pos (u64_nonneg l), u64_id (by omega) (by omega), shr_id (by omega) (by omega), cutI (by omega) (by omega) (by omega) (by omega), if_pos ⟨ha, by omega, by omega, by omega⟩]
    rfl
   ·rw [if_neg (by simpa using hl), if_neg (by omega)]
  ·rw [if_neg (by simpa using hn), if_neg (by omega)]
 ·rw [if_neg ha, if_neg (fun z => ha z.1)]
theorem szNode (l : List S75) (h : l.length ≤ 9223372036854775807) : laws_szNodeS.f l 1048576 = some (if (l.length : Int) > 1048576 then -1 else 1048576 - (l.length : Int)) := by
 unfold laws_szNodeS.f
 rw [wrap_id (by omega) (by omega)]
 by_cases c : (l.length : Int) > 1048576
 ·rw [if_pos (by omega), if_pos c]
 ·rw [if_neg (by omega), if_neg c]
def cvNode (x : S75) : S31 := ⟨x.f0, x.f1, x.f2, x.f3, x.f4, x.f5⟩
theorem toNode_from (l : List S75) (hl : l.length ≤ 1048576) (d : Nat) : ∀ (k : Nat) (acc : List S31) (i : Nat), acc.length = l.length → i ≤ l.length → l.length - i = d → d < k →
  laws_toNodeS.l0 k l acc (i : Int) = some (acc.take i ++ (l.drop i).map cvNode) := by
 induction d with
 | zero =>
  intro k acc i ha hi hd hk
  obtain ⟨k, rfl⟩ : ∃ m, k = m + 1 := ⟨k - 1, by omega⟩
  simp only [laws_toNodeS.l0]
  rw [if_neg (by omega), List.drop_eq_nil_of_le (by omega), List.take_of_length_le (by omega)]; simp
 | succ d ih =>
  intro k acc i ha hi hd hk
  obtain ⟨k, rfl⟩ : ∃ m, k = m + 1 := ⟨k - 1, by omega⟩
  have hlt : i < l.length := by omega
  simp only [laws_toNodeS.l0]
  rw [if_pos (by omega), if_pos (by omega)]
  unfold laws_toNode.f
  simp only [Option.bind_some]
  have hrd : rd_T75 l (i : Int) = l[i] := by
   unfold rd_T75
   rw [Int.toNat_natCast, List.getD_eq_getElem?_getD, List.getElem?_eq_getElem hlt]; rfl
  rw [if_pos (by omega), hrd, wrap_id (by omega) (by omega), show ((i : Int) + 1) = ((i + 1 : Nat) : Int) by omega, Int.toNat_natCast,
   ih k _ (i + 1) (by simpa using ha) (by omega) (by omega) (by omega)]
  congr 1
  rw [List.drop_eq_getElem_cons hlt, List.map_cons]
  have ht : (acc.set i (cvNode l[i])).take (i + 1) = acc.take i ++ [cvNode l[i]] := by
   rw [List.take_succ_eq_append_getElem (by simpa using (by omega : i < acc.length)), List.take_set_of_le (by omega)]
   simp
  show (acc.set i (cvNode l[i])).take (i + 1) ++ _ = _
  rw [ht, List.append_assoc]; rfl
theorem toNode (l : List S75) (hl : l.length ≤ 1048576) : Ev (fun k => laws_toNodeS.f k l) (l.map cvNode) := by
 refine ev_of (l.length + 2) fun k hk => ?_
 unfold laws_toNodeS.f
 rw [if_pos (by omega), if_pos (by omega)]
 have := toNode_from l hl l.length k (List.replicate ((l.length : Int) : Int).toNat z31) 0 (by simp) (by omega) (by omega) (by omega)
 simpa using this
theorem eqNode_one (x : S31) : laws_eqNode.f x.f0 x.f1 x.f2 x.f3 x.f4 x.f5 x.f0 x.f1 x.f2 x.f3 x.f4 x.f5 = some true := by
 unfold laws_eqNode.f; simp
theorem eqNode_from (l : List S31) (hl : l.length ≤ 4611686018427387904) (d : Nat) : ∀ (k i : Nat), i ≤ l.length → l.length - i = d → d < k → laws_eqNodeS.l0 k l l (i : Int) = some true := by
 induction d with
 | zero =>
  intro k i hi hd hk
  obtain ⟨k, rfl⟩ : ∃ m, k = m + 1 := ⟨k - 1, by omega⟩
  simp only [laws_eqNodeS.l0]
  rw [if_neg (by omega)]
 | succ d ih =>
  intro k i hi hd hk
  obtain ⟨k, rfl⟩ : ∃ m, k = m + 1 := ⟨k - 1, by omega⟩
  simp only [laws_eqNodeS.l0]
  rw [if_pos (by omega), if_pos (by omega), if_pos (by omega), eqNode_one]
  simp only [Option.bind_some, if_true]
  rw [wrap_id (by omega) (by omega), show ((i : Int) + 1) = ((i + 1 : Nat) : Int) by omega]
  exact ih k (i + 1) (by omega) (by omega) (by omega)
theorem eqNode (l : List S31) (hl : l.length ≤ 4611686018427387904) : Ev (fun k => laws_eqNodeS.f k l l) true := by
 refine ev_of (l.length + 2) fun k hk => ?_
 unfold laws_eqNodeS.f
 rw [if_pos rfl]
 exact eqNode_from l hl l.length k 0 (by omega) (by omega) (by omega)
theorem eqInt_from (l : List Int) (hl : l.length ≤ 4611686018427387904) (d : Nat) : ∀ (k i : Nat), i ≤ l.length → l.length - i = d → d < k → laws_eqIntS.l0 k l l (i : Int) = some true := by
 induction d with
 | zero =>
  intro k i hi hd hk
  obtain ⟨k, rfl⟩ : ∃ m, k = m + 1 := ⟨k - 1, by omega⟩
  simp only [laws_eqIntS.l0]
  rw [if_neg (by omega)]
 | succ d ih =>
  intro k i hi hd hk
  obtain ⟨k, rfl⟩ : ∃ m, k = m + 1 := ⟨k - 1, by omega⟩
  simp only [laws_eqIntS.l0]
  rw [if_pos (by omega), if_pos (by omega), if_pos (by omega)]
  rw [if_pos trivial]
  rw [wrap_id (by omega) (by omega), show ((i : Int) + 1) = ((i + 1 : Nat) : Int) by omega]
  exact ih k (i + 1) (by omega) (by omega) (by omega)
theorem eqInt (l : List Int) (hl : l.length ≤ 4611686018427387904) : Ev (fun k => laws_eqIntS.f k l l) true := by
 refine ev_of (l.length + 2) fun k hk => ?_
 unfold laws_eqIntS.f
 rw [if_pos rfl]
 exact eqInt_from l hl l.length k 0 (by omega) (by omega) (by omega)
/-- The operators of two parts of one width, from 3 to 12. -/
def vBin (op w a b : Int) : Int :=
 if op = 3 then Go.bits .and .i64 a b else if op = 4 then Go.bits .or .i64 a b else if op = 5 then Go.bits .xor .i64 a b
 else if op = 6 then (if (wok w a && wok w b) = true then (a + b) % P2 w else 0)
 else if op = 7 then (if (wok w a && wok w b) = true then (a - b) % P2 w else 0)
 else if op = 8 then (if (wok w a && wok w b) = true then (a * b) % P2 w else 0)
 else if op = 9 then (if (wok w a && wok w b) = true then (if b = 0 then P2 w - 1 else a / b) else 0)
 else if op = 10 then (if (wok w a && wok w b) = true then (if b = 0 then a else a % b) else 0)
 else if op = 11 then (if (wok w a && wok w b) = true then (if b ≥ w then 0 else (a * P2 b) % P2 w) else 0)
 else (if (wok w a && wok w b) = true then (if b ≥ w then 0 else a / P2 b) else 0)
def vLess (w a b : Int) : Int := if (wok w a && wok w b) = true ∧ a < b then 1 else 0
def vLessS (w a b : Int) : Int := if (wok w a && wok w b) = true ∧ (if wok w a = true then (if a ≥ P2 (w - 1) then a - P2 w else a) else 0) < (if wok w b = true then (if b ≥ P2 (w - 1) then b - P2 w else b) else 0) then 1 else 0
def vSlice (w a l n : Int) : Int := if wok w a = true ∧ 0 ≤ l ∧ 1 ≤ n ∧ n ≤ w - l then a / P2 l % P2 n else 0
def vFlip (w a : Int) : Int := if wok w a = true then P2 w - 1 - a else 0
/-- The arguments that are so. -/
def appOk (W w a b c : Int) : Prop := (1 ≤ W ∧ W ≤ 8) ∧ (1 ≤ w ∧ w ≤ 8) ∧ (0 ≤ a ∧ a ≤ 255) ∧ (0 ≤ b ∧ b ≤ 255) ∧ (0 ≤ c ∧ c ≤ 255)
instance (W w a b c : Int) : Decidable (appOk W w a b c) := by unfold appOk; infer_instance
def vApp (op W K w a b c : Int) : Int :=
 if op = 0 then K else if op = 2 then vFlip W a else if 3 ≤ op ∧ op ≤ 12 then vBin op W a b
 else if op = 13 then (if a = b then 1 else 0) else if op = 14 then vLess w a b else if op = 15 then vLessS w a b
 else if op = 16 then (if W < w then b else a * P2 (W - w) + b)
 else if op = 17 then vSlice w a K W
 else if op = 18 then (if a = 1 then b else c) else 0
def vApply (op W K w a b c : Int) : Int := if appOk W w a b c then vApp op W K w a b c else 0
theorem applyS_in (op W K A B C w a b c : Int) (h : appOk W w a b c) (hk1 : -9223372036854775808 ≤ K) (hk2 : K ≤ 9223372036854775807) {k : Nat} (hk : 40 ≤ k) :
  spec_Apply.j0 k w a b c false op W K A B C = some (vApp op W K w a b c) := by
 obtain ⟨k, rfl⟩ : ∃ m, k = m + 1 := ⟨k - 1, by omega⟩
 obtain ⟨⟨W1, W8⟩, ⟨w1, w8⟩, ⟨a0, a1⟩, ⟨b0, b1⟩, c0, c1⟩ := h
 simp only [spec_Apply.j0]
 rw [if_neg (by simp)]
 unfold vApp
 by_cases h0 : op = 0
 ·rw [if_pos h0, if_pos h0]
 rw [if_neg h0, if_neg h0]
 by_cases h2 : op = 2
 ·rw [if_pos h2, if_pos h2, FlipS _ _ (by omega)]; rfl
 rw [if_neg h2, if_neg h2]
 by_cases hb : 3 ≤ op ∧ op ≤ 12
 ·rw [if_pos hb]
  have hc : op = 3 ∨ op = 4 ∨ op = 5 ∨ op = 6 ∨ op = 7 ∨ op = 8 ∨ op = 9 ∨ op = 10 ∨ op = 11 ∨ op = 12 := by omega
  rw [AddS _ _ _ (by omega), SubS _ _ _ (by omega), MulS _ _ _ (by omega), DivS _ _ _ (by omega), RemS _ _ _ (by omega), ShlS _ _ _ (by omega), ShrS _ _ _ (by omega)]
  rcases hc with rfl | rfl | rfl | rfl | rfl | rfl | rfl | rfl | rfl | rfl <;> simp [vBin]
 rw [if_neg (by omega : ¬ op = 3), if_neg (by omega : ¬ op = 4), if_neg (by omega : ¬ op = 5), if_neg (by omega : ¬ op = 6), if_neg (by omega : ¬ op = 7), if_neg (by omega : ¬ op = 8), if_neg (by omega : ¬ op = 9), if_neg (by omega : ¬ op = 10), if_neg (by omega : ¬ op = 11), if_neg (by omega : ¬ op = 12), if_neg hb]
 by_cases h13 : op = 13
 ·rw [if_pos h13, if_pos h13, boolS]; simp
 rw [if_neg h13, if_neg h13]
 by_cases h14 : op = 14
 ·rw [if_pos h14, if_pos h14, LessS _ _ _ (by omega)]; rfl
 rw [if_neg h14, if_neg h14]
 by_cases h15 : op = 15
 ·rw [if_pos h15, if_pos h15, LessSignedS _ _ _ (by omega)]; rfl
 rw [if_neg h15, if_neg h15]
 by_cases h16 : op = 16
 ·rw [if_pos h16, if_pos h16]
  by_cases hw : W < w
  ·rw [if_pos hw, if_pos hw]
  ·have hp := P2_pos (by omega : 0 ≤ W - w) (by omega)
   have hm := mul_bd a0 a1 (by omega : 0 ≤ P2 (W - w)) hp.2
   rw [if_neg hw, if_neg hw, wrap_id (x := W - w) (by omega) (by omega), pow2 (by omega) (by omega) (by omega)]
   simp only [Option.bind_some]
   rw [wrap_id (x := a * P2 (W - w)) (by omega) (by omega), wrap_id (by omega) (by omega)]
 rw [if_neg h16, if_neg h16]
 by_cases h17 : op = 17
 ·rw [if_pos h17, if_pos h17, SliceS _ _ _ _ hk1 hk2 (by omega)]; rfl
 rw [if_neg h17, if_neg h17]
 by_cases h18 : op = 18
 ·rw [if_pos h18, if_pos h18]; by_cases h1 : a = 1 <;> simp [h1]
 rw [if_neg h18, if_neg h18]
theorem applyS_no (op W K A B C w a b c : Int) {k : Nat} (hk : 1 ≤ k) : spec_Apply.j0 k w a b c true op W K A B C = some 0 := by
 obtain ⟨k, rfl⟩ : ∃ m, k = m + 1 := ⟨k - 1, by omega⟩
 simp only [spec_Apply.j0, if_true]
theorem ApplyS (op W K A B C w a b c : Int) (hk1 : -9223372036854775808 ≤ K) (hk2 : K ≤ 9223372036854775807) {k : Nat} (hk : 40 ≤ k) :
  spec_Apply.f k op W K A B C w a b c = some (vApply op W K w a b c) := by
 unfold spec_Apply.f vApply
 simp only [inS, Option.bind_some, decide_eq_true_eq, applyS_no op W K A B C w a b c (by omega : 1 ≤ k)]
 by_cases h : appOk W w a b c
 ·rw [if_pos h]
  have h' := h
  obtain ⟨hW, hw, ha, hb, hc⟩ := h'
  simp only [hW, hw, ha, hb, hc, and_self, if_true, decide_true, Bool.not_true]
  exact applyS_in op W K A B C w a b c h hk1 hk2 hk
 ·rw [if_neg h]
  unfold appOk at h
  by_cases hW : 1 ≤ W ∧ W ≤ 8
  ·rw [if_pos hW]
   by_cases hw : 1 ≤ w ∧ w ≤ 8
   ·rw [if_pos hw]
    by_cases ha : 0 ≤ a ∧ a ≤ 255
    ·rw [if_pos ha]
     by_cases hb : 0 ≤ b ∧ b ≤ 255
     ·rw [if_pos hb]
      have hc : ¬ (0 ≤ c ∧ c ≤ 255) := fun hc => h ⟨hW, hw, ha, hb, hc⟩
      rw [decide_eq_false hc]
      exact applyS_no op W K A B C w a b c (by omega)
     ·rw [if_neg hb]
    ·rw [if_neg ha]
   ·rw [if_neg hw]
  ·rw [if_neg hW]
theorem binI (op w a b : Int) (h : 3 ≤ op ∧ op ≤ 12) : impl_binary.f op w a b = some (vBin op w a b) := by
 unfold impl_binary.f
 have hc : op = 3 ∨ op = 4 ∨ op = 5 ∨ op = 6 ∨ op = 7 ∨ op = 8 ∨ op = 9 ∨ op = 10 ∨ op = 11 ∨ op = 12 := by omega
 rw [AddI, SubI, MulI, DivI, RemI, ShlI, ShrI]
 rcases hc with rfl | rfl | rfl | rfl | rfl | rfl | rfl | rfl | rfl | rfl <;> simp [vBin]
theorem applyI_j2 (op W K A B C b c : Int) (x : Bool) {k : Nat} (hk : 1 ≤ k) : impl_Apply.j2 k b c x op W K A B C = some (if x = true then b else if op = 18 then c else 0) := by
 obtain ⟨k, rfl⟩ : ∃ m, k = m + 1 := ⟨k - 1, by omega⟩
 simp only [impl_Apply.j2]
 cases x <;> simp
 by_cases h : op = 18 <;> simp [h]
theorem applyI_in (op W K A B C w a b c : Int) (h : appOk W w a b c) {k : Nat} (hk : 40 ≤ k) :
  impl_Apply.j0 k w a b c false op W K A B C = some (vApp op W K w a b c) := by
 obtain ⟨k, rfl⟩ : ∃ m, k = m + 2 := ⟨k - 2, by omega⟩
 obtain ⟨⟨W1, W8⟩, ⟨w1, w8⟩, ⟨a0, a1⟩, ⟨b0, b1⟩, c0, c1⟩ := h
 simp only [impl_Apply.j0, impl_Apply.j1]
 rw [if_neg (by simp)]
 unfold vApp
 by_cases h0 : op = 0
 ·rw [if_pos h0, if_pos h0]
 rw [if_neg h0, if_neg h0]
 by_cases h2 : op = 2
 ·rw [if_pos h2, if_pos h2, FlipI]; rfl
 rw [if_neg h2, if_neg h2, inI]
 simp only [Option.bind_some, decide_eq_true_eq]
 by_cases hb : 3 ≤ op ∧ op ≤ 12
 ·rw [if_pos hb, if_pos hb, binI _ _ _ _ hb]; rfl
 rw [if_neg hb, if_neg hb]
 by_cases h13 : op = 13
 ·rw [if_pos h13, if_pos h13, bitI]; simp
 rw [if_neg h13, if_neg h13]
 by_cases h14 : op = 14
 ·rw [if_pos h14, if_pos h14, LessI]; rfl
 rw [if_neg h14, if_neg h14]
 by_cases h15 : op = 15
 ·rw [if_pos h15, if_pos h15, LessSignedI]; rfl
 rw [if_neg h15, if_neg h15]
 by_cases h16 : op = 16
 ·rw [if_pos h16, if_pos h16, if_pos h16]
  by_cases hw : W < w
  ·rw [if_pos hw, if_pos hw]
  ·have hp := P2_pos (by omega : 0 ≤ W - w) (by omega)
   have hm := mul_bd a0 a1 (by omega : 0 ≤ P2 (W - w)) hp.2
   rw [if_neg hw, if_neg hw, wrap_id (x := W - w) (by omega) (by omega), if_pos (u64_nonneg _), u64_id (by omega) (by omega), shl_id a0 a1 (by omega) (by omega), wrap_id (by omega) (by omega)]
 rw [if_neg h16, if_neg h16, if_neg h16, if_neg (by simp)]
 by_cases h17 : op = 17
 ·rw [if_pos h17, if_pos h17, SliceI _ _ _ _ (by omega) (by omega)]; rfl
 rw [if_neg h17, if_neg h17]
 by_cases h18 : op = 18
 ·rw [if_pos h18, if_pos h18, applyI_j2 _ _ _ _ _ _ _ _ _ (by omega)]; by_cases h1 : a = 1 <;> simp [h1, h18]
 rw [if_neg h18, if_neg h18, applyI_j2 _ _ _ _ _ _ _ _ _ (by omega)]; simp [h18]
theorem applyI_no (op W K A B C w a b c : Int) {k : Nat} (hk : 1 ≤ k) : impl_Apply.j0 k w a b c true op W K A B C = some 0 := by
 obtain ⟨k, rfl⟩ : ∃ m, k = m + 1 := ⟨k - 1, by omega⟩
 simp only [impl_Apply.j0, if_true]
theorem ApplyI (op W K A B C w a b c : Int) {k : Nat} (hk : 40 ≤ k) :
  impl_Apply.f k op W K A B C w a b c = some (vApply op W K w a b c) := by
 unfold impl_Apply.f impl_isWidth.f impl_isByte.f vApply
 simp only [inI, Option.bind_some, decide_eq_true_eq, applyI_no op W K A B C w a b c (by omega : 1 ≤ k)]
 by_cases h : appOk W w a b c
 ·rw [if_pos h]
  have h' := h
  obtain ⟨hW, hw, ha, hb, hc⟩ := h'
  simp only [hW, hw, ha, hb, hc, and_self, if_true, decide_true, Bool.not_true]
  exact applyI_in op W K A B C w a b c h hk
 ·rw [if_neg h]
  unfold appOk at h
  by_cases hW : 1 ≤ W ∧ W ≤ 8
  ·rw [if_pos hW]
   by_cases hw : 1 ≤ w ∧ w ≤ 8
   ·rw [if_pos hw]
    by_cases ha : 0 ≤ a ∧ a ≤ 255
    ·rw [if_pos ha]
     by_cases hb : 0 ≤ b ∧ b ≤ 255
     ·rw [if_pos hb]
      have hc : ¬ (0 ≤ c ∧ c ≤ 255) := fun hc => h ⟨hW, hw, ha, hb, hc⟩
      rw [decide_eq_false hc]
      exact applyI_no op W K A B C w a b c (by omega)
     ·rw [if_neg hb]
    ·rw [if_neg ha]
   ·rw [if_neg hw]
  ·rw [if_neg hW]
theorem partsS (op w q a b c : Int) {k : Nat} (hk : 1 ≤ k) : spec_Parts.f k op w q a b c = some (partsL op a b c) := by
 obtain ⟨k, rfl⟩ : ∃ m, k = m + 1 := ⟨k - 1, by omega⟩
 unfold spec_Parts.f partsL
 simp only [spec_Parts.j0, inS]
 by_cases h2 : op = 2
 ·subst h2; simp
 ·by_cases h17 : op = 17
  ·subst h17; simp
  ·by_cases h19 : op = 19
   ·subst h19; simp
   ·by_cases h20 : op = 20
    ·subst h20; simp
    ·have hq : ¬ (op = 2 ∨ op = 17 ∨ op = 19 ∨ op = 20) := by omega
     rw [if_neg h2, if_neg h17, if_neg h19, if_neg (by simpa using h20), if_neg hq]
     simp only [Option.bind_some, decide_eq_true_eq]
     by_cases h3 : 3 ≤ op ∧ op ≤ 16
     ·rw [if_pos h3, if_pos h3]
     ·rw [if_neg h3, if_neg h3]
      by_cases h18 : op = 18
      ·rw [if_pos h18, if_pos h18]
      ·rw [if_neg h18, if_neg h18]
theorem rdI (l : List Int) (i : Nat) (h : i < l.length) : rd l (i : Int) = l[i] := by simp [rd, h]
theorem inB_iff {x a b : Int} : inB x a b = true ↔ a ≤ x ∧ x ≤ b := by simp [inB]
theorem inSB (x a b : Int) : spec_l01In.f x a b = some (inB x a b) := inS x a b
theorem node_l0 (l : List S31) (i : Int) (hi0 : 0 ≤ i) (hi1 : i ≤ 9223372036854775807) (ps : List Int) (hps : ps.length ≤ 3) (n0 n1 n2 n3 n4 n5 : Int) (r : Bool)
  (h1 : (∀ p ∈ ps, inB p 0 (i - 1) = true) → Ev (fun k => spec_l02Node.l0 k l i ps (ps.length : Int) n0 n1 n2 n3 n4 n5) r) (h2 : (¬ ∀ p ∈ ps, inB p 0 (i - 1) = true) → r = false) (d : Nat) :
  ∀ j : Nat, j + d = ps.length → (∀ t : Nat, t < j → inB (rd ps (t : Int)) 0 (i - 1) = true) → Ev (fun k => spec_l02Node.l0 k l i ps (j : Int) n0 n1 n2 n3 n4 n5) r := by
 induction d with
 | zero =>
  intro j hj hA
  obtain rfl : j = ps.length := by omega
  refine h1 fun p hp => ?_
  obtain ⟨t, ht, rfl⟩ := List.getElem_of_mem hp
  rw [← rdI ps t ht]; exact hA t ht
 | succ d ih =>
  intro j hj hA
  have hlt : j < ps.length := by omega
  refine ev_succ ?_
  simp only [spec_l02Node.l0]
  refine ev_pos (by omega) (ev_pos (by omega) (ev_bind0 (inSB _ _ _) ?_))
  rw [wrap_id (x := i - 1) (by omega) (by omega)]
  by_cases hb : inB (rd ps (j : Int)) 0 (i - 1) = true
  ·refine ev_pos hb ?_
   rw [wrap_id (by omega) (by omega)]
   refine ih (j + 1) (by omega) fun t ht => ?_
   rcases Nat.lt_or_ge t j with h | h
   ·exact hA t h
   ·obtain rfl : t = j := by omega
    exact hb
  ·refine ev_neg hb ?_
   rw [h2 fun h => hb (by rw [rdI ps j hlt]; exact h _ (List.getElem_mem hlt))]
   exact ev_now
theorem node_l1 (l : List S31) (hl : l.length ≤ 4611686018427387904) (ps : List Int) (hps : ps.length ≤ 3) (hp : ∀ p ∈ ps, 0 ≤ p ∧ p < (l.length : Int)) (n0 n1 n2 n3 n4 n5 : Int) (r : Bool)
  (h : Ev (fun k => spec_l02Node.l1 k l ps (ps.map fun p => (rd_T31 l p).f1) (ps.length : Int) n0 n1 n2 n3 n4 n5) r) (d : Nat) :
  ∀ j : Nat, j + d = ps.length → Ev (fun k => spec_l02Node.l1 k l ps ((ps.take j).map fun p => (rd_T31 l p).f1) (j : Int) n0 n1 n2 n3 n4 n5) r := by
 induction d with
 | zero =>
  intro j hj
  obtain rfl : j = ps.length := by omega
  rw [List.take_of_length_le (by omega)]; exact h
 | succ d ih =>
  intro j hj
  have hlt : j < ps.length := by omega
  have hq := hp _ (List.getElem_mem hlt)
  refine ev_succ ?_
  simp only [spec_l02Node.l1]
  rw [rdI ps j hlt]
  refine ev_pos (by omega) (ev_pos (by omega) (ev_pos hq.1 (ev_pos hq.2 (ev_pos (by simp; omega) ?_))))
  rw [wrap_id (by omega) (by omega), show ((j : Int) + 1) = ((j + 1 : Nat) : Int) by omega]
  have := ih (j + 1) (by omega)
  rwa [List.take_succ_eq_append_getElem hlt, List.map_append] at this
theorem rd_take (l : List S31) (i : Nat) (p : Int) (h0 : 0 ≤ p) (h1 : p < i) : rd_T31 (l.take i) p = rd_T31 l p := by
 unfold rd_T31
 rw [List.getD_eq_getElem?_getD, List.getD_eq_getElem?_getD, List.getElem?_take, if_pos (by omega)]
theorem sw_ev (l : List S31) (ps ws : List Int) (op W K A B C : Int) (hps : ps = partsL op A B C) (hws : ws.length = ps.length) :
  Ev (fun k => spec_l02Node.l1 k l ps ws (ps.length : Int) op W K A B C) (inB op 0 20 && usesB op K A B C && rightSw op W K B (ws.getD 0 0) (ws.getD 1 0) (ws.getD 2 0)) := by
 have hl := partsL_len op A B C
 refine ev_of 60 fun k hk => ?_
 obtain ⟨k, rfl⟩ : ∃ m, k = m + 2 := ⟨k - 2, by omega⟩
 simp only [spec_l02Node.l1]
 rw [if_neg (by omega), wokS _ _ (by omega), inSB, inSB, inSB]
 simp only [Option.bind_some, spec_l02Node.j2, inSB]
 have rd0 : rd ws 0 = ws.getD 0 0 := rfl
 have rd1 : rd ws 1 = ws.getD 1 0 := rfl
 have rd2 : rd ws 2 = ws.getD 2 0 := rfl
 rw [rd0, rd1, rd2]
 generalize ws.getD 0 0 = u
 generalize ws.getD 1 0 = v
 generalize ws.getD 2 0 = x
 by_cases h0 : op = 0
 ·subst h0; simp [inB, usesB, rightSw]; by_cases g : wok W K = true <;> by_cases a : A = 0 <;> by_cases b : B = 0 <;> simp [g, a, b]
 rw [if_neg h0]
 by_cases h1 : op = 1
 ·subst h1; by_cases g : inB K 0 7 = true <;> by_cases a : A = 0 <;> by_cases b : B = 0 <;> simp [usesB, rightSw, g, a, b, inB_iff.mpr (show (0 : Int) ≤ 1 ∧ (1 : Int) ≤ 20 by omega)]
 rw [if_neg h1]
 by_cases h2 : op = 2
 ·subst h2
  have hn : (0 : Int) < (ws.length : Int) := by rw [hws, hps]; simp [partsL]
  rw [if_pos rfl, if_pos hn]
  by_cases a : u = W <;> by_cases b : K = 0 <;> by_cases c : B = 0 <;> simp [inB, usesB, rightSw, a, b, c]
 rw [if_neg h2]
 by_cases h3 : 3 ≤ op ∧ op ≤ 12
 ·have e : ps = [A, B] := by rw [hps]; unfold partsL; rw [if_neg (by omega), if_pos (by omega)]
  have hn : ws.length = 2 := by rw [hws, e]; rfl
  rw [if_pos (inB_iff.mpr h3), if_pos (by omega), if_pos (c := (1 : Int) < _) (by omega)]
  have hu : usesB op K A B C = (K == 0 && C == 0) := by unfold usesB; rw [if_neg (by omega), if_neg (by omega), if_neg (by omega), if_neg (by omega), if_pos (by omega)]
  have hr : rightSw op W K B u v x = (u == W && v == W) := by unfold rightSw; rw [if_neg (by omega), if_neg (by omega), if_neg (by omega), if_pos (by omega)]
  rw [hu, hr, inB_iff.mpr (show 0 ≤ op ∧ op ≤ 20 by omega)]
  by_cases a : u = W <;> by_cases b : K = 0 <;> by_cases c : v = W <;> simp [a, b, c]
 rw [if_neg (fun h => h3 (inB_iff.mp h))]
 by_cases h4 : 13 ≤ op ∧ op ≤ 15
 ·have e : ps = [A, B] := by rw [hps]; unfold partsL; rw [if_neg (by omega), if_pos (by omega)]
  have hn : ws.length = 2 := by rw [hws, e]; rfl
  rw [if_pos (inB_iff.mpr h4), if_pos (by omega), if_pos (c := (1 : Int) < _) (by omega)]
  have hu : usesB op K A B C = (K == 0 && C == 0) := by unfold usesB; rw [if_neg (by omega), if_neg (by omega), if_neg (by omega), if_neg (by omega), if_pos (by omega)]
  have hr : rightSw op W K B u v x = (u == v && W == 1) := by unfold rightSw; rw [if_neg (by omega), if_neg (by omega), if_neg (by omega), if_neg (by omega), if_pos (by omega)]
  rw [hu, hr, inB_iff.mpr (show 0 ≤ op ∧ op ≤ 20 by omega)]
  by_cases a : u = v <;> by_cases b : K = 0 <;> by_cases c : W = 1 <;> simp [a, b, c]
 rw [if_neg (fun h => h4 (inB_iff.mp h))]
 by_cases h16 : op = 16
 ·subst h16
  have hn : ws.length = 2 := by rw [hws, hps]; rfl
  rw [if_pos rfl, if_pos (by omega), if_pos (c := (1 : Int) < _) (by omega)]
  by_cases a : wrap64 (u + v) = W <;> by_cases b : K = 0 <;> simp [inB, usesB, rightSw, a, b]
 rw [if_neg h16]
 by_cases h17 : op = 17
 ·subst h17
  have hn : ws.length = 1 := by rw [hws, hps]; rfl
  rw [if_pos rfl, if_pos (c := (0 : Int) < _) (by omega)]
  by_cases a : 0 ≤ K <;> by_cases b : K ≤ wrap64 (u - W) <;> by_cases c : B = 0 <;> simp [inB, usesB, rightSw, a, b, c]
 rw [if_neg h17]
 by_cases h18 : op = 18
 ·subst h18
  have hn : ws.length = 3 := by rw [hws, hps]; rfl
  rw [if_pos rfl, if_pos (c := (0 : Int) < _) (by omega), if_pos (c := (1 : Int) < _) (by omega), if_pos (c := (2 : Int) < _) (by omega)]
  by_cases a : u = 1 <;> by_cases b : v = W <;> by_cases c : x = W <;> simp [inB, usesB, rightSw, a, b, c]
 rw [if_neg h18]
 by_cases h19 : op = 19
 ·subst h19
  have hn : ws.length = 1 := by rw [hws, hps]; rfl
  rw [if_pos rfl, if_pos trivial, if_pos (c := (0 : Int) < _) (by omega)]
  by_cases a : inB K 0 7 = true <;> by_cases b : inB B 1 8 = true <;> by_cases c : u = 1 <;> by_cases d : W = 1 <;> simp [usesB, rightSw, a, b, c, d, inB_iff.mpr (show (0 : Int) ≤ 19 ∧ (19 : Int) ≤ 20 by omega)]
 rw [if_neg h19]
 by_cases h20 : op = 20
 ·subst h20
  have hn : ws.length = 1 := by rw [hws, hps]; rfl
  rw [if_pos (by rfl), if_pos (c := (0 : Int) < _) (by omega)]
  by_cases a : inB K 0 7 = true <;> by_cases b : inB B 1 8 = true <;> by_cases c : u = 1 <;> by_cases d : W = 1 <;> simp [usesB, rightSw, a, b, c, d, inB_iff.mpr (show (0 : Int) ≤ 20 ∧ (20 : Int) ≤ 20 by omega)]
 rw [if_neg (by simpa using h20)]
 have hn : inB op 0 20 = false := by simp [inB]; omega
 simp [hn]
theorem node_ev (l : List S31) (hl : l.length ≤ 4611686018427387904) (i : Nat) (hi : i < l.length) : Ev (fun k => spec_l02Node.f k l (i : Int)) (rightB (l.take i) (rd_T31 l i).f0 (rd_T31 l i).f1 (rd_T31 l i).f2 (rd_T31 l i).f3 (rd_T31 l i).f4 (rd_T31 l i).f5) := by
 unfold spec_l02Node.f
 refine ev_pos (by omega) (ev_pos (by omega) (ev_bind (ev_of 1 fun k hk => partsS _ _ _ _ _ _ hk) ?_))
 generalize (rd_T31 l i).f0 = op
 generalize (rd_T31 l i).f1 = W
 generalize (rd_T31 l i).f2 = K
 generalize (rd_T31 l i).f3 = A
 generalize (rd_T31 l i).f4 = B
 generalize (rd_T31 l i).f5 = C
 have hlen := partsL_len op A B C
 have htk : ((l.take i).length : Int) = i := by rw [List.length_take]; omega
 refine node_l0 l i (by omega) (by omega) _ hlen op W K A B C _ (fun hall => ?_) (fun hn => ?_) _ 0 (Nat.zero_add _) (fun t ht => absurd ht (by omega))
 ·refine ev_succ ?_
  simp only [spec_l02Node.l0]
  refine ev_neg (by omega) (ev_bind0 (inSB _ _ _) ?_)
  have hall' : (partsL op A B C).all (fun p => inB p 0 (((l.take i).length : Int) - 1)) = true := by rw [htk]; exact List.all_eq_true.mpr hall
  unfold rightB
  rw [hall']
  by_cases hw : inB W 1 8 = true
  ·refine ev_pos hw ?_
   rw [hw]
   have hwv : ∀ t : Nat, wv (l.take i) (partsL op A B C) (partsL op A B C).length t = ((partsL op A B C).map fun p => (rd_T31 l p).f1).getD t 0 := by
    intro t
    unfold wv
    by_cases ht : t < (partsL op A B C).length
    ·rw [if_pos ht, rdI _ t ht, List.getD_eq_getElem?_getD, List.getElem?_map, List.getElem?_eq_getElem ht]
     have := inB_iff.mp (hall _ (List.getElem_mem ht))
     rw [rd_take l i _ this.1 (by omega)]; rfl
    ·rw [if_neg ht, List.getD_eq_getElem?_getD, List.getElem?_eq_none (by simp; omega)]; rfl
   rw [hwv, hwv, hwv]
   simp only [Bool.true_and, Bool.and_true]
   exact node_l1 l hl _ hlen (fun p hp => by have := inB_iff.mp (hall p hp); omega) op W K A B C _ (sw_ev l _ _ op W K A B C rfl (by simp)) _ 0 (Nat.zero_add _)
  ·have hw' : inB W 1 8 = false := by simpa using hw
   refine ev_neg hw ?_
   rw [hw']; simp only [Bool.false_and]; exact ev_now
 ·unfold rightB
  have hnot : (partsL op A B C).all (fun p => inB p 0 (((l.take i).length : Int) - 1)) = false := by
   rw [htk]
   cases e : (partsL op A B C).all (fun p => inB p 0 ((i : Int) - 1)) with
   | false => rfl
   | true => exact absurd (List.all_eq_true.mp e) hn
  rw [hnot]; simp
/-- Node i of a list is right. -/
def nodeB (l : List S31) (i : Nat) : Bool := rightB (l.take i) (rd_T31 l i).f0 (rd_T31 l i).f1 (rd_T31 l i).f2 (rd_T31 l i).f3 (rd_T31 l i).f4 (rd_T31 l i).f5
def NodesOk (l : List S31) : Prop := ∀ i < l.length, nodeB l i = true
def TermOkP (l : List S31) : Prop := 1 ≤ l.length ∧ l.length ≤ 80 ∧ NodesOk l
theorem termS_from (l : List S31) (hl : l.length ≤ 80) (d : Nat) : ∀ i : Nat, i + d = l.length → ∃ r, Ev (fun k => spec_TermOk.l0 k l (i : Int)) r ∧ Ev (fun k => impl_TermOk.l0 k l l (l.length : Int) (i : Int)) r ∧ (r = true ↔ ∀ j < l.length, i ≤ j → nodeB l j = true) := by
 induction d with
 | zero =>
  intro i hi
  refine ⟨true, ev_succ ?_, ev_succ ?_, by simp; intro j h1 h2; omega⟩
  ·simp only [spec_TermOk.l0]; exact ev_neg (by omega) ev_now
  ·simp only [impl_TermOk.l0]; exact ev_neg (by omega) ev_now
 | succ d ih =>
  intro i hi
  have hlt : i < l.length := by omega
  obtain ⟨r, e1, e2, h⟩ := ih (i + 1) (by omega)
  have hn := node_ev l (by omega) i hlt
  by_cases hb : nodeB l i = true
  ·refine ⟨r, ev_succ ?_, ev_succ ?_, ?_⟩
   ·simp only [spec_TermOk.l0]
    refine ev_pos (by omega) (ev_bind hn (ev_pos hb ?_))
    rw [wrap_id (by omega) (by omega), show ((i : Int) + 1) = ((i + 1 : Nat) : Int) by omega]; exact e1
   ·simp only [impl_TermOk.l0]
    refine ev_pos (by omega) (ev_pos (by omega) (ev_pos (by omega) (ev_pos (by omega) (ev_bind0 rfl (ev_pos hb ?_)))))
    rw [wrap_id (by omega) (by omega), show ((i : Int) + 1) = ((i + 1 : Nat) : Int) by omega]; exact e2
   ·rw [h]
    constructor
    ·intro hh j h1 h2
     rcases Nat.lt_or_ge i j with h3 | h3
     ·exact hh j h1 h3
     ·obtain rfl : i = j := by omega
      exact hb
    ·intro hh j h1 h2
     exact hh j h1 (by omega)
  ·refine ⟨false, ev_succ ?_, ev_succ ?_, ?_⟩
   ·simp only [spec_TermOk.l0]
    exact ev_pos (by omega) (ev_bind hn (ev_neg hb ev_now))
   ·simp only [impl_TermOk.l0]
    exact ev_pos (by omega) (ev_pos (by omega) (ev_pos (by omega) (ev_pos (by omega) (ev_bind0 rfl (ev_neg hb ev_now)))))
   ·simp only [Bool.false_eq_true, false_iff]
    intro hh
    exact hb (hh i hlt (by omega))
theorem term_ev (l : List S31) : ∃ r, Ev (fun k => spec_TermOk.f k l) r ∧ Ev (fun k => impl_TermOk.f k l) r ∧ (r = true ↔ TermOkP l) := by
 by_cases hb : 1 ≤ (l.length : Int) ∧ (l.length : Int) ≤ 80
 ·obtain ⟨r, e1, e2, h⟩ := termS_from l (by omega) l.length 0 (by omega)
  refine ⟨r, ?_, ?_, ?_⟩
  ·unfold spec_TermOk.f; exact ev_bind0 (inS _ _ _) (ev_pos (by simpa using hb) e1)
  ·unfold impl_TermOk.f; exact ev_bind0 (inI _ _ _) (ev_pos (by simpa using hb) e2)
  ·rw [h]; unfold TermOkP NodesOk
   constructor
   ·intro hh; exact ⟨by omega, by omega, fun i hi => hh i hi (by omega)⟩
   ·intro hh j h1 _; exact hh.2.2 j h1
 ·refine ⟨false, ?_, ?_, ?_⟩
  ·unfold spec_TermOk.f; exact ev_bind0 (inS _ _ _) (ev_neg (by simpa using hb) ev_now)
  ·unfold impl_TermOk.f; exact ev_bind0 (inI _ _ _) (ev_neg (by simpa using hb) ev_now)
  ·simp only [Bool.false_eq_true, false_iff]; unfold TermOkP; omega
/-- The places of node i's parts. -/
def pl (l : List S31) (i : Nat) : List Int := partsL (rd_T31 l i).f0 (rd_T31 l i).f3 (rd_T31 l i).f4 (rd_T31 l i).f5
def PartsIn (l : List S31) : Prop := ∀ i < l.length, ∀ p ∈ pl l i, 0 ≤ p ∧ p < (i : Int)
theorem parts_in {l : List S31} (h : NodesOk l) : PartsIn l := by
 intro i hi p hp
 have hb := h i hi
 unfold nodeB rightB at hb
 simp only [Bool.and_eq_true] at hb
 have := inB_iff.mp (List.all_eq_true.mp hb.1.2 p hp)
 rw [List.length_take] at this
 omega
def setAll (met : List Bool) (ps : List Int) : List Bool := ps.foldl (fun m p => m.set p.toNat true) met
theorem setAll_len (ps : List Int) : ∀ met : List Bool, (setAll met ps).length = met.length := by
 induction ps with
 | nil => intro met; rfl
 | cons p ps ih => intro met; show (setAll (met.set p.toNat true) ps).length = _; rw [ih, List.length_set]
/-- Going down from node j - 1: who is met. -/
def stepR (pb : Nat → Bool) (l : List S31) (j : Nat) (met : List Bool) : List Bool := if met.getD j false = true ∧ pb j = true then setAll met (pl l j) else met
def rgo (pb : Nat → Bool) (l : List S31) : Nat → List Bool → List Bool
 | 0, met => met
 | j + 1, met => rgo pb l j (stepR pb l j met)
theorem stepR_len (pb : Nat → Bool) (l : List S31) (j : Nat) (met : List Bool) : (stepR pb l j met).length = met.length := by
 unfold stepR; split
 ·rw [setAll_len]
 ·rfl
theorem rgo_len (pb : Nat → Bool) (l : List S31) (j : Nat) : ∀ met, (rgo pb l j met).length = met.length := by
 induction j with
 | zero => intro met; rfl
 | succ j ih => intro met; show (rgo pb l j _).length = _; rw [ih, stepR_len]
def reachL (pb : Nat → Bool) (l : List S31) (root : Nat) : List Bool := rgo pb l (root + 1) ((List.replicate l.length false).set root true)
theorem reachL_len (pb : Nat → Bool) (l : List S31) (root : Nat) : (reachL pb l root).length = l.length := by unfold reachL; rw [rgo_len]; simp
theorem rdB (l : List Bool) (i : Nat) (h : i < l.length) : rdOf false l (i : Int) = l[i] := by
 unfold rdOf
 rw [Int.toNat_natCast, List.getD_eq_getElem?_getD, List.getElem?_eq_getElem h]; rfl
theorem gdB (l : List Bool) (i : Nat) (h : i < l.length) : l.getD i false = l[i] := by
 rw [List.getD_eq_getElem?_getD, List.getElem?_eq_getElem h]; rfl
theorem setAll_drop (ps : List Int) (t : Nat) (h : t < ps.length) (met : List Bool) : setAll met (ps.drop t) = setAll (met.set (rd ps (t : Int)).toNat true) (ps.drop (t + 1)) := by
 rw [List.drop_eq_getElem_cons h, rdI ps t h]; rfl
theorem reachI_l1 (pf : Int → Option Bool) (l : List S31) (x8 : Int) (ps : List Int) (hps : ps.length ≤ 3) (hp : ∀ p ∈ ps, 0 ≤ p ∧ p < (l.length : Int)) (R : List Bool) (d : Nat) : ∀ (t : Nat) (met : List Bool), t + d = ps.length → met.length = l.length →
  Ev (fun k => impl_reach.l0 pf k l (setAll met (ps.drop t)) (wrap64 (x8 - 1))) R → Ev (fun k => impl_reach.l1 pf k l met x8 ps (ps.length : Int) (t : Int)) R := by
 induction d with
 | zero =>
  intro t met ht hm h
  refine ev_succ ?_
  simp only [impl_reach.l1]
  refine ev_neg (by omega) ?_
  rw [List.drop_eq_nil_of_le (by omega)] at h
  exact h
 | succ d ih =>
  intro t met ht hm h
  have hlt : t < ps.length := by omega
  have hq := hp _ (List.getElem_mem hlt)
  refine ev_succ ?_
  simp only [impl_reach.l1]
  rw [setAll_drop ps t hlt] at h
  refine ev_pos (by omega) (ev_pos (by omega) (ev_pos (by omega) (ev_pos (by rw [rdI ps t hlt]; exact hq.1) (ev_pos (by rw [rdI ps t hlt]; omega) ?_))))
  rw [wrap_id (by omega) (by omega), show ((t : Int) + 1) = ((t + 1 : Nat) : Int) by omega]
  exact ih (t + 1) _ (by omega) (by rw [List.length_set]; exact hm) h
theorem reachI_l0 (pf : Int → Option Bool) (pb : Nat → Bool) (l : List S31) (hl : l.length ≤ 4611686018427387904) (hP : PartsIn l) (hpf : ∀ i : Nat, i < l.length → pf (i : Int) = some (pb i)) (j : Nat) : ∀ met : List Bool, j ≤ l.length → met.length = l.length →
  Ev (fun k => impl_reach.l0 pf k l met ((j : Int) - 1)) (rgo pb l j met) := by
 induction j with
 | zero =>
  intro met hj hm
  refine ev_succ ?_
  simp only [impl_reach.l0]
  exact ev_neg (by omega) ev_now
 | succ j ih =>
  intro met hj hm
  have hlt : j < met.length := by omega
  rw [show ((j + 1 : Nat) : Int) - 1 = (j : Int) by omega]
  show Ev _ (rgo pb l j (stepR pb l j met))
  refine ev_succ ?_
  simp only [impl_reach.l0]
  refine ev_pos (by omega) (ev_pos (by omega) (ev_pos (by omega) ?_))
  rw [rdB met j hlt]
  have jump : ∀ met' : List Bool, met'.length = l.length → Ev (fun k => impl_reach.l0 pf k l met' (wrap64 ((j : Int) - 1))) (rgo pb l j met') := by
   intro met' hm'
   rw [wrap_id (by omega) (by omega)]
   exact ih met' (by omega) hm'
  by_cases hb : met[j] = true
  ·refine ev_pos hb (ev_bind0 (hpf j (by omega)) ?_)
   by_cases hq : pb j = true
   ·have hs : stepR pb l j met = setAll met (pl l j) := by unfold stepR; rw [if_pos ⟨by rw [gdB met j hlt]; exact hb, hq⟩]
    rw [hq, hs]
    refine ev_succ ?_
    simp only [impl_reach.j1]
    refine ev_neg (by decide) (ev_pos (by omega) (ev_pos (by omega) (ev_bind (ev_of 1 fun k hk => partsI _ _ _ _ _ _ hk) ?_)))
    have h0 := reachI_l1 pf l (j : Int) (pl l j) (partsL_len _ _ _ _) (fun p hp => by have := hP j (by omega) p hp; omega) (rgo pb l j (setAll met (pl l j))) (pl l j).length 0 met (by omega) hm (jump _ (by rw [List.drop_zero, setAll_len]; exact hm))
    exact h0
   ·have hq' : pb j = false := by simpa using hq
    have hs : stepR pb l j met = met := by unfold stepR; rw [if_neg (fun h => hq h.2)]
    rw [hq', hs]
    refine ev_succ ?_
    simp only [impl_reach.j1]
    exact ev_pos rfl (jump met hm)
  ·have hs : stepR pb l j met = met := by unfold stepR; rw [if_neg (fun h => hb (by rw [← gdB met j hlt]; exact h.1))]
   rw [hs]
   refine ev_neg hb ?_
   refine ev_succ ?_
   simp only [impl_reach.j1]
   exact ev_pos trivial (jump met hm)
theorem reach_ev (pf : Int → Option Bool) (pb : Nat → Bool) (l : List S31) (hl : l.length ≤ 281474976710656) (hP : PartsIn l) (hpf : ∀ i : Nat, i < l.length → pf (i : Int) = some (pb i)) (root : Nat) (hr : root < l.length) :
  Ev (fun k => impl_reach.f pf k l (root : Int)) (reachL pb l root) := by
 unfold impl_reach.f
 refine ev_pos (by omega) (ev_pos (by omega) (ev_bind0 rfl (ev_pos (by omega) (ev_pos (by simp; omega) ?_))))
 have := reachI_l0 pf pb l (by omega) hP hpf (root + 1) ((List.replicate l.length false).set root true) (by omega) (by simp)
 rw [show ((root + 1 : Nat) : Int) - 1 = (root : Int) by omega] at this
 rw [Int.toNat_natCast, Int.toNat_natCast]
 exact this
theorem reached_ev (l : List S31) (hl : l.length ≤ 281474976710656) (h0 : 1 ≤ l.length) (hP : PartsIn l) : Ev (fun k => impl_reached.f k l) (reachL (fun _ => true) l (l.length - 1)) := by
 unfold impl_reached.f
 rw [wrap_id (by omega) (by omega), show (l.length : Int) - 1 = ((l.length - 1 : Nat) : Int) by omega]
 exact ev_bind (reach_ev impl_reached_1.f (fun _ => true) l hl hP (fun i _ => rfl) (l.length - 1) (by omega)) ev_now
theorem reachS_l2 (l : List S31) (i : Nat) (hi : i < l.length) (ps : List Int) (hps : ps.length ≤ 3) (hp : ∀ p ∈ ps, 0 ≤ p ∧ p < (l.length : Int)) (R : List Bool) (d : Nat) : ∀ (t : Nat) (met : List Bool), t + d = ps.length → met.length = l.length → met.getD i false = true →
  Ev (fun k => spec_l02Reach.l1 k l (setAll met (ps.drop t)) (wrap64 ((i : Int) - 1))) R → Ev (fun k => spec_l02Reach.l2 k l met (i : Int) ps (t : Int)) R := by
 induction d with
 | zero =>
  intro t met ht hm hb h
  refine ev_succ ?_
  simp only [spec_l02Reach.l2]
  refine ev_neg (by omega) ?_
  rw [List.drop_eq_nil_of_le (by omega)] at h
  exact h
 | succ d ih =>
  intro t met ht hm hb h
  have hlt : t < ps.length := by omega
  have hq := hp _ (List.getElem_mem hlt)
  have him : i < met.length := by omega
  refine ev_succ ?_
  simp only [spec_l02Reach.l2]
  rw [setAll_drop ps t hlt] at h
  refine ev_pos (by omega) (ev_pos (by omega) (ev_pos (by omega) (ev_pos (by rw [rdB met i him, ← gdB met i him]; exact hb) (ev_pos (by omega) (ev_pos (by rw [rdI ps t hlt]; exact hq.1) (ev_pos (by rw [rdI ps t hlt]; omega) ?_))))))
  rw [wrap_id (by omega) (by omega), show ((t : Int) + 1) = ((t + 1 : Nat) : Int) by omega]
  refine ih (t + 1) _ (by omega) (by rw [List.length_set]; exact hm) ?_ h
  rw [gdB _ i (by rw [List.length_set]; exact him), List.getElem_set]
  split
  ·rfl
  ·rw [← gdB met i him]; exact hb
theorem reachS_l1 (l : List S31) (hl : l.length ≤ 4611686018427387904) (hP : PartsIn l) (j : Nat) : ∀ met : List Bool, j ≤ l.length → met.length = l.length → Ev (fun k => spec_l02Reach.l1 k l met ((j : Int) - 1)) (rgo (fun _ => true) l j met) := by
 induction j with
 | zero =>
  intro met hj hm
  refine ev_succ ?_
  simp only [spec_l02Reach.l1]
  exact ev_neg (by omega) ev_now
 | succ j ih =>
  intro met hj hm
  have hlt : j < met.length := by omega
  rw [show ((j + 1 : Nat) : Int) - 1 = (j : Int) by omega]
  show Ev _ (rgo _ l j (stepR _ l j met))
  have jump : ∀ met' : List Bool, met'.length = l.length → Ev (fun k => spec_l02Reach.l1 k l met' (wrap64 ((j : Int) - 1))) (rgo (fun _ => true) l j met') := by
   intro met' hm'
   rw [wrap_id (by omega) (by omega)]
   exact ih met' (by omega) hm'
  refine ev_succ ?_
  simp only [spec_l02Reach.l1]
  refine ev_pos (by omega) (ev_pos (by omega) (ev_pos (by omega) (ev_bind (ev_of 1 fun k hk => partsS _ _ _ _ _ _ hk) ?_)))
  by_cases hb : met.getD j false = true
  ·have hs : stepR (fun _ => true) l j met = setAll met (pl l j) := by unfold stepR; rw [if_pos ⟨hb, rfl⟩]
   rw [hs]
   exact reachS_l2 l j (by omega) (pl l j) (partsL_len _ _ _ _) (fun p hp => by have := hP j (by omega) p hp; omega) (rgo _ l j (setAll met (pl l j))) (pl l j).length 0 met (by omega) hm hb (jump _ (by rw [List.drop_zero, setAll_len]; exact hm))
  ·have hs : stepR (fun _ => true) l j met = met := by unfold stepR; rw [if_neg (fun h => hb h.1)]
   rw [hs]
   refine ev_succ ?_
   simp only [spec_l02Reach.l2]
   by_cases h0 : (0 : Int) < ((pl l j).length : Int)
   ·refine ev_pos h0 (ev_pos (by omega) (ev_pos (by omega) (ev_neg ?_ (jump met hm))))
    rw [rdB met j hlt, ← gdB met j hlt]; exact hb
   ·exact ev_neg h0 (jump met hm)
theorem reachS_l0 (l : List S31) (hl : l.length ≤ 1048576) (hP : PartsIn l) (d : Nat) : ∀ i : Nat, i + d = l.length →
  Ev (fun k => spec_l02Reach.l0 k l ((List.range i).map fun t : Nat => ((t : Int) == (l.length : Int) - 1)) (i : Int)) (rgo (fun _ => true) l l.length ((List.range l.length).map fun t : Nat => ((t : Int) == (l.length : Int) - 1))) := by
 induction d with
 | zero =>
  intro i hi
  obtain rfl : i = l.length := by omega
  refine ev_succ ?_
  simp only [spec_l02Reach.l0]
  refine ev_neg (by omega) ?_
  rw [wrap_id (by omega) (by omega)]
  exact reachS_l1 l (by omega) hP l.length _ (Nat.le_refl _) (by simp)
 | succ d ih =>
  intro i hi
  refine ev_succ ?_
  simp only [spec_l02Reach.l0]
  refine ev_pos (by omega) (ev_pos (by rw [List.length_map, List.length_range]; omega) ?_)
  rw [wrap_id (x := (l.length : Int) - 1) (by omega) (by omega), wrap_id (by omega) (by omega), show ((i : Int) + 1) = ((i + 1 : Nat) : Int) by omega]
  have := ih (i + 1) (by omega)
  rwa [List.range_succ, List.map_append] at this
theorem l02Reach_ev (l : List S31) (hl : l.length ≤ 1048576) (h0 : 1 ≤ l.length) (hP : PartsIn l) : Ev (fun k => spec_l02Reach.f k l) (reachL (fun _ => true) l (l.length - 1)) := by
 unfold spec_l02Reach.f reachL
 have := reachS_l0 l hl hP l.length 0 (by omega)
 rw [show l.length - 1 + 1 = l.length by omega]
 have e : (List.replicate l.length false).set (l.length - 1) true = (List.range l.length).map fun t : Nat => ((t : Int) == (l.length : Int) - 1) := by
  apply List.ext_getElem
  ·simp
  ·intro t h1 h2
   rw [List.getElem_set, List.getElem_map, List.getElem_range]
   by_cases c : l.length - 1 = t
   ·rw [if_pos c]; symm; simp; omega
   ·rw [if_neg c, List.getElem_replicate]; symm; simp; simp at h2; omega
 rw [e]
 exact this
theorem isqI (a b c d e f : Int) : impl_isQuant.f a b c d e f = some ((a == 19) || (a == 20)) := by
 unfold impl_isQuant.f
 by_cases h : a = 19
 ·rw [if_pos h]; simp [h]
 ·rw [if_neg h]; simp [h]
theorem isqS (a : Int) : spec_l02Quant.f a = some ((a == 19) || (a == 20)) := by
 unfold spec_l02Quant.f
 by_cases h : a = 19
 ·rw [if_pos h]; simp [h]
 ·rw [if_neg h]; simp [h]
/-- A node with its parts told anew. -/
def renN (g : Int → Int) (n : S31) : S31 := ⟨n.f0, n.f1, n.f2, if 0 < (partsL n.f0 n.f3 n.f4 n.f5).length then g n.f3 else n.f3, if 1 < (partsL n.f0 n.f3 n.f4 n.f5).length then g n.f4 else n.f4, if 2 < (partsL n.f0 n.f3 n.f4 n.f5).length then g n.f5 else n.f5⟩
/-- What is made of the first i nodes: the new places, the nodes kept. -/
def keptS (l : List S31) (met : List Bool) : Nat → List Int × List S31
 | 0 => (List.replicate l.length 0, [])
 | i + 1 => if met.getD i false = true then ((keptS l met i).1.set i ((keptS l met i).2.length : Int), (keptS l met i).2 ++ [renN (fun p => rd ((keptS l met i).1.set i ((keptS l met i).2.length : Int)) p) (rd_T31 l (i : Int))]) else keptS l met i
theorem keptS_len (l : List S31) (met : List Bool) (i : Nat) : (keptS l met i).1.length = l.length ∧ (keptS l met i).2.length ≤ i := by
 induction i with
 | zero => simp [keptS]
 | succ i ih =>
  unfold keptS
  split
  ·simp [ih.1, ih.2]
  ·exact ⟨ih.1, by omega⟩
theorem setAll_mono (ps : List Int) : ∀ (met : List Bool) (i : Nat), met.getD i false = true → (setAll met ps).getD i false = true := by
 induction ps with
 | nil => intro met i h; exact h
 | cons p ps ih =>
  intro met i h
  refine ih _ i ?_
  rw [List.getD_eq_getElem?_getD, List.getElem?_set]
  split
  ·split
   ·rfl
   ·rename_i h1 h2; subst h1; rw [List.getD_eq_getElem?_getD, List.getElem?_eq_none (by omega)] at h; simp at h
  ·rwa [List.getD_eq_getElem?_getD] at h
theorem setAll_mem (ps : List Int) : ∀ (met : List Bool) (p : Int), p ∈ ps → 0 ≤ p → p.toNat < met.length → (setAll met ps).getD p.toNat false = true := by
 induction ps with
 | nil => intro met p h; cases h
 | cons q ps ih =>
  intro met p h h0 h1
  show (setAll (met.set q.toNat true) ps).getD p.toNat false = true
  rcases List.mem_cons.mp h with rfl | h
  ·refine setAll_mono ps _ _ ?_
   rw [List.getD_eq_getElem?_getD, List.getElem?_set, if_pos rfl, if_pos h1]; rfl
  ·exact ih _ p h h0 (by rw [List.length_set]; exact h1)
theorem setAll_far (ps : List Int) : ∀ (met : List Bool) (i : Nat), (∀ p ∈ ps, p.toNat ≠ i) → (setAll met ps).getD i false = met.getD i false := by
 induction ps with
 | nil => intro met i _; rfl
 | cons q ps ih =>
  intro met i h
  show (setAll (met.set q.toNat true) ps).getD i false = _
  rw [ih _ i (fun p hp => h p (List.mem_cons_of_mem _ hp)), List.getD_eq_getElem?_getD, List.getElem?_set, if_neg (h q List.mem_cons_self), List.getD_eq_getElem?_getD]
/-- What is reached has its parts reached. -/
theorem rgo_closed (l : List S31) (hP : PartsIn l) (j : Nat) : ∀ met : List Bool, j ≤ l.length → met.length = l.length → (∀ i < l.length, j ≤ i → met.getD i false = true → ∀ p ∈ pl l i, met.getD p.toNat false = true) →
  ∀ i < l.length, (rgo (fun _ => true) l j met).getD i false = true → ∀ p ∈ pl l i, (rgo (fun _ => true) l j met).getD p.toNat false = true := by
 induction j with
 | zero => intro met _ _ h i hi hm p hp; exact h i hi (by omega) hm p hp
 | succ j ih =>
  intro met hj hm h
  refine ih _ (by omega) (by rw [stepR_len]; exact hm) ?_
  intro i hi hij hmi p hp
  by_cases hb : met.getD j false = true
  ·have hs : stepR (fun _ => true) l j met = setAll met (pl l j) := by unfold stepR; rw [if_pos ⟨hb, rfl⟩]
   rw [hs] at hmi ⊢
   rcases Nat.eq_or_lt_of_le hij with rfl | hlt
   ·have := hP j (by omega) p hp
    exact setAll_mem _ _ p hp this.1 (by omega)
   ·rw [setAll_far _ _ i (fun q hq => by have := hP j (by omega) q hq; omega)] at hmi
    exact setAll_mono _ _ _ (h i hi (by omega) hmi p hp)
  ·have hs : stepR (fun _ => true) l j met = met := by unfold stepR; rw [if_neg (fun h => hb h.1)]
   rw [hs] at hmi ⊢
   rcases Nat.eq_or_lt_of_le hij with rfl | hlt
   ·exact absurd hmi hb
   ·exact h i hi (by omega) hmi p hp
theorem reach_closed (l : List S31) (hP : PartsIn l) (root : Nat) (hr : root < l.length) : ∀ i < l.length, (reachL (fun _ => true) l root).getD i false = true → ∀ p ∈ pl l i, (reachL (fun _ => true) l root).getD p.toNat false = true := by
 unfold reachL
 refine rgo_closed l hP (root + 1) _ (by omega) (by simp) ?_
 intro i hi hij hm p hp
 rw [List.getD_eq_getElem?_getD, List.getElem?_set, if_neg (by omega), List.getElem?_replicate, if_pos hi] at hm
 simp at hm
def cntL (met : List Bool) : Nat → Nat
 | 0 => 0
 | i + 1 => cntL met i + (if met.getD i false = true then 1 else 0)
theorem cntL_le (met : List Bool) (i : Nat) : cntL met i ≤ i := by
 induction i with
 | zero => exact Nat.le_refl _
 | succ i ih => unfold cntL; split <;> omega
theorem rd_get (l : List Int) (p : Int) : rd l p = l.getD p.toNat 0 := rfl
theorem kept_inv (l : List S31) (met : List Bool) (i : Nat) : i ≤ l.length → (keptS l met i).2.length = cntL met i ∧ ∀ p < i, met.getD p false = true → (keptS l met i).1.getD p 0 = (cntL met p : Int) := by
 induction i with
 | zero => intro _; exact ⟨rfl, fun p hp => absurd hp (by omega)⟩
 | succ i ih =>
  intro hi
  obtain ⟨h1, h2⟩ := ih (by omega)
  have hl := (keptS_len l met i).1
  have hcn : cntL met (i + 1) = cntL met i + (if met.getD i false = true then 1 else 0) := rfl
  rw [hcn]
  unfold keptS
  by_cases hb : met.getD i false = true
  ·rw [if_pos hb, if_pos hb]
   refine ⟨by simp [h1], fun p hp hm => ?_⟩
   rw [List.getD_eq_getElem?_getD, List.getElem?_set]
   by_cases hpi : i = p
   ·subst hpi; rw [if_pos rfl, if_pos (by omega), h1]; rfl
   ·rw [if_neg hpi, ← List.getD_eq_getElem?_getD]; exact h2 p (by omega) hm
  ·rw [if_neg hb, if_neg hb]
   refine ⟨by omega, fun p hp hm => ?_⟩
   by_cases hpi : i = p
   ·subst hpi; exact absurd hm hb
   ·exact h2 p (by omega) hm
def placeL (met : List Bool) (i : Nat) : List Int := (List.range i).map fun t => (cntL met t : Int)
theorem placeL_get (met : List Bool) (i : Nat) (p : Int) (h0 : 0 ≤ p) (h1 : p < (i : Int)) : rd (placeL met i) p = (cntL met p.toNat : Int) := by
 rw [rd_get, List.getD_eq_getElem?_getD]
 unfold placeL
 rw [List.getElem?_map, List.getElem?_range (by omega)]; rfl
theorem placeL_len (met : List Bool) (i : Nat) : (placeL met i).length = i := by simp [placeL]
theorem pruneS_from (l : List S31) (hl : l.length ≤ 80) (hP : PartsIn l) (met : List Bool) (hm : met.length = l.length) (hc : ∀ i < l.length, met.getD i false = true → ∀ p ∈ pl l i, met.getD p.toNat false = true) (d : Nat) : ∀ i : Nat, i + d = l.length →
  Ev (fun k => spec_Prune.l0 k l (keptS l met i).2 met (placeL met i) (i : Int)) (keptS l met l.length).2 := by
 induction d with
 | zero =>
  intro i hi
  obtain rfl : i = l.length := by omega
  refine ev_succ ?_
  simp only [spec_Prune.l0]
  exact ev_neg (by omega) ev_now
 | succ d ih =>
  intro i hi
  have hlt : i < l.length := by omega
  have him : i < met.length := by omega
  obtain ⟨k1, k2⟩ := kept_inv l met i (by omega)
  have hcl := cntL_le met i
  have hnext := ih (i + 1) (by omega)
  have hpl : placeL met i ++ [((keptS l met i).2.length : Int)] = placeL met (i + 1) := by unfold placeL; rw [List.range_succ, List.map_append, k1]; rfl
  refine ev_succ ?_
  simp only [spec_Prune.l0]
  rw [hpl, wrap_id (by omega) (by omega), show ((i : Int) + 1) = ((i + 1 : Nat) : Int) by omega, rdB met i him, ← gdB met i him]
  refine ev_pos (by omega) (ev_pos (by rw [placeL_len]; omega) (ev_bind0 rfl (ev_pos (by omega) (ev_pos (by omega) ?_))))
  by_cases hb : met.getD i false = true
  ·refine ev_pos hb (ev_bind (ev_of 1 fun k hk => partsS _ _ _ _ _ _ hk) ?_)
   have hkn : (keptS l met (i + 1)).2 = (keptS l met i).2 ++ [renN (fun p => rd (placeL met (i + 1)) p) (rd_T31 l (i : Int))] := by
    show (if met.getD i false = true then _ else _ : List Int × List S31).2 = _
    rw [if_pos hb]
    have key : ∀ p ∈ pl l i, rd ((keptS l met i).1.set i ((keptS l met i).2.length : Int)) p = rd (placeL met (i + 1)) p := by
     intro p hp
     have hp1 := hP i hlt p hp
     rw [placeL_get met (i + 1) p hp1.1 (by omega), rd_get, List.getD_eq_getElem?_getD, List.getElem?_set, if_neg (by omega), ← List.getD_eq_getElem?_getD]
     exact k2 p.toNat (by omega) (hc i hlt hb p hp)
    simp only [renN]
    congr 2
    unfold pl at key
    generalize (rd_T31 l (i : Int)).f3 = A at *
    generalize (rd_T31 l (i : Int)).f4 = B at *
    generalize (rd_T31 l (i : Int)).f5 = C at *
    generalize (rd_T31 l (i : Int)).f0 = op at *
    have h3 : 0 < (partsL op A B C).length → A ∈ partsL op A B C := by unfold partsL; split <;> (try split) <;> (try split) <;> simp
    have h4 : 1 < (partsL op A B C).length → B ∈ partsL op A B C := by unfold partsL; split <;> (try split) <;> (try split) <;> simp
    have h5 : 2 < (partsL op A B C).length → C ∈ partsL op A B C := by unfold partsL; split <;> (try split) <;> (try split) <;> simp
    congr 1
    ·by_cases h : 0 < (partsL op A B C).length
     ·rw [if_pos h, if_pos h, key A (h3 h)]
     ·rw [if_neg h, if_neg h]
    ·by_cases h : 1 < (partsL op A B C).length
     ·rw [if_pos h, if_pos h, key B (h4 h)]
     ·rw [if_neg h, if_neg h]
    ·by_cases h : 2 < (partsL op A B C).length
     ·rw [if_pos h, if_pos h, key C (h5 h)]
     ·rw [if_neg h, if_neg h]
   rw [hkn] at hnext
   have hin : ∀ p ∈ pl l i, 0 ≤ p ∧ p < ((placeL met (i + 1)).length : Int) := by intro p hp; have := hP i hlt p hp; rw [placeL_len]; omega
   unfold pl at hin
   unfold renN at hnext
   have hlen : (keptS l met i).2.length < 2932031007402 := by omega
   generalize (rd_T31 l (i : Int)).f3 = A at *
   generalize (rd_T31 l (i : Int)).f4 = B at *
   generalize (rd_T31 l (i : Int)).f5 = C at *
   generalize (rd_T31 l (i : Int)).f0 = op at *
   have h3 : 0 < (partsL op A B C).length → A ∈ partsL op A B C := by unfold partsL; split <;> (try split) <;> (try split) <;> simp
   have h4 : 1 < (partsL op A B C).length → B ∈ partsL op A B C := by unfold partsL; split <;> (try split) <;> (try split) <;> simp
   have h5 : 2 < (partsL op A B C).length → C ∈ partsL op A B C := by unfold partsL; split <;> (try split) <;> (try split) <;> simp
   have h45 : 2 < (partsL op A B C).length → 1 < (partsL op A B C).length := by omega
   have tail : ∀ A' : Int, A' = (if 0 < (partsL op A B C).length then rd (placeL met (i + 1)) A else A) → Ev (fun k => spec_Prune.j1 k l (keptS l met i).2 met (placeL met (i + 1)) (i : Int) (partsL op A B C) op (rd_T31 l (i : Int)).f1 (rd_T31 l (i : Int)).f2 A' B C) (keptS l met l.length).2 := by
    intro A' hA'
    refine ev_succ ?_
    simp only [spec_Prune.j1]
    rw [wrap_id (by omega) (by omega), show ((i : Int) + 1) = ((i + 1 : Nat) : Int) by omega]
    subst hA'
    by_cases g1 : 1 < (partsL op A B C).length
    ·refine ev_pos (by omega) (ev_pos (hin _ (h4 g1)).1 (ev_pos (hin _ (h4 g1)).2 ?_))
     by_cases g2 : 2 < (partsL op A B C).length
     ·refine ev_pos (by omega) (ev_pos (hin _ (h5 g2)).1 (ev_pos (hin _ (h5 g2)).2 (ev_pos hlen ?_)))
      rw [if_pos g1, if_pos g2] at hnext; exact hnext
     ·refine ev_neg (by omega) (ev_pos hlen ?_)
      rw [if_pos g1, if_neg g2] at hnext; exact hnext
    ·have g2 : ¬ 2 < (partsL op A B C).length := by omega
     refine ev_neg (by omega) (ev_neg (by omega) (ev_pos hlen ?_))
     rw [if_neg g1, if_neg g2] at hnext; exact hnext
   by_cases g0 : 0 < (partsL op A B C).length
   ·exact ev_pos (by omega) (ev_pos (hin _ (h3 g0)).1 (ev_pos (hin _ (h3 g0)).2 (tail _ (by rw [if_pos g0]))))
   ·exact ev_neg (by omega) (tail _ (by rw [if_neg g0]))
  ·refine ev_neg hb ?_
   have hkn : keptS l met (i + 1) = keptS l met i := by
    show (if met.getD i false = true then _ else _ : List Int × List S31) = _
    rw [if_neg hb]
   rw [hkn] at hnext
   exact hnext
/-- A term without what its root does not reach. -/
def prunL (l : List S31) : List S31 := (keptS l (reachL (fun _ => true) l (l.length - 1)) l.length).2
theorem prunL_le (l : List S31) : (prunL l).length ≤ l.length := (keptS_len l _ _).2
theorem PruneS_ok (l : List S31) (h : TermOkP l) (e1 : Ev (fun k => spec_TermOk.f k l) true) : Ev (fun k => spec_Prune.f k l) (prunL l) := by
 obtain ⟨h1, h2, h3⟩ := h
 have hP := parts_in h3
 unfold spec_Prune.f
 refine ev_bind0 rfl (ev_bind e1 (ev_pos rfl (ev_bind (l02Reach_ev l (by omega) h1 hP) ?_)))
 exact pruneS_from l h2 hP _ (reachL_len _ _ _) (reach_closed l hP _ (by omega)) l.length 0 (by omega)
/-! ### Terms as trees, and what they are worth -/
inductive Tm where
 | leaf (op W K : Int)
 | un (op W K B : Int) (a : Tm)
 | bin (op W K : Int) (a b : Tm)
 | ter (op W K : Int) (a b c : Tm)
def Tm.wid : Tm → Int
 | .leaf _ W _ => W
 | .un _ W _ _ _ => W
 | .bin _ W _ _ _ => W
 | .ter _ W _ _ _ _ => W
def mkT (op W K B : Int) : List Tm → Tm
 | [] => .leaf op W K
 | [a] => .un op W K B a
 | [a, b] => .bin op W K a b
 | a :: b :: c :: _ => .ter op W K a b c
theorem mkT_wid (op W K B : Int) : ∀ ts, (mkT op W K B ts).wid = W
 | [] => rfl
 | [_] => rfl
 | [_, _] => rfl
 | _ :: _ :: _ :: _ => rfl
def tr (l : List S31) : Nat → Nat → Tm
 | 0, _ => .leaf 0 0 0
 | n + 1, i => mkT (rd_T31 l (i : Int)).f0 (rd_T31 l (i : Int)).f1 (rd_T31 l (i : Int)).f2 (rd_T31 l (i : Int)).f4 ((pl l i).map fun p => tr l n p.toNat)
theorem tr_stable {l : List S31} (hP : PartsIn l) (n : Nat) : ∀ m i : Nat, i < n → i < m → i < l.length → tr l n i = tr l m i := by
 induction n with
 | zero => intro m i h; omega
 | succ n ih =>
  intro m i h1 h2 hi
  obtain ⟨m, rfl⟩ : ∃ m', m = m' + 1 := ⟨m - 1, by omega⟩
  unfold tr
  congr 1
  refine List.map_congr_left (fun p hp => ?_)
  have := hP i hi p hp
  exact ih m p.toNat (by omega) (by omega) (by omega)
/-- The tree of node i. -/
def T (l : List S31) (i : Nat) : Tm := tr l (i + 1) i
theorem T_eq {l : List S31} (hP : PartsIn l) (i : Nat) (hi : i < l.length) : T l i = mkT (rd_T31 l (i : Int)).f0 (rd_T31 l (i : Int)).f1 (rd_T31 l (i : Int)).f2 (rd_T31 l (i : Int)).f4 ((pl l i).map fun p => T l p.toNat) := by
 show tr l (i + 1) i = _
 unfold tr
 congr 1
 refine List.map_congr_left (fun p hp => ?_)
 have := hP i hi p hp
 exact tr_stable hP _ _ _ (by omega) (by omega) (by omega)
theorem T_wid {l : List S31} (i : Nat) : (T l i).wid = (rd_T31 l (i : Int)).f1 := by
 show (tr l (i + 1) i).wid = _
 unfold tr
 exact mkT_wid _ _ _ _ _
def qv (op : Int) (n : Nat) (f : Nat → Int) : Int :=
 if op = 19 then (if (List.range n).all (fun x => f x == 1) = true then 1 else 0) else (if (List.range n).any (fun x => f x == 1) = true then 1 else 0)
/-- What a tree is worth. -/
def sem : Tm → List Int → Int
 | .leaf op W K, env => if op = 1 then rd env K else vApply op W K 1 0 0 0
 | .un op W K B a, env => if op = 19 ∨ op = 20 then qv op (2 ^ B.toNat) (fun x => sem a (env.set K.toNat (x : Int))) else vApply op W K a.wid (sem a env) 0 0
 | .bin op W K a b, env => vApply op W K a.wid (sem a env) (sem b env) 0
 | .ter op W K a b c, env => vApply op W K a.wid (sem a env) (sem b env) (sem c env)
/-! ### What NodesOk tells of a node -/
theorem parts_q {op A B C : Int} (h : op = 19 ∨ op = 20) : partsL op A B C = [A] := by
 unfold partsL; rw [if_pos (by omega)]
theorem node_facts {l : List S31} (h : NodesOk l) (i : Nat) (hi : i < l.length) : (1 ≤ (rd_T31 l (i : Int)).f1 ∧ (rd_T31 l (i : Int)).f1 ≤ 8) ∧ (0 ≤ (rd_T31 l (i : Int)).f0 ∧ (rd_T31 l (i : Int)).f0 ≤ 20) ∧ (0 ≤ (rd_T31 l (i : Int)).f2 ∧ (rd_T31 l (i : Int)).f2 ≤ 9223372036854775807) := by
 have hb := h i hi
 unfold nodeB rightB at hb
 simp only [Bool.and_eq_true] at hb
 obtain ⟨⟨⟨⟨h1, h2⟩, h3⟩, h4⟩, h5⟩ := hb
 have h1 := inB_iff.mp h1
 have h2 := inB_iff.mp h2
 refine ⟨h1, h2, ?_⟩
 unfold rightSw at h5
 unfold usesB at h3
 by_cases o0 : (rd_T31 l (i : Int)).f0 = 0
 ·rw [if_pos o0] at h5
  have := wok_iff.mp h5
  have := P2_pos (w := (rd_T31 l (i : Int)).f1) (by omega) (by omega)
  omega
 rw [if_neg o0] at h5
 by_cases o1 : (rd_T31 l (i : Int)).f0 = 1
 ·rw [if_pos o1] at h5
  have := inB_iff.mp h5
  omega
 rw [if_neg o1] at h5
 rw [if_neg (by omega)] at h3
 by_cases o17 : (rd_T31 l (i : Int)).f0 = 17
 ·rw [if_neg (by omega), if_neg (by omega), if_neg (by omega), if_neg (by omega), if_pos o17] at h5
  have := inB_iff.mp h5
  have hw : wrap64 (wv (l.take i) (partsL (rd_T31 l (i : Int)).f0 (rd_T31 l (i : Int)).f3 (rd_T31 l (i : Int)).f4 (rd_T31 l (i : Int)).f5) (partsL (rd_T31 l (i : Int)).f0 (rd_T31 l (i : Int)).f3 (rd_T31 l (i : Int)).f4 (rd_T31 l (i : Int)).f5).length 0 - (rd_T31 l (i : Int)).f1) ≤ 9223372036854775807 := by
   unfold wrap64; omega
  omega
 rw [if_neg o17] at h3
 by_cases oq : (rd_T31 l (i : Int)).f0 = 19 ∨ (rd_T31 l (i : Int)).f0 = 20
 ·rw [if_neg (by omega), if_neg (by omega), if_neg (by omega), if_neg (by omega), if_neg (by omega), if_neg (by omega)] at h5
  simp only [Bool.and_eq_true] at h5
  have := inB_iff.mp h5.1.1.1
  omega
 rw [if_neg oq] at h3
 by_cases o2 : (rd_T31 l (i : Int)).f0 = 2
 ·rw [if_pos o2] at h3
  simp only [Bool.and_eq_true, beq_iff_eq] at h3
  omega
 rw [if_neg o2] at h3
 by_cases o3 : 3 ≤ (rd_T31 l (i : Int)).f0 ∧ (rd_T31 l (i : Int)).f0 ≤ 16
 ·rw [if_pos o3] at h3
  simp only [Bool.and_eq_true, beq_iff_eq] at h3
  omega
 rw [if_neg o3] at h3
 by_cases o18 : (rd_T31 l (i : Int)).f0 = 18
 ·rw [if_pos o18] at h3
  simp only [Bool.and_eq_true, beq_iff_eq] at h3
  omega
 ·omega
theorem node_var {l : List S31} (h : NodesOk l) (i : Nat) (hi : i < l.length) (o : (rd_T31 l (i : Int)).f0 = 1) : (rd_T31 l (i : Int)).f2 ≤ 7 := by
 have hb := h i hi
 unfold nodeB rightB rightSw at hb
 simp only [Bool.and_eq_true] at hb
 rw [if_neg (by omega), if_pos o] at hb
 exact (inB_iff.mp hb.2).2
theorem node_quant {l : List S31} (h : NodesOk l) (i : Nat) (hi : i < l.length) (o : (rd_T31 l (i : Int)).f0 = 19 ∨ (rd_T31 l (i : Int)).f0 = 20) : (rd_T31 l (i : Int)).f2 ≤ 7 ∧ (1 ≤ (rd_T31 l (i : Int)).f4 ∧ (rd_T31 l (i : Int)).f4 ≤ 8) ∧ (0 ≤ (rd_T31 l (i : Int)).f3 ∧ (rd_T31 l (i : Int)).f3 < (i : Int)) ∧ (rd_T31 l (rd_T31 l (i : Int)).f3).f1 = 1 ∧ (rd_T31 l (i : Int)).f1 = 1 := by
 have hp := parts_in h i hi (rd_T31 l (i : Int)).f3 (by unfold pl; rw [parts_q o]; simp)
 have hb := h i hi
 unfold nodeB rightB rightSw at hb
 simp only [Bool.and_eq_true] at hb
 rw [if_neg (by omega), if_neg (by omega), if_neg (by omega), if_neg (by omega), if_neg (by omega), if_neg (by omega), if_neg (by omega), if_neg (by omega)] at hb
 simp only [Bool.and_eq_true, beq_iff_eq] at hb
 obtain ⟨_, ⟨⟨h1, h2⟩, h3⟩, h4⟩ := hb
 have h1 := inB_iff.mp h1
 have h2 := inB_iff.mp h2
 rw [parts_q o] at h3
 have h3 : (rd_T31 (l.take i) (rd [(rd_T31 l (i : Int)).f3] 0)).f1 = 1 := h3
 rw [show rd [(rd_T31 l (i : Int)).f3] 0 = (rd_T31 l (i : Int)).f3 from rfl, rd_take l i _ hp.1 hp.2] at h3
 exact ⟨h1.2, h2, hp, h3, h4⟩
/-! ### The specification's reckoning comes to sem -/
theorem P2_nat {w : Int} (h : 0 ≤ w) : P2 w = ((2 ^ w.toNat : Nat) : Int) := by unfold P2; simp
theorem ev_shift {α : Type} {g : Nat → Option α} {r : α} (h : Ev g r) : Ev (fun k => g (k + 1)) r := by
 obtain ⟨n, h⟩ := h
 exact ⟨n, fun k hk => h (k + 1) (by omega)⟩
/-- What the recursion is asked for below node i. -/
def HA (l : List S31) (i : Nat) (A : Nat → List S31 → List Int → Int → Option (Int × List Int)) : Prop :=
 ∀ (env : List Int) (j : Nat), env.length = 8 → j < i → Ev (fun k => A k l env (j : Int)) (sem (T l j) env, env)
theorem HA_shift {l : List S31} {i : Nat} {A : Nat → List S31 → List Int → Int → Option (Int × List Int)} (h : HA l i A) : HA l i (fun k => A (k + 1)) :=
 fun env j he hj => ev_shift (h env j he hj)
theorem set_rd (l : List Int) (i : Int) (h0 : 0 ≤ i) (h1 : i < (l.length : Int)) : l.set i.toNat (rd l i) = l := by
 unfold rd
 rw [List.getD_eq_getElem?_getD, List.getElem?_eq_getElem (by omega)]
 exact List.set_getElem_self _
theorem all_succ (n : Nat) (f : Nat → Bool) : (List.range (n + 1)).all f = ((List.range n).all f && f n) := by
 rw [List.range_succ, List.all_append]; simp
theorem any_succ (n : Nat) (f : Nat → Bool) : (List.range (n + 1)).any f = ((List.range n).any f || f n) := by
 rw [List.range_succ, List.any_append]; simp
theorem one_l0 (l : List S31) (a i : Nat) (hai : a < i) (env : List Int) (he : env.length = 8) (op W K B C : Int) (hK0 : 0 ≤ K) (hK : K ≤ 7) (hB0 : 1 ≤ B) (hB : B ≤ 8) (d : Nat) : ∀ (x : Nat) (A : Nat → List S31 → List Int → Int → Option (Int × List Int)) (env' : List Int), HA l i A → x + d = 2 ^ B.toNat → env'.length = 8 → (∀ y, env'.set K.toNat y = env.set K.toNat y) →
  Ev (fun k => spec_l04One.l0 (A k) k l env' (rd env K) (if (List.range x).all (fun y => sem (T l a) (env.set K.toNat (y : Int)) == 1) = true then 1 else 0) (if (List.range x).any (fun y => sem (T l a) (env.set K.toNat (y : Int)) == 1) = true then 1 else 0) (x : Int) op W K (a : Int) B C) (qv op (2 ^ B.toNat) (fun x => sem (T l a) (env.set K.toNat (x : Int))), env) := by
 have hp : ∀ x : Nat, x ≤ 2 ^ B.toNat → (x : Int) ≤ 256 := by
  intro x hx
  have := P2_pos (w := B) (by omega) hB
  rw [P2_nat (by omega)] at this
  omega
 induction d with
 | zero =>
  intro x A env' hA hx hl hs
  have := hp x (by omega)
  obtain rfl : x = 2 ^ B.toNat := by omega
  refine ev_succ ?_
  simp only [spec_l04One.l0]
  refine ev_bind (a := P2 B) (ev_of 20 fun k hk => pow2 (by omega) hB hk) ?_
  refine ev_neg (by rw [P2_nat (by omega)]; omega) (ev_pos hK0 (ev_pos (by rw [hl]; omega) (ev_bind0 rfl ?_)))
  rw [hs, set_rd env K hK0 (by omega)]
  unfold qv
  by_cases h19 : op = 19
  ·rw [if_pos h19, if_pos h19]; exact ev_now
  ·rw [if_neg h19, if_neg h19]; exact ev_now
 | succ d ih =>
  intro x A env' hA hx hl hs
  have := hp x (by omega)
  refine ev_succ ?_
  simp only [spec_l04One.l0]
  refine ev_bind (a := P2 B) (ev_of 20 fun k hk => pow2 (by omega) hB hk) ?_
  refine ev_pos (by rw [P2_nat (by omega)]; omega) (ev_pos hK0 (ev_pos (by rw [hl]; omega) ?_))
  refine ev_bind (HA_shift hA (env'.set K.toNat (x : Int)) a (by simpa using hl) hai) ?_
  rw [wrap_id (x := (x : Int) + 1) (by omega) (by omega), show (x : Int) + 1 = ((x + 1 : Nat) : Int) by omega]
  rw [hs]
  have ih := ih (x + 1) (fun k => A (k + 1)) (env.set K.toNat (x : Int)) (HA_shift hA) (by omega) (by simpa using he) (fun y => by simp)
  rw [all_succ, any_succ] at ih
  by_cases h1 : sem (T l a) (env.set K.toNat (x : Int)) = 1
  ·refine ev_pos h1 ?_
   rw [show (sem (T l a) (env.set K.toNat (x : Int)) == 1) = true from beq_iff_eq.mpr h1, Bool.and_true, Bool.or_true, if_pos (rfl : true = true)] at ih
   exact ih
  ·refine ev_neg h1 ?_
   rw [show (sem (T l a) (env.set K.toNat (x : Int)) == 1) = false from beq_eq_false_iff_ne.mpr h1, Bool.and_false, Bool.or_false, if_neg (show ¬ (false = true) by decide)] at ih
   exact ih
theorem one_l1 (l : List S31) (i : Nat) (hi : i < l.length) (hl : l.length ≤ 80) (env vals : List Int) (hv : vals.length = i) (hvals : ∀ t < i, rd vals (t : Int) = sem (T l t) env) (ps : List Int) (hps : ps.length ≤ 3) (hin : ∀ p ∈ ps, 0 ≤ p ∧ p < (i : Int)) (op W K A_ B C : Int) (hk1 : -9223372036854775808 ≤ K) (hk2 : K ≤ 9223372036854775807) (d : Nat) :
  ∀ (j : Nat) (A : Nat → List S31 → List Int → Int → Option (Int × List Int)) (v : List Int) (w : Int), j + d = ps.length → v.length = 3 → (w = if j = 0 then 1 else (rd_T31 l (rd ps 0)).f1) → (∀ t : Nat, t < 3 → rd v (t : Int) = if t < j then sem (T l (rd ps (t : Int)).toNat) env else 0) →
   Ev (fun k => spec_l04One.l1 (A k) k l env vals v w ps (j : Int) op W K A_ B C) (vApply op W K (if ps.length = 0 then 1 else (rd_T31 l (rd ps 0)).f1) (if 0 < ps.length then sem (T l (rd ps 0).toNat) env else 0) (if 1 < ps.length then sem (T l (rd ps 1).toNat) env else 0) (if 2 < ps.length then sem (T l (rd ps 2).toNat) env else 0), env) := by
 induction d with
 | zero =>
  intro j A v w hj hv3 hw h
  obtain rfl : j = ps.length := by omega
  refine ev_succ ?_
  simp only [spec_l04One.l1]
  refine ev_neg (by omega) (ev_pos (by omega) (ev_pos (by omega) (ev_pos (by omega) ?_)))
  refine ev_bind (ev_of 40 fun k hk => ApplyS op W K A_ B C w _ _ _ hk1 hk2 hk) (ev_eq ?_)
  have e0 := h 0 (by omega)
  have e1 := h 1 (by omega)
  have e2 := h 2 (by omega)
  rw [show ((0 : Nat) : Int) = 0 from rfl] at e0
  rw [show ((1 : Nat) : Int) = 1 from rfl] at e1
  rw [show ((2 : Nat) : Int) = 2 from rfl] at e2
  rw [e0, e1, e2, hw]
 | succ d ih =>
  intro j A v w hj hv3 hw h
  have hp := hin (rd ps (j : Int)) (by rw [rdI ps j (by omega)]; exact List.getElem_mem _)
  refine ev_succ ?_
  simp only [spec_l04One.l1]
  refine ev_pos (by omega) (ev_pos (by omega) (ev_pos hp.1 (ev_pos (by omega) (ev_pos (by omega) (ev_bind0 rfl ?_)))))
  rw [wrap_id (x := (j : Int) + 1) (by omega) (by omega), show (j : Int) + 1 = ((j + 1 : Nat) : Int) by omega, Int.toNat_natCast]
  have hval : rd vals (rd ps (j : Int)) = sem (T l (rd ps (j : Int)).toNat) env := by
   have := hvals (rd ps (j : Int)).toNat (by omega)
   rwa [Int.toNat_of_nonneg hp.1] at this
  have hnew : ∀ t : Nat, t < 3 → rd (v.set j (rd vals (rd ps (j : Int)))) (t : Int) = if t < j + 1 then sem (T l (rd ps (t : Int)).toNat) env else 0 := by
   intro t ht
   have this : v.getD t 0 = _ := h t ht
   show (v.set j (rd vals (rd ps (j : Int)))).getD t 0 = _
   rw [List.getD_eq_getElem?_getD, List.getElem?_set]
   by_cases hjt : j = t
   ·subst hjt
    rw [if_pos rfl, if_pos (by omega), if_pos (by omega)]
    exact hval
   ·rw [if_neg hjt, ← List.getD_eq_getElem?_getD, this]
    by_cases c : t < j
    ·rw [if_pos c, if_pos (by omega)]
    ·rw [if_neg c, if_neg (by omega)]
  by_cases j0 : j = 0
  ·subst j0
   refine ev_pos rfl (ev_pos (by omega) ?_)
   exact ih 1 (fun k => A (k + 1)) _ _ (by omega) (by simpa using hv3) rfl hnew
  ·refine ev_neg (by omega) ?_
   rw [if_neg j0] at hw
   exact ih (j + 1) (fun k => A (k + 1)) _ _ (by omega) (by simpa using hv3) (by rw [if_neg (by omega)]; exact hw) hnew
/-- What the tree made of a node is worth. -/
theorem sem_mkT (l : List S31) (op W K B : Int) (ps : List Int) (hps : ps.length ≤ 3) (h1 : op ≠ 1) (hq : ¬ (op = 19 ∨ op = 20)) (env : List Int) (hw : ∀ p ∈ ps, 0 ≤ p) :
  sem (mkT op W K B (ps.map fun p => T l p.toNat)) env = vApply op W K (if ps.length = 0 then 1 else (rd_T31 l (rd ps 0)).f1) (if 0 < ps.length then sem (T l (rd ps 0).toNat) env else 0) (if 1 < ps.length then sem (T l (rd ps 1).toNat) env else 0) (if 2 < ps.length then sem (T l (rd ps 2).toNat) env else 0) := by
 have wd : ∀ p : Int, 0 ≤ p → (T l p.toNat).wid = (rd_T31 l p).f1 := by
  intro p hp
  rw [T_wid, Int.toNat_of_nonneg hp]
 match ps, hps with
 | [], _ => simp [mkT, sem, h1]
 | [a], _ => simp [mkT, sem, hq, rd, wd a (hw a (by simp))]
 | [a, b], _ => simp [mkT, sem, rd, wd a (hw a (by simp))]
 | [a, b, c], _ => simp [mkT, sem, rd, wd a (hw a (by simp))]
 | a :: b :: c :: d :: r, h => simp at h
theorem one_ev {l : List S31} (hN : NodesOk l) (hl : l.length ≤ 80) (i : Nat) (hi : i < l.length) (A : Nat → List S31 → List Int → Int → Option (Int × List Int)) (hA : HA l i A) (env vals : List Int) (he : env.length = 8) (hv : vals.length = i) (hvals : ∀ t < i, rd vals (t : Int) = sem (T l t) env) :
  Ev (fun k => spec_l04One.f (A k) k l env vals (i : Int)) (sem (T l i) env, env) := by
 have hP := parts_in hN
 have hf := node_facts hN i hi
 unfold spec_l04One.f
 rw [T_eq hP i hi]
 refine ev_pos (by omega) (ev_pos (by omega) ?_)
 by_cases o1 : (rd_T31 l (i : Int)).f0 = 1
 ·have := node_var hN i hi o1
  refine ev_pos o1 (ev_pos (by omega) (ev_pos (by omega) (ev_eq ?_)))
  have hpl : pl l i = [] := by unfold pl; rw [o1]; rfl
  rw [hpl, o1]
  rfl
 ·refine ev_neg o1 (ev_bind0 (isqS _) ?_)
  by_cases oq : (rd_T31 l (i : Int)).f0 = 19 ∨ (rd_T31 l (i : Int)).f0 = 20
  ·obtain ⟨k7, ⟨b1, b8⟩, ⟨a0, a1⟩, _, _⟩ := node_quant hN i hi oq
   have hpl : pl l i = [(rd_T31 l (i : Int)).f3] := by unfold pl; exact parts_q oq
   refine ev_pos (by simpa using oq) (ev_pos (by omega) (ev_pos (by omega) ?_))
   rw [hpl]
   show Ev _ (sem (mkT _ _ _ _ [_]) env, env)
   simp only [mkT, sem]
   rw [if_pos oq]
   have := one_l0 l (rd_T31 l (i : Int)).f3.toNat i (by omega) env he (rd_T31 l (i : Int)).f0 (rd_T31 l (i : Int)).f1 (rd_T31 l (i : Int)).f2 (rd_T31 l (i : Int)).f4 (rd_T31 l (i : Int)).f5 (by omega) k7 b1 b8 (2 ^ (rd_T31 l (i : Int)).f4.toNat) 0 A env hA (by omega) he (fun _ => rfl)
   rw [Int.toNat_of_nonneg a0] at this
   exact this
  ·refine ev_neg (by simpa using oq) (ev_bind (a := pl l i) (ev_of 1 fun k hk => partsS _ _ _ _ _ _ hk) ?_)
   have hlen : (pl l i).length ≤ 3 := partsL_len _ _ _ _
   have hin := hP i hi
   rw [sem_mkT l _ _ _ _ (pl l i) hlen o1 oq env (fun p hp => (hin p hp).1)]
   exact one_l1 l i hi hl env vals hv hvals (pl l i) hlen hin _ _ _ _ _ _ (by omega) (by omega) (pl l i).length 0 A [0, 0, 0] 1 (by omega) rfl rfl (by
    intro t ht
    rw [if_neg (by omega)]
    have : t = 0 ∨ t = 1 ∨ t = 2 := by omega
    rcases this with rfl | rfl | rfl <;> rfl)
theorem at_l0 {l : List S31} (hN : NodesOk l) (hl : l.length ≤ 80) (i : Nat) (hi : i < l.length) (env : List Int) (he : env.length = 8) (d : Nat) : ∀ (j : Nat) (A : Nat → List S31 → List Int → Int → Option (Int × List Int)) (vals : List Int), HA l i A → j + d = i + 1 → vals.length = j → (∀ t < j, rd vals (t : Int) = sem (T l t) env) →
  Ev (fun k => spec_l04AtR.l0 (A k) k l env (i : Int) vals (j : Int)) (sem (T l i) env, env) := by
 induction d with
 | zero =>
  intro j A vals hA hj hv hvals
  refine ev_succ ?_
  simp only [spec_l04AtR.l0]
  refine ev_neg (by omega) (ev_pos (by omega) (ev_pos (by omega) (ev_eq ?_)))
  rw [hvals i (by omega)]
 | succ d ih =>
  intro j A vals hA hj hv hvals
  refine ev_succ ?_
  simp only [spec_l04AtR.l0]
  refine ev_pos (by omega) (ev_bind (a := (sem (T l j) env, env)) ?_ (ev_pos (by omega) ?_))
  ·have hA2 : HA l j (fun k => A (k + 1)) := fun e t h1 h2 => HA_shift hA e t h1 (by omega)
   exact one_ev hN hl j (by omega) (fun k => A (k + 1)) hA2 env vals he hv hvals
  ·rw [wrap_id (x := (j : Int) + 1) (by omega) (by omega), show (j : Int) + 1 = ((j + 1 : Nat) : Int) by omega]
   refine ih (j + 1) (fun k => A (k + 1)) _ (HA_shift hA) (by omega) (by simp [hv]) ?_
   intro t ht
   by_cases c : t < j
   ·have := hvals t c
    unfold rd at this ⊢
    rw [Int.toNat_natCast] at this ⊢
    rw [List.getD_eq_getElem?_getD, List.getElem?_append_left (by omega), ← List.getD_eq_getElem?_getD]
    exact this
   ·obtain rfl : t = j := by omega
    unfold rd
    rw [Int.toNat_natCast, List.getD_eq_getElem?_getD, List.getElem?_append_right (by omega), hv, Nat.sub_self]
    rfl
theorem at_ev {l : List S31} (hN : NodesOk l) (hl : l.length ≤ 80) (i : Nat) : ∀ (env : List Int), i < l.length → env.length = 8 → Ev (fun k => spec_l04At.f k l env (i : Int)) (sem (T l i) env, env) := by
 induction i using Nat.strongRecOn with
 | ind i ih =>
  intro env hi he
  refine ev_succ ?_
  simp only [spec_l04At.f, spec_l04AtR.f]
  have hA : HA l i (fun k => spec_l04At.f k) := fun e j h1 h2 => ih j h2 e (by omega) h1
  have := at_l0 hN hl i hi env he (i + 1) 0 (fun k => match k with | 0 => fun _ _ _ => none | k + 1 => spec_l04At.f k) [] (fun e j h1 h2 => ev_succ (hA e j h1 h2)) (by omega) rfl (fun t h => absurd h (by omega))
  exact ev_shift this
/-! ### Words -/
theorem bits_nat (a b w : Nat) (hw : w ≤ 9) (ha : a < 2 ^ w) (hb : b < 2 ^ w) : ((Go.bits .and .i64 (a : Int) (b : Int)) = ((a &&& b : Nat) : Int)) ∧ ((Go.bits .or .i64 (a : Int) (b : Int)) = ((a ||| b : Nat) : Int)) ∧ ((Go.bits .xor .i64 (a : Int) (b : Int)) = ((a ^^^ b : Nat) : Int)) := by
 have hle : 2 ^ w ≤ 2 ^ 9 := Nat.pow_le_pow_right (by omega) hw
 have ha' : (BitVec.ofInt 64 (a : Int)).toNat = a := by
  have := ofInt_toNat (x := (a : Int)) (by omega) (by omega)
  omega
 have hb' : (BitVec.ofInt 64 (b : Int)).toNat = b := by
  have := ofInt_toNat (x := (b : Int)) (by omega) (by omega)
  omega
 have h1 := Nat.and_lt_two_pow a hb
 have h2 := Nat.or_lt_two_pow ha hb
 have h3 := Nat.xor_lt_two_pow ha hb
 refine ⟨?_, ?_, ?_⟩
 ·show IntKind.i64.wrap ((BitVec.ofInt 64 _ &&& BitVec.ofInt 64 _).toNat : Int) = _
  rw [BitVec.toNat_and, ha', hb', IntKind.wrap_i64]
  omega
 ·show IntKind.i64.wrap ((BitVec.ofInt 64 _ ||| BitVec.ofInt 64 _).toNat : Int) = _
  rw [BitVec.toNat_or, ha', hb', IntKind.wrap_i64]
  omega
 ·show IntKind.i64.wrap ((BitVec.ofInt 64 _ ^^^ BitVec.ofInt 64 _).toNat : Int) = _
  rw [BitVec.toNat_xor, ha', hb', IntKind.wrap_i64]
  omega
theorem bits_wok {w a b : Int} (ha : wok w a = true) (hb : wok w b = true) : wok w (Go.bits .and .i64 a b) = true ∧ wok w (Go.bits .or .i64 a b) = true ∧ wok w (Go.bits .xor .i64 a b) = true := by
 obtain ⟨w1, w8, a0, a1⟩ := wok_iff.mp ha
 obtain ⟨_, _, b0, b1⟩ := wok_iff.mp hb
 rw [P2_nat (by omega)] at a1 b1
 obtain ⟨a, rfl⟩ := Int.eq_ofNat_of_zero_le a0
 obtain ⟨b, rfl⟩ := Int.eq_ofNat_of_zero_le b0
 obtain ⟨e1, e2, e3⟩ := bits_nat a b w.toNat (by omega) (by omega) (by omega)
 have h1 := Nat.and_lt_two_pow (n := w.toNat) a (show b < 2 ^ w.toNat by omega)
 have h2 := Nat.or_lt_two_pow (show a < 2 ^ w.toNat by omega) (show b < 2 ^ w.toNat by omega)
 have h3 := Nat.xor_lt_two_pow (show a < 2 ^ w.toNat by omega) (show b < 2 ^ w.toNat by omega)
 rw [e1, e2, e3]
 simp only [wok_iff]
 rw [P2_nat (by omega)]
 omega
theorem wok_byte {w a : Int} (h : wok w a = true) : 0 ≤ a ∧ a ≤ 255 := by
 obtain ⟨w1, w8, a0, a1⟩ := wok_iff.mp h
 have := P2_pos (w := w) (by omega) w8
 omega
theorem wok_mod {w x : Int} (h1 : 1 ≤ w) (h8 : w ≤ 8) : wok w (x % P2 w) = true := by
 have := P2_pos (w := w) (by omega) h8
 have h2 := Int.emod_nonneg x (show P2 w ≠ 0 by omega)
 have h3 := Int.emod_lt_of_pos x (show 0 < P2 w by omega)
 exact wok_iff.mpr ⟨h1, h8, h2, by omega⟩
theorem wok_zero {w : Int} (h1 : 1 ≤ w) (h8 : w ≤ 8) : wok w 0 = true := by
 have := P2_pos (w := w) (by omega) h8
 exact wok_iff.mpr ⟨h1, h8, by omega, by omega⟩
theorem wok_bit {x : Int} (h : x = 0 ∨ x = 1) : wok 1 x = true := by
 rcases h with rfl | rfl <;> decide
theorem bit_wok {x : Int} (h : wok 1 x = true) : x = 0 ∨ x = 1 := by
 obtain ⟨_, _, h0, h1⟩ := wok_iff.mp h
 rw [show P2 1 = 2 from rfl] at h1
 omega
set_option maxHeartbeats 1000000 in
theorem vBin_wok {op w a b : Int} (ha : wok w a = true) (hb : wok w b = true) : wok w (vBin op w a b) = true := by
 have hbw := bits_wok ha hb
 obtain ⟨w1, w8, a0, a1⟩ := wok_iff.mp ha
 obtain ⟨_, _, b0, b1⟩ := wok_iff.mp hb
 have hab : (wok w a && wok w b) = true := by rw [ha, hb]; rfl
 unfold vBin
 rw [if_pos hab, if_pos hab, if_pos hab, if_pos hab, if_pos hab, if_pos hab, if_pos hab]
 have hz := wok_zero w1 w8
 have hdiv : ∀ c : Int, 0 < c → wok w (a / c) = true := by
  intro c hc
  have h1 : 0 ≤ a / c := Int.ediv_nonneg a0 (by omega)
  have h2 : a / c ≤ a := Int.ediv_le_self c a0
  exact wok_iff.mpr ⟨w1, w8, h1, by omega⟩
 by_cases o3 : op = 3
 ·rw [if_pos o3]; exact hbw.1
 rw [if_neg o3]
 by_cases o4 : op = 4
 ·rw [if_pos o4]; exact hbw.2.1
 rw [if_neg o4]
 by_cases o5 : op = 5
 ·rw [if_pos o5]; exact hbw.2.2
 rw [if_neg o5]
 by_cases o6 : op = 6
 ·rw [if_pos o6]; exact wok_mod w1 w8
 rw [if_neg o6]
 by_cases o7 : op = 7
 ·rw [if_pos o7]; exact wok_mod w1 w8
 rw [if_neg o7]
 by_cases o8 : op = 8
 ·rw [if_pos o8]; exact wok_mod w1 w8
 rw [if_neg o8]
 by_cases o9 : op = 9
 ·rw [if_pos o9]
  by_cases hb0 : b = 0
  ·rw [if_pos hb0]
   have := P2_pos (w := w) (by omega) w8
   exact wok_iff.mpr ⟨w1, w8, by omega, by omega⟩
  ·rw [if_neg hb0]; exact hdiv b (by omega)
 rw [if_neg o9]
 by_cases o10 : op = 10
 ·rw [if_pos o10]
  by_cases hb0 : b = 0
  ·rw [if_pos hb0]; exact ha
  ·rw [if_neg hb0]
   have h1 := Int.emod_nonneg a (show b ≠ 0 by omega)
   have h2 := Int.emod_lt_of_pos a (show 0 < b by omega)
   exact wok_iff.mpr ⟨w1, w8, h1, by omega⟩
 rw [if_neg o10]
 by_cases o11 : op = 11
 ·rw [if_pos o11]
  by_cases hbw : b ≥ w
  ·rw [if_pos hbw]; exact hz
  ·rw [if_neg hbw]; exact wok_mod w1 w8
 rw [if_neg o11]
 by_cases hbw : b ≥ w
 ·rw [if_pos hbw]; exact hz
 ·rw [if_neg hbw]
  have := P2_pos (w := b) b0 (by omega)
  exact hdiv _ (by omega)
theorem bit_ite {c : Prop} [Decidable c] : (if c then (1 : Int) else 0) = 0 ∨ (if c then (1 : Int) else 0) = 1 := by
 by_cases h : c
 ·rw [if_pos h]; exact .inr rfl
 ·rw [if_neg h]; exact .inl rfl
/-- Where no word of another width is met. -/
def Good : Tm → List Int → Prop
 | .leaf op W K, env => op = 1 → wok W (rd env K) = true
 | .un op W K B a, env => (¬ (op = 19 ∨ op = 20) → Good a env) ∧ ((op = 19 ∨ op = 20) → ∀ x : Nat, x < 2 ^ B.toNat → Good a (env.set K.toNat (x : Int)))
 | .bin op W K a b, env => Good a env ∧ Good b env
 | .ter op W K a b c, env => Good a env ∧ Good b env ∧ Good c env
theorem good_mk {op W K B : Int} {env : List Int} (hq : ¬ (op = 19 ∨ op = 20)) : ∀ (ts : List Tm), ts.length ≤ 3 → Good (mkT op W K B ts) env → ∀ t ∈ ts, Good t env
 | [], _, _, t, h => by simp at h
 | [a], _, h, t, ht => by obtain rfl := List.mem_singleton.mp ht; exact h.1 hq
 | [a, b], _, h, t, ht => by
  rcases List.mem_cons.mp ht with rfl | ht
  ·exact h.1
  ·obtain rfl := List.mem_singleton.mp ht; exact h.2
 | [a, b, c], _, h, t, ht => by
  rcases List.mem_cons.mp ht with rfl | ht
  ·exact h.1
  rcases List.mem_cons.mp ht with rfl | ht
  ·exact h.2.1
  ·obtain rfl := List.mem_singleton.mp ht; exact h.2.2
 | _ :: _ :: _ :: _ :: _, h, _, _, _ => by simp at h
theorem good_part {l : List S31} (hP : PartsIn l) (i : Nat) (hi : i < l.length) (hq : ¬ ((rd_T31 l (i : Int)).f0 = 19 ∨ (rd_T31 l (i : Int)).f0 = 20)) {env : List Int} (h : Good (T l i) env) (p : Int) (hp : p ∈ pl l i) : Good (T l p.toNat) env := by
 rw [T_eq hP i hi] at h
 exact good_mk hq _ (by rw [List.length_map]; exact partsL_len _ _ _ _) h _ (List.mem_map.mpr ⟨p, hp, rfl⟩)
theorem good_quant {l : List S31} (hP : PartsIn l) (i : Nat) (hi : i < l.length) (hq : (rd_T31 l (i : Int)).f0 = 19 ∨ (rd_T31 l (i : Int)).f0 = 20) {env : List Int} (h : Good (T l i) env) (x : Nat) (hx : x < 2 ^ (rd_T31 l (i : Int)).f4.toNat) : Good (T l (rd_T31 l (i : Int)).f3.toNat) (env.set (rd_T31 l (i : Int)).f2.toNat (x : Int)) := by
 rw [T_eq hP i hi, show pl l i = [(rd_T31 l (i : Int)).f3] from parts_q hq] at h
 exact h.2 hq x hx
theorem good_var {l : List S31} (hP : PartsIn l) (i : Nat) (hi : i < l.length) (o1 : (rd_T31 l (i : Int)).f0 = 1) {env : List Int} (h : Good (T l i) env) : wok (rd_T31 l (i : Int)).f1 (rd env (rd_T31 l (i : Int)).f2) = true := by
 rw [T_eq hP i hi, show pl l i = [] from by unfold pl; rw [o1]; rfl] at h
 exact h o1
theorem qv_bit (op : Int) (n : Nat) (f : Nat → Int) : qv op n f = 0 ∨ qv op n f = 1 := by
 unfold qv; split <;> exact bit_ite
set_option maxHeartbeats 2000000 in
/-- In a good place every node is worth a word of its width. -/
theorem sem_wok {l : List S31} (hN : NodesOk l) (i : Nat) : ∀ env : List Int, i < l.length → Good (T l i) env → wok (rd_T31 l (i : Int)).f1 (sem (T l i) env) = true := by
 have hP := parts_in hN
 induction i using Nat.strongRecOn with
 | ind i ih =>
  intro env hi hg
  have hf := node_facts hN i hi
  have hb := hN i hi
  have hin := hP i hi
  by_cases o1 : (rd_T31 l (i : Int)).f0 = 1
  ·have := good_var hP i hi o1 hg
   rw [T_eq hP i hi, show pl l i = [] from by unfold pl; rw [o1]; rfl, o1]
   exact this
  by_cases oq : (rd_T31 l (i : Int)).f0 = 19 ∨ (rd_T31 l (i : Int)).f0 = 20
  ·have hq := node_quant hN i hi oq
   rw [T_eq hP i hi, show pl l i = [(rd_T31 l (i : Int)).f3] from parts_q oq, hq.2.2.2.2]
   show wok 1 (sem (mkT _ _ _ _ [_]) env) = true
   simp only [mkT, sem]
   rw [if_pos oq]
   exact wok_bit (qv_bit _ _ _)
  have part : ∀ p ∈ pl l i, wok (rd_T31 l p).f1 (sem (T l p.toNat) env) = true := by
   intro p hp
   have := hin p hp
   have h := ih p.toNat (by omega) env (by omega) (good_part hP i hi oq hg p hp)
   rwa [Int.toNat_of_nonneg this.1] at h
  have wvp : ∀ t : Nat, t < (pl l i).length → wv (l.take i) (pl l i) (pl l i).length t = (rd_T31 l (rd (pl l i) (t : Int))).f1 := by
   intro t ht
   unfold wv
   have := hin (rd (pl l i) (t : Int)) (by rw [rdI (pl l i) t ht]; exact List.getElem_mem _)
   rw [if_pos ht, rd_take l i _ this.1 this.2]
  unfold nodeB rightB at hb
  simp only [Bool.and_eq_true] at hb
  have h5 := hb.2
  rw [T_eq hP i hi, sem_mkT l _ _ _ _ (pl l i) (partsL_len _ _ _ _) o1 oq env (fun p hp => (hin p hp).1)]
  have hpl : partsL (rd_T31 l (i : Int)).f0 (rd_T31 l (i : Int)).f3 (rd_T31 l (i : Int)).f4 (rd_T31 l (i : Int)).f5 = pl l i := rfl
  rw [hpl] at h5
  have hz : (0 : Int) ≤ 0 ∧ (0 : Int) ≤ 255 := by omega
  generalize hop : (rd_T31 l (i : Int)).f0 = op at *
  generalize hW : (rd_T31 l (i : Int)).f1 = W at *
  generalize hKq : (rd_T31 l (i : Int)).f2 = K at *
  obtain ⟨hWr, hopr, _⟩ := hf
  unfold rightSw at h5
  by_cases o0 : op = 0
  ·subst o0
   rw [if_pos rfl] at h5
   have e : pl l i = [] := by unfold pl; rw [hop]; rfl
   rw [e]
   show wok W (vApply 0 W K 1 0 0 0) = true
   unfold vApply
   rw [if_pos ⟨hWr, by omega, hz, hz, hz⟩]
   exact h5
  rw [if_neg o0, if_neg o1] at h5
  have un : (op = 2 ∨ op = 17) → ∃ a, pl l i = [a] := fun h => ⟨_, by unfold pl partsL; rw [hop, if_pos (by omega)]⟩
  have bi : (3 ≤ op ∧ op ≤ 16) → ∃ a b, pl l i = [a, b] := fun h => ⟨_, _, by unfold pl partsL; rw [hop, if_neg (by omega), if_pos h]⟩
  have te : op = 18 → ∃ a b c, pl l i = [a, b, c] := fun h => ⟨_, _, _, by unfold pl partsL; rw [hop, if_neg (by omega), if_neg (by omega), if_pos h]⟩
  have wr : ∀ p ∈ pl l i, 1 ≤ (rd_T31 l p).f1 ∧ (rd_T31 l p).f1 ≤ 8 := fun p hp => by have := wok_iff.mp (part p hp); omega
  by_cases o2 : op = 2
  ·obtain ⟨a, e⟩ := un (.inl o2)
   subst o2
   rw [if_pos rfl, wvp 0 (by rw [e]; simp)] at h5
   rw [e] at h5 part wr ⊢
   have h5 : (rd_T31 l a).f1 = W := beq_iff_eq.mp h5
   have pa := part a (by simp)
   show wok W (vApply 2 W K (rd_T31 l a).f1 (sem (T l a.toNat) env) 0 0) = true
   rw [h5] at pa ⊢
   unfold vApply
   rw [if_pos ⟨hWr, hWr, wok_byte pa, hz, hz⟩]
   show wok W (vFlip W _) = true
   unfold vFlip
   rw [if_pos pa]
   have := wok_iff.mp pa
   exact wok_iff.mpr ⟨hWr.1, hWr.2, by omega, by omega⟩
  rw [if_neg o2] at h5
  by_cases ob : 3 ≤ op ∧ op ≤ 12
  ·obtain ⟨a, b, e⟩ := bi (by omega)
   rw [if_pos ob, wvp 0 (by rw [e]; simp), wvp 1 (by rw [e]; simp)] at h5
   rw [e] at h5 part wr ⊢
   rw [Bool.and_eq_true] at h5
   have h51 : (rd_T31 l a).f1 = W := beq_iff_eq.mp h5.1
   have h52 : (rd_T31 l b).f1 = W := beq_iff_eq.mp h5.2
   have pa := part a (by simp)
   have pb := part b (by simp)
   show wok W (vApply op W K (rd_T31 l a).f1 (sem (T l a.toNat) env) (sem (T l b.toNat) env) 0) = true
   rw [h51] at pa ⊢
   rw [h52] at pb
   unfold vApply
   rw [if_pos ⟨hWr, hWr, wok_byte pa, wok_byte pb, hz⟩]
   unfold vApp
   rw [if_neg o0, if_neg o2, if_pos ob]
   exact vBin_wok pa pb
  rw [if_neg ob] at h5
  by_cases oc : 13 ≤ op ∧ op ≤ 15
  ·obtain ⟨a, b, e⟩ := bi (by omega)
   rw [if_pos oc, Bool.and_eq_true] at h5
   have hW1 : W = 1 := beq_iff_eq.mp h5.2
   rw [e]
   show wok W (vApply op W K (rd_T31 l a).f1 (sem (T l a.toNat) env) (sem (T l b.toNat) env) 0) = true
   rw [hW1]
   refine wok_bit ?_
   unfold vApply
   split
   ·unfold vApp
    rw [if_neg o0, if_neg o2, if_neg ob]
    by_cases o13 : op = 13
    ·rw [if_pos o13]; exact bit_ite
    rw [if_neg o13]
    by_cases o14 : op = 14
    ·rw [if_pos o14]; exact bit_ite
    ·rw [if_neg o14, if_pos (by omega)]; exact bit_ite
   ·exact .inl rfl
  rw [if_neg oc] at h5
  by_cases o16 : op = 16
  ·obtain ⟨a, b, e⟩ := bi (by omega)
   rw [if_pos o16, wvp 0 (by rw [e]; simp), wvp 1 (by rw [e]; simp)] at h5
   rw [e] at h5 part wr ⊢
   have h5 : wrap64 ((rd_T31 l a).f1 + (rd_T31 l b).f1) = W := beq_iff_eq.mp h5
   have pa := part a (by simp)
   have pb := part b (by simp)
   have ra := wr a (by simp)
   have rb := wr b (by simp)
   rw [wrap_id (by omega) (by omega)] at h5
   show wok W (vApply op W K (rd_T31 l a).f1 (sem (T l a.toNat) env) (sem (T l b.toNat) env) 0) = true
   unfold vApply
   rw [if_pos ⟨hWr, ra, wok_byte pa, wok_byte pb, hz⟩]
   unfold vApp
   rw [if_neg o0, if_neg o2, if_neg ob, if_neg (by omega), if_neg (by omega), if_neg (by omega), if_pos o16, if_neg (by omega)]
   rw [show W - (rd_T31 l a).f1 = (rd_T31 l b).f1 by omega]
   obtain ⟨_, _, a0, a1⟩ := wok_iff.mp pa
   obtain ⟨_, _, b0, b1⟩ := wok_iff.mp pb
   have hadd : P2 W = P2 (rd_T31 l a).f1 * P2 (rd_T31 l b).f1 := by rw [← P2_add (by omega) (by omega), h5]
   have hpb := P2_pos (w := (rd_T31 l b).f1) (by omega) rb.2
   have hmul : sem (T l a.toNat) env * P2 (rd_T31 l b).f1 ≤ (P2 (rd_T31 l a).f1 - 1) * P2 (rd_T31 l b).f1 := Int.mul_le_mul_of_nonneg_right a1 (by omega)
   have hnn : 0 ≤ sem (T l a.toNat) env * P2 (rd_T31 l b).f1 := Int.mul_nonneg a0 (by omega)
   rw [Int.sub_mul, ← hadd] at hmul
   exact wok_iff.mpr ⟨hWr.1, hWr.2, by omega, by omega⟩
  rw [if_neg o16] at h5
  by_cases o17 : op = 17
  ·obtain ⟨a, e⟩ := un (.inr o17)
   rw [if_pos o17, wvp 0 (by rw [e]; simp)] at h5
   rw [e] at h5 part wr ⊢
   have h5 : inB K 0 (wrap64 ((rd_T31 l a).f1 - W)) = true := h5
   have pa := part a (by simp)
   have ra := wr a (by simp)
   rw [wrap_id (by omega) (by omega)] at h5
   have h5 := inB_iff.mp h5
   show wok W (vApply op W K (rd_T31 l a).f1 (sem (T l a.toNat) env) 0 0) = true
   unfold vApply
   rw [if_pos ⟨hWr, ra, wok_byte pa, hz, hz⟩]
   unfold vApp
   rw [if_neg o0, if_neg o2, if_neg ob, if_neg (by omega), if_neg (by omega), if_neg (by omega), if_neg o16, if_pos o17]
   unfold vSlice
   split
   ·exact wok_mod hWr.1 hWr.2
   ·exact wok_zero hWr.1 hWr.2
  rw [if_neg o17] at h5
  by_cases o18 : op = 18
  ·obtain ⟨a, b, c, e⟩ := te o18
   rw [if_pos o18, wvp 0 (by rw [e]; simp), wvp 1 (by rw [e]; simp), wvp 2 (by rw [e]; simp)] at h5
   rw [e] at h5 part wr ⊢
   simp only [Bool.and_eq_true] at h5
   have h52 : (rd_T31 l b).f1 = W := beq_iff_eq.mp h5.1.2
   have h53 : (rd_T31 l c).f1 = W := beq_iff_eq.mp h5.2
   have pa := part a (by simp)
   have pb := part b (by simp)
   have pc := part c (by simp)
   have ra := wr a (by simp)
   rw [h52] at pb
   rw [h53] at pc
   show wok W (vApply op W K (rd_T31 l a).f1 (sem (T l a.toNat) env) (sem (T l b.toNat) env) (sem (T l c.toNat) env)) = true
   unfold vApply
   rw [if_pos ⟨hWr, ra, wok_byte pa, wok_byte pb, wok_byte pc⟩]
   unfold vApp
   rw [if_neg o0, if_neg o2, if_neg ob, if_neg (by omega), if_neg (by omega), if_neg (by omega), if_neg o16, if_neg o17, if_pos o18]
   split
   ·exact pb
   ·exact pc
  ·omega
/-! ### The program's reckoning comes to sem where no word of another width is met -/
/-- What is known of the nodes is so. -/
def Known (l : List S31) (kn env : List Int) : Prop := ∀ j : Nat, j < l.length → 0 ≤ rd kn (j : Int) → rd kn (j : Int) = sem (T l j) env
theorem known_blank (l : List S31) (n : Nat) (env : List Int) (hn : n = l.length) : Known l (List.replicate n (-1)) env := by
 intro j hj h
 subst hn
 unfold rd at h
 rw [List.getD_eq_getElem?_getD, List.getElem?_replicate, if_pos (by simpa using hj)] at h
 exact absurd h (by decide)
theorem known_set {l : List S31} {kn env : List Int} (h : Known l kn env) (i : Nat) (hk : kn.length = l.length) : Known l (kn.set i (sem (T l i) env)) env := by
 intro j hj h0
 have e : rd (kn.set i (sem (T l i) env)) (j : Int) = if i = j then sem (T l i) env else rd kn (j : Int) := by
  show (kn.set i (sem (T l i) env)).getD j 0 = _
  rw [List.getD_eq_getElem?_getD, List.getElem?_set]
  by_cases c : i = j
  ·rw [if_pos c, if_pos c, if_pos (by omega)]; rfl
  ·rw [if_neg c, if_neg c, ← List.getD_eq_getElem?_getD]; rfl
 rw [e] at h0 ⊢
 by_cases c : i = j
 ·rw [if_pos c]; rw [c]
 ·rw [if_neg c] at h0 ⊢; exact h j hj h0
/-- What the recursion gives below node i. -/
def HV (l : List S31) (i : Nat) (V : Nat → List Int → Int → List Int → Option (Int × List Int)) : Prop :=
 ∀ (env kn : List Int) (j : Nat), env.length = 8 → kn.length = l.length → j < i → Good (T l j) env → Known l kn env → ∃ kn', Ev (fun k => V k env (j : Int) kn) (sem (T l j) env, kn') ∧ kn'.length = l.length ∧ Known l kn' env
theorem vpl_ev {l : List S31} {i : Nat} {V : Nat → List Int → Int → List Int → Option (Int × List Int)} (hV : HV l i V) (env : List Int) (he : env.length = 8) : ∀ (ps kn : List Int), (∀ p ∈ ps, 0 ≤ p ∧ p < (i : Int)) → (∀ p ∈ ps, Good (T l p.toNat) env) → kn.length = l.length → Known l kn env →
  ∃ kn', Ev (fun k => vpl (V k) env ps kn) (ps.map (fun p => sem (T l p.toNat) env), kn') ∧ kn'.length = l.length ∧ Known l kn' env
 | [], kn, _, _, hk, hkn => ⟨kn, by unfold vpl; exact ev_now, hk, hkn⟩
 | p :: ps, kn, hin, hg, hk, hkn => by
  have hp := hin p (by simp)
  obtain ⟨kn1, e1, l1, k1⟩ := hV env kn p.toNat he hk (by omega) (hg p (by simp)) hkn
  rw [Int.toNat_of_nonneg hp.1] at e1
  obtain ⟨kn2, e2, l2, k2⟩ := vpl_ev hV env he ps kn1 (fun q hq => hin q (List.mem_cons_of_mem _ hq)) (fun q hq => hg q (List.mem_cons_of_mem _ hq)) l1 k1
  refine ⟨kn2, ?_, l2, k2⟩
  unfold vpl
  exact ev_bind e1 (ev_bind e2 ev_now)
theorem qloop_ev {l : List S31} {i : Nat} {V : Nat → List Int → Int → List Int → Option (Int × List Int)} (hV : HV l i V) (env : List Int) (he : env.length = 8) (a : Nat) (ha : a < i) (K : Nat) (N : Nat) (hg : ∀ x : Nat, x < N → Good (T l a) (env.set K (x : Int))) (out : Int) (d : Nat) : ∀ x : Nat, x + d = N →
  Ev (fun k => qloop (V k) l.length env K (a : Int) out d (x : Int)) (if (List.range' x d).all (fun y => sem (T l a) (env.set K (y : Int)) == out) = true then out else 1 - out) := by
 induction d with
 | zero => intro x _; unfold qloop; exact ev_now
 | succ d ih =>
  intro x hx
  obtain ⟨kn1, e1, _, _⟩ := hV (env.set K (x : Int)) (List.replicate l.length (-1)) a (by simpa using he) (by simp) ha (hg x (by omega)) (known_blank l _ _ rfl)
  have ih := ih (x + 1) (by omega)
  rw [show ((x + 1 : Nat) : Int) = (x : Int) + 1 by omega] at ih
  unfold qloop
  refine ev_bind e1 ?_
  rw [List.range'_succ, List.all_cons]
  by_cases h : sem (T l a) (env.set K (x : Int)) = out
  ·refine ev_pos h ?_
   rw [show (sem (T l a) (env.set K (x : Int)) == out) = true from beq_iff_eq.mpr h, Bool.true_and]
   exact ih
  ·refine ev_neg h ?_
   rw [show (sem (T l a) (env.set K (x : Int)) == out) = false from beq_eq_false_iff_ne.mpr h, Bool.false_and, if_neg (by decide)]
   exact ev_now
theorem qv_out (op : Int) (n : Nat) (f : Nat → Int) (hf : ∀ x < n, f x = 0 ∨ f x = 1) :
  (if (List.range' 0 n).all (fun y => f y == (if op = 19 then 1 else 0)) = true then (if op = 19 then (1 : Int) else 0) else 1 - (if op = 19 then (1 : Int) else 0)) = qv op n f := by
 rw [← List.range_eq_range']
 unfold qv
 by_cases h : op = 19
 ·simp only [if_pos h]
  split <;> simp
 ·simp only [if_neg h]
  by_cases c : (List.range n).all (fun y => f y == 0) = true
  ·rw [if_pos c, if_neg]
   rw [List.any_eq_true]
   rintro ⟨x, hx, h1⟩
   have h0 := List.all_eq_true.mp c x hx
   have h0 : f x = 0 := beq_iff_eq.mp h0
   have h1 : f x = 1 := beq_iff_eq.mp h1
   omega
  ·rw [if_neg c, if_pos]
   ·rfl
   ·rw [List.any_eq_true]
    rw [List.all_eq_true] at c
    have : ∃ x, x ∈ List.range n ∧ ¬ (f x == 0) = true := by
     refine Classical.byContradiction fun hn => c (fun x hx => Classical.byContradiction fun h2 => hn ⟨x, hx, h2⟩)
    obtain ⟨x, hx, h2⟩ := this
    refine ⟨x, hx, ?_⟩
    have := hf x (List.mem_range.mp hx)
    simp at h2 ⊢
    omega
theorem value_step {l : List S31} (hN : NodesOk l) (hl : l.length ≤ 80) (i : Nat) (hi : i < l.length) (V : Nat → List Int → Int → List Int → Option (Int × List Int)) (hV : HV l i V) (env kn : List Int) (he : env.length = 8) (hk : kn.length = l.length) (hg : Good (T l i) env) (hkn : Known l kn env) :
  ∃ kn', Ev (fun k => impl_valueR (k + 1) (V k) l env (i : Int) kn) (sem (T l i) env, kn') ∧ kn'.length = l.length ∧ Known l kn' env := by
 have hP := parts_in hN
 have hin := hP i hi
 have hf := node_facts hN i hi
 unfold impl_valueR
 by_cases h0 : 0 ≤ rd kn (i : Int)
 ·refine ⟨kn, ev_pos ⟨by omega, by omega⟩ (ev_pos h0 (ev_eq ?_)), hk, hkn⟩
  rw [hkn i hi h0]
 have hset := known_set hkn i hk
 by_cases o1 : (rd_T31 l (i : Int)).f0 = 1
 ·have hv := node_var hN i hi o1
  have es : sem (T l i) env = rd env (rd_T31 l (i : Int)).f2 := by
   rw [T_eq hP i hi, show pl l i = [] from by unfold pl; rw [o1]; rfl, o1]; rfl
  refine ⟨_, ev_pos ⟨by omega, by omega⟩ (ev_neg h0 (ev_pos o1 (ev_pos ⟨by omega, by omega⟩ (ev_eq ?_)))), by simpa using hk, hset⟩
  rw [es]; rfl
 by_cases oq : (rd_T31 l (i : Int)).f0 = 19 ∨ (rd_T31 l (i : Int)).f0 = 20
 ·obtain ⟨k7, ⟨b1, b8⟩, ⟨a0, a1⟩, hw1, _⟩ := node_quant hN i hi oq
  have hgq := good_quant hP i hi oq hg
  have ql := qloop_ev hV env he (rd_T31 l (i : Int)).f3.toNat (by omega) (rd_T31 l (i : Int)).f2.toNat (2 ^ (rd_T31 l (i : Int)).f4.toNat) hgq (if (rd_T31 l (i : Int)).f0 = 19 then 1 else 0) (2 ^ (rd_T31 l (i : Int)).f4.toNat) 0 (by omega)
  rw [qv_out _ _ (fun y => sem (T l (rd_T31 l (i : Int)).f3.toNat) (env.set (rd_T31 l (i : Int)).f2.toNat (y : Int)))] at ql
  ·rw [Int.toNat_of_nonneg a0] at ql
   have es : sem (T l i) env = qv (rd_T31 l (i : Int)).f0 (2 ^ (rd_T31 l (i : Int)).f4.toNat) (fun y => sem (T l (rd_T31 l (i : Int)).f3.toNat) (env.set (rd_T31 l (i : Int)).f2.toNat (y : Int))) := by
    rw [T_eq hP i hi, show pl l i = [(rd_T31 l (i : Int)).f3] from parts_q oq]
    show sem (mkT _ _ _ _ [_]) env = _
    simp only [mkT, sem]
    rw [if_pos oq]
   refine ⟨_, ev_pos ⟨by omega, by omega⟩ (ev_neg h0 (ev_neg o1 (ev_pos (by simpa using oq) (ev_bind (a := sem (T l i) env) ?_ ev_now)))), by simpa using hk, hset⟩
   rw [es]
   unfold impl_quantR
   exact ev_pos ⟨by omega, by omega, by omega, by omega⟩ ql
  ·intro x hx
   have := sem_wok hN (rd_T31 l (i : Int)).f3.toNat _ (by omega) (hgq x hx)
   rw [Int.toNat_of_nonneg a0, hw1] at this
   exact bit_wok this
 ·have hlen : (pl l i).length ≤ 3 := partsL_len _ _ _ _
  obtain ⟨kn1, e1, l1, k1⟩ := vpl_ev hV env he (pl l i) kn hin (fun p hp => good_part hP i hi oq hg p hp) hk hkn
  have hset1 := known_set k1 i l1
  refine ⟨_, ev_pos ⟨by omega, by omega⟩ (ev_neg h0 (ev_neg o1 (ev_neg (by simpa using oq) (ev_pos ?_ (ev_bind e1 (ev_bind (a := sem (T l i) env) ?_ ev_now)))))), by simpa using l1, hset1⟩
  ·refine List.all_eq_true.mpr fun p hp => inB_iff.mpr ?_
   have := hin p hp
   omega
  ·refine ev_of 40 fun k hkk => ?_
   rw [ApplyI _ _ _ _ _ _ _ _ _ _ (by omega), T_eq hP i hi, sem_mkT l _ _ _ _ (pl l i) hlen o1 oq env (fun p hp => (hin p hp).1)]
   have hpl : partsL (rd_T31 l (i : Int)).f0 (rd_T31 l (i : Int)).f3 (rd_T31 l (i : Int)).f4 (rd_T31 l (i : Int)).f5 = pl l i := rfl
   rw [hpl]
   generalize pl l i = ps at *
   match ps, hlen with
   | [], _ => rfl
   | [a], _ => rfl
   | [a, b], _ => rfl
   | [a, b, c], _ => rfl
   | a :: b :: c :: d :: r, h => exact absurd h (by simp)
theorem value_ev {l : List S31} (hN : NodesOk l) (hl : l.length ≤ 80) (i : Nat) : ∀ (env kn : List Int), i < l.length → env.length = 8 → kn.length = l.length → Good (T l i) env → Known l kn env → ∃ kn', Ev (fun k => impl_valueF l k env (i : Int) kn) (sem (T l i) env, kn') ∧ kn'.length = l.length ∧ Known l kn' env := by
 induction i using Nat.strongRecOn with
 | ind i ih =>
  intro env kn hi he hk hg hkn
  obtain ⟨kn', e, h⟩ := value_step hN hl i hi (fun k => impl_valueF l k) (fun env kn j h1 h2 h3 h4 h5 => ih j h3 env kn (by omega) h1 h2 h4 h5) env kn he hk hg hkn
  exact ⟨kn', ev_succ e, h⟩
/-! ### The widths with which a variable is free, as bits -/
def fs : Tm → Int → Nat
 | .leaf op W K, v => if op = 1 ∧ K = v then 2 ^ W.toNat else 0
 | .un op W K B a, v => if (op = 19 ∨ op = 20) ∧ K = v then 0 else fs a v
 | .bin op W K a b, v => fs a v ||| fs b v
 | .ter op W K a b c, v => fs a v ||| fs b v ||| fs c v
/-- What is or'ed together at a node. -/
def preS (l : List S31) (i : Nat) (v : Int) : Nat := (pl l i).foldl (fun s p => s ||| fs (T l p.toNat) v) (if (rd_T31 l (i : Int)).f0 = 1 ∧ (rd_T31 l (i : Int)).f2 = v then 2 ^ (rd_T31 l (i : Int)).f1.toNat else 0)
def isQ (l : List S31) (i : Nat) : Prop := (rd_T31 l (i : Int)).f0 = 19 ∨ (rd_T31 l (i : Int)).f0 = 20
instance (l : List S31) (i : Nat) : Decidable (isQ l i) := by unfold isQ; infer_instance
theorem fs_eq {l : List S31} (hP : PartsIn l) (i : Nat) (hi : i < l.length) (v : Int) : fs (T l i) v = if isQ l i ∧ (rd_T31 l (i : Int)).f2 = v then 0 else preS l i v := by
 rw [T_eq hP i hi]
 unfold preS isQ
 have hlen : (pl l i).length ≤ 3 := partsL_len _ _ _ _
 by_cases oq : (rd_T31 l (i : Int)).f0 = 19 ∨ (rd_T31 l (i : Int)).f0 = 20
 ·rw [show pl l i = [(rd_T31 l (i : Int)).f3] from parts_q oq]
  show fs (mkT _ _ _ _ [_]) v = _
  simp only [mkT, fs, List.foldl_cons, List.foldl_nil]
  rw [if_neg (show ¬ ((rd_T31 l (i : Int)).f0 = 1 ∧ (rd_T31 l (i : Int)).f2 = v) by omega), Nat.zero_or]
 ·rw [if_neg (fun h => oq h.1)]
  by_cases o1 : (rd_T31 l (i : Int)).f0 = 1
  ·rw [show pl l i = [] from by unfold pl; rw [o1]; rfl]; rfl
  ·rw [if_neg (fun h => o1 h.1)]
   generalize pl l i = ps at *
   match ps, hlen with
   | [], _ => show fs (mkT _ _ _ _ []) v = _; simp only [mkT, fs]; rw [if_neg (fun h => o1 h.1)]; rfl
   | [a], _ => show fs (mkT _ _ _ _ [_]) v = _; simp only [mkT, fs, List.foldl_cons, List.foldl_nil, Nat.zero_or]; rw [if_neg (fun h => oq h.1)]
   | [a, b], _ => show fs (mkT _ _ _ _ [_, _]) v = _; simp only [mkT, fs, List.foldl_cons, List.foldl_nil, Nat.zero_or]
   | [a, b, c], _ => show fs (mkT _ _ _ _ [_, _, _]) v = _; simp only [mkT, fs, List.foldl_cons, List.foldl_nil, Nat.zero_or]
   | a :: b :: c :: d :: r, h => simp at h
theorem foldl_or_bit (g : Int → Nat) (w : Nat) : ∀ (ps : List Int) (s : Nat), (ps.foldl (fun s p => s ||| g p) s).testBit w = true ↔ s.testBit w = true ∨ ∃ p ∈ ps, (g p).testBit w = true
 | [], s => by simp
 | p :: ps, s => by
  rw [List.foldl_cons, foldl_or_bit g w ps, Nat.testBit_or, Bool.or_eq_true]
  constructor
  ·rintro ((h | h) | ⟨q, hq, h⟩)
   ·exact .inl h
   ·exact .inr ⟨p, List.mem_cons_self .., h⟩
   ·exact .inr ⟨q, List.mem_cons_of_mem _ hq, h⟩
  ·rintro (h | ⟨q, hq, h⟩)
   ·exact .inl (.inl h)
   ·rcases List.mem_cons.mp hq with rfl | hq
    ·exact .inl (.inr h)
    ·exact .inr ⟨q, hq, h⟩
theorem foldl_or_lt (g : Int → Nat) (n : Nat) : ∀ (ps : List Int) (s : Nat), s < 2 ^ n → (∀ p ∈ ps, g p < 2 ^ n) → ps.foldl (fun s p => s ||| g p) s < 2 ^ n
 | [], s, h, _ => h
 | p :: ps, s, h, hg => foldl_or_lt g n ps _ (Nat.or_lt_two_pow h (hg p (by simp))) (fun q hq => hg q (List.mem_cons_of_mem _ hq))
theorem start_lt {l : List S31} (hN : NodesOk l) (i : Nat) (hi : i < l.length) (v : Int) : (if (rd_T31 l (i : Int)).f0 = 1 ∧ (rd_T31 l (i : Int)).f2 = v then 2 ^ (rd_T31 l (i : Int)).f1.toNat else 0) < 2 ^ 9 := by
 have := node_facts hN i hi
 split
 ·exact Nat.pow_lt_pow_right (by omega) (by omega)
 ·exact Nat.two_pow_pos 9
theorem fs_lt {l : List S31} (hN : NodesOk l) (v : Int) (i : Nat) : i < l.length → fs (T l i) v < 2 ^ 9 := by
 have hP := parts_in hN
 induction i using Nat.strongRecOn with
 | ind i ih =>
  intro hi
  rw [fs_eq hP i hi]
  split
  ·exact Nat.two_pow_pos 9
  ·unfold preS
   refine foldl_or_lt _ 9 _ _ (start_lt hN i hi v) (fun p hp => ?_)
   have := hP i hi p hp
   exact ih p.toNat (by omega) (by omega)
theorem fs_bit {l : List S31} (hP : PartsIn l) (i : Nat) (hi : i < l.length) (v : Int) (w : Nat) : (fs (T l i) v).testBit w = true ↔ ((rd_T31 l (i : Int)).f0 = 1 ∧ (rd_T31 l (i : Int)).f2 = v ∧ (rd_T31 l (i : Int)).f1.toNat = w) ∨ (¬ (isQ l i ∧ (rd_T31 l (i : Int)).f2 = v) ∧ ∃ p ∈ pl l i, (fs (T l p.toNat) v).testBit w = true) := by
 rw [fs_eq hP i hi]
 by_cases hq : isQ l i ∧ (rd_T31 l (i : Int)).f2 = v
 ·rw [if_pos hq]
  have h1 := hq.1
  unfold isQ at h1
  constructor
  ·intro h; simp at h
  ·rintro (h | h)
   ·omega
   ·exact absurd hq h.1
 ·rw [if_neg hq]
  unfold preS
  rw [foldl_or_bit]
  have e : ((if (rd_T31 l (i : Int)).f0 = 1 ∧ (rd_T31 l (i : Int)).f2 = v then 2 ^ (rd_T31 l (i : Int)).f1.toNat else 0 : Nat).testBit w = true) ↔ ((rd_T31 l (i : Int)).f0 = 1 ∧ (rd_T31 l (i : Int)).f2 = v ∧ (rd_T31 l (i : Int)).f1.toNat = w) := by
   by_cases c : (rd_T31 l (i : Int)).f0 = 1 ∧ (rd_T31 l (i : Int)).f2 = v
   ·rw [if_pos c, Nat.testBit_two_pow, decide_eq_true_eq]
    exact ⟨fun h => ⟨c.1, c.2, h⟩, fun h => h.2.2⟩
   ·rw [if_neg c]
    constructor
    ·intro h; simp at h
    ·rintro ⟨a, b, _⟩; exact absurd ⟨a, b⟩ c
  rw [e]
  constructor
  ·rintro (h | h)
   ·exact .inl h
   ·exact .inr ⟨hq, h⟩
  ·rintro (h | h)
   ·exact .inl h
   ·exact .inr h.2
/-- A quantifier's variable has no width but the told one. -/
def qn (l : List S31) (i : Nat) : Prop := isQ l i → fs (T l (rd_T31 l (i : Int)).f3.toNat) (rd_T31 l (i : Int)).f2 = 0 ∨ fs (T l (rd_T31 l (i : Int)).f3.toNat) (rd_T31 l (i : Int)).f2 = 2 ^ (rd_T31 l (i : Int)).f4.toNat
/-- The free variables' values are words. -/
def rootC (t : Tm) (env : List Int) : Prop := ∀ v : Nat, v < 8 → ∀ w : Nat, (fs t (v : Int)).testBit w = true → wok (w : Int) (rd env (v : Int)) = true
theorem bits_one (s B : Nat) : (∀ w, s.testBit w = true → w = B) ↔ s = 0 ∨ s = 2 ^ B := by
 constructor
 ·intro h
  by_cases hB : s.testBit B = true
  ·right
   refine Nat.eq_of_testBit_eq fun w => ?_
   rw [Nat.testBit_two_pow]
   by_cases c : B = w
   ·subst c; simp [hB]
   ·rw [decide_eq_false c]
    cases hw : s.testBit w with
    | false => rfl
    | true => exact absurd (h w hw).symm c
  ·left
   refine Nat.eq_of_testBit_eq fun w => ?_
   rw [Nat.zero_testBit]
   cases hw : s.testBit w with
   | false => rfl
   | true => have := h w hw; subst this; exact absurd hw hB
 ·rintro (rfl | rfl) w hw
  ·simp at hw
  ·rw [Nat.testBit_two_pow, decide_eq_true_eq] at hw; exact hw.symm
theorem rd_set_if (env : List Int) (K v : Nat) (x : Int) (hK : K < env.length) : rd (env.set K x) (v : Int) = if K = v then x else rd env (v : Int) := by
 show (env.set K x).getD v 0 = _
 rw [List.getD_eq_getElem?_getD, List.getElem?_set]
 by_cases c : K = v
 ·rw [if_pos c, if_pos c, if_pos (by omega)]; rfl
 ·rw [if_neg c, if_neg c, ← List.getD_eq_getElem?_getD]; rfl
/-- Where the widths fit, every place is good. -/
theorem good_of {l : List S31} (hN : NodesOk l) (met : Nat → Prop) (hm : ∀ i < l.length, met i → ∀ p ∈ pl l i, met p.toNat) (hq : ∀ i < l.length, met i → qn l i) (i : Nat) : ∀ env : List Int, i < l.length → env.length = 8 → met i → rootC (T l i) env → Good (T l i) env := by
 have hP := parts_in hN
 induction i using Nat.strongRecOn with
 | ind i ih =>
  intro env hi he hmi hr
  have hin := hP i hi
  have part : ∀ p ∈ pl l i, (∀ v : Nat, v < 8 → ∀ w : Nat, (fs (T l p.toNat) (v : Int)).testBit w = true → (fs (T l i) (v : Int)).testBit w = true) → Good (T l p.toNat) env := by
   intro p hp h
   have := hin p hp
   exact ih p.toNat (by omega) env (by omega) he (hm i hi hmi p hp) (fun v hv w hw => hr v hv w (h v hv w hw))
  by_cases oq : isQ l i
  ·obtain ⟨k7, ⟨b1, b8⟩, ⟨a0, a1⟩, _, _⟩ := node_quant hN i hi oq
   have hf := node_facts hN i hi
   have hpl : pl l i = [(rd_T31 l (i : Int)).f3] := parts_q oq
   have hqn := hq i hi hmi oq
   rw [T_eq hP i hi, hpl]
   refine ⟨fun h => absurd oq h, fun _ x hx => ?_⟩
   refine ih (rd_T31 l (i : Int)).f3.toNat (by omega) _ (by omega) (by simpa using he) (hm i hi hmi _ (by rw [hpl]; simp)) ?_
   intro v hv w hw
   rw [rd_set_if env _ v _ (by omega)]
   by_cases c : (rd_T31 l (i : Int)).f2.toNat = v
   ·rw [if_pos c]
    have hK : (rd_T31 l (i : Int)).f2 = (v : Int) := by omega
    rw [hK] at hqn
    have hwB := (bits_one _ _).mpr hqn w hw
    have hx' : (x : Int) ≤ P2 (w : Int) - 1 := by
     rw [P2_nat (by omega), Int.toNat_natCast, hwB]; omega
    exact wok_iff.mpr ⟨by omega, by omega, by omega, hx'⟩
   ·rw [if_neg c]
    refine hr v hv w ?_
    rw [fs_bit hP i hi]
    exact .inr ⟨fun h => c (by have := h.2; omega), _, by rw [hpl]; exact List.mem_singleton.mpr rfl, hw⟩
  ·have hsub : ∀ p ∈ pl l i, Good (T l p.toNat) env := fun p hp => part p hp (fun v hv w hw => by
    rw [fs_bit hP i hi]
    exact .inr ⟨fun h => oq h.1, p, hp, hw⟩)
   have hlen : (pl l i).length ≤ 3 := partsL_len _ _ _ _
   have hvar : (rd_T31 l (i : Int)).f0 = 1 → wok (rd_T31 l (i : Int)).f1 (rd env (rd_T31 l (i : Int)).f2) = true := by
    intro o1
    have hf := node_facts hN i hi
    have hv := node_var hN i hi o1
    have := hr (rd_T31 l (i : Int)).f2.toNat (by omega) (rd_T31 l (i : Int)).f1.toNat (by
     rw [fs_bit hP i hi]
     exact .inl ⟨o1, by omega, rfl⟩)
    rwa [Int.toNat_of_nonneg (by omega), Int.toNat_of_nonneg (by omega)] at this
   rw [T_eq hP i hi]
   generalize pl l i = ps at *
   match ps, hlen with
   | [], _ => exact hvar
   | [a], _ => exact ⟨fun _ => hsub a (by simp), fun h => absurd h oq⟩
   | [a, b], _ => exact ⟨hsub a (by simp), hsub b (by simp)⟩
   | [a, b, c], _ => exact ⟨hsub a (by simp), hsub b (by simp), hsub c (by simp)⟩
   | a :: b :: c :: d :: r, h => exact absurd h (by simp)
/-! ### l04Fits -/
theorem or9 {a b : Nat} (ha : a < 2 ^ 9) (hb : b < 2 ^ 9) : Go.bits .or .i64 (a : Int) (b : Int) = ((a ||| b : Nat) : Int) := (bits_nat a b 9 (by omega) ha hb).2.1
/-- The row of node i. -/
def fRow (l : List S31) (i : Nat) : List Int := (List.range 8).map fun v : Nat => (fs (T l i) (v : Int) : Int)
def fRows (l : List S31) (i : Nat) : List (List Int) := (List.range i).map fun t : Nat => fRow l t
theorem fRow_len (l : List S31) (i : Nat) : (fRow l i).length = 8 := by simp [fRow]
theorem fRows_len (l : List S31) (i : Nat) : (fRows l i).length = i := by simp [fRows]
theorem fRows_get (l : List S31) (i : Nat) (p : Int) (h0 : 0 ≤ p) (h1 : p < (i : Int)) : rd_L8 (fRows l i) p = fRow l p.toNat := by
 show (fRows l i).getD p.toNat _ = _
 unfold fRows
 rw [List.getD_eq_getElem?_getD, List.getElem?_map, List.getElem?_range (by omega)]; rfl
theorem fRow_get (l : List S31) (i v : Nat) (hv : v < 8) : rd (fRow l i) (v : Int) = (fs (T l i) (v : Int) : Int) := by
 show (fRow l i).getD v 0 = _
 unfold fRow
 rw [List.getD_eq_getElem?_getD, List.getElem?_map, List.getElem?_range hv]; rfl
theorem fits_l2 {l : List S31} (hN : NodesOk l) (hl : l.length ≤ 80) (i : Nat) (hi : i < l.length) (env : List Int) (row : List Int) (v : Nat) (hv : v < 8) (ps : List Int) (hps : ps.length ≤ 3) (hin : ∀ p ∈ ps, 0 ≤ p ∧ p < (i : Int)) (op W K A B C : Int) (r : Bool) (d : Nat) : ∀ (j s : Nat), j + d = ps.length → s < 2 ^ 9 →
  Ev (fun k => if ((op == 19) || (op == 20)) = true then (spec_l04Fits.j5 k l env (fRows l i) (i : Int) row ps (v : Int) (((ps.drop j).foldl (fun s p => s ||| fs (T l p.toNat) (v : Int)) s : Nat) : Int) (K == (v : Int)) op W K A B C) else (spec_l04Fits.j5 k l env (fRows l i) (i : Int) row ps (v : Int) (((ps.drop j).foldl (fun s p => s ||| fs (T l p.toNat) (v : Int)) s : Nat) : Int) false op W K A B C)) r →
  Ev (fun k => spec_l04Fits.l2 k l env (fRows l i) (i : Int) row ps (v : Int) (s : Int) (j : Int) op W K A B C) r := by
 induction d with
 | zero =>
  intro j s hj hs H
  obtain rfl : j = ps.length := by omega
  rw [List.drop_length] at H
  refine ev_succ ?_
  simp only [spec_l04Fits.l2]
  exact ev_neg (by omega) (ev_bind0 (isqS _) H)
 | succ d ih =>
  intro j s hj hs H
  have hjl : j < ps.length := by omega
  have hp := hin (rd ps (j : Int)) (by rw [rdI ps j hjl]; exact List.getElem_mem _)
  refine ev_succ ?_
  simp only [spec_l04Fits.l2]
  rw [fRows_get l i _ hp.1 hp.2, fRow_get l _ v hv, fRow_len, fRows_len]
  rw [wrap_id (x := (j : Int) + 1) (by omega) (by omega), show (j : Int) + 1 = ((j + 1 : Nat) : Int) by omega]
  refine ev_pos (by omega) (ev_pos (by omega) (ev_pos hp.1 (ev_pos hp.2 (ev_pos (by omega) (ev_pos (by omega) ?_)))))
  have hlt := fs_lt hN (v : Int) (rd ps (j : Int)).toNat (by omega)
  rw [or9 hs hlt]
  refine ih (j + 1) (s ||| fs (T l (rd ps (j : Int)).toNat) (v : Int)) (by omega) (Nat.or_lt_two_pow hs hlt) ?_
  have hdrop : ps.drop j = rd ps (j : Int) :: ps.drop (j + 1) := by
   rw [List.drop_eq_getElem_cons hjl, rdI ps j hjl]
  rw [hdrop, List.foldl_cons] at H
  exact H
theorem fits_l1 {l : List S31} (hN : NodesOk l) (hl : l.length ≤ 80) (i : Nat) (hi : i < l.length) (env : List Int) (R : Prop)
  (NX : ∃ r, Ev (fun k => spec_l04Fits.l0 k l env (fRows l (i + 1)) ((i + 1 : Nat) : Int)) r ∧ (r = true ↔ R)) (d : Nat) : ∀ (v : Nat), v + d = 8 →
  ∃ r, Ev (fun k => spec_l04Fits.l1 k l env (fRows l i) (i : Int) ((List.range v).map fun v : Nat => (fs (T l i) (v : Int) : Int)) (pl l i) (v : Int) (rd_T31 l (i : Int)).f0 (rd_T31 l (i : Int)).f1 (rd_T31 l (i : Int)).f2 (rd_T31 l (i : Int)).f3 (rd_T31 l (i : Int)).f4 (rd_T31 l (i : Int)).f5) r ∧ (r = true ↔ (((v : Int) ≤ (rd_T31 l (i : Int)).f2 → qn l i) ∧ R)) := by
 have hP := parts_in hN
 have hf := node_facts hN i hi
 induction d with
 | zero =>
  intro v hv
  obtain rfl : v = 8 := by omega
  obtain ⟨r, e, h⟩ := NX
  refine ⟨r, ev_succ ?_, ?_⟩
  ·simp only [spec_l04Fits.l1]
   rw [wrap_id (x := (i : Int) + 1) (by omega) (by omega), show (i : Int) + 1 = ((i + 1 : Nat) : Int) by omega, fRows_len]
   refine ev_neg (by omega) (ev_pos (by omega) ?_)
   have : fRows l i ++ [(List.range 8).map fun v : Nat => (fs (T l i) (v : Int) : Int)] = fRows l (i + 1) := by
    show fRows l i ++ [fRow l i] = _
    unfold fRows; rw [List.range_succ (n := i), List.map_append]; rfl
   rw [this]; exact e
  ·rw [h]
   constructor
   ·intro hr
    refine ⟨fun hle hq => ?_, hr⟩
    have := (node_quant hN i hi hq).1
    omega
   ·exact fun h => h.2
 | succ d ih =>
  intro v hv
  have hv8 : v < 8 := by omega
  obtain ⟨r, e, h⟩ := ih (v + 1) (by omega)
  have hrow : ((List.range v).map fun v : Nat => (fs (T l i) (v : Int) : Int)) ++ [(fs (T l i) (v : Int) : Int)] = (List.range (v + 1)).map fun v : Nat => (fs (T l i) (v : Int) : Int) := by
   rw [List.range_succ, List.map_append]; rfl
  have hlen : (((List.range v).map fun v : Nat => (fs (T l i) (v : Int) : Int))).length = v := by simp
  -- behind the parts
  have tail : ∃ r', Ev (fun k => if (((rd_T31 l (i : Int)).f0 == 19) || ((rd_T31 l (i : Int)).f0 == 20)) = true then (spec_l04Fits.j5 k l env (fRows l i) (i : Int) ((List.range v).map fun v : Nat => (fs (T l i) (v : Int) : Int)) (pl l i) (v : Int) ((preS l i (v : Int) : Nat) : Int) ((rd_T31 l (i : Int)).f2 == (v : Int)) (rd_T31 l (i : Int)).f0 (rd_T31 l (i : Int)).f1 (rd_T31 l (i : Int)).f2 (rd_T31 l (i : Int)).f3 (rd_T31 l (i : Int)).f4 (rd_T31 l (i : Int)).f5) else (spec_l04Fits.j5 k l env (fRows l i) (i : Int) ((List.range v).map fun v : Nat => (fs (T l i) (v : Int) : Int)) (pl l i) (v : Int) ((preS l i (v : Int) : Nat) : Int) false (rd_T31 l (i : Int)).f0 (rd_T31 l (i : Int)).f1 (rd_T31 l (i : Int)).f2 (rd_T31 l (i : Int)).f3 (rd_T31 l (i : Int)).f4 (rd_T31 l (i : Int)).f5)) r' ∧ (r' = true ↔ (((v : Int) ≤ (rd_T31 l (i : Int)).f2 → qn l i) ∧ R)) := by
   have plain : ¬ (isQ l i ∧ (rd_T31 l (i : Int)).f2 = (v : Int)) → ∃ r', Ev (fun k => spec_l04Fits.j5 k l env (fRows l i) (i : Int) ((List.range v).map fun v : Nat => (fs (T l i) (v : Int) : Int)) (pl l i) (v : Int) ((preS l i (v : Int) : Nat) : Int) false (rd_T31 l (i : Int)).f0 (rd_T31 l (i : Int)).f1 (rd_T31 l (i : Int)).f2 (rd_T31 l (i : Int)).f3 (rd_T31 l (i : Int)).f4 (rd_T31 l (i : Int)).f5) r' ∧ (r' = true ↔ (((v : Int) ≤ (rd_T31 l (i : Int)).f2 → qn l i) ∧ R)) := by
    intro hnq
    refine ⟨r, ev_succ ?_, ?_⟩
    ·simp only [spec_l04Fits.j5]
     rw [wrap_id (x := (v : Int) + 1) (by omega) (by omega), show (v : Int) + 1 = ((v + 1 : Nat) : Int) by omega, hlen]
     refine ev_neg (by decide) (ev_pos (by omega) ?_)
     rw [show preS l i (v : Int) = fs (T l i) (v : Int) from by rw [fs_eq hP i hi, if_neg hnq], hrow]
     exact e
    ·rw [h]
     constructor
     ·rintro ⟨a, b⟩
      refine ⟨fun hle hq => ?_, b⟩
      by_cases c : (rd_T31 l (i : Int)).f2 = (v : Int)
      ·exact absurd ⟨hq, c⟩ hnq
      ·exact a (by omega) hq
     ·rintro ⟨a, b⟩
      exact ⟨fun hle => a (by omega), b⟩
   by_cases oq : isQ l i
   ·by_cases hK : (rd_T31 l (i : Int)).f2 = (v : Int)
    ·have hq := node_quant hN i hi oq
     have hpre : preS l i (v : Int) = fs (T l (rd_T31 l (i : Int)).f3.toNat) (v : Int) := by
      unfold preS
      rw [show pl l i = [(rd_T31 l (i : Int)).f3] from parts_q oq]
      unfold isQ at oq
      rw [if_neg (by omega)]
      simp
     have hfz : fs (T l i) (v : Int) = 0 := by rw [fs_eq hP i hi, if_pos ⟨oq, hK⟩]
     have hrow0 : ((List.range v).map fun v : Nat => (fs (T l i) (v : Int) : Int)) ++ [(0 : Int)] = (List.range (v + 1)).map fun v : Nat => (fs (T l i) (v : Int) : Int) := by
      rw [← hrow, hfz]; rfl
     have hqn : qn l i ↔ (preS l i (v : Int) = 0 ∨ preS l i (v : Int) = 2 ^ (rd_T31 l (i : Int)).f4.toNat) := by
      unfold qn
      rw [hK, hpre]
      exact ⟨fun h => h oq, fun h _ => h⟩
     have good : (preS l i (v : Int) = 0 ∨ preS l i (v : Int) = 2 ^ (rd_T31 l (i : Int)).f4.toNat) → (r = true ↔ (((v : Int) ≤ (rd_T31 l (i : Int)).f2 → qn l i) ∧ R)) := by
      intro hg
      rw [h]
      constructor
      ·rintro ⟨_, b⟩; exact ⟨fun _ => hqn.mpr hg, b⟩
      ·rintro ⟨_, b⟩; exact ⟨fun _ => hqn.mpr hg, b⟩
     have hB := hq.2.1
     have hP2 : P2 (rd_T31 l (i : Int)).f4 = ((2 ^ (rd_T31 l (i : Int)).f4.toNat : Nat) : Int) := P2_nat (by omega)
     by_cases h0 : preS l i (v : Int) = 0
     ·refine ⟨r, ev_pos (by unfold isQ at oq; simpa using oq) (ev_succ ?_), good (.inl h0)⟩
      simp only [spec_l04Fits.j5]
      rw [wrap_id (x := (v : Int) + 1) (by omega) (by omega), show (v : Int) + 1 = ((v + 1 : Nat) : Int) by omega, hlen, hrow0]
      exact ev_pos (by simpa using hK) (ev_pos (by omega) (ev_pos (by omega) e))
     ·by_cases h1 : preS l i (v : Int) = 2 ^ (rd_T31 l (i : Int)).f4.toNat
      ·refine ⟨r, ev_pos (by unfold isQ at oq; simpa using oq) (ev_succ ?_), good (.inr h1)⟩
       simp only [spec_l04Fits.j5]
       rw [wrap_id (x := (v : Int) + 1) (by omega) (by omega), show (v : Int) + 1 = ((v + 1 : Nat) : Int) by omega, hlen, hrow0]
       exact ev_pos (by simpa using hK) (ev_neg (by omega) (ev_bind (a := P2 (rd_T31 l (i : Int)).f4) (ev_of 20 fun k hk => pow2 (by omega) (by omega) hk) (ev_pos (by rw [hP2, h1]) (ev_pos (by omega) e))))
      ·refine ⟨false, ev_pos (by unfold isQ at oq; simpa using oq) (ev_succ ?_), ?_⟩
       ·simp only [spec_l04Fits.j5]
        exact ev_pos (by simpa using hK) (ev_neg (by omega) (ev_bind (a := P2 (rd_T31 l (i : Int)).f4) (ev_of 20 fun k hk => pow2 (by omega) (by omega) hk) (ev_neg (by rw [hP2]; omega) ev_now)))
       ·constructor
        ·intro h; exact absurd h (by decide)
        ·rintro ⟨a, _⟩
         rcases hqn.mp (a (by omega)) with h | h
         ·exact absurd h h0
         ·exact absurd h h1
    ·obtain ⟨r', e', h'⟩ := plain (fun h => hK h.2)
     refine ⟨r', ev_pos (by unfold isQ at oq; simpa using oq) ?_, h'⟩
     rw [show ((rd_T31 l (i : Int)).f2 == (v : Int)) = false from beq_eq_false_iff_ne.mpr hK]
     exact e'
   ·obtain ⟨r', e', h'⟩ := plain (fun h => oq h.1)
    exact ⟨r', ev_neg (by unfold isQ at oq; simpa using oq) e', h'⟩
  obtain ⟨r', e', h'⟩ := tail
  refine ⟨r', ev_succ ?_, h'⟩
  simp only [spec_l04Fits.l1]
  have st := start_lt hN i hi (v : Int)
  have l2 := fits_l2 hN hl i hi env ((List.range v).map fun v : Nat => (fs (T l i) (v : Int) : Int)) v hv8 (pl l i) (partsL_len _ _ _ _) (hP i hi) (rd_T31 l (i : Int)).f0 (rd_T31 l (i : Int)).f1 (rd_T31 l (i : Int)).f2 (rd_T31 l (i : Int)).f3 (rd_T31 l (i : Int)).f4 (rd_T31 l (i : Int)).f5 r' (pl l i).length 0 _ (by omega) st e'
  refine ev_pos (by omega) ?_
  by_cases o1 : (rd_T31 l (i : Int)).f0 = 1
  ·refine ev_pos o1 ?_
   by_cases c : (rd_T31 l (i : Int)).f2 = (v : Int)
   ·rw [if_pos ⟨o1, c⟩] at l2
    refine ev_succ ?_
    simp only [spec_l04Fits.j2]
    refine ev_pos (by simpa using c) (ev_bind (a := P2 (rd_T31 l (i : Int)).f1) (ev_of 20 fun k hk => pow2 (by omega) (by omega) hk) (ev_succ ?_))
    simp only [spec_l04Fits.j3]
    rw [P2_nat (by omega)]
    exact l2
   ·rw [if_neg (fun h => c h.2)] at l2
    refine ev_succ ?_
    simp only [spec_l04Fits.j2]
    refine ev_neg (by simpa using c) (ev_succ ?_)
    simp only [spec_l04Fits.j3]
    exact l2
  ·rw [if_neg (fun h => o1 h.1)] at l2
   refine ev_neg o1 (ev_succ ?_)
   simp only [spec_l04Fits.j2]
   refine ev_neg (by decide) (ev_succ ?_)
   simp only [spec_l04Fits.j3]
   exact l2
theorem fits_l4 {l : List S31} (hN : NodesOk l) (hl : l.length ≤ 80) (h0 : 1 ≤ l.length) (env : List Int) (he : env.length = 8) (v : Nat) (hv : v < 8) (R : Prop)
  (NX : ∃ r, Ev (fun k => spec_l04Fits.l3 k l env (fRows l l.length) ((v + 1 : Nat) : Int)) r ∧ (r = true ↔ R)) (d : Nat) : ∀ w : Nat, w + d = 9 → 1 ≤ w →
  ∃ r, Ev (fun k => spec_l04Fits.l4 k l env (fRows l l.length) (v : Int) (w : Int)) r ∧ (r = true ↔ ((∀ w' : Nat, w ≤ w' → w' ≤ 8 → (fs (T l (l.length - 1)) (v : Int)).testBit w' = true → wok (w' : Int) (rd env (v : Int)) = true) ∧ R)) := by
 induction d with
 | zero =>
  intro w hw h1
  obtain ⟨r, e, h⟩ := NX
  obtain rfl : w = 9 := by omega
  refine ⟨r, ev_succ ?_, ?_⟩
  ·simp only [spec_l04Fits.l4]
   rw [wrap_id (x := (v : Int) + 1) (by omega) (by omega), show (v : Int) + 1 = ((v + 1 : Nat) : Int) by omega]
   exact ev_neg (by omega) e
  ·rw [h]
   exact ⟨fun h => ⟨fun w' a b => absurd b (by omega), h⟩, fun h => h.2⟩
 | succ d ih =>
  intro w hw h1
  obtain ⟨r, e, h⟩ := ih (w + 1) (by omega) (by omega)
  have hlt := fs_lt hN (v : Int) (l.length - 1) (by omega)
  have hP2 : P2 (w : Int) = ((2 ^ w : Nat) : Int) := by rw [P2_nat (by omega), Int.toNat_natCast]
  have hpos := P2_pos (w := (w : Int)) (by omega) (by omega)
  have hdiv : wrap64 (Int.tdiv (fs (T l (l.length - 1)) (v : Int) : Int) (P2 (w : Int))) = ((fs (T l (l.length - 1)) (v : Int) / 2 ^ w : Nat) : Int) := by
   rw [hP2, Int.tdiv_eq_ediv_of_nonneg (by omega), ← Int.natCast_ediv]
   have hle := Nat.div_le_self (fs (T l (l.length - 1)) (v : Int)) (2 ^ w)
   generalize fs (T l (l.length - 1)) (v : Int) / 2 ^ w = q at *
   exact wrap_id (by omega) (by omega)
  have hmod : Int.tmod ((fs (T l (l.length - 1)) (v : Int) / 2 ^ w : Nat) : Int) 2 = ((fs (T l (l.length - 1)) (v : Int) / 2 ^ w % 2 : Nat) : Int) := by
   generalize fs (T l (l.length - 1)) (v : Int) / 2 ^ w = q at *
   rw [Int.tmod_eq_emod_of_nonneg (by omega)]; omega
  have hbit : (fs (T l (l.length - 1)) (v : Int)).testBit w = true ↔ fs (T l (l.length - 1)) (v : Int) / 2 ^ w % 2 = 1 := by
   rw [Nat.testBit_eq_decide_div_mod_eq, decide_eq_true_eq]
  have hroot : wrap64 ((l.length : Int) - 1) = ((l.length - 1 : Nat) : Int) := by rw [wrap_id (by omega) (by omega)]; omega
  have pre : ∀ r', Ev (fun k => if fs (T l (l.length - 1)) (v : Int) / 2 ^ w % 2 = 1 then (if (v : Int) < (env.length : Int) then ((spec_WordOk.f k (w : Int) (rd env (v : Int))).bind fun t504 => (if t504 = true then (spec_l04Fits.l4 k l env (fRows l l.length) (v : Int) ((w + 1 : Nat) : Int)) else (some false))) else (none)) else (spec_l04Fits.l4 k l env (fRows l l.length) (v : Int) ((w + 1 : Nat) : Int))) r' → Ev (fun k => spec_l04Fits.l4 k l env (fRows l l.length) (v : Int) (w : Int)) r' := by
   intro r' H
   refine ev_succ ?_
   simp only [spec_l04Fits.l4]
   rw [hroot, fRows_get l l.length _ (by omega) (by omega), Int.toNat_natCast, fRow_get l _ v hv, fRow_len, fRows_len]
   refine ev_pos (by omega) (ev_pos (by omega) (ev_pos (by omega) (ev_pos (by omega) (ev_pos (by omega) (ev_bind (a := P2 (w : Int)) (ev_of 20 fun k hk => pow2 (by omega) (by omega) hk) (ev_neg (by omega) ?_))))))
   rw [hdiv, hmod, wrap_id (x := (w : Int) + 1) (by omega) (by omega), show (w : Int) + 1 = ((w + 1 : Nat) : Int) by omega]
   by_cases c : fs (T l (l.length - 1)) (v : Int) / 2 ^ w % 2 = 1
   ·simp only [if_pos c] at H
    exact ev_pos (by omega) H
   ·simp only [if_neg c] at H
    exact ev_neg (by omega) H
  by_cases c : fs (T l (l.length - 1)) (v : Int) / 2 ^ w % 2 = 1
  ·by_cases hwk : wok (w : Int) (rd env (v : Int)) = true
   ·refine ⟨r, pre r (ev_pos c (ev_pos (by omega) (ev_bind (a := true) (ev_of 20 fun k hk => by rw [wokS _ _ hk, hwk]) (ev_pos rfl e)))), ?_⟩
    rw [h]
    constructor
    ·rintro ⟨a, b⟩
     refine ⟨fun w' h1 h2 h3 => ?_, b⟩
     by_cases cw : w' = w
     ·subst cw; exact hwk
     ·exact a w' (by omega) h2 h3
    ·rintro ⟨a, b⟩; exact ⟨fun w' h1 h2 h3 => a w' (by omega) h2 h3, b⟩
   ·refine ⟨false, pre false (ev_pos c (ev_pos (by omega) (ev_bind (a := false) (ev_of 20 fun k hk => by rw [wokS _ _ hk]; rw [Bool.not_eq_true] at hwk; rw [hwk]) (ev_neg (by decide) ev_now)))), ?_⟩
    constructor
    ·intro h; exact absurd h (by decide)
    ·rintro ⟨a, _⟩; exact absurd (a w (by omega) (by omega) (hbit.mpr c)) hwk
  ·refine ⟨r, pre r (ev_neg c e), ?_⟩
   rw [h]
   constructor
   ·rintro ⟨a, b⟩
    refine ⟨fun w' h1 h2 h3 => ?_, b⟩
    by_cases cw : w' = w
    ·subst cw; exact absurd (hbit.mp h3) c
    ·exact a w' (by omega) h2 h3
   ·rintro ⟨a, b⟩; exact ⟨fun w' h1 h2 h3 => a w' (by omega) h2 h3, b⟩
theorem fits_l3 {l : List S31} (hN : NodesOk l) (hl : l.length ≤ 80) (h0 : 1 ≤ l.length) (env : List Int) (he : env.length = 8) (d : Nat) : ∀ v : Nat, v + d = 8 →
  ∃ r, Ev (fun k => spec_l04Fits.l3 k l env (fRows l l.length) (v : Int)) r ∧ (r = true ↔ (∀ v' : Nat, v ≤ v' → v' < 8 → ∀ w' : Nat, 1 ≤ w' → w' ≤ 8 → (fs (T l (l.length - 1)) (v' : Int)).testBit w' = true → wok (w' : Int) (rd env (v' : Int)) = true)) := by
 induction d with
 | zero =>
  intro v hv
  refine ⟨true, ev_succ ?_, ?_⟩
  ·simp only [spec_l04Fits.l3]; exact ev_neg (by omega) ev_now
  ·exact ⟨fun _ v' a b => absurd b (by omega), fun _ => rfl⟩
 | succ d ih =>
  intro v hv
  obtain ⟨r, e, h⟩ := fits_l4 hN hl h0 env he v (by omega) _ (ih (v + 1) (by omega)) 8 1 (by omega) (by omega)
  refine ⟨r, ev_succ ?_, ?_⟩
  ·simp only [spec_l04Fits.l3]; exact ev_pos (by omega) e
  ·rw [h]
   constructor
   ·rintro ⟨a, b⟩ v' h1 h2
    by_cases c : v' = v
    ·subst c; exact a
    ·exact b v' (by omega) h2
   ·intro a
    exact ⟨a v (by omega) (by omega), fun v' h1 h2 => a v' (by omega) h2⟩
theorem fs_bit0 {l : List S31} (hN : NodesOk l) (i : Nat) (hi : i < l.length) (v : Int) (w : Nat) (h : (fs (T l i) v).testBit w = true) : 1 ≤ w ∧ w ≤ 8 := by
 have hP := parts_in hN
 induction i using Nat.strongRecOn with
 | ind i ih =>
  rcases (fs_bit hP i hi v w).mp h with ⟨_, _, a⟩ | ⟨_, p, hp, a⟩
  ·have := node_facts hN i hi
   omega
  ·have := hP i hi p hp
   exact ih p.toNat (by omega) (by omega) a
theorem fits_l0 {l : List S31} (hN : NodesOk l) (hl : l.length ≤ 80) (h0 : 1 ≤ l.length) (env : List Int) (he : env.length = 8) (d : Nat) : ∀ i : Nat, i + d = l.length →
  ∃ r, Ev (fun k => spec_l04Fits.l0 k l env (fRows l i) (i : Int)) r ∧ (r = true ↔ ((∀ t, i ≤ t → t < l.length → qn l t) ∧ rootC (T l (l.length - 1)) env)) := by
 induction d with
 | zero =>
  intro i hi
  obtain rfl : i = l.length := by omega
  obtain ⟨r, e, h⟩ := fits_l3 hN hl h0 env he 8 0 (by omega)
  refine ⟨r, ev_succ ?_, ?_⟩
  ·simp only [spec_l04Fits.l0]; exact ev_neg (by omega) e
  ·rw [h]
   constructor
   ·intro a
    refine ⟨fun t h1 h2 => absurd h2 (by omega), fun v hv w hw => ?_⟩
    have := fs_bit0 hN (l.length - 1) (by omega) _ w hw
    exact a v (by omega) hv w this.1 this.2 hw
   ·rintro ⟨_, a⟩ v _ hv w _ _ hw
    exact a v hv w hw
 | succ d ih =>
  intro i hi
  have hf := node_facts hN i (by omega)
  obtain ⟨r, e, h⟩ := fits_l1 hN hl i (by omega) env _ (ih (i + 1) (by omega)) 8 0 (by omega)
  refine ⟨r, ev_succ ?_, ?_⟩
  ·simp only [spec_l04Fits.l0]
   exact ev_pos (by omega) (ev_pos (by omega) (ev_bind (a := pl l i) (ev_of 1 fun k hk => partsS _ _ _ _ _ _ hk) e))
  ·rw [h]
   constructor
   ·rintro ⟨a, b, c⟩
    refine ⟨fun t h1 h2 => ?_, c⟩
    by_cases ct : t = i
    ·subst ct; exact a (by omega)
    ·exact b t (by omega) h2
   ·rintro ⟨a, b⟩
    exact ⟨fun _ => a i (by omega) (by omega), fun t h1 h2 => a t (by omega) h2, b⟩
theorem fits_ev {l : List S31} (hN : NodesOk l) (hl : l.length ≤ 80) (h0 : 1 ≤ l.length) (env : List Int) (he : env.length = 8) :
  ∃ r, Ev (fun k => spec_l04Fits.f k l env) r ∧ (r = true ↔ ((∀ t < l.length, qn l t) ∧ rootC (T l (l.length - 1)) env)) := by
 obtain ⟨r, e, h⟩ := fits_l0 hN hl h0 env he l.length 0 (by omega)
 refine ⟨r, e, ?_⟩
 rw [h]
 exact ⟨fun h => ⟨fun t ht => h.1 t (by omega) ht, h.2⟩, fun h => ⟨fun t _ ht => h.1 t ht, h.2⟩⟩
/-! ### suits -/
theorem setAll_iff (ps : List Int) : ∀ (met : List Bool) (i : Nat), (setAll met ps).getD i false = true ↔ met.getD i false = true ∨ (i < met.length ∧ ∃ p ∈ ps, p.toNat = i) := by
 intro met i
 constructor
 ·intro h
  by_cases c : ∃ p ∈ ps, p.toNat = i
  ·by_cases hi : i < met.length
   ·exact .inr ⟨hi, c⟩
   ·rw [List.getD_eq_getElem?_getD, List.getElem?_eq_none (by rw [setAll_len]; omega)] at h
    exact absurd h (by simp)
  ·rw [setAll_far ps met i (fun p hp e => c ⟨p, hp, e⟩)] at h
   exact .inl h
 ·rintro (h | ⟨hi, p, hp, rfl⟩)
  ·exact setAll_mono ps met i h
  ·by_cases h0 : 0 ≤ p
   ·exact setAll_mem ps met p hp h0 hi
   ·-- a place below 0 counts as 0
    clear h0
    induction ps generalizing met with
    | nil => exact absurd hp (by simp)
    | cons q ps ih =>
     show (setAll (met.set q.toNat true) ps).getD p.toNat false = true
     rcases List.mem_cons.mp hp with rfl | hp
     ·refine setAll_mono ps _ _ ?_
      rw [List.getD_eq_getElem?_getD, List.getElem?_set, if_pos rfl, if_pos hi]; rfl
     ·exact ih (met.set q.toNat true) hp (by simpa using hi)
theorem reach_gen0 (pb : Nat → Bool) (Q D : Nat → Prop) (l : List S31) (hP : PartsIn l) (hD : ∀ i < l.length, D i ↔ Q i ∨ (pb i = true ∧ ∃ p ∈ pl l i, D p.toNat)) (j : Nat) : ∀ met : List Bool, j ≤ l.length → met.length = l.length →
  (((∃ i, j ≤ i ∧ i < l.length ∧ met.getD i false = true ∧ Q i) ∨ (∃ i < j, met.getD i false = true ∧ D i)) ↔ ∃ i < l.length, (rgo pb l j met).getD i false = true ∧ Q i) := by
 induction j with
 | zero =>
  intro met hj hm
  simp only [rgo]
  constructor
  ·rintro (⟨i, _, h1, h2, h3⟩ | ⟨i, h, _⟩)
   ·exact ⟨i, h1, h2, h3⟩
   ·omega
  ·rintro ⟨i, h1, h2, h3⟩; exact .inl ⟨i, by omega, h1, h2, h3⟩
 | succ j ih =>
  intro met hj hm
  show _ ↔ ∃ i < l.length, (rgo pb l j (stepR _ l j met)).getD i false = true ∧ Q i
  rw [← ih _ (by omega) (by rw [stepR_len]; exact hm)]
  have hDj := hD j (by omega)
  have hin := hP j (by omega)
  by_cases hb : met.getD j false = true
  ·by_cases hq : pb j = true
   ·have hs : stepR pb l j met = setAll met (pl l j) := by unfold stepR; rw [if_pos ⟨hb, hq⟩]
    rw [hs]
    constructor
    ·rintro (⟨i, h0, h1, h2, h3⟩ | ⟨i, h0, h1, h2⟩)
     ·exact .inl ⟨i, by omega, h1, (setAll_iff _ _ _).mpr (.inl h2), h3⟩
     ·rcases Nat.lt_or_ge i j with c | c
      ·exact .inr ⟨i, c, (setAll_iff _ _ _).mpr (.inl h1), h2⟩
      ·obtain rfl : i = j := by omega
       rcases hDj.mp h2 with h | ⟨_, p, hp, h⟩
       ·exact .inl ⟨i, by omega, by omega, (setAll_iff _ _ _).mpr (.inl hb), h⟩
       ·have := hin p hp
        exact .inr ⟨p.toNat, by omega, (setAll_iff _ _ _).mpr (.inr ⟨by omega, p, hp, rfl⟩), h⟩
    ·rintro (⟨i, h0, h1, h2, h3⟩ | ⟨i, h0, h1, h2⟩)
     ·have h2' : met.getD i false = true := by
       rcases (setAll_iff _ _ _).mp h2 with h | ⟨_, p, hp, e⟩
       ·exact h
       ·have := hin p hp; omega
      rcases Nat.lt_or_ge j i with c | c
      ·exact .inl ⟨i, by omega, h1, h2', h3⟩
      ·obtain rfl : i = j := by omega
       exact .inr ⟨i, by omega, h2', hDj.mpr (.inl h3)⟩
     ·rcases (setAll_iff _ _ _).mp h1 with h | ⟨_, p, hp, e⟩
      ·exact .inr ⟨i, by omega, h, h2⟩
      ·exact .inr ⟨j, by omega, hb, hDj.mpr (.inr ⟨hq, p, hp, by rw [e]; exact h2⟩)⟩
   ·have hs : stepR pb l j met = met := by unfold stepR; rw [if_neg (fun h => hq h.2)]
    rw [hs]
    constructor
    ·rintro (⟨i, h0, h1, h2, h3⟩ | ⟨i, h0, h1, h2⟩)
     ·exact .inl ⟨i, by omega, h1, h2, h3⟩
     ·rcases Nat.lt_or_ge i j with c | c
      ·exact .inr ⟨i, c, h1, h2⟩
      ·obtain rfl : i = j := by omega
       rcases hDj.mp h2 with h | ⟨h, _⟩
       ·exact .inl ⟨i, by omega, by omega, hb, h⟩
       ·exact absurd h hq
    ·rintro (⟨i, h0, h1, h2, h3⟩ | ⟨i, h0, h1, h2⟩)
     ·rcases Nat.lt_or_ge j i with c | c
      ·exact .inl ⟨i, by omega, h1, h2, h3⟩
      ·obtain rfl : i = j := by omega
       exact .inr ⟨i, by omega, h2, hDj.mpr (.inl h3)⟩
     ·exact .inr ⟨i, by omega, h1, h2⟩
  ·have hs : stepR pb l j met = met := by unfold stepR; rw [if_neg (fun h => hb h.1)]
   rw [hs]
   constructor
   ·rintro (⟨i, h0, h1, h2, h3⟩ | ⟨i, h0, h1, h2⟩)
    ·exact .inl ⟨i, by omega, h1, h2, h3⟩
    ·rcases Nat.lt_or_ge i j with c | c
     ·exact .inr ⟨i, c, h1, h2⟩
     ·obtain rfl : i = j := by omega
      exact absurd h1 hb
   ·rintro (⟨i, h0, h1, h2, h3⟩ | ⟨i, h0, h1, h2⟩)
    ·rcases Nat.lt_or_ge j i with c | c
     ·exact .inl ⟨i, by omega, h1, h2, h3⟩
     ·obtain rfl : i = j := by omega
      exact absurd h2 hb
    ·exact .inr ⟨i, by omega, h1, h2⟩
theorem reach_gen (pb : Nat → Bool) (Q D : Nat → Prop) (l : List S31) (hP : PartsIn l) (hD : ∀ i < l.length, D i ↔ Q i ∨ (pb i = true ∧ ∃ p ∈ pl l i, D p.toNat)) (root : Nat) (hr : root < l.length) :
  (∃ i < l.length, (reachL pb l root).getD i false = true ∧ Q i) ↔ D root := by
 unfold reachL
 rw [← reach_gen0 pb Q D l hP hD (root + 1) _ (by omega) (by simp)]
 have hm : ∀ i, ((List.replicate l.length false).set root true).getD i false = true ↔ i = root := by
  intro i
  rw [List.getD_eq_getElem?_getD, List.getElem?_set]
  by_cases c : root = i
  ·subst c; rw [if_pos rfl, if_pos (by simpa using hr)]; simp
  ·rw [if_neg c, List.getElem?_replicate]
   split <;> simp <;> omega
 constructor
 ·rintro (⟨i, a, _, b, _⟩ | ⟨i, _, b, c⟩)
  ·have := (hm i).mp b; omega
  ·rw [(hm i).mp b] at c; exact c
 ·intro h; exact .inr ⟨root, by omega, (hm _).mpr rfl, h⟩
/-- Through which nodes v is looked for. -/
def pbv (l : List S31) (v : Int) (i : Nat) : Bool := !(((rd_T31 l (i : Int)).f0 == 19) || ((rd_T31 l (i : Int)).f0 == 20)) || ((rd_T31 l (i : Int)).f2 != v)
theorem pbv_iff (l : List S31) (v : Int) (i : Nat) : pbv l v i = true ↔ ¬ (isQ l i ∧ (rd_T31 l (i : Int)).f2 = v) := by
 unfold pbv isQ
 simp only [Bool.or_eq_true, Bool.not_eq_true', Bool.or_eq_false_iff, beq_eq_false_iff_ne, bne_iff_ne]
 omega
theorem fs_reach {l : List S31} (hP : PartsIn l) (v : Int) (w root : Nat) (hr : root < l.length) :
  (∃ i < l.length, (reachL (pbv l v) l root).getD i false = true ∧ ((rd_T31 l (i : Int)).f0 = 1 ∧ (rd_T31 l (i : Int)).f2 = v ∧ (rd_T31 l (i : Int)).f1.toNat = w)) ↔ (fs (T l root) v).testBit w = true :=
 reach_gen (pbv l v) _ (fun i => (fs (T l i) v).testBit w = true) l hP (fun i hi => by rw [fs_bit hP i hi, pbv_iff]) root hr
theorem suitsA_ev (l : List S31) (met : List Bool) (v x : Int) (d : Nat) : ∀ i : Nat, i + d = l.length →
  ∃ r, suitsA l met v x d i = some r ∧ (r = true ↔ ∀ j, i ≤ j → j < l.length → met.getD j false = true → (rd_T31 l (j : Int)).f0 = 1 → (rd_T31 l (j : Int)).f2 = v → wok (rd_T31 l (j : Int)).f1 x = true) := by
 induction d with
 | zero => intro i hi; exact ⟨true, rfl, fun _ j a b => absurd b (by omega), fun _ => rfl⟩
 | succ d ih =>
  intro i hi
  obtain ⟨r, e, h⟩ := ih (i + 1) (by omega)
  unfold suitsA
  by_cases c : (met.getD i false && (rd_T31 l (i : Int)).f0 == 1 && (rd_T31 l (i : Int)).f2 == v) = true
  ·rw [if_pos c, wokI]
   simp only [Bool.and_eq_true, beq_iff_eq] at c
   by_cases hw : wok (rd_T31 l (i : Int)).f1 x = true
   ·refine ⟨r, by rw [hw]; exact e, ?_⟩
    rw [h]
    constructor
    ·intro a j h1 h2 h3 h4 h5
     by_cases cj : j = i
     ·subst cj; exact hw
     ·exact a j (by omega) h2 h3 h4 h5
    ·intro a j h1 h2 h3 h4 h5; exact a j (by omega) h2 h3 h4 h5
   ·rw [Bool.not_eq_true] at hw
    refine ⟨false, by rw [hw]; rfl, fun h => absurd h (by decide), fun a => ?_⟩
    have := a i (by omega) (by omega) c.1.1 c.1.2 c.2
    rw [hw] at this
    exact absurd this (by decide)
  ·rw [if_neg c]
   simp only [Bool.and_eq_true, beq_iff_eq] at c
   refine ⟨r, e, ?_⟩
   rw [h]
   constructor
   ·intro a j h1 h2 h3 h4 h5
    by_cases cj : j = i
    ·subst cj; exact absurd ⟨⟨h3, h4⟩, h5⟩ c
    ·exact a j (by omega) h2 h3 h4 h5
   ·intro a j h1 h2 h3 h4 h5; exact a j (by omega) h2 h3 h4 h5
theorem suitsQ_iff (l : List S31) (met : List Bool) (Kq B : Int) (d : Nat) : ∀ i : Nat, i + d = l.length →
  (suitsQ l met Kq B d i = true ↔ ∀ j, i ≤ j → j < l.length → met.getD j false = true → (rd_T31 l (j : Int)).f0 = 1 → (rd_T31 l (j : Int)).f2 = Kq → (rd_T31 l (j : Int)).f1 = B) := by
 induction d with
 | zero => intro i hi; exact ⟨fun _ j a b => absurd b (by omega), fun _ => rfl⟩
 | succ d ih =>
  intro i hi
  have h := ih (i + 1) (by omega)
  unfold suitsQ
  by_cases c : (met.getD i false && (rd_T31 l (i : Int)).f0 == 1 && (rd_T31 l (i : Int)).f2 == Kq && (rd_T31 l (i : Int)).f1 != B) = true
  ·rw [if_pos c]
   simp only [Bool.and_eq_true, beq_iff_eq, bne_iff_ne] at c
   exact ⟨fun h => absurd h (by decide), fun a => absurd (a i (by omega) (by omega) c.1.1.1 c.1.1.2 c.1.2) c.2⟩
  ·rw [if_neg c, h]
   simp only [Bool.and_eq_true, beq_iff_eq, bne_iff_ne] at c
   constructor
   ·intro a j h1 h2 h3 h4 h5
    by_cases cj : j = i
    ·subst cj; exact Classical.byContradiction fun h6 => c ⟨⟨⟨h3, h4⟩, h5⟩, h6⟩
    ·exact a j (by omega) h2 h3 h4 h5
   ·intro a j h1 h2 h3 h4 h5; exact a j (by omega) h2 h3 h4 h5
theorem freeAt_ev {l : List S31} (hl : l.length ≤ 80) (h0 : 1 ≤ l.length) (hP : PartsIn l) (v : Int) : Ev (fun k => impl_freeAt.f k l v) (reachL (pbv l v) l (l.length - 1)) := by
 unfold impl_freeAt.f
 rw [wrap_id (by omega) (by omega), show (l.length : Int) - 1 = ((l.length - 1 : Nat) : Int) by omega]
 refine reach_ev _ (pbv l v) l (by omega) hP (fun i hi => ?_) (l.length - 1) (by omega)
 unfold impl_freeAt_1.f
 rw [if_pos (by omega), if_pos (by omega)]; rfl
theorem suitsV_ev {l : List S31} (hN : NodesOk l) (hl : l.length ≤ 80) (h0 : 1 ≤ l.length) (env : List Int) (he : env.length = 8) (d : Nat) : ∀ v : Nat, v + d = 8 →
  ∃ r, Ev (fun k => suitsV k l env d v) r ∧ (r = true ↔ ∀ u : Nat, v ≤ u → u < 8 → ∀ w : Nat, (fs (T l (l.length - 1)) (u : Int)).testBit w = true → wok (w : Int) (rd env (u : Int)) = true) := by
 have hP := parts_in hN
 induction d with
 | zero =>
  intro v hv
  refine ⟨true, by unfold suitsV; exact ev_now, fun _ u a b => absurd b (by omega), fun _ => rfl⟩
 | succ d ih =>
  intro v hv
  obtain ⟨r, e, h⟩ := ih (v + 1) (by omega)
  obtain ⟨ra, ea, ha⟩ := suitsA_ev l (reachL (pbv l (v : Int)) l (l.length - 1)) (v : Int) (rd env (v : Int)) l.length 0 (by omega)
  have hv2 : ra = true ↔ ∀ w : Nat, (fs (T l (l.length - 1)) (v : Int)).testBit w = true → wok (w : Int) (rd env (v : Int)) = true := by
   rw [ha]
   constructor
   ·intro a w hw
    obtain ⟨j, hj, hm, h1, h2, h3⟩ := (fs_reach hP (v : Int) w (l.length - 1) (by omega)).mpr hw
    have := a j (by omega) hj hm h1 h2
    have hf := node_facts hN j hj
    rwa [show ((w : Nat) : Int) = (rd_T31 l (j : Int)).f1 by omega]
   ·intro a j _ hj hm h1 h2
    have := a (rd_T31 l (j : Int)).f1.toNat ((fs_reach hP (v : Int) _ (l.length - 1) (by omega)).mp ⟨j, hj, hm, h1, h2, rfl⟩)
    have hf := node_facts hN j hj
    rwa [Int.toNat_of_nonneg (by omega)] at this
  have pre : ∀ r', Ev (fun k => if ra = true then suitsV k l env d (v + 1) else some false) r' → Ev (fun k => suitsV k l env (d + 1) v) r' := by
   intro r' H
   unfold suitsV
   exact ev_pos (by omega) (ev_bind (freeAt_ev hl h0 hP (v : Int)) (ev_pos (reachL_len _ _ _) (ev_bind0 ea H)))
  by_cases c : ra = true
  ·refine ⟨r, pre r (ev_pos c e), ?_⟩
   rw [h]
   constructor
   ·intro a u h1 h2
    by_cases cu : u = v
    ·subst cu; exact hv2.mp c
    ·exact a u (by omega) h2
   ·intro a u h1 h2; exact a u (by omega) h2
  ·refine ⟨false, pre false (ev_neg c ev_now), fun h => absurd h (by decide), fun a => absurd (hv2.mpr (a v (by omega) (by omega))) c⟩
theorem qn_iff {l : List S31} (hN : NodesOk l) (i : Nat) (hi : i < l.length) (hq : isQ l i) : (suitsQ l (reachL (pbv l (rd_T31 l (i : Int)).f2) l (rd_T31 l (i : Int)).f3.toNat) (rd_T31 l (i : Int)).f2 (rd_T31 l (i : Int)).f4 l.length 0 = true ↔ qn l i) := by
 have hP := parts_in hN
 obtain ⟨_, hB, ⟨a0, a1⟩, _, _⟩ := node_quant hN i hi hq
 rw [suitsQ_iff _ _ _ _ l.length 0 (by omega)]
 have : qn l i ↔ (fs (T l (rd_T31 l (i : Int)).f3.toNat) (rd_T31 l (i : Int)).f2 = 0 ∨ fs (T l (rd_T31 l (i : Int)).f3.toNat) (rd_T31 l (i : Int)).f2 = 2 ^ (rd_T31 l (i : Int)).f4.toNat) := ⟨fun h => h hq, fun h _ => h⟩
 rw [this, ← bits_one]
 constructor
 ·intro a w hw
  obtain ⟨j, hj, hm, h1, h2, h3⟩ := (fs_reach hP _ w (rd_T31 l (i : Int)).f3.toNat (by omega)).mpr hw
  have := a j (by omega) hj hm h1 h2
  omega
 ·intro a j _ hj hm h1 h2
  have := a (rd_T31 l (j : Int)).f1.toNat ((fs_reach hP _ _ (rd_T31 l (i : Int)).f3.toNat (by omega)).mp ⟨j, hj, hm, h1, h2, rfl⟩)
  have hf := node_facts hN j hj
  omega
theorem suitsR_ev {l : List S31} (hN : NodesOk l) (hl : l.length ≤ 80) (rch : List Bool) (d : Nat) : ∀ i : Nat, i + d = l.length →
  ∃ r, Ev (fun k => suitsR k l rch d i) r ∧ (r = true ↔ ∀ j, i ≤ j → j < l.length → rch.getD j false = true → qn l j) := by
 have hP := parts_in hN
 induction d with
 | zero => intro i hi; exact ⟨true, by unfold suitsR; exact ev_now, fun _ j a b => absurd b (by omega), fun _ => rfl⟩
 | succ d ih =>
  intro i hi
  have hlt : i < l.length := by omega
  obtain ⟨r, e, h⟩ := ih (i + 1) (by omega)
  have step : (rch.getD i false = true → qn l i) → (r = true ↔ ∀ j, i ≤ j → j < l.length → rch.getD j false = true → qn l j) := by
   intro hq
   rw [h]
   constructor
   ·intro a j h1 h2 h3
    by_cases cj : j = i
    ·subst cj; exact hq h3
    ·exact a j (by omega) h2 h3
   ·intro a j h1 h2 h3; exact a j (by omega) h2 h3
  unfold suitsR
  by_cases c : (rch.getD i false && ((rd_T31 l (i : Int)).f0 == 19 || (rd_T31 l (i : Int)).f0 == 20)) = true
  ·have hc := c
   simp only [Bool.and_eq_true, Bool.or_eq_true, beq_iff_eq] at hc
   have hq : isQ l i := hc.2
   obtain ⟨_, hB, ⟨a0, a1⟩, _, _⟩ := node_quant hN i hlt hq
   have hre := reach_ev (impl_suits_1.f l (rd_T31 l (i : Int)).f2) (pbv l (rd_T31 l (i : Int)).f2) l (by omega) hP (fun t ht => by
    unfold impl_suits_1.f
    rw [if_pos (by omega), if_pos (by omega)]; rfl) (rd_T31 l (i : Int)).f3.toNat (by omega)
   rw [Int.toNat_of_nonneg a0] at hre
   by_cases hs : suitsQ l (reachL (pbv l (rd_T31 l (i : Int)).f2) l (rd_T31 l (i : Int)).f3.toNat) (rd_T31 l (i : Int)).f2 (rd_T31 l (i : Int)).f4 l.length 0 = true
   ·exact ⟨r, ev_pos c (ev_bind hre (ev_pos (reachL_len _ _ _) (ev_pos hs e))), step (fun _ => (qn_iff hN i hlt hq).mp hs)⟩
   ·refine ⟨false, ev_pos c (ev_bind hre (ev_pos (reachL_len _ _ _) (ev_neg hs ev_now))), fun h => absurd h (by decide), fun a => ?_⟩
    exact absurd ((qn_iff hN i hlt hq).mpr (a i (by omega) hlt hc.1)) hs
  ·refine ⟨r, ev_neg c e, step (fun hr hq => ?_)⟩
   refine absurd ?_ c
   unfold isQ at hq
   rw [hr, Bool.true_and]; simpa using hq
theorem suits_ev {l : List S31} (hN : NodesOk l) (hl : l.length ≤ 80) (h0 : 1 ≤ l.length) (env : List Int) (he : env.length = 8) :
  ∃ r, Ev (fun k => impl_suits.f k l env) r ∧ (r = true ↔ (rootC (T l (l.length - 1)) env ∧ ∀ i < l.length, (reachL (fun _ => true) l (l.length - 1)).getD i false = true → qn l i)) := by
 have hP := parts_in hN
 obtain ⟨rv, ev, hv⟩ := suitsV_ev hN hl h0 env he 8 0 (by omega)
 obtain ⟨rr, er, hr⟩ := suitsR_ev hN hl (reachL (fun _ => true) l (l.length - 1)) l.length 0 (by omega)
 have hv2 : rv = true ↔ rootC (T l (l.length - 1)) env := by
  rw [hv]; exact ⟨fun a v h => a v (by omega) h, fun a v _ h => a v h⟩
 have hr2 : rr = true ↔ ∀ i < l.length, (reachL (fun _ => true) l (l.length - 1)).getD i false = true → qn l i := by
  rw [hr]; exact ⟨fun a v h => a v (by omega) h, fun a v _ h => a v h⟩
 unfold impl_suits.f
 by_cases c : rv = true
 ·exact ⟨rr, ev_pos (by omega) (ev_bind ev (ev_pos c (ev_bind (reached_ev l (by omega) h0 hP) (ev_pos (reachL_len _ _ _) er)))), by rw [hr2]; exact ⟨fun a => ⟨hv2.mp c, a⟩, fun a => a.2⟩⟩
 ·exact ⟨false, ev_pos (by omega) (ev_bind ev (ev_neg c ev_now)), fun h => absurd h (by decide), fun a => absurd (hv2.mpr a.1) c⟩
/-! ### The pruned term: the same trees -/
theorem rgo_keep (pb : Nat → Bool) (l : List S31) (j : Nat) : ∀ (met : List Bool) (i : Nat), met.getD i false = true → (rgo pb l j met).getD i false = true := by
 induction j with
 | zero => intro met i h; exact h
 | succ j ih =>
  intro met i h
  refine ih _ i ?_
  unfold stepR
  split
  ·exact setAll_mono _ _ _ h
  ·exact h
theorem reach_root (pb : Nat → Bool) (l : List S31) (root : Nat) (hr : root < l.length) : (reachL pb l root).getD root false = true := by
 unfold reachL
 refine rgo_keep pb l _ _ _ ?_
 rw [List.getD_eq_getElem?_getD, List.getElem?_set, if_pos rfl, if_pos (by simpa using hr)]; rfl
theorem cntL_lt (met : List Bool) (j : Nat) (hm : met.getD j false = true) (i : Nat) (h : j < i) : cntL met j < cntL met i := by
 induction i with
 | zero => omega
 | succ i ih =>
  have e : cntL met (i + 1) = cntL met i + (if met.getD i false = true then 1 else 0) := rfl
  rw [e]
  by_cases c : j = i
  ·subst c; rw [if_pos hm]; omega
  ·have := ih (by omega); omega
theorem cntL_onto (met : List Bool) (n : Nat) : ∀ t < cntL met n, ∃ j < n, met.getD j false = true ∧ cntL met j = t := by
 induction n with
 | zero => intro t h; exact absurd h (by simp [cntL])
 | succ n ih =>
  intro t h
  have e : cntL met (n + 1) = cntL met n + (if met.getD n false = true then 1 else 0) := rfl
  rw [e] at h
  by_cases c : t < cntL met n
  ·obtain ⟨j, a, b⟩ := ih t c; exact ⟨j, by omega, b⟩
  ·by_cases hm : met.getD n false = true
   ·rw [if_pos hm] at h; exact ⟨n, by omega, hm, by omega⟩
   ·rw [if_neg hm] at h; omega
theorem renN_congr {g g' : Int → Int} {n : S31} (h : ∀ p ∈ partsL n.f0 n.f3 n.f4 n.f5, g p = g' p) : renN g n = renN g' n := by
 unfold renN
 have hlen := partsL_len n.f0 n.f3 n.f4 n.f5
 unfold partsL at h ⊢
 by_cases c1 : n.f0 = 2 ∨ n.f0 = 17 ∨ n.f0 = 19 ∨ n.f0 = 20
 ·rw [if_pos c1] at h ⊢
  simp at h ⊢; exact h
 rw [if_neg c1] at h ⊢
 by_cases c2 : 3 ≤ n.f0 ∧ n.f0 ≤ 16
 ·rw [if_pos c2] at h ⊢
  simp at h ⊢; exact h
 rw [if_neg c2] at h ⊢
 by_cases c3 : n.f0 = 18
 ·rw [if_pos c3] at h ⊢
  simp at h ⊢; exact h
 ·rw [if_neg c3]; simp
theorem renN_parts (g : Int → Int) (n : S31) : partsL (renN g n).f0 (renN g n).f3 (renN g n).f4 (renN g n).f5 = (partsL n.f0 n.f3 n.f4 n.f5).map g := by
 unfold renN partsL
 simp only []
 by_cases c1 : n.f0 = 2 ∨ n.f0 = 17 ∨ n.f0 = 19 ∨ n.f0 = 20
 ·simp only [if_pos c1]; simp
 simp only [if_neg c1]
 by_cases c2 : 3 ≤ n.f0 ∧ n.f0 ≤ 16
 ·simp only [if_pos c2]; simp
 simp only [if_neg c2]
 by_cases c3 : n.f0 = 18
 ·simp only [if_pos c3]; simp
 ·simp only [if_neg c3]; simp
theorem renN_f4 (g : Int → Int) (n : S31) (h : (partsL n.f0 n.f3 n.f4 n.f5).length ≤ 1) : (renN g n).f4 = n.f4 := by
 show (if 1 < (partsL n.f0 n.f3 n.f4 n.f5).length then g n.f4 else n.f4) = n.f4
 rw [if_neg (by omega)]
theorem renN_f3 (g : Int → Int) (n : S31) (h : (partsL n.f0 n.f3 n.f4 n.f5).length = 0) : (renN g n).f3 = n.f3 := by
 show (if 0 < (partsL n.f0 n.f3 n.f4 n.f5).length then g n.f3 else n.f3) = n.f3
 rw [if_neg (by omega)]
theorem renN_f5 (g : Int → Int) (n : S31) (h : (partsL n.f0 n.f3 n.f4 n.f5).length ≤ 2) : (renN g n).f5 = n.f5 := by
 show (if 2 < (partsL n.f0 n.f3 n.f4 n.f5).length then g n.f5 else n.f5) = n.f5
 rw [if_neg (by omega)]
theorem kept_get {l : List S31} (hP : PartsIn l) (met : List Bool) (hc : ∀ i < l.length, met.getD i false = true → ∀ p ∈ pl l i, met.getD p.toNat false = true) (i : Nat) : i ≤ l.length → ∀ j < i, met.getD j false = true → (keptS l met i).2[cntL met j]? = some (renN (fun p => (cntL met p.toNat : Int)) (rd_T31 l (j : Int))) := by
 induction i with
 | zero => intro _ j h; omega
 | succ i ih =>
  intro hi j hj hm
  have inv := kept_inv l met i (by omega)
  unfold keptS
  by_cases hb : met.getD i false = true
  ·rw [if_pos hb]
   by_cases c : j = i
   ·subst c
    show ((keptS l met j).2 ++ [_])[cntL met j]? = _
    rw [← inv.1, List.getElem?_append_right (Nat.le_refl _), Nat.sub_self]
    show some _ = some _
    congr 1
    refine renN_congr (fun p hp => ?_)
    have hpp : p ∈ pl l j := hp
    have hin := hP j (by omega) p hpp
    have hmp := hc j (by omega) hb p hpp
    have := inv.2 p.toNat (by omega) hmp
    show ((keptS l met j).1.set j _).getD p.toNat 0 = _
    rw [List.getD_eq_getElem?_getD, List.getElem?_set, if_neg (by omega), ← List.getD_eq_getElem?_getD]
    exact this
   ·show ((keptS l met i).2 ++ [_])[cntL met j]? = _
    have := cntL_lt met j hm i (by omega)
    rw [List.getElem?_append_left (by omega)]
    exact ih (by omega) j (by omega) hm
  ·rw [if_neg hb]
   have c : j ≠ i := fun e => hb (e ▸ hm)
   exact ih (by omega) j (by omega) hm
/-- Which nodes are reached. -/
def rl (l : List S31) : List Bool := reachL (fun _ => true) l (l.length - 1)
theorem prun_len {l : List S31} : (prunL l).length = cntL (rl l) l.length := (kept_inv l (rl l) l.length (Nat.le_refl _)).1
theorem prun_get {l : List S31} (hP : PartsIn l) (h0 : 1 ≤ l.length) (j : Nat) (hj : j < l.length) (hm : (rl l).getD j false = true) : rd_T31 (prunL l) ((cntL (rl l) j : Nat) : Int) = renN (fun p => (cntL (rl l) p.toNat : Int)) (rd_T31 l (j : Int)) := by
 have := kept_get hP (rl l) (reach_closed l hP _ (by omega)) l.length (Nat.le_refl _) j hj hm
 show (prunL l).getD (cntL (rl l) j) _ = _
 rw [List.getD_eq_getElem?_getD]
 unfold prunL
 show ((keptS l (rl l) l.length).2[cntL (rl l) j]?).getD _ = _
 rw [this]; rfl
theorem prun_onto {l : List S31} (t : Nat) (ht : t < (prunL l).length) : ∃ j < l.length, (rl l).getD j false = true ∧ cntL (rl l) j = t := by
 rw [prun_len] at ht
 exact cntL_onto (rl l) l.length t ht
theorem prun_pl {l : List S31} (hP : PartsIn l) (h0 : 1 ≤ l.length) (j : Nat) (hj : j < l.length) (hm : (rl l).getD j false = true) : pl (prunL l) (cntL (rl l) j) = (pl l j).map fun p => (cntL (rl l) p.toNat : Int) := by
 unfold pl
 rw [prun_get hP h0 j hj hm]
 exact renN_parts _ _
theorem prun_parts {l : List S31} (hP : PartsIn l) (h0 : 1 ≤ l.length) : PartsIn (prunL l) := by
 intro t ht p hp
 obtain ⟨j, hj, hm, rfl⟩ := prun_onto t ht
 rw [prun_pl hP h0 j hj hm] at hp
 obtain ⟨q, hq, rfl⟩ := List.mem_map.mp hp
 have hin := hP j hj q hq
 have hmq := reach_closed l hP (l.length - 1) (by omega) j hj hm q hq
 have := cntL_lt (rl l) q.toNat hmq j (by omega)
 omega
theorem mkT_B (op W K B B' : Int) (ts : List Tm) (h : ts.length ≠ 1) : mkT op W K B ts = mkT op W K B' ts := by
 match ts with
 | [] => rfl
 | [a] => exact absurd rfl h
 | [a, b] => rfl
 | a :: b :: c :: d => rfl
theorem prun_T {l : List S31} (hP : PartsIn l) (h0 : 1 ≤ l.length) (j : Nat) : j < l.length → (rl l).getD j false = true → T (prunL l) (cntL (rl l) j) = T l j := by
 have hP' := prun_parts hP h0
 induction j using Nat.strongRecOn with
 | ind j ih =>
  intro hj hm
  have hlt : cntL (rl l) j < (prunL l).length := by rw [prun_len]; exact cntL_lt (rl l) j hm l.length hj
  rw [T_eq hP' _ hlt, T_eq hP j hj, prun_pl hP h0 j hj hm, prun_get hP h0 j hj hm, List.map_map]
  have hmap : (pl l j).map ((fun p => T (prunL l) p.toNat) ∘ fun p => (cntL (rl l) p.toNat : Int)) = (pl l j).map fun p => T l p.toNat := by
   refine List.map_congr_left (fun p hp => ?_)
   have hin := hP j hj p hp
   have hmp := reach_closed l hP (l.length - 1) (by omega) j hj hm p hp
   show T (prunL l) ((cntL (rl l) p.toNat : Nat) : Int).toNat = _
   rw [Int.toNat_natCast]
   exact ih p.toNat (by omega) (by omega) hmp
  rw [hmap]
  show mkT (rd_T31 l (j : Int)).f0 (rd_T31 l (j : Int)).f1 (rd_T31 l (j : Int)).f2 _ _ = _
  by_cases c : (pl l j).length ≤ 1
  ·rw [renN_f4 _ _ c]
  ·exact mkT_B _ _ _ _ _ _ (by rw [List.length_map]; omega)
/-- The width told of part t. -/
def wpos (l : List S31) (i t : Nat) : Int := if t < (pl l i).length then (rd_T31 l (rd (pl l i) (t : Int))).f1 else 0
theorem nodeB_iff (l : List S31) (i : Nat) (hi : i ≤ l.length) : nodeB l i = true ↔ ((1 ≤ (rd_T31 l (i : Int)).f1 ∧ (rd_T31 l (i : Int)).f1 ≤ 8) ∧ (0 ≤ (rd_T31 l (i : Int)).f0 ∧ (rd_T31 l (i : Int)).f0 ≤ 20) ∧ usesB (rd_T31 l (i : Int)).f0 (rd_T31 l (i : Int)).f2 (rd_T31 l (i : Int)).f3 (rd_T31 l (i : Int)).f4 (rd_T31 l (i : Int)).f5 = true ∧ (∀ p ∈ pl l i, 0 ≤ p ∧ p < (i : Int)) ∧ rightSw (rd_T31 l (i : Int)).f0 (rd_T31 l (i : Int)).f1 (rd_T31 l (i : Int)).f2 (rd_T31 l (i : Int)).f4 (wpos l i 0) (wpos l i 1) (wpos l i 2) = true) := by
 have hin : (partsL (rd_T31 l (i : Int)).f0 (rd_T31 l (i : Int)).f3 (rd_T31 l (i : Int)).f4 (rd_T31 l (i : Int)).f5).all (fun p => inB p 0 (((l.take i).length : Int) - 1)) = true ↔ ∀ p ∈ pl l i, 0 ≤ p ∧ p < (i : Int) := by
  rw [List.all_eq_true, List.length_take, Nat.min_eq_left hi]
  exact ⟨fun h p hp => by have := inB_iff.mp (h p hp); omega, fun h p hp => inB_iff.mpr (by have := h p hp; omega)⟩
 have hw : (∀ p ∈ pl l i, 0 ≤ p ∧ p < (i : Int)) → ∀ t, wv (l.take i) (pl l i) (pl l i).length t = wpos l i t := by
  intro h t
  unfold wv wpos
  by_cases ht : t < (pl l i).length
  ·have := h (rd (pl l i) (t : Int)) (by rw [rdI (pl l i) t ht]; exact List.getElem_mem _)
   rw [if_pos ht, if_pos ht, rd_take l i _ this.1 this.2]
  ·rw [if_neg ht, if_neg ht]
 have hpl : partsL (rd_T31 l (i : Int)).f0 (rd_T31 l (i : Int)).f3 (rd_T31 l (i : Int)).f4 (rd_T31 l (i : Int)).f5 = pl l i := rfl
 unfold nodeB rightB
 simp only [Bool.and_eq_true]
 rw [hin, inB_iff, inB_iff, hpl]
 constructor
 ·rintro ⟨⟨⟨⟨a, b⟩, c⟩, d⟩, e⟩
  rw [hw d, hw d, hw d] at e
  exact ⟨a, b, c, d, e⟩
 ·rintro ⟨a, b, c, d, e⟩
  refine ⟨⟨⟨⟨a, b⟩, c⟩, d⟩, ?_⟩
  rw [hw d, hw d, hw d]; exact e
theorem rightSw_B (op W K B B' u v x : Int) (h0 : 0 ≤ op) (h20 : op ≤ 20) (h : op = 19 ∨ op = 20 → B = B') : rightSw op W K B u v x = rightSw op W K B' u v x := by
 by_cases c : op = 19 ∨ op = 20
 ·rw [h c]
 ·unfold rightSw
  by_cases c0 : op = 0
  ·rw [if_pos c0, if_pos c0]
  rw [if_neg c0, if_neg c0]
  by_cases c1 : op = 1
  ·rw [if_pos c1, if_pos c1]
  rw [if_neg c1, if_neg c1]
  by_cases c2 : op = 2
  ·rw [if_pos c2, if_pos c2]
  rw [if_neg c2, if_neg c2]
  by_cases c3 : 3 ≤ op ∧ op ≤ 12
  ·rw [if_pos c3, if_pos c3]
  rw [if_neg c3, if_neg c3]
  by_cases c4 : 13 ≤ op ∧ op ≤ 15
  ·rw [if_pos c4, if_pos c4]
  rw [if_neg c4, if_neg c4]
  by_cases c5 : op = 16
  ·rw [if_pos c5, if_pos c5]
  rw [if_neg c5, if_neg c5]
  by_cases c6 : op = 17
  ·rw [if_pos c6, if_pos c6]
  rw [if_neg c6, if_neg c6]
  rw [if_pos (by omega), if_pos (by omega)]
theorem usesB_ren (g : Int → Int) (n : S31) (h : usesB n.f0 n.f2 n.f3 n.f4 n.f5 = true) : usesB (renN g n).f0 (renN g n).f2 (renN g n).f3 (renN g n).f4 (renN g n).f5 = true := by
 show usesB n.f0 n.f2 (renN g n).f3 (renN g n).f4 (renN g n).f5 = true
 have p0 : ¬ (n.f0 = 2 ∨ n.f0 = 17 ∨ n.f0 = 19 ∨ n.f0 = 20) → ¬ (3 ≤ n.f0 ∧ n.f0 ≤ 16) → ¬ n.f0 = 18 → (partsL n.f0 n.f3 n.f4 n.f5).length = 0 := by
  intro a b c; unfold partsL; rw [if_neg a, if_neg b, if_neg c]; rfl
 have p1 : (n.f0 = 2 ∨ n.f0 = 17 ∨ n.f0 = 19 ∨ n.f0 = 20) → (partsL n.f0 n.f3 n.f4 n.f5).length = 1 := by
  intro a; unfold partsL; rw [if_pos a]; rfl
 have p2 : (3 ≤ n.f0 ∧ n.f0 ≤ 16) ∧ ¬ n.f0 = 2 → (partsL n.f0 n.f3 n.f4 n.f5).length = 2 := by
  intro a; unfold partsL; rw [if_neg (by omega), if_pos a.1]; rfl
 unfold usesB at h ⊢
 by_cases c0 : n.f0 = 0 ∨ n.f0 = 1
 ·have hp := p0 (by omega) (by omega) (by omega)
  rw [renN_f3 g n hp, renN_f4 g n (by omega), renN_f5 g n (by omega)]
  exact h
 rw [if_neg c0] at h ⊢
 by_cases c1 : n.f0 = 17
 ·have hp := p1 (by omega)
  rw [if_pos c1] at h ⊢
  rw [renN_f4 g n (by omega), renN_f5 g n (by omega)]
  exact h
 rw [if_neg c1] at h ⊢
 by_cases c2 : n.f0 = 19 ∨ n.f0 = 20
 ·have hp := p1 (by omega)
  rw [if_pos c2] at h ⊢
  rw [renN_f5 g n (by omega)]
  exact h
 rw [if_neg c2] at h ⊢
 by_cases c3 : n.f0 = 2
 ·have hp := p1 (by omega)
  rw [if_pos c3] at h ⊢
  rw [renN_f4 g n (by omega), renN_f5 g n (by omega)]
  exact h
 rw [if_neg c3] at h ⊢
 by_cases c4 : 3 ≤ n.f0 ∧ n.f0 ≤ 16
 ·have hp := p2 (by omega)
  rw [if_pos c4] at h ⊢
  rw [renN_f5 g n (by omega)]
  exact h
 rw [if_neg c4] at h ⊢
 by_cases c5 : n.f0 = 18
 ·rw [if_pos c5] at h ⊢
  exact h
 ·have hp := p0 (by omega) c4 c5
  rw [if_neg c5] at h ⊢
  rw [renN_f3 g n hp, renN_f4 g n (by omega), renN_f5 g n (by omega)]
  exact h
theorem prun_ok {l : List S31} (hN : NodesOk l) (h0 : 1 ≤ l.length) : NodesOk (prunL l) := by
 have hP := parts_in hN
 have hP' := prun_parts hP h0
 intro t ht
 obtain ⟨j, hj, hm, rfl⟩ := prun_onto t ht
 obtain ⟨a, b, c, d, e⟩ := (nodeB_iff l j (by omega)).mp (hN j hj)
 rw [nodeB_iff _ _ (by omega)]
 have hg := prun_get hP h0 j hj hm
 have hpl := prun_pl hP h0 j hj hm
 have e0 : (rd_T31 (prunL l) ((cntL (rl l) j : Nat) : Int)).f0 = (rd_T31 l (j : Int)).f0 := by rw [hg]; rfl
 have e1 : (rd_T31 (prunL l) ((cntL (rl l) j : Nat) : Int)).f1 = (rd_T31 l (j : Int)).f1 := by rw [hg]; rfl
 have e2 : (rd_T31 (prunL l) ((cntL (rl l) j : Nat) : Int)).f2 = (rd_T31 l (j : Int)).f2 := by rw [hg]; rfl
 have hw : ∀ t, wpos (prunL l) (cntL (rl l) j) t = wpos l j t := by
  intro t
  unfold wpos
  rw [hpl, List.length_map]
  by_cases ht : t < (pl l j).length
  ·rw [if_pos ht, if_pos ht]
   have hmem : rd (pl l j) (t : Int) ∈ pl l j := by rw [rdI (pl l j) t ht]; exact List.getElem_mem _
   have hin := hP j hj _ hmem
   have hmp := reach_closed l hP (l.length - 1) (by omega) j hj hm _ hmem
   have er : rd ((pl l j).map fun p => (cntL (rl l) p.toNat : Int)) (t : Int) = (cntL (rl l) (rd (pl l j) (t : Int)).toNat : Int) := by
    rw [rdI _ t (by rw [List.length_map]; exact ht), rdI (pl l j) t ht, List.getElem_map]
   rw [er, prun_get hP h0 _ (by omega) hmp]
   show (rd_T31 l ((rd (pl l j) (t : Int)).toNat : Int)).f1 = _
   rw [Int.toNat_of_nonneg hin.1]
  ·rw [if_neg ht, if_neg ht]
 refine ⟨by rw [e1]; exact a, by rw [e0]; exact b, ?_, hP' _ ht, ?_⟩
 ·rw [hg]; exact usesB_ren _ _ c
 ·rw [hw, hw, hw, e0, e1, e2, rightSw_B _ _ _ _ (rd_T31 l (j : Int)).f4 _ _ _ b.1 b.2]
  ·exact e
  ·intro hq
   rw [hg]
   exact renN_f4 _ _ (by rw [parts_q hq]; simp)
theorem prun_term {l : List S31} (h : TermOkP l) : TermOkP (prunL l) := by
 refine ⟨?_, Nat.le_trans (prunL_le l) h.2.1, prun_ok h.2.2 h.1⟩
 rw [prun_len]
 have := cntL_lt (rl l) (l.length - 1) (reach_root _ l _ (by have := h.1; omega)) l.length (by have := h.1; omega)
 omega
theorem prun_root {l : List S31} (h0 : 1 ≤ l.length) : cntL (rl l) (l.length - 1) = (prunL l).length - 1 := by
 have hm : (rl l).getD (l.length - 1) false = true := reach_root (fun _ => true) l (l.length - 1) (by omega)
 rw [prun_len]
 have e : cntL (rl l) (l.length - 1 + 1) = cntL (rl l) (l.length - 1) + (if (rl l).getD (l.length - 1) false = true then 1 else 0) := rfl
 rw [show l.length - 1 + 1 = l.length by omega] at e
 rw [e, if_pos hm]; omega
theorem prun_rootT {l : List S31} (hP : PartsIn l) (h0 : 1 ≤ l.length) : T (prunL l) ((prunL l).length - 1) = T l (l.length - 1) := by
 rw [← prun_root h0]
 exact prun_T hP h0 _ (by omega) (reach_root _ l _ (by omega))
theorem prun_isQ {l : List S31} (hP : PartsIn l) (h0 : 1 ≤ l.length) (j : Nat) (hj : j < l.length) (hm : (rl l).getD j false = true) : isQ (prunL l) (cntL (rl l) j) ↔ isQ l j := by
 unfold isQ; rw [prun_get hP h0 j hj hm]; exact Iff.rfl
theorem prun_qn {l : List S31} (hP : PartsIn l) (h0 : 1 ≤ l.length) (j : Nat) (hj : j < l.length) (hm : (rl l).getD j false = true) : qn (prunL l) (cntL (rl l) j) ↔ qn l j := by
 unfold qn
 rw [prun_isQ hP h0 j hj hm]
 by_cases hq : isQ l j
 ·have hpl : pl l j = [(rd_T31 l (j : Int)).f3] := parts_q hq
  have hin := hP j hj _ (by rw [hpl]; exact List.mem_singleton.mpr rfl)
  have hmp := reach_closed l hP (l.length - 1) (by omega) j hj hm _ (by rw [hpl]; exact List.mem_singleton.mpr rfl)
  have e3 : (rd_T31 (prunL l) ((cntL (rl l) j : Nat) : Int)).f3 = (cntL (rl l) (rd_T31 l (j : Int)).f3.toNat : Int) := by
   rw [prun_get hP h0 j hj hm]
   unfold renN
   rw [if_pos (by rw [parts_q hq]; simp)]
  have e4 : (rd_T31 (prunL l) ((cntL (rl l) j : Nat) : Int)).f4 = (rd_T31 l (j : Int)).f4 := by
   rw [prun_get hP h0 j hj hm]
   exact renN_f4 _ _ (by rw [parts_q hq]; simp)
  have e2 : (rd_T31 (prunL l) ((cntL (rl l) j : Nat) : Int)).f2 = (rd_T31 l (j : Int)).f2 := by rw [prun_get hP h0 j hj hm]; rfl
  rw [e3, e4, e2, Int.toNat_natCast, prun_T hP h0 _ (by omega) hmp]
 ·exact ⟨fun _ h => absurd h hq, fun _ h => absurd h hq⟩
/-- The bits of the quantifiers ahead of node i that are met. -/
def qsum (l : List S31) (met : Nat → Bool) : Nat → Int
 | 0 => 0
 | i + 1 => if met i = true ∧ isQ l i then qsum l met i + (rd_T31 l (i : Int)).f4 else qsum l met i
theorem qsum_bd {l : List S31} (hN : NodesOk l) (met : Nat → Bool) (i : Nat) : i ≤ l.length → 0 ≤ qsum l met i ∧ qsum l met i ≤ 8 * (i : Int) := by
 induction i with
 | zero => intro _; simp [qsum]
 | succ i ih =>
  intro hi
  have h := ih (by omega)
  unfold qsum
  by_cases c : met i = true ∧ isQ l i
  ·rw [if_pos c]
   have := node_quant hN i (by omega) c.2
   omega
  ·rw [if_neg c]; omega
theorem prun_qsum {l : List S31} (hP : PartsIn l) (h0 : 1 ≤ l.length) (i : Nat) : i ≤ l.length → qsum (prunL l) (fun _ => true) (cntL (rl l) i) = qsum l (fun t => (rl l).getD t false) i := by
 induction i with
 | zero => intro _; rfl
 | succ i ih =>
  intro hi
  have h := ih (by omega)
  have e : cntL (rl l) (i + 1) = cntL (rl l) i + (if (rl l).getD i false = true then 1 else 0) := rfl
  rw [e]
  by_cases hm : (rl l).getD i false = true
  ·rw [if_pos hm]
   unfold qsum
   rw [h]
   have hq := prun_isQ hP h0 i (by omega) hm
   by_cases c : isQ l i
   ·rw [if_pos ⟨rfl, hq.mpr c⟩, if_pos ⟨hm, c⟩]
    rw [prun_get hP h0 i (by omega) hm, renN_f4 _ _ (by unfold isQ at c; rw [parts_q c]; simp)]
   ·rw [if_neg (fun h => c (hq.mp h.2)), if_neg (fun h => c h.2)]
  ·rw [if_neg hm, Nat.add_zero, h]
   show _ = (if _ then _ else _)
   rw [if_neg (fun h => hm h.1)]
/-! ### Value -/
theorem qbits_ev {l : List S31} (hN : NodesOk l) (hl : l.length ≤ 80) (h0 : 1 ≤ l.length) (d : Nat) : ∀ i : Nat, i + d = l.length →
  Ev (fun k => impl_quantBits.l0 k l (qsum l (fun t => (rl l).getD t false) i) (rl l) (l.length : Int) (i : Int)) (qsum l (fun t => (rl l).getD t false) l.length) := by
 induction d with
 | zero =>
  intro i hi
  obtain rfl : i = l.length := by omega
  refine ev_succ ?_
  simp only [impl_quantBits.l0]
  exact ev_neg (by omega) ev_now
 | succ d ih =>
  intro i hi
  have hrl : (rl l).length = l.length := reachL_len _ _ _
  have hbd := qsum_bd hN (fun t => (rl l).getD t false) i (by omega)
  have ih := ih (i + 1) (by omega)
  refine ev_succ ?_
  simp only [impl_quantBits.l0]
  rw [wrap_id (x := (i : Int) + 1) (by omega) (by omega), show (i : Int) + 1 = ((i + 1 : Nat) : Int) by omega]
  refine ev_pos (by omega) (ev_pos (by omega) (ev_pos (by omega) ?_))
  have hm : rdOf false (rl l) (i : Int) = (rl l).getD i false := rfl
  rw [hm]
  have e : qsum l (fun t => (rl l).getD t false) (i + 1) = if (rl l).getD i false = true ∧ isQ l i then qsum l (fun t => (rl l).getD t false) i + (rd_T31 l (i : Int)).f4 else qsum l (fun t => (rl l).getD t false) i := rfl
  rw [e] at ih
  by_cases c : (rl l).getD i false = true
  ·refine ev_pos c (ev_pos (by omega) (ev_bind0 (isqI _ _ _ _ _ _) ?_))
   by_cases q : isQ l i
   ·have hq := node_quant hN i (by omega) q
    rw [if_pos ⟨c, q⟩] at ih
    rw [wrap_id (x := qsum l (fun t => (rl l).getD t false) i + (rd_T31 l (i : Int)).f4) (by omega) (by omega)]
    exact ev_pos (by unfold isQ at q; simpa using q) ih
   ·rw [if_neg (fun h => q h.2)] at ih
    exact ev_neg (by unfold isQ at q; simpa using q) ih
  ·rw [if_neg (fun h => c h.1)] at ih
   exact ev_neg c ih
theorem quantBits_ev {l : List S31} (hN : NodesOk l) (hl : l.length ≤ 80) (h0 : 1 ≤ l.length) : Ev (fun k => impl_quantBits.f k l) (qsum l (fun t => (rl l).getD t false) l.length) := by
 have hP := parts_in hN
 unfold impl_quantBits.f
 refine ev_bind (reached_ev l (by omega) h0 hP) ?_
 have hrl : (reachL (fun _ => true) l (l.length - 1)).length = l.length := reachL_len _ _ _
 have := qbits_ev hN hl h0 l.length 0 (by omega)
 rw [hrl]
 exact this
/-- What the specification does behind the pruning. -/
theorem specVal_l0 {p : List S31} (hN : NodesOk p) (hl : p.length ≤ 80) (env : List Int) (r : Int × Bool)
  (H : Ev (fun k => if qsum p (fun _ => true) p.length > 12 then (some (0, false)) else ((spec_l04Fits.f k p env).bind fun t599 => (if t599 = true then ((some (([] : List Int) : List Int)).bind fun y600 => (if y600.length + env.length < 17592186044416 then ((spec_l04At.f k p (y600 ++ env) (wrap64 ((p.length : Int) - 1))).bind fun bt606 => (some (bt606.1, true))) else (none))) else (some (0, false))))) r) (d : Nat) : ∀ i : Nat, i + d = p.length →
  Ev (fun k => spec_Value.l0 k env p (qsum p (fun _ => true) i) (i : Int)) r := by
 induction d with
 | zero =>
  intro i hi
  obtain rfl : i = p.length := by omega
  refine ev_succ ?_
  simp only [spec_Value.l0]
  exact ev_neg (by omega) H
 | succ d ih =>
  intro i hi
  have hbd := qsum_bd hN (fun _ => true) i (by omega)
  have ih := ih (i + 1) (by omega)
  refine ev_succ ?_
  simp only [spec_Value.l0]
  rw [wrap_id (x := (i : Int) + 1) (by omega) (by omega), show (i : Int) + 1 = ((i + 1 : Nat) : Int) by omega]
  refine ev_pos (by omega) (ev_pos (by omega) (ev_bind0 (isqS _) ?_))
  have e : qsum p (fun _ => true) (i + 1) = if true = true ∧ isQ p i then qsum p (fun _ => true) i + (rd_T31 p (i : Int)).f4 else qsum p (fun _ => true) i := rfl
  rw [e] at ih
  by_cases q : isQ p i
  ·have hq := node_quant hN i (by omega) q
   rw [if_pos ⟨rfl, q⟩] at ih
   rw [wrap_id (x := qsum p (fun _ => true) i + (rd_T31 p (i : Int)).f4) (by omega) (by omega)]
   exact ev_pos (by unfold isQ at q; simpa using q) ih
  ·rw [if_neg (fun h => q h.2)] at ih
   exact ev_neg (by unfold isQ at q; simpa using q) ih
/-- Where a right term has a value. -/
def ValOk (l : List S31) (env : List Int) : Prop := TermOkP l ∧ env.length = 8 ∧ qsum l (fun t => (rl l).getD t false) l.length ≤ 12 ∧ rootC (T l (l.length - 1)) env ∧ ∀ i < l.length, (rl l).getD i false = true → qn l i
/-- What Value answers. -/
theorem Value_both (l : List S31) (env : List Int) : (ValOk l env → Ev (fun k => spec_Value.f k l env) (sem (T l (l.length - 1)) env, true) ∧ Ev (fun k => impl_Value.f k l env) (sem (T l (l.length - 1)) env, true)) ∧ (¬ ValOk l env → Ev (fun k => spec_Value.f k l env) (0, false) ∧ Ev (fun k => impl_Value.f k l env) (0, false)) := by
 obtain ⟨b, e1, e2, hb⟩ := term_ev l
 have jt : Ev (fun k => spec_Value.j0 k l env true) (0, false) := by
  refine ev_succ ?_
  simp only [spec_Value.j0]
  exact ev_pos trivial ev_now
 by_cases hbt : b = true
 ·subst hbt
  have hT := hb.mp rfl
  obtain ⟨h0, hl, hN⟩ := hT
  have hP := parts_in hN
  by_cases he : env.length = 8
  ·-- the pruned term
   have hNp := prun_ok hN h0
   have hTp := prun_term ⟨h0, hl, hN⟩
   have hlp : (prunL l).length ≤ 80 := hTp.2.1
   have h0p : 1 ≤ (prunL l).length := hTp.1
   have hqs : qsum (prunL l) (fun _ => true) (prunL l).length = qsum l (fun t => (rl l).getD t false) l.length := by
    rw [prun_len]; exact prun_qsum hP h0 l.length (Nat.le_refl _)
   have spec : ∀ r, Ev (fun k => if qsum (prunL l) (fun _ => true) (prunL l).length > 12 then (some (0, false)) else ((spec_l04Fits.f k (prunL l) env).bind fun t599 => (if t599 = true then ((some (([] : List Int) : List Int)).bind fun y600 => (if y600.length + env.length < 17592186044416 then ((spec_l04At.f k (prunL l) (y600 ++ env) (wrap64 (((prunL l).length : Int) - 1))).bind fun bt606 => (some (bt606.1, true))) else (none))) else (some (0, false))))) r → Ev (fun k => spec_Value.f k l env) r := by
    intro r H
    unfold spec_Value.f
    refine ev_bind e1 (ev_pos rfl ?_)
    rw [show ((env.length : Int) != 8) = false by rw [he]; rfl]
    refine ev_succ ?_
    simp only [spec_Value.j0]
    exact ev_neg (by decide) (ev_bind (PruneS_ok l ⟨h0, hl, hN⟩ e1) (specVal_l0 hNp hlp env r H (prunL l).length 0 (by omega)))
   have impl : ∀ r, Ev (fun k => (impl_suits.f k l env).bind fun s => (if s = true then (impl_quantBits.f k l).bind fun q => (if q > 12 then some (0, false) else (impl_valueF l k env ((l.length : Int) - 1) (List.replicate l.length (-1))).bind fun p => some (p.1, true)) else some (0, false))) r → Ev (fun k => impl_Value.f k l env) r := by
    intro r H
    unfold impl_Value.f
    exact ev_bind e2 (ev_pos rfl (ev_pos he (ev_pos ⟨h0, by omega⟩ H)))
   obtain ⟨fr, fe, fh⟩ := fits_ev hNp hlp h0p env he
   obtain ⟨sr, se, sh⟩ := suits_ev hN hl h0 env he
   have hfs : fr = true ↔ sr = true := by
    rw [fh, sh, prun_rootT hP h0]
    constructor
    ·rintro ⟨a, b⟩
     exact ⟨b, fun i hi hm => (prun_qn hP h0 i hi hm).mp (a _ (by rw [prun_len]; exact cntL_lt (rl l) i hm l.length hi))⟩
    ·rintro ⟨a, b⟩
     refine ⟨fun t ht => ?_, a⟩
     obtain ⟨j, hj, hm, rfl⟩ := prun_onto t ht
     exact (prun_qn hP h0 j hj hm).mpr (b j hj hm)
   have hqb := quantBits_ev hN hl h0
   have hroot : wrap64 (((prunL l).length : Int) - 1) = (((prunL l).length - 1 : Nat) : Int) := by rw [wrap_id (by omega) (by omega)]; omega
   by_cases hq : qsum l (fun t => (rl l).getD t false) l.length > 12
   ·refine ⟨fun h => absurd hq (by have := h.2.2.1; omega), fun _ => ⟨spec _ (ev_pos (by rw [hqs]; exact hq) ev_now), impl _ (ev_bind se ?_)⟩⟩
    by_cases c : sr = true
    ·exact ev_pos c (ev_bind hqb (ev_pos hq ev_now))
    ·exact ev_neg c ev_now
   ·by_cases c : sr = true
    ·have hc := sh.mp c
     have hg := good_of hN (fun i => (rl l).getD i false = true) (fun i hi hm p hp => reach_closed l hP (l.length - 1) (by omega) i hi hm p hp) hc.2 (l.length - 1) env (by omega) he (reach_root _ l _ (by omega)) hc.1
     obtain ⟨kn, ev_, _, _⟩ := value_ev hN hl (l.length - 1) env (List.replicate l.length (-1)) (by omega) he (by simp) hg (known_blank l _ env rfl)
     have hat := at_ev hNp hlp ((prunL l).length - 1) env (by omega) he
     rw [prun_rootT hP h0] at hat
     refine ⟨fun _ => ⟨spec _ (ev_neg (by rw [hqs]; exact hq) (ev_bind fe (ev_pos (hfs.mpr c) (ev_bind0 rfl (ev_pos (by simp; omega) ?_))))), impl _ (ev_bind se (ev_pos c (ev_bind hqb (ev_neg hq ?_))))⟩, fun h => absurd ⟨⟨h0, hl, hN⟩, he, by omega, hc.1, hc.2⟩ h⟩
     ·rw [hroot, List.nil_append]
      exact ev_bind hat ev_now
     ·rw [show (l.length : Int) - 1 = ((l.length - 1 : Nat) : Int) by omega]
      exact ev_bind ev_ ev_now
    ·refine ⟨fun h => absurd (sh.mpr ⟨h.2.2.2.1, h.2.2.2.2⟩) c, fun _ => ⟨spec _ (ev_neg (by rw [hqs]; exact hq) (ev_bind fe (ev_neg (fun h => c (hfs.mp h)) ev_now))), impl _ (ev_bind se (ev_neg c ev_now))⟩⟩
  ·refine ⟨fun h => absurd h.2.1 he, fun _ => ⟨?_, ?_⟩⟩
   ·unfold spec_Value.f
    refine ev_bind e1 (ev_pos rfl ?_)
    rw [show ((env.length : Int) != 8) = true from bne_iff_ne.mpr (by omega)]
    exact jt
   ·unfold impl_Value.f
    exact ev_bind e2 (ev_pos rfl (ev_neg he ev_now))
 ·refine ⟨fun h => absurd (hb.mpr h.1) hbt, fun _ => ⟨?_, ?_⟩⟩
  ·unfold spec_Value.f
   exact ev_bind e1 (ev_neg hbt jt)
  ·unfold impl_Value.f
   exact ev_bind e2 (ev_neg hbt ev_now)
theorem Value_same (l : List S31) (env : List Int) : ∃ r, Ev (fun k => spec_Value.f k l env) r ∧ Ev (fun k => impl_Value.f k l env) r := by
 by_cases h : ValOk l env
 ·exact ⟨_, (Value_both l env).1 h⟩
 ·exact ⟨_, (Value_both l env).2 h⟩
theorem toInt_from (l : List Int) (hl : l.length ≤ 1048576) (d : Nat) : ∀ (i : Nat) (acc : List Int), i + d = l.length → acc.length = l.length → acc.take i = l.take i → Ev (fun k => laws_toIntS.l0 k l acc (i : Int)) l := by
 induction d with
 | zero =>
  intro i acc hi ha ht
  refine ev_succ ?_
  simp only [laws_toIntS.l0]
  refine ev_neg (by omega) (ev_eq ?_)
  rw [List.take_of_length_le (by omega), List.take_of_length_le (by omega)] at ht
  exact ht
 | succ d ih =>
  intro i acc hi ha ht
  refine ev_succ ?_
  simp only [laws_toIntS.l0]
  rw [wrap_id (x := (i : Int) + 1) (by omega) (by omega), show (i : Int) + 1 = ((i + 1 : Nat) : Int) by omega, Int.toNat_natCast]
  refine ev_pos (by omega) (ev_pos (by omega) (ev_pos (by omega) (ih (i + 1) _ (by omega) (by simpa using ha) ?_)))
  rw [rdI l i (by omega), List.take_succ_eq_append_getElem (by rw [List.length_set]; omega), List.take_succ_eq_append_getElem (by omega), List.getElem_set_self, List.take_set_of_le (by omega), ht]
theorem toInt (l : List Int) (hl : l.length ≤ 1048576) : Ev (fun k => laws_toIntS.f k l) l := by
 unfold laws_toIntS.f
 exact ev_pos (by omega) (ev_pos (by omega) (toInt_from l hl l.length 0 _ (by omega) (by simp) (by simp)))

end Go.Proofs.Ytkpipmojkhikaaa.Pure.ExactValueW
namespace Go.Proofs.Ytkpipmojkhikaaa.Pure
open Go.RowKit Go.Proofs.Ytkpipmojkhikaaa.PAll Go.Proofs.YtkpipmojkhikaaaW.PrintWords Go.Proofs.YtkpipmojkhikaaaW.PrintLast Go.Proofs.YtkpipmojkhikaaaW.PrintMore Go.Proofs.Ytkpipmojkhikaaa.Base Go.Proofs.Ytkpipmojkhikaaa.Pure.ExactValueW
theorem FnExactValue : laws_FnExactValue.Pure := by
 intro l e h0 h1 h2 h3 h4 h5
 refine Ev.rounds ?_
 unfold laws_FnExactValue.f
 by_cases he : (e.length : Int) > 1048576
 ·exact ev_pos he ev_now
 refine ev_neg he (ev_bind0 (szNode l h0) ?_)
 by_cases hb : (l.length : Int) > 1048576
 ·rw [if_pos hb]; exact ev_pos (by omega) ev_now
 ·rw [if_neg hb]
  refine ev_neg (by omega) ?_
  have hl : l.length ≤ 1048576 := by omega
  have hl2 : (l.map cvNode).length ≤ 1048576 := by rw [List.length_map]; exact hl
  have hle : e.length ≤ 1048576 := by omega
  obtain ⟨r, e1, e2⟩ := Value_same (l.map cvNode) e
  refine ev_bind (toNode l hl) (ev_bind (toInt e hle) (ev_bind e1 (ev_bind (toNode l hl) (ev_bind (toInt e hle) (ev_bind e2 (ev_pos rfl ?_))))))
  refine ev_succ ?_
  simp only [laws_FnExactValue.j0]
  exact ev_neg (by simp) (ev_bind (toNode l hl) (ev_bind (eqNode _ (by omega)) (ev_pos rfl (ev_bind (toInt e hle) (ev_bind (eqInt _ (by omega)) (ev_pos rfl ev_now))))))
end Go.Proofs.Ytkpipmojkhikaaa.Pure
