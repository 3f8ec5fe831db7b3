/- FnDenied: what the printed functions come to, for every input. -/
import Derived.Test.YtkpipmojkhikaaaVDenied0
import Derived.Test.YtkpipmojkhikaaaVDenied1
import Derived.Test.YtkpipmojkhikaaaVDenied2
import Derived.Test.YtkpipmojkhikaaaVDenied3
import Derived.Test.YtkpipmojkhikaaaVDenied4
import Derived.Test.YtkpipmojkhikaaaVDenied5
import Derived.Test.YtkpipmojkhikaaaVDenied6
import Derived.Test.YtkpipmojkhikaaaVDenied7
import Derived.Test.YtkpipmojkhikaaaVDenied8
import Derived.Test.YtkpipmojkhikaaaVDenied9
import Derived.Test.YtkpipmojkhikaaaVDenied10
import Derived.Test.YtkpipmojkhikaaaVDenied11
import Derived.Test.YtkpipmojkhikaaaVDenied12
import Derived.Test.YtkpipmojkhikaaaVDenied13
import Derived.Test.YtkpipmojkhikaaaVDenied14
import Derived.Test.YtkpipmojkhikaaaVDenied15
import Derived.Test.YtkpipmojkhikaaaVDenied16
import Derived.Test.YtkpipmojkhikaaaVDenied17
import Derived.Test.YtkpipmojkhikaaaVDenied18
import Derived.Test.YtkpipmojkhikaaaVDenied19
import Derived.Test.YtkpipmojkhikaaaVDenied20
import Derived.Test.YtkpipmojkhikaaaVDenied21
import Derived.Test.YtkpipmojkhikaaaVDenied22
import Derived.Test.YtkpipmojkhikaaaVDenied23
import Derived.Test.YtkpipmojkhikaaaVDenied24
import Derived.Test.YtkpipmojkhikaaaVDenied25
import Derived.Test.YtkpipmojkhikaaaBase
import Derived.Test.YtkpipmojkhikaaaEv
set_option linter.unusedVariables false
set_option linter.unusedSimpArgs false
namespace Go.Proofs.Ytkpipmojkhikaaa.Pure.DeniedW
open Go.RowKit Go.Proofs.Ytkpipmojkhikaaa.PAll Go.Proofs.YtkpipmojkhikaaaW.PrintWords Go.Proofs.YtkpipmojkhikaaaW.PrintLast Go.Proofs.YtkpipmojkhikaaaW.PrintMore Go.Proofs.Ytkpipmojkhikaaa.Base
theorem a6c {w : Int} (h0 : 0 ≤ w) (h8 : w ≤ 8) {k : Nat} (hk : 20 ≤ k) : kZ k w = some (P2 w) := by
  obtain ⟨m, rfl⟩ := b4p hk
  have : w = 0 ∨ w = 1 ∨ w = 2 ∨ w = 3 ∨ w = 4 ∨ w = 5 ∨ w = 6 ∨ w = 7 ∨ w = 8 := by omega
  rcases this with rfl | rfl | rfl | rfl | rfl | rfl | rfl | rfl | rfl <;> simp [kZ, vS, P2, wrap64]
theorem inS (x a b : Int) : pJ x a b = some (decide (a ≤ x ∧ x ≤ b)) := by
  unfold pJ
  by_cases h : x ≥ a
  · rw [if_pos h]; simp [h]
  · rw [if_neg h]; simp [h]
theorem inI (x a b : Int) : qD x a b = some (decide (a ≤ x ∧ x ≤ b)) := by
  unfold qD
  by_cases h : x ≥ a
  · rw [if_pos h]; simp [h]
  · rw [if_neg h]; simp [h]
theorem c0n (w a : Int) {k : Nat} (hk : 20 ≤ k) : rF k w a = some (wok w a) := by
  unfold rF wok
  rw [inS]; simp only [Option.bind_some]
  by_cases h : 1 ≤ w ∧ w ≤ 8
  · have hp := qU (by omega : 0 ≤ w) h.2
    rw [if_pos (by simp [h]), a6c oM h.2 hk]; simp only [Option.bind_some]
    rw [inS, kU oM oM]; simp [h]
  · rw [if_neg (by simp; omega)]; simp; omega
theorem c4p (w a : Int) : rI w a = some (wok w a) := by
  unfold rI sH wok
  rw [inI]; simp only [Option.bind_some]
  by_cases h : 1 ≤ w ∧ w ≤ 8
  · have hp := qU (by omega : 0 ≤ w) h.2
    rw [if_pos (by simp [h]), if_pos (vK w), a0n oM oM, a1q oM h.2, inI, kU oM oM]
    simp [h]
  · rw [if_neg (by simp; omega)]; simp; omega
theorem b6y (w a b : Int) {k : Nat} (hk : 20 ≤ k) : qS k w a b = some (wok w a && wok w b) := by
  unfold qS
  rw [c0n w a hk, c0n w b hk]; cases wok w a <;> simp
theorem b6z (w a b : Int) : tP w a b = some (wok w a && wok w b) := by
  unfold tP
  rw [c4p w a, c4p w b]; cases wok w a <;> simp
theorem c7s {w x : Int} (h0 : 0 ≤ w) (h8 : w ≤ 8) (h1 : -9223372036854775808 ≤ x) (h2 : x ≤ 9223372036854775807) : wH w x = some (x % P2 w) := by
  unfold wH
  have hp := qU h0 h8
  rw [if_pos (vK w), a0n oM oM, a1q h0 h8, kU oM oM, c3s h0 h8 h1 h2]
theorem d1g (w a b : Int) {k : Nat} (hk : 20 ≤ k) : zV k w a b = some (if (wok w a && wok w b) = true then (a + b) % P2 w else 0) := by
  unfold zV
  rw [b6y w a b hk]; simp only [Option.bind_some]
  by_cases h : (wok w a && wok w b) = true
  · rw [if_pos h, if_pos h]
    obtain ⟨ha, hb⟩ := Bool.and_eq_true_iff.mp h
    obtain ⟨h1, h8, ha0, hA⟩ := pF.mp ha
    obtain ⟨_, _, hb0, hB⟩ := pF.mp hb
    have hp := qU (by omega : 0 ≤ w) h8
    rw [a6c oM h8 hk]; simp only [Option.bind_some]
    rw [if_neg oM, kU oM oM, Int.tmod_eq_emod_of_nonneg oM]
  · rw [if_neg h, if_neg h]
theorem d1h (w a b : Int) : a0f w a b = some (if (wok w a && wok w b) = true then (a + b) % P2 w else 0) := by
  unfold a0f
  rw [b6z w a b]; simp only [Option.bind_some]
  by_cases h : (wok w a && wok w b) = true
  · rw [if_pos h, if_pos h]
    obtain ⟨ha, hb⟩ := Bool.and_eq_true_iff.mp h
    obtain ⟨h1, h8, ha0, hA⟩ := pF.mp ha
    obtain ⟨_, _, hb0, hB⟩ := pF.mp hb
    have hp := qU (by omega : 0 ≤ w) h8
    rw [kU oM oM, c7s oM h8 oM oM]; rfl
  · rw [if_neg h, if_neg h]
theorem d0s (w a b : Int) {k : Nat} (hk : 20 ≤ k) : zM k w a b = some (if (wok w a && wok w b) = true then (a - b) % P2 w else 0) := by
  unfold zM
  rw [b6y w a b hk]; simp only [Option.bind_some]
  by_cases h : (wok w a && wok w b) = true
  · rw [if_pos h, if_pos h]
    obtain ⟨ha, hb⟩ := Bool.and_eq_true_iff.mp h
    obtain ⟨h1, h8, ha0, hA⟩ := pF.mp ha
    obtain ⟨_, _, hb0, hB⟩ := pF.mp hb
    have hp := qU (by omega : 0 ≤ w) h8
    rw [a6c oM h8 hk]; simp only [Option.bind_some]
    rw [if_neg oM, kU (x := a + P2 w) oM oM, kU oM oM, Int.tmod_eq_emod_of_nonneg oM,
      show a + P2 w - b = a - b + P2 w by omega, Int.add_emod_right]
  · rw [if_neg h, if_neg h]
theorem d0t (w a b : Int) : zZ w a b = some (if (wok w a && wok w b) = true then (a - b) % P2 w else 0) := by
  unfold zZ
  rw [b6z w a b]; simp only [Option.bind_some]
  by_cases h : (wok w a && wok w b) = true
  · rw [if_pos h, if_pos h]
    obtain ⟨ha, hb⟩ := Bool.and_eq_true_iff.mp h
    obtain ⟨h1, h8, ha0, hA⟩ := pF.mp ha
    obtain ⟨_, _, hb0, hB⟩ := pF.mp hb
    have hp := qU (by omega : 0 ≤ w) h8
    rw [kU oM oM, c7s oM h8 oM oM]; rfl
  · rw [if_neg h, if_neg h]
theorem d1c (w a b : Int) {k : Nat} (hk : 20 ≤ k) : zT k w a b = some (if (wok w a && wok w b) = true then (a * b) % P2 w else 0) := by
  unfold zT
  rw [b6y w a b hk]; simp only [Option.bind_some]
  by_cases h : (wok w a && wok w b) = true
  · rw [if_pos h, if_pos h]
    obtain ⟨ha, hb⟩ := Bool.and_eq_true_iff.mp h
    obtain ⟨h1, h8, ha0, hA⟩ := pF.mp ha
    obtain ⟨_, _, hb0, hB⟩ := pF.mp hb
    have hp := qU (by omega : 0 ≤ w) h8
    have hm := a4z ha0 (by omega : a ≤ 255) hb0 (by omega : b ≤ 255)
    rw [a6c oM h8 hk]; simp only [Option.bind_some]
    rw [if_neg oM, kU oM oM, Int.tmod_eq_emod_of_nonneg oM]
  · rw [if_neg h, if_neg h]
theorem d1d (w a b : Int) : a0d w a b = some (if (wok w a && wok w b) = true then (a * b) % P2 w else 0) := by
  unfold a0d
  rw [b6z w a b]; simp only [Option.bind_some]
  by_cases h : (wok w a && wok w b) = true
  · rw [if_pos h, if_pos h]
    obtain ⟨ha, hb⟩ := Bool.and_eq_true_iff.mp h
    obtain ⟨h1, h8, ha0, hA⟩ := pF.mp ha
    obtain ⟨_, _, hb0, hB⟩ := pF.mp hb
    have hp := qU (by omega : 0 ≤ w) h8
    have hm := a4z ha0 (by omega : a ≤ 255) hb0 (by omega : b ≤ 255)
    rw [kU oM oM, c7s oM h8 oM oM]; rfl
  · rw [if_neg h, if_neg h]
theorem d1e (w a b : Int) {k : Nat} (hk : 20 ≤ k) : zU k w a b = some (if (wok w a && wok w b) = true then (if b = 0 then P2 w - 1 else a / b) else 0) := by
  unfold zU
  rw [b6y w a b hk]; simp only [Option.bind_some]
  by_cases h : (wok w a && wok w b) = true
  · rw [if_pos h, if_pos h]
    obtain ⟨ha, hb⟩ := Bool.and_eq_true_iff.mp h
    obtain ⟨h1, h8, ha0, hA⟩ := pF.mp ha
    obtain ⟨_, _, hb0, hB⟩ := pF.mp hb
    have hp := qU (by omega : 0 ≤ w) h8
    by_cases h0 : b = 0
    · rw [if_pos h0, if_pos h0, a6c oM h8 hk]; simp only [Option.bind_some]
      rw [kU oM oM]
    · rw [if_neg h0, if_neg h0]
      have hq : 0 ≤ a / b ∧ a / b ≤ a := ⟨Int.ediv_nonneg ha0 hb0, Int.ediv_le_self _ ha0⟩
      try rw [if_neg h0]
      rw [Int.tdiv_eq_ediv_of_nonneg ha0, kU oM oM]
  · rw [if_neg h, if_neg h]
theorem d1f (w a b : Int) : a0e w a b = some (if (wok w a && wok w b) = true then (if b = 0 then P2 w - 1 else a / b) else 0) := by
  unfold a0e
  rw [b6z w a b]; simp only [Option.bind_some]
  by_cases h : (wok w a && wok w b) = true
  · rw [if_pos h, if_pos h]
    obtain ⟨ha, hb⟩ := Bool.and_eq_true_iff.mp h
    obtain ⟨h1, h8, ha0, hA⟩ := pF.mp ha
    obtain ⟨_, _, hb0, hB⟩ := pF.mp hb
    have hp := qU (by omega : 0 ≤ w) h8
    by_cases h0 : b = 0
    · rw [if_pos h0, if_pos h0]
      try rw [if_pos (vK w)]
      rw [a0n oM oM, a1q oM h8, kU oM oM]
    · rw [if_neg h0, if_neg h0]
      have hq : 0 ≤ a / b ∧ a / b ≤ a := ⟨Int.ediv_nonneg ha0 hb0, Int.ediv_le_self _ ha0⟩
      try rw [if_neg h0]
      rw [Int.tdiv_eq_ediv_of_nonneg ha0, kU oM oM]
  · rw [if_neg h, if_neg h]
theorem d0y (w a b : Int) {k : Nat} (hk : 20 ≤ k) : zS k w a b = some (if (wok w a && wok w b) = true then (if b = 0 then a else a % b) else 0) := by
  unfold zS
  rw [b6y w a b hk]; simp only [Option.bind_some]
  by_cases h : (wok w a && wok w b) = true
  · rw [if_pos h, if_pos h]
    obtain ⟨ha, hb⟩ := Bool.and_eq_true_iff.mp h
    obtain ⟨h1, h8, ha0, hA⟩ := pF.mp ha
    obtain ⟨_, _, hb0, hB⟩ := pF.mp hb
    have hp := qU (by omega : 0 ≤ w) h8
    by_cases h0 : b = 0
    · rw [if_pos h0, if_pos h0]
    · rw [if_neg h0, if_neg h0]
      try rw [if_neg h0]
      rw [Int.tmod_eq_emod_of_nonneg ha0]
  · rw [if_neg h, if_neg h]
theorem d0z (w a b : Int) : a0c w a b = some (if (wok w a && wok w b) = true then (if b = 0 then a else a % b) else 0) := by
  unfold a0c
  rw [b6z w a b]; simp only [Option.bind_some]
  by_cases h : (wok w a && wok w b) = true
  · rw [if_pos h, if_pos h]
    obtain ⟨ha, hb⟩ := Bool.and_eq_true_iff.mp h
    obtain ⟨h1, h8, ha0, hA⟩ := pF.mp ha
    obtain ⟨_, _, hb0, hB⟩ := pF.mp hb
    have hp := qU (by omega : 0 ≤ w) h8
    by_cases h0 : b = 0
    · rw [if_pos h0, if_pos h0]
    · rw [if_neg h0, if_neg h0]
      try rw [if_neg h0]
      rw [Int.tmod_eq_emod_of_nonneg ha0]
  · rw [if_neg h, if_neg h]
theorem d0u (w a b : Int) {k : Nat} (hk : 20 ≤ k) : zN k w a b = some (if (wok w a && wok w b) = true then (if b ≥ w then 0 else a / P2 b) else 0) := by
  unfold zN
  rw [b6y w a b hk]; simp only [Option.bind_some]
  by_cases h : (wok w a && wok w b) = true
  · rw [if_pos h, if_pos h]
    obtain ⟨ha, hb⟩ := Bool.and_eq_true_iff.mp h
    obtain ⟨h1, h8, ha0, hA⟩ := pF.mp ha
    obtain ⟨_, _, hb0, hB⟩ := pF.mp hb
    have hp := qU (by omega : 0 ≤ w) h8
    by_cases hw : b ≥ w
    · rw [if_pos hw, if_pos hw]
    · have hpb := qU hb0 (by omega : b ≤ 8)
      have hq : 0 ≤ a / P2 b ∧ a / P2 b ≤ a := ⟨Int.ediv_nonneg ha0 oM, Int.ediv_le_self _ ha0⟩
      rw [if_neg hw, if_neg hw, a6c hb0 oM hk]; simp only [Option.bind_some]
      rw [if_neg oM, Int.tdiv_eq_ediv_of_nonneg ha0, kU oM oM]
  · rw [if_neg h, if_neg h]
theorem d0v (w a b : Int) : a0a w a b = some (if (wok w a && wok w b) = true then (if b ≥ w then 0 else a / P2 b) else 0) := by
  unfold a0a
  rw [b6z w a b]; simp only [Option.bind_some]
  by_cases h : (wok w a && wok w b) = true
  · rw [if_pos h, if_pos h]
    obtain ⟨ha, hb⟩ := Bool.and_eq_true_iff.mp h
    obtain ⟨h1, h8, ha0, hA⟩ := pF.mp ha
    obtain ⟨_, _, hb0, hB⟩ := pF.mp hb
    have hp := qU (by omega : 0 ≤ w) h8
    by_cases hw : b ≥ w
    · rw [if_pos hw, if_pos hw]
    · rw [if_neg hw, if_neg hw, if_pos (vK b), a0n oM oM, c0r hb0 oM]
  · rw [if_neg h, if_neg h]
theorem d0w (w a b : Int) {k : Nat} (hk : 21 ≤ k) : zO k w a b = some (if (wok w a && wok w b) = true then (if b ≥ w then 0 else (a * P2 b) % P2 w) else 0) := by
  unfold zO
  obtain ⟨k, rfl⟩ : ∃ m, k = m + 1 := ⟨k - 1, oM⟩
  rw [b6y w a b oM]; simp only [Option.bind_some, yO]
  by_cases h : (wok w a && wok w b) = true
  · rw [if_pos h, if_pos h]
    obtain ⟨ha, hb⟩ := Bool.and_eq_true_iff.mp h
    obtain ⟨h1, h8, ha0, hA⟩ := pF.mp ha
    obtain ⟨_, _, hb0, hB⟩ := pF.mp hb
    have hp := qU (by omega : 0 ≤ w) h8
    by_cases hw : b ≥ w
    · rw [if_pos (by simpa using hw), if_pos hw]
    · have hpb := qU hb0 (by omega : b ≤ 8)
      have hm := a4z ha0 (by omega : a ≤ 255) (by omega : 0 ≤ P2 b) (by omega : P2 b ≤ 256)
      rw [if_neg (by simpa using hw), if_neg hw, a6c hb0 oM oM, a6c oM h8 oM]; simp only [Option.bind_some]
      rw [if_neg oM, kU oM oM, Int.tmod_eq_emod_of_nonneg oM]
  · rw [if_neg h, if_neg h]; rfl
theorem d0x (w a b : Int) : a0b w a b = some (if (wok w a && wok w b) = true then (if b ≥ w then 0 else (a * P2 b) % P2 w) else 0) := by
  unfold a0b
  rw [b6z w a b]; simp only [Option.bind_some]
  by_cases h : (wok w a && wok w b) = true
  · rw [if_pos h, if_pos h]
    obtain ⟨ha, hb⟩ := Bool.and_eq_true_iff.mp h
    obtain ⟨h1, h8, ha0, hA⟩ := pF.mp ha
    obtain ⟨_, _, hb0, hB⟩ := pF.mp hb
    have hp := qU (by omega : 0 ≤ w) h8
    by_cases hw : b ≥ w
    · rw [if_pos hw, if_pos hw]
    · have hpb := qU hb0 (by omega : b ≤ 8)
      have hm := a4z ha0 (by omega : a ≤ 255) (by omega : 0 ≤ P2 b) (by omega : P2 b ≤ 256)
      rw [if_neg hw, if_neg hw, if_pos (vK b), a0n oM oM, b4l ha0 oM hb0 oM, c7s oM h8 oM oM]; rfl
  · rw [if_neg h, if_neg h]
theorem c9x (w a : Int) {k : Nat} (hk : 20 ≤ k) : yR k w a = some (if wok w a = true then P2 w - 1 - a else 0) := by
  unfold yR
  rw [c0n w a hk]; simp only [Option.bind_some]
  by_cases ha : wok w a = true
  · rw [if_pos ha, if_pos ha]
    obtain ⟨h1, h8, ha0, hA⟩ := pF.mp ha
    have hp := qU (by omega : 0 ≤ w) h8
    rw [a6c oM h8 hk]; simp only [Option.bind_some]
    rw [kU (x := P2 w - 1) oM oM, kU oM oM]
  · rw [if_neg ha, if_neg ha]
theorem c9y (w a : Int) : yX w a = some (if wok w a = true then P2 w - 1 - a else 0) := by
  unfold yX
  rw [c4p w a]; simp only [Option.bind_some]
  by_cases ha : wok w a = true
  · rw [if_pos ha, if_pos ha]
    obtain ⟨h1, h8, ha0, hA⟩ := pF.mp ha
    have hp := qU (by omega : 0 ≤ w) h8
    rw [if_pos (vK w), a0n oM oM, a1q oM h8, kU (x := P2 w - 1) oM oM, kU oM oM]
  · rw [if_neg ha, if_neg ha]
theorem b6j (w a : Int) {k : Nat} (hk : 20 ≤ k) : wD k w a = some (if wok w a = true then (if a ≥ P2 (w - 1) then a - P2 w else a) else 0) := by
  unfold wD
  rw [c0n w a hk]; simp only [Option.bind_some]
  by_cases ha : wok w a = true
  · rw [if_pos ha, if_pos ha]
    obtain ⟨h1, h8, ha0, hA⟩ := pF.mp ha
    have hp := qU (by omega : 0 ≤ w) h8
    have hq := qU (by omega : 0 ≤ w - 1) oM
    rw [kU (x := w - 1) oM oM, a6c oM oM hk, a6c oM h8 hk]; simp only [Option.bind_some]
    by_cases hs : a ≥ P2 (w - 1)
    · rw [if_pos hs, if_pos hs, kU oM oM]
    · rw [if_neg hs, if_neg hs]
  · rw [if_neg ha, if_neg ha]
theorem b6k (w a : Int) : wI w a = some (if wok w a = true then (if a ≥ P2 (w - 1) then a - P2 w else a) else 0) := by
  unfold wI
  rw [c4p w a]; simp only [Option.bind_some]
  by_cases ha : wok w a = true
  · rw [if_pos ha, if_pos ha]
    obtain ⟨h1, h8, ha0, hA⟩ := pF.mp ha
    have hp := qU (by omega : 0 ≤ w) h8
    have hq := qU (by omega : 0 ≤ w - 1) oM
    rw [if_pos (vK _), kU (x := w - 1) oM oM, a0n (x := w - 1) oM oM, a0n (x := w) oM oM, a1q oM oM, a1q oM h8]
    by_cases hs : a ≥ P2 (w - 1)
    · rw [if_pos hs, if_pos hs, if_pos oM, kU oM oM]
    · rw [if_neg hs, if_neg hs]
  · rw [if_neg ha, if_neg ha]
theorem b6e (b : Bool) : sE b = some (if b = true then 1 else 0) := by
  unfold sE; cases b <;> simp
theorem c7u (b : Bool) : uV b = some (if b = true then 1 else 0) := by
  unfold uV; cases b <;> simp
theorem c9t (w a b : Int) {k : Nat} (hk : 20 ≤ k) : yP k w a b = some (if (wok w a && wok w b) = true ∧ a < b then 1 else 0) := by
  unfold yP
  rw [b6y w a b hk]; simp only [Option.bind_some]
  by_cases h : (wok w a && wok w b) = true
  · rw [if_pos h, b6e]; simp only [Option.bind_some]; by_cases hl : a < b <;> simp [h, hl]
  · rw [if_neg h, b6e]; simp only [Option.bind_some]; simp [h]
theorem c9u (w a b : Int) : yV w a b = some (if (wok w a && wok w b) = true ∧ a < b then 1 else 0) := by
  unfold yV
  rw [b6z w a b]; simp only [Option.bind_some]
  by_cases h : (wok w a && wok w b) = true
  · rw [if_pos h, c7u]; simp only [Option.bind_some]; by_cases hl : a < b <;> simp [h, hl]
  · rw [if_neg h, c7u]; simp only [Option.bind_some]; simp [h]
theorem b0g (w a b : Int) {k : Nat} (hk : 20 ≤ k) : uP k w a b = some (if (wok w a && wok w b) = true ∧ (if wok w a = true then (if a ≥ P2 (w - 1) then a - P2 w else a) else 0) < (if wok w b = true then (if b ≥ P2 (w - 1) then b - P2 w else b) else 0) then 1 else 0) := by
  unfold uP
  rw [b6y w a b hk, b6j w a hk, b6j w b hk]; simp only [Option.bind_some]
  by_cases h : (wok w a && wok w b) = true
  · rw [if_pos h, b6e]; simp only [Option.bind_some, decide_eq_true_eq, h, true_and]
  · rw [if_neg h, b6e]; simp only [Option.bind_some]; rw [if_neg (by simp), if_neg (fun z => h z.1)]
theorem b0h (w a b : Int) : uX w a b = some (if (wok w a && wok w b) = true ∧ (if wok w a = true then (if a ≥ P2 (w - 1) then a - P2 w else a) else 0) < (if wok w b = true then (if b ≥ P2 (w - 1) then b - P2 w else b) else 0) then 1 else 0) := by
  unfold uX
  rw [b6z w a b, b6k w a, b6k w b]; simp only [Option.bind_some]
  by_cases h : (wok w a && wok w b) = true
  · rw [if_pos h, c7u]; simp only [Option.bind_some, decide_eq_true_eq, h, true_and]
  · rw [if_neg h, c7u]; simp only [Option.bind_some]; rw [if_neg (by simp), if_neg (fun z => h z.1)]
theorem c7x (w a l n : Int) (hl1 : -9223372036854775808 ≤ l) (hl2 : l ≤ 9223372036854775807) {k : Nat} (hk : 21 ≤ k) : xW k w a l n = some (if wok w a = true ∧ 0 ≤ l ∧ 1 ≤ n ∧ n ≤ w - l then a / P2 l % P2 n else 0) := by
  unfold xW
  obtain ⟨k, rfl⟩ : ∃ m, k = m + 1 := ⟨k - 1, oM⟩
  rw [c0n w a oM]; simp only [Option.bind_some, wC]
  by_cases ha : wok w a = true
  · rw [if_pos ha]
    obtain ⟨h1, h8, ha0, hA⟩ := pF.mp ha
    have hp := qU (by omega : 0 ≤ w) h8
    by_cases hl : l < 0
    · rw [if_pos hl, if_pos trivial, if_neg oM]
    · rw [if_neg hl, inS, kU oM oM]; simp only [Option.bind_some]
      by_cases hn : 1 ≤ n ∧ n ≤ w - l
      · have hpl := qU (by omega : 0 ≤ l) (by omega : l ≤ 8)
        have hpn := qU (by omega : 0 ≤ n) (by omega : n ≤ 8)
        have hq : 0 ≤ a / P2 l ∧ a / P2 l ≤ a := ⟨Int.ediv_nonneg ha0 oM, Int.ediv_le_self _ ha0⟩
        rw [if_neg (by simpa using hn), if_pos ⟨ha, oM, hn.1, hn.2⟩, a6c oM oM oM, a6c oM oM oM]; simp only [Option.bind_some]
        rw [if_neg oM, if_neg oM, Int.tdiv_eq_ediv_of_nonneg ha0, kU oM oM, Int.tmod_eq_emod_of_nonneg oM]
      · rw [if_pos (by simp; omega), if_neg oM]
  · rw [if_neg ha, if_pos trivial, if_neg (fun z => ha z.1)]
theorem c7y (w a l n : Int) (hn1 : -9223372036854775808 ≤ n) (hn2 : n ≤ 9223372036854775807) : yB w a l n = some (if wok w a = true ∧ 0 ≤ l ∧ 1 ≤ n ∧ n ≤ w - l then a / P2 l % P2 n else 0) := by
  unfold yB
  rw [c4p w a]; simp only [Option.bind_some]
  by_cases ha : wok w a = true
  · rw [if_pos ha, inI]; simp only [Option.bind_some]
    obtain ⟨h1, h8, ha0, hA⟩ := pF.mp ha
    have hp := qU (by omega : 0 ≤ w) h8
    by_cases hn : 1 ≤ n ∧ n ≤ w
    · rw [if_pos (by simpa using hn), inI, kU oM oM]; simp only [Option.bind_some]
      by_cases hl : 0 ≤ l ∧ l ≤ w - n
      · have hpl := qU (by omega : 0 ≤ l) (by omega : l ≤ 8)
        have hpn := qU (by omega : 0 ≤ n) (by omega : n ≤ 8)
        have hq : 0 ≤ a / P2 l ∧ a / P2 l ≤ a := ⟨Int.ediv_nonneg ha0 oM, Int.ediv_le_self _ ha0⟩
        rw [if_pos (by simpa using hl), if_pos (vK l), a0n oM oM, c0r oM oM, c7s oM oM oM oM, if_pos ⟨ha, oM, oM, oM⟩]
        rfl
      · rw [if_neg (by simpa using hl), if_neg oM]
    · rw [if_neg (by simpa using hn), if_neg oM]
  · rw [if_neg ha, if_neg (fun z => ha z.1)]
def Cur (l : List Int) (i : Int) : Prop := 0 ≤ i ∧ i ≤ (l.length : Int) ∧ (l.length : Int) ≤ 140737488351232
theorem b1j (x : Int) : 0 ≤ Go.bits .and .i64 x 255 ∧ Go.bits .and .i64 x 255 ≤ 255 := by
  have hm : (BitVec.ofInt 64 (255 : Int)).toNat = 255 := by decide
  have hle : ((BitVec.ofInt 64 x).toNat &&& 255) ≤ 255 := Nat.and_le_right
  have e : Go.bits .and .i64 x 255 = IntKind.i64.wrap (((BitVec.ofInt 64 x).toNat &&& 255 : Nat) : Int) := by
    show IntKind.i64.wrap ((BitVec.ofInt 64 x &&& BitVec.ofInt 64 (255 : Int)).toNat : Int) = _
    rw [BitVec.toNat_and, hm]
  rw [e, IntKind.wrap_i64]
  omega
theorem a0w (l : List Int) (i h : Int) (hc : Cur l i) : ∃ x i' h', sD l i h = some (x, i', h') ∧ 0 ≤ x ∧ x ≤ 255 ∧ Cur l i' := by
  unfold sD
  obtain ⟨h0, h1, h2⟩ := hc
  by_cases hi : i < (l.length : Int)
  · rw [if_pos hi, if_pos h0]
    exact ⟨_, _, _, rfl, (b1j _).1, (b1j _).2, by rw [kU oM oM]; exact ⟨oM, oM, h2⟩⟩
  · rw [if_neg hi]
    exact ⟨_, _, _, rfl, (b1j _).1, (b1j _).2, h0, h1, h2⟩
theorem rZ (l : List Int) (i h n : Int) (hc : Cur l i) : ∃ x i' h', pC l i h n = some (x, i', h') ∧ 0 ≤ x ∧ (n ≤ 0 → x = 0) ∧ (0 < n → x < n) ∧ Cur l i' := by
  unfold pC
  by_cases h0 : n ≤ 0
  · rw [if_pos h0]
    exact ⟨0, i, h, rfl, oM, fun _ => rfl, fun _ => by omega, hc⟩
  · rw [if_neg h0]
    by_cases h1 : n ≤ 256
    · rw [if_pos h1]
      obtain ⟨x, i1, h2, e, b0, b1, c1⟩ := a0w l i h hc
      rw [e]; simp only [Option.bind_some]
      rw [if_neg oM]
      refine ⟨_, _, _, rfl, ?_, oM, fun _ => ?_, c1⟩
      · exact Int.tmod_nonneg _ b0
      · rw [Int.tmod_eq_emod_of_nonneg b0]; exact Int.emod_lt_of_pos _ oM
    · rw [if_neg h1]
      obtain ⟨x, i1, z1, e1, b0, b1, c1⟩ := a0w l i h hc
      rw [e1]; simp only [Option.bind_some]
      obtain ⟨y, i2, z2, e2, d0, d1, c2⟩ := a0w l i1 z1 c1
      rw [e2]; simp only [Option.bind_some]
      obtain ⟨z, i3, z3, e3, f0, f1, c3⟩ := a0w l i2 z2 c2
      rw [e3]; simp only [Option.bind_some]
      obtain ⟨v, i4, z4, e4, g0, g1, c4⟩ := a0w l i3 z3 c3
      rw [e4]; simp only [Option.bind_some]
      rw [if_neg oM, kU (x := x * 16777216) oM oM, kU (x := y * 65536) oM oM, kU (x := x * 16777216 + y * 65536) oM oM, kU (x := z * 256) oM oM, kU (x := x * 16777216 + y * 65536 + z * 256) oM oM, kU oM oM]
      refine ⟨_, _, _, rfl, ?_, oM, fun _ => ?_, c4⟩
      · exact Int.tmod_nonneg _ oM
      · rw [Int.tmod_eq_emod_of_nonneg oM]; exact Int.emod_lt_of_pos _ oM
theorem a0s (l : List Int) (i h n : Int) (hc : Cur l i) : ∃ b i' h', sA l i h n = some (b, i', h') ∧ Cur l i' := by
  unfold sA
  obtain ⟨x, i1, h1, e, _, _, _, c⟩ := rZ l i h n hc
  rw [e]; exact ⟨_, _, _, rfl, c⟩
def c4q (op w a b : Int) : Int :=
  if op = 3 then Go.bits .and .i64 a b else if op = 4 then Go.bits .or .i64 a b else if op = 5 then Go.bits .xor .i64 a b
  else if op = 6 then (if (wok w a && wok w b) = true then (a + b) % P2 w else 0)
  else if op = 7 then (if (wok w a && wok w b) = true then (a - b) % P2 w else 0)
  else if op = 8 then (if (wok w a && wok w b) = true then (a * b) % P2 w else 0)
  else if op = 9 then (if (wok w a && wok w b) = true then (if b = 0 then P2 w - 1 else a / b) else 0)
  else if op = 10 then (if (wok w a && wok w b) = true then (if b = 0 then a else a % b) else 0)
  else if op = 11 then (if (wok w a && wok w b) = true then (if b ≥ w then 0 else (a * P2 b) % P2 w) else 0)
  else (if (wok w a && wok w b) = true then (if b ≥ w then 0 else a / P2 b) else 0)
def c8s (w a b : Int) : Int := if (wok w a && wok w b) = true ∧ a < b then 1 else 0
def c6r (w a b : Int) : Int := if (wok w a && wok w b) = true ∧ (if wok w a = true then (if a ≥ P2 (w - 1) then a - P2 w else a) else 0) < (if wok w b = true then (if b ≥ P2 (w - 1) then b - P2 w else b) else 0) then 1 else 0
def c0p (w a l n : Int) : Int := if wok w a = true ∧ 0 ≤ l ∧ 1 ≤ n ∧ n ≤ w - l then a / P2 l % P2 n else 0
def b4a (w a : Int) : Int := if wok w a = true then P2 w - 1 - a else 0
def a7w (W w a b c : Int) : Prop := (1 ≤ W ∧ W ≤ 8) ∧ (1 ≤ w ∧ w ≤ 8) ∧ (0 ≤ a ∧ a ≤ 255) ∧ (0 ≤ b ∧ b ≤ 255) ∧ (0 ≤ c ∧ c ≤ 255)
instance (W w a b c : Int) : Decidable (a7w W w a b c) := by unfold a7w; infer_instance
def b6r (op W K w a b c : Int) : Int :=
  if op = 0 then K else if op = 2 then b4a W a else if 3 ≤ op ∧ op ≤ 12 then c4q op W a b
  else if op = 13 then (if a = b then 1 else 0) else if op = 14 then c8s w a b else if op = 15 then c6r w a b
  else if op = 16 then (if W < w then b else a * P2 (W - w) + b)
  else if op = 17 then c0p w a K W
  else if op = 18 then (if a = 1 then b else c) else 0
def vP (op W K w a b c : Int) : Int := if a7w W w a b c then b6r op W K w a b c else 0
theorem b6g (op W K A B C w a b c : Int) (h : a7w W w a b c) (hk1 : -9223372036854775808 ≤ K) (hk2 : K ≤ 9223372036854775807) {k : Nat} (hk : 40 ≤ k) :
    rR k w a b c false op W K A B C = some (b6r op W K w a b c) := by
  obtain ⟨k, rfl⟩ : ∃ m, k = m + 1 := ⟨k - 1, oM⟩
  obtain ⟨⟨W1, W8⟩, ⟨w1, w8⟩, ⟨a0, a1⟩, ⟨b0, b1⟩, c0, c1⟩ := h
  simp only [rR]
  rw [if_neg (by simp)]
  unfold b6r
  by_cases h0 : op = 0
  · rw [if_pos h0, if_pos h0]
  rw [if_neg h0, if_neg h0]
  by_cases h2 : op = 2
  · rw [if_pos h2, if_pos h2, c9x _ _ oM]; rfl
  rw [if_neg h2, if_neg h2]
  by_cases hb : 3 ≤ op ∧ op ≤ 12
  · rw [if_pos hb]
    have hc : op = 3 ∨ op = 4 ∨ op = 5 ∨ op = 6 ∨ op = 7 ∨ op = 8 ∨ op = 9 ∨ op = 10 ∨ op = 11 ∨ op = 12 := by omega
    rw [d1g _ _ _ oM, d0s _ _ _ oM, d1c _ _ _ oM, d1e _ _ _ oM, d0y _ _ _ oM, d0w _ _ _ oM, d0u _ _ _ oM]
    rcases hc with rfl | rfl | rfl | rfl | rfl | rfl | rfl | rfl | rfl | rfl <;> simp [c4q]
  rw [if_neg (by omega : ¬ op = 3), if_neg (by omega : ¬ op = 4), if_neg (by omega : ¬ op = 5), if_neg (by omega : ¬ op = 6), if_neg (by omega : ¬ op = 7), if_neg (by omega : ¬ op = 8), if_neg (by omega : ¬ op = 9), if_neg (by omega : ¬ op = 10), if_neg (by omega : ¬ op = 11), if_neg (by omega : ¬ op = 12), if_neg hb]
  by_cases h13 : op = 13
  · rw [if_pos h13, if_pos h13, b6e]; simp
  rw [if_neg h13, if_neg h13]
  by_cases h14 : op = 14
  · rw [if_pos h14, if_pos h14, c9t _ _ _ oM]; rfl
  rw [if_neg h14, if_neg h14]
  by_cases h15 : op = 15
  · rw [if_pos h15, if_pos h15, b0g _ _ _ oM]; rfl
  rw [if_neg h15, if_neg h15]
  by_cases h16 : op = 16
  · rw [if_pos h16, if_pos h16]
    by_cases hw : W < w
    · rw [if_pos hw, if_pos hw]
    · have hp := qU (by omega : 0 ≤ W - w) oM
      have hm := a4z a0 a1 (by omega : 0 ≤ P2 (W - w)) hp.2
      rw [if_neg hw, if_neg hw, kU (x := W - w) oM oM, a6c oM oM oM]
      simp only [Option.bind_some]
      rw [kU (x := a * P2 (W - w)) oM oM, kU oM oM]
  rw [if_neg h16, if_neg h16]
  by_cases h17 : op = 17
  · rw [if_pos h17, if_pos h17, c7x _ _ _ _ hk1 hk2 oM]; rfl
  rw [if_neg h17, if_neg h17]
  by_cases h18 : op = 18
  · rw [if_pos h18, if_pos h18]; by_cases h1 : a = 1 <;> simp [h1]
  rw [if_neg h18, if_neg h18]
theorem a9b (op W K A B C w a b c : Int) {k : Nat} (hk : 1 ≤ k) : rR k w a b c true op W K A B C = some 0 := by
  obtain ⟨k, rfl⟩ : ∃ m, k = m + 1 := ⟨k - 1, oM⟩
  simp only [rR, if_true]
theorem c8l (op W K A B C w a b c : Int) (hk1 : -9223372036854775808 ≤ K) (hk2 : K ≤ 9223372036854775807) {k : Nat} (hk : 40 ≤ k) :
    xY k op W K A B C w a b c = some (vP op W K w a b c) := by
  unfold xY vP
  simp only [inS, Option.bind_some, decide_eq_true_eq, a9b op W K A B C w a b c (by omega : 1 ≤ k)]
  by_cases h : a7w W w a b c
  · rw [if_pos h]
    have h' := h
    obtain ⟨hW, hw, ha, hb, hc⟩ := h'
    simp only [hW, hw, ha, hb, hc, and_self, if_true, decide_true, Bool.not_true]
    exact b6g op W K A B C w a b c h hk1 hk2 hk
  · rw [if_neg h]
    unfold a7w at h
    by_cases hW : 1 ≤ W ∧ W ≤ 8
    · rw [if_pos hW]
      by_cases hw : 1 ≤ w ∧ w ≤ 8
      · rw [if_pos hw]
        by_cases ha : 0 ≤ a ∧ a ≤ 255
        · rw [if_pos ha]
          by_cases hb : 0 ≤ b ∧ b ≤ 255
          · rw [if_pos hb]
            have hc : ¬ (0 ≤ c ∧ c ≤ 255) := fun hc => h ⟨hW, hw, ha, hb, hc⟩
            rw [decide_eq_false hc]
            exact a9b op W K A B C w a b c oM
          · rw [if_neg hb]
        · rw [if_neg ha]
      · rw [if_neg hw]
    · rw [if_neg hW]
theorem d0r (op w a b : Int) (h : 3 ≤ op ∧ op ≤ 12) : xN op w a b = some (c4q op w a b) := by
  unfold xN
  have hc : op = 3 ∨ op = 4 ∨ op = 5 ∨ op = 6 ∨ op = 7 ∨ op = 8 ∨ op = 9 ∨ op = 10 ∨ op = 11 ∨ op = 12 := by omega
  rw [d1h, d0t, d1d, d1f, d0z, d0x, d0v]
  rcases hc with rfl | rfl | rfl | rfl | rfl | rfl | rfl | rfl | rfl | rfl <;> simp [c4q]
theorem a9d (op W K A B C b c : Int) (x : Bool) {k : Nat} (hk : 1 ≤ k) : wK k b c x op W K A B C = some (if x = true then b else if op = 18 then c else 0) := by
  obtain ⟨k, rfl⟩ : ∃ m, k = m + 1 := ⟨k - 1, oM⟩
  simp only [wK]
  cases x <;> simp
  by_cases h : op = 18 <;> simp [h]
theorem b6h (op W K A B C w a b c : Int) (h : a7w W w a b c) {k : Nat} (hk : 40 ≤ k) :
    rS k w a b c false op W K A B C = some (b6r op W K w a b c) := by
  obtain ⟨k, rfl⟩ : ∃ m, k = m + 2 := ⟨k - 2, oM⟩
  obtain ⟨⟨W1, W8⟩, ⟨w1, w8⟩, ⟨a0, a1⟩, ⟨b0, b1⟩, c0, c1⟩ := h
  simp only [rS, xO]
  rw [if_neg (by simp)]
  unfold b6r
  by_cases h0 : op = 0
  · rw [if_pos h0, if_pos h0]
  rw [if_neg h0, if_neg h0]
  by_cases h2 : op = 2
  · rw [if_pos h2, if_pos h2, c9y]; rfl
  rw [if_neg h2, if_neg h2, inI]
  simp only [Option.bind_some, decide_eq_true_eq]
  by_cases hb : 3 ≤ op ∧ op ≤ 12
  · rw [if_pos hb, if_pos hb, d0r _ _ _ _ hb]; rfl
  rw [if_neg hb, if_neg hb]
  by_cases h13 : op = 13
  · rw [if_pos h13, if_pos h13, c7u]; simp
  rw [if_neg h13, if_neg h13]
  by_cases h14 : op = 14
  · rw [if_pos h14, if_pos h14, c9u]; rfl
  rw [if_neg h14, if_neg h14]
  by_cases h15 : op = 15
  · rw [if_pos h15, if_pos h15, b0h]; rfl
  rw [if_neg h15, if_neg h15]
  by_cases h16 : op = 16
  · rw [if_pos h16, if_pos h16, if_pos h16]
    by_cases hw : W < w
    · rw [if_pos hw, if_pos hw]
    · have hp := qU (by omega : 0 ≤ W - w) oM
      have hm := a4z a0 a1 (by omega : 0 ≤ P2 (W - w)) hp.2
      rw [if_neg hw, if_neg hw, kU (x := W - w) oM oM, if_pos (vK _), a0n oM oM, b4l a0 a1 oM oM, kU oM oM]
  rw [if_neg h16, if_neg h16, if_neg h16, if_neg (by simp)]
  by_cases h17 : op = 17
  · rw [if_pos h17, if_pos h17, c7y _ _ _ _ oM oM]; rfl
  rw [if_neg h17, if_neg h17]
  by_cases h18 : op = 18
  · rw [if_pos h18, if_pos h18, a9d _ _ _ _ _ _ _ _ _ oM]; by_cases h1 : a = 1 <;> simp [h1, h18]
  rw [if_neg h18, if_neg h18, a9d _ _ _ _ _ _ _ _ _ oM]; simp [h18]
theorem a9c (op W K A B C w a b c : Int) {k : Nat} (hk : 1 ≤ k) : rS k w a b c true op W K A B C = some 0 := by
  obtain ⟨k, rfl⟩ : ∃ m, k = m + 1 := ⟨k - 1, oM⟩
  simp only [rS, if_true]
theorem c8m (op W K A B C w a b c : Int) {k : Nat} (hk : 40 ≤ k) :
    yC k op W K A B C w a b c = some (vP op W K w a b c) := by
  unfold yC sH wG vP
  simp only [inI, Option.bind_some, decide_eq_true_eq, a9c op W K A B C w a b c (by omega : 1 ≤ k)]
  by_cases h : a7w W w a b c
  · rw [if_pos h]
    have h' := h
    obtain ⟨hW, hw, ha, hb, hc⟩ := h'
    simp only [hW, hw, ha, hb, hc, and_self, if_true, decide_true, Bool.not_true]
    exact b6h op W K A B C w a b c h hk
  · rw [if_neg h]
    unfold a7w at h
    by_cases hW : 1 ≤ W ∧ W ≤ 8
    · rw [if_pos hW]
      by_cases hw : 1 ≤ w ∧ w ≤ 8
      · rw [if_pos hw]
        by_cases ha : 0 ≤ a ∧ a ≤ 255
        · rw [if_pos ha]
          by_cases hb : 0 ≤ b ∧ b ≤ 255
          · rw [if_pos hb]
            have hc : ¬ (0 ≤ c ∧ c ≤ 255) := fun hc => h ⟨hW, hw, ha, hb, hc⟩
            rw [decide_eq_false hc]
            exact a9c op W K A B C w a b c oM
          · rw [if_neg hb]
        · rw [if_neg ha]
      · rw [if_neg hw]
    · rw [if_neg hW]
theorem a3d (op w q a b c : Int) {k : Nat} (hk : 1 ≤ k) : rW k op w q a b c = some (kS op a b c) := by
  obtain ⟨k, rfl⟩ : ∃ m, k = m + 1 := ⟨k - 1, oM⟩
  unfold rW kS
  simp only [vC, inS]
  by_cases h2 : op = 2
  · subst h2; simp
  · by_cases h17 : op = 17
    · subst h17; simp
    · by_cases h19 : op = 19
      · subst h19; simp
      · by_cases h20 : op = 20
        · subst h20; simp
        · have hq : ¬ (op = 2 ∨ op = 17 ∨ op = 19 ∨ op = 20) := by omega
          rw [if_neg h2, if_neg h17, if_neg h19, if_neg (by simpa using h20), if_neg hq]
          simp only [Option.bind_some, decide_eq_true_eq]
          by_cases h3 : 3 ≤ op ∧ op ≤ 16
          · rw [if_pos h3, if_pos h3]
          · rw [if_neg h3, if_neg h3]
            by_cases h18 : op = 18
            · rw [if_pos h18, if_pos h18]
            · rw [if_neg h18, if_neg h18]
theorem rdN (l : List S31) (i : Nat) (h : i < l.length) : kA l (i : Int) = l[i] := by
  unfold kA
  rw [Int.toNat_natCast, List.getD_eq_getElem?_getD, List.getElem?_eq_getElem h]; rfl
theorem rdI (l : List Int) (i : Nat) (h : i < l.length) : rd l (i : Int) = l[i] := by simp [rd, h]
theorem rX {x a b : Int} : inB x a b = true ↔ a ≤ x ∧ x ≤ b := by simp [inB]
theorem c4s (x a b : Int) : pJ x a b = some (inB x a b) := inS x a b
theorem c3p (l : List S31) (i : Int) (hi0 : 0 ≤ i) (hi1 : i ≤ 9223372036854775807) (ps : List Int) (hps : ps.length ≤ 3) (n0 n1 n2 n3 n4 n5 : Int) (r : Bool)
    (h1 : (∀ p ∈ ps, inB p 0 (i - 1) = true) → Ev (fun k => sM k l i ps (ps.length : Int) n0 n1 n2 n3 n4 n5) r) (h2 : (¬ ∀ p ∈ ps, inB p 0 (i - 1) = true) → r = false) (d : Nat) :
    ∀ j : Nat, j + d = ps.length → (∀ t : Nat, t < j → inB (rd ps (t : Int)) 0 (i - 1) = true) → Ev (fun k => sM k l i ps (j : Int) n0 n1 n2 n3 n4 n5) r := by
  induction d with
  | zero =>
    intro j hj hA
    obtain rfl : j = ps.length := by omega
    refine h1 fun p hp => ?_
    obtain ⟨t, ht, rfl⟩ := List.getElem_of_mem hp
    rw [← rdI ps t ht]; exact hA t ht
  | succ d ih =>
    intro j hj hA
    have hlt : j < ps.length := by omega
    refine kN ?_
    simp only [sM]
    refine kD oM (kD oM (qA (c4s _ _ _) ?_))
    rw [kU (x := i - 1) oM oM]
    by_cases hb : inB (rd ps (j : Int)) 0 (i - 1) = true
    · refine kD hb ?_
      rw [kU oM oM]
      refine ih (j + 1) oM fun t ht => ?_
      rcases Nat.lt_or_ge t j with h | h
      · exact hA t h
      · obtain rfl : t = j := by omega
        exact hb
    · refine kQ hb ?_
      rw [h2 fun h => hb (by rw [rdI ps j hlt]; exact h _ (List.getElem_mem hlt))]
      exact pW
theorem c3o (l : List S31) (hl : l.length ≤ 4611686018427387904) (ps : List Int) (hps : ps.length ≤ 3) (hp : ∀ p ∈ ps, 0 ≤ p ∧ p < (l.length : Int)) (n0 n1 n2 n3 n4 n5 : Int) (r : Bool)
    (h : Ev (fun k => rO k l ps (ps.map fun p => (kA l p).f1) (ps.length : Int) n0 n1 n2 n3 n4 n5) r) (d : Nat) :
    ∀ j : Nat, j + d = ps.length → Ev (fun k => rO k l ps ((ps.take j).map fun p => (kA l p).f1) (j : Int) n0 n1 n2 n3 n4 n5) r := by
  induction d with
  | zero =>
    intro j hj
    obtain rfl : j = ps.length := by omega
    rw [List.take_of_length_le oM]; exact h
  | succ d ih =>
    intro j hj
    have hlt : j < ps.length := by omega
    have hq := hp _ (List.getElem_mem hlt)
    refine kN ?_
    simp only [rO]
    rw [rdI ps j hlt]
    refine kD oM (kD oM (kD hq.1 (kD hq.2 (kD (by simp; omega) ?_))))
    rw [wS j]
    have := ih (j + 1) oM
    rwa [List.take_succ_eq_append_getElem hlt, List.map_append] at this
theorem a7l (l : List S31) (i : Nat) (p : Int) (h0 : 0 ≤ p) (h1 : p < i) : kA (l.take i) p = kA l p := by
  unfold kA
  rw [List.getD_eq_getElem?_getD, List.getD_eq_getElem?_getD, List.getElem?_take, if_pos oM]
theorem c8t (l : List S31) (ps ws : List Int) (op W K A B C : Int) (hps : ps = kS op A B C) (hws : ws.length = ps.length) :
    Ev (fun k => rO k l ps ws (ps.length : Int) op W K A B C) (inB op 0 20 && xV op K A B C && pQ op W K B (ws.getD 0 0) (ws.getD 1 0) (ws.getD 2 0)) := by
  have hl := qN op A B C
  refine yY 60 fun k hk => ?_
  obtain ⟨k, rfl⟩ : ∃ m, k = m + 2 := ⟨k - 2, oM⟩
  simp only [rO]
  rw [if_neg oM, c0n _ _ oM, c4s, c4s, c4s]
  simp only [Option.bind_some, vR, c4s]
  have rd0 : rd ws 0 = ws.getD 0 0 := rfl
  have rd1 : rd ws 1 = ws.getD 1 0 := rfl
  have rd2 : rd ws 2 = ws.getD 2 0 := rfl
  rw [rd0, rd1, rd2]
  generalize ws.getD 0 0 = u
  generalize ws.getD 1 0 = v
  generalize ws.getD 2 0 = x
  by_cases h0 : op = 0
  · subst h0; simp [inB, xV, pQ]; by_cases g : wok W K = true <;> by_cases a : A = 0 <;> by_cases b : B = 0 <;> simp [g, a, b]
  rw [if_neg h0]
  by_cases h1 : op = 1
  · subst h1; by_cases g : inB K 0 7 = true <;> by_cases a : A = 0 <;> by_cases b : B = 0 <;> simp [xV, pQ, g, a, b, rX.mpr (show (0 : Int) ≤ 1 ∧ (1 : Int) ≤ 20 by omega)]
  rw [if_neg h1]
  by_cases h2 : op = 2
  · subst h2
    have hn : (0 : Int) < (ws.length : Int) := by rw [hws, hps]; simp [kS]
    rw [if_pos rfl, if_pos hn]
    by_cases a : u = W <;> by_cases b : K = 0 <;> by_cases c : B = 0 <;> simp [inB, xV, pQ, a, b, c]
  rw [if_neg h2]
  by_cases h3 : 3 ≤ op ∧ op ≤ 12
  · have e : ps = [A, B] := by rw [hps]; unfold kS; rw [if_neg oM, if_pos oM]
    have hn : ws.length = 2 := by rw [hws, e]; rfl
    rw [if_pos (rX.mpr h3), if_pos oM, if_pos (c := (1 : Int) < _) oM]
    have hu : xV op K A B C = (K == 0 && C == 0) := by unfold xV; rw [if_neg oM, if_neg oM, if_neg oM, if_neg oM, if_pos oM]
    have hr : pQ op W K B u v x = (u == W && v == W) := by unfold pQ; rw [if_neg oM, if_neg oM, if_neg oM, if_pos oM]
    rw [hu, hr, rX.mpr (show 0 ≤ op ∧ op ≤ 20 by omega)]
    by_cases a : u = W <;> by_cases b : K = 0 <;> by_cases c : v = W <;> simp [a, b, c]
  rw [if_neg (fun h => h3 (rX.mp h))]
  by_cases h4 : 13 ≤ op ∧ op ≤ 15
  · have e : ps = [A, B] := by rw [hps]; unfold kS; rw [if_neg oM, if_pos oM]
    have hn : ws.length = 2 := by rw [hws, e]; rfl
    rw [if_pos (rX.mpr h4), if_pos oM, if_pos (c := (1 : Int) < _) oM]
    have hu : xV op K A B C = (K == 0 && C == 0) := by unfold xV; rw [if_neg oM, if_neg oM, if_neg oM, if_neg oM, if_pos oM]
    have hr : pQ op W K B u v x = (u == v && W == 1) := by unfold pQ; rw [if_neg oM, if_neg oM, if_neg oM, if_neg oM, if_pos oM]
    rw [hu, hr, rX.mpr (show 0 ≤ op ∧ op ≤ 20 by omega)]
    by_cases a : u = v <;> by_cases b : K = 0 <;> by_cases c : W = 1 <;> simp [a, b, c]
  rw [if_neg (fun h => h4 (rX.mp h))]
  by_cases h16 : op = 16
  · subst h16
    have hn : ws.length = 2 := by rw [hws, hps]; rfl
    rw [if_pos rfl, if_pos oM, if_pos (c := (1 : Int) < _) oM]
    by_cases a : wrap64 (u + v) = W <;> by_cases b : K = 0 <;> simp [inB, xV, pQ, a, b]
  rw [if_neg h16]
  by_cases h17 : op = 17
  · subst h17
    have hn : ws.length = 1 := by rw [hws, hps]; rfl
    rw [if_pos rfl, if_pos (c := (0 : Int) < _) oM]
    by_cases a : 0 ≤ K <;> by_cases b : K ≤ wrap64 (u - W) <;> by_cases c : B = 0 <;> simp [inB, xV, pQ, a, b, c]
  rw [if_neg h17]
  by_cases h18 : op = 18
  · subst h18
    have hn : ws.length = 3 := by rw [hws, hps]; rfl
    rw [if_pos rfl, if_pos (c := (0 : Int) < _) oM, if_pos (c := (1 : Int) < _) oM, if_pos (c := (2 : Int) < _) oM]
    by_cases a : u = 1 <;> by_cases b : v = W <;> by_cases c : x = W <;> simp [inB, xV, pQ, a, b, c]
  rw [if_neg h18]
  by_cases h19 : op = 19
  · subst h19
    have hn : ws.length = 1 := by rw [hws, hps]; rfl
    rw [if_pos rfl, if_pos trivial, if_pos (c := (0 : Int) < _) oM]
    by_cases a : inB K 0 7 = true <;> by_cases b : inB B 1 8 = true <;> by_cases c : u = 1 <;> by_cases d : W = 1 <;> simp [xV, pQ, a, b, c, d, rX.mpr (show (0 : Int) ≤ 19 ∧ (19 : Int) ≤ 20 by omega)]
  rw [if_neg h19]
  by_cases h20 : op = 20
  · subst h20
    have hn : ws.length = 1 := by rw [hws, hps]; rfl
    rw [if_pos (by rfl), if_pos (c := (0 : Int) < _) oM]
    by_cases a : inB K 0 7 = true <;> by_cases b : inB B 1 8 = true <;> by_cases c : u = 1 <;> by_cases d : W = 1 <;> simp [xV, pQ, a, b, c, d, rX.mpr (show (0 : Int) ≤ 20 ∧ (20 : Int) ≤ 20 by omega)]
  rw [if_neg (by simpa using h20)]
  have hn : inB op 0 20 = false := by simp [inB]; omega
  simp [hn]
theorem c3q (l : List S31) (hl : l.length ≤ 4611686018427387904) (i : Nat) (hi : i < l.length) : Ev (fun k => wQ k l (i : Int)) (xI (l.take i) (kA l i).f0 (kA l i).f1 (kA l i).f2 (kA l i).f3 (kA l i).f4 (kA l i).f5) := by
  unfold wQ
  refine kD oM (kD oM (kO (yY 1 fun k hk => a3d _ _ _ _ _ _ hk) ?_))
  generalize (kA l i).f0 = op
  generalize (kA l i).f1 = W
  generalize (kA l i).f2 = K
  generalize (kA l i).f3 = A
  generalize (kA l i).f4 = B
  generalize (kA l i).f5 = C
  have hlen := qN op A B C
  have htk : ((l.take i).length : Int) = i := by rw [List.length_take]; omega
  refine c3p l i oM oM _ hlen op W K A B C _ (fun hall => ?_) (fun hn => ?_) _ 0 (Nat.zero_add _) (fun t ht => absurd ht oM)
  · refine kN ?_
    simp only [sM]
    refine kQ oM (qA (c4s _ _ _) ?_)
    have hall' : (kS op A B C).all (fun p => inB p 0 (((l.take i).length : Int) - 1)) = true := by rw [htk]; exact List.all_eq_true.mpr hall
    unfold xI
    rw [hall']
    by_cases hw : inB W 1 8 = true
    · refine kD hw ?_
      rw [hw]
      have hwv : ∀ t : Nat, wv (l.take i) (kS op A B C) (kS op A B C).length t = ((kS op A B C).map fun p => (kA l p).f1).getD t 0 := by
        intro t
        unfold wv
        by_cases ht : t < (kS op A B C).length
        · rw [if_pos ht, rdI _ t ht, List.getD_eq_getElem?_getD, List.getElem?_map, List.getElem?_eq_getElem ht]
          have := rX.mp (hall _ (List.getElem_mem ht))
          rw [a7l l i _ this.1 oM]; rfl
        · rw [if_neg ht, List.getD_eq_getElem?_getD, List.getElem?_eq_none (by simp; omega)]; rfl
      rw [hwv, hwv, hwv]
      simp only [Bool.true_and, Bool.and_true]
      exact c3o l hl _ hlen (fun p hp => by have := rX.mp (hall p hp); omega) op W K A B C _ (c8t l _ _ op W K A B C rfl (by simp)) _ 0 (Nat.zero_add _)
    · have hw' : inB W 1 8 = false := by simpa using hw
      refine kQ hw ?_
      rw [hw']; simp only [Bool.false_and]; exact pW
  · unfold xI
    have hnot : (kS op A B C).all (fun p => inB p 0 (((l.take i).length : Int) - 1)) = false := by
      rw [htk]
      cases e : (kS op A B C).all (fun p => inB p 0 ((i : Int) - 1)) with
      | false => rfl
      | true => exact absurd (List.all_eq_true.mp e) hn
    rw [hnot]; simp
def a1r (l : List S31) (i : Nat) : Bool := xI (l.take i) (kA l i).f0 (kA l i).f1 (kA l i).f2 (kA l i).f3 (kA l i).f4 (kA l i).f5
def qL (l : List S31) : Prop := ∀ i < l.length, a1r l i = true
def yZ (l : List S31) : Prop := 1 ≤ l.length ∧ l.length ≤ 80 ∧ qL l
theorem b1o (l : List S31) (hl : l.length ≤ 80) (d : Nat) : ∀ i : Nat, i + d = l.length → ∃ r, Ev (fun k => tM k l (i : Int)) r ∧ Ev (fun k => tO k l l (l.length : Int) (i : Int)) r ∧ (r = true ↔ ∀ j < l.length, i ≤ j → a1r l j = true) := by
  induction d with
  | zero =>
    intro i hi
    refine ⟨true, kN ?_, kN ?_, by simp; intro j h1 h2; omega⟩
    · simp only [tM]; exact kQ oM pW
    · simp only [tO]; exact kQ oM pW
  | succ d ih =>
    intro i hi
    have hlt : i < l.length := by omega
    obtain ⟨r, e1, e2, h⟩ := ih (i + 1) oM
    have hn := c3q l oM i hlt
    by_cases hb : a1r l i = true
    · refine ⟨r, kN ?_, kN ?_, ?_⟩
      · simp only [tM]
        refine kD oM (kO hn (kD hb ?_))
        rw [wS i]; exact e1
      · simp only [tO]
        refine kD oM (kD oM (kD oM (kD oM (qA rfl (kD hb ?_)))))
        rw [wS i]; exact e2
      · rw [h]
        constructor
        · intro hh j h1 h2
          rcases Nat.lt_or_ge i j with h3 | h3
          · exact hh j h1 h3
          · obtain rfl : i = j := by omega
            exact hb
        · intro hh j h1 h2
          exact hh j h1 oM
    · refine ⟨false, kN ?_, kN ?_, ?_⟩
      · simp only [tM]
        exact kD oM (kO hn (kQ hb pW))
      · simp only [tO]
        exact kD oM (kD oM (kD oM (kD oM (qA rfl (kQ hb pW)))))
      · simp only [Bool.false_eq_true, false_iff]
        intro hh
        exact hb (hh i hlt oM)
theorem a7i (l : List S31) : ∃ r, Ev (fun k => sF k l) r ∧ Ev (fun k => tH k l) r ∧ (r = true ↔ yZ l) := by
  by_cases hb : 1 ≤ (l.length : Int) ∧ (l.length : Int) ≤ 80
  · obtain ⟨r, e1, e2, h⟩ := b1o l oM l.length 0 oM
    refine ⟨r, ?_, ?_, ?_⟩
    · unfold sF; exact qA (inS _ _ _) (kD (by simpa using hb) e1)
    · unfold tH; exact qA (inI _ _ _) (kD (by simpa using hb) e2)
    · rw [h]; unfold yZ qL
      constructor
      · intro hh; exact ⟨oM, oM, fun i hi => hh i hi oM⟩
      · intro hh j h1 _; exact hh.2.2 j h1
  · refine ⟨false, ?_, ?_, ?_⟩
    · unfold sF; exact qA (inS _ _ _) (kQ (by simpa using hb) pW)
    · unfold tH; exact qA (inI _ _ _) (kQ (by simpa using hb) pW)
    · simp only [Bool.false_eq_true, false_iff]; unfold yZ; omega
def pl (l : List S31) (i : Nat) : List Int := kS (kA l i).f0 (kA l i).f3 (kA l i).f4 (kA l i).f5
def pH (l : List S31) : Prop := ∀ i < l.length, ∀ p ∈ pl l i, 0 ≤ p ∧ p < (i : Int)
theorem qV {l : List S31} (h : qL l) : pH l := by
  intro i hi p hp
  have hb := h i hi
  unfold a1r xI at hb
  simp only [Bool.and_eq_true] at hb
  have := rX.mp (List.all_eq_true.mp hb.1.2 p hp)
  rw [List.length_take] at this
  omega
def uQ (met : List Bool) (ps : List Int) : List Bool := ps.foldl (fun m p => m.set p.toNat true) met
theorem a1b (ps : List Int) : ∀ met : List Bool, (uQ met ps).length = met.length := by
  induction ps with
  | nil => intro met; rfl
  | cons p ps ih => intro met; show (uQ (met.set p.toNat true) ps).length = _; rw [ih, List.length_set]
def vA (pb : Nat → Bool) (l : List S31) (j : Nat) (met : List Bool) : List Bool := if met.getD j false = true ∧ pb j = true then uQ met (pl l j) else met
def rgo (pb : Nat → Bool) (l : List S31) : Nat → List Bool → List Bool
  | 0, met => met
  | j + 1, met => rgo pb l j (vA pb l j met)
theorem a0o (pb : Nat → Bool) (l : List S31) (j : Nat) (met : List Bool) : (vA pb l j met).length = met.length := by
  unfold vA; split
  · rw [a1b]
  · rfl
theorem c3h (pb : Nat → Bool) (l : List S31) (j : Nat) : ∀ met, (rgo pb l j met).length = met.length := by
  induction j with
  | zero => intro met; rfl
  | succ j ih => intro met; show (rgo pb l j _).length = _; rw [ih, a0o]
def uF (pb : Nat → Bool) (l : List S31) (root : Nat) : List Bool := rgo pb l (root + 1) ((List.replicate l.length false).set root true)
theorem sU (pb : Nat → Bool) (l : List S31) (root : Nat) : (uF pb l root).length = l.length := by unfold uF; rw [c3h]; simp
theorem rdB (l : List Bool) (i : Nat) (h : i < l.length) : vU false l (i : Int) = l[i] := by
  unfold vU
  rw [Int.toNat_natCast, List.getD_eq_getElem?_getD, List.getElem?_eq_getElem h]; rfl
theorem gdB (l : List Bool) (i : Nat) (h : i < l.length) : l.getD i false = l[i] := by
  rw [List.getD_eq_getElem?_getD, List.getElem?_eq_getElem h]; rfl
theorem a4t (ps : List Int) (t : Nat) (h : t < ps.length) (met : List Bool) : uQ met (ps.drop t) = uQ (met.set (rd ps (t : Int)).toNat true) (ps.drop (t + 1)) := by
  rw [List.drop_eq_getElem_cons h, rdI ps t h]; rfl
theorem b4y (pf : Int → Option Bool) (l : List S31) (x8 : Int) (ps : List Int) (hps : ps.length ≤ 3) (hp : ∀ p ∈ ps, 0 ≤ p ∧ p < (l.length : Int)) (R : List Bool) (d : Nat) : ∀ (t : Nat) (met : List Bool), t + d = ps.length → met.length = l.length →
    Ev (fun k => sG pf k l (uQ met (ps.drop t)) (wrap64 (x8 - 1))) R → Ev (fun k => vD pf k l met x8 ps (ps.length : Int) (t : Int)) R := by
  induction d with
  | zero =>
    intro t met ht hm h
    refine kN ?_
    simp only [vD]
    refine kQ oM ?_
    rw [List.drop_eq_nil_of_le oM] at h
    exact h
  | succ d ih =>
    intro t met ht hm h
    have hlt : t < ps.length := by omega
    have hq := hp _ (List.getElem_mem hlt)
    refine kN ?_
    simp only [vD]
    rw [a4t ps t hlt] at h
    refine kD oM (kD oM (kD oM (kD (by rw [rdI ps t hlt]; exact hq.1) (kD (by rw [rdI ps t hlt]; omega) ?_))))
    rw [wS t]
    exact ih (t + 1) _ oM (by rw [List.length_set]; exact hm) h
theorem b4z (pf : Int → Option Bool) (pb : Nat → Bool) (l : List S31) (hl : l.length ≤ 4611686018427387904) (hP : pH l) (hpf : ∀ i : Nat, i < l.length → pf (i : Int) = some (pb i)) (j : Nat) : ∀ met : List Bool, j ≤ l.length → met.length = l.length →
    Ev (fun k => sG pf k l met ((j : Int) - 1)) (rgo pb l j met) := by
  induction j with
  | zero =>
    intro met hj hm
    refine kN ?_
    simp only [sG]
    exact kQ oM pW
  | succ j ih =>
    intro met hj hm
    have hlt : j < met.length := by omega
    rw [show ((j + 1 : Nat) : Int) - 1 = (j : Int) by omega]
    show Ev _ (rgo pb l j (vA pb l j met))
    refine kN ?_
    simp only [sG]
    refine kD oM (kD oM (kD oM ?_))
    rw [rdB met j hlt]
    have jump : ∀ met' : List Bool, met'.length = l.length → Ev (fun k => sG pf k l met' (wrap64 ((j : Int) - 1))) (rgo pb l j met') := by
      intro met' hm'
      rw [kU oM oM]
      exact ih met' oM hm'
    by_cases hb : met[j] = true
    · refine kD hb (qA (hpf j oM) ?_)
      by_cases hq : pb j = true
      · have hs : vA pb l j met = uQ met (pl l j) := by unfold vA; rw [if_pos ⟨by rw [gdB met j hlt]; exact hb, hq⟩]
        rw [hq, hs]
        refine kN ?_
        simp only [vE]
        refine kQ (by decide) (kD oM (kD oM (kO (yY 1 fun k hk => a8k _ _ _ _ _ _ hk) ?_)))
        have h0 := b4y pf l (j : Int) (pl l j) (qN _ _ _ _) (fun p hp => by have := hP j oM p hp; omega) (rgo pb l j (uQ met (pl l j))) (pl l j).length 0 met oM hm (jump _ (by rw [List.drop_zero, a1b]; exact hm))
        exact h0
      · have hq' : pb j = false := by simpa using hq
        have hs : vA pb l j met = met := by unfold vA; rw [if_neg (fun h => hq h.2)]
        rw [hq', hs]
        refine kN ?_
        simp only [vE]
        exact kD rfl (jump met hm)
    · have hs : vA pb l j met = met := by unfold vA; rw [if_neg (fun h => hb (by rw [← gdB met j hlt]; exact h.1))]
      rw [hs]
      refine kQ hb ?_
      refine kN ?_
      simp only [vE]
      exact kD trivial (jump met hm)
theorem a3o (pf : Int → Option Bool) (pb : Nat → Bool) (l : List S31) (hl : l.length ≤ 281474976710656) (hP : pH l) (hpf : ∀ i : Nat, i < l.length → pf (i : Int) = some (pb i)) (root : Nat) (hr : root < l.length) :
    Ev (fun k => vW pf k l (root : Int)) (uF pb l root) := by
  unfold vW
  refine kD oM (kD oM (qA rfl (kD oM (kD (by simp; omega) ?_))))
  have := b4z pf pb l oM hP hpf (root + 1) ((List.replicate l.length false).set root true) oM (by simp)
  rw [show ((root + 1 : Nat) : Int) - 1 = (root : Int) by omega] at this
  rw [Int.toNat_natCast, Int.toNat_natCast]
  exact this
theorem a2u (l : List S31) (hl : l.length ≤ 281474976710656) (h0 : 1 ≤ l.length) (hP : pH l) : Ev (fun k => uK k l) (uF (fun _ => true) l (l.length - 1)) := by
  unfold uK
  rw [kU oM oM, show (l.length : Int) - 1 = ((l.length - 1 : Nat) : Int) by omega]
  exact kO (a3o yF (fun _ => true) l hl hP (fun i _ => rfl) (l.length - 1) oM) pW
theorem b4v (l : List S31) (i : Nat) (hi : i < l.length) (ps : List Int) (hps : ps.length ≤ 3) (hp : ∀ p ∈ ps, 0 ≤ p ∧ p < (l.length : Int)) (R : List Bool) (d : Nat) : ∀ (t : Nat) (met : List Bool), t + d = ps.length → met.length = l.length → met.getD i false = true →
    Ev (fun k => qQ k l (uQ met (ps.drop t)) (wrap64 ((i : Int) - 1))) R → Ev (fun k => rT k l met (i : Int) ps (t : Int)) R := by
  induction d with
  | zero =>
    intro t met ht hm hb h
    refine kN ?_
    simp only [rT]
    refine kQ oM ?_
    rw [List.drop_eq_nil_of_le oM] at h
    exact h
  | succ d ih =>
    intro t met ht hm hb h
    have hlt : t < ps.length := by omega
    have hq := hp _ (List.getElem_mem hlt)
    have him : i < met.length := by omega
    refine kN ?_
    simp only [rT]
    rw [a4t ps t hlt] at h
    refine kD oM (kD oM (kD oM (kD (by rw [rdB met i him, ← gdB met i him]; exact hb) (kD oM (kD (by rw [rdI ps t hlt]; exact hq.1) (kD (by rw [rdI ps t hlt]; omega) ?_))))))
    rw [wS t]
    refine ih (t + 1) _ oM (by rw [List.length_set]; exact hm) ?_ h
    rw [gdB _ i (by rw [List.length_set]; exact him), List.getElem_set]
    split
    · rfl
    · rw [← gdB met i him]; exact hb
theorem b4w (l : List S31) (hl : l.length ≤ 4611686018427387904) (hP : pH l) (j : Nat) : ∀ met : List Bool, j ≤ l.length → met.length = l.length → Ev (fun k => qQ k l met ((j : Int) - 1)) (rgo (fun _ => true) l j met) := by
  induction j with
  | zero =>
    intro met hj hm
    refine kN ?_
    simp only [qQ]
    exact kQ oM pW
  | succ j ih =>
    intro met hj hm
    have hlt : j < met.length := by omega
    rw [show ((j + 1 : Nat) : Int) - 1 = (j : Int) by omega]
    show Ev _ (rgo _ l j (vA _ l j met))
    have jump : ∀ met' : List Bool, met'.length = l.length → Ev (fun k => qQ k l met' (wrap64 ((j : Int) - 1))) (rgo (fun _ => true) l j met') := by
      intro met' hm'
      rw [kU oM oM]
      exact ih met' oM hm'
    refine kN ?_
    simp only [qQ]
    refine kD oM (kD oM (kD oM (kO (yY 1 fun k hk => a3d _ _ _ _ _ _ hk) ?_)))
    by_cases hb : met.getD j false = true
    · have hs : vA (fun _ => true) l j met = uQ met (pl l j) := by unfold vA; rw [if_pos ⟨hb, rfl⟩]
      rw [hs]
      exact b4v l j oM (pl l j) (qN _ _ _ _) (fun p hp => by have := hP j oM p hp; omega) (rgo _ l j (uQ met (pl l j))) (pl l j).length 0 met oM hm hb (jump _ (by rw [List.drop_zero, a1b]; exact hm))
    · have hs : vA (fun _ => true) l j met = met := by unfold vA; rw [if_neg (fun h => hb h.1)]
      rw [hs]
      refine kN ?_
      simp only [rT]
      by_cases h0 : (0 : Int) < ((pl l j).length : Int)
      · refine kD h0 (kD oM (kD oM (kQ ?_ (jump met hm))))
        rw [rdB met j hlt, ← gdB met j hlt]; exact hb
      · exact kQ h0 (jump met hm)
theorem b4x (l : List S31) (hl : l.length ≤ 1048576) (hP : pH l) (d : Nat) : ∀ i : Nat, i + d = l.length →
    Ev (fun k => sX k l ((List.range i).map fun t : Nat => ((t : Int) == (l.length : Int) - 1)) (i : Int)) (rgo (fun _ => true) l l.length ((List.range l.length).map fun t : Nat => ((t : Int) == (l.length : Int) - 1))) := by
  induction d with
  | zero =>
    intro i hi
    obtain rfl : i = l.length := by omega
    refine kN ?_
    simp only [sX]
    refine kQ oM ?_
    rw [kU oM oM]
    exact b4w l oM hP l.length _ (Nat.le_refl _) (by simp)
  | succ d ih =>
    intro i hi
    refine kN ?_
    simp only [sX]
    refine kD oM (kD (by rw [List.length_map, List.length_range]; omega) ?_)
    rw [kU (x := (l.length : Int) - 1) oM oM, wS i]
    have := ih (i + 1) oM
    rwa [List.range_succ, List.map_append] at this
theorem a5c (l : List S31) (hl : l.length ≤ 1048576) (h0 : 1 ≤ l.length) (hP : pH l) : Ev (fun k => uL k l) (uF (fun _ => true) l (l.length - 1)) := by
  unfold uL uF
  have := b4x l hl hP l.length 0 oM
  rw [show l.length - 1 + 1 = l.length by omega]
  have e : (List.replicate l.length false).set (l.length - 1) true = (List.range l.length).map fun t : Nat => ((t : Int) == (l.length : Int) - 1) := by
    apply List.ext_getElem
    · simp
    · intro t h1 h2
      rw [List.getElem_set, List.getElem_map, List.getElem_range]
      by_cases c : l.length - 1 = t
      · rw [if_pos c]; symm; simp; omega
      · rw [if_neg c, List.getElem_replicate]; symm; simp; simp at h2; omega
  rw [e]
  exact this
theorem c8p (a b c d e f : Int) : pO a b c d e f = some ((a == 19) || (a == 20)) := by
  unfold pO
  by_cases h : a = 19
  · rw [if_pos h]; simp [h]
  · rw [if_neg h]; simp [h]
theorem c4r (a : Int) : rC a = some ((a == 19) || (a == 20)) := by
  unfold rC
  by_cases h : a = 19
  · rw [if_pos h]; simp [h]
  · rw [if_neg h]; simp [h]
def a9k (l : List S31) (i : Nat) : Bool := ((kA l i).f0 == 19) || ((kA l i).f0 == 20)
def a5z (l : List S31) (v : Int) (i : Nat) : Bool := ((kA l i).f0 == 1) && ((kA l i).f2 == v)
def a5m (l : List S31) (v : Int) (i : Nat) : Bool := a9k l i && ((kA l i).f2 == v)
def b0f (l : List S31) (T : List (List Bool)) (i v : Nat) : Bool :=
  if a5m l v i = true then false else (a5z l v i || (pl l i).any fun p => (T.getD p.toNat []).getD v false)
def FT (l : List S31) : Nat → List (List Bool)
  | 0 => []
  | i + 1 => FT l i ++ [(List.range 8).map (b0f l (FT l i) i)]
theorem a9i (l : List S31) (i : Nat) : (FT l i).length = i := by
  induction i with
  | zero => rfl
  | succ i ih => simp [FT, ih]
theorem c8k (l : List S31) (i : Nat) : ∀ r ∈ FT l i, r.length = 8 := by
  induction i with
  | zero => intro r hr; simp [FT] at hr
  | succ i ih =>
    intro r hr
    simp only [FT, List.mem_append, List.mem_singleton] at hr
    rcases hr with hr | rfl
    · exact ih r hr
    · simp
theorem a6u (l : List S31) (n : Nat) : ∀ i < n, (FT l n).getD i [] = (List.range 8).map (b0f l (FT l i) i) := by
  induction n with
  | zero => intro i hi; omega
  | succ n ih =>
    intro i hi
    rw [FT, List.getD_eq_getElem?_getD]
    by_cases h : i < n
    · rw [List.getElem?_append_left (by rw [a9i]; exact h), ← List.getD_eq_getElem?_getD]; exact ih i h
    · obtain rfl : i = n := by omega
      rw [List.getElem?_append_right (by rw [a9i]; exact Nat.le_refl _), a9i, Nat.sub_self]; rfl
def DF (l : List S31) (n v i : Nat) : Bool := ((FT l n).getD i []).getD v false
theorem b8k (l : List S31) (hP : pH l) (v : Nat) (hv : v < 8) (i : Nat) (hi : i < l.length) : DF l l.length v i = if a5m l v i = true then false else (a5z l v i || (pl l i).any fun p => DF l l.length v p.toNat) := by
  unfold DF
  rw [a6u l l.length i hi, List.getD_eq_getElem?_getD, List.getElem?_map, List.getElem?_range hv]
  show b0f l (FT l i) i v = _
  unfold b0f
  have e : ((pl l i).any fun p => ((FT l i).getD p.toNat []).getD v false) = (pl l i).any fun p => ((FT l l.length).getD p.toNat []).getD v false := by
    rw [Bool.eq_iff_iff, List.any_eq_true, List.any_eq_true]
    constructor
    · rintro ⟨p, hp, h⟩
      have := hP i hi p hp
      exact ⟨p, hp, by rw [a6u l i p.toNat oM] at h; rw [a6u l l.length p.toNat oM]; exact h⟩
    · rintro ⟨p, hp, h⟩
      have := hP i hi p hp
      exact ⟨p, hp, by rw [a6u l l.length p.toNat oM] at h; rw [a6u l i p.toNat oM]; exact h⟩
  rw [e]
theorem yM (ps : List Int) : ∀ (met : List Bool) (i : Nat), (uQ met ps).getD i false = true ↔ met.getD i false = true ∨ (i < met.length ∧ ∃ p ∈ ps, p.toNat = i) := by
  induction ps with
  | nil => intro met i; simp [uQ]
  | cons p ps ih =>
    intro met i
    show (uQ (met.set p.toNat true) ps).getD i false = true ↔ _
    rw [ih, List.length_set]
    have h1 : (met.set p.toNat true).getD i false = true ↔ met.getD i false = true ∨ (i < met.length ∧ p.toNat = i) := by
      by_cases hi : i < met.length
      · rw [gdB _ i (by rw [List.length_set]; exact hi), List.getElem_set, gdB met i hi]
        by_cases c : p.toNat = i
        · simp [c, hi]
        · simp [c]
      · rw [List.getD_eq_getElem?_getD, List.getElem?_eq_none (by rw [List.length_set]; omega), List.getD_eq_getElem?_getD, List.getElem?_eq_none oM]
        simp [hi]
    rw [h1]
    constructor
    · rintro ((h | h) | ⟨h, q, hq, e⟩)
      · exact .inl h
      · exact .inr ⟨h.1, p, List.mem_cons_self .., h.2⟩
      · exact .inr ⟨h, q, List.mem_cons_of_mem _ hq, e⟩
    · rintro (h | ⟨h, q, hq, e⟩)
      · exact .inl (.inl h)
      · rcases List.mem_cons.mp hq with rfl | hq
        · exact .inl (.inr ⟨h, e⟩)
        · exact .inr ⟨h, q, hq, e⟩
theorem b2l (l : List S31) (hP : pH l) (v : Nat) (hv : v < 8) (j : Nat) : ∀ met : List Bool, j ≤ l.length → met.length = l.length →
    (((∃ i, j ≤ i ∧ i < l.length ∧ met.getD i false = true ∧ a5z l v i = true) ∨ (∃ i < j, met.getD i false = true ∧ DF l l.length v i = true)) ↔
      ∃ i < l.length, (rgo (fun i => !a5m l v i) l j met).getD i false = true ∧ a5z l v i = true) := by
  induction j with
  | zero =>
    intro met hj hm
    simp only [rgo]
    constructor
    · rintro (⟨i, _, h1, h2, h3⟩ | ⟨i, h, _⟩)
      · exact ⟨i, h1, h2, h3⟩
      · omega
    · rintro ⟨i, h1, h2, h3⟩; exact .inl ⟨i, oM, h1, h2, h3⟩
  | succ j ih =>
    intro met hj hm
    show _ ↔ ∃ i < l.length, (rgo (fun i => !a5m l v i) l j (vA _ l j met)).getD i false = true ∧ a5z l v i = true
    rw [← ih _ oM (by rw [a0o]; exact hm)]
    have hD := b8k l hP v hv j oM
    by_cases hb : met.getD j false = true
    · by_cases hq : a5m l v j = true
      · have hs : vA (fun i => !a5m l v i) l j met = met := by unfold vA; rw [if_neg (by simp [hq])]
        rw [hs]
        rw [if_pos hq] at hD
        have hnv : a5z l v j = false := by
          unfold a5m a9k at hq
          unfold a5z
          have : (kA l j).f0 = 19 ∨ (kA l j).f0 = 20 := by simp at hq; exact hq.1
          rcases this with h | h <;> simp [h]
        constructor
        · rintro (⟨i, h0, h1, h2, h3⟩ | ⟨i, h0, h1, h2⟩)
          · exact .inl ⟨i, oM, h1, h2, h3⟩
          · rcases Nat.lt_or_ge i j with c | c
            · exact .inr ⟨i, c, h1, h2⟩
            · obtain rfl : i = j := by omega
              rw [hD] at h2; simp at h2
        · rintro (⟨i, h0, h1, h2, h3⟩ | ⟨i, h0, h1, h2⟩)
          · rcases Nat.lt_or_ge j i with c | c
            · exact .inl ⟨i, oM, h1, h2, h3⟩
            · obtain rfl : i = j := by omega
              rw [hnv] at h3; simp at h3
          · exact .inr ⟨i, oM, h1, h2⟩
      · have hs : vA (fun i => !a5m l v i) l j met = uQ met (pl l j) := by unfold vA; rw [if_pos ⟨hb, by simpa using hq⟩]
        rw [hs]
        rw [if_neg hq] at hD
        have hin := hP j oM
        constructor
        · rintro (⟨i, h0, h1, h2, h3⟩ | ⟨i, h0, h1, h2⟩)
          · exact .inl ⟨i, oM, h1, (yM _ _ _).mpr (.inl h2), h3⟩
          · rcases Nat.lt_or_ge i j with c | c
            · exact .inr ⟨i, c, (yM _ _ _).mpr (.inl h1), h2⟩
            · obtain rfl : i = j := by omega
              rw [hD, Bool.or_eq_true, List.any_eq_true] at h2
              rcases h2 with h2 | ⟨p, hp, h2⟩
              · exact .inl ⟨i, oM, oM, (yM _ _ _).mpr (.inl h1), h2⟩
              · have := hin p hp
                exact .inr ⟨p.toNat, oM, (yM _ _ _).mpr (.inr ⟨oM, p, hp, rfl⟩), h2⟩
        · rintro (⟨i, h0, h1, h2, h3⟩ | ⟨i, h0, h1, h2⟩)
          · have h2' : met.getD i false = true := by
              rcases (yM _ _ _).mp h2 with h | ⟨_, p, hp, e⟩
              · exact h
              · have := hin p hp; omega
            rcases Nat.lt_or_ge j i with c | c
            · exact .inl ⟨i, oM, h1, h2', h3⟩
            · obtain rfl : i = j := by omega
              exact .inr ⟨i, oM, h2', by rw [hD, h3, Bool.true_or]⟩
          · rcases (yM _ _ _).mp h1 with h | ⟨_, p, hp, e⟩
            · exact .inr ⟨i, oM, h, h2⟩
            · refine .inr ⟨j, oM, hb, ?_⟩
              rw [hD, Bool.or_eq_true, List.any_eq_true]
              exact .inr ⟨p, hp, by rw [e]; exact h2⟩
    · have hs : vA (fun i => !a5m l v i) l j met = met := by unfold vA; rw [if_neg (fun h => hb h.1)]
      rw [hs]
      constructor
      · rintro (⟨i, h0, h1, h2, h3⟩ | ⟨i, h0, h1, h2⟩)
        · exact .inl ⟨i, oM, h1, h2, h3⟩
        · rcases Nat.lt_or_ge i j with c | c
          · exact .inr ⟨i, c, h1, h2⟩
          · obtain rfl : i = j := by omega
            exact absurd h1 hb
      · rintro (⟨i, h0, h1, h2, h3⟩ | ⟨i, h0, h1, h2⟩)
        · rcases Nat.lt_or_ge j i with c | c
          · exact .inl ⟨i, oM, h1, h2, h3⟩
          · obtain rfl : i = j := by omega
            exact absurd h2 hb
        · exact .inr ⟨i, oM, h1, h2⟩
theorem b5r (l : List S31) (h0 : 1 ≤ l.length) (hP : pH l) (v : Nat) (hv : v < 8) :
    (∃ i < l.length, (uF (fun i => !a5m l v i) l (l.length - 1)).getD i false = true ∧ a5z l v i = true) ↔ DF l l.length v (l.length - 1) = true := by
  unfold uF
  rw [show l.length - 1 + 1 = l.length by omega, ← b2l l hP v hv l.length _ (Nat.le_refl _) (by simp)]
  have hm : ∀ i, ((List.replicate l.length false).set (l.length - 1) true).getD i false = true ↔ i = l.length - 1 := by
    intro i
    by_cases hi : i < l.length
    · rw [gdB _ i (by simpa using hi), List.getElem_set]
      by_cases c : l.length - 1 = i
      · simp [c]
      · simp [c]; omega
    · rw [List.getD_eq_getElem?_getD, List.getElem?_eq_none (by simp; omega)]; simp; omega
  constructor
  · rintro (⟨i, a, b, _⟩ | ⟨i, a, b, c⟩)
    · omega
    · rw [(hm i).mp b] at c; exact c
  · intro h; exact .inr ⟨l.length - 1, oM, (hm _).mpr rfl, h⟩
theorem l2F (l : List S31) (i : Nat) (hi : i < l.length) (hl : l.length ≤ 80) (T : List (List Bool)) (hT : T.length = i) (hR : ∀ r ∈ T, r.length = 8) (row : List Bool) (v : Nat) (hv : v < 8) (hrow : row.length = v) (ps : List Int) (hps : ps.length ≤ 3) (hp : ∀ p ∈ ps, 0 ≤ p ∧ p < (i : Int)) (R : List Bool) (d : Nat) :
    ∀ (t : Nat) (x7 : Bool), t + d = ps.length →
    Ev (fun k => qH k l T (i : Int) (row ++ [if a5m l v i = true then false else (x7 || (ps.drop t).any fun p => (T.getD p.toNat []).getD v false)]) (wrap64 ((v : Int) + 1))) R →
    Ev (fun k => sO k l T (i : Int) row (v : Int) x7 ps (t : Int)) R := by
  induction d with
  | zero =>
    intro t x7 ht h
    rw [List.drop_eq_nil_of_le oM] at h
    simp only [List.any_nil, Bool.or_false] at h
    refine kN ?_
    simp only [sO]
    refine kQ oM (kD oM (kD oM ?_))
    unfold a5m a9k at h
    by_cases a : (kA l i).f0 = 19
    · refine kD a ?_
      by_cases b : (kA l i).f2 = (v : Int)
      · rw [if_pos (by simp [a, b])] at h
        exact kD b (kD oM h)
      · rw [if_neg (by simp [a, b])] at h
        exact kQ b (kD oM h)
    · refine kQ a ?_
      by_cases a2 : (kA l i).f0 = 20
      · refine kD a2 ?_
        by_cases b : (kA l i).f2 = (v : Int)
        · rw [if_pos (by simp [a2, b])] at h
          exact kD b (kD oM h)
        · rw [if_neg (by simp [a2, b])] at h
          exact kQ b (kD oM h)
      · rw [if_neg (by simp [a, a2])] at h
        exact kQ a2 (kD oM h)
  | succ d ih =>
    intro t x7 ht h
    have hlt : t < ps.length := by omega
    have hq := hp _ (List.getElem_mem hlt)
    rw [List.drop_eq_getElem_cons hlt, List.any_cons, ← Bool.or_assoc] at h
    refine kN ?_
    simp only [sO]
    refine kD oM ?_
    rw [wS t, rdI ps t hlt]
    by_cases hx : x7 = true
    · rw [hx, Bool.true_or] at h
      exact kD hx (ih (t + 1) true oM h)
    · have hx' : x7 = false := by simpa using hx
      rw [hx', Bool.false_or] at h
      have hr : (T.getD ps[t].toNat []).length = 8 := by
        rw [List.getD_eq_getElem?_getD, List.getElem?_eq_getElem oM]
        exact hR _ (List.getElem_mem _)
      refine kQ hx (kD oM (kD hq.1 (kD oM (kD oM (kD ?_ ?_)))))
      · show (v : Int) < ((T.getD ps[t].toNat []).length : Int); omega
      · refine ih (t + 1) _ oM ?_
        exact h
theorem l1F (l : List S31) (i : Nat) (hi : i < l.length) (hl : l.length ≤ 80) (hP : pH l) (T : List (List Bool)) (hT : T.length = i) (hR : ∀ r ∈ T, r.length = 8) (R : List Bool)
    (h : Ev (fun k => sP k l (T ++ [(List.range 8).map (b0f l T i)]) (wrap64 ((i : Int) + 1))) R) (d : Nat) :
    ∀ v : Nat, v + d = 8 → Ev (fun k => qH k l T (i : Int) ((List.range v).map (b0f l T i)) (v : Int)) R := by
  induction d with
  | zero =>
    intro v hv
    obtain rfl : v = 8 := by omega
    refine kN ?_
    simp only [qH]
    exact kQ oM (kD oM h)
  | succ d ih =>
    intro v hv
    refine kN ?_
    simp only [qH]
    have go : ∀ x7 : Bool, x7 = a5z l v i → Ev (fun k => uN k l T (i : Int) ((List.range v).map (b0f l T i)) (v : Int) x7) R := by
      rintro x7 rfl
      refine kN ?_
      simp only [uN]
      refine kD oM (kD oM (kO (yY 1 fun k hk => a3d _ _ _ _ _ _ hk) ?_))
      refine l2F l i hi hl T hT hR _ v oM (by simp) (pl l i) (qN _ _ _ _) (hP i hi) R (pl l i).length 0 _ oM ?_
      have := ih (v + 1) oM
      rw [List.range_succ, List.map_append] at this
      rw [wS v]
      exact this
    refine kD oM (kD oM (kD oM ?_))
    by_cases a : (kA l i).f0 = 1
    · exact kD a (go _ (by unfold a5z; simp [a]))
    · exact kQ a (go _ (by unfold a5z; simp [a]))
theorem l0F (l : List S31) (hl : l.length ≤ 80) (h0 : 1 ≤ l.length) (hP : pH l) (d : Nat) : ∀ i : Nat, i + d = l.length → Ev (fun k => sP k l (FT l i) (i : Int)) ((FT l l.length).getD (l.length - 1) []) := by
  induction d with
  | zero =>
    intro i hi
    obtain rfl : i = l.length := by omega
    refine kN ?_
    simp only [sP]
    rw [kU (x := (l.length : Int) - 1) oM oM]
    refine kQ oM (kD oM (kD (by rw [a9i]; omega) (a8x ?_)))
    unfold a4x
    rw [show ((l.length : Int) - 1).toNat = l.length - 1 by omega]
  | succ d ih =>
    intro i hi
    refine kN ?_
    simp only [sP]
    refine kD oM ?_
    refine l1F l i oM hl hP (FT l i) (a9i l i) (c8k l i) _ ?_ 8 0 rfl
    have := ih (i + 1) oM
    rw [wS i]
    exact this
theorem b2h (l : List S31) (hl : l.length ≤ 80) (h0 : 1 ≤ l.length) (hP : pH l) : Ev (fun k => xS k l) ((FT l l.length).getD (l.length - 1) []) := l0F l hl h0 hP l.length 0 oM
theorem b2c (l : List S31) (hl : l.length ≤ 4611686018427387904) (v : Int) (met : List Bool) (hm : met.length = l.length) (d : Nat) : ∀ i : Nat, i + d = l.length →
    ∃ r, Ev (fun k => pY k v met l (l.length : Int) (i : Int)) r ∧ (r ≥ 0 ↔ ∃ j, i ≤ j ∧ j < l.length ∧ met.getD j false = true ∧ a5z l v j = true) := by
  induction d with
  | zero =>
    intro i hi
    refine ⟨-1, kN ?_, ?_⟩
    · simp only [pY]; exact kQ oM pW
    · constructor
      · intro h; omega
      · rintro ⟨j, a, b, _⟩; omega
  | succ d ih =>
    intro i hi
    have hlt : i < l.length := by omega
    obtain ⟨r, e, h⟩ := ih (i + 1) oM
    have e' : Ev (fun k => pY k v met l (l.length : Int) (wrap64 ((i : Int) + 1))) r := by
      rw [wS i]; exact e
    have skip : ¬ (met.getD i false = true ∧ a5z l v i = true) → (r ≥ 0 ↔ ∃ j, i ≤ j ∧ j < l.length ∧ met.getD j false = true ∧ a5z l v j = true) := by
      intro hn
      rw [h]
      constructor
      · rintro ⟨j, a, b⟩; exact ⟨j, oM, b⟩
      · rintro ⟨j, a, b, c⟩
        rcases Nat.lt_or_ge i j with q | q
        · exact ⟨j, oM, b, c⟩
        · obtain rfl : i = j := by omega
          exact absurd c hn
    by_cases hb : met.getD i false = true
    · by_cases h1 : (kA l i).f0 = 1
      · by_cases h2 : (kA l i).f2 = v
        · refine ⟨(i : Int), kN ?_, ?_⟩
          · simp only [pY]
            exact kD oM (kD oM (kD oM (kD oM (kD (by rw [rdB met i oM, ← gdB met i oM]; exact hb) (kD h1 (kD h2 pW))))))
          · exact ⟨fun _ => ⟨i, oM, hlt, hb, by unfold a5z; simp [h1, h2]⟩, fun _ => by omega⟩
        · refine ⟨r, kN ?_, skip (fun hh => h2 ?_)⟩
          · simp only [pY]
            exact kD oM (kD oM (kD oM (kD oM (kD (by rw [rdB met i oM, ← gdB met i oM]; exact hb) (kD h1 (kQ h2 e'))))))
          · have := hh.2; unfold a5z at this; simp at this; exact this.2
      · refine ⟨r, kN ?_, skip (fun hh => h1 ?_)⟩
        · simp only [pY]
          exact kD oM (kD oM (kD oM (kD oM (kD (by rw [rdB met i oM, ← gdB met i oM]; exact hb) (kQ h1 e')))))
        · have := hh.2; unfold a5z at this; simp at this; exact this.1
    · refine ⟨r, kN ?_, skip (fun hh => hb hh.1)⟩
      simp only [pY]
      exact kD oM (kD oM (kD oM (kD oM (kQ (by rw [rdB met i oM, ← gdB met i oM]; exact hb) e'))))
theorem b5w (l : List S31) (hl : l.length ≤ 281474976710656) (h0 : 1 ≤ l.length) (hP : pH l) (v : Int) : Ev (fun k => vF k l v) (uF (fun i => !a5m l v i) l (l.length - 1)) := by
  unfold vF
  rw [kU oM oM, show (l.length : Int) - 1 = ((l.length - 1 : Nat) : Int) by omega]
  refine a3o _ _ l hl hP (fun i hi => ?_) (l.length - 1) oM
  unfold uU
  rw [if_pos oM, if_pos oM]
  unfold a5m a9k
  congr 1
  cases ((kA l i).f0 == 19) || ((kA l i).f0 == 20) <;> simp [bne]
theorem a8v (l : List S31) (hl : l.length ≤ 281474976710656) (h0 : 1 ≤ l.length) (hP : pH l) (v : Nat) (hv : v < 8) : ∃ r, Ev (fun k => vJ k l (v : Int)) r ∧ (r ≥ 0 ↔ DF l l.length v (l.length - 1) = true) := by
  obtain ⟨r, e, h⟩ := b2c l oM (v : Int) (uF (fun i => !a5m l v i) l (l.length - 1)) (sU _ _ _) l.length 0 oM
  refine ⟨r, ?_, ?_⟩
  · unfold vJ xT
    exact kO (b5w l hl h0 hP (v : Int)) (kO e pW)
  · rw [h, ← b5r l h0 hP v hv]
    constructor
    · rintro ⟨j, _, a⟩; exact ⟨j, a⟩
    · rintro ⟨j, a⟩; exact ⟨j, oM, a⟩
def a7q (D : Nat → Bool) : Nat → Nat → List Int
  | 0, _ => []
  | d + 1, v => if D v = true then (v : Int) :: a7q D d (v + 1) else a7q D d (v + 1)
theorem b5s (l : List S31) (hl : l.length ≤ 80) (h0 : 1 ≤ l.length) (hP : pH l) (d : Nat) : ∀ (v : Nat) (out : List Int), v + d = 8 → out.length + d ≤ 8 →
    ∃ r, Ev (fun k => uD k out ((FT l l.length).getD (l.length - 1) []) (v : Int)) r ∧ Ev (fun k => uH k l out (v : Int)) r ∧ r.length ≤ 8 ∧ r = out ++ a7q (fun v => DF l l.length v (l.length - 1)) d v := by
  have hrow : ((FT l l.length).getD (l.length - 1) []).length = 8 := by rw [a6u l l.length _ oM]; simp
  induction d with
  | zero =>
    intro v out hv ho
    refine ⟨out, kN ?_, kN ?_, oM, by simp [a7q]⟩
    · simp only [uD]; exact kQ oM pW
    · simp only [uH]; exact kQ oM pW
  | succ d ih =>
    intro v out hv ho
    obtain ⟨q, eq, hq⟩ := a8v l oM h0 hP v oM
    have hrd : vU false ((FT l l.length).getD (l.length - 1) []) (v : Int) = DF l l.length v (l.length - 1) := by
      unfold vU DF; rw [Int.toNat_natCast]
    by_cases hD : DF l l.length v (l.length - 1) = true
    · obtain ⟨r, e1, e2, hr, he⟩ := ih (v + 1) (out ++ [(v : Int)]) oM (by simp; omega)
      refine ⟨r, kN ?_, kN ?_, hr, by rw [he]; simp [a7q, hD]⟩
      · simp only [uD]
        refine kD oM (kD oM (kD oM (kD (by rw [hrd]; exact hD) (kD oM ?_))))
        rw [wS v]; exact e1
      · simp only [uH]
        refine kD oM (kO eq (kD (hq.mpr hD) (kD oM ?_)))
        rw [wS v]; exact e2
    · obtain ⟨r, e1, e2, hr, he⟩ := ih (v + 1) out oM oM
      refine ⟨r, kN ?_, kN ?_, hr, by rw [he]; simp [a7q, hD]⟩
      · simp only [uD]
        refine kD oM (kD oM (kD oM (kQ (by rw [hrd]; exact hD) ?_)))
        rw [wS v]; exact e1
      · simp only [uH]
        refine kD oM (kO eq (kQ (fun h => hD (hq.mp h)) ?_))
        rw [wS v]; exact e2
def b0c (l : List S31) : List Int := a7q (fun v => DF l l.length v (l.length - 1)) 8 0
theorem b6o (l : List S31) (h : yZ l) : Ev (fun k => yQ k l) (b0c l) ∧ Ev (fun k => yW k l) (b0c l) ∧ (b0c l).length ≤ 8 := by
  obtain ⟨b, e1, e2, hb⟩ := a7i l
  obtain rfl : b = true := hb.mpr h
  obtain ⟨h1, h2, h3⟩ := h
  obtain ⟨r, f1, f2, hr, he⟩ := b5s l h2 h1 (qV h3) 8 0 [] rfl (by simp)
  obtain rfl : r = b0c l := by rw [he, List.nil_append]; rfl
  unfold yQ yW
  exact ⟨qA rfl (kO e1 (kD rfl (kO (b2h l h2 h1 (qV h3)) f1))), qA rfl (kO e2 (kD rfl f2)), hr⟩
def a3c (g : Int → Int) (n : S31) : S31 := ⟨n.f0, n.f1, n.f2, if 0 < (kS n.f0 n.f3 n.f4 n.f5).length then g n.f3 else n.f3, if 1 < (kS n.f0 n.f3 n.f4 n.f5).length then g n.f4 else n.f4, if 2 < (kS n.f0 n.f3 n.f4 n.f5).length then g n.f5 else n.f5⟩
def wR (l : List S31) (met : List Bool) : Nat → List Int × List S31
  | 0 => (List.replicate l.length 0, [])
  | i + 1 => if met.getD i false = true then ((wR l met i).1.set i ((wR l met i).2.length : Int), (wR l met i).2 ++ [a3c (fun p => rd ((wR l met i).1.set i ((wR l met i).2.length : Int)) p) (kA l (i : Int))]) else wR l met i
theorem a8q (l : List S31) (met : List Bool) (i : Nat) : (wR l met i).1.length = l.length ∧ (wR l met i).2.length ≤ i := by
  induction i with
  | zero => simp [wR]
  | succ i ih =>
    unfold wR
    split
    · simp [ih.1, ih.2]
    · exact ⟨ih.1, oM⟩
theorem yS (ps : List Int) : ∀ (met : List Bool) (i : Nat), met.getD i false = true → (uQ met ps).getD i false = true := by
  induction ps with
  | nil => intro met i h; exact h
  | cons p ps ih =>
    intro met i h
    refine ih _ i ?_
    rw [List.getD_eq_getElem?_getD, List.getElem?_set]
    split
    · split
      · rfl
      · rename_i h1 h2; subst h1; rw [List.getD_eq_getElem?_getD, List.getElem?_eq_none oM] at h; simp at h
    · rwa [List.getD_eq_getElem?_getD] at h
theorem a6h (ps : List Int) : ∀ (met : List Bool) (p : Int), p ∈ ps → 0 ≤ p → p.toNat < met.length → (uQ met ps).getD p.toNat false = true := by
  induction ps with
  | nil => intro met p h; cases h
  | cons q ps ih =>
    intro met p h h0 h1
    show (uQ (met.set q.toNat true) ps).getD p.toNat false = true
    rcases List.mem_cons.mp h with rfl | h
    · refine yS ps _ _ ?_
      rw [List.getD_eq_getElem?_getD, List.getElem?_set, if_pos rfl, if_pos h1]; rfl
    · exact ih _ p h h0 (by rw [List.length_set]; exact h1)
theorem a6i (ps : List Int) : ∀ (met : List Bool) (i : Nat), (∀ p ∈ ps, p.toNat ≠ i) → (uQ met ps).getD i false = met.getD i false := by
  induction ps with
  | nil => intro met i _; rfl
  | cons q ps ih =>
    intro met i h
    show (uQ (met.set q.toNat true) ps).getD i false = _
    rw [ih _ i (fun p hp => h p (List.mem_cons_of_mem _ hp)), List.getD_eq_getElem?_getD, List.getElem?_set, if_neg (h q List.mem_cons_self), List.getD_eq_getElem?_getD]
theorem b1x (l : List S31) (hP : pH l) (j : Nat) : ∀ met : List Bool, j ≤ l.length → met.length = l.length → (∀ i < l.length, j ≤ i → met.getD i false = true → ∀ p ∈ pl l i, met.getD p.toNat false = true) →
    ∀ i < l.length, (rgo (fun _ => true) l j met).getD i false = true → ∀ p ∈ pl l i, (rgo (fun _ => true) l j met).getD p.toNat false = true := by
  induction j with
  | zero => intro met _ _ h i hi hm p hp; exact h i hi oM hm p hp
  | succ j ih =>
    intro met hj hm h
    refine ih _ oM (by rw [a0o]; exact hm) ?_
    intro i hi hij hmi p hp
    by_cases hb : met.getD j false = true
    · have hs : vA (fun _ => true) l j met = uQ met (pl l j) := by unfold vA; rw [if_pos ⟨hb, rfl⟩]
      rw [hs] at hmi ⊢
      rcases Nat.eq_or_lt_of_le hij with rfl | hlt
      · have := hP j oM p hp
        exact a6h _ _ p hp this.1 oM
      · rw [a6i _ _ i (fun q hq => by have := hP j oM q hq; omega)] at hmi
        exact yS _ _ _ (h i hi oM hmi p hp)
    · have hs : vA (fun _ => true) l j met = met := by unfold vA; rw [if_neg (fun h => hb h.1)]
      rw [hs] at hmi ⊢
      rcases Nat.eq_or_lt_of_le hij with rfl | hlt
      · exact absurd hmi hb
      · exact h i hi oM hmi p hp
theorem uE (l : List S31) (hP : pH l) (root : Nat) (hr : root < l.length) : ∀ i < l.length, (uF (fun _ => true) l root).getD i false = true → ∀ p ∈ pl l i, (uF (fun _ => true) l root).getD p.toNat false = true := by
  unfold uF
  refine b1x l hP (root + 1) _ oM (by simp) ?_
  intro i hi hij hm p hp
  rw [List.getD_eq_getElem?_getD, List.getElem?_set, if_neg oM, List.getElem?_replicate, if_pos hi] at hm
  simp at hm
def yD (met : List Bool) : Nat → Nat
  | 0 => 0
  | i + 1 => yD met i + (if met.getD i false = true then 1 else 0)
theorem c4j (met : List Bool) (i : Nat) : yD met i ≤ i := by
  induction i with
  | zero => exact Nat.le_refl _
  | succ i ih => unfold yD; split <;> omega
theorem c0s (l : List Int) (p : Int) : rd l p = l.getD p.toNat 0 := rfl
theorem a7o (l : List S31) (met : List Bool) (i : Nat) : i ≤ l.length → (wR l met i).2.length = yD met i ∧ ∀ p < i, met.getD p false = true → (wR l met i).1.getD p 0 = (yD met p : Int) := by
  induction i with
  | zero => intro _; exact ⟨rfl, fun p hp => absurd hp oM⟩
  | succ i ih =>
    intro hi
    obtain ⟨h1, h2⟩ := ih oM
    have hl := (a8q l met i).1
    have hcn : yD met (i + 1) = yD met i + (if met.getD i false = true then 1 else 0) := rfl
    rw [hcn]
    unfold wR
    by_cases hb : met.getD i false = true
    · rw [if_pos hb, if_pos hb]
      refine ⟨by simp [h1], fun p hp hm => ?_⟩
      rw [List.getD_eq_getElem?_getD, List.getElem?_set]
      by_cases hpi : i = p
      · subst hpi; rw [if_pos rfl, if_pos oM, h1]; rfl
      · rw [if_neg hpi, ← List.getD_eq_getElem?_getD]; exact h2 p oM hm
    · rw [if_neg hb, if_neg hb]
      refine ⟨oM, fun p hp hm => ?_⟩
      by_cases hpi : i = p
      · subst hpi; exact absurd hm hb
      · exact h2 p oM hm
def zX (met : List Bool) (i : Nat) : List Int := (List.range i).map fun t => (yD met t : Int)
theorem b2d (met : List Bool) (i : Nat) (p : Int) (h0 : 0 ≤ p) (h1 : p < (i : Int)) : rd (zX met i) p = (yD met p.toNat : Int) := by
  rw [c0s, List.getD_eq_getElem?_getD]
  unfold zX
  rw [List.getElem?_map, List.getElem?_range oM]; rfl
theorem a6q (met : List Bool) (i : Nat) : (zX met i).length = i := by simp [zX]
theorem a9x (l : List S31) (hl : l.length ≤ 80) (hP : pH l) (met : List Bool) (hm : met.length = l.length) (hc : ∀ i < l.length, met.getD i false = true → ∀ p ∈ pl l i, met.getD p.toNat false = true) (d : Nat) : ∀ i : Nat, i + d = l.length →
    Ev (fun k => rQ k l (wR l met i).2 met (zX met i) (i : Int)) (wR l met l.length).2 := by
  induction d with
  | zero =>
    intro i hi
    obtain rfl : i = l.length := by omega
    refine kN ?_
    simp only [rQ]
    exact kQ oM pW
  | succ d ih =>
    intro i hi
    have hlt : i < l.length := by omega
    have him : i < met.length := by omega
    obtain ⟨k1, k2⟩ := a7o l met i oM
    have hcl := c4j met i
    have hnext := ih (i + 1) oM
    have hpl : zX met i ++ [((wR l met i).2.length : Int)] = zX met (i + 1) := by unfold zX; rw [List.range_succ, List.map_append, k1]; rfl
    refine kN ?_
    simp only [rQ]
    rw [hpl, wS i, rdB met i him, ← gdB met i him]
    refine kD oM (kD (by rw [a6q]; omega) (qA rfl (kD oM (kD oM ?_))))
    by_cases hb : met.getD i false = true
    · refine kD hb (kO (yY 1 fun k hk => a3d _ _ _ _ _ _ hk) ?_)
      have hkn : (wR l met (i + 1)).2 = (wR l met i).2 ++ [a3c (fun p => rd (zX met (i + 1)) p) (kA l (i : Int))] := by
        show (if met.getD i false = true then _ else _ : List Int × List S31).2 = _
        rw [if_pos hb]
        have key : ∀ p ∈ pl l i, rd ((wR l met i).1.set i ((wR l met i).2.length : Int)) p = rd (zX met (i + 1)) p := by
          intro p hp
          have hp1 := hP i hlt p hp
          rw [b2d met (i + 1) p hp1.1 oM, c0s, List.getD_eq_getElem?_getD, List.getElem?_set, if_neg oM, ← List.getD_eq_getElem?_getD]
          exact k2 p.toNat oM (hc i hlt hb p hp)
        simp only [a3c]
        congr 2
        unfold pl at key
        generalize (kA l (i : Int)).f3 = A at *
        generalize (kA l (i : Int)).f4 = B at *
        generalize (kA l (i : Int)).f5 = C at *
        generalize (kA l (i : Int)).f0 = op at *
        have h3 : 0 < (kS op A B C).length → A ∈ kS op A B C := by unfold kS; split <;> (try split) <;> (try split) <;> simp
        have h4 : 1 < (kS op A B C).length → B ∈ kS op A B C := by unfold kS; split <;> (try split) <;> (try split) <;> simp
        have h5 : 2 < (kS op A B C).length → C ∈ kS op A B C := by unfold kS; split <;> (try split) <;> (try split) <;> simp
        congr 1
        · by_cases h : 0 < (kS op A B C).length
          · rw [if_pos h, if_pos h, key A (h3 h)]
          · rw [if_neg h, if_neg h]
        · by_cases h : 1 < (kS op A B C).length
          · rw [if_pos h, if_pos h, key B (h4 h)]
          · rw [if_neg h, if_neg h]
        · by_cases h : 2 < (kS op A B C).length
          · rw [if_pos h, if_pos h, key C (h5 h)]
          · rw [if_neg h, if_neg h]
      rw [hkn] at hnext
      have hin : ∀ p ∈ pl l i, 0 ≤ p ∧ p < ((zX met (i + 1)).length : Int) := by intro p hp; have := hP i hlt p hp; rw [a6q]; omega
      unfold pl at hin
      unfold a3c at hnext
      have hlen : (wR l met i).2.length < 2932031007402 := by omega
      generalize (kA l (i : Int)).f3 = A at *
      generalize (kA l (i : Int)).f4 = B at *
      generalize (kA l (i : Int)).f5 = C at *
      generalize (kA l (i : Int)).f0 = op at *
      have h3 : 0 < (kS op A B C).length → A ∈ kS op A B C := by unfold kS; split <;> (try split) <;> (try split) <;> simp
      have h4 : 1 < (kS op A B C).length → B ∈ kS op A B C := by unfold kS; split <;> (try split) <;> (try split) <;> simp
      have h5 : 2 < (kS op A B C).length → C ∈ kS op A B C := by unfold kS; split <;> (try split) <;> (try split) <;> simp
      have h45 : 2 < (kS op A B C).length → 1 < (kS op A B C).length := by omega
      have tail : ∀ A' : Int, A' = (if 0 < (kS op A B C).length then rd (zX met (i + 1)) A else A) → Ev (fun k => wF k l (wR l met i).2 met (zX met (i + 1)) (i : Int) (kS op A B C) op (kA l (i : Int)).f1 (kA l (i : Int)).f2 A' B C) (wR l met l.length).2 := by
        intro A' hA'
        refine kN ?_
        simp only [wF]
        rw [wS i]
        subst hA'
        by_cases g1 : 1 < (kS op A B C).length
        · refine kD oM (kD (hin _ (h4 g1)).1 (kD (hin _ (h4 g1)).2 ?_))
          by_cases g2 : 2 < (kS op A B C).length
          · refine kD oM (kD (hin _ (h5 g2)).1 (kD (hin _ (h5 g2)).2 (kD hlen ?_)))
            rw [if_pos g1, if_pos g2] at hnext; exact hnext
          · refine kQ oM (kD hlen ?_)
            rw [if_pos g1, if_neg g2] at hnext; exact hnext
        · have g2 : ¬ 2 < (kS op A B C).length := by omega
          refine kQ oM (kQ oM (kD hlen ?_))
          rw [if_neg g1, if_neg g2] at hnext; exact hnext
      by_cases g0 : 0 < (kS op A B C).length
      · exact kD oM (kD (hin _ (h3 g0)).1 (kD (hin _ (h3 g0)).2 (tail _ (by rw [if_pos g0]))))
      · exact kQ oM (tail _ (by rw [if_neg g0]))
    · refine kQ hb ?_
      have hkn : wR l met (i + 1) = wR l met i := by
        show (if met.getD i false = true then _ else _ : List Int × List S31) = _
        rw [if_neg hb]
      rw [hkn] at hnext
      exact hnext
def uR (l : List S31) : List S31 := (wR l (uF (fun _ => true) l (l.length - 1)) l.length).2
theorem b7m (l : List S31) : (uR l).length ≤ l.length := (a8q l _ _).2
theorem b6l (l : List S31) (h : yZ l) (e1 : Ev (fun k => sF k l) true) : Ev (fun k => xX k l) (uR l) := by
  obtain ⟨h1, h2, h3⟩ := h
  have hP := qV h3
  unfold xX
  refine qA rfl (kO e1 (kD rfl (kO (a5c l oM h1 hP) ?_)))
  exact a9x l h2 hP _ (sU _ _ _) (uE l hP _ oM) l.length 0 oM
def Ok {α : Type} (g : Nat → Option α) (P : α → Prop) : Prop := ∃ r, Ev g r ∧ P r
theorem uS {α : Type} {P : α → Prop} {r : α} (h : P r) : Ok (fun _ => some r) P := ⟨r, pW, h⟩
theorem b0b {α : Type} {g : Nat → Option α} {P : α → Prop} {r : α} (e : Ev g r) (h : P r) : Ok g P := ⟨r, e, h⟩
theorem a2v {α : Type} {g : Nat → Option α} {P Q : α → Prop} (h : Ok g P) (k : ∀ a, P a → Q a) : Ok g Q := by
  obtain ⟨r, e, p⟩ := h; exact ⟨r, e, k r p⟩
theorem rY {α β : Type} {g : Nat → Option α} {f : Nat → α → Option β} {P : α → Prop} {Q : β → Prop} (h : Ok g P) (k : ∀ a, P a → Ok (fun n => f n a) Q) : Ok (fun n => (g n).bind (f n)) Q := by
  obtain ⟨a, e, p⟩ := h
  obtain ⟨r, e2, q⟩ := k a p
  exact ⟨r, kO e e2, q⟩
theorem pP {α β : Type} {c : Option α} {f : Nat → α → Option β} {Q : β → Prop} {a : α} (h : c = some a) (k : Ok (fun n => f n a) Q) : Ok (fun n => c.bind (f n)) Q := by
  subst h; exact k
theorem pV {α : Type} {c : Prop} [Decidable c] {A B : Nat → Option α} {P : α → Prop} (h : c) (k : Ok A P) : Ok (fun n => if c then A n else B n) P := by
  simpa [h] using k
theorem zY {α : Type} {c : Prop} [Decidable c] {A B : Nat → Option α} {P : α → Prop} (h : ¬ c) (k : Ok B P) : Ok (fun n => if c then A n else B n) P := by
  simpa [h] using k
theorem tW {α : Type} {c : Prop} [Decidable c] {A B : Nat → Option α} {P : α → Prop} (k : c → Ok A P) (j : ¬ c → Ok B P) : Ok (fun n => if c then A n else B n) P := by
  by_cases h : c
  · exact pV h (k h)
  · exact zY h (j h)
theorem qP {α : Type} {g : Nat → Option α} {P : α → Prop} (k : Ok (fun n => g (n + 1)) P) : Ok g P := by
  obtain ⟨r, e, p⟩ := k
  exact ⟨r, kN e, p⟩
theorem yU (t : List S31) (ht : t.length ≤ 1000000) (a b c d e f : Int) : pK t a b c d e f = some (t ++ [⟨a, b, c, d, e, f⟩], (t.length : Int)) := by
  unfold pK; rw [if_pos oM]
def DP (t : List S31) (s : Nat) (b : List Int) (r : List S31 × Int × Int × Int) : Prop := r.1.length ≤ t.length + s ∧ 0 ≤ r.2.1 ∧ r.2.1 < (r.1.length : Int) ∧ Cur b r.2.2.1
def a0z (vs : List S31) : Prop := vs.length ≤ 1000 ∧ ∀ x ∈ vs, 1 ≤ x.f1 ∧ x.f1 ≤ 8
theorem b0u {vs : List S31} (h : a0z vs) (p : Int) (h0 : 0 ≤ p) (h1 : p < (vs.length : Int)) : 1 ≤ (kA vs p).f1 ∧ (kA vs p).f1 ≤ 8 := by
  obtain ⟨q, rfl⟩ := Int.eq_ofNat_of_zero_le h0
  rw [rdN vs q oM]
  exact h.2 _ (List.getElem_mem _)
def DS : Nat → Nat
  | 0 => 1
  | d + 1 => 3 * DS d + 1
theorem c1g (d : Nat) : 1 ≤ DS d := by cases d <;> simp [DS]
def b6q (d : Nat) : Prop := ∀ (b : List Int) (i h : Int) (t vs : List S31) (w : Int), Cur b i → t.length ≤ 100000 → a0z vs → 1 ≤ w → w ≤ 8 → Ok (fun k => pA k b i h t vs w (d : Int)) (DP t (DS d) b)
theorem a7r (b : List Int) (i h : Int) (t vs : List S31) (w : Int) (same : List Int) (x : Bool) (hc : Cur b i) (ht : t.length ≤ 100000) (h0 : 1 ≤ w) (h8 : w ≤ 8) (hs : ∀ y ∈ same, 0 ≤ y ∧ y < (vs.length : Int)) (hx : x = true → 0 < same.length) (s : Nat) (h1 : 1 ≤ s) :
    Ok (fun k => uO k t vs w same x b i h) (DP t s b) := by
  refine qP ?_
  simp only [uO]
  refine tW (fun hxt => ?_) (fun _ => ?_)
  · obtain ⟨y, i', h', e, y0, _, y1, c⟩ := rZ b i h (same.length : Int) hc
    have hl := hx hxt
    have y1 := y1 oM
    refine pP e (pV y0 (pV y1 ?_))
    have hm := hs (rd same y) (by
      rw [show rd same y = same[y.toNat] from by unfold rd; rw [List.getD_eq_getElem?_getD, List.getElem?_eq_getElem oM]; rfl]
      exact List.getElem_mem _)
    refine pV hm.1 (pV hm.2 (pP (yU t oM _ _ _ _ _ _) (uS ?_)))
    refine ⟨by simp; omega, by simp, by simp; omega, c⟩
  · refine rY (b0b (yY 20 fun k hk => a6c oM h8 hk) rfl) (fun p hp => ?_)
    subst hp
    obtain ⟨y, i', h', e, y0, _, y1, c⟩ := rZ b i h (P2 w) hc
    refine pP e (pP (yU t oM _ _ _ _ _ _) (uS ?_))
    refine ⟨by simp; omega, by simp, by simp; omega, c⟩
theorem c4i (d : Nat) (hd : d ≤ 10) (ih : b6q d) (b : List Int) (i h : Int) (t vs : List S31) (w : Int) (hc : Cur b i) (ht : t.length + 3 * DS d ≤ 100000) (hv : a0z vs) (h0 : 1 ≤ w) (h8 : w ≤ 8) :
    Ok (fun k => rP k t vs w ((d + 1 : Nat) : Int) b i h) (DP t (DS (d + 1)) b) := by
  refine qP ?_
  simp only [rP]
  rw [kU (x := ((d + 1 : Nat) : Int) - 1) oM oM, show ((d + 1 : Nat) : Int) - 1 = (d : Int) by omega]
  refine rY (ih b i h t vs w hc oM hv h0 h8) (fun r hr => ?_)
  obtain ⟨t1, a1, i1, h1⟩ := r
  obtain ⟨l1, m1, n1, c1⟩ := hr
  simp only at l1 m1 n1 c1
  refine rY (ih b i1 h1 t1 vs w c1 oM hv h0 h8) (fun r hr => ?_)
  obtain ⟨t2, a2, i2, h2⟩ := r
  obtain ⟨l2, m2, n2, c2⟩ := hr
  simp only at l2 m2 n2 c2
  obtain ⟨y, i3, h3, e, _, _, _, c3⟩ := rZ b i2 h2 10 c2
  refine pP e (pP (yU t2 oM _ _ _ _ _ _) (uS ?_))
  exact ⟨by simp [DS]; omega, by simp, by simp; omega, c3⟩
theorem b0d (d : Nat) (hd : d ≤ 10) (ih : b6q d) (b : List Int) (i h : Int) (t vs : List S31) (w : Int) (x : Bool) (hc : Cur b i) (ht : t.length + 3 * DS d ≤ 100000) (hv : a0z vs) (h0 : 1 ≤ w) (h8 : w ≤ 8) (hx : x = true → 0 < vs.length) :
    Ok (fun k => tU k t vs w ((d + 1 : Nat) : Int) x b i h) (DP t (DS (d + 1)) b) := by
  have hvl := hv.1
  have hj4 : ∀ i h, Cur b i → Ok (fun k => rP k t vs w ((d + 1 : Nat) : Int) b i h) (DP t (DS (d + 1)) b) := fun i h hc => c4i d hd ih b i h t vs w hc ht hv h0 h8
  refine qP ?_
  simp only [tU]
  rw [kU (x := ((d + 1 : Nat) : Int) - 1) oM oM, show ((d + 1 : Nat) : Int) - 1 = (d : Int) by omega]
  refine tW (fun hxt => ?_) (fun _ => ?_)
  · have hl := hx hxt
    obtain ⟨y, i1, h1, e, y0, _, y1, c1⟩ := rZ b i h (vs.length : Int) hc
    have y1 := y1 oM
    have hw := b0u hv y y0 y1
    refine pP e (pV y0 (pV y1 (rY (ih b i1 h1 t vs _ c1 oM hv hw.1 hw.2) (fun r hr => ?_))))
    obtain ⟨t1, a1, i2, h2⟩ := r
    obtain ⟨l1, m1, n1, c2⟩ := hr
    simp only at l1 m1 n1 c2
    refine rY (ih b i2 h2 t1 vs _ c2 oM hv hw.1 hw.2) (fun r hr => ?_)
    obtain ⟨t2, a2, i3, h3⟩ := r
    obtain ⟨l2, m2, n2, c3⟩ := hr
    simp only at l2 m2 n2 c3
    obtain ⟨z, i4, h4, e4, _, _, _, c4⟩ := rZ b i3 h3 3 c3
    refine pP e4 (pP (yU t2 oM _ _ _ _ _ _) (uS ?_))
    exact ⟨by simp [DS]; omega, by simp, by simp; omega, c4⟩
  · obtain ⟨y, i1, h1, e, y0, _, y1, c1⟩ := rZ b i h 8 hc
    refine pP e (tW (fun _ => ?_) (fun _ => tW (fun _ => tW (fun hw1 => ?_) (fun _ => hj4 _ _ c1)) (fun _ => tW (fun _ => tW (fun hv0 => ?_) (fun _ => hj4 _ _ c1)) (fun _ => tW (fun _ => ?_) (fun _ => hj4 _ _ c1)))))
    · refine rY (ih b i1 h1 t vs w c1 oM hv h0 h8) (fun r hr => ?_)
      obtain ⟨t1, a1, i2, h2⟩ := r
      obtain ⟨l1, m1, n1, c2⟩ := hr
      simp only at l1 m1 n1 c2
      refine pP (yU t1 oM _ _ _ _ _ _) (uS ?_)
      exact ⟨by simp [DS]; omega, by simp, by simp; omega, c2⟩
    · rw [kU (x := w - 1) oM oM]
      obtain ⟨z, i2, h2, e2, z0, _, z1, c2⟩ := rZ b i1 h1 (w - 1) c1
      have z1 := z1 oM
      refine pP e2 ?_
      simp only
      rw [kU (x := 1 + z) oM oM, kU (x := w - (1 + z)) oM oM]
      refine rY (ih b i2 h2 t vs (1 + z) c2 oM hv oM oM) (fun r hr => ?_)
      obtain ⟨t1, a1, i3, h3⟩ := r
      obtain ⟨l1, m1, n1, c3⟩ := hr
      simp only at l1 m1 n1 c3
      refine rY (ih b i3 h3 t1 vs (w - (1 + z)) c3 oM hv oM oM) (fun r hr => ?_)
      obtain ⟨t2, a2, i4, h4⟩ := r
      obtain ⟨l2, m2, n2, c4⟩ := hr
      simp only at l2 m2 n2 c4
      refine pP (yU t2 oM _ _ _ _ _ _) (uS ?_)
      exact ⟨by simp [DS]; omega, by simp, by simp; omega, c4⟩
    · obtain ⟨z, i2, h2, e2, z0, _, z1, c2⟩ := rZ b i1 h1 (vs.length : Int) c1
      have z1 := z1 hv0
      have hw := b0u hv z z0 z1
      refine pP e2 (pV z0 (pV z1 (tW (fun hgt => ?_) (fun _ => hj4 _ _ c2))))
      refine rY (ih b i2 h2 t vs _ c2 oM hv hw.1 hw.2) (fun r hr => ?_)
      obtain ⟨t1, a1, i3, h3⟩ := r
      obtain ⟨l1, m1, n1, c3⟩ := hr
      simp only at l1 m1 n1 c3
      obtain ⟨y2, i4, h4, e4, _, _, _, c4⟩ := rZ b i3 h3 (wrap64 ((wrap64 (((kA vs z).f1) - w)) + 1)) c3
      refine pP e4 (pP (yU t1 oM _ _ _ _ _ _) (uS ?_))
      exact ⟨by simp [DS]; omega, by simp, by simp; omega, c4⟩
    · refine rY (ih b i1 h1 t vs 1 c1 oM hv oM oM) (fun r hr => ?_)
      obtain ⟨t1, a1, i2, h2⟩ := r
      obtain ⟨l1, m1, n1, c2⟩ := hr
      simp only at l1 m1 n1 c2
      refine rY (ih b i2 h2 t1 vs w c2 oM hv h0 h8) (fun r hr => ?_)
      obtain ⟨t2, a2, i3, h3⟩ := r
      obtain ⟨l2, m2, n2, c3⟩ := hr
      simp only at l2 m2 n2 c3
      refine rY (ih b i3 h3 t2 vs w c3 oM hv h0 h8) (fun r hr => ?_)
      obtain ⟨t3, a3, i4, h4⟩ := r
      obtain ⟨l3, m3, n3, c4⟩ := hr
      simp only at l3 m3 n3 c4
      refine pP (yU t3 oM _ _ _ _ _ _) (uS ?_)
      exact ⟨by simp [DS]; omega, by simp, by simp; omega, c4⟩
theorem b6a (b : List Int) (i h : Int) (t vs : List S31) (w d : Int) (hv : a0z vs) (P : List S31 × Int × Int × Int → Prop)
    (hk : ∀ same : List Int, (∀ y ∈ same, 0 ≤ y ∧ y < (vs.length : Int)) → Ok (fun k => if d = 0 then (qI k t vs w d same true b i h) else (if (t.length : Int) > 40 then (qI k t vs w d same true b i h) else ((sA b i h 5).bind fun bt411 => (qI k t vs w d same bt411.1 b bt411.2.1 bt411.2.2)))) P) (n : Nat) :
    ∀ (j : Nat) (same : List Int), j + n = vs.length → same.length ≤ j → (∀ y ∈ same, 0 ≤ y ∧ y < (vs.length : Int)) → Ok (fun k => sQ k t vs w d same (j : Int) b i h) P := by
  have hvl := hv.1
  induction n with
  | zero =>
    intro j same hj _ hs
    refine qP ?_
    simp only [sQ]
    exact zY oM (hk same hs)
  | succ n ih =>
    intro j same hj hl hs
    refine qP ?_
    simp only [sQ]
    rw [wS j]
    refine pV oM (pV oM (tW (fun _ => pV oM (ih (j + 1) _ oM (by simp; omega) ?_)) (fun _ => ih (j + 1) same oM oM hs)))
    intro y hy
    rcases List.mem_append.mp hy with h | h
    · exact hs y h
    · obtain rfl := List.mem_singleton.mp h; omega
theorem c4h (d : Nat) : d ≤ 3 → b6q d := by
  induction d with
  | zero =>
    intro _ b i h t vs w hc ht hv h0 h8
    refine qP ?_
    simp only [pA]
    refine b6a b i h t vs w _ hv _ (fun same hs => pV (by rfl) ?_) vs.length 0 [] oM (by simp) (by simp)
    refine qP ?_
    simp only [qI]
    refine pV trivial (tW (fun hl => ?_) (fun hl => ?_))
    · obtain ⟨x, i', h', e, c⟩ := a0s b i h 4 hc
      exact pP e (a7r b i' h' t vs w same _ c ht h0 h8 hs (fun _ => by omega) 1 oM)
    · exact a7r b i h t vs w same _ hc ht h0 h8 hs (fun h => by simp at h) 1 oM
  | succ d ih =>
    intro hd b i h t vs w hc ht hv h0 h8
    have ih := ih oM
    have hds : 3 * DS d ≤ 39 := by
      have : d = 0 ∨ d = 1 ∨ d = 2 := by omega
      rcases this with rfl | rfl | rfl <;> simp [DS]
    refine qP ?_
    simp only [pA]
    refine b6a b i h t vs w _ hv _ (fun same hs => ?_) vs.length 0 [] oM (by simp) (by simp)
    have jt : ∀ i h, Cur b i → Ok (fun k => qI k t vs w ((d + 1 : Nat) : Int) same true b i h) (DP t (DS (d + 1)) b) := by
      intro i h hc
      refine qP ?_
      simp only [qI]
      refine pV trivial (tW (fun hl => ?_) (fun hl => ?_))
      · obtain ⟨x, i', h', e, c⟩ := a0s b i h 4 hc
        exact pP e (a7r b i' h' t vs w same _ c ht h0 h8 hs (fun _ => by omega) _ (c1g _))
      · exact a7r b i h t vs w same _ hc ht h0 h8 hs (fun h => by simp at h) _ (c1g _)
    refine zY oM (tW (fun _ => jt i h hc) (fun hle => ?_))
    obtain ⟨x, i1, h1, e, c1⟩ := a0s b i h 5 hc
    refine pP e ?_
    cases x with
    | true => exact jt i1 h1 c1
    | false =>
      refine qP ?_
      simp only [qI]
      refine zY (by simp) (tW (fun _ => tW (fun hv0 => ?_) (fun _ => ?_)) (fun _ => ?_))
      · obtain ⟨x, i', h', e, c⟩ := a0s b i1 h1 2 c1
        exact pP e (b0d d oM ih b i' h' t vs w _ c oM hv h0 h8 (fun _ => by omega))
      · exact b0d d oM ih b i1 h1 t vs w _ c1 oM hv h0 h8 (fun h => by simp at h)
      · exact b0d d oM ih b i1 h1 t vs w _ c1 oM hv h0 h8 (fun h => by simp at h)
def MP (t : List S31) (s : Nat) (b : List Int) (r : List S31 × Int × Int × Int × Int × Int) : Prop := r.1.length ≤ t.length + s ∧ (0 ≤ r.2.2.1 ∧ r.2.2.1 ≤ 8) ∧ (0 ≤ r.2.2.2.1 ∧ r.2.2.2.1 ≤ 100) ∧ Cur b r.2.2.2.2.1
def MS : Nat → Nat
  | 0 => 41
  | e + 1 => 2 * MS e + 41
theorem c9s (e : Nat) : 41 ≤ MS e := by cases e <;> simp [MS]
def a9f (e : Nat) : Prop := ∀ (b : List Int) (i h : Int) (t vs : List S31) (nx bits : Int), Cur b i → t.length + MS e ≤ 100000 → a0z vs → vs.length + e ≤ 900 → 0 ≤ nx → nx ≤ 8 → 0 ≤ bits → bits ≤ 100 → Ok (fun k => pR k b i h t vs nx bits (e : Int)) (MP t (MS e) b)
theorem a5b (e : Nat) (b : List Int) (i h : Int) (t vs : List S31) (nx bits : Int) (hc : Cur b i) (ht : t.length + MS e ≤ 100000) (hv : a0z vs) (n0 : 0 ≤ nx) (n8 : nx ≤ 8) (b0 : 0 ≤ bits) (b1 : bits ≤ 100) :
    Ok (fun k => (pA k b i h t vs 1 3).bind fun r => (some (r.1, r.2.1, nx, bits, r.2.2.1, r.2.2.2) : Option (List S31 × Int × Int × Int × Int × Int))) (MP t (MS e) b) := by
  have hm := c9s e
  refine rY (c4h 3 oM b i h t vs 1 hc oM hv oM oM) (fun r hr => ?_)
  obtain ⟨l1, _, _, c1⟩ := hr
  refine uS ⟨?_, ⟨n0, n8⟩, ⟨b0, b1⟩, c1⟩
  have : DS 3 = 40 := rfl
  simp only; omega
theorem b6u {vs : List S31} (hv : a0z vs) (hl : vs.length < 1000) (w nx : Int) (h0 : 1 ≤ w) (h8 : w ≤ 8) : a0z (([] ++ vs) ++ [(⟨1, w, nx, 0, 0, 0⟩ : S31)]) := by
  refine ⟨by simp; omega, fun x hx => ?_⟩
  simp only [List.nil_append, List.mem_append, List.mem_singleton] at hx
  rcases hx with hx | rfl
  · exact hv.2 x hx
  · exact ⟨h0, h8⟩
theorem b5n (e : Nat) (ih : ∀ e', e = e' + 1 → a9f e') (he : e ≤ 10) (b : List Int) (i h : Int) (t vs : List S31) (nx bits : Int) (x : Bool) (hc : Cur b i) (ht : t.length + MS e ≤ 100000) (hv : a0z vs) (hvl : vs.length + e ≤ 900) (n0 : 0 ≤ nx) (n8 : nx ≤ 8) (b0 : 0 ≤ bits) (b1 : bits ≤ 100) :
    Ok (fun k => uM k t vs nx bits (e : Int) x b i h) (MP t (MS e) b) := by
  refine qP ?_
  simp only [uM]
  refine tW (fun _ => tW (fun hp => ?_) (fun _ => a5b e b i h t vs nx bits hc ht hv n0 n8 b0 b1)) (fun _ => a5b e b i h t vs nx bits hc ht hv n0 n8 b0 b1)
  obtain ⟨e', rfl⟩ : ∃ e', e = e' + 1 := ⟨e - 1, oM⟩
  have hms : MS (e' + 1) = 2 * MS e' + 41 := rfl
  rw [kU (x := ((e' + 1 : Nat) : Int) - 1) oM oM, show ((e' + 1 : Nat) : Int) - 1 = (e' : Int) by omega]
  refine rY (ih e' rfl b i h t vs nx bits hc oM hv oM n0 n8 b0 b1) (fun r hr => ?_)
  obtain ⟨t1, a1, n1, bb1, i1, h1⟩ := r
  obtain ⟨l1, ⟨m1, m2⟩, ⟨k1, k2⟩, c1⟩ := hr
  simp only at l1 m1 m2 k1 k2 c1
  refine rY (ih e' rfl b i1 h1 t1 vs n1 bb1 c1 oM hv oM m1 m2 k1 k2) (fun r hr => ?_)
  obtain ⟨t2, a2, n2, bb2, i2, h2⟩ := r
  obtain ⟨l2, q2, s2, c2⟩ := hr
  simp only at l2 q2 s2 c2
  obtain ⟨y, i3, h3, e3, _, _, _, c3⟩ := rZ b i2 h2 2 c2
  refine pP e3 (pP (yU t2 oM _ _ _ _ _ _) (uS ?_))
  exact ⟨by simp; omega, q2, s2, c3⟩
theorem c3u (e : Nat) (ih : ∀ e', e = e' + 1 → a9f e') (he : e ≤ 10) (b : List Int) (i h : Int) (t vs : List S31) (nx bits : Int) (x : Bool) (hc : Cur b i) (ht : t.length + MS e ≤ 100000) (hv : a0z vs) (hvl : vs.length + e ≤ 900) (n0 : 0 ≤ nx) (n8 : nx ≤ 8) (b0 : 0 ≤ bits) (b1 : bits ≤ 100)
    (hx : x = true → 0 < e ∧ nx < 8 ∧ 0 < bits) : Ok (fun k => sN k t vs nx bits (e : Int) x b i h) (MP t (MS e) b) := by
  refine qP ?_
  simp only [sN]
  refine tW (fun hxt => ?_) (fun _ => ?_)
  · obtain ⟨g1, g2, g3⟩ := hx hxt
    obtain ⟨e', rfl⟩ : ∃ e', e = e' + 1 := ⟨e - 1, oM⟩
    have hms : MS (e' + 1) = 2 * MS e' + 41 := rfl
    obtain ⟨y, i1, h1, e1, y0, _, y1, c1⟩ := rZ b i h 3 hc
    have y1 := y1 oM
    refine pP e1 ?_
    simp only
    rw [kU (x := 1 + y) oM oM, kU (x := ((e' + 1 : Nat) : Int) - 1) oM oM, show ((e' + 1 : Nat) : Int) - 1 = (e' : Int) by omega, kU (x := nx + 1) oM oM, kU (x := bits - bits) oM oM, kU (x := bits - (1 + y)) oM oM]
    have fin : ∀ (w bits' z : Int) (i2 h2 : Int), 1 ≤ w → w ≤ 8 → 0 ≤ bits' → bits' ≤ 100 → Cur b i2 → Ok (fun k => (some (([] : List S31) : List S31)).bind fun y560 => (if y560.length + vs.length < 2932031007402 then ((some (y560 ++ vs : List S31)).bind fun y563 => ((some (([(⟨1, w, nx, 0, 0, 0⟩ : S31)] : List S31) : List S31)).bind fun y566 => (if y563.length + y566.length < 2932031007402 then ((pR k b i2 h2 t (y563 ++ y566) (nx + 1) bits' (e' : Int)).bind fun bt572 => ((pK bt572.1 z 1 nx bt572.2.1 w 0).bind fun bt580 => (some (bt580.1, bt580.2, bt572.2.2.1, bt572.2.2.2.1, bt572.2.2.2.2.1, bt572.2.2.2.2.2) : Option (List S31 × Int × Int × Int × Int × Int)))) else (none)))) else (none))) (MP t (MS (e' + 1)) b) := by
      intro w bits' z i2 h2 w0 w8 p0 p1 c2
      have hv1 := hv.1
      refine pP rfl (pV (by simp; omega) (pP rfl (pP rfl (pV (by simp; omega) ?_))))
      refine rY (ih e' rfl b i2 h2 t _ (nx + 1) bits' c2 oM (b6u hv oM w nx w0 w8) (by simp; omega) oM oM p0 p1) (fun r hr => ?_)
      obtain ⟨t1, a1, n1, bb1, i3, h3⟩ := r
      obtain ⟨l1, q1, s1, c3⟩ := hr
      simp only at l1 q1 s1 c3
      refine pP (yU t1 oM _ _ _ _ _ _) (uS ?_)
      exact ⟨by simp; omega, q1, s1, c3⟩
    refine tW (fun hgt => ?_) (fun hle => ?_)
    · obtain ⟨z, i2, h2, e2, _, _, _, c2⟩ := rZ b i1 h1 2 c1
      exact pP e2 (fin bits (bits - bits) _ i2 h2 oM oM oM oM c2)
    · obtain ⟨z, i2, h2, e2, _, _, _, c2⟩ := rZ b i1 h1 2 c1
      exact pP e2 (fin (1 + y) (bits - (1 + y)) _ i2 h2 oM oM oM oM c2)
  · obtain ⟨y, i1, h1, e1, y0, _, y1, c1⟩ := rZ b i h 5 hc
    refine pP e1 (tW (fun _ => tW (fun hp => ?_) (fun _ => a5b e b i1 h1 t vs nx bits c1 ht hv n0 n8 b0 b1)) (fun _ => tW (fun _ => ?_) (fun _ => ?_)))
    · obtain ⟨e', rfl⟩ : ∃ e', e = e' + 1 := ⟨e - 1, oM⟩
      have hms : MS (e' + 1) = 2 * MS e' + 41 := rfl
      rw [kU (x := ((e' + 1 : Nat) : Int) - 1) oM oM, show ((e' + 1 : Nat) : Int) - 1 = (e' : Int) by omega]
      refine rY (ih e' rfl b i1 h1 t vs nx bits c1 oM hv oM n0 n8 b0 b1) (fun r hr => ?_)
      obtain ⟨t1, a1, n1, bb1, i3, h3⟩ := r
      obtain ⟨l1, q1, s1, c3⟩ := hr
      simp only at l1 q1 s1 c3
      refine pP (yU t1 oM _ _ _ _ _ _) (uS ?_)
      exact ⟨by simp; omega, q1, s1, c3⟩
    · exact b5n e ih he b i1 h1 t vs nx bits _ c1 ht hv hvl n0 n8 b0 b1
    · exact b5n e ih he b i1 h1 t vs nx bits _ c1 ht hv hvl n0 n8 b0 b1
theorem a8o (e : Nat) (ih : ∀ e', e = e' + 1 → a9f e') (he : e ≤ 10) : a9f e := by
  intro b i h t vs nx bits hc ht hv hvl n0 n8 b0 b1
  refine qP ?_
  simp only [pR]
  have j0 := fun (i h : Int) (x : Bool) (hc : Cur b i) (hx : x = true → 0 < e ∧ nx < 8 ∧ 0 < bits) => c3u e ih he b i h t vs nx bits x hc ht hv hvl n0 n8 b0 b1 hx
  refine tW (fun h1 => tW (fun h2 => tW (fun h3 => ?_) (fun _ => j0 i h false hc (by simp))) (fun _ => j0 i h false hc (by simp))) (fun _ => j0 i h false hc (by simp))
  obtain ⟨x, i1, z1, e1, c1⟩ := a0s b i h 5 hc
  exact pP e1 (j0 i1 z1 _ c1 (fun _ => ⟨oM, h2, h3⟩))
theorem c3t (e : Nat) : e ≤ 10 → a9f e := by
  induction e with
  | zero => intro _; exact a8o 0 (fun e' h => by omega) oM
  | succ e ih => intro he; exact a8o (e + 1) (fun e' h => by have h' : e = e' := oM; subst h'; exact ih oM) he
theorem c3x {l : List S31} (h : qL l) (i : Nat) (hi : i < l.length) (ho : (kA l (i : Int)).f0 = 19 ∨ (kA l (i : Int)).f0 = 20 ∨ (kA l (i : Int)).f0 = 1) : 0 ≤ (kA l (i : Int)).f2 ∧ (kA l (i : Int)).f2 ≤ 7 := by
  have hb := h i hi
  unfold a1r xI at hb
  simp only [Bool.and_eq_true] at hb
  have hs := hb.2
  generalize (kA l (i : Int)).f0 = op at *
  generalize (kA l (i : Int)).f2 = K at *
  have : inB K 0 7 = true := by
    rcases ho with rfl | rfl | rfl
    · simp only [pQ] at hs; simp at hs; exact hs.1.1.1
    · simp only [pQ] at hs; simp at hs; exact hs.1.1.1
    · simpa [pQ] using hs
  exact rX.mp this
theorem c7h (l : List Int) (hl : (l.length : Int) ≤ 140737488351232) (d : Nat) : ∀ (h j : Int), 0 ≤ j → 4000 - j ≤ d → Ok (fun k => uJ k l h j) (fun r => r.1 = l ∧ r.2.1 = 0) := by
  induction d with
  | zero =>
    intro h j h0 hd
    refine qP ?_
    simp only [uJ]
    exact tW (fun _ => zY oM (uS ⟨rfl, rfl⟩)) (fun _ => uS ⟨rfl, rfl⟩)
  | succ d ih =>
    intro h j h0 hd
    refine qP ?_
    simp only [uJ]
    refine tW (fun _ => tW (fun _ => pV h0 ?_) (fun _ => uS ⟨rfl, rfl⟩)) (fun _ => uS ⟨rfl, rfl⟩)
    rw [kU (x := j + 1) oM oM]
    exact ih _ (j + 1) oM oM
theorem b2o (l : List Int) (hl : (l.length : Int) ≤ 140737488351232) : Ok (fun k => xH k l) (fun r => r.1 = l ∧ Cur l r.2.1) := by
  unfold xH
  exact a2v (c7h l hl 4000 _ 0 oM oM) (fun r hr => ⟨hr.1, by rw [hr.2]; unfold Cur; omega⟩)
inductive Tm where
  | leaf (op W K : Int)
  | un (op W K B : Int) (a : Tm)
  | bin (op W K : Int) (a b : Tm)
  | ter (op W K : Int) (a b c : Tm)
def Tm.wid : Tm → Int
  | .leaf _ W _ => W
  | .un _ W _ _ _ => W
  | .bin _ W _ _ _ => W
  | .ter _ W _ _ _ _ => W
def mkT (op W K B : Int) : List Tm → Tm
  | [] => .leaf op W K
  | [a] => .un op W K B a
  | [a, b] => .bin op W K a b
  | a :: b :: c :: _ => .ter op W K a b c
theorem c3r (op W K B : Int) : ∀ ts, (mkT op W K B ts).wid = W
  | [] => rfl
  | [_] => rfl
  | [_, _] => rfl
  | _ :: _ :: _ :: _ => rfl
def tr (l : List S31) : Nat → Nat → Tm
  | 0, _ => .leaf 0 0 0
  | n + 1, i => mkT (kA l (i : Int)).f0 (kA l (i : Int)).f1 (kA l (i : Int)).f2 (kA l (i : Int)).f4 ((pl l i).map fun p => tr l n p.toNat)
theorem b4g {l : List S31} (hP : pH l) (n : Nat) : ∀ m i : Nat, i < n → i < m → i < l.length → tr l n i = tr l m i := by
  induction n with
  | zero => intro m i h; omega
  | succ n ih =>
    intro m i h1 h2 hi
    obtain ⟨m, rfl⟩ : ∃ m', m = m' + 1 := ⟨m - 1, oM⟩
    unfold tr
    congr 1
    refine List.map_congr_left (fun p hp => ?_)
    have := hP i hi p hp
    exact ih m p.toNat oM oM oM
def T (l : List S31) (i : Nat) : Tm := tr l (i + 1) i
theorem a7x {l : List S31} (hP : pH l) (i : Nat) (hi : i < l.length) : T l i = mkT (kA l (i : Int)).f0 (kA l (i : Int)).f1 (kA l (i : Int)).f2 (kA l (i : Int)).f4 ((pl l i).map fun p => T l p.toNat) := by
  show tr l (i + 1) i = _
  unfold tr
  congr 1
  refine List.map_congr_left (fun p hp => ?_)
  have := hP i hi p hp
  exact b4g hP _ _ _ oM oM oM
theorem c7w {l : List S31} (i : Nat) : (T l i).wid = (kA l (i : Int)).f1 := by
  show (tr l (i + 1) i).wid = _
  unfold tr
  exact c3r _ _ _ _ _
def qv (op : Int) (n : Nat) (f : Nat → Int) : Int :=
  if op = 19 then (if (List.range n).all (fun x => f x == 1) = true then 1 else 0) else (if (List.range n).any (fun x => f x == 1) = true then 1 else 0)
def sem : Tm → List Int → Int
  | .leaf op W K, env => if op = 1 then rd env K else vP op W K 1 0 0 0
  | .un op W K B a, env => if op = 19 ∨ op = 20 then qv op (2 ^ B.toNat) (fun x => sem a (env.set K.toNat (x : Int))) else vP op W K a.wid (sem a env) 0 0
  | .bin op W K a b, env => vP op W K a.wid (sem a env) (sem b env) 0
  | .ter op W K a b c, env => vP op W K a.wid (sem a env) (sem b env) (sem c env)
theorem wW {op A B C : Int} (h : op = 19 ∨ op = 20) : kS op A B C = [A] := by
  unfold kS; rw [if_pos oM]
theorem tY {l : List S31} (h : qL l) (i : Nat) (hi : i < l.length) : (1 ≤ (kA l (i : Int)).f1 ∧ (kA l (i : Int)).f1 ≤ 8) ∧ (0 ≤ (kA l (i : Int)).f0 ∧ (kA l (i : Int)).f0 ≤ 20) ∧ (0 ≤ (kA l (i : Int)).f2 ∧ (kA l (i : Int)).f2 ≤ 9223372036854775807) := by
  have hb := h i hi
  unfold a1r xI at hb
  simp only [Bool.and_eq_true] at hb
  obtain ⟨⟨⟨⟨h1, h2⟩, h3⟩, h4⟩, h5⟩ := hb
  have h1 := rX.mp h1
  have h2 := rX.mp h2
  refine ⟨h1, h2, ?_⟩
  unfold pQ at h5
  unfold xV at h3
  by_cases o0 : (kA l (i : Int)).f0 = 0
  · rw [if_pos o0] at h5
    have := pF.mp h5
    have := qU (w := (kA l (i : Int)).f1) oM oM
    omega
  rw [if_neg o0] at h5
  by_cases o1 : (kA l (i : Int)).f0 = 1
  · rw [if_pos o1] at h5
    have := rX.mp h5
    omega
  rw [if_neg o1] at h5
  rw [if_neg oM] at h3
  by_cases o17 : (kA l (i : Int)).f0 = 17
  · rw [if_neg oM, if_neg oM, if_neg oM, if_neg oM, if_pos o17] at h5
    have := rX.mp h5
    have hw : wrap64 (wv (l.take i) (kS (kA l (i : Int)).f0 (kA l (i : Int)).f3 (kA l (i : Int)).f4 (kA l (i : Int)).f5) (kS (kA l (i : Int)).f0 (kA l (i : Int)).f3 (kA l (i : Int)).f4 (kA l (i : Int)).f5).length 0 - (kA l (i : Int)).f1) ≤ 9223372036854775807 := by
      unfold wrap64; omega
    omega
  rw [if_neg o17] at h3
  by_cases oq : (kA l (i : Int)).f0 = 19 ∨ (kA l (i : Int)).f0 = 20
  · rw [if_neg oM, if_neg oM, if_neg oM, if_neg oM, if_neg oM, if_neg oM] at h5
    simp only [Bool.and_eq_true] at h5
    have := rX.mp h5.1.1.1
    omega
  rw [if_neg oq] at h3
  by_cases o2 : (kA l (i : Int)).f0 = 2
  · rw [if_pos o2] at h3
    simp only [Bool.and_eq_true, beq_iff_eq] at h3
    omega
  rw [if_neg o2] at h3
  by_cases o3 : 3 ≤ (kA l (i : Int)).f0 ∧ (kA l (i : Int)).f0 ≤ 16
  · rw [if_pos o3] at h3
    simp only [Bool.and_eq_true, beq_iff_eq] at h3
    omega
  rw [if_neg o3] at h3
  by_cases o18 : (kA l (i : Int)).f0 = 18
  · rw [if_pos o18] at h3
    simp only [Bool.and_eq_true, beq_iff_eq] at h3
    omega
  · omega
theorem a7n {l : List S31} (h : qL l) (i : Nat) (hi : i < l.length) (o : (kA l (i : Int)).f0 = 1) : (kA l (i : Int)).f2 ≤ 7 := by
  have hb := h i hi
  unfold a1r xI pQ at hb
  simp only [Bool.and_eq_true] at hb
  rw [if_neg oM, if_pos o] at hb
  exact (rX.mp hb.2).2
theorem uT {l : List S31} (h : qL l) (i : Nat) (hi : i < l.length) (o : (kA l (i : Int)).f0 = 19 ∨ (kA l (i : Int)).f0 = 20) : (kA l (i : Int)).f2 ≤ 7 ∧ (1 ≤ (kA l (i : Int)).f4 ∧ (kA l (i : Int)).f4 ≤ 8) ∧ (0 ≤ (kA l (i : Int)).f3 ∧ (kA l (i : Int)).f3 < (i : Int)) ∧ (kA l (kA l (i : Int)).f3).f1 = 1 ∧ (kA l (i : Int)).f1 = 1 := by
  have hp := qV h i hi (kA l (i : Int)).f3 (by unfold pl; rw [wW o]; simp)
  have hb := h i hi
  unfold a1r xI pQ at hb
  simp only [Bool.and_eq_true] at hb
  rw [if_neg oM, if_neg oM, if_neg oM, if_neg oM, if_neg oM, if_neg oM, if_neg oM, if_neg oM] at hb
  simp only [Bool.and_eq_true, beq_iff_eq] at hb
  obtain ⟨_, ⟨⟨h1, h2⟩, h3⟩, h4⟩ := hb
  have h1 := rX.mp h1
  have h2 := rX.mp h2
  rw [wW o] at h3
  have h3 : (kA (l.take i) (rd [(kA l (i : Int)).f3] 0)).f1 = 1 := h3
  rw [show rd [(kA l (i : Int)).f3] 0 = (kA l (i : Int)).f3 from rfl, a7l l i _ hp.1 hp.2] at h3
  exact ⟨h1.2, h2, hp, h3, h4⟩
theorem a2l {w : Int} (h : 0 ≤ w) : P2 w = ((2 ^ w.toNat : Nat) : Int) := by unfold P2; simp
theorem b1g {α : Type} {g : Nat → Option α} {r : α} (h : Ev g r) : Ev (fun k => g (k + 1)) r := by
  obtain ⟨n, h⟩ := h
  exact ⟨n, fun k hk => h (k + 1) oM⟩
def HA (l : List S31) (i : Nat) (A : Nat → List S31 → List Int → Int → Option (Int × List Int)) : Prop :=
  ∀ (env : List Int) (j : Nat), env.length = 8 → j < i → Ev (fun k => A k l env (j : Int)) (sem (T l j) env, env)
theorem a3s {l : List S31} {i : Nat} {A : Nat → List S31 → List Int → Int → Option (Int × List Int)} (h : HA l i A) : HA l i (fun k => A (k + 1)) :=
  fun env j he hj => b1g (h env j he hj)
theorem c6v (l : List Int) (i : Int) (h0 : 0 ≤ i) (h1 : i < (l.length : Int)) : l.set i.toNat (rd l i) = l := by
  unfold rd
  rw [List.getD_eq_getElem?_getD, List.getElem?_eq_getElem oM]
  exact List.set_getElem_self _
theorem b8d (n : Nat) (f : Nat → Bool) : (List.range (n + 1)).all f = ((List.range n).all f && f n) := by
  rw [List.range_succ, List.all_append]; simp
theorem b8c (n : Nat) (f : Nat → Bool) : (List.range (n + 1)).any f = ((List.range n).any f || f n) := by
  rw [List.range_succ, List.any_append]; simp
theorem c7e (l : List S31) (a i : Nat) (hai : a < i) (env : List Int) (he : env.length = 8) (op W K B C : Int) (hK0 : 0 ≤ K) (hK : K ≤ 7) (hB0 : 1 ≤ B) (hB : B ≤ 8) (d : Nat) : ∀ (x : Nat) (A : Nat → List S31 → List Int → Int → Option (Int × List Int)) (env' : List Int), HA l i A → x + d = 2 ^ B.toNat → env'.length = 8 → (∀ y, env'.set K.toNat y = env.set K.toNat y) →
    Ev (fun k => tJ (A k) k l env' (rd env K) (if (List.range x).all (fun y => sem (T l a) (env.set K.toNat (y : Int)) == 1) = true then 1 else 0) (if (List.range x).any (fun y => sem (T l a) (env.set K.toNat (y : Int)) == 1) = true then 1 else 0) (x : Int) op W K (a : Int) B C) (qv op (2 ^ B.toNat) (fun x => sem (T l a) (env.set K.toNat (x : Int))), env) := by
  have hp : ∀ x : Nat, x ≤ 2 ^ B.toNat → (x : Int) ≤ 256 := by
    intro x hx
    have := qU (w := B) oM hB
    rw [a2l oM] at this
    omega
  induction d with
  | zero =>
    intro x A env' hA hx hl hs
    have := hp x oM
    obtain rfl : x = 2 ^ B.toNat := by omega
    refine kN ?_
    simp only [tJ]
    refine kO (a := P2 B) (yY 20 fun k hk => a6c oM hB hk) ?_
    refine kQ (by rw [a2l oM]; omega) (kD hK0 (kD (by rw [hl]; omega) (qA rfl ?_)))
    rw [hs, c6v env K hK0 oM]
    unfold qv
    by_cases h19 : op = 19
    · rw [if_pos h19, if_pos h19]; exact pW
    · rw [if_neg h19, if_neg h19]; exact pW
  | succ d ih =>
    intro x A env' hA hx hl hs
    have := hp x oM
    refine kN ?_
    simp only [tJ]
    refine kO (a := P2 B) (yY 20 fun k hk => a6c oM hB hk) ?_
    refine kD (by rw [a2l oM]; omega) (kD hK0 (kD (by rw [hl]; omega) ?_))
    refine kO (a3s hA (env'.set K.toNat (x : Int)) a (by simpa using hl) hai) ?_
    rw [wS x]
    rw [hs]
    have ih := ih (x + 1) (fun k => A (k + 1)) (env.set K.toNat (x : Int)) (a3s hA) oM (by simpa using he) (fun y => by simp)
    rw [b8d, b8c] at ih
    by_cases h1 : sem (T l a) (env.set K.toNat (x : Int)) = 1
    · refine kD h1 ?_
      rw [show (sem (T l a) (env.set K.toNat (x : Int)) == 1) = true from beq_iff_eq.mpr h1, Bool.and_true, Bool.or_true, if_pos (rfl : true = true)] at ih
      exact ih
    · refine kQ h1 ?_
      rw [show (sem (T l a) (env.set K.toNat (x : Int)) == 1) = false from beq_eq_false_iff_ne.mpr h1, Bool.and_false, Bool.or_false, if_neg (show ¬ (false = true) by decide)] at ih
      exact ih
theorem c7d (l : List S31) (i : Nat) (hi : i < l.length) (hl : l.length ≤ 80) (env vals : List Int) (hv : vals.length = i) (hvals : ∀ t < i, rd vals (t : Int) = sem (T l t) env) (ps : List Int) (hps : ps.length ≤ 3) (hin : ∀ p ∈ ps, 0 ≤ p ∧ p < (i : Int)) (op W K A_ B C : Int) (hk1 : -9223372036854775808 ≤ K) (hk2 : K ≤ 9223372036854775807) (d : Nat) :
    ∀ (j : Nat) (A : Nat → List S31 → List Int → Int → Option (Int × List Int)) (v : List Int) (w : Int), j + d = ps.length → v.length = 3 → (w = if j = 0 then 1 else (kA l (rd ps 0)).f1) → (∀ t : Nat, t < 3 → rd v (t : Int) = if t < j then sem (T l (rd ps (t : Int)).toNat) env else 0) →
      Ev (fun k => tI (A k) k l env vals v w ps (j : Int) op W K A_ B C) (vP op W K (if ps.length = 0 then 1 else (kA l (rd ps 0)).f1) (if 0 < ps.length then sem (T l (rd ps 0).toNat) env else 0) (if 1 < ps.length then sem (T l (rd ps 1).toNat) env else 0) (if 2 < ps.length then sem (T l (rd ps 2).toNat) env else 0), env) := by
  induction d with
  | zero =>
    intro j A v w hj hv3 hw h
    obtain rfl : j = ps.length := by omega
    refine kN ?_
    simp only [tI]
    refine kQ oM (kD oM (kD oM (kD oM ?_)))
    refine kO (yY 40 fun k hk => c8l op W K A_ B C w _ _ _ hk1 hk2 hk) (a8x ?_)
    have e0 := h 0 oM
    have e1 := h 1 oM
    have e2 := h 2 oM
    rw [show ((0 : Nat) : Int) = 0 from rfl] at e0
    rw [show ((1 : Nat) : Int) = 1 from rfl] at e1
    rw [show ((2 : Nat) : Int) = 2 from rfl] at e2
    rw [e0, e1, e2, hw]
  | succ d ih =>
    intro j A v w hj hv3 hw h
    have hp := hin (rd ps (j : Int)) (by rw [rdI ps j oM]; exact List.getElem_mem _)
    refine kN ?_
    simp only [tI]
    refine kD oM (kD oM (kD hp.1 (kD oM (kD oM (qA rfl ?_)))))
    rw [wS j, Int.toNat_natCast]
    have hval : rd vals (rd ps (j : Int)) = sem (T l (rd ps (j : Int)).toNat) env := by
      have := hvals (rd ps (j : Int)).toNat oM
      rwa [Int.toNat_of_nonneg hp.1] at this
    have hnew : ∀ t : Nat, t < 3 → rd (v.set j (rd vals (rd ps (j : Int)))) (t : Int) = if t < j + 1 then sem (T l (rd ps (t : Int)).toNat) env else 0 := by
      intro t ht
      have this : v.getD t 0 = _ := h t ht
      show (v.set j (rd vals (rd ps (j : Int)))).getD t 0 = _
      rw [List.getD_eq_getElem?_getD, List.getElem?_set]
      by_cases hjt : j = t
      · subst hjt
        rw [if_pos rfl, if_pos oM, if_pos oM]
        exact hval
      · rw [if_neg hjt, ← List.getD_eq_getElem?_getD, this]
        by_cases c : t < j
        · rw [if_pos c, if_pos oM]
        · rw [if_neg c, if_neg oM]
    by_cases j0 : j = 0
    · subst j0
      refine kD rfl (kD oM ?_)
      exact ih 1 (fun k => A (k + 1)) _ _ oM (by simpa using hv3) rfl hnew
    · refine kQ oM ?_
      rw [if_neg j0] at hw
      exact ih (j + 1) (fun k => A (k + 1)) _ _ oM (by simpa using hv3) (by rw [if_neg oM]; exact hw) hnew
theorem a9t (l : List S31) (op W K B : Int) (ps : List Int) (hps : ps.length ≤ 3) (h1 : op ≠ 1) (hq : ¬ (op = 19 ∨ op = 20)) (env : List Int) (hw : ∀ p ∈ ps, 0 ≤ p) :
    sem (mkT op W K B (ps.map fun p => T l p.toNat)) env = vP op W K (if ps.length = 0 then 1 else (kA l (rd ps 0)).f1) (if 0 < ps.length then sem (T l (rd ps 0).toNat) env else 0) (if 1 < ps.length then sem (T l (rd ps 1).toNat) env else 0) (if 2 < ps.length then sem (T l (rd ps 2).toNat) env else 0) := by
  have wd : ∀ p : Int, 0 ≤ p → (T l p.toNat).wid = (kA l p).f1 := by
    intro p hp
    rw [c7w, Int.toNat_of_nonneg hp]
  match ps, hps with
  | [], _ => simp [mkT, sem, h1]
  | [a], _ => simp [mkT, sem, hq, rd, wd a (hw a (by simp))]
  | [a, b], _ => simp [mkT, sem, rd, wd a (hw a (by simp))]
  | [a, b, c], _ => simp [mkT, sem, rd, wd a (hw a (by simp))]
  | a :: b :: c :: d :: r, h => simp at h
theorem c7f {l : List S31} (hN : qL l) (hl : l.length ≤ 80) (i : Nat) (hi : i < l.length) (A : Nat → List S31 → List Int → Int → Option (Int × List Int)) (hA : HA l i A) (env vals : List Int) (he : env.length = 8) (hv : vals.length = i) (hvals : ∀ t < i, rd vals (t : Int) = sem (T l t) env) :
    Ev (fun k => xG (A k) k l env vals (i : Int)) (sem (T l i) env, env) := by
  have hP := qV hN
  have hf := tY hN i hi
  unfold xG
  rw [a7x hP i hi]
  refine kD oM (kD oM ?_)
  by_cases o1 : (kA l (i : Int)).f0 = 1
  · have := a7n hN i hi o1
    refine kD o1 (kD oM (kD oM (a8x ?_)))
    have hpl : pl l i = [] := by unfold pl; rw [o1]; rfl
    rw [hpl, o1]
    rfl
  · refine kQ o1 (qA (c4r _) ?_)
    by_cases oq : (kA l (i : Int)).f0 = 19 ∨ (kA l (i : Int)).f0 = 20
    · obtain ⟨k7, ⟨b1, b8⟩, ⟨a0, a1⟩, _, _⟩ := uT hN i hi oq
      have hpl : pl l i = [(kA l (i : Int)).f3] := by unfold pl; exact wW oq
      refine kD (by simpa using oq) (kD oM (kD oM ?_))
      rw [hpl]
      show Ev _ (sem (mkT _ _ _ _ [_]) env, env)
      simp only [mkT, sem]
      rw [if_pos oq]
      have := c7e l (kA l (i : Int)).f3.toNat i oM env he (kA l (i : Int)).f0 (kA l (i : Int)).f1 (kA l (i : Int)).f2 (kA l (i : Int)).f4 (kA l (i : Int)).f5 oM k7 b1 b8 (2 ^ (kA l (i : Int)).f4.toNat) 0 A env hA oM he (fun _ => rfl)
      rw [Int.toNat_of_nonneg a0] at this
      exact this
    · refine kQ (by simpa using oq) (kO (a := pl l i) (yY 1 fun k hk => a3d _ _ _ _ _ _ hk) ?_)
      have hlen : (pl l i).length ≤ 3 := qN _ _ _ _
      have hin := hP i hi
      rw [a9t l _ _ _ _ (pl l i) hlen o1 oq env (fun p hp => (hin p hp).1)]
      exact c7d l i hi hl env vals hv hvals (pl l i) hlen hin _ _ _ _ _ _ oM oM (pl l i).length 0 A [0, 0, 0] 1 oM rfl rfl (by
        intro t ht
        rw [if_neg oM]
        have : t = 0 ∨ t = 1 ∨ t = 2 := by omega
        rcases this with rfl | rfl | rfl <;> rfl)
theorem c9f {l : List S31} (hN : qL l) (hl : l.length ≤ 80) (i : Nat) (hi : i < l.length) (env : List Int) (he : env.length = 8) (d : Nat) : ∀ (j : Nat) (A : Nat → List S31 → List Int → Int → Option (Int × List Int)) (vals : List Int), HA l i A → j + d = i + 1 → vals.length = j → (∀ t < j, rd vals (t : Int) = sem (T l t) env) →
    Ev (fun k => uI (A k) k l env (i : Int) vals (j : Int)) (sem (T l i) env, env) := by
  induction d with
  | zero =>
    intro j A vals hA hj hv hvals
    refine kN ?_
    simp only [uI]
    refine kQ oM (kD oM (kD oM (a8x ?_)))
    rw [hvals i oM]
  | succ d ih =>
    intro j A vals hA hj hv hvals
    refine kN ?_
    simp only [uI]
    refine kD oM (kO (a := (sem (T l j) env, env)) ?_ (kD oM ?_))
    · have hA2 : HA l j (fun k => A (k + 1)) := fun e t h1 h2 => a3s hA e t h1 oM
      exact c7f hN hl j oM (fun k => A (k + 1)) hA2 env vals he hv hvals
    · rw [wS j]
      refine ih (j + 1) (fun k => A (k + 1)) _ (a3s hA) oM (by simp [hv]) ?_
      intro t ht
      by_cases c : t < j
      · have := hvals t c
        unfold rd at this ⊢
        rw [Int.toNat_natCast] at this ⊢
        rw [List.getD_eq_getElem?_getD, List.getElem?_append_left oM, ← List.getD_eq_getElem?_getD]
        exact this
      · obtain rfl : t = j := by omega
        unfold rd
        rw [Int.toNat_natCast, List.getD_eq_getElem?_getD, List.getElem?_append_right oM, hv, Nat.sub_self]
        rfl
theorem c9g {l : List S31} (hN : qL l) (hl : l.length ≤ 80) (i : Nat) : ∀ (env : List Int), i < l.length → env.length = 8 → Ev (fun k => tK k l env (i : Int)) (sem (T l i) env, env) := by
  induction i using Nat.strongRecOn with
  | ind i ih =>
    intro env hi he
    refine kN ?_
    simp only [tK, yI]
    have hA : HA l i (fun k => tK k) := fun e j h1 h2 => ih j h2 e oM h1
    have := c9f hN hl i hi env he (i + 1) 0 (fun k => match k with | 0 => fun _ _ _ => none | k + 1 => tK k) [] (fun e j h1 h2 => kN (hA e j h1 h2)) oM rfl (fun t h => absurd h oM)
    exact b1g this
theorem b1i (a b w : Nat) (hw : w ≤ 9) (ha : a < 2 ^ w) (hb : b < 2 ^ w) : ((Go.bits .and .i64 (a : Int) (b : Int)) = ((a &&& b : Nat) : Int)) ∧ ((Go.bits .or .i64 (a : Int) (b : Int)) = ((a ||| b : Nat) : Int)) ∧ ((Go.bits .xor .i64 (a : Int) (b : Int)) = ((a ^^^ b : Nat) : Int)) := by
  have hle : 2 ^ w ≤ 2 ^ 9 := Nat.pow_le_pow_right oM hw
  have ha' : (BitVec.ofInt 64 (a : Int)).toNat = a := by
    have := xQ (x := (a : Int)) oM oM
    omega
  have hb' : (BitVec.ofInt 64 (b : Int)).toNat = b := by
    have := xQ (x := (b : Int)) oM oM
    omega
  have h1 := Nat.and_lt_two_pow a hb
  have h2 := Nat.or_lt_two_pow ha hb
  have h3 := Nat.xor_lt_two_pow ha hb
  refine ⟨?_, ?_, ?_⟩
  · show IntKind.i64.wrap ((BitVec.ofInt 64 _ &&& BitVec.ofInt 64 _).toNat : Int) = _
    rw [BitVec.toNat_and, ha', hb', IntKind.wrap_i64]
    omega
  · show IntKind.i64.wrap ((BitVec.ofInt 64 _ ||| BitVec.ofInt 64 _).toNat : Int) = _
    rw [BitVec.toNat_or, ha', hb', IntKind.wrap_i64]
    omega
  · show IntKind.i64.wrap ((BitVec.ofInt 64 _ ^^^ BitVec.ofInt 64 _).toNat : Int) = _
    rw [BitVec.toNat_xor, ha', hb', IntKind.wrap_i64]
    omega
theorem b8a {w a b : Int} (ha : wok w a = true) (hb : wok w b = true) : wok w (Go.bits .and .i64 a b) = true ∧ wok w (Go.bits .or .i64 a b) = true ∧ wok w (Go.bits .xor .i64 a b) = true := by
  obtain ⟨w1, w8, a0, a1⟩ := pF.mp ha
  obtain ⟨_, _, b0, b1⟩ := pF.mp hb
  rw [a2l oM] at a1 b1
  obtain ⟨a, rfl⟩ := Int.eq_ofNat_of_zero_le a0
  obtain ⟨b, rfl⟩ := Int.eq_ofNat_of_zero_le b0
  obtain ⟨e1, e2, e3⟩ := b1i a b w.toNat oM oM oM
  have h1 := Nat.and_lt_two_pow (n := w.toNat) a (show b < 2 ^ w.toNat by omega)
  have h2 := Nat.or_lt_two_pow (show a < 2 ^ w.toNat by omega) (show b < 2 ^ w.toNat by omega)
  have h3 := Nat.xor_lt_two_pow (show a < 2 ^ w.toNat by omega) (show b < 2 ^ w.toNat by omega)
  rw [e1, e2, e3]
  simp only [pF]
  rw [a2l oM]
  omega
theorem yH {w a : Int} (h : wok w a = true) : 0 ≤ a ∧ a ≤ 255 := by
  obtain ⟨w1, w8, a0, a1⟩ := pF.mp h
  have := qU (w := w) oM w8
  omega
theorem a4r {w x : Int} (h1 : 1 ≤ w) (h8 : w ≤ 8) : wok w (x % P2 w) = true := by
  have := qU (w := w) oM h8
  have h2 := Int.emod_nonneg x (show P2 w ≠ 0 by omega)
  have h3 := Int.emod_lt_of_pos x (show 0 < P2 w by omega)
  exact pF.mpr ⟨h1, h8, h2, oM⟩
theorem b0t {w : Int} (h1 : 1 ≤ w) (h8 : w ≤ 8) : wok w 0 = true := by
  have := qU (w := w) oM h8
  exact pF.mpr ⟨h1, h8, oM, oM⟩
theorem b3z {x : Int} (h : x = 0 ∨ x = 1) : wok 1 x = true := by
  rcases h with rfl | rfl <;> decide
theorem c4k {x : Int} (h : wok 1 x = true) : x = 0 ∨ x = 1 := by
  obtain ⟨_, _, h0, h1⟩ := pF.mp h
  rw [show P2 1 = 2 from rfl] at h1
  omega
set_option maxHeartbeats 1000000 in
theorem b6x {op w a b : Int} (ha : wok w a = true) (hb : wok w b = true) : wok w (c4q op w a b) = true := by
  have hbw := b8a ha hb
  obtain ⟨w1, w8, a0, a1⟩ := pF.mp ha
  obtain ⟨_, _, b0, b1⟩ := pF.mp hb
  have hab : (wok w a && wok w b) = true := by rw [ha, hb]; rfl
  unfold c4q
  rw [if_pos hab, if_pos hab, if_pos hab, if_pos hab, if_pos hab, if_pos hab, if_pos hab]
  have hz := b0t w1 w8
  have hdiv : ∀ c : Int, 0 < c → wok w (a / c) = true := by
    intro c hc
    have h1 : 0 ≤ a / c := Int.ediv_nonneg a0 oM
    have h2 : a / c ≤ a := Int.ediv_le_self c a0
    exact pF.mpr ⟨w1, w8, h1, oM⟩
  by_cases o3 : op = 3
  · rw [if_pos o3]; exact hbw.1
  rw [if_neg o3]
  by_cases o4 : op = 4
  · rw [if_pos o4]; exact hbw.2.1
  rw [if_neg o4]
  by_cases o5 : op = 5
  · rw [if_pos o5]; exact hbw.2.2
  rw [if_neg o5]
  by_cases o6 : op = 6
  · rw [if_pos o6]; exact a4r w1 w8
  rw [if_neg o6]
  by_cases o7 : op = 7
  · rw [if_pos o7]; exact a4r w1 w8
  rw [if_neg o7]
  by_cases o8 : op = 8
  · rw [if_pos o8]; exact a4r w1 w8
  rw [if_neg o8]
  by_cases o9 : op = 9
  · rw [if_pos o9]
    by_cases hb0 : b = 0
    · rw [if_pos hb0]
      have := qU (w := w) oM w8
      exact pF.mpr ⟨w1, w8, oM, oM⟩
    · rw [if_neg hb0]; exact hdiv b oM
  rw [if_neg o9]
  by_cases o10 : op = 10
  · rw [if_pos o10]
    by_cases hb0 : b = 0
    · rw [if_pos hb0]; exact ha
    · rw [if_neg hb0]
      have h1 := Int.emod_nonneg a (show b ≠ 0 by omega)
      have h2 := Int.emod_lt_of_pos a (show 0 < b by omega)
      exact pF.mpr ⟨w1, w8, h1, oM⟩
  rw [if_neg o10]
  by_cases o11 : op = 11
  · rw [if_pos o11]
    by_cases hbw : b ≥ w
    · rw [if_pos hbw]; exact hz
    · rw [if_neg hbw]; exact a4r w1 w8
  rw [if_neg o11]
  by_cases hbw : b ≥ w
  · rw [if_pos hbw]; exact hz
  · rw [if_neg hbw]
    have := qU (w := b) b0 oM
    exact hdiv _ oM
theorem a7v {c : Prop} [Decidable c] : (if c then (1 : Int) else 0) = 0 ∨ (if c then (1 : Int) else 0) = 1 := by
  by_cases h : c
  · rw [if_pos h]; exact .inr rfl
  · rw [if_neg h]; exact .inl rfl
def a3t : Tm → List Int → Prop
  | .leaf op W K, env => op = 1 → wok W (rd env K) = true
  | .un op W K B a, env => (¬ (op = 19 ∨ op = 20) → a3t a env) ∧ ((op = 19 ∨ op = 20) → ∀ x : Nat, x < 2 ^ B.toNat → a3t a (env.set K.toNat (x : Int)))
  | .bin op W K a b, env => a3t a env ∧ a3t b env
  | .ter op W K a b c, env => a3t a env ∧ a3t b env ∧ a3t c env
theorem c3z {op W K B : Int} {env : List Int} (hq : ¬ (op = 19 ∨ op = 20)) : ∀ (ts : List Tm), ts.length ≤ 3 → a3t (mkT op W K B ts) env → ∀ t ∈ ts, a3t t env
  | [], _, _, t, h => by simp at h
  | [a], _, h, t, ht => by obtain rfl := List.mem_singleton.mp ht; exact h.1 hq
  | [a, b], _, h, t, ht => by
    rcases List.mem_cons.mp ht with rfl | ht
    · exact h.1
    · obtain rfl := List.mem_singleton.mp ht; exact h.2
  | [a, b, c], _, h, t, ht => by
    rcases List.mem_cons.mp ht with rfl | ht
    · exact h.1
    rcases List.mem_cons.mp ht with rfl | ht
    · exact h.2.1
    · obtain rfl := List.mem_singleton.mp ht; exact h.2.2
  | _ :: _ :: _ :: _ :: _, h, _, _, _ => by simp at h
theorem a8t {l : List S31} (hP : pH l) (i : Nat) (hi : i < l.length) (hq : ¬ ((kA l (i : Int)).f0 = 19 ∨ (kA l (i : Int)).f0 = 20)) {env : List Int} (h : a3t (T l i) env) (p : Int) (hp : p ∈ pl l i) : a3t (T l p.toNat) env := by
  rw [a7x hP i hi] at h
  exact c3z hq _ (by rw [List.length_map]; exact qN _ _ _ _) h _ (List.mem_map.mpr ⟨p, hp, rfl⟩)
theorem b2k {l : List S31} (hP : pH l) (i : Nat) (hi : i < l.length) (hq : (kA l (i : Int)).f0 = 19 ∨ (kA l (i : Int)).f0 = 20) {env : List Int} (h : a3t (T l i) env) (x : Nat) (hx : x < 2 ^ (kA l (i : Int)).f4.toNat) : a3t (T l (kA l (i : Int)).f3.toNat) (env.set (kA l (i : Int)).f2.toNat (x : Int)) := by
  rw [a7x hP i hi, show pl l i = [(kA l (i : Int)).f3] from wW hq] at h
  exact h.2 hq x hx
theorem b7u {l : List S31} (hP : pH l) (i : Nat) (hi : i < l.length) (o1 : (kA l (i : Int)).f0 = 1) {env : List Int} (h : a3t (T l i) env) : wok (kA l (i : Int)).f1 (rd env (kA l (i : Int)).f2) = true := by
  rw [a7x hP i hi, show pl l i = [] from by unfold pl; rw [o1]; rfl] at h
  exact h o1
theorem c6y (op : Int) (n : Nat) (f : Nat → Int) : qv op n f = 0 ∨ qv op n f = 1 := by
  unfold qv; split <;> exact a7v
set_option maxHeartbeats 2000000 in
theorem b4n {l : List S31} (hN : qL l) (i : Nat) : ∀ env : List Int, i < l.length → a3t (T l i) env → wok (kA l (i : Int)).f1 (sem (T l i) env) = true := by
  have hP := qV hN
  induction i using Nat.strongRecOn with
  | ind i ih =>
    intro env hi hg
    have hf := tY hN i hi
    have hb := hN i hi
    have hin := hP i hi
    by_cases o1 : (kA l (i : Int)).f0 = 1
    · have := b7u hP i hi o1 hg
      rw [a7x hP i hi, show pl l i = [] from by unfold pl; rw [o1]; rfl, o1]
      exact this
    by_cases oq : (kA l (i : Int)).f0 = 19 ∨ (kA l (i : Int)).f0 = 20
    · have hq := uT hN i hi oq
      rw [a7x hP i hi, show pl l i = [(kA l (i : Int)).f3] from wW oq, hq.2.2.2.2]
      show wok 1 (sem (mkT _ _ _ _ [_]) env) = true
      simp only [mkT, sem]
      rw [if_pos oq]
      exact b3z (c6y _ _ _)
    have part : ∀ p ∈ pl l i, wok (kA l p).f1 (sem (T l p.toNat) env) = true := by
      intro p hp
      have := hin p hp
      have h := ih p.toNat oM env oM (a8t hP i hi oq hg p hp)
      rwa [Int.toNat_of_nonneg this.1] at h
    have wvp : ∀ t : Nat, t < (pl l i).length → wv (l.take i) (pl l i) (pl l i).length t = (kA l (rd (pl l i) (t : Int))).f1 := by
      intro t ht
      unfold wv
      have := hin (rd (pl l i) (t : Int)) (by rw [rdI (pl l i) t ht]; exact List.getElem_mem _)
      rw [if_pos ht, a7l l i _ this.1 this.2]
    unfold a1r xI at hb
    simp only [Bool.and_eq_true] at hb
    have h5 := hb.2
    rw [a7x hP i hi, a9t l _ _ _ _ (pl l i) (qN _ _ _ _) o1 oq env (fun p hp => (hin p hp).1)]
    have hpl : kS (kA l (i : Int)).f0 (kA l (i : Int)).f3 (kA l (i : Int)).f4 (kA l (i : Int)).f5 = pl l i := rfl
    rw [hpl] at h5
    have hz : (0 : Int) ≤ 0 ∧ (0 : Int) ≤ 255 := by omega
    generalize hop : (kA l (i : Int)).f0 = op at *
    generalize hW : (kA l (i : Int)).f1 = W at *
    generalize hKq : (kA l (i : Int)).f2 = K at *
    obtain ⟨hWr, hopr, _⟩ := hf
    unfold pQ at h5
    by_cases o0 : op = 0
    · subst o0
      rw [if_pos rfl] at h5
      have e : pl l i = [] := by unfold pl; rw [hop]; rfl
      rw [e]
      show wok W (vP 0 W K 1 0 0 0) = true
      unfold vP
      rw [if_pos ⟨hWr, oM, hz, hz, hz⟩]
      exact h5
    rw [if_neg o0, if_neg o1] at h5
    have un : (op = 2 ∨ op = 17) → ∃ a, pl l i = [a] := fun h => ⟨_, by unfold pl kS; rw [hop, if_pos oM]⟩
    have bi : (3 ≤ op ∧ op ≤ 16) → ∃ a b, pl l i = [a, b] := fun h => ⟨_, _, by unfold pl kS; rw [hop, if_neg oM, if_pos h]⟩
    have te : op = 18 → ∃ a b c, pl l i = [a, b, c] := fun h => ⟨_, _, _, by unfold pl kS; rw [hop, if_neg oM, if_neg oM, if_pos h]⟩
    have wr : ∀ p ∈ pl l i, 1 ≤ (kA l p).f1 ∧ (kA l p).f1 ≤ 8 := fun p hp => by have := pF.mp (part p hp); omega
    by_cases o2 : op = 2
    · obtain ⟨a, e⟩ := un (.inl o2)
      subst o2
      rw [if_pos rfl, wvp 0 (by rw [e]; simp)] at h5
      rw [e] at h5 part wr ⊢
      have h5 : (kA l a).f1 = W := beq_iff_eq.mp h5
      have pa := part a (by simp)
      show wok W (vP 2 W K (kA l a).f1 (sem (T l a.toNat) env) 0 0) = true
      rw [h5] at pa ⊢
      unfold vP
      rw [if_pos ⟨hWr, hWr, yH pa, hz, hz⟩]
      show wok W (b4a W _) = true
      unfold b4a
      rw [if_pos pa]
      have := pF.mp pa
      exact pF.mpr ⟨hWr.1, hWr.2, oM, oM⟩
    rw [if_neg o2] at h5
    by_cases ob : 3 ≤ op ∧ op ≤ 12
    · obtain ⟨a, b, e⟩ := bi oM
      rw [if_pos ob, wvp 0 (by rw [e]; simp), wvp 1 (by rw [e]; simp)] at h5
      rw [e] at h5 part wr ⊢
      rw [Bool.and_eq_true] at h5
      have h51 : (kA l a).f1 = W := beq_iff_eq.mp h5.1
      have h52 : (kA l b).f1 = W := beq_iff_eq.mp h5.2
      have pa := part a (by simp)
      have pb := part b (by simp)
      show wok W (vP op W K (kA l a).f1 (sem (T l a.toNat) env) (sem (T l b.toNat) env) 0) = true
      rw [h51] at pa ⊢
      rw [h52] at pb
      unfold vP
      rw [if_pos ⟨hWr, hWr, yH pa, yH pb, hz⟩]
      unfold b6r
      rw [if_neg o0, if_neg o2, if_pos ob]
      exact b6x pa pb
    rw [if_neg ob] at h5
    by_cases oc : 13 ≤ op ∧ op ≤ 15
    · obtain ⟨a, b, e⟩ := bi oM
      rw [if_pos oc, Bool.and_eq_true] at h5
      have hW1 : W = 1 := beq_iff_eq.mp h5.2
      rw [e]
      show wok W (vP op W K (kA l a).f1 (sem (T l a.toNat) env) (sem (T l b.toNat) env) 0) = true
      rw [hW1]
      refine b3z ?_
      unfold vP
      split
      · unfold b6r
        rw [if_neg o0, if_neg o2, if_neg ob]
        by_cases o13 : op = 13
        · rw [if_pos o13]; exact a7v
        rw [if_neg o13]
        by_cases o14 : op = 14
        · rw [if_pos o14]; exact a7v
        · rw [if_neg o14, if_pos oM]; exact a7v
      · exact .inl rfl
    rw [if_neg oc] at h5
    by_cases o16 : op = 16
    · obtain ⟨a, b, e⟩ := bi oM
      rw [if_pos o16, wvp 0 (by rw [e]; simp), wvp 1 (by rw [e]; simp)] at h5
      rw [e] at h5 part wr ⊢
      have h5 : wrap64 ((kA l a).f1 + (kA l b).f1) = W := beq_iff_eq.mp h5
      have pa := part a (by simp)
      have pb := part b (by simp)
      have ra := wr a (by simp)
      have rb := wr b (by simp)
      rw [kU oM oM] at h5
      show wok W (vP op W K (kA l a).f1 (sem (T l a.toNat) env) (sem (T l b.toNat) env) 0) = true
      unfold vP
      rw [if_pos ⟨hWr, ra, yH pa, yH pb, hz⟩]
      unfold b6r
      rw [if_neg o0, if_neg o2, if_neg ob, if_neg oM, if_neg oM, if_neg oM, if_pos o16, if_neg oM]
      rw [show W - (kA l a).f1 = (kA l b).f1 by omega]
      obtain ⟨_, _, a0, a1⟩ := pF.mp pa
      obtain ⟨_, _, b0, b1⟩ := pF.mp pb
      have hadd : P2 W = P2 (kA l a).f1 * P2 (kA l b).f1 := by rw [← c8h oM oM, h5]
      have hpb := qU (w := (kA l b).f1) oM rb.2
      have hmul : sem (T l a.toNat) env * P2 (kA l b).f1 ≤ (P2 (kA l a).f1 - 1) * P2 (kA l b).f1 := Int.mul_le_mul_of_nonneg_right a1 oM
      have hnn : 0 ≤ sem (T l a.toNat) env * P2 (kA l b).f1 := Int.mul_nonneg a0 oM
      rw [Int.sub_mul, ← hadd] at hmul
      exact pF.mpr ⟨hWr.1, hWr.2, oM, oM⟩
    rw [if_neg o16] at h5
    by_cases o17 : op = 17
    · obtain ⟨a, e⟩ := un (.inr o17)
      rw [if_pos o17, wvp 0 (by rw [e]; simp)] at h5
      rw [e] at h5 part wr ⊢
      have h5 : inB K 0 (wrap64 ((kA l a).f1 - W)) = true := h5
      have pa := part a (by simp)
      have ra := wr a (by simp)
      rw [kU oM oM] at h5
      have h5 := rX.mp h5
      show wok W (vP op W K (kA l a).f1 (sem (T l a.toNat) env) 0 0) = true
      unfold vP
      rw [if_pos ⟨hWr, ra, yH pa, hz, hz⟩]
      unfold b6r
      rw [if_neg o0, if_neg o2, if_neg ob, if_neg oM, if_neg oM, if_neg oM, if_neg o16, if_pos o17]
      unfold c0p
      split
      · exact a4r hWr.1 hWr.2
      · exact b0t hWr.1 hWr.2
    rw [if_neg o17] at h5
    by_cases o18 : op = 18
    · obtain ⟨a, b, c, e⟩ := te o18
      rw [if_pos o18, wvp 0 (by rw [e]; simp), wvp 1 (by rw [e]; simp), wvp 2 (by rw [e]; simp)] at h5
      rw [e] at h5 part wr ⊢
      simp only [Bool.and_eq_true] at h5
      have h52 : (kA l b).f1 = W := beq_iff_eq.mp h5.1.2
      have h53 : (kA l c).f1 = W := beq_iff_eq.mp h5.2
      have pa := part a (by simp)
      have pb := part b (by simp)
      have pc := part c (by simp)
      have ra := wr a (by simp)
      rw [h52] at pb
      rw [h53] at pc
      show wok W (vP op W K (kA l a).f1 (sem (T l a.toNat) env) (sem (T l b.toNat) env) (sem (T l c.toNat) env)) = true
      unfold vP
      rw [if_pos ⟨hWr, ra, yH pa, yH pb, yH pc⟩]
      unfold b6r
      rw [if_neg o0, if_neg o2, if_neg ob, if_neg oM, if_neg oM, if_neg oM, if_neg o16, if_neg o17, if_pos o18]
      split
      · exact pb
      · exact pc
    · omega
def a5t (l : List S31) (kn env : List Int) : Prop := ∀ j : Nat, j < l.length → 0 ≤ rd kn (j : Int) → rd kn (j : Int) = sem (T l j) env
theorem a5d (l : List S31) (n : Nat) (env : List Int) (hn : n = l.length) : a5t l (List.replicate n (-1)) env := by
  intro j hj h
  subst hn
  unfold rd at h
  rw [List.getD_eq_getElem?_getD, List.getElem?_replicate, if_pos (by simpa using hj)] at h
  exact absurd h (by decide)
theorem a8p {l : List S31} {kn env : List Int} (h : a5t l kn env) (i : Nat) (hk : kn.length = l.length) : a5t l (kn.set i (sem (T l i) env)) env := by
  intro j hj h0
  have e : rd (kn.set i (sem (T l i) env)) (j : Int) = if i = j then sem (T l i) env else rd kn (j : Int) := by
    show (kn.set i (sem (T l i) env)).getD j 0 = _
    rw [List.getD_eq_getElem?_getD, List.getElem?_set]
    by_cases c : i = j
    · rw [if_pos c, if_pos c, if_pos oM]; rfl
    · rw [if_neg c, if_neg c, ← List.getD_eq_getElem?_getD]; rfl
  rw [e] at h0 ⊢
  by_cases c : i = j
  · rw [if_pos c]; rw [c]
  · rw [if_neg c] at h0 ⊢; exact h j hj h0
def HV (l : List S31) (i : Nat) (V : Nat → List Int → Int → List Int → Option (Int × List Int)) : Prop :=
  ∀ (env kn : List Int) (j : Nat), env.length = 8 → kn.length = l.length → j < i → a3t (T l j) env → a5t l kn env → ∃ kn', Ev (fun k => V k env (j : Int) kn) (sem (T l j) env, kn') ∧ kn'.length = l.length ∧ a5t l kn' env
theorem c0o {l : List S31} {i : Nat} {V : Nat → List Int → Int → List Int → Option (Int × List Int)} (hV : HV l i V) (env : List Int) (he : env.length = 8) : ∀ (ps kn : List Int), (∀ p ∈ ps, 0 ≤ p ∧ p < (i : Int)) → (∀ p ∈ ps, a3t (T l p.toNat) env) → kn.length = l.length → a5t l kn env →
    ∃ kn', Ev (fun k => vpl (V k) env ps kn) (ps.map (fun p => sem (T l p.toNat) env), kn') ∧ kn'.length = l.length ∧ a5t l kn' env
  | [], kn, _, _, hk, hkn => ⟨kn, by unfold vpl; exact pW, hk, hkn⟩
  | p :: ps, kn, hin, hg, hk, hkn => by
    have hp := hin p (by simp)
    obtain ⟨kn1, e1, l1, k1⟩ := hV env kn p.toNat he hk oM (hg p (by simp)) hkn
    rw [Int.toNat_of_nonneg hp.1] at e1
    obtain ⟨kn2, e2, l2, k2⟩ := c0o hV env he ps kn1 (fun q hq => hin q (List.mem_cons_of_mem _ hq)) (fun q hq => hg q (List.mem_cons_of_mem _ hq)) l1 k1
    refine ⟨kn2, ?_, l2, k2⟩
    unfold vpl
    exact kO e1 (kO e2 pW)
theorem b7k {l : List S31} {i : Nat} {V : Nat → List Int → Int → List Int → Option (Int × List Int)} (hV : HV l i V) (env : List Int) (he : env.length = 8) (a : Nat) (ha : a < i) (K : Nat) (N : Nat) (hg : ∀ x : Nat, x < N → a3t (T l a) (env.set K (x : Int))) (out : Int) (d : Nat) : ∀ x : Nat, x + d = N →
    Ev (fun k => a8i (V k) l.length env K (a : Int) out d (x : Int)) (if (List.range' x d).all (fun y => sem (T l a) (env.set K (y : Int)) == out) = true then out else 1 - out) := by
  induction d with
  | zero => intro x _; unfold a8i; exact pW
  | succ d ih =>
    intro x hx
    obtain ⟨kn1, e1, _, _⟩ := hV (env.set K (x : Int)) (List.replicate l.length (-1)) a (by simpa using he) (by simp) ha (hg x oM) (a5d l _ _ rfl)
    have ih := ih (x + 1) oM
    rw [show ((x + 1 : Nat) : Int) = (x : Int) + 1 by omega] at ih
    unfold a8i
    refine kO e1 ?_
    rw [List.range'_succ, List.all_cons]
    by_cases h : sem (T l a) (env.set K (x : Int)) = out
    · refine kD h ?_
      rw [show (sem (T l a) (env.set K (x : Int)) == out) = true from beq_iff_eq.mpr h, Bool.true_and]
      exact ih
    · refine kQ h ?_
      rw [show (sem (T l a) (env.set K (x : Int)) == out) = false from beq_eq_false_iff_ne.mpr h, Bool.false_and, if_neg (by decide)]
      exact pW
theorem c6x (op : Int) (n : Nat) (f : Nat → Int) (hf : ∀ x < n, f x = 0 ∨ f x = 1) :
    (if (List.range' 0 n).all (fun y => f y == (if op = 19 then 1 else 0)) = true then (if op = 19 then (1 : Int) else 0) else 1 - (if op = 19 then (1 : Int) else 0)) = qv op n f := by
  rw [← List.range_eq_range']
  unfold qv
  by_cases h : op = 19
  · simp only [if_pos h]
    split <;> simp
  · simp only [if_neg h]
    by_cases c : (List.range n).all (fun y => f y == 0) = true
    · rw [if_pos c, if_neg]
      rw [List.any_eq_true]
      rintro ⟨x, hx, h1⟩
      have h0 := List.all_eq_true.mp c x hx
      have h0 : f x = 0 := beq_iff_eq.mp h0
      have h1 : f x = 1 := beq_iff_eq.mp h1
      omega
    · rw [if_neg c, if_pos]
      · rfl
      · rw [List.any_eq_true]
        rw [List.all_eq_true] at c
        have : ∃ x, x ∈ List.range n ∧ ¬ (f x == 0) = true := by
          refine Classical.byContradiction fun hn => c (fun x hx => Classical.byContradiction fun h2 => hn ⟨x, hx, h2⟩)
        obtain ⟨x, hx, h2⟩ := this
        refine ⟨x, hx, ?_⟩
        have := hf x (List.mem_range.mp hx)
        simp at h2 ⊢
        omega
theorem b1m {l : List S31} (hN : qL l) (hl : l.length ≤ 80) (i : Nat) (hi : i < l.length) (V : Nat → List Int → Int → List Int → Option (Int × List Int)) (hV : HV l i V) (env kn : List Int) (he : env.length = 8) (hk : kn.length = l.length) (hg : a3t (T l i) env) (hkn : a5t l kn env) :
    ∃ kn', Ev (fun k => impl_valueR (k + 1) (V k) l env (i : Int) kn) (sem (T l i) env, kn') ∧ kn'.length = l.length ∧ a5t l kn' env := by
  have hP := qV hN
  have hin := hP i hi
  have hf := tY hN i hi
  unfold impl_valueR
  by_cases h0 : 0 ≤ rd kn (i : Int)
  · refine ⟨kn, kD ⟨oM, oM⟩ (kD h0 (a8x ?_)), hk, hkn⟩
    rw [hkn i hi h0]
  have hset := a8p hkn i hk
  by_cases o1 : (kA l (i : Int)).f0 = 1
  · have hv := a7n hN i hi o1
    have es : sem (T l i) env = rd env (kA l (i : Int)).f2 := by
      rw [a7x hP i hi, show pl l i = [] from by unfold pl; rw [o1]; rfl, o1]; rfl
    refine ⟨_, kD ⟨oM, oM⟩ (kQ h0 (kD o1 (kD ⟨oM, oM⟩ (a8x ?_)))), by simpa using hk, hset⟩
    rw [es]; rfl
  by_cases oq : (kA l (i : Int)).f0 = 19 ∨ (kA l (i : Int)).f0 = 20
  · obtain ⟨k7, ⟨b1, b8⟩, ⟨a0, a1⟩, hw1, _⟩ := uT hN i hi oq
    have hgq := b2k hP i hi oq hg
    have ql := b7k hV env he (kA l (i : Int)).f3.toNat oM (kA l (i : Int)).f2.toNat (2 ^ (kA l (i : Int)).f4.toNat) hgq (if (kA l (i : Int)).f0 = 19 then 1 else 0) (2 ^ (kA l (i : Int)).f4.toNat) 0 oM
    rw [c6x _ _ (fun y => sem (T l (kA l (i : Int)).f3.toNat) (env.set (kA l (i : Int)).f2.toNat (y : Int)))] at ql
    · rw [Int.toNat_of_nonneg a0] at ql
      have es : sem (T l i) env = qv (kA l (i : Int)).f0 (2 ^ (kA l (i : Int)).f4.toNat) (fun y => sem (T l (kA l (i : Int)).f3.toNat) (env.set (kA l (i : Int)).f2.toNat (y : Int))) := by
        rw [a7x hP i hi, show pl l i = [(kA l (i : Int)).f3] from wW oq]
        show sem (mkT _ _ _ _ [_]) env = _
        simp only [mkT, sem]
        rw [if_pos oq]
      refine ⟨_, kD ⟨oM, oM⟩ (kQ h0 (kQ o1 (kD (by simpa using oq) (kO (a := sem (T l i) env) ?_ pW)))), by simpa using hk, hset⟩
      rw [es]
      unfold impl_quantR
      exact kD ⟨oM, oM, oM, oM⟩ ql
    · intro x hx
      have := b4n hN (kA l (i : Int)).f3.toNat _ oM (hgq x hx)
      rw [Int.toNat_of_nonneg a0, hw1] at this
      exact c4k this
  · have hlen : (pl l i).length ≤ 3 := qN _ _ _ _
    obtain ⟨kn1, e1, l1, k1⟩ := c0o hV env he (pl l i) kn hin (fun p hp => a8t hP i hi oq hg p hp) hk hkn
    have hset1 := a8p k1 i l1
    refine ⟨_, kD ⟨oM, oM⟩ (kQ h0 (kQ o1 (kQ (by simpa using oq) (kD ?_ (kO e1 (kO (a := sem (T l i) env) ?_ pW)))))), by simpa using l1, hset1⟩
    · refine List.all_eq_true.mpr fun p hp => rX.mpr ?_
      have := hin p hp
      omega
    · refine yY 40 fun k hkk => ?_
      rw [c8m _ _ _ _ _ _ _ _ _ _ oM, a7x hP i hi, a9t l _ _ _ _ (pl l i) hlen o1 oq env (fun p hp => (hin p hp).1)]
      have hpl : kS (kA l (i : Int)).f0 (kA l (i : Int)).f3 (kA l (i : Int)).f4 (kA l (i : Int)).f5 = pl l i := rfl
      rw [hpl]
      generalize pl l i = ps at *
      match ps, hlen with
      | [], _ => rfl
      | [a], _ => rfl
      | [a, b], _ => rfl
      | [a, b, c], _ => rfl
      | a :: b :: c :: d :: r, h => exact absurd h (by simp)
theorem b6v {l : List S31} (hN : qL l) (hl : l.length ≤ 80) (i : Nat) : ∀ (env kn : List Int), i < l.length → env.length = 8 → kn.length = l.length → a3t (T l i) env → a5t l kn env → ∃ kn', Ev (fun k => impl_valueF l k env (i : Int) kn) (sem (T l i) env, kn') ∧ kn'.length = l.length ∧ a5t l kn' env := by
  induction i using Nat.strongRecOn with
  | ind i ih =>
    intro env kn hi he hk hg hkn
    obtain ⟨kn', e, h⟩ := b1m hN hl i hi (fun k => impl_valueF l k) (fun env kn j h1 h2 h3 h4 h5 => ih j h3 env kn oM h1 h2 h4 h5) env kn he hk hg hkn
    exact ⟨kn', kN e, h⟩
def fs : Tm → Int → Nat
  | .leaf op W K, v => if op = 1 ∧ K = v then 2 ^ W.toNat else 0
  | .un op W K B a, v => if (op = 19 ∨ op = 20) ∧ K = v then 0 else fs a v
  | .bin op W K a b, v => fs a v ||| fs b v
  | .ter op W K a b c, v => fs a v ||| fs b v ||| fs c v
def a9j (l : List S31) (i : Nat) (v : Int) : Nat := (pl l i).foldl (fun s p => s ||| fs (T l p.toNat) v) (if (kA l (i : Int)).f0 = 1 ∧ (kA l (i : Int)).f2 = v then 2 ^ (kA l (i : Int)).f1.toNat else 0)
def isQ (l : List S31) (i : Nat) : Prop := (kA l (i : Int)).f0 = 19 ∨ (kA l (i : Int)).f0 = 20
instance (l : List S31) (i : Nat) : Decidable (isQ l i) := by unfold isQ; infer_instance
theorem b7v {l : List S31} (hP : pH l) (i : Nat) (hi : i < l.length) (v : Int) : fs (T l i) v = if isQ l i ∧ (kA l (i : Int)).f2 = v then 0 else a9j l i v := by
  rw [a7x hP i hi]
  unfold a9j isQ
  have hlen : (pl l i).length ≤ 3 := qN _ _ _ _
  by_cases oq : (kA l (i : Int)).f0 = 19 ∨ (kA l (i : Int)).f0 = 20
  · rw [show pl l i = [(kA l (i : Int)).f3] from wW oq]
    show fs (mkT _ _ _ _ [_]) v = _
    simp only [mkT, fs, List.foldl_cons, List.foldl_nil]
    rw [if_neg (show ¬ ((kA l (i : Int)).f0 = 1 ∧ (kA l (i : Int)).f2 = v) by omega), Nat.zero_or]
  · rw [if_neg (fun h => oq h.1)]
    by_cases o1 : (kA l (i : Int)).f0 = 1
    · rw [show pl l i = [] from by unfold pl; rw [o1]; rfl]; rfl
    · rw [if_neg (fun h => o1 h.1)]
      generalize pl l i = ps at *
      match ps, hlen with
      | [], _ => show fs (mkT _ _ _ _ []) v = _; simp only [mkT, fs]; rw [if_neg (fun h => o1 h.1)]; rfl
      | [a], _ => show fs (mkT _ _ _ _ [_]) v = _; simp only [mkT, fs, List.foldl_cons, List.foldl_nil, Nat.zero_or]; rw [if_neg (fun h => oq h.1)]
      | [a, b], _ => show fs (mkT _ _ _ _ [_, _]) v = _; simp only [mkT, fs, List.foldl_cons, List.foldl_nil, Nat.zero_or]
      | [a, b, c], _ => show fs (mkT _ _ _ _ [_, _, _]) v = _; simp only [mkT, fs, List.foldl_cons, List.foldl_nil, Nat.zero_or]
      | a :: b :: c :: d :: r, h => simp at h
theorem a3f (g : Int → Nat) (w : Nat) : ∀ (ps : List Int) (s : Nat), (ps.foldl (fun s p => s ||| g p) s).testBit w = true ↔ s.testBit w = true ∨ ∃ p ∈ ps, (g p).testBit w = true
  | [], s => by simp
  | p :: ps, s => by
    rw [List.foldl_cons, a3f g w ps, Nat.testBit_or, Bool.or_eq_true]
    constructor
    · rintro ((h | h) | ⟨q, hq, h⟩)
      · exact .inl h
      · exact .inr ⟨p, List.mem_cons_self .., h⟩
      · exact .inr ⟨q, List.mem_cons_of_mem _ hq, h⟩
    · rintro (h | ⟨q, hq, h⟩)
      · exact .inl (.inl h)
      · rcases List.mem_cons.mp hq with rfl | hq
        · exact .inl (.inr h)
        · exact .inr ⟨q, hq, h⟩
theorem a5i (g : Int → Nat) (n : Nat) : ∀ (ps : List Int) (s : Nat), s < 2 ^ n → (∀ p ∈ ps, g p < 2 ^ n) → ps.foldl (fun s p => s ||| g p) s < 2 ^ n
  | [], s, h, _ => h
  | p :: ps, s, h, hg => a5i g n ps _ (Nat.or_lt_two_pow h (hg p (by simp))) (fun q hq => hg q (List.mem_cons_of_mem _ hq))
theorem b0y {l : List S31} (hN : qL l) (i : Nat) (hi : i < l.length) (v : Int) : (if (kA l (i : Int)).f0 = 1 ∧ (kA l (i : Int)).f2 = v then 2 ^ (kA l (i : Int)).f1.toNat else 0) < 2 ^ 9 := by
  have := tY hN i hi
  split
  · exact Nat.pow_lt_pow_right oM oM
  · exact Nat.two_pow_pos 9
theorem c7p {l : List S31} (hN : qL l) (v : Int) (i : Nat) : i < l.length → fs (T l i) v < 2 ^ 9 := by
  have hP := qV hN
  induction i using Nat.strongRecOn with
  | ind i ih =>
    intro hi
    rw [b7v hP i hi]
    split
    · exact Nat.two_pow_pos 9
    · unfold a9j
      refine a5i _ 9 _ _ (b0y hN i hi v) (fun p hp => ?_)
      have := hP i hi p hp
      exact ih p.toNat oM oM
theorem a8u {l : List S31} (hP : pH l) (i : Nat) (hi : i < l.length) (v : Int) (w : Nat) : (fs (T l i) v).testBit w = true ↔ ((kA l (i : Int)).f0 = 1 ∧ (kA l (i : Int)).f2 = v ∧ (kA l (i : Int)).f1.toNat = w) ∨ (¬ (isQ l i ∧ (kA l (i : Int)).f2 = v) ∧ ∃ p ∈ pl l i, (fs (T l p.toNat) v).testBit w = true) := by
  rw [b7v hP i hi]
  by_cases hq : isQ l i ∧ (kA l (i : Int)).f2 = v
  · rw [if_pos hq]
    have h1 := hq.1
    unfold isQ at h1
    constructor
    · intro h; simp at h
    · rintro (h | h)
      · omega
      · exact absurd hq h.1
  · rw [if_neg hq]
    unfold a9j
    rw [a3f]
    have e : ((if (kA l (i : Int)).f0 = 1 ∧ (kA l (i : Int)).f2 = v then 2 ^ (kA l (i : Int)).f1.toNat else 0 : Nat).testBit w = true) ↔ ((kA l (i : Int)).f0 = 1 ∧ (kA l (i : Int)).f2 = v ∧ (kA l (i : Int)).f1.toNat = w) := by
      by_cases c : (kA l (i : Int)).f0 = 1 ∧ (kA l (i : Int)).f2 = v
      · rw [if_pos c, Nat.testBit_two_pow, decide_eq_true_eq]
        exact ⟨fun h => ⟨c.1, c.2, h⟩, fun h => h.2.2⟩
      · rw [if_neg c]
        constructor
        · intro h; simp at h
        · rintro ⟨a, b, _⟩; exact absurd ⟨a, b⟩ c
    rw [e]
    constructor
    · rintro (h | h)
      · exact .inl h
      · exact .inr ⟨hq, h⟩
    · rintro (h | h)
      · exact .inl h
      · exact .inr h.2
def qn (l : List S31) (i : Nat) : Prop := isQ l i → fs (T l (kA l (i : Int)).f3.toNat) (kA l (i : Int)).f2 = 0 ∨ fs (T l (kA l (i : Int)).f3.toNat) (kA l (i : Int)).f2 = 2 ^ (kA l (i : Int)).f4.toNat
def b1w (t : Tm) (env : List Int) : Prop := ∀ v : Nat, v < 8 → ∀ w : Nat, (fs t (v : Int)).testBit w = true → wok (w : Int) (rd env (v : Int)) = true
theorem b1h (s B : Nat) : (∀ w, s.testBit w = true → w = B) ↔ s = 0 ∨ s = 2 ^ B := by
  constructor
  · intro h
    by_cases hB : s.testBit B = true
    · right
      refine Nat.eq_of_testBit_eq fun w => ?_
      rw [Nat.testBit_two_pow]
      by_cases c : B = w
      · subst c; simp [hB]
      · rw [decide_eq_false c]
        cases hw : s.testBit w with
        | false => rfl
        | true => exact absurd (h w hw).symm c
    · left
      refine Nat.eq_of_testBit_eq fun w => ?_
      rw [Nat.zero_testBit]
      cases hw : s.testBit w with
      | false => rfl
      | true => have := h w hw; subst this; exact absurd hw hB
  · rintro (rfl | rfl) w hw
    · simp at hw
    · rw [Nat.testBit_two_pow, decide_eq_true_eq] at hw; exact hw.symm
theorem a8h (env : List Int) (K v : Nat) (x : Int) (hK : K < env.length) : rd (env.set K x) (v : Int) = if K = v then x else rd env (v : Int) := by
  show (env.set K x).getD v 0 = _
  rw [List.getD_eq_getElem?_getD, List.getElem?_set]
  by_cases c : K = v
  · rw [if_pos c, if_pos c, if_pos oM]; rfl
  · rw [if_neg c, if_neg c, ← List.getD_eq_getElem?_getD]; rfl
theorem b5q {l : List S31} (hN : qL l) (met : Nat → Prop) (hm : ∀ i < l.length, met i → ∀ p ∈ pl l i, met p.toNat) (hq : ∀ i < l.length, met i → qn l i) (i : Nat) : ∀ env : List Int, i < l.length → env.length = 8 → met i → b1w (T l i) env → a3t (T l i) env := by
  have hP := qV hN
  induction i using Nat.strongRecOn with
  | ind i ih =>
    intro env hi he hmi hr
    have hin := hP i hi
    have part : ∀ p ∈ pl l i, (∀ v : Nat, v < 8 → ∀ w : Nat, (fs (T l p.toNat) (v : Int)).testBit w = true → (fs (T l i) (v : Int)).testBit w = true) → a3t (T l p.toNat) env := by
      intro p hp h
      have := hin p hp
      exact ih p.toNat oM env oM he (hm i hi hmi p hp) (fun v hv w hw => hr v hv w (h v hv w hw))
    by_cases oq : isQ l i
    · obtain ⟨k7, ⟨b1, b8⟩, ⟨a0, a1⟩, _, _⟩ := uT hN i hi oq
      have hf := tY hN i hi
      have hpl : pl l i = [(kA l (i : Int)).f3] := wW oq
      have hqn := hq i hi hmi oq
      rw [a7x hP i hi, hpl]
      refine ⟨fun h => absurd oq h, fun _ x hx => ?_⟩
      refine ih (kA l (i : Int)).f3.toNat oM _ oM (by simpa using he) (hm i hi hmi _ (by rw [hpl]; simp)) ?_
      intro v hv w hw
      rw [a8h env _ v _ oM]
      by_cases c : (kA l (i : Int)).f2.toNat = v
      · rw [if_pos c]
        have hK : (kA l (i : Int)).f2 = (v : Int) := by omega
        rw [hK] at hqn
        have hwB := (b1h _ _).mpr hqn w hw
        have hx' : (x : Int) ≤ P2 (w : Int) - 1 := by
          rw [a2l oM, Int.toNat_natCast, hwB]; omega
        exact pF.mpr ⟨oM, oM, oM, hx'⟩
      · rw [if_neg c]
        refine hr v hv w ?_
        rw [a8u hP i hi]
        exact .inr ⟨fun h => c (by have := h.2; omega), _, by rw [hpl]; exact List.mem_singleton.mpr rfl, hw⟩
    · have hsub : ∀ p ∈ pl l i, a3t (T l p.toNat) env := fun p hp => part p hp (fun v hv w hw => by
        rw [a8u hP i hi]
        exact .inr ⟨fun h => oq h.1, p, hp, hw⟩)
      have hlen : (pl l i).length ≤ 3 := qN _ _ _ _
      have hvar : (kA l (i : Int)).f0 = 1 → wok (kA l (i : Int)).f1 (rd env (kA l (i : Int)).f2) = true := by
        intro o1
        have hf := tY hN i hi
        have hv := a7n hN i hi o1
        have := hr (kA l (i : Int)).f2.toNat oM (kA l (i : Int)).f1.toNat (by
          rw [a8u hP i hi]
          exact .inl ⟨o1, oM, rfl⟩)
        rwa [Int.toNat_of_nonneg oM, Int.toNat_of_nonneg oM] at this
      rw [a7x hP i hi]
      generalize pl l i = ps at *
      match ps, hlen with
      | [], _ => exact hvar
      | [a], _ => exact ⟨fun _ => hsub a (by simp), fun h => absurd h oq⟩
      | [a, b], _ => exact ⟨hsub a (by simp), hsub b (by simp)⟩
      | [a, b, c], _ => exact ⟨hsub a (by simp), hsub b (by simp), hsub c (by simp)⟩
      | a :: b :: c :: d :: r, h => exact absurd h (by simp)
theorem or9 {a b : Nat} (ha : a < 2 ^ 9) (hb : b < 2 ^ 9) : Go.bits .or .i64 (a : Int) (b : Int) = ((a ||| b : Nat) : Int) := (b1i a b 9 oM ha hb).2.1
def c0y (l : List S31) (i : Nat) : List Int := (List.range 8).map fun v : Nat => (fs (T l i) (v : Int) : Int)
def yK (l : List S31) (i : Nat) : List (List Int) := (List.range i).map fun t : Nat => c0y l t
theorem b1e (l : List S31) (i : Nat) : (c0y l i).length = 8 := by simp [c0y]
theorem a5j (l : List S31) (i : Nat) : (yK l i).length = i := by simp [yK]
theorem a8w (l : List S31) (i : Nat) (p : Int) (h0 : 0 ≤ p) (h1 : p < (i : Int)) : a0h (yK l i) p = c0y l p.toNat := by
  show (yK l i).getD p.toNat _ = _
  unfold yK
  rw [List.getD_eq_getElem?_getD, List.getElem?_map, List.getElem?_range oM]; rfl
theorem b1f (l : List S31) (i v : Nat) (hv : v < 8) : rd (c0y l i) (v : Int) = (fs (T l i) (v : Int) : Int) := by
  show (c0y l i).getD v 0 = _
  unfold c0y
  rw [List.getD_eq_getElem?_getD, List.getElem?_map, List.getElem?_range hv]; rfl
theorem c4d {l : List S31} (hN : qL l) (hl : l.length ≤ 80) (i : Nat) (hi : i < l.length) (env : List Int) (row : List Int) (v : Nat) (hv : v < 8) (ps : List Int) (hps : ps.length ≤ 3) (hin : ∀ p ∈ ps, 0 ≤ p ∧ p < (i : Int)) (op W K A B C : Int) (r : Bool) (d : Nat) : ∀ (j s : Nat), j + d = ps.length → s < 2 ^ 9 →
    Ev (fun k => if ((op == 19) || (op == 20)) = true then (pX k l env (yK l i) (i : Int) row ps (v : Int) (((ps.drop j).foldl (fun s p => s ||| fs (T l p.toNat) (v : Int)) s : Nat) : Int) (K == (v : Int)) op W K A B C) else (pX k l env (yK l i) (i : Int) row ps (v : Int) (((ps.drop j).foldl (fun s p => s ||| fs (T l p.toNat) (v : Int)) s : Nat) : Int) false op W K A B C)) r →
    Ev (fun k => tQ k l env (yK l i) (i : Int) row ps (v : Int) (s : Int) (j : Int) op W K A B C) r := by
  induction d with
  | zero =>
    intro j s hj hs H
    obtain rfl : j = ps.length := by omega
    rw [List.drop_length] at H
    refine kN ?_
    simp only [tQ]
    exact kQ oM (qA (c4r _) H)
  | succ d ih =>
    intro j s hj hs H
    have hjl : j < ps.length := by omega
    have hp := hin (rd ps (j : Int)) (by rw [rdI ps j hjl]; exact List.getElem_mem _)
    refine kN ?_
    simp only [tQ]
    rw [a8w l i _ hp.1 hp.2, b1f l _ v hv, b1e, a5j]
    rw [wS j]
    refine kD oM (kD oM (kD hp.1 (kD hp.2 (kD oM (kD oM ?_)))))
    have hlt := c7p hN (v : Int) (rd ps (j : Int)).toNat oM
    rw [or9 hs hlt]
    refine ih (j + 1) (s ||| fs (T l (rd ps (j : Int)).toNat) (v : Int)) oM (Nat.or_lt_two_pow hs hlt) ?_
    have hdrop : ps.drop j = rd ps (j : Int) :: ps.drop (j + 1) := by
      rw [List.drop_eq_getElem_cons hjl, rdI ps j hjl]
    rw [hdrop, List.foldl_cons] at H
    exact H
theorem c4e {l : List S31} (hN : qL l) (hl : l.length ≤ 80) (i : Nat) (hi : i < l.length) (env : List Int) (R : Prop)
    (NX : ∃ r, Ev (fun k => sL k l env (yK l (i + 1)) ((i + 1 : Nat) : Int)) r ∧ (r = true ↔ R)) (d : Nat) : ∀ (v : Nat), v + d = 8 →
    ∃ r, Ev (fun k => rN k l env (yK l i) (i : Int) ((List.range v).map fun v : Nat => (fs (T l i) (v : Int) : Int)) (pl l i) (v : Int) (kA l (i : Int)).f0 (kA l (i : Int)).f1 (kA l (i : Int)).f2 (kA l (i : Int)).f3 (kA l (i : Int)).f4 (kA l (i : Int)).f5) r ∧ (r = true ↔ (((v : Int) ≤ (kA l (i : Int)).f2 → qn l i) ∧ R)) := by
  have hP := qV hN
  have hf := tY hN i hi
  induction d with
  | zero =>
    intro v hv
    obtain rfl : v = 8 := by omega
    obtain ⟨r, e, h⟩ := NX
    refine ⟨r, kN ?_, ?_⟩
    · simp only [rN]
      rw [wS i, a5j]
      refine kQ oM (kD oM ?_)
      have : yK l i ++ [(List.range 8).map fun v : Nat => (fs (T l i) (v : Int) : Int)] = yK l (i + 1) := by
        show yK l i ++ [c0y l i] = _
        unfold yK; rw [List.range_succ (n := i), List.map_append]; rfl
      rw [this]; exact e
    · rw [h]
      constructor
      · intro hr
        refine ⟨fun hle hq => ?_, hr⟩
        have := (uT hN i hi hq).1
        omega
      · exact fun h => h.2
  | succ d ih =>
    intro v hv
    have hv8 : v < 8 := by omega
    obtain ⟨r, e, h⟩ := ih (v + 1) oM
    have hrow : ((List.range v).map fun v : Nat => (fs (T l i) (v : Int) : Int)) ++ [(fs (T l i) (v : Int) : Int)] = (List.range (v + 1)).map fun v : Nat => (fs (T l i) (v : Int) : Int) := by
      rw [List.range_succ, List.map_append]; rfl
    have hlen : (((List.range v).map fun v : Nat => (fs (T l i) (v : Int) : Int))).length = v := by simp
    have tail : ∃ r', Ev (fun k => if (((kA l (i : Int)).f0 == 19) || ((kA l (i : Int)).f0 == 20)) = true then (pX k l env (yK l i) (i : Int) ((List.range v).map fun v : Nat => (fs (T l i) (v : Int) : Int)) (pl l i) (v : Int) ((a9j l i (v : Int) : Nat) : Int) ((kA l (i : Int)).f2 == (v : Int)) (kA l (i : Int)).f0 (kA l (i : Int)).f1 (kA l (i : Int)).f2 (kA l (i : Int)).f3 (kA l (i : Int)).f4 (kA l (i : Int)).f5) else (pX k l env (yK l i) (i : Int) ((List.range v).map fun v : Nat => (fs (T l i) (v : Int) : Int)) (pl l i) (v : Int) ((a9j l i (v : Int) : Nat) : Int) false (kA l (i : Int)).f0 (kA l (i : Int)).f1 (kA l (i : Int)).f2 (kA l (i : Int)).f3 (kA l (i : Int)).f4 (kA l (i : Int)).f5)) r' ∧ (r' = true ↔ (((v : Int) ≤ (kA l (i : Int)).f2 → qn l i) ∧ R)) := by
      have plain : ¬ (isQ l i ∧ (kA l (i : Int)).f2 = (v : Int)) → ∃ r', Ev (fun k => pX k l env (yK l i) (i : Int) ((List.range v).map fun v : Nat => (fs (T l i) (v : Int) : Int)) (pl l i) (v : Int) ((a9j l i (v : Int) : Nat) : Int) false (kA l (i : Int)).f0 (kA l (i : Int)).f1 (kA l (i : Int)).f2 (kA l (i : Int)).f3 (kA l (i : Int)).f4 (kA l (i : Int)).f5) r' ∧ (r' = true ↔ (((v : Int) ≤ (kA l (i : Int)).f2 → qn l i) ∧ R)) := by
        intro hnq
        refine ⟨r, kN ?_, ?_⟩
        · simp only [pX]
          rw [wS v, hlen]
          refine kQ (by decide) (kD oM ?_)
          rw [show a9j l i (v : Int) = fs (T l i) (v : Int) from by rw [b7v hP i hi, if_neg hnq], hrow]
          exact e
        · rw [h]
          constructor
          · rintro ⟨a, b⟩
            refine ⟨fun hle hq => ?_, b⟩
            by_cases c : (kA l (i : Int)).f2 = (v : Int)
            · exact absurd ⟨hq, c⟩ hnq
            · exact a oM hq
          · rintro ⟨a, b⟩
            exact ⟨fun hle => a oM, b⟩
      by_cases oq : isQ l i
      · by_cases hK : (kA l (i : Int)).f2 = (v : Int)
        · have hq := uT hN i hi oq
          have hpre : a9j l i (v : Int) = fs (T l (kA l (i : Int)).f3.toNat) (v : Int) := by
            unfold a9j
            rw [show pl l i = [(kA l (i : Int)).f3] from wW oq]
            unfold isQ at oq
            rw [if_neg oM]
            simp
          have hfz : fs (T l i) (v : Int) = 0 := by rw [b7v hP i hi, if_pos ⟨oq, hK⟩]
          have hrow0 : ((List.range v).map fun v : Nat => (fs (T l i) (v : Int) : Int)) ++ [(0 : Int)] = (List.range (v + 1)).map fun v : Nat => (fs (T l i) (v : Int) : Int) := by
            rw [← hrow, hfz]; rfl
          have hqn : qn l i ↔ (a9j l i (v : Int) = 0 ∨ a9j l i (v : Int) = 2 ^ (kA l (i : Int)).f4.toNat) := by
            unfold qn
            rw [hK, hpre]
            exact ⟨fun h => h oq, fun h _ => h⟩
          have good : (a9j l i (v : Int) = 0 ∨ a9j l i (v : Int) = 2 ^ (kA l (i : Int)).f4.toNat) → (r = true ↔ (((v : Int) ≤ (kA l (i : Int)).f2 → qn l i) ∧ R)) := by
            intro hg
            rw [h]
            constructor
            · rintro ⟨_, b⟩; exact ⟨fun _ => hqn.mpr hg, b⟩
            · rintro ⟨_, b⟩; exact ⟨fun _ => hqn.mpr hg, b⟩
          have hB := hq.2.1
          have hP2 : P2 (kA l (i : Int)).f4 = ((2 ^ (kA l (i : Int)).f4.toNat : Nat) : Int) := a2l oM
          by_cases h0 : a9j l i (v : Int) = 0
          · refine ⟨r, kD (by unfold isQ at oq; simpa using oq) (kN ?_), good (.inl h0)⟩
            simp only [pX]
            rw [wS v, hlen, hrow0]
            exact kD (by simpa using hK) (kD oM (kD oM e))
          · by_cases h1 : a9j l i (v : Int) = 2 ^ (kA l (i : Int)).f4.toNat
            · refine ⟨r, kD (by unfold isQ at oq; simpa using oq) (kN ?_), good (.inr h1)⟩
              simp only [pX]
              rw [wS v, hlen, hrow0]
              exact kD (by simpa using hK) (kQ oM (kO (a := P2 (kA l (i : Int)).f4) (yY 20 fun k hk => a6c oM oM hk) (kD (by rw [hP2, h1]) (kD oM e))))
            · refine ⟨false, kD (by unfold isQ at oq; simpa using oq) (kN ?_), ?_⟩
              · simp only [pX]
                exact kD (by simpa using hK) (kQ oM (kO (a := P2 (kA l (i : Int)).f4) (yY 20 fun k hk => a6c oM oM hk) (kQ (by rw [hP2]; omega) pW)))
              · constructor
                · intro h; exact absurd h (by decide)
                · rintro ⟨a, _⟩
                  rcases hqn.mp (a oM) with h | h
                  · exact absurd h h0
                  · exact absurd h h1
        · obtain ⟨r', e', h'⟩ := plain (fun h => hK h.2)
          refine ⟨r', kD (by unfold isQ at oq; simpa using oq) ?_, h'⟩
          rw [show ((kA l (i : Int)).f2 == (v : Int)) = false from beq_eq_false_iff_ne.mpr hK]
          exact e'
      · obtain ⟨r', e', h'⟩ := plain (fun h => oq h.1)
        exact ⟨r', kQ (by unfold isQ at oq; simpa using oq) e', h'⟩
    obtain ⟨r', e', h'⟩ := tail
    refine ⟨r', kN ?_, h'⟩
    simp only [rN]
    have st := b0y hN i hi (v : Int)
    have l2 := c4d hN hl i hi env ((List.range v).map fun v : Nat => (fs (T l i) (v : Int) : Int)) v hv8 (pl l i) (qN _ _ _ _) (hP i hi) (kA l (i : Int)).f0 (kA l (i : Int)).f1 (kA l (i : Int)).f2 (kA l (i : Int)).f3 (kA l (i : Int)).f4 (kA l (i : Int)).f5 r' (pl l i).length 0 _ oM st e'
    refine kD oM ?_
    by_cases o1 : (kA l (i : Int)).f0 = 1
    · refine kD o1 ?_
      by_cases c : (kA l (i : Int)).f2 = (v : Int)
      · rw [if_pos ⟨o1, c⟩] at l2
        refine kN ?_
        simp only [tS]
        refine kD (by simpa using c) (kO (a := P2 (kA l (i : Int)).f1) (yY 20 fun k hk => a6c oM oM hk) (kN ?_))
        simp only [tR]
        rw [a2l oM]
        exact l2
      · rw [if_neg (fun h => c h.2)] at l2
        refine kN ?_
        simp only [tS]
        refine kQ (by simpa using c) (kN ?_)
        simp only [tR]
        exact l2
    · rw [if_neg (fun h => o1 h.1)] at l2
      refine kQ o1 (kN ?_)
      simp only [tS]
      refine kQ (by decide) (kN ?_)
      simp only [tR]
      exact l2
theorem c4b {l : List S31} (hN : qL l) (hl : l.length ≤ 80) (h0 : 1 ≤ l.length) (env : List Int) (he : env.length = 8) (v : Nat) (hv : v < 8) (R : Prop)
    (NX : ∃ r, Ev (fun k => sJ k l env (yK l l.length) ((v + 1 : Nat) : Int)) r ∧ (r = true ↔ R)) (d : Nat) : ∀ w : Nat, w + d = 9 → 1 ≤ w →
    ∃ r, Ev (fun k => qO k l env (yK l l.length) (v : Int) (w : Int)) r ∧ (r = true ↔ ((∀ w' : Nat, w ≤ w' → w' ≤ 8 → (fs (T l (l.length - 1)) (v : Int)).testBit w' = true → wok (w' : Int) (rd env (v : Int)) = true) ∧ R)) := by
  induction d with
  | zero =>
    intro w hw h1
    obtain ⟨r, e, h⟩ := NX
    obtain rfl : w = 9 := by omega
    refine ⟨r, kN ?_, ?_⟩
    · simp only [qO]
      rw [wS v]
      exact kQ oM e
    · rw [h]
      exact ⟨fun h => ⟨fun w' a b => absurd b oM, h⟩, fun h => h.2⟩
  | succ d ih =>
    intro w hw h1
    obtain ⟨r, e, h⟩ := ih (w + 1) oM oM
    have hlt := c7p hN (v : Int) (l.length - 1) oM
    have hP2 : P2 (w : Int) = ((2 ^ w : Nat) : Int) := by rw [a2l oM, Int.toNat_natCast]
    have hpos := qU (w := (w : Int)) oM oM
    have hdiv : wrap64 (Int.tdiv (fs (T l (l.length - 1)) (v : Int) : Int) (P2 (w : Int))) = ((fs (T l (l.length - 1)) (v : Int) / 2 ^ w : Nat) : Int) := by
      rw [hP2, Int.tdiv_eq_ediv_of_nonneg oM, ← Int.natCast_ediv]
      have hle := Nat.div_le_self (fs (T l (l.length - 1)) (v : Int)) (2 ^ w)
      generalize fs (T l (l.length - 1)) (v : Int) / 2 ^ w = q at *
      exact kU oM oM
    have hmod : Int.tmod ((fs (T l (l.length - 1)) (v : Int) / 2 ^ w : Nat) : Int) 2 = ((fs (T l (l.length - 1)) (v : Int) / 2 ^ w % 2 : Nat) : Int) := by
      generalize fs (T l (l.length - 1)) (v : Int) / 2 ^ w = q at *
      rw [Int.tmod_eq_emod_of_nonneg oM]; omega
    have hbit : (fs (T l (l.length - 1)) (v : Int)).testBit w = true ↔ fs (T l (l.length - 1)) (v : Int) / 2 ^ w % 2 = 1 := by
      rw [Nat.testBit_eq_decide_div_mod_eq, decide_eq_true_eq]
    have hroot : wrap64 ((l.length : Int) - 1) = ((l.length - 1 : Nat) : Int) := by rw [kU oM oM]; omega
    have pre : ∀ r', Ev (fun k => if fs (T l (l.length - 1)) (v : Int) / 2 ^ w % 2 = 1 then (if (v : Int) < (env.length : Int) then ((rF k (w : Int) (rd env (v : Int))).bind fun t504 => (if t504 = true then (qO k l env (yK l l.length) (v : Int) ((w + 1 : Nat) : Int)) else (some false))) else (none)) else (qO k l env (yK l l.length) (v : Int) ((w + 1 : Nat) : Int))) r' → Ev (fun k => qO k l env (yK l l.length) (v : Int) (w : Int)) r' := by
      intro r' H
      refine kN ?_
      simp only [qO]
      rw [hroot, a8w l l.length _ oM oM, Int.toNat_natCast, b1f l _ v hv, b1e, a5j]
      refine kD oM (kD oM (kD oM (kD oM (kD oM (kO (a := P2 (w : Int)) (yY 20 fun k hk => a6c oM oM hk) (kQ oM ?_))))))
      rw [hdiv, hmod, wS w]
      by_cases c : fs (T l (l.length - 1)) (v : Int) / 2 ^ w % 2 = 1
      · simp only [if_pos c] at H
        exact kD oM H
      · simp only [if_neg c] at H
        exact kQ oM H
    by_cases c : fs (T l (l.length - 1)) (v : Int) / 2 ^ w % 2 = 1
    · by_cases hwk : wok (w : Int) (rd env (v : Int)) = true
      · refine ⟨r, pre r (kD c (kD oM (kO (a := true) (yY 20 fun k hk => by rw [c0n _ _ hk, hwk]) (kD rfl e)))), ?_⟩
        rw [h]
        constructor
        · rintro ⟨a, b⟩
          refine ⟨fun w' h1 h2 h3 => ?_, b⟩
          by_cases cw : w' = w
          · subst cw; exact hwk
          · exact a w' oM h2 h3
        · rintro ⟨a, b⟩; exact ⟨fun w' h1 h2 h3 => a w' oM h2 h3, b⟩
      · refine ⟨false, pre false (kD c (kD oM (kO (a := false) (yY 20 fun k hk => by rw [c0n _ _ hk]; rw [Bool.not_eq_true] at hwk; rw [hwk]) (kQ (by decide) pW)))), ?_⟩
        constructor
        · intro h; exact absurd h (by decide)
        · rintro ⟨a, _⟩; exact absurd (a w oM oM (hbit.mpr c)) hwk
    · refine ⟨r, pre r (kQ c e), ?_⟩
      rw [h]
      constructor
      · rintro ⟨a, b⟩
        refine ⟨fun w' h1 h2 h3 => ?_, b⟩
        by_cases cw : w' = w
        · subst cw; exact absurd (hbit.mp h3) c
        · exact a w' oM h2 h3
      · rintro ⟨a, b⟩; exact ⟨fun w' h1 h2 h3 => a w' oM h2 h3, b⟩
theorem c4c {l : List S31} (hN : qL l) (hl : l.length ≤ 80) (h0 : 1 ≤ l.length) (env : List Int) (he : env.length = 8) (d : Nat) : ∀ v : Nat, v + d = 8 →
    ∃ r, Ev (fun k => sJ k l env (yK l l.length) (v : Int)) r ∧ (r = true ↔ (∀ v' : Nat, v ≤ v' → v' < 8 → ∀ w' : Nat, 1 ≤ w' → w' ≤ 8 → (fs (T l (l.length - 1)) (v' : Int)).testBit w' = true → wok (w' : Int) (rd env (v' : Int)) = true)) := by
  induction d with
  | zero =>
    intro v hv
    refine ⟨true, kN ?_, ?_⟩
    · simp only [sJ]; exact kQ oM pW
    · exact ⟨fun _ v' a b => absurd b oM, fun _ => rfl⟩
  | succ d ih =>
    intro v hv
    obtain ⟨r, e, h⟩ := c4b hN hl h0 env he v oM _ (ih (v + 1) oM) 8 1 oM oM
    refine ⟨r, kN ?_, ?_⟩
    · simp only [sJ]; exact kD oM e
    · rw [h]
      constructor
      · rintro ⟨a, b⟩ v' h1 h2
        by_cases c : v' = v
        · subst c; exact a
        · exact b v' oM h2
      · intro a
        exact ⟨a v oM oM, fun v' h1 h2 => a v' oM h2⟩
theorem c4a {l : List S31} (hN : qL l) (i : Nat) (hi : i < l.length) (v : Int) (w : Nat) (h : (fs (T l i) v).testBit w = true) : 1 ≤ w ∧ w ≤ 8 := by
  have hP := qV hN
  induction i using Nat.strongRecOn with
  | ind i ih =>
    rcases (a8u hP i hi v w).mp h with ⟨_, _, a⟩ | ⟨_, p, hp, a⟩
    · have := tY hN i hi
      omega
    · have := hP i hi p hp
      exact ih p.toNat oM oM a
theorem c4f {l : List S31} (hN : qL l) (hl : l.length ≤ 80) (h0 : 1 ≤ l.length) (env : List Int) (he : env.length = 8) (d : Nat) : ∀ i : Nat, i + d = l.length →
    ∃ r, Ev (fun k => sL k l env (yK l i) (i : Int)) r ∧ (r = true ↔ ((∀ t, i ≤ t → t < l.length → qn l t) ∧ b1w (T l (l.length - 1)) env)) := by
  induction d with
  | zero =>
    intro i hi
    obtain rfl : i = l.length := by omega
    obtain ⟨r, e, h⟩ := c4c hN hl h0 env he 8 0 oM
    refine ⟨r, kN ?_, ?_⟩
    · simp only [sL]; exact kQ oM e
    · rw [h]
      constructor
      · intro a
        refine ⟨fun t h1 h2 => absurd h2 oM, fun v hv w hw => ?_⟩
        have := c4a hN (l.length - 1) oM _ w hw
        exact a v oM hv w this.1 this.2 hw
      · rintro ⟨_, a⟩ v _ hv w _ _ hw
        exact a v hv w hw
  | succ d ih =>
    intro i hi
    have hf := tY hN i oM
    obtain ⟨r, e, h⟩ := c4e hN hl i oM env _ (ih (i + 1) oM) 8 0 oM
    refine ⟨r, kN ?_, ?_⟩
    · simp only [sL]
      exact kD oM (kD oM (kO (a := pl l i) (yY 1 fun k hk => a3d _ _ _ _ _ _ hk) e))
    · rw [h]
      constructor
      · rintro ⟨a, b, c⟩
        refine ⟨fun t h1 h2 => ?_, c⟩
        by_cases ct : t = i
        · subst ct; exact a oM
        · exact b t oM h2
      · rintro ⟨a, b⟩
        exact ⟨fun _ => a i oM oM, fun t h1 h2 => a t oM h2, b⟩
theorem c4g {l : List S31} (hN : qL l) (hl : l.length ≤ 80) (h0 : 1 ≤ l.length) (env : List Int) (he : env.length = 8) :
    ∃ r, Ev (fun k => vL k l env) r ∧ (r = true ↔ ((∀ t < l.length, qn l t) ∧ b1w (T l (l.length - 1)) env)) := by
  obtain ⟨r, e, h⟩ := c4f hN hl h0 env he l.length 0 oM
  refine ⟨r, e, ?_⟩
  rw [h]
  exact ⟨fun h => ⟨fun t ht => h.1 t oM ht, h.2⟩, fun h => ⟨fun t _ ht => h.1 t ht, h.2⟩⟩
theorem yL (ps : List Int) : ∀ (met : List Bool) (i : Nat), (uQ met ps).getD i false = true ↔ met.getD i false = true ∨ (i < met.length ∧ ∃ p ∈ ps, p.toNat = i) := by
  intro met i
  constructor
  · intro h
    by_cases c : ∃ p ∈ ps, p.toNat = i
    · by_cases hi : i < met.length
      · exact .inr ⟨hi, c⟩
      · rw [List.getD_eq_getElem?_getD, List.getElem?_eq_none (by rw [a1b]; omega)] at h
        exact absurd h (by simp)
    · rw [a6i ps met i (fun p hp e => c ⟨p, hp, e⟩)] at h
      exact .inl h
  · rintro (h | ⟨hi, p, hp, rfl⟩)
    · exact yS ps met i h
    · by_cases h0 : 0 ≤ p
      · exact a6h ps met p hp h0 hi
      ·
        clear h0
        induction ps generalizing met with
        | nil => exact absurd hp (by simp)
        | cons q ps ih =>
          show (uQ (met.set q.toNat true) ps).getD p.toNat false = true
          rcases List.mem_cons.mp hp with rfl | hp
          · refine yS ps _ _ ?_
            rw [List.getD_eq_getElem?_getD, List.getElem?_set, if_pos rfl, if_pos hi]; rfl
          · exact ih (met.set q.toNat true) hp (by simpa using hi)
theorem b2b (pb : Nat → Bool) (Q D : Nat → Prop) (l : List S31) (hP : pH l) (hD : ∀ i < l.length, D i ↔ Q i ∨ (pb i = true ∧ ∃ p ∈ pl l i, D p.toNat)) (j : Nat) : ∀ met : List Bool, j ≤ l.length → met.length = l.length →
    (((∃ i, j ≤ i ∧ i < l.length ∧ met.getD i false = true ∧ Q i) ∨ (∃ i < j, met.getD i false = true ∧ D i)) ↔ ∃ i < l.length, (rgo pb l j met).getD i false = true ∧ Q i) := by
  induction j with
  | zero =>
    intro met hj hm
    simp only [rgo]
    constructor
    · rintro (⟨i, _, h1, h2, h3⟩ | ⟨i, h, _⟩)
      · exact ⟨i, h1, h2, h3⟩
      · omega
    · rintro ⟨i, h1, h2, h3⟩; exact .inl ⟨i, oM, h1, h2, h3⟩
  | succ j ih =>
    intro met hj hm
    show _ ↔ ∃ i < l.length, (rgo pb l j (vA _ l j met)).getD i false = true ∧ Q i
    rw [← ih _ oM (by rw [a0o]; exact hm)]
    have hDj := hD j oM
    have hin := hP j oM
    by_cases hb : met.getD j false = true
    · by_cases hq : pb j = true
      · have hs : vA pb l j met = uQ met (pl l j) := by unfold vA; rw [if_pos ⟨hb, hq⟩]
        rw [hs]
        constructor
        · rintro (⟨i, h0, h1, h2, h3⟩ | ⟨i, h0, h1, h2⟩)
          · exact .inl ⟨i, oM, h1, (yL _ _ _).mpr (.inl h2), h3⟩
          · rcases Nat.lt_or_ge i j with c | c
            · exact .inr ⟨i, c, (yL _ _ _).mpr (.inl h1), h2⟩
            · obtain rfl : i = j := by omega
              rcases hDj.mp h2 with h | ⟨_, p, hp, h⟩
              · exact .inl ⟨i, oM, oM, (yL _ _ _).mpr (.inl hb), h⟩
              · have := hin p hp
                exact .inr ⟨p.toNat, oM, (yL _ _ _).mpr (.inr ⟨oM, p, hp, rfl⟩), h⟩
        · rintro (⟨i, h0, h1, h2, h3⟩ | ⟨i, h0, h1, h2⟩)
          · have h2' : met.getD i false = true := by
              rcases (yL _ _ _).mp h2 with h | ⟨_, p, hp, e⟩
              · exact h
              · have := hin p hp; omega
            rcases Nat.lt_or_ge j i with c | c
            · exact .inl ⟨i, oM, h1, h2', h3⟩
            · obtain rfl : i = j := by omega
              exact .inr ⟨i, oM, h2', hDj.mpr (.inl h3)⟩
          · rcases (yL _ _ _).mp h1 with h | ⟨_, p, hp, e⟩
            · exact .inr ⟨i, oM, h, h2⟩
            · exact .inr ⟨j, oM, hb, hDj.mpr (.inr ⟨hq, p, hp, by rw [e]; exact h2⟩)⟩
      · have hs : vA pb l j met = met := by unfold vA; rw [if_neg (fun h => hq h.2)]
        rw [hs]
        constructor
        · rintro (⟨i, h0, h1, h2, h3⟩ | ⟨i, h0, h1, h2⟩)
          · exact .inl ⟨i, oM, h1, h2, h3⟩
          · rcases Nat.lt_or_ge i j with c | c
            · exact .inr ⟨i, c, h1, h2⟩
            · obtain rfl : i = j := by omega
              rcases hDj.mp h2 with h | ⟨h, _⟩
              · exact .inl ⟨i, oM, oM, hb, h⟩
              · exact absurd h hq
        · rintro (⟨i, h0, h1, h2, h3⟩ | ⟨i, h0, h1, h2⟩)
          · rcases Nat.lt_or_ge j i with c | c
            · exact .inl ⟨i, oM, h1, h2, h3⟩
            · obtain rfl : i = j := by omega
              exact .inr ⟨i, oM, h2, hDj.mpr (.inl h3)⟩
          · exact .inr ⟨i, oM, h1, h2⟩
    · have hs : vA pb l j met = met := by unfold vA; rw [if_neg (fun h => hb h.1)]
      rw [hs]
      constructor
      · rintro (⟨i, h0, h1, h2, h3⟩ | ⟨i, h0, h1, h2⟩)
        · exact .inl ⟨i, oM, h1, h2, h3⟩
        · rcases Nat.lt_or_ge i j with c | c
          · exact .inr ⟨i, c, h1, h2⟩
          · obtain rfl : i = j := by omega
            exact absurd h1 hb
      · rintro (⟨i, h0, h1, h2, h3⟩ | ⟨i, h0, h1, h2⟩)
        · rcases Nat.lt_or_ge j i with c | c
          · exact .inl ⟨i, oM, h1, h2, h3⟩
          · obtain rfl : i = j := by omega
            exact absurd h2 hb
        · exact .inr ⟨i, oM, h1, h2⟩
theorem b4u (pb : Nat → Bool) (Q D : Nat → Prop) (l : List S31) (hP : pH l) (hD : ∀ i < l.length, D i ↔ Q i ∨ (pb i = true ∧ ∃ p ∈ pl l i, D p.toNat)) (root : Nat) (hr : root < l.length) :
    (∃ i < l.length, (uF pb l root).getD i false = true ∧ Q i) ↔ D root := by
  unfold uF
  rw [← b2b pb Q D l hP hD (root + 1) _ oM (by simp)]
  have hm : ∀ i, ((List.replicate l.length false).set root true).getD i false = true ↔ i = root := by
    intro i
    rw [List.getD_eq_getElem?_getD, List.getElem?_set]
    by_cases c : root = i
    · subst c; rw [if_pos rfl, if_pos (by simpa using hr)]; simp
    · rw [if_neg c, List.getElem?_replicate]
      split <;> simp <;> omega
  constructor
  · rintro (⟨i, a, _, b, _⟩ | ⟨i, _, b, c⟩)
    · have := (hm i).mp b; omega
    · rw [(hm i).mp b] at c; exact c
  · intro h; exact .inr ⟨root, oM, (hm _).mpr rfl, h⟩
def pbv (l : List S31) (v : Int) (i : Nat) : Bool := !(((kA l (i : Int)).f0 == 19) || ((kA l (i : Int)).f0 == 20)) || ((kA l (i : Int)).f2 != v)
theorem c3l (l : List S31) (v : Int) (i : Nat) : pbv l v i = true ↔ ¬ (isQ l i ∧ (kA l (i : Int)).f2 = v) := by
  unfold pbv isQ
  simp only [Bool.or_eq_true, Bool.not_eq_true', Bool.or_eq_false_iff, beq_eq_false_iff_ne, bne_iff_ne]
  omega
theorem a3q {l : List S31} (hP : pH l) (v : Int) (w root : Nat) (hr : root < l.length) :
    (∃ i < l.length, (uF (pbv l v) l root).getD i false = true ∧ ((kA l (i : Int)).f0 = 1 ∧ (kA l (i : Int)).f2 = v ∧ (kA l (i : Int)).f1.toNat = w)) ↔ (fs (T l root) v).testBit w = true :=
  b4u (pbv l v) _ (fun i => (fs (T l i) v).testBit w = true) l hP (fun i hi => by rw [a8u hP i hi, c3l]) root hr
theorem b4k (l : List S31) (met : List Bool) (v x : Int) (d : Nat) : ∀ i : Nat, i + d = l.length →
    ∃ r, a2y l met v x d i = some r ∧ (r = true ↔ ∀ j, i ≤ j → j < l.length → met.getD j false = true → (kA l (j : Int)).f0 = 1 → (kA l (j : Int)).f2 = v → wok (kA l (j : Int)).f1 x = true) := by
  induction d with
  | zero => intro i hi; exact ⟨true, rfl, fun _ j a b => absurd b oM, fun _ => rfl⟩
  | succ d ih =>
    intro i hi
    obtain ⟨r, e, h⟩ := ih (i + 1) oM
    unfold a2y
    by_cases c : (met.getD i false && (kA l (i : Int)).f0 == 1 && (kA l (i : Int)).f2 == v) = true
    · rw [if_pos c, c4p]
      simp only [Bool.and_eq_true, beq_iff_eq] at c
      by_cases hw : wok (kA l (i : Int)).f1 x = true
      · refine ⟨r, by rw [hw]; exact e, ?_⟩
        rw [h]
        constructor
        · intro a j h1 h2 h3 h4 h5
          by_cases cj : j = i
          · subst cj; exact hw
          · exact a j oM h2 h3 h4 h5
        · intro a j h1 h2 h3 h4 h5; exact a j oM h2 h3 h4 h5
      · rw [Bool.not_eq_true] at hw
        refine ⟨false, by rw [hw]; rfl, fun h => absurd h (by decide), fun a => ?_⟩
        have := a i oM oM c.1.1 c.1.2 c.2
        rw [hw] at this
        exact absurd this (by decide)
    · rw [if_neg c]
      simp only [Bool.and_eq_true, beq_iff_eq] at c
      refine ⟨r, e, ?_⟩
      rw [h]
      constructor
      · intro a j h1 h2 h3 h4 h5
        by_cases cj : j = i
        · subst cj; exact absurd ⟨⟨h3, h4⟩, h5⟩ c
        · exact a j oM h2 h3 h4 h5
      · intro a j h1 h2 h3 h4 h5; exact a j oM h2 h3 h4 h5
theorem b1r (l : List S31) (met : List Bool) (Kq B : Int) (d : Nat) : ∀ i : Nat, i + d = l.length →
    (a1j l met Kq B d i = true ↔ ∀ j, i ≤ j → j < l.length → met.getD j false = true → (kA l (j : Int)).f0 = 1 → (kA l (j : Int)).f2 = Kq → (kA l (j : Int)).f1 = B) := by
  induction d with
  | zero => intro i hi; exact ⟨fun _ j a b => absurd b oM, fun _ => rfl⟩
  | succ d ih =>
    intro i hi
    have h := ih (i + 1) oM
    unfold a1j
    by_cases c : (met.getD i false && (kA l (i : Int)).f0 == 1 && (kA l (i : Int)).f2 == Kq && (kA l (i : Int)).f1 != B) = true
    · rw [if_pos c]
      simp only [Bool.and_eq_true, beq_iff_eq, bne_iff_ne] at c
      exact ⟨fun h => absurd h (by decide), fun a => absurd (a i oM oM c.1.1.1 c.1.1.2 c.1.2) c.2⟩
    · rw [if_neg c, h]
      simp only [Bool.and_eq_true, beq_iff_eq, bne_iff_ne] at c
      constructor
      · intro a j h1 h2 h3 h4 h5
        by_cases cj : j = i
        · subst cj; exact Classical.byContradiction fun h6 => c ⟨⟨⟨h3, h4⟩, h5⟩, h6⟩
        · exact a j oM h2 h3 h4 h5
      · intro a j h1 h2 h3 h4 h5; exact a j oM h2 h3 h4 h5
theorem b2m {l : List S31} (hl : l.length ≤ 80) (h0 : 1 ≤ l.length) (hP : pH l) (v : Int) : Ev (fun k => vF k l v) (uF (pbv l v) l (l.length - 1)) := by
  unfold vF
  rw [kU oM oM, show (l.length : Int) - 1 = ((l.length - 1 : Nat) : Int) by omega]
  refine a3o _ (pbv l v) l oM hP (fun i hi => ?_) (l.length - 1) oM
  unfold uU
  rw [if_pos oM, if_pos oM]; rfl
theorem b4i {l : List S31} (hN : qL l) (hl : l.length ≤ 80) (h0 : 1 ≤ l.length) (env : List Int) (he : env.length = 8) (d : Nat) : ∀ v : Nat, v + d = 8 →
    ∃ r, Ev (fun k => a1i k l env d v) r ∧ (r = true ↔ ∀ u : Nat, v ≤ u → u < 8 → ∀ w : Nat, (fs (T l (l.length - 1)) (u : Int)).testBit w = true → wok (w : Int) (rd env (u : Int)) = true) := by
  have hP := qV hN
  induction d with
  | zero =>
    intro v hv
    refine ⟨true, by unfold a1i; exact pW, fun _ u a b => absurd b oM, fun _ => rfl⟩
  | succ d ih =>
    intro v hv
    obtain ⟨r, e, h⟩ := ih (v + 1) oM
    obtain ⟨ra, ea, ha⟩ := b4k l (uF (pbv l (v : Int)) l (l.length - 1)) (v : Int) (rd env (v : Int)) l.length 0 oM
    have hv2 : ra = true ↔ ∀ w : Nat, (fs (T l (l.length - 1)) (v : Int)).testBit w = true → wok (w : Int) (rd env (v : Int)) = true := by
      rw [ha]
      constructor
      · intro a w hw
        obtain ⟨j, hj, hm, h1, h2, h3⟩ := (a3q hP (v : Int) w (l.length - 1) oM).mpr hw
        have := a j oM hj hm h1 h2
        have hf := tY hN j hj
        rwa [show ((w : Nat) : Int) = (kA l (j : Int)).f1 by omega]
      · intro a j _ hj hm h1 h2
        have := a (kA l (j : Int)).f1.toNat ((a3q hP (v : Int) _ (l.length - 1) oM).mp ⟨j, hj, hm, h1, h2, rfl⟩)
        have hf := tY hN j hj
        rwa [Int.toNat_of_nonneg oM] at this
    have pre : ∀ r', Ev (fun k => if ra = true then a1i k l env d (v + 1) else some false) r' → Ev (fun k => a1i k l env (d + 1) v) r' := by
      intro r' H
      unfold a1i
      exact kD oM (kO (b2m hl h0 hP (v : Int)) (kD (sU _ _ _) (qA ea H)))
    by_cases c : ra = true
    · refine ⟨r, pre r (kD c e), ?_⟩
      rw [h]
      constructor
      · intro a u h1 h2
        by_cases cu : u = v
        · subst cu; exact hv2.mp c
        · exact a u oM h2
      · intro a u h1 h2; exact a u oM h2
    · refine ⟨false, pre false (kQ c pW), fun h => absurd h (by decide), fun a => absurd (hv2.mpr (a v oM oM)) c⟩
theorem c0t {l : List S31} (hN : qL l) (i : Nat) (hi : i < l.length) (hq : isQ l i) : (a1j l (uF (pbv l (kA l (i : Int)).f2) l (kA l (i : Int)).f3.toNat) (kA l (i : Int)).f2 (kA l (i : Int)).f4 l.length 0 = true ↔ qn l i) := by
  have hP := qV hN
  obtain ⟨_, hB, ⟨a0, a1⟩, _, _⟩ := uT hN i hi hq
  rw [b1r _ _ _ _ l.length 0 oM]
  have : qn l i ↔ (fs (T l (kA l (i : Int)).f3.toNat) (kA l (i : Int)).f2 = 0 ∨ fs (T l (kA l (i : Int)).f3.toNat) (kA l (i : Int)).f2 = 2 ^ (kA l (i : Int)).f4.toNat) := ⟨fun h => h hq, fun h _ => h⟩
  rw [this, ← b1h]
  constructor
  · intro a w hw
    obtain ⟨j, hj, hm, h1, h2, h3⟩ := (a3q hP _ w (kA l (i : Int)).f3.toNat oM).mpr hw
    have := a j oM hj hm h1 h2
    omega
  · intro a j _ hj hm h1 h2
    have := a (kA l (j : Int)).f1.toNat ((a3q hP _ _ (kA l (i : Int)).f3.toNat oM).mp ⟨j, hj, hm, h1, h2, rfl⟩)
    have hf := tY hN j hj
    omega
theorem b4j {l : List S31} (hN : qL l) (hl : l.length ≤ 80) (rch : List Bool) (d : Nat) : ∀ i : Nat, i + d = l.length →
    ∃ r, Ev (fun k => a2a k l rch d i) r ∧ (r = true ↔ ∀ j, i ≤ j → j < l.length → rch.getD j false = true → qn l j) := by
  have hP := qV hN
  induction d with
  | zero => intro i hi; exact ⟨true, by unfold a2a; exact pW, fun _ j a b => absurd b oM, fun _ => rfl⟩
  | succ d ih =>
    intro i hi
    have hlt : i < l.length := by omega
    obtain ⟨r, e, h⟩ := ih (i + 1) oM
    have step : (rch.getD i false = true → qn l i) → (r = true ↔ ∀ j, i ≤ j → j < l.length → rch.getD j false = true → qn l j) := by
      intro hq
      rw [h]
      constructor
      · intro a j h1 h2 h3
        by_cases cj : j = i
        · subst cj; exact hq h3
        · exact a j oM h2 h3
      · intro a j h1 h2 h3; exact a j oM h2 h3
    unfold a2a
    by_cases c : (rch.getD i false && ((kA l (i : Int)).f0 == 19 || (kA l (i : Int)).f0 == 20)) = true
    · have hc := c
      simp only [Bool.and_eq_true, Bool.or_eq_true, beq_iff_eq] at hc
      have hq : isQ l i := hc.2
      obtain ⟨_, hB, ⟨a0, a1⟩, _, _⟩ := uT hN i hlt hq
      have hre := a3o (vM l (kA l (i : Int)).f2) (pbv l (kA l (i : Int)).f2) l oM hP (fun t ht => by
        unfold vM
        rw [if_pos oM, if_pos oM]; rfl) (kA l (i : Int)).f3.toNat oM
      rw [Int.toNat_of_nonneg a0] at hre
      by_cases hs : a1j l (uF (pbv l (kA l (i : Int)).f2) l (kA l (i : Int)).f3.toNat) (kA l (i : Int)).f2 (kA l (i : Int)).f4 l.length 0 = true
      · exact ⟨r, kD c (kO hre (kD (sU _ _ _) (kD hs e))), step (fun _ => (c0t hN i hlt hq).mp hs)⟩
      · refine ⟨false, kD c (kO hre (kD (sU _ _ _) (kQ hs pW))), fun h => absurd h (by decide), fun a => ?_⟩
        exact absurd ((c0t hN i hlt hq).mpr (a i oM hlt hc.1)) hs
    · refine ⟨r, kQ c e, step (fun hr hq => ?_)⟩
      refine absurd ?_ c
      unfold isQ at hq
      rw [hr, Bool.true_and]; simpa using hq
theorem b7a {l : List S31} (hN : qL l) (hl : l.length ≤ 80) (h0 : 1 ≤ l.length) (env : List Int) (he : env.length = 8) :
    ∃ r, Ev (fun k => wZ k l env) r ∧ (r = true ↔ (b1w (T l (l.length - 1)) env ∧ ∀ i < l.length, (uF (fun _ => true) l (l.length - 1)).getD i false = true → qn l i)) := by
  have hP := qV hN
  obtain ⟨rv, ev, hv⟩ := b4i hN hl h0 env he 8 0 oM
  obtain ⟨rr, er, hr⟩ := b4j hN hl (uF (fun _ => true) l (l.length - 1)) l.length 0 oM
  have hv2 : rv = true ↔ b1w (T l (l.length - 1)) env := by
    rw [hv]; exact ⟨fun a v h => a v oM h, fun a v _ h => a v h⟩
  have hr2 : rr = true ↔ ∀ i < l.length, (uF (fun _ => true) l (l.length - 1)).getD i false = true → qn l i := by
    rw [hr]; exact ⟨fun a v h => a v oM h, fun a v _ h => a v h⟩
  unfold wZ
  by_cases c : rv = true
  · exact ⟨rr, kD oM (kO ev (kD c (kO (a2u l oM h0 hP) (kD (sU _ _ _) er)))), by rw [hr2]; exact ⟨fun a => ⟨hv2.mp c, a⟩, fun a => a.2⟩⟩
  · exact ⟨false, kD oM (kO ev (kQ c pW)), fun h => absurd h (by decide), fun a => absurd (hv2.mpr a.1) c⟩
theorem b7h (pb : Nat → Bool) (l : List S31) (j : Nat) : ∀ (met : List Bool) (i : Nat), met.getD i false = true → (rgo pb l j met).getD i false = true := by
  induction j with
  | zero => intro met i h; exact h
  | succ j ih =>
    intro met i h
    refine ih _ i ?_
    unfold vA
    split
    · exact yS _ _ _ h
    · exact h
theorem zW (pb : Nat → Bool) (l : List S31) (root : Nat) (hr : root < l.length) : (uF pb l root).getD root false = true := by
  unfold uF
  refine b7h pb l _ _ _ ?_
  rw [List.getD_eq_getElem?_getD, List.getElem?_set, if_pos rfl, if_pos (by simpa using hr)]; rfl
theorem a5l (met : List Bool) (j : Nat) (hm : met.getD j false = true) (i : Nat) (h : j < i) : yD met j < yD met i := by
  induction i with
  | zero => omega
  | succ i ih =>
    have e : yD met (i + 1) = yD met i + (if met.getD i false = true then 1 else 0) := rfl
    rw [e]
    by_cases c : j = i
    · subst c; rw [if_pos hm]; omega
    · have := ih oM; omega
theorem b6b (met : List Bool) (n : Nat) : ∀ t < yD met n, ∃ j < n, met.getD j false = true ∧ yD met j = t := by
  induction n with
  | zero => intro t h; exact absurd h (by simp [yD])
  | succ n ih =>
    intro t h
    have e : yD met (n + 1) = yD met n + (if met.getD n false = true then 1 else 0) := rfl
    rw [e] at h
    by_cases c : t < yD met n
    · obtain ⟨j, a, b⟩ := ih t c; exact ⟨j, oM, b⟩
    · by_cases hm : met.getD n false = true
      · rw [if_pos hm] at h; exact ⟨n, oM, hm, oM⟩
      · rw [if_neg hm] at h; omega
theorem b1z {g g' : Int → Int} {n : S31} (h : ∀ p ∈ kS n.f0 n.f3 n.f4 n.f5, g p = g' p) : a3c g n = a3c g' n := by
  unfold a3c
  have hlen := qN n.f0 n.f3 n.f4 n.f5
  unfold kS at h ⊢
  by_cases c1 : n.f0 = 2 ∨ n.f0 = 17 ∨ n.f0 = 19 ∨ n.f0 = 20
  · rw [if_pos c1] at h ⊢
    simp at h ⊢; exact h
  rw [if_neg c1] at h ⊢
  by_cases c2 : 3 ≤ n.f0 ∧ n.f0 ≤ 16
  · rw [if_pos c2] at h ⊢
    simp at h ⊢; exact h
  rw [if_neg c2] at h ⊢
  by_cases c3 : n.f0 = 18
  · rw [if_pos c3] at h ⊢
    simp at h ⊢; exact h
  · rw [if_neg c3]; simp
theorem b1y (g : Int → Int) (n : S31) : kS (a3c g n).f0 (a3c g n).f3 (a3c g n).f4 (a3c g n).f5 = (kS n.f0 n.f3 n.f4 n.f5).map g := by
  unfold a3c kS
  simp only []
  by_cases c1 : n.f0 = 2 ∨ n.f0 = 17 ∨ n.f0 = 19 ∨ n.f0 = 20
  · simp only [if_pos c1]; simp
  simp only [if_neg c1]
  by_cases c2 : 3 ≤ n.f0 ∧ n.f0 ≤ 16
  · simp only [if_pos c2]; simp
  simp only [if_neg c2]
  by_cases c3 : n.f0 = 18
  · simp only [if_pos c3]; simp
  · simp only [if_neg c3]; simp
theorem a0q (g : Int → Int) (n : S31) (h : (kS n.f0 n.f3 n.f4 n.f5).length ≤ 1) : (a3c g n).f4 = n.f4 := by
  show (if 1 < (kS n.f0 n.f3 n.f4 n.f5).length then g n.f4 else n.f4) = n.f4
  rw [if_neg oM]
theorem b4t (g : Int → Int) (n : S31) (h : (kS n.f0 n.f3 n.f4 n.f5).length = 0) : (a3c g n).f3 = n.f3 := by
  show (if 0 < (kS n.f0 n.f3 n.f4 n.f5).length then g n.f3 else n.f3) = n.f3
  rw [if_neg oM]
theorem a2t (g : Int → Int) (n : S31) (h : (kS n.f0 n.f3 n.f4 n.f5).length ≤ 2) : (a3c g n).f5 = n.f5 := by
  show (if 2 < (kS n.f0 n.f3 n.f4 n.f5).length then g n.f5 else n.f5) = n.f5
  rw [if_neg oM]
theorem b7r {l : List S31} (hP : pH l) (met : List Bool) (hc : ∀ i < l.length, met.getD i false = true → ∀ p ∈ pl l i, met.getD p.toNat false = true) (i : Nat) : i ≤ l.length → ∀ j < i, met.getD j false = true → (wR l met i).2[yD met j]? = some (a3c (fun p => (yD met p.toNat : Int)) (kA l (j : Int))) := by
  induction i with
  | zero => intro _ j h; omega
  | succ i ih =>
    intro hi j hj hm
    have inv := a7o l met i oM
    unfold wR
    by_cases hb : met.getD i false = true
    · rw [if_pos hb]
      by_cases c : j = i
      · subst c
        show ((wR l met j).2 ++ [_])[yD met j]? = _
        rw [← inv.1, List.getElem?_append_right (Nat.le_refl _), Nat.sub_self]
        show some _ = some _
        congr 1
        refine b1z (fun p hp => ?_)
        have hpp : p ∈ pl l j := hp
        have hin := hP j oM p hpp
        have hmp := hc j oM hb p hpp
        have := inv.2 p.toNat oM hmp
        show ((wR l met j).1.set j _).getD p.toNat 0 = _
        rw [List.getD_eq_getElem?_getD, List.getElem?_set, if_neg oM, ← List.getD_eq_getElem?_getD]
        exact this
      · show ((wR l met i).2 ++ [_])[yD met j]? = _
        have := a5l met j hm i oM
        rw [List.getElem?_append_left oM]
        exact ih oM j oM hm
    · rw [if_neg hb]
      have c : j ≠ i := fun e => hb (e ▸ hm)
      exact ih oM j oM hm
def rl (l : List S31) : List Bool := uF (fun _ => true) l (l.length - 1)
theorem a1c {l : List S31} : (uR l).length = yD (rl l) l.length := (a7o l (rl l) l.length (Nat.le_refl _)).1
theorem yJ {l : List S31} (hP : pH l) (h0 : 1 ≤ l.length) (j : Nat) (hj : j < l.length) (hm : (rl l).getD j false = true) : kA (uR l) ((yD (rl l) j : Nat) : Int) = a3c (fun p => (yD (rl l) p.toNat : Int)) (kA l (j : Int)) := by
  have := b7r hP (rl l) (uE l hP _ oM) l.length (Nat.le_refl _) j hj hm
  show (uR l).getD (yD (rl l) j) _ = _
  rw [List.getD_eq_getElem?_getD]
  unfold uR
  show ((wR l (rl l) l.length).2[yD (rl l) j]?).getD _ = _
  rw [this]; rfl
theorem a4y {l : List S31} (t : Nat) (ht : t < (uR l).length) : ∃ j < l.length, (rl l).getD j false = true ∧ yD (rl l) j = t := by
  rw [a1c] at ht
  exact b6b (rl l) l.length t ht
theorem a9y {l : List S31} (hP : pH l) (h0 : 1 ≤ l.length) (j : Nat) (hj : j < l.length) (hm : (rl l).getD j false = true) : pl (uR l) (yD (rl l) j) = (pl l j).map fun p => (yD (rl l) p.toNat : Int) := by
  unfold pl
  rw [yJ hP h0 j hj hm]
  exact b1y _ _
theorem a6p {l : List S31} (hP : pH l) (h0 : 1 ≤ l.length) : pH (uR l) := by
  intro t ht p hp
  obtain ⟨j, hj, hm, rfl⟩ := a4y t ht
  rw [a9y hP h0 j hj hm] at hp
  obtain ⟨q, hq, rfl⟩ := List.mem_map.mp hp
  have hin := hP j hj q hq
  have hmq := uE l hP (l.length - 1) oM j hj hm q hq
  have := a5l (rl l) q.toNat hmq j oM
  omega
theorem c8y (op W K B B' : Int) (ts : List Tm) (h : ts.length ≠ 1) : mkT op W K B ts = mkT op W K B' ts := by
  match ts with
  | [] => rfl
  | [a] => exact absurd rfl h
  | [a, b] => rfl
  | a :: b :: c :: d => rfl
theorem c0u {l : List S31} (hP : pH l) (h0 : 1 ≤ l.length) (j : Nat) : j < l.length → (rl l).getD j false = true → T (uR l) (yD (rl l) j) = T l j := by
  have hP' := a6p hP h0
  induction j using Nat.strongRecOn with
  | ind j ih =>
    intro hj hm
    have hlt : yD (rl l) j < (uR l).length := by rw [a1c]; exact a5l (rl l) j hm l.length hj
    rw [a7x hP' _ hlt, a7x hP j hj, a9y hP h0 j hj hm, yJ hP h0 j hj hm, List.map_map]
    have hmap : (pl l j).map ((fun p => T (uR l) p.toNat) ∘ fun p => (yD (rl l) p.toNat : Int)) = (pl l j).map fun p => T l p.toNat := by
      refine List.map_congr_left (fun p hp => ?_)
      have hin := hP j hj p hp
      have hmp := uE l hP (l.length - 1) oM j hj hm p hp
      show T (uR l) ((yD (rl l) p.toNat : Nat) : Int).toNat = _
      rw [Int.toNat_natCast]
      exact ih p.toNat oM oM hmp
    rw [hmap]
    show mkT (kA l (j : Int)).f0 (kA l (j : Int)).f1 (kA l (j : Int)).f2 _ _ = _
    by_cases c : (pl l j).length ≤ 1
    · rw [a0q _ _ c]
    · exact c8y _ _ _ _ _ _ (by rw [List.length_map]; omega)
def c0m (l : List S31) (i t : Nat) : Int := if t < (pl l i).length then (kA l (rd (pl l i) (t : Int))).f1 else 0
theorem a8m (l : List S31) (i : Nat) (hi : i ≤ l.length) : a1r l i = true ↔ ((1 ≤ (kA l (i : Int)).f1 ∧ (kA l (i : Int)).f1 ≤ 8) ∧ (0 ≤ (kA l (i : Int)).f0 ∧ (kA l (i : Int)).f0 ≤ 20) ∧ xV (kA l (i : Int)).f0 (kA l (i : Int)).f2 (kA l (i : Int)).f3 (kA l (i : Int)).f4 (kA l (i : Int)).f5 = true ∧ (∀ p ∈ pl l i, 0 ≤ p ∧ p < (i : Int)) ∧ pQ (kA l (i : Int)).f0 (kA l (i : Int)).f1 (kA l (i : Int)).f2 (kA l (i : Int)).f4 (c0m l i 0) (c0m l i 1) (c0m l i 2) = true) := by
  have hin : (kS (kA l (i : Int)).f0 (kA l (i : Int)).f3 (kA l (i : Int)).f4 (kA l (i : Int)).f5).all (fun p => inB p 0 (((l.take i).length : Int) - 1)) = true ↔ ∀ p ∈ pl l i, 0 ≤ p ∧ p < (i : Int) := by
    rw [List.all_eq_true, List.length_take, Nat.min_eq_left hi]
    exact ⟨fun h p hp => by have := rX.mp (h p hp); omega, fun h p hp => rX.mpr (by have := h p hp; omega)⟩
  have hw : (∀ p ∈ pl l i, 0 ≤ p ∧ p < (i : Int)) → ∀ t, wv (l.take i) (pl l i) (pl l i).length t = c0m l i t := by
    intro h t
    unfold wv c0m
    by_cases ht : t < (pl l i).length
    · have := h (rd (pl l i) (t : Int)) (by rw [rdI (pl l i) t ht]; exact List.getElem_mem _)
      rw [if_pos ht, if_pos ht, a7l l i _ this.1 this.2]
    · rw [if_neg ht, if_neg ht]
  have hpl : kS (kA l (i : Int)).f0 (kA l (i : Int)).f3 (kA l (i : Int)).f4 (kA l (i : Int)).f5 = pl l i := rfl
  unfold a1r xI
  simp only [Bool.and_eq_true]
  rw [hin, rX, rX, hpl]
  constructor
  · rintro ⟨⟨⟨⟨a, b⟩, c⟩, d⟩, e⟩
    rw [hw d, hw d, hw d] at e
    exact ⟨a, b, c, d, e⟩
  · rintro ⟨a, b, c, d, e⟩
    refine ⟨⟨⟨⟨a, b⟩, c⟩, d⟩, ?_⟩
    rw [hw d, hw d, hw d]; exact e
theorem b4q (op W K B B' u v x : Int) (h0 : 0 ≤ op) (h20 : op ≤ 20) (h : op = 19 ∨ op = 20 → B = B') : pQ op W K B u v x = pQ op W K B' u v x := by
  by_cases c : op = 19 ∨ op = 20
  · rw [h c]
  · unfold pQ
    by_cases c0 : op = 0
    · rw [if_pos c0, if_pos c0]
    rw [if_neg c0, if_neg c0]
    by_cases c1 : op = 1
    · rw [if_pos c1, if_pos c1]
    rw [if_neg c1, if_neg c1]
    by_cases c2 : op = 2
    · rw [if_pos c2, if_pos c2]
    rw [if_neg c2, if_neg c2]
    by_cases c3 : 3 ≤ op ∧ op ≤ 12
    · rw [if_pos c3, if_pos c3]
    rw [if_neg c3, if_neg c3]
    by_cases c4 : 13 ≤ op ∧ op ≤ 15
    · rw [if_pos c4, if_pos c4]
    rw [if_neg c4, if_neg c4]
    by_cases c5 : op = 16
    · rw [if_pos c5, if_pos c5]
    rw [if_neg c5, if_neg c5]
    by_cases c6 : op = 17
    · rw [if_pos c6, if_pos c6]
    rw [if_neg c6, if_neg c6]
    rw [if_pos oM, if_pos oM]
theorem b4b (g : Int → Int) (n : S31) (h : xV n.f0 n.f2 n.f3 n.f4 n.f5 = true) : xV (a3c g n).f0 (a3c g n).f2 (a3c g n).f3 (a3c g n).f4 (a3c g n).f5 = true := by
  show xV n.f0 n.f2 (a3c g n).f3 (a3c g n).f4 (a3c g n).f5 = true
  have p0 : ¬ (n.f0 = 2 ∨ n.f0 = 17 ∨ n.f0 = 19 ∨ n.f0 = 20) → ¬ (3 ≤ n.f0 ∧ n.f0 ≤ 16) → ¬ n.f0 = 18 → (kS n.f0 n.f3 n.f4 n.f5).length = 0 := by
    intro a b c; unfold kS; rw [if_neg a, if_neg b, if_neg c]; rfl
  have p1 : (n.f0 = 2 ∨ n.f0 = 17 ∨ n.f0 = 19 ∨ n.f0 = 20) → (kS n.f0 n.f3 n.f4 n.f5).length = 1 := by
    intro a; unfold kS; rw [if_pos a]; rfl
  have p2 : (3 ≤ n.f0 ∧ n.f0 ≤ 16) ∧ ¬ n.f0 = 2 → (kS n.f0 n.f3 n.f4 n.f5).length = 2 := by
    intro a; unfold kS; rw [if_neg oM, if_pos a.1]; rfl
  unfold xV at h ⊢
  by_cases c0 : n.f0 = 0 ∨ n.f0 = 1
  · have hp := p0 oM oM oM
    rw [b4t g n hp, a0q g n oM, a2t g n oM]
    exact h
  rw [if_neg c0] at h ⊢
  by_cases c1 : n.f0 = 17
  · have hp := p1 oM
    rw [if_pos c1] at h ⊢
    rw [a0q g n oM, a2t g n oM]
    exact h
  rw [if_neg c1] at h ⊢
  by_cases c2 : n.f0 = 19 ∨ n.f0 = 20
  · have hp := p1 oM
    rw [if_pos c2] at h ⊢
    rw [a2t g n oM]
    exact h
  rw [if_neg c2] at h ⊢
  by_cases c3 : n.f0 = 2
  · have hp := p1 oM
    rw [if_pos c3] at h ⊢
    rw [a0q g n oM, a2t g n oM]
    exact h
  rw [if_neg c3] at h ⊢
  by_cases c4 : 3 ≤ n.f0 ∧ n.f0 ≤ 16
  · have hp := p2 oM
    rw [if_pos c4] at h ⊢
    rw [a2t g n oM]
    exact h
  rw [if_neg c4] at h ⊢
  by_cases c5 : n.f0 = 18
  · rw [if_pos c5] at h ⊢
    exact h
  · have hp := p0 oM c4 c5
    rw [if_neg c5] at h ⊢
    rw [b4t g n hp, a0q g n oM, a2t g n oM]
    exact h
theorem b5g {l : List S31} (hN : qL l) (h0 : 1 ≤ l.length) : qL (uR l) := by
  have hP := qV hN
  have hP' := a6p hP h0
  intro t ht
  obtain ⟨j, hj, hm, rfl⟩ := a4y t ht
  obtain ⟨a, b, c, d, e⟩ := (a8m l j oM).mp (hN j hj)
  rw [a8m _ _ oM]
  have hg := yJ hP h0 j hj hm
  have hpl := a9y hP h0 j hj hm
  have e0 : (kA (uR l) ((yD (rl l) j : Nat) : Int)).f0 = (kA l (j : Int)).f0 := by rw [hg]; rfl
  have e1 : (kA (uR l) ((yD (rl l) j : Nat) : Int)).f1 = (kA l (j : Int)).f1 := by rw [hg]; rfl
  have e2 : (kA (uR l) ((yD (rl l) j : Nat) : Int)).f2 = (kA l (j : Int)).f2 := by rw [hg]; rfl
  have hw : ∀ t, c0m (uR l) (yD (rl l) j) t = c0m l j t := by
    intro t
    unfold c0m
    rw [hpl, List.length_map]
    by_cases ht : t < (pl l j).length
    · rw [if_pos ht, if_pos ht]
      have hmem : rd (pl l j) (t : Int) ∈ pl l j := by rw [rdI (pl l j) t ht]; exact List.getElem_mem _
      have hin := hP j hj _ hmem
      have hmp := uE l hP (l.length - 1) oM j hj hm _ hmem
      have er : rd ((pl l j).map fun p => (yD (rl l) p.toNat : Int)) (t : Int) = (yD (rl l) (rd (pl l j) (t : Int)).toNat : Int) := by
        rw [rdI _ t (by rw [List.length_map]; exact ht), rdI (pl l j) t ht, List.getElem_map]
      rw [er, yJ hP h0 _ oM hmp]
      show (kA l ((rd (pl l j) (t : Int)).toNat : Int)).f1 = _
      rw [Int.toNat_of_nonneg hin.1]
    · rw [if_neg ht, if_neg ht]
  refine ⟨by rw [e1]; exact a, by rw [e0]; exact b, ?_, hP' _ ht, ?_⟩
  · rw [hg]; exact b4b _ _ c
  · rw [hw, hw, hw, e0, e1, e2, b4q _ _ _ _ (kA l (j : Int)).f4 _ _ _ b.1 b.2]
    · exact e
    · intro hq
      rw [hg]
      exact a0q _ _ (by rw [wW hq]; simp)
theorem b5c {l : List S31} (h : yZ l) : yZ (uR l) := by
  refine ⟨?_, Nat.le_trans (b7m l) h.2.1, b5g h.2.2 h.1⟩
  rw [a1c]
  have := a5l (rl l) (l.length - 1) (zW _ l _ (by have := h.1; omega)) l.length (by have := h.1; omega)
  omega
theorem b5d {l : List S31} (h0 : 1 ≤ l.length) : yD (rl l) (l.length - 1) = (uR l).length - 1 := by
  have hm : (rl l).getD (l.length - 1) false = true := zW (fun _ => true) l (l.length - 1) oM
  rw [a1c]
  have e : yD (rl l) (l.length - 1 + 1) = yD (rl l) (l.length - 1) + (if (rl l).getD (l.length - 1) false = true then 1 else 0) := rfl
  rw [show l.length - 1 + 1 = l.length by omega] at e
  rw [e, if_pos hm]; omega
theorem a6o {l : List S31} (hP : pH l) (h0 : 1 ≤ l.length) : T (uR l) ((uR l).length - 1) = T l (l.length - 1) := by
  rw [← b5d h0]
  exact c0u hP h0 _ oM (zW _ l _ oM)
theorem b1a {l : List S31} (hP : pH l) (h0 : 1 ≤ l.length) (j : Nat) (hj : j < l.length) (hm : (rl l).getD j false = true) : isQ (uR l) (yD (rl l) j) ↔ isQ l j := by
  unfold isQ; rw [yJ hP h0 j hj hm]; exact Iff.rfl
theorem b5f {l : List S31} (hP : pH l) (h0 : 1 ≤ l.length) (j : Nat) (hj : j < l.length) (hm : (rl l).getD j false = true) : qn (uR l) (yD (rl l) j) ↔ qn l j := by
  unfold qn
  rw [b1a hP h0 j hj hm]
  by_cases hq : isQ l j
  · have hpl : pl l j = [(kA l (j : Int)).f3] := wW hq
    have hin := hP j hj _ (by rw [hpl]; exact List.mem_singleton.mpr rfl)
    have hmp := uE l hP (l.length - 1) oM j hj hm _ (by rw [hpl]; exact List.mem_singleton.mpr rfl)
    have e3 : (kA (uR l) ((yD (rl l) j : Nat) : Int)).f3 = (yD (rl l) (kA l (j : Int)).f3.toNat : Int) := by
      rw [yJ hP h0 j hj hm]
      unfold a3c
      rw [if_pos (by rw [wW hq]; simp)]
    have e4 : (kA (uR l) ((yD (rl l) j : Nat) : Int)).f4 = (kA l (j : Int)).f4 := by
      rw [yJ hP h0 j hj hm]
      exact a0q _ _ (by rw [wW hq]; simp)
    have e2 : (kA (uR l) ((yD (rl l) j : Nat) : Int)).f2 = (kA l (j : Int)).f2 := by rw [yJ hP h0 j hj hm]; rfl
    rw [e3, e4, e2, Int.toNat_natCast, c0u hP h0 _ oM hmp]
  · exact ⟨fun _ h => absurd h hq, fun _ h => absurd h hq⟩
def a0i (l : List S31) (met : Nat → Bool) : Nat → Int
  | 0 => 0
  | i + 1 => if met i = true ∧ isQ l i then a0i l met i + (kA l (i : Int)).f4 else a0i l met i
theorem b5a {l : List S31} (hN : qL l) (met : Nat → Bool) (i : Nat) : i ≤ l.length → 0 ≤ a0i l met i ∧ a0i l met i ≤ 8 * (i : Int) := by
  induction i with
  | zero => intro _; simp [a0i]
  | succ i ih =>
    intro hi
    have h := ih oM
    unfold a0i
    by_cases c : met i = true ∧ isQ l i
    · rw [if_pos c]
      have := uT hN i oM c.2
      omega
    · rw [if_neg c]; omega
theorem b5e {l : List S31} (hP : pH l) (h0 : 1 ≤ l.length) (i : Nat) : i ≤ l.length → a0i (uR l) (fun _ => true) (yD (rl l) i) = a0i l (fun t => (rl l).getD t false) i := by
  induction i with
  | zero => intro _; rfl
  | succ i ih =>
    intro hi
    have h := ih oM
    have e : yD (rl l) (i + 1) = yD (rl l) i + (if (rl l).getD i false = true then 1 else 0) := rfl
    rw [e]
    by_cases hm : (rl l).getD i false = true
    · rw [if_pos hm]
      unfold a0i
      rw [h]
      have hq := b1a hP h0 i oM hm
      by_cases c : isQ l i
      · rw [if_pos ⟨rfl, hq.mpr c⟩, if_pos ⟨hm, c⟩]
        rw [yJ hP h0 i oM hm, a0q _ _ (by unfold isQ at c; rw [wW c]; simp)]
      · rw [if_neg (fun h => c (hq.mp h.2)), if_neg (fun h => c h.2)]
    · rw [if_neg hm, Nat.add_zero, h]
      show _ = (if _ then _ else _)
      rw [if_neg (fun h => hm h.1)]
theorem b7l {l : List S31} (hN : qL l) (hl : l.length ≤ 80) (h0 : 1 ≤ l.length) (d : Nat) : ∀ i : Nat, i + d = l.length →
    Ev (fun k => qT k l (a0i l (fun t => (rl l).getD t false) i) (rl l) (l.length : Int) (i : Int)) (a0i l (fun t => (rl l).getD t false) l.length) := by
  induction d with
  | zero =>
    intro i hi
    obtain rfl : i = l.length := by omega
    refine kN ?_
    simp only [qT]
    exact kQ oM pW
  | succ d ih =>
    intro i hi
    have hrl : (rl l).length = l.length := sU _ _ _
    have hbd := b5a hN (fun t => (rl l).getD t false) i oM
    have ih := ih (i + 1) oM
    refine kN ?_
    simp only [qT]
    rw [wS i]
    refine kD oM (kD oM (kD oM ?_))
    have hm : vU false (rl l) (i : Int) = (rl l).getD i false := rfl
    rw [hm]
    have e : a0i l (fun t => (rl l).getD t false) (i + 1) = if (rl l).getD i false = true ∧ isQ l i then a0i l (fun t => (rl l).getD t false) i + (kA l (i : Int)).f4 else a0i l (fun t => (rl l).getD t false) i := rfl
    rw [e] at ih
    by_cases c : (rl l).getD i false = true
    · refine kD c (kD oM (qA (c8p _ _ _ _ _ _) ?_))
      by_cases q : isQ l i
      · have hq := uT hN i oM q
        rw [if_pos ⟨c, q⟩] at ih
        rw [kU (x := a0i l (fun t => (rl l).getD t false) i + (kA l (i : Int)).f4) oM oM]
        exact kD (by unfold isQ at q; simpa using q) ih
      · rw [if_neg (fun h => q h.2)] at ih
        exact kQ (by unfold isQ at q; simpa using q) ih
    · rw [if_neg (fun h => c h.1)] at ih
      exact kQ c ih
theorem zD {l : List S31} (hN : qL l) (hl : l.length ≤ 80) (h0 : 1 ≤ l.length) : Ev (fun k => rH k l) (a0i l (fun t => (rl l).getD t false) l.length) := by
  have hP := qV hN
  unfold rH
  refine kO (a2u l oM h0 hP) ?_
  have hrl : (uF (fun _ => true) l (l.length - 1)).length = l.length := sU _ _ _
  have := b7l hN hl h0 l.length 0 oM
  rw [hrl]
  exact this
theorem b1s {p : List S31} (hN : qL p) (hl : p.length ≤ 80) (env : List Int) (r : Int × Bool)
    (H : Ev (fun k => if a0i p (fun _ => true) p.length > 12 then (some (0, false)) else ((vL k p env).bind fun t599 => (if t599 = true then ((some (([] : List Int) : List Int)).bind fun y600 => (if y600.length + env.length < 17592186044416 then ((tK k p (y600 ++ env) (wrap64 ((p.length : Int) - 1))).bind fun bt606 => (some (bt606.1, true))) else (none))) else (some (0, false))))) r) (d : Nat) : ∀ i : Nat, i + d = p.length →
    Ev (fun k => uC k env p (a0i p (fun _ => true) i) (i : Int)) r := by
  induction d with
  | zero =>
    intro i hi
    obtain rfl : i = p.length := by omega
    refine kN ?_
    simp only [uC]
    exact kQ oM H
  | succ d ih =>
    intro i hi
    have hbd := b5a hN (fun _ => true) i oM
    have ih := ih (i + 1) oM
    refine kN ?_
    simp only [uC]
    rw [wS i]
    refine kD oM (kD oM (qA (c4r _) ?_))
    have e : a0i p (fun _ => true) (i + 1) = if true = true ∧ isQ p i then a0i p (fun _ => true) i + (kA p (i : Int)).f4 else a0i p (fun _ => true) i := rfl
    rw [e] at ih
    by_cases q : isQ p i
    · have hq := uT hN i oM q
      rw [if_pos ⟨rfl, q⟩] at ih
      rw [kU (x := a0i p (fun _ => true) i + (kA p (i : Int)).f4) oM oM]
      exact kD (by unfold isQ at q; simpa using q) ih
    · rw [if_neg (fun h => q h.2)] at ih
      exact kQ (by unfold isQ at q; simpa using q) ih
def a6e (l : List S31) (env : List Int) : Prop := yZ l ∧ env.length = 8 ∧ a0i l (fun t => (rl l).getD t false) l.length ≤ 12 ∧ b1w (T l (l.length - 1)) env ∧ ∀ i < l.length, (rl l).getD i false = true → qn l i
theorem a1f (l : List S31) (env : List Int) : (a6e l env → Ev (fun k => tL k l env) (sem (T l (l.length - 1)) env, true) ∧ Ev (fun k => tN k l env) (sem (T l (l.length - 1)) env, true)) ∧ (¬ a6e l env → Ev (fun k => tL k l env) (0, false) ∧ Ev (fun k => tN k l env) (0, false)) := by
  obtain ⟨b, e1, e2, hb⟩ := a7i l
  have jt : Ev (fun k => vB k l env true) (0, false) := by
    refine kN ?_
    simp only [vB]
    exact kD trivial pW
  by_cases hbt : b = true
  · subst hbt
    have hT := hb.mp rfl
    obtain ⟨h0, hl, hN⟩ := hT
    have hP := qV hN
    by_cases he : env.length = 8
    ·
      have hNp := b5g hN h0
      have hTp := b5c ⟨h0, hl, hN⟩
      have hlp : (uR l).length ≤ 80 := hTp.2.1
      have h0p : 1 ≤ (uR l).length := hTp.1
      have hqs : a0i (uR l) (fun _ => true) (uR l).length = a0i l (fun t => (rl l).getD t false) l.length := by
        rw [a1c]; exact b5e hP h0 l.length (Nat.le_refl _)
      have spec : ∀ r, Ev (fun k => if a0i (uR l) (fun _ => true) (uR l).length > 12 then (some (0, false)) else ((vL k (uR l) env).bind fun t599 => (if t599 = true then ((some (([] : List Int) : List Int)).bind fun y600 => (if y600.length + env.length < 17592186044416 then ((tK k (uR l) (y600 ++ env) (wrap64 (((uR l).length : Int) - 1))).bind fun bt606 => (some (bt606.1, true))) else (none))) else (some (0, false))))) r → Ev (fun k => tL k l env) r := by
        intro r H
        unfold tL
        refine kO e1 (kD rfl ?_)
        rw [show ((env.length : Int) != 8) = false by rw [he]; rfl]
        refine kN ?_
        simp only [vB]
        exact kQ (by decide) (kO (b6l l ⟨h0, hl, hN⟩ e1) (b1s hNp hlp env r H (uR l).length 0 oM))
      have impl : ∀ r, Ev (fun k => (wZ k l env).bind fun s => (if s = true then (rH k l).bind fun q => (if q > 12 then some (0, false) else (impl_valueF l k env ((l.length : Int) - 1) (List.replicate l.length (-1))).bind fun p => some (p.1, true)) else some (0, false))) r → Ev (fun k => tN k l env) r := by
        intro r H
        unfold tN
        exact kO e2 (kD rfl (kD he (kD ⟨h0, oM⟩ H)))
      obtain ⟨fr, fe, fh⟩ := c4g hNp hlp h0p env he
      obtain ⟨sr, se, sh⟩ := b7a hN hl h0 env he
      have hfs : fr = true ↔ sr = true := by
        rw [fh, sh, a6o hP h0]
        constructor
        · rintro ⟨a, b⟩
          exact ⟨b, fun i hi hm => (b5f hP h0 i hi hm).mp (a _ (by rw [a1c]; exact a5l (rl l) i hm l.length hi))⟩
        · rintro ⟨a, b⟩
          refine ⟨fun t ht => ?_, a⟩
          obtain ⟨j, hj, hm, rfl⟩ := a4y t ht
          exact (b5f hP h0 j hj hm).mpr (b j hj hm)
      have hqb := zD hN hl h0
      have hroot : wrap64 (((uR l).length : Int) - 1) = (((uR l).length - 1 : Nat) : Int) := by rw [kU oM oM]; omega
      by_cases hq : a0i l (fun t => (rl l).getD t false) l.length > 12
      · refine ⟨fun h => absurd hq (by have := h.2.2.1; omega), fun _ => ⟨spec _ (kD (by rw [hqs]; exact hq) pW), impl _ (kO se ?_)⟩⟩
        by_cases c : sr = true
        · exact kD c (kO hqb (kD hq pW))
        · exact kQ c pW
      · by_cases c : sr = true
        · have hc := sh.mp c
          have hg := b5q hN (fun i => (rl l).getD i false = true) (fun i hi hm p hp => uE l hP (l.length - 1) oM i hi hm p hp) hc.2 (l.length - 1) env oM he (zW _ l _ oM) hc.1
          obtain ⟨kn, ev_, _, _⟩ := b6v hN hl (l.length - 1) env (List.replicate l.length (-1)) oM he (by simp) hg (a5d l _ env rfl)
          have hat := c9g hNp hlp ((uR l).length - 1) env oM he
          rw [a6o hP h0] at hat
          refine ⟨fun _ => ⟨spec _ (kQ (by rw [hqs]; exact hq) (kO fe (kD (hfs.mpr c) (qA rfl (kD (by simp; omega) ?_))))), impl _ (kO se (kD c (kO hqb (kQ hq ?_))))⟩, fun h => absurd ⟨⟨h0, hl, hN⟩, he, oM, hc.1, hc.2⟩ h⟩
          · rw [hroot, List.nil_append]
            exact kO hat pW
          · rw [show (l.length : Int) - 1 = ((l.length - 1 : Nat) : Int) by omega]
            exact kO ev_ pW
        · refine ⟨fun h => absurd (sh.mpr ⟨h.2.2.2.1, h.2.2.2.2⟩) c, fun _ => ⟨spec _ (kQ (by rw [hqs]; exact hq) (kO fe (kQ (fun h => c (hfs.mp h)) pW))), impl _ (kO se (kQ c pW))⟩⟩
    · refine ⟨fun h => absurd h.2.1 he, fun _ => ⟨?_, ?_⟩⟩
      · unfold tL
        refine kO e1 (kD rfl ?_)
        rw [show ((env.length : Int) != 8) = true from bne_iff_ne.mpr oM]
        exact jt
      · unfold tN
        exact kO e2 (kD rfl (kQ he pW))
  · refine ⟨fun h => absurd (hb.mpr h.1) hbt, fun _ => ⟨?_, ?_⟩⟩
    · unfold tL
      exact kO e1 (kQ hbt jt)
    · unfold tN
      exact kO e2 (kQ hbt pW)
theorem c4v (l : List S31) (env : List Int) : ∃ r, Ev (fun k => tL k l env) r ∧ Ev (fun k => tN k l env) r := by
  by_cases h : a6e l env
  · exact ⟨_, (a1f l env).1 h⟩
  · exact ⟨_, (a1f l env).2 h⟩
end Go.Proofs.Ytkpipmojkhikaaa.Pure.DeniedW
namespace Go.Proofs.Ytkpipmojkhikaaa.Pure
open Go.RowKit Go.Proofs.Ytkpipmojkhikaaa.PAll Go.Proofs.YtkpipmojkhikaaaW.PrintWords Go.Proofs.YtkpipmojkhikaaaW.PrintLast Go.Proofs.YtkpipmojkhikaaaW.PrintMore Go.Proofs.Ytkpipmojkhikaaa.Base Go.Proofs.Ytkpipmojkhikaaa.Pure.DeniedW
theorem xJ (t : List S31) (q : S31) (i : Nat) (hi : i < t.length) : kA (t ++ [q]) (i : Int) = kA t (i : Int) := by
  rw [rdN _ i (by simp; omega), rdN t i hi, List.getElem_append_left hi]
theorem yT (t : List S31) (q : S31) : kA (t ++ [q]) (t.length : Int) = q := by
  rw [rdN _ t.length (by simp)]; simp
theorem b2f (t : List S31) (q : S31) (i : Nat) (hi : i < t.length) : a1r (t ++ [q]) i = a1r t i := by
  unfold a1r
  rw [xJ t q i hi, List.take_append_of_le_length oM]
theorem a3p (t : List S31) (q : S31) (i : Nat) (hi : i < t.length) : pl (t ++ [q]) i = pl t i := by unfold pl; rw [xJ t q i hi]
theorem a5p (t : List S31) (q : S31) (hU : pH (t ++ [q])) (hP : pH t) (i : Nat) : i < t.length → T (t ++ [q]) i = T t i := by
  induction i using Nat.strongRecOn with
  | ind i ih =>
    intro hi
    rw [a7x hU i (by simp; omega), a7x hP i hi, a3p t q i hi, xJ t q i hi]
    congr 1
    refine List.map_congr_left (fun p hp => ?_)
    have := hP i hi p hp
    exact ih p.toNat oM oM
theorem b1v (ps : List Int) : ∀ (m : List Bool) (b : Bool), (∀ p ∈ ps, p.toNat < m.length) → uQ (m ++ [b]) ps = uQ m ps ++ [b] := by
  unfold uQ
  induction ps with
  | nil => intro m b _; rfl
  | cons p ps ih =>
    intro m b h
    simp only [List.foldl_cons]
    rw [List.set_append_left _ _ (h p (by simp))]
    exact ih _ b (fun q hq => by rw [List.length_set]; exact h q (by simp [hq]))
theorem c3i (t : List S31) (q : S31) (hP : pH t) (j : Nat) : ∀ (m : List Bool) (b : Bool), j ≤ t.length → m.length = t.length → rgo (fun _ => true) (t ++ [q]) j (m ++ [b]) = rgo (fun _ => true) t j m ++ [b] := by
  induction j with
  | zero => intro m b _ _; rfl
  | succ j ih =>
    intro m b hj hm
    have e : vA (fun _ => true) (t ++ [q]) j (m ++ [b]) = vA (fun _ => true) t j m ++ [b] := by
      unfold vA
      have g : (m ++ [b]).getD j false = m.getD j false := by rw [List.getD_eq_getElem?_getD, List.getD_eq_getElem?_getD, List.getElem?_append_left oM]
      rw [a3p t q j oM, g]
      split
      · exact b1v _ m b (fun p hp => by have := hP j oM p hp; omega)
      · rfl
    show rgo _ _ j _ = rgo _ _ j _ ++ [b]
    rw [e]
    exact ih _ b oM (by rw [a0o]; exact hm)
theorem a9u (t : List S31) (q : S31) (hP : pH t) (h1 : 1 ≤ t.length) (hq : pl (t ++ [q]) t.length = [(t.length : Int) - 1]) : rl (t ++ [q]) = rl t ++ [true] := by
  have e0 : (List.replicate (t.length + 1) false).set t.length true = List.replicate t.length false ++ [true] := by
    rw [List.replicate_succ', List.set_append_right _ _ (by simp)]; simp
  have e1 : vA (fun _ => true) (t ++ [q]) t.length (List.replicate t.length false ++ [true]) = (List.replicate t.length false).set (t.length - 1) true ++ [true] := by
    unfold vA
    rw [hq, if_pos ⟨by simp [List.getD_eq_getElem?_getD], rfl⟩]
    show (List.replicate t.length false ++ [true]).set ((t.length : Int) - 1).toNat true = _
    rw [show ((t.length : Int) - 1).toNat = t.length - 1 by omega, List.set_append_left _ _ (by simp; omega)]
  unfold rl uF
  rw [List.length_append, List.length_cons, List.length_nil, show t.length + (0 + 1) - 1 = t.length by omega, show t.length + (0 + 1) = t.length + 1 from rfl, e0]
  show rgo _ _ t.length _ = _
  rw [e1, c3i t q hP t.length _ true (Nat.le_refl _) (by simp), show t.length - 1 + 1 = t.length by omega]
theorem a8s (t : List S31) (q : S31) (i : Nat) (hi : i < t.length) : isQ (t ++ [q]) i ↔ isQ t i := by unfold isQ; rw [xJ t q i hi]
theorem a6n (t : List S31) (q : S31) (m m' : Nat → Bool) (hm : ∀ i < t.length, m i = m' i) (i : Nat) : i ≤ t.length → a0i (t ++ [q]) m i = a0i t m' i := by
  induction i with
  | zero => intro _; rfl
  | succ i ih =>
    intro hi
    unfold a0i
    rw [ih oM, hm i oM, xJ t q i oM]
    have := a8s t q i oM
    by_cases c : m' i = true ∧ isQ t i
    · rw [if_pos c, if_pos ⟨c.1, this.mpr c.2⟩]
    · rw [if_neg c, if_neg (fun h => c ⟨h.1, this.mp h.2⟩)]
theorem b7j (t : List S31) (q : S31) (hU : pH (t ++ [q])) (hP : pH t) (i : Nat) (hi : i < t.length) : qn (t ++ [q]) i ↔ qn t i := by
  unfold qn
  rw [a8s t q i hi, xJ t q i hi]
  by_cases h : isQ t i
  · have := hP i hi (kA t (i : Int)).f3 (by rw [show pl t i = _ from wW h]; exact List.mem_singleton.mpr rfl)
    rw [a5p t q hU hP _ oM]
  · exact ⟨fun _ h' => absurd h' h, fun _ h' => absurd h' h⟩
def hq : Tm → Bool
  | .leaf op _ _ => (op == 19) || (op == 20)
  | .un op _ _ _ a => ((op == 19) || (op == 20)) || hq a
  | .bin op _ _ a b => ((op == 19) || (op == 20)) || (hq a || hq b)
  | .ter op _ _ a b c => ((op == 19) || (op == 20)) || (hq a || (hq b || hq c))
def hp (l : List S31) (i : Nat) : Bool := (pl l i).any fun p => hq (T l p.toNat)
theorem b5p {l : List S31} (hP : pH l) (i : Nat) (hi : i < l.length) : hq (T l i) = (a9k l i || hp l i) := by
  rw [a7x hP i hi]
  unfold a9k hp
  have hlen : (pl l i).length ≤ 3 := qN _ _ _ _
  generalize pl l i = ps at *
  match ps, hlen with
  | [], _ => simp [mkT, hq]
  | [a], _ => simp [mkT, hq]
  | [a, b], _ => simp [mkT, hq]
  | [a, b, c], _ => simp [mkT, hq]
  | a :: b :: c :: d :: r, h => simp at h
def usN (l : List S31) (m : List Bool) : Nat → Nat → Int
  | 0, _ => 0
  | j + 1, i => usN l m j i + (if m.getD j false = true then (((pl l j).count (i : Int) : Nat) : Int) else 0)
theorem c0q (l : List S31) (m : List Bool) (j i : Nat) : 0 ≤ usN l m j i ∧ usN l m j i ≤ 3 * (j : Int) := by
  induction j with
  | zero => simp [usN]
  | succ j ih =>
    have h3 : (pl l j).count (i : Int) ≤ 3 := Nat.le_trans List.count_le_length (qN _ _ _ _)
    unfold usN
    split <;> omega
def b2g (op : Int) : Prop := op = 2 ∨ op = 3 ∨ op = 4 ∨ op = 19 ∨ op = 20
theorem b4c {n : Nat} (ps : List Int) (t : Nat) (ht : t < ps.length) (hp : 0 ≤ rd ps (t : Int) ∧ rd ps (t : Int) < (n : Int)) (us : List Int) (hn : us.length = n) (c : Nat → Int) (hc : ∀ i, 0 ≤ c i ∧ c i ≤ 100000) (h3 : ps.length ≤ 3) (hu : ∀ i < n, rd us (i : Int) = c i + (((ps.take t).count (i : Int) : Nat) : Int)) :
    ∀ i < n, rd (us.set (rd ps (t : Int)).toNat (wrap64 (rd us (rd ps (t : Int)) + 1))) (i : Int) = c i + (((ps.take (t + 1)).count (i : Int) : Nat) : Int) := by
  intro i hi
  have hlt : (rd ps (t : Int)).toNat < n := by omega
  have h0 := hu (rd ps (t : Int)).toNat hlt
  rw [Int.toNat_of_nonneg hp.1] at h0
  have hb : (ps.take t).count (rd ps (t : Int)) ≤ 3 := Nat.le_trans List.count_le_length (by rw [List.length_take]; omega)
  have := hc (rd ps (t : Int)).toNat
  rw [a8h us _ i _ oM, kU oM oM, List.take_succ_eq_append_getElem ht, List.count_append, List.count_singleton, ← rdI ps t ht]
  by_cases e : (rd ps (t : Int)).toNat = i
  · have e' : rd ps (t : Int) = (i : Int) := by omega
    rw [if_pos e, h0, e, e']
    simp; omega
  · have e' : ¬ rd ps (t : Int) = (i : Int) := by omega
    rw [if_neg e, hu i hi]
    simp [e']
def a3l (l : List S31) : Prop :=
  yZ l ∧ (kA l ((l.length : Int) - 1)).f1 = 1 ∧ b0c l = [] ∧
  (∃ ws, a9s l (rl l) l.length 0 (List.replicate 8 0) = some ws ∧ ∀ i < l.length, (rl l).getD i false = true → (kA l (i : Int)).f0 = 1 → rd ws (kA l (i : Int)).f2 = (kA l (i : Int)).f1) ∧
  (∀ i < l.length, (rl l).getD i false = true → hq (T l i) = true → b2g (kA l (i : Int)).f0) ∧
  (∀ i < l.length, (rl l).getD i false = true → hq (T l i) = true → usN l (rl l) l.length i ≤ 1)
theorem b7t (l : List S31) (hl : l.length ≤ 80) (hP : pH l) (i : Nat) (hi : i < l.length) (out : List Bool) (ho : out.length = i) (hO : ∀ j < i, out.getD j false = hq (T l j)) (P : List Bool → Prop)
    (hk : Ok (fun k => rM k l (out ++ [hq (T l i)]) ((i + 1 : Nat) : Int)) P) (d : Nat) : ∀ (t : Nat) (b : Bool), t + d = (pl l i).length → (b || ((pl l i).drop t).any fun p => hq (T l p.toNat)) = hq (T l i) → Ok (fun k => rK k l out (i : Int) b (pl l i) (t : Int)) P := by
  have hps : (pl l i).length ≤ 3 := qN _ _ _ _
  induction d with
  | zero =>
    intro t b ht hb
    refine qP ?_
    simp only [rK]
    rw [wS i]
    rw [List.drop_eq_nil_of_le oM, List.any_nil, Bool.or_false] at hb
    subst hb
    exact zY oM (pV oM hk)
  | succ d ih =>
    intro t b ht hb
    have hlt : t < (pl l i).length := by omega
    have hq' := hP i hi _ (List.getElem_mem hlt)
    rw [← rdI (pl l i) t hlt] at hq'
    refine qP ?_
    simp only [rK]
    rw [wS t]
    rw [List.drop_eq_getElem_cons hlt, List.any_cons, ← rdI (pl l i) t hlt] at hb
    have hr : vU false out (rd (pl l i) (t : Int)) = hq (T l (rd (pl l i) (t : Int)).toNat) := by
      have := hO (rd (pl l i) (t : Int)).toNat oM
      rw [← this]; rfl
    refine pV oM (tW (fun h => ih (t + 1) true oM ?_) (fun h => pV oM (pV hq'.1 (pV oM (ih (t + 1) _ oM ?_)))))
    · rw [h] at hb; simpa using hb
    · rw [hr]; cases b
      · simpa using hb
      · exact absurd rfl h
theorem c9a (l : List S31) (hl : l.length ≤ 80) (hP : pH l) (d : Nat) : ∀ (i : Nat) (out : List Bool), i + d = l.length → out.length = i → (∀ j < i, out.getD j false = hq (T l j)) → Ok (fun k => rM k l out (i : Int)) (fun r => r.length = l.length ∧ ∀ j < l.length, r.getD j false = hq (T l j)) := by
  induction d with
  | zero =>
    intro i out hi ho hO
    refine qP ?_
    simp only [rM]
    exact zY oM (uS ⟨oM, fun j hj => hO j oM⟩)
  | succ d ih =>
    intro i out hi ho hO
    refine qP ?_
    simp only [rM]
    refine pV oM (pV oM (pP (c4r _) (rY (b0b (yY 1 fun k hk => a3d _ _ _ _ _ _ hk) rfl) (fun ps hps => ?_))))
    subst hps
    refine b7t l hl hP i oM out ho hO _ (ih (i + 1) _ oM (by simp; omega) (fun j hj => ?_)) _ 0 _ (Nat.zero_add _) ?_
    · by_cases h : j < i
      · rw [List.getD_eq_getElem?_getD, List.getElem?_append_left oM, ← List.getD_eq_getElem?_getD]; exact hO j h
      · obtain rfl : j = i := by omega
        rw [List.getD_eq_getElem?_getD, List.getElem?_append_right oM, ho, Nat.sub_self]; rfl
    · rw [List.drop_zero, b5p hP i oM]; rfl
theorem b7c (l : List S31) (hl : l.length ≤ 80) (m h : List Bool) (us : List Int) (hm : m.length = l.length) (hh : h.length = l.length) (hu : us.length = l.length) (d : Nat) : ∀ i : Nat, i + d = l.length → Ok (fun k => qR k l m h us (i : Int)) (fun b => b = true → ∀ j, i ≤ j → j < l.length → m.getD j false = true → h.getD j false = true → rd us (j : Int) ≤ 1) := by
  induction d with
  | zero =>
    intro i hi
    refine qP ?_
    simp only [qR]
    exact zY oM (uS (fun _ j a b => absurd b oM))
  | succ d ih =>
    intro i hi
    refine qP ?_
    simp only [qR]
    rw [wS i]
    have hn := ih (i + 1) oM
    have em : vU false m (i : Int) = m.getD i false := rfl
    have eh : vU false h (i : Int) = h.getD i false := rfl
    rw [em, eh]
    have go : (m.getD i false = true → h.getD i false = true → rd us (i : Int) ≤ 1) → Ok (fun k => qR k l m h us ((i + 1 : Nat) : Int)) (fun b => b = true → ∀ j, i ≤ j → j < l.length → m.getD j false = true → h.getD j false = true → rd us (j : Int) ≤ 1) := fun hk => a2v hn (fun b hb ht j a c e f => by
      by_cases hj : j = i
      · subst hj; exact hk e f
      · exact hb ht j oM c e f)
    exact pV oM (pV oM (pV oM (tW (fun _ => pV oM (tW (fun _ => pV oM (tW (fun _ => uS (fun h => by simp at h)) (fun c => go (fun _ _ => by omega)))) (fun c => go (fun _ e => absurd e c)))) (fun c => go (fun e _ => absurd e c)))))
theorem c7b (op : Int) : ∃ b, tT op = some b ∧ (b = true ↔ b2g op) := by
  unfold tT b2g
  by_cases a : op = 2
  · exact ⟨true, if_pos a, by simp [a]⟩
  · rw [if_neg a]
    by_cases b : op = 3
    · exact ⟨true, if_pos b, by simp [b]⟩
    · rw [if_neg b]
      by_cases c : op = 4
      · exact ⟨true, if_pos c, by simp [c]⟩
      · rw [if_neg c, c4r]
        refine ⟨_, rfl, ?_⟩
        simp [a, b, c]
theorem b7d (l : List S31) (hl : l.length ≤ 80) (hN : qL l) (m h : List Bool) (hm : m.length = l.length) (hh : h.length = l.length) (ws : List Int) (hw : ws.length = 8) (d : Nat) : ∀ (i : Nat) (us : List Int), i + d = l.length → us.length = l.length → (∀ j < l.length, rd us (j : Int) = usN l m i j) →
    Ok (fun k => rG k l m h ws us (i : Int)) (fun b => b = true → (∀ j, i ≤ j → j < l.length → m.getD j false = true → ((kA l (j : Int)).f0 = 1 → rd ws (kA l (j : Int)).f2 = (kA l (j : Int)).f1) ∧ (h.getD j false = true → b2g (kA l (j : Int)).f0)) ∧ ∀ j < l.length, m.getD j false = true → h.getD j false = true → usN l m l.length j ≤ 1) := by
  have hP := qV hN
  induction d with
  | zero =>
    intro i us hi hu hU
    refine qP ?_
    simp only [rG]
    obtain rfl : i = l.length := by omega
    refine zY oM (a2v (b7c l hl m h us hm hh hu l.length 0 oM) (fun b hb ht => ⟨fun j a c => absurd c oM, fun j hj e f => ?_⟩))
    rw [← hU j hj]; exact hb ht j oM hj e f
  | succ d ih =>
    intro i us hi hu hU
    have hlt : i < l.length := by omega
    have em : vU false m (i : Int) = m.getD i false := rfl
    have eh : vU false h (i : Int) = h.getD i false := rfl
    generalize hG : (fun b : Bool => b = true → (∀ j, i ≤ j → j < l.length → m.getD j false = true → ((kA l (j : Int)).f0 = 1 → rd ws (kA l (j : Int)).f2 = (kA l (j : Int)).f1) ∧ (h.getD j false = true → b2g (kA l (j : Int)).f0)) ∧ ∀ j < l.length, m.getD j false = true → h.getD j false = true → usN l m l.length j ≤ 1) = G
    have nx : ∀ us : List Int, us.length = l.length → (∀ j < l.length, rd us (j : Int) = usN l m (i + 1) j) → (m.getD i false = true → ((kA l (i : Int)).f0 = 1 → rd ws (kA l (i : Int)).f2 = (kA l (i : Int)).f1) ∧ (h.getD i false = true → b2g (kA l (i : Int)).f0)) → Ok (fun k => rG k l m h ws us ((i + 1 : Nat) : Int)) G := by
      intro us hu hU hc
      rw [← hG]
      refine a2v (ih (i + 1) us oM hu hU) (fun b hb ht => ⟨fun j a c e => ?_, (hb ht).2⟩)
      by_cases hj : j = i
      · subst hj; exact hc e
      · exact (hb ht).1 j oM c e
    have l4 : (h.getD i false = true → b2g (kA l (i : Int)).f0) → m.getD i false = true → ((kA l (i : Int)).f0 = 1 → rd ws (kA l (i : Int)).f2 = (kA l (i : Int)).f1) → ∀ (n t : Nat) (us : List Int), t + n = (pl l i).length → us.length = l.length → (∀ j < l.length, rd us (j : Int) = usN l m i j + ((((pl l i).take t).count (j : Int) : Nat) : Int)) → Ok (fun k => sY k l m h ws us (i : Int) (pl l i) (t : Int)) G := by
      intro ha hb hc n
      have hp3 : (pl l i).length ≤ 3 := qN _ _ _ _
      induction n with
      | zero =>
        intro t us ht hu hU
        refine qP ?_
        simp only [sY]
        rw [wS i]
        refine zY oM (nx us hu (fun j hj => ?_) (fun _ => ⟨hc, ha⟩))
        rw [hU j hj, List.take_of_length_le oM]
        show _ = usN l m i j + (if m.getD i false = true then _ else 0)
        rw [if_pos hb]
      | succ n ihn =>
        intro t us ht hu hU
        have hq := hP i hlt _ (List.getElem_mem (show t < (pl l i).length by omega))
        rw [← rdI (pl l i) t oM] at hq
        refine qP ?_
        simp only [sY]
        rw [wS t]
        exact pV oM (pV oM (pV hq.1 (pV oM (ihn (t + 1) _ oM (by rw [List.length_set]; exact hu) (b4c (pl l i) t oM ⟨hq.1, oM⟩ us hu (usN l m i) (fun j => by have := c0q l m i j; omega) hp3 hU)))))
    have j6 : ∀ x : Bool, m.getD i false = true → ((kA l (i : Int)).f0 = 1 → rd ws (kA l (i : Int)).f2 = (kA l (i : Int)).f1 ∨ x = true) → (x = false → h.getD i false = true → b2g (kA l (i : Int)).f0) → Ok (fun k => qJ k l m h ws us (i : Int) x) G := by
      intro x hb hc ha
      refine qP ?_
      simp only [qJ]
      refine tW (fun _ => uS (by rw [← hG]; intro h; simp at h)) (fun hx => pV oM (pV oM (rY (b0b (yY 1 fun k hk => a3d _ _ _ _ _ _ hk) rfl) (fun ps hps => ?_))))
      subst hps
      exact l4 (ha (by simpa using hx)) hb (fun o => (hc o).resolve_right hx) (pl l i).length 0 us oM hu (fun j hj => by rw [hU j hj]; simp)
    obtain ⟨ob, hob, hol⟩ := c7b (kA l (i : Int)).f0
    have tail : m.getD i false = true → ((kA l (i : Int)).f0 = 1 → rd ws (kA l (i : Int)).f2 = (kA l (i : Int)).f1) → Ok (fun k => if (i : Int) < (h.length : Int) then (if h.getD i false = true then ((tT ((kA l (i : Int)).f0)).bind fun t721 => (qJ k l m h ws us (i : Int) (!t721))) else (qJ k l m h ws us (i : Int) false)) else (none)) G := fun hb hc =>
      pV oM (tW (fun _ => pP hob (j6 _ hb (fun o => .inl (hc o)) (fun hx _ => hol.mp (by simpa using hx)))) (fun c => j6 _ hb (fun o => .inl (hc o)) (fun _ e => absurd e c)))
    refine qP ?_
    simp only [rG]
    rw [wS i, em, eh]
    refine pV oM (pV oM (pV oM (tW (fun hb => tW (fun hv => ?_) (fun hv => tail hb (fun o => absurd o hv))) (fun hb => nx us hu (fun j hj => ?_) (fun e => absurd e hb)))))
    · have hK := c3x hN i hlt (.inr (.inr hv))
      exact pV hK.1 (pV oM (tW (fun e => tail hb (fun _ => e)) (fun _ => j6 true hb (fun _ => .inr rfl) (fun e => by simp at e))))
    · rw [hU j hj]
      show _ = usN l m i j + (if m.getD i false = true then _ else 0)
      rw [if_neg hb]; omega
theorem b7e (l : List S31) (hl : l.length ≤ 80) (hN : qL l) (m h : List Bool) (hm : m.length = l.length) (hh : h.length = l.length) (ws : List Int) (hw : ws.length = 8) (d : Nat) : ∀ (i : Nat), i + d = l.length →
    Ok (fun k => sZ k l m h ws (List.replicate i 0) (i : Int)) (fun b => b = true → (∀ j, 0 ≤ j → j < l.length → m.getD j false = true → ((kA l (j : Int)).f0 = 1 → rd ws (kA l (j : Int)).f2 = (kA l (j : Int)).f1) ∧ (h.getD j false = true → b2g (kA l (j : Int)).f0)) ∧ ∀ j < l.length, m.getD j false = true → h.getD j false = true → usN l m l.length j ≤ 1) := by
  induction d with
  | zero =>
    intro i hi
    refine qP ?_
    simp only [sZ]
    refine zY oM (b7d l hl hN m h hm hh ws hw l.length 0 _ oM (by simp; omega) (fun j hj => ?_))
    rw [rdI _ j (by simp; omega), List.getElem_replicate]; rfl
  | succ d ih =>
    intro i hi
    refine qP ?_
    simp only [sZ]
    rw [wS i, ← List.replicate_succ']
    exact pV oM (pV (by simp; omega) (ih (i + 1) oM))
def c4l (l : List S31) (m h : List Bool) (w : Option (List Int)) : Prop := ∃ ws, w = some ws ∧ (∀ j < l.length, m.getD j false = true → ((kA l (j : Int)).f0 = 1 → rd ws (kA l (j : Int)).f2 = (kA l (j : Int)).f1) ∧ (h.getD j false = true → b2g (kA l (j : Int)).f0)) ∧ ∀ j < l.length, m.getD j false = true → h.getD j false = true → usN l m l.length j ≤ 1
theorem b7f (l : List S31) (hl : l.length ≤ 80) (hN : qL l) (m h : List Bool) (hm : m.length = l.length) (hh : h.length = l.length) (d : Nat) : ∀ (i : Nat) (ws : List Int), i + d = l.length → ws.length = 8 → Ok (fun k => rU k l m h ws (i : Int)) (fun b => b = true → c4l l m h (a9s l m d i ws)) := by
  induction d with
  | zero =>
    intro i ws hi hw
    refine qP ?_
    simp only [rU]
    exact zY oM (a2v (b7e l hl hN m h hm hh ws hw l.length 0 oM) (fun b hb ht => ⟨ws, rfl, fun j hj => (hb ht).1 j oM hj, (hb ht).2⟩))
  | succ d ih =>
    intro i ws hi hw
    have hlt : i < l.length := by omega
    have em : vU false m (i : Int) = m.getD i false := rfl
    have j3 : ∀ x : Bool, (x = true ↔ m.getD i false = true ∧ ((kA l (i : Int)).f0 = 19 ∨ (kA l (i : Int)).f0 = 20)) → Ok (fun k => tX k l m h ws (i : Int) x) (fun b => b = true → c4l l m h (a9s l m (d + 1) i ws)) := by
      intro x hx
      refine qP ?_
      simp only [tX, a9s, zC]
      rw [wS i, em]
      refine tW (fun hxt => ?_) (fun hxt => ?_)
      · have hc := hx.mp hxt
        have hK := c3x hN i hlt (by rcases hc.2 with h | h; exact .inl h; exact .inr (.inl h))
        rw [if_pos hc]
        refine pV oM (pV oM (pV hK.1 (pV oM (tW (fun e => ?_) (fun _ => uS (fun h => by simp at h))))))
        rw [if_neg oM]
        exact ih (i + 1) _ oM (by rw [List.length_set]; exact hw)
      · rw [if_neg (fun hc => hxt (hx.mpr hc))]
        exact ih (i + 1) ws oM hw
    refine qP ?_
    simp only [rU]
    rw [em]
    refine pV oM (pV oM (pV oM (tW (fun hb => pP (c4r _) (j3 _ ?_)) (fun hb => j3 false ?_))))
    · simp only [hb, true_and, Bool.or_eq_true, beq_iff_eq]
    · exact ⟨fun h => by simp at h, fun h => absurd h.1 hb⟩
theorem b7g (l : List S31) (hl : l.length ≤ 80) (hN : qL l) (m h : List Bool) (hm : m.length = l.length) (hh : h.length = l.length) (d : Nat) : ∀ (i : Nat), i + d = 8 → Ok (fun k => tC k l m h (List.replicate i 0) (i : Int)) (fun b => b = true → c4l l m h (a9s l m l.length 0 (List.replicate 8 0))) := by
  induction d with
  | zero =>
    intro i hi
    refine qP ?_
    simp only [tC]
    obtain rfl : i = 8 := by omega
    exact zY oM (b7f l hl hN m h hm hh l.length 0 _ oM (by simp))
  | succ d ih =>
    intro i hi
    refine qP ?_
    simp only [tC]
    rw [wS i, ← List.replicate_succ']
    exact pV oM (pV (by simp; omega) (ih (i + 1) oM))
theorem c6w (l : List S31) : Ok (fun k => qK k l) (fun b => b = true → a3l l) := by
  obtain ⟨b, e1, _, hb⟩ := a7i l
  unfold qK
  refine rY (b0b e1 rfl) (fun b' hb' => ?_)
  subst hb'
  have jt : Ok (fun k => rV k l true) (fun b => b = true → a3l l) := by
    refine qP ?_
    simp only [rV]
    exact pV trivial (uS (by simp))
  refine tW (fun ht => ?_) (fun _ => jt)
  have hT := hb.mp ht
  obtain ⟨h1, h2, h3⟩ := id hT
  rw [kU oM oM]
  refine pV oM (pV oM (tW (fun hW => ?_) (fun _ => jt)))
  refine rY (b0b (b6o l hT).1 rfl) (fun r' hr' => ?_)
  subst hr'
  refine qP ?_
  simp only [rV]
  have hP := qV h3
  refine tW (fun _ => uS (fun h => by simp at h)) (fun hF => rY (b0b (a5c l oM h1 hP) rfl) (fun m hm => rY (c9a l h2 hP l.length 0 [] oM rfl (fun j hj => absurd hj oM)) (fun h hh => ?_)))
  subst hm
  refine a2v (b7g l h2 h3 _ h (sU _ _ _) hh.1 8 0 oM) (fun b hb ht => ?_)
  obtain ⟨ws, w1, w2, w3⟩ := hb ht
  refine ⟨hT, hW, ?_, ⟨ws, w1, fun i hi hm => (w2 i hi hm).1⟩, fun i hi hm hq => (w2 i hi hm).2 (by rw [hh.2 i hi]; exact hq), fun i hi hm hq => w3 i hi hm (by rw [hh.2 i hi]; exact hq)⟩
  have : ¬ ((b0c l).length : Int) > 0 := by simpa using hF
  exact List.eq_nil_of_length_eq_zero oM
theorem c0w (a b c d e f : Int) (h : b2g a) : xA a b c d e f = some true := by
  unfold xA
  rw [c8p]
  rcases h with rfl | rfl | rfl | rfl | rfl <;> rfl
theorem b1q (l : List S31) (m : List Bool) (ws : List Int) (d : Nat) : ∀ i : Nat, i + d = l.length → (∀ j < l.length, m.getD j false = true → (kA l (j : Int)).f0 = 1 → rd ws (kA l (j : Int)).f2 = (kA l (j : Int)).f1) → a6a l m ws d i = true := by
  induction d with
  | zero => intro i _ _; rfl
  | succ d ih =>
    intro i hi h
    unfold a6a
    rw [if_neg (fun c => c.2.2 (h i oM c.1 c.2.1).symm)]
    exact ih (i + 1) oM h
theorem b1u {l : List S31} (h : a3l l) : yA l (rl l) = some true := by
  obtain ⟨⟨h1, h2, hN⟩, _, _, ⟨ws, w1, w2⟩, _⟩ := h
  unfold yA
  have hok : c6u l (rl l) = true := by
    unfold c6u
    rw [Bool.and_eq_true, decide_eq_true_eq, List.all_eq_true]
    refine ⟨sU _ _ _, fun i hi => ?_⟩
    rw [List.mem_range] at hi
    by_cases c : (kA l (i : Int)).f0 = 19 ∨ (kA l (i : Int)).f0 = 20 ∨ (kA l (i : Int)).f0 = 1
    · rw [decide_eq_true (c3x hN i hi c), Bool.or_true]
    · simp only [not_or] at c
      simp [c]
  rw [if_pos hok]
  unfold szB
  rw [w1]
  exact congrArg some (b1q l (rl l) ws l.length 0 oM w2)
theorem c8w (l : List S31) (hl : l.length ≤ 80) (m : List Bool) (us : List Int) (hm : m.length = l.length) (hu : us.length = l.length) (h : ∀ j < l.length, m.getD j false = true → isQ l j → rd us (j : Int) ≤ 1) (d : Nat) : ∀ i : Nat, i + d = l.length → Ev (fun k => tG k m us l (l.length : Int) (i : Int)) true := by
  induction d with
  | zero =>
    intro i hi
    refine kN ?_
    simp only [tG]
    exact kQ oM pW
  | succ d ih =>
    intro i hi
    refine kN ?_
    simp only [tG]
    rw [wS i, show vU false m (i : Int) = m.getD i false from rfl]
    have hn := ih (i + 1) oM
    refine kD oM (kD oM (kD oM (kD oM ?_)))
    by_cases hb : m.getD i false = true
    · refine kD hb (qA (c8p _ _ _ _ _ _) ?_)
      by_cases hq : isQ l i
      · have := h i oM hb hq
        exact kD (by simpa [isQ] using hq) (kD oM (kQ oM hn))
      · exact kQ (by simpa [isQ] using hq) hn
    · exact kQ hb hn
theorem c8x (l : List S31) (hl : l.length ≤ 80) (hP : pH l) (m : List Bool) (hm : m.length = l.length) (hc : ∀ i < l.length, m.getD i false = true → ∀ p ∈ pl l i, m.getD p.toNat false = true) (hL : ∀ i < l.length, m.getD i false = true → hq (T l i) = true → b2g (kA l (i : Int)).f0) (hu1 : ∀ j < l.length, m.getD j false = true → isQ l j → usN l m l.length j ≤ 1) (d : Nat) :
    ∀ (i : Nat) (us : List Int) (fl : List Bool), i + d = l.length → us.length = l.length → fl.length = l.length → (∀ j < l.length, rd us (j : Int) = usN l m i j) → (∀ j < i, m.getD j false = true → fl.getD j false = hp l j) → (∀ j, i ≤ j → fl.getD j false = false) → Ev (fun k => uG k l m us fl l (l.length : Int) (i : Int)) true := by
  induction d with
  | zero =>
    intro i us fl hi hu hf hU h1 h2
    refine kN ?_
    simp only [uG]
    obtain rfl : i = l.length := by omega
    exact kQ oM (c8w l hl m us hm hu (fun j hj a b => by rw [hU j hj]; exact hu1 j hj a b) l.length 0 oM)
  | succ d ih =>
    intro i us fl hi hu hf hU h1 h2
    have hlt : i < l.length := by omega
    have hp3 : (pl l i).length ≤ 3 := qN _ _ _ _
    refine kN ?_
    simp only [uG]
    rw [show vU false m (i : Int) = m.getD i false from rfl]
    refine kD oM (kD oM (kD oM (kD oM ?_)))
    by_cases hb : m.getD i false = true
    rotate_left
    · refine kQ hb ?_
      rw [wS i]
      refine ih (i + 1) us fl oM hu hf (fun j hj => ?_) (fun j hj hmj => ?_) (fun j hj => h2 j oM)
      · rw [hU j hj]
        show _ = usN l m i j + (if m.getD i false = true then _ else 0)
        rw [if_neg hb]; omega
      · exact h1 j (by rcases Nat.lt_or_ge j i with q | q; exact q; exact absurd (by rwa [show j = i by omega] at hmj) hb) hmj
    refine kD hb (kO (yY 1 fun k hk => a8k _ _ _ _ _ _ hk) ?_)
    have inner : ∀ (n t : Nat) (us : List Int) (fl : List Bool), t + n = (pl l i).length → us.length = l.length → fl.length = l.length → (∀ j < l.length, rd us (j : Int) = usN l m i j + ((((pl l i).take t).count (j : Int) : Nat) : Int)) → (∀ j < i, m.getD j false = true → fl.getD j false = hp l j) → (fl.getD i false = ((pl l i).take t).any fun p => hq (T l p.toNat)) → (∀ j, i < j → fl.getD j false = false) →
        Ev (fun k => qE k l m us fl (i : Int) l (l.length : Int) (i : Int) (pl l i) ((pl l i).length : Int) (t : Int) (kA l (i : Int)).f0 (kA l (i : Int)).f1 (kA l (i : Int)).f2 (kA l (i : Int)).f3 (kA l (i : Int)).f4 (kA l (i : Int)).f5) true := by
      intro n
      induction n with
      | zero =>
        intro t us fl ht hu hf hU h1 h3 h2
        refine kN ?_
        simp only [qE]
        rw [wS i]
        rw [List.take_of_length_le oM] at hU h3
        refine kQ oM (ih (i + 1) us fl oM hu hf (fun j hj => ?_) (fun j hj hmj => ?_) (fun j hj => h2 j oM))
        · rw [hU j hj]
          show _ = usN l m i j + (if m.getD i false = true then _ else 0)
          rw [if_pos hb]
        · by_cases e : j = i
          · subst e; exact h3
          · exact h1 j oM hmj
      | succ n ihn =>
        intro t us fl ht hu hf hU h1 h3 h2
        have htl : t < (pl l i).length := by omega
        have hmem := List.getElem_mem htl
        have hpp := hP i hlt _ hmem
        have hpm := hc i hlt hb _ hmem
        have hlead : hq (T l (pl l i)[t].toNat) = true → b2g (kA l (i : Int)).f0 := fun h => hL i hlt hb (by
          rw [b5p hP i hlt]; unfold hp
          rw [List.any_eq_true.mpr ⟨_, hmem, h⟩, Bool.or_true])
        rw [← rdI (pl l i) t htl] at hpp hpm hlead
        have hU' := b4c (pl l i) t htl ⟨hpp.1, oM⟩ us hu (usN l m i) (fun j => by have := c0q l m i j; omega) hp3 hU
        refine kN ?_
        simp only [qE]
        have htake : ((pl l i).take (t + 1)).any (fun p => hq (T l p.toNat)) = (fl.getD i false || hq (T l (rd (pl l i) (t : Int)).toNat)) := by
          rw [List.take_succ_eq_append_getElem htl, List.any_append, h3, ← rdI (pl l i) t htl]; simp
        generalize rd (pl l i) (t : Int) = p at *
        rw [wS t]
        have e1 : vU false fl p = hp l p.toNat := h1 p.toNat oM hpm
        have e2 : vU false fl (i : Int) = fl.getD i false := rfl
        have e3 : hq (T l p.toNat) = (a9k l p.toNat || hp l p.toNat) := b5p hP _ oM
        have e4 : a9k l p.toNat = ((kA l p).f0 == 19 || (kA l p).f0 == 20) := by unfold a9k; rw [Int.toNat_of_nonneg hpp.1]
        rw [e1, e2, Int.toNat_natCast]
        have nxt : ∀ X : Bool, X = (fl.getD i false || hq (T l p.toNat)) → Ev (fun k => qE k l m (us.set p.toNat (wrap64 (rd us p + 1))) (fl.set i X) (i : Int) l (l.length : Int) (i : Int) (pl l i) ((pl l i).length : Int) ((t + 1 : Nat) : Int) (kA l (i : Int)).f0 (kA l (i : Int)).f1 (kA l (i : Int)).f2 (kA l (i : Int)).f3 (kA l (i : Int)).f4 (kA l (i : Int)).f5) true := by
          intro X hX
          have hset : ∀ j, (fl.set i X).getD j false = if i = j then X else fl.getD j false := fun j => by
            rw [List.getD_eq_getElem?_getD, List.getElem?_set, List.getD_eq_getElem?_getD]
            by_cases e : i = j
            · rw [if_pos e, if_pos e, if_pos oM]; rfl
            · rw [if_neg e, if_neg e]
          refine ihn (t + 1) _ _ oM (by rw [List.length_set]; exact hu) (by rw [List.length_set]; exact hf) hU' (fun j hj hmj => ?_) ?_ (fun j hj => ?_)
          · rw [hset, if_neg oM]; exact h1 j hj hmj
          · rw [hset, if_pos rfl, htake, hX]
          · rw [hset, if_neg oM]; exact h2 j hj
        refine kD oM (kD oM (kD oM (kD hpp.1 (kD oM (qA rfl (kD oM ?_))))))
        have both : ∀ X : Bool, X = (fl.getD i false || hq (T l p.toNat)) → ∀ Y : Bool, (fl.getD i false = false → Y = X) → Ev (fun k => if 0 ≤ (i : Int) then (if (i : Int) < (fl.length : Int) then (if fl.getD i false = true then (qE k l m (us.set p.toNat (wrap64 (rd us p + 1))) (fl.set i true) (i : Int) l (l.length : Int) (i : Int) (pl l i) ((pl l i).length : Int) ((t + 1 : Nat) : Int) (kA l (i : Int)).f0 (kA l (i : Int)).f1 (kA l (i : Int)).f2 (kA l (i : Int)).f3 (kA l (i : Int)).f4 (kA l (i : Int)).f5) else (qE k l m (us.set p.toNat (wrap64 (rd us p + 1))) (fl.set i Y) (i : Int) l (l.length : Int) (i : Int) (pl l i) ((pl l i).length : Int) ((t + 1 : Nat) : Int) (kA l (i : Int)).f0 (kA l (i : Int)).f1 (kA l (i : Int)).f2 (kA l (i : Int)).f3 (kA l (i : Int)).f4 (kA l (i : Int)).f5)) else none) else none) true := by
          intro X hX Y hY
          refine kD oM (kD oM ?_)
          by_cases e : fl.getD i false = true
          · exact kD e (nxt true (by rw [e]; rfl))
          · exact kQ e (nxt Y (by rw [hY (by simpa using e), hX]))
        by_cases ch : hp l p.toNat = true
        · have hqt : hq (T l p.toNat) = true := by rw [e3, ch, Bool.or_true]
          exact kD ch (qA (c0w _ _ _ _ _ _ (hlead hqt)) (kD rfl (both true (by rw [hqt, Bool.or_true]) true (fun _ => rfl))))
        · refine kQ ch (kD oM (qA (c8p _ _ _ _ _ _) ?_))
          rw [← e4]
          have ch' : hp l p.toNat = false := by simpa using ch
          rw [ch', Bool.or_false] at e3
          by_cases cq : a9k l p.toNat = true
          · exact kD cq (qA (c0w _ _ _ _ _ _ (hlead (by rw [e3, cq]))) (kD rfl (both true (by rw [e3, cq, Bool.or_true]) _ (fun _ => cq))))
          · exact kQ cq (both (fl.getD i false) (by rw [e3, show a9k l p.toNat = false by simpa using cq, Bool.or_false]) _ (fun h => by rw [h]; simpa using cq))
    exact inner (pl l i).length 0 us fl oM hu hf (fun j hj => by rw [hU j hj]; simp) h1 (by rw [h2 i (Nat.le_refl _)]; simp) (fun j hj => h2 j oM)
theorem c3g {l : List S31} (h : a3l l) : Ev (fun k => uW k l) true := by
  have hz := b1u h
  obtain ⟨hT, hW, hF, _, hL, hU⟩ := h
  obtain ⟨b, _, e2, hb⟩ := a7i l
  obtain rfl : b = true := hb.mpr hT
  obtain ⟨h1, h2, hN⟩ := id hT
  have hP := qV hN
  unfold uW
  refine kO e2 (kD rfl ?_)
  rw [kU oM oM]
  refine kD oM (kD oM (kD hW (kO (b6o l hT).2.1 ?_)))
  rw [hF]
  refine kN ?_
  simp only [tZ]
  refine kQ (by simp) (kO (a2u l oM h1 hP) (qA hz (kD rfl (kO ?_ pW))))
  unfold zG
  rw [Int.toNat_natCast]
  refine kD oM (kD oM (kD oM ?_))
  refine c8x l h2 hP _ (sU _ _ _) (uE l hP (l.length - 1) oM) hL (fun j hj hm hq => hU j hj hm ?_) l.length 0 _ _ oM (by simp) (by simp) (fun j hj => ?_) (fun j hj => absurd hj oM) (fun j _ => ?_)
  · rw [b5p hP j hj, show a9k l j = true by unfold a9k; simpa [isQ] using hq, Bool.true_or]
  · rw [rdI _ j (by simp; omega), List.getElem_replicate]; rfl
  · rw [List.getD_eq_getElem?_getD, List.getElem?_replicate]; split <;> rfl
theorem c7q {α : Type} {g : Nat → Option α} {a b : α} (h : Ev g a) (k : Ev g b) : a = b := by
  obtain ⟨n, h⟩ := h
  obtain ⟨m, k⟩ := k
  have h1 := h (n + m) oM
  rw [k (n + m) oM] at h1
  exact (Option.some.inj h1).symm
theorem a2x : Ev (fun k => qK k [(⟨1, 1, 0, 0, 0, 0⟩ : S31), (⟨20, 1, 0, 0, 1, 0⟩ : S31)]) true := by
  refine yY 200 (fun k hk => ?_)
  obtain ⟨j, rfl⟩ : ∃ j, k = j + 200 := ⟨k - 200, oM⟩
  kernel_rfl
theorem a3g : a3l [(⟨1, 1, 0, 0, 0, 0⟩ : S31), (⟨20, 1, 0, 0, 1, 0⟩ : S31)] := by
  obtain ⟨x, e, h⟩ := c6w [(⟨1, 1, 0, 0, 0, 0⟩ : S31), (⟨20, 1, 0, 0, 1, 0⟩ : S31)]
  exact h (c7q e a2x)
theorem a6b (b : List Int) (i h bits : Int) (hc : Cur b i) (b0 : 0 ≤ bits) (b1 : bits ≤ 100) : Ok (fun k => uB k b i h bits) (fun r => a3l r.1 ∧ Ev (fun k => qK k r.1) true) := by
  unfold uB
  refine rY (c3t 4 oM b i h [] [] 0 bits hc (by simp [MS]) ⟨by simp, by simp⟩ (by simp) oM oM b0 b1) (fun r hr => ?_)
  refine tW (fun _ => uS ⟨a3g, a2x⟩) (fun hl => ?_)
  obtain ⟨x, e, hx⟩ := c6w r.1
  exact rY (b0b e rfl) (fun y hy => tW (fun ht => uS ⟨hx (hy.trans ht), by rw [hy.trans ht] at e; exact e⟩) (fun _ => uS ⟨a3g, a2x⟩))
theorem b4o (l : List Int) (hl : (l.length : Int) ≤ 140737488351232) : Ok (fun k => vT k l) (fun t => a3l t ∧ Ev (fun k => qK k t) true) := by
  unfold vT
  refine rY (b2o l hl) (fun c hc => ?_)
  obtain ⟨c0, c1, c2⟩ := c
  obtain ⟨h0, h1⟩ := hc
  simp only at h0 h1
  subst h0
  exact rY (a6b c0 c1 c2 8 h1 oM oM) (fun r hr => uS hr)
theorem b5u (D : Nat → Bool) (d : Nat) : ∀ v, a7q D d v = [] ↔ ∀ j, v ≤ j → j < v + d → D j = false := by
  induction d with
  | zero => intro v; exact ⟨fun _ j a b => absurd b oM, fun _ => rfl⟩
  | succ d ih =>
    intro v
    unfold a7q
    by_cases h : D v = true
    · rw [if_pos h]
      exact ⟨fun e => by simp at e, fun e => by rw [e v (Nat.le_refl _) oM] at h; simp at h⟩
    · rw [if_neg h, ih]
      constructor
      · intro e j a b
        by_cases q : j = v
        · subst q; simpa using h
        · exact e j oM oM
      · intro e j a b; exact e j oM oM
def nn (t : List S31) : S31 := ⟨2, 1, 0, (t.length : Int) - 1, 0, 0⟩
theorem a9z (t : List S31) : pl (t ++ [nn t]) t.length = [(t.length : Int) - 1] := by
  unfold pl; rw [yT]; rfl
theorem c7g (t : List S31) (hT : yZ t) (hl : t.length < 80) (hW : (kA t ((t.length : Int) - 1)).f1 = 1) : yZ (t ++ [nn t]) := by
  obtain ⟨h1, h2, h3⟩ := hT
  refine ⟨by simp, by simp; omega, fun i hi => ?_⟩
  simp only [List.length_append, List.length_cons, List.length_nil] at hi
  by_cases hlt : i < t.length
  · rw [b2f t _ i hlt]; exact h3 i hlt
  · obtain rfl : i = t.length := by omega
    unfold a1r
    rw [yT, List.take_left' rfl]
    unfold nn
    have hp : kS 2 ((t.length : Int) - 1) 0 0 = [(t.length : Int) - 1] := rfl
    have hwv : wv t [(t.length : Int) - 1] 1 0 = 1 := by
      unfold wv
      rw [if_pos oM, show rd [(t.length : Int) - 1] ((0 : Nat) : Int) = (t.length : Int) - 1 from rfl]; exact hW
    unfold xI
    simp only [hp, List.length_cons, List.length_nil, Nat.zero_add, hwv, List.all_cons, List.all_nil, Bool.and_true]
    have e3 : inB ((t.length : Int) - 1) 0 ((t.length : Int) - 1) = true := rX.mpr oM
    have e1 : inB 1 1 8 = true := by decide
    have e2 : inB 2 0 20 = true := by decide
    rw [e1, e2, e3]
    simp [xV, pQ]
theorem b8j (t : List S31) (q : S31) (hU : pH (t ++ [q])) (hP : pH t) (v : Nat) (hv : v < 8) (i : Nat) : i < t.length → DF (t ++ [q]) (t ++ [q]).length v i = DF t t.length v i := by
  induction i using Nat.strongRecOn with
  | ind i ih =>
    intro hi
    rw [b8k _ hU v hv i (by simp; omega), b8k t hP v hv i hi]
    have e1 : a5m (t ++ [q]) v i = a5m t v i := by unfold a5m a9k; rw [xJ t q i hi]
    have e2 : a5z (t ++ [q]) v i = a5z t v i := by unfold a5z; rw [xJ t q i hi]
    rw [e1, e2, a3p t q i hi]
    have e3 : ((pl t i).any fun p => DF (t ++ [q]) (t ++ [q]).length v p.toNat) = (pl t i).any fun p => DF t t.length v p.toNat := by
      have : ∀ ps : List Int, (∀ p ∈ ps, 0 ≤ p ∧ p < (i : Int)) → (ps.any fun p => DF (t ++ [q]) (t ++ [q]).length v p.toNat) = ps.any fun p => DF t t.length v p.toNat := by
        intro ps
        induction ps with
        | nil => intro _; rfl
        | cons a r iha =>
          intro h
          have := h a (by simp)
          rw [List.any_cons, List.any_cons, ih a.toNat oM oM, iha (fun p hp => h p (by simp [hp]))]
      exact this _ (hP i hi)
    rw [e3]
theorem b4d (t : List S31) (q : S31) (m m' : List Bool) (hm : ∀ i < t.length, m.getD i false = m'.getD i false) (j i : Nat) : j ≤ t.length → usN (t ++ [q]) m j i = usN t m' j i := by
  induction j with
  | zero => intro _; rfl
  | succ j ih =>
    intro hj
    unfold usN
    rw [ih oM, hm j oM, a3p t q j oM]
theorem b0w (l : List S31) (hP : pH l) (m : List Bool) (i j : Nat) : j ≤ i + 1 → j ≤ l.length → usN l m j i = 0 := by
  induction j with
  | zero => intro _ _; rfl
  | succ j ih =>
    intro hj hl
    unfold usN
    rw [ih oM oM]
    have : (pl l j).count (i : Int) = 0 := List.count_eq_zero.mpr (fun h => by have := hP j oM _ h; omega)
    rw [this]; split <;> rfl
theorem b1p (t : List S31) (q : S31) (m m' : List Bool) (hm : ∀ i < t.length, m.getD i false = m'.getD i false) (hq : ¬ (q.f0 = 19 ∨ q.f0 = 20)) (d : Nat) : ∀ (i : Nat) (ws : List Int), i + d = t.length → a9s (t ++ [q]) m (d + 1) i ws = a9s t m' d i ws := by
  induction d with
  | zero =>
    intro i ws hi
    obtain rfl : i = t.length := by omega
    simp only [a9s, zC]
    rw [yT, if_neg (fun h => hq h.2)]; rfl
  | succ d ih =>
    intro i ws hi
    have e : zC (t ++ [q]) m i ws = zC t m' i ws := by
      unfold zC
      rw [xJ t q i oM, show vU false m (i : Int) = m.getD i false from rfl, hm i oM]; rfl
    unfold a9s
    rw [e]
    cases zC t m' i ws with
    | none => rfl
    | some w => exact ih (i + 1) w oM
theorem b1d {t : List S31} (h : a3l t) (hl : t.length < 80) : a3l (t ++ [nn t]) := by
  obtain ⟨hT, hW, hF, ⟨ws, w1, w2⟩, hL, hu⟩ := h
  have hU := c7g t hT hl hW
  have hPU := qV hU.2.2
  have hP := qV hT.2.2
  have h1 := hT.1
  have hlen : (t ++ [nn t]).length = t.length + 1 := by simp
  have hrl := a9u t (nn t) hP h1 (a9z t)
  have hrt : (rl t).length = t.length := sU _ _ _
  have hg : ∀ i < t.length, (rl (t ++ [nn t])).getD i false = (rl t).getD i false := fun i hi => by
    rw [hrl, List.getD_eq_getElem?_getD, List.getD_eq_getElem?_getD, List.getElem?_append_left oM]
  have hroot : hq (T (t ++ [nn t]) t.length) = hq (T t (t.length - 1)) := by
    rw [b5p hPU t.length oM]
    unfold hp a9k
    rw [a9z, yT]
    show (_ || [_].any _) = _
    rw [List.any_cons, List.any_nil, Bool.or_false, show ((t.length : Int) - 1).toNat = t.length - 1 by omega, a5p t _ hPU hP _ oM]
    rfl
  refine ⟨hU, ?_, ?_, ⟨ws, ?_, fun i hi hm ho => ?_⟩, fun i hi hm hh => ?_, fun i hi hm hh => ?_⟩
  · rw [hlen, show ((t.length + 1 : Nat) : Int) - 1 = (t.length : Int) by omega, yT]; rfl
  · unfold b0c at hF ⊢
    rw [b5u] at hF ⊢
    intro v a b
    have := hF v a b
    simp only [hlen, Nat.add_sub_cancel] at this ⊢
    have e := b8k _ hPU v oM t.length oM
    rw [hlen] at e
    rw [e, a9z]
    unfold a5m a5z a9k
    rw [yT]
    show (if _ then _ else _) = _
    rw [if_neg (by simp [nn])]
    rw [List.any_cons, List.any_nil, show ((t.length : Int) - 1).toNat = t.length - 1 by omega]
    have f := b8j t (nn t) hPU hP v oM (t.length - 1) oM
    rw [hlen] at f
    rw [f, this]; simp [nn]
  · rw [hlen]
    rw [b1p t (nn t) _ (rl t) hg (by simp [nn]) t.length 0 _ oM]; exact w1
  · by_cases hlt : i < t.length
    · rw [xJ t _ i hlt] at ho ⊢
      exact w2 i hlt (by rw [← hg i hlt]; exact hm) ho
    · obtain rfl : i = t.length := by omega
      rw [yT] at ho; simp [nn] at ho
  · by_cases hlt : i < t.length
    · rw [xJ t _ i hlt]
      rw [a5p t _ hPU hP i hlt] at hh
      exact hL i hlt (by rw [← hg i hlt]; exact hm) hh
    · obtain rfl : i = t.length := by omega
      rw [yT]; exact .inl rfl
  · rw [hlen]
    by_cases hlt : i < t.length
    · rw [a5p t _ hPU hP i hlt] at hh
      have hm' : (rl t).getD i false = true := by rw [← hg i hlt]; exact hm
      unfold usN
      rw [b4d t (nn t) _ (rl t) hg t.length i (Nat.le_refl _), a9z]
      by_cases e : i = t.length - 1
      · rw [b0w t hP (rl t) i t.length oM (Nat.le_refl _)]
        have : [(t.length : Int) - 1].count (i : Int) ≤ 1 := Nat.le_trans List.count_le_length (by simp)
        split <;> omega
      · have : [(t.length : Int) - 1].count (i : Int) = 0 := List.count_eq_zero.mpr (fun h => by simp at h; omega)
        rw [this]
        have := hu i hlt hm' hh
        split <;> omega
    · rw [b0w _ hPU _ i (t.length + 1) oM oM]; omega
theorem b7w {x : Int} (h : wok 1 x = true) : b4a 1 x = 1 - x ∧ (x = 0 ∨ x = 1) := by
  have hw := pF.mp h
  have h2 : P2 1 = 2 := by decide
  rw [h2] at hw
  refine ⟨?_, oM⟩
  unfold b4a
  rw [if_pos h, h2]
  omega
theorem c3n {t : List S31} (hS : a3l t) (hl : t.length < 80) (env : List Int) (hV : a6e t env) :
    a6e (t ++ [nn t]) env ∧ sem (T (t ++ [nn t]) ((t ++ [nn t]).length - 1)) env = 1 - sem (T t (t.length - 1)) env ∧ (sem (T t (t.length - 1)) env = 0 ∨ sem (T t (t.length - 1)) env = 1) := by
  have hU := (b1d hS hl).1
  obtain ⟨hT, hW, _⟩ := hS
  have hPU := qV hU.2.2
  have hP := qV hT.2.2
  have h1 := hT.1
  obtain ⟨_, a, b, c, d⟩ := hV
  have hlen : (t ++ [nn t]).length = t.length + 1 := by simp
  have hrl := a9u t (nn t) hP h1 (a9z t)
  have hrt : (rl t).length = t.length := sU _ _ _
  have hg : ∀ i < t.length, (rl (t ++ [nn t])).getD i false = (rl t).getD i false := fun i hi => by
    rw [hrl, List.getD_eq_getElem?_getD, List.getD_eq_getElem?_getD, List.getElem?_append_left oM]
  have hroot : T (t ++ [nn t]) t.length = .un 2 1 0 0 (T t (t.length - 1)) := by
    rw [a7x hPU t.length oM, a9z, yT]
    show mkT _ _ _ _ [T (t ++ [nn t]) ((t.length : Int) - 1).toNat] = _
    rw [show ((t.length : Int) - 1).toNat = t.length - 1 by omega, a5p t _ hPU hP _ oM]
    rfl
  have hnq : ¬ isQ (t ++ [nn t]) t.length := by unfold isQ; rw [yT]; simp [nn]
  have hqs : a0i (t ++ [nn t]) (fun i => (rl (t ++ [nn t])).getD i false) (t.length + 1) = a0i t (fun i => (rl t).getD i false) t.length := by
    show (if _ then _ else _) = _
    rw [if_neg (fun h => hnq h.2), a6n t (nn t) _ (fun i => (rl t).getD i false) hg t.length (Nat.le_refl _)]
  have hgood : a3t (T t (t.length - 1)) env := b5q hT.2.2 (fun i => (rl t).getD i false = true) (fun i hi hm p hp => uE t hP (t.length - 1) oM i hi hm p hp) d (t.length - 1) env oM a (zW _ t (t.length - 1) oM) c
  have hwk := b4n hT.2.2 (t.length - 1) env oM hgood
  rw [show ((t.length - 1 : Nat) : Int) = (t.length : Int) - 1 by omega, hW] at hwk
  have hfl := b7w hwk
  refine ⟨⟨hU, a, ?_, ?_, fun i hi hm => ?_⟩, ?_, hfl.2⟩
  · rw [hlen, hqs]; exact b
  · rw [hlen, Nat.add_sub_cancel, hroot]
    intro v hv w hw
    simp only [fs] at hw
    rw [if_neg oM] at hw
    exact c v hv w hw
  · by_cases hlt : i < t.length
    · exact (b7j t _ hPU hP i hlt).mpr (d i hlt (by rw [← hg i hlt]; exact hm))
    · obtain rfl : i = t.length := by omega
      exact fun h => absurd h hnq
  · rw [hlen, Nat.add_sub_cancel, hroot]
    simp only [sem]
    rw [if_neg oM, c7w, show ((t.length - 1 : Nat) : Int) = (t.length : Int) - 1 by omega, hW]
    rcases hfl.2 with h | h <;> rw [h] <;> decide
theorem c0x {t : List S31} (hS : a3l t) : (a6e t (List.replicate 8 0) → Ev (fun k => uZ k t) (sem (T t (t.length - 1)) (List.replicate 8 0), true)) ∧ (¬ a6e t (List.replicate 8 0) → Ev (fun k => uZ k t) (0, false)) := by
  obtain ⟨h1, h2, h3⟩ := hS.1
  obtain ⟨v1, v2⟩ := a1f t (List.replicate 8 0)
  unfold uZ
  refine ⟨fun h => kO (c3g hS) (kD rfl (kO (zD h3 h2 h1) (kQ ?_ (kD (by decide) (kO (v1 h).2 pW))))), fun h => kO (c3g hS) (kD rfl (kO (zD h3 h2 h1) ?_))⟩
  · have := h.2.2.1; omega
  · by_cases c : a0i t (fun i => (rl t).getD i false) t.length > 12
    · exact kD c pW
    · exact kQ c (kD (by decide) (kO (v2 h).2 pW))
theorem b8l : Ev (fun k => xF k) (List.replicate 8 0) := by
  have : ∀ d i : Nat, i + d = 8 → Ev (fun k => sV k (List.replicate i 0) (i : Int)) (List.replicate 8 0) := by
    intro d
    induction d with
    | zero =>
      intro i hi
      refine kN ?_
      simp only [sV]
      obtain rfl : i = 8 := by omega
      exact kQ oM pW
    | succ d ih =>
      intro i hi
      refine kN ?_
      simp only [sV]
      rw [wS i, ← List.replicate_succ']
      exact kD oM (kD (by simp; omega) (ih (i + 1) oM))
  exact this 8 0 rfl
theorem c7o {t : List S31} (e : Ev (fun k => qK k t) true) : (a6e t (List.replicate 8 0) → Ev (fun k => wY k t) (sem (T t (t.length - 1)) (List.replicate 8 0), true)) ∧ (¬ a6e t (List.replicate 8 0) → Ev (fun k => wY k t) (0, false)) := by
  obtain ⟨v1, v2⟩ := a1f t (List.replicate 8 0)
  unfold wY
  exact ⟨fun h => kO e (kD rfl (kO b8l (kO (v1 h).1 pW))), fun h => kO e (kD rfl (kO b8l (kO (v2 h).1 pW)))⟩
theorem c7t {t : List S31} (hS : a3l t) : Ev (fun k => xR k t) (a0i t (fun i => (rl t).getD i false) t.length) := by
  obtain ⟨h1, h2, h3⟩ := hS.1
  unfold xR
  exact kO (c3g hS) (kD rfl (kO (zD h3 h2 h1) pW))
theorem FnDenied : laws_FnDenied.Pure := by
  intro l hm hl hw
  have hl : (l.length : Int) ≤ 140737488351232 := by omega
  refine b6p ?_
  unfold xK a1d
  refine qA rfl ?_
  by_cases hb : (l.length : Int) > 1048576
  · exact kD (by simpa using hb) pW
  refine kQ (by simpa using hb) ?_
  obtain ⟨t, ed, hS, hSe⟩ := b4o l hl
  refine kO ed ?_
  obtain ⟨i1, i2⟩ := c0x hS
  obtain ⟨s1, s2⟩ := c7o hSe
  by_cases hV : a6e t (List.replicate 8 0)
  rotate_left
  · refine kO (i2 hV) (kO (s2 hV) (kQ (by decide) (kD rfl (kN ?_))))
    simp only [tD]
    exact kD rfl (kD rfl (a8x rfl))
  refine kO (i1 hV) (kO (s1 hV) (kQ (by simp) (kD rfl (kN ?_))))
  simp only [tD]
  refine kQ (by simp) ?_
  by_cases h80 : (t.length : Int) ≥ 80
  · exact kD h80 pW
  have h1 := hS.1.1
  rw [kU (x := (t.length : Int) - 1) oM oM]
  refine kQ h80 (qA rfl (kD (by simp; omega) (qA rfl (kD (by simp; omega) (qA rfl ?_)))))
  rw [List.nil_append]
  show Ev (fun k => (uZ k (t ++ [nn t])).bind _) true
  obtain ⟨hVu, hsem, hbit⟩ := c3n hS oM _ hV
  have hSu := b1d hS oM
  refine kO ((c0x hSu).1 hVu) (kD rfl (kD ?_ (kO (c7t hSu) (kO (c7t hS) (a8x ?_)))))
  · show sem _ _ = _
    rw [hsem, kU oM oM]
  · have hP := qV hS.1.2.2
    have hrl := a9u t (nn t) hP h1 (a9z t)
    have hrt : (rl t).length = t.length := sU _ _ _
    have hg : ∀ i < t.length, (rl (t ++ [nn t])).getD i false = (rl t).getD i false := fun i hi => by
      rw [hrl, List.getD_eq_getElem?_getD, List.getD_eq_getElem?_getD, List.getElem?_append_left oM]
    show (a0i (t ++ [nn t]) (fun i => (rl (t ++ [nn t])).getD i false) (t ++ [nn t]).length == a0i t (fun i => (rl t).getD i false) t.length) = true
    rw [show (t ++ [nn t]).length = t.length + 1 by simp]
    have hnq : ¬ isQ (t ++ [nn t]) t.length := by unfold isQ; rw [yT]; simp [nn]
    have hqs : a0i (t ++ [nn t]) (fun i => (rl (t ++ [nn t])).getD i false) (t.length + 1) = a0i t (fun i => (rl t).getD i false) t.length := by
      show (if _ then _ else _) = _
      rw [if_neg (fun h => hnq h.2), a6n t (nn t) _ (fun i => (rl t).getD i false) hg t.length (Nat.le_refl _)]
    rw [hqs]; simp
end Go.Proofs.Ytkpipmojkhikaaa.Pure
