/- FnInstances: what the printed functions come to, for every input. -/
import Derived.Test.YtkpipmojkhikaaaVInstances0
import Derived.Test.YtkpipmojkhikaaaVInstances1
import Derived.Test.YtkpipmojkhikaaaVInstances2
import Derived.Test.YtkpipmojkhikaaaVInstances3
import Derived.Test.YtkpipmojkhikaaaVInstances4
import Derived.Test.YtkpipmojkhikaaaVInstances5
import Derived.Test.YtkpipmojkhikaaaVInstances6
import Derived.Test.YtkpipmojkhikaaaVInstances7
import Derived.Test.YtkpipmojkhikaaaVInstances8
import Derived.Test.YtkpipmojkhikaaaVInstances9
import Derived.Test.YtkpipmojkhikaaaVInstances10
import Derived.Test.YtkpipmojkhikaaaVInstances11
import Derived.Test.YtkpipmojkhikaaaVInstances12
import Derived.Test.YtkpipmojkhikaaaVInstances13
import Derived.Test.YtkpipmojkhikaaaVInstances14
import Derived.Test.YtkpipmojkhikaaaVInstances15
import Derived.Test.YtkpipmojkhikaaaVInstances16
import Derived.Test.YtkpipmojkhikaaaVInstances17
import Derived.Test.YtkpipmojkhikaaaVInstances18
import Derived.Test.YtkpipmojkhikaaaVInstances19
import Derived.Test.YtkpipmojkhikaaaVInstances20
import Derived.Test.YtkpipmojkhikaaaVInstances21
import Derived.Test.YtkpipmojkhikaaaVInstances22
import Derived.Test.YtkpipmojkhikaaaVInstances23
import Derived.Test.YtkpipmojkhikaaaVInstances24
import Derived.Test.YtkpipmojkhikaaaBase
import Derived.Test.YtkpipmojkhikaaaEv
set_option linter.unusedVariables false
set_option linter.unusedSimpArgs false
namespace Go.Proofs.Ytkpipmojkhikaaa.Pure.InstancesW
open Go.RowKit Go.Proofs.Ytkpipmojkhikaaa.PAll Go.Proofs.YtkpipmojkhikaaaW.PrintWords Go.Proofs.YtkpipmojkhikaaaW.PrintLast Go.Proofs.YtkpipmojkhikaaaW.PrintMore Go.Proofs.Ytkpipmojkhikaaa.Base
theorem a5u {w : Int} (h0 : 0 ≤ w) (h8 : w ≤ 8) {k : Nat} (hk : 20 ≤ k) : kZ k w = some (P2 w) := by
  obtain ⟨m, rfl⟩ := a7u hk
  have : w = 0 ∨ w = 1 ∨ w = 2 ∨ w = 3 ∨ w = 4 ∨ w = 5 ∨ w = 6 ∨ w = 7 ∨ w = 8 := by omega
  rcases this with rfl | rfl | rfl | rfl | rfl | rfl | rfl | rfl | rfl <;> simp [kZ, vU, P2, wrap64]
theorem inS (x a b : Int) : pK x a b = some (decide (a ≤ x ∧ x ≤ b)) := by
  unfold pK
  by_cases h : x ≥ a
  · rw [if_pos h]; simp [h]
  · rw [if_neg h]; simp [h]
theorem inI (x a b : Int) : pY x a b = some (decide (a ≤ x ∧ x ≤ b)) := by
  unfold pY
  by_cases h : x ≥ a
  · rw [if_pos h]; simp [h]
  · rw [if_neg h]; simp [h]
theorem b9u (w a : Int) {k : Nat} (hk : 20 ≤ k) : qY k w a = some (wok w a) := by
  unfold qY wok
  rw [inS]; simp only [Option.bind_some]
  by_cases h : 1 ≤ w ∧ w ≤ 8
  · have hp := qR (by omega : 0 ≤ w) h.2
    rw [if_pos (by simp [h]), a5u oM h.2 hk]; simp only [Option.bind_some]
    rw [inS, kO oM oM]; simp [h]
  · rw [if_neg (by simp; omega)]; simp; omega
theorem b9v (w a : Int) : qU w a = some (wok w a) := by
  unfold qU sU wok
  rw [inI]; simp only [Option.bind_some]
  by_cases h : 1 ≤ w ∧ w ≤ 8
  · have hp := qR (by omega : 0 ≤ w) h.2
    rw [if_pos (by simp [h]), if_pos (vL w), a0t oM oM, a1z oM h.2, inI, kO oM oM]
    simp [h]
  · rw [if_neg (by simp; omega)]; simp; omega
theorem b6l (w a b : Int) {k : Nat} (hk : 20 ≤ k) : qS k w a b = some (wok w a && wok w b) := by
  unfold qS
  rw [b9u w a hk, b9u w b hk]; cases wok w a <;> simp
theorem b6m (w a b : Int) : tW w a b = some (wok w a && wok w b) := by
  unfold tW
  rw [b9v w a, b9v w b]; cases wok w a <;> simp
theorem c6w {w x : Int} (h0 : 0 ≤ w) (h8 : w ≤ 8) (h1 : -9223372036854775808 ≤ x) (h2 : x ≤ 9223372036854775807) : wI w x = some (x % P2 w) := by
  unfold wI
  have hp := qR h0 h8
  rw [if_pos (vL w), a0t oM oM, a1z h0 h8, kO oM oM, c3e h0 h8 h1 h2]
theorem d0c (w a b : Int) {k : Nat} (hk : 20 ≤ k) : zX k w a b = some (if (wok w a && wok w b) = true then (a + b) % P2 w else 0) := by
  unfold zX
  rw [b6l w a b hk]; simp only [Option.bind_some]
  by_cases h : (wok w a && wok w b) = true
  · rw [if_pos h, if_pos h]
    obtain ⟨ha, hb⟩ := Bool.and_eq_true_iff.mp h
    obtain ⟨h1, h8, ha0, hA⟩ := pH.mp ha
    obtain ⟨_, _, hb0, hB⟩ := pH.mp hb
    have hp := qR (by omega : 0 ≤ w) h8
    rw [a5u oM h8 hk]; simp only [Option.bind_some]
    rw [if_neg oM, kO oM oM, Int.tmod_eq_emod_of_nonneg oM]
  · rw [if_neg h, if_neg h]
theorem d0d (w a b : Int) : a0i w a b = some (if (wok w a && wok w b) = true then (a + b) % P2 w else 0) := by
  unfold a0i
  rw [b6m w a b]; simp only [Option.bind_some]
  by_cases h : (wok w a && wok w b) = true
  · rw [if_pos h, if_pos h]
    obtain ⟨ha, hb⟩ := Bool.and_eq_true_iff.mp h
    obtain ⟨h1, h8, ha0, hA⟩ := pH.mp ha
    obtain ⟨_, _, hb0, hB⟩ := pH.mp hb
    have hp := qR (by omega : 0 ≤ w) h8
    rw [kO oM oM, c6w oM h8 oM oM]; rfl
  · rw [if_neg h, if_neg h]
theorem c9p (w a b : Int) {k : Nat} (hk : 20 ≤ k) : zO k w a b = some (if (wok w a && wok w b) = true then (a - b) % P2 w else 0) := by
  unfold zO
  rw [b6l w a b hk]; simp only [Option.bind_some]
  by_cases h : (wok w a && wok w b) = true
  · rw [if_pos h, if_pos h]
    obtain ⟨ha, hb⟩ := Bool.and_eq_true_iff.mp h
    obtain ⟨h1, h8, ha0, hA⟩ := pH.mp ha
    obtain ⟨_, _, hb0, hB⟩ := pH.mp hb
    have hp := qR (by omega : 0 ≤ w) h8
    rw [a5u oM h8 hk]; simp only [Option.bind_some]
    rw [if_neg oM, kO (x := a + P2 w) oM oM, kO oM oM, Int.tmod_eq_emod_of_nonneg oM,
      show a + P2 w - b = a - b + P2 w by omega, Int.add_emod_right]
  · rw [if_neg h, if_neg h]
theorem c9q (w a b : Int) : a0c w a b = some (if (wok w a && wok w b) = true then (a - b) % P2 w else 0) := by
  unfold a0c
  rw [b6m w a b]; simp only [Option.bind_some]
  by_cases h : (wok w a && wok w b) = true
  · rw [if_pos h, if_pos h]
    obtain ⟨ha, hb⟩ := Bool.and_eq_true_iff.mp h
    obtain ⟨h1, h8, ha0, hA⟩ := pH.mp ha
    obtain ⟨_, _, hb0, hB⟩ := pH.mp hb
    have hp := qR (by omega : 0 ≤ w) h8
    rw [kO oM oM, c6w oM h8 oM oM]; rfl
  · rw [if_neg h, if_neg h]
theorem c9y (w a b : Int) {k : Nat} (hk : 20 ≤ k) : zV k w a b = some (if (wok w a && wok w b) = true then (a * b) % P2 w else 0) := by
  unfold zV
  rw [b6l w a b hk]; simp only [Option.bind_some]
  by_cases h : (wok w a && wok w b) = true
  · rw [if_pos h, if_pos h]
    obtain ⟨ha, hb⟩ := Bool.and_eq_true_iff.mp h
    obtain ⟨h1, h8, ha0, hA⟩ := pH.mp ha
    obtain ⟨_, _, hb0, hB⟩ := pH.mp hb
    have hp := qR (by omega : 0 ≤ w) h8
    have hm := a4z ha0 (by omega : a ≤ 255) hb0 (by omega : b ≤ 255)
    rw [a5u oM h8 hk]; simp only [Option.bind_some]
    rw [if_neg oM, kO oM oM, Int.tmod_eq_emod_of_nonneg oM]
  · rw [if_neg h, if_neg h]
theorem c9z (w a b : Int) : a0g w a b = some (if (wok w a && wok w b) = true then (a * b) % P2 w else 0) := by
  unfold a0g
  rw [b6m w a b]; simp only [Option.bind_some]
  by_cases h : (wok w a && wok w b) = true
  · rw [if_pos h, if_pos h]
    obtain ⟨ha, hb⟩ := Bool.and_eq_true_iff.mp h
    obtain ⟨h1, h8, ha0, hA⟩ := pH.mp ha
    obtain ⟨_, _, hb0, hB⟩ := pH.mp hb
    have hp := qR (by omega : 0 ≤ w) h8
    have hm := a4z ha0 (by omega : a ≤ 255) hb0 (by omega : b ≤ 255)
    rw [kO oM oM, c6w oM h8 oM oM]; rfl
  · rw [if_neg h, if_neg h]
theorem d0a (w a b : Int) {k : Nat} (hk : 20 ≤ k) : zW k w a b = some (if (wok w a && wok w b) = true then (if b = 0 then P2 w - 1 else a / b) else 0) := by
  unfold zW
  rw [b6l w a b hk]; simp only [Option.bind_some]
  by_cases h : (wok w a && wok w b) = true
  · rw [if_pos h, if_pos h]
    obtain ⟨ha, hb⟩ := Bool.and_eq_true_iff.mp h
    obtain ⟨h1, h8, ha0, hA⟩ := pH.mp ha
    obtain ⟨_, _, hb0, hB⟩ := pH.mp hb
    have hp := qR (by omega : 0 ≤ w) h8
    by_cases h0 : b = 0
    · rw [if_pos h0, if_pos h0, a5u oM h8 hk]; simp only [Option.bind_some]
      rw [kO oM oM]
    · rw [if_neg h0, if_neg h0]
      have hq : 0 ≤ a / b ∧ a / b ≤ a := ⟨Int.ediv_nonneg ha0 hb0, Int.ediv_le_self _ ha0⟩
      try rw [if_neg h0]
      rw [Int.tdiv_eq_ediv_of_nonneg ha0, kO oM oM]
  · rw [if_neg h, if_neg h]
theorem d0b (w a b : Int) : a0h w a b = some (if (wok w a && wok w b) = true then (if b = 0 then P2 w - 1 else a / b) else 0) := by
  unfold a0h
  rw [b6m w a b]; simp only [Option.bind_some]
  by_cases h : (wok w a && wok w b) = true
  · rw [if_pos h, if_pos h]
    obtain ⟨ha, hb⟩ := Bool.and_eq_true_iff.mp h
    obtain ⟨h1, h8, ha0, hA⟩ := pH.mp ha
    obtain ⟨_, _, hb0, hB⟩ := pH.mp hb
    have hp := qR (by omega : 0 ≤ w) h8
    by_cases h0 : b = 0
    · rw [if_pos h0, if_pos h0]
      try rw [if_pos (vL w)]
      rw [a0t oM oM, a1z oM h8, kO oM oM]
    · rw [if_neg h0, if_neg h0]
      have hq : 0 ≤ a / b ∧ a / b ≤ a := ⟨Int.ediv_nonneg ha0 hb0, Int.ediv_le_self _ ha0⟩
      try rw [if_neg h0]
      rw [Int.tdiv_eq_ediv_of_nonneg ha0, kO oM oM]
  · rw [if_neg h, if_neg h]
theorem c9v (w a b : Int) {k : Nat} (hk : 20 ≤ k) : zU k w a b = some (if (wok w a && wok w b) = true then (if b = 0 then a else a % b) else 0) := by
  unfold zU
  rw [b6l w a b hk]; simp only [Option.bind_some]
  by_cases h : (wok w a && wok w b) = true
  · rw [if_pos h, if_pos h]
    obtain ⟨ha, hb⟩ := Bool.and_eq_true_iff.mp h
    obtain ⟨h1, h8, ha0, hA⟩ := pH.mp ha
    obtain ⟨_, _, hb0, hB⟩ := pH.mp hb
    have hp := qR (by omega : 0 ≤ w) h8
    by_cases h0 : b = 0
    · rw [if_pos h0, if_pos h0]
    · rw [if_neg h0, if_neg h0]
      try rw [if_neg h0]
      rw [Int.tmod_eq_emod_of_nonneg ha0]
  · rw [if_neg h, if_neg h]
theorem c9w (w a b : Int) : a0f w a b = some (if (wok w a && wok w b) = true then (if b = 0 then a else a % b) else 0) := by
  unfold a0f
  rw [b6m w a b]; simp only [Option.bind_some]
  by_cases h : (wok w a && wok w b) = true
  · rw [if_pos h, if_pos h]
    obtain ⟨ha, hb⟩ := Bool.and_eq_true_iff.mp h
    obtain ⟨h1, h8, ha0, hA⟩ := pH.mp ha
    obtain ⟨_, _, hb0, hB⟩ := pH.mp hb
    have hp := qR (by omega : 0 ≤ w) h8
    by_cases h0 : b = 0
    · rw [if_pos h0, if_pos h0]
    · rw [if_neg h0, if_neg h0]
      try rw [if_neg h0]
      rw [Int.tmod_eq_emod_of_nonneg ha0]
  · rw [if_neg h, if_neg h]
theorem c9r (w a b : Int) {k : Nat} (hk : 20 ≤ k) : zP k w a b = some (if (wok w a && wok w b) = true then (if b ≥ w then 0 else a / P2 b) else 0) := by
  unfold zP
  rw [b6l w a b hk]; simp only [Option.bind_some]
  by_cases h : (wok w a && wok w b) = true
  · rw [if_pos h, if_pos h]
    obtain ⟨ha, hb⟩ := Bool.and_eq_true_iff.mp h
    obtain ⟨h1, h8, ha0, hA⟩ := pH.mp ha
    obtain ⟨_, _, hb0, hB⟩ := pH.mp hb
    have hp := qR (by omega : 0 ≤ w) h8
    by_cases hw : b ≥ w
    · rw [if_pos hw, if_pos hw]
    · have hpb := qR hb0 (by omega : b ≤ 8)
      have hq : 0 ≤ a / P2 b ∧ a / P2 b ≤ a := ⟨Int.ediv_nonneg ha0 oM, Int.ediv_le_self _ ha0⟩
      rw [if_neg hw, if_neg hw, a5u hb0 oM hk]; simp only [Option.bind_some]
      rw [if_neg oM, Int.tdiv_eq_ediv_of_nonneg ha0, kO oM oM]
  · rw [if_neg h, if_neg h]
theorem c9s (w a b : Int) : a0d w a b = some (if (wok w a && wok w b) = true then (if b ≥ w then 0 else a / P2 b) else 0) := by
  unfold a0d
  rw [b6m w a b]; simp only [Option.bind_some]
  by_cases h : (wok w a && wok w b) = true
  · rw [if_pos h, if_pos h]
    obtain ⟨ha, hb⟩ := Bool.and_eq_true_iff.mp h
    obtain ⟨h1, h8, ha0, hA⟩ := pH.mp ha
    obtain ⟨_, _, hb0, hB⟩ := pH.mp hb
    have hp := qR (by omega : 0 ≤ w) h8
    by_cases hw : b ≥ w
    · rw [if_pos hw, if_pos hw]
    · rw [if_neg hw, if_neg hw, if_pos (vL b), a0t oM oM, b9z hb0 oM]
  · rw [if_neg h, if_neg h]
theorem c9t (w a b : Int) {k : Nat} (hk : 21 ≤ k) : zQ k w a b = some (if (wok w a && wok w b) = true then (if b ≥ w then 0 else (a * P2 b) % P2 w) else 0) := by
  unfold zQ
  obtain ⟨k, rfl⟩ : ∃ m, k = m + 1 := ⟨k - 1, oM⟩
  rw [b6l w a b oM]; simp only [Option.bind_some, yT]
  by_cases h : (wok w a && wok w b) = true
  · rw [if_pos h, if_pos h]
    obtain ⟨ha, hb⟩ := Bool.and_eq_true_iff.mp h
    obtain ⟨h1, h8, ha0, hA⟩ := pH.mp ha
    obtain ⟨_, _, hb0, hB⟩ := pH.mp hb
    have hp := qR (by omega : 0 ≤ w) h8
    by_cases hw : b ≥ w
    · rw [if_pos (by simpa using hw), if_pos hw]
    · have hpb := qR hb0 (by omega : b ≤ 8)
      have hm := a4z ha0 (by omega : a ≤ 255) (by omega : 0 ≤ P2 b) (by omega : P2 b ≤ 256)
      rw [if_neg (by simpa using hw), if_neg hw, a5u hb0 oM oM, a5u oM h8 oM]; simp only [Option.bind_some]
      rw [if_neg oM, kO oM oM, Int.tmod_eq_emod_of_nonneg oM]
  · rw [if_neg h, if_neg h]; rfl
theorem c9u (w a b : Int) : a0e w a b = some (if (wok w a && wok w b) = true then (if b ≥ w then 0 else (a * P2 b) % P2 w) else 0) := by
  unfold a0e
  rw [b6m w a b]; simp only [Option.bind_some]
  by_cases h : (wok w a && wok w b) = true
  · rw [if_pos h, if_pos h]
    obtain ⟨ha, hb⟩ := Bool.and_eq_true_iff.mp h
    obtain ⟨h1, h8, ha0, hA⟩ := pH.mp ha
    obtain ⟨_, _, hb0, hB⟩ := pH.mp hb
    have hp := qR (by omega : 0 ≤ w) h8
    by_cases hw : b ≥ w
    · rw [if_pos hw, if_pos hw]
    · have hpb := qR hb0 (by omega : b ≤ 8)
      have hm := a4z ha0 (by omega : a ≤ 255) (by omega : 0 ≤ P2 b) (by omega : P2 b ≤ 256)
      rw [if_neg hw, if_neg hw, if_pos (vL b), a0t oM oM, b3u ha0 oM hb0 oM, c6w oM h8 oM oM]; rfl
  · rw [if_neg h, if_neg h]
theorem c8v (w a : Int) {k : Nat} (hk : 20 ≤ k) : yV k w a = some (if wok w a = true then P2 w - 1 - a else 0) := by
  unfold yV
  rw [b9u w a hk]; simp only [Option.bind_some]
  by_cases ha : wok w a = true
  · rw [if_pos ha, if_pos ha]
    obtain ⟨h1, h8, ha0, hA⟩ := pH.mp ha
    have hp := qR (by omega : 0 ≤ w) h8
    rw [a5u oM h8 hk]; simp only [Option.bind_some]
    rw [kO (x := P2 w - 1) oM oM, kO oM oM]
  · rw [if_neg ha, if_neg ha]
theorem c8w (w a : Int) : zC w a = some (if wok w a = true then P2 w - 1 - a else 0) := by
  unfold zC
  rw [b9v w a]; simp only [Option.bind_some]
  by_cases ha : wok w a = true
  · rw [if_pos ha, if_pos ha]
    obtain ⟨h1, h8, ha0, hA⟩ := pH.mp ha
    have hp := qR (by omega : 0 ≤ w) h8
    rw [if_pos (vL w), a0t oM oM, a1z oM h8, kO (x := P2 w - 1) oM oM, kO oM oM]
  · rw [if_neg ha, if_neg ha]
theorem b5v (w a : Int) {k : Nat} (hk : 20 ≤ k) : wD k w a = some (if wok w a = true then (if a ≥ P2 (w - 1) then a - P2 w else a) else 0) := by
  unfold wD
  rw [b9u w a hk]; simp only [Option.bind_some]
  by_cases ha : wok w a = true
  · rw [if_pos ha, if_pos ha]
    obtain ⟨h1, h8, ha0, hA⟩ := pH.mp ha
    have hp := qR (by omega : 0 ≤ w) h8
    have hq := qR (by omega : 0 ≤ w - 1) oM
    rw [kO (x := w - 1) oM oM, a5u oM oM hk, a5u oM h8 hk]; simp only [Option.bind_some]
    by_cases hs : a ≥ P2 (w - 1)
    · rw [if_pos hs, if_pos hs, kO oM oM]
    · rw [if_neg hs, if_neg hs]
  · rw [if_neg ha, if_neg ha]
theorem b5w (w a : Int) : wJ w a = some (if wok w a = true then (if a ≥ P2 (w - 1) then a - P2 w else a) else 0) := by
  unfold wJ
  rw [b9v w a]; simp only [Option.bind_some]
  by_cases ha : wok w a = true
  · rw [if_pos ha, if_pos ha]
    obtain ⟨h1, h8, ha0, hA⟩ := pH.mp ha
    have hp := qR (by omega : 0 ≤ w) h8
    have hq := qR (by omega : 0 ≤ w - 1) oM
    rw [if_pos (vL _), kO (x := w - 1) oM oM, a0t (x := w - 1) oM oM, a0t (x := w) oM oM, a1z oM oM, a1z oM h8]
    by_cases hs : a ≥ P2 (w - 1)
    · rw [if_pos hs, if_pos hs, if_pos oM, kO oM oM]
    · rw [if_neg hs, if_neg hs]
  · rw [if_neg ha, if_neg ha]
theorem b5o (b : Bool) : sS b = some (if b = true then 1 else 0) := by
  unfold sS; cases b <;> simp
theorem c6x (b : Bool) : uW b = some (if b = true then 1 else 0) := by
  unfold uW; cases b <;> simp
theorem c8r (w a b : Int) {k : Nat} (hk : 20 ≤ k) : yU k w a b = some (if (wok w a && wok w b) = true ∧ a < b then 1 else 0) := by
  unfold yU
  rw [b6l w a b hk]; simp only [Option.bind_some]
  by_cases h : (wok w a && wok w b) = true
  · rw [if_pos h, b5o]; simp only [Option.bind_some]; by_cases hl : a < b <;> simp [h, hl]
  · rw [if_neg h, b5o]; simp only [Option.bind_some]; simp [h]
theorem c8s (w a b : Int) : zB w a b = some (if (wok w a && wok w b) = true ∧ a < b then 1 else 0) := by
  unfold zB
  rw [b6m w a b]; simp only [Option.bind_some]
  by_cases h : (wok w a && wok w b) = true
  · rw [if_pos h, c6x]; simp only [Option.bind_some]; by_cases hl : a < b <;> simp [h, hl]
  · rw [if_neg h, c6x]; simp only [Option.bind_some]; simp [h]
theorem a9s (w a b : Int) {k : Nat} (hk : 20 ≤ k) : uT k w a b = some (if (wok w a && wok w b) = true ∧ (if wok w a = true then (if a ≥ P2 (w - 1) then a - P2 w else a) else 0) < (if wok w b = true then (if b ≥ P2 (w - 1) then b - P2 w else b) else 0) then 1 else 0) := by
  unfold uT
  rw [b6l w a b hk, b5v w a hk, b5v w b hk]; simp only [Option.bind_some]
  by_cases h : (wok w a && wok w b) = true
  · rw [if_pos h, b5o]; simp only [Option.bind_some, decide_eq_true_eq, h, true_and]
  · rw [if_neg h, b5o]; simp only [Option.bind_some]; rw [if_neg (by simp), if_neg (fun z => h z.1)]
theorem a9t (w a b : Int) : uX w a b = some (if (wok w a && wok w b) = true ∧ (if wok w a = true then (if a ≥ P2 (w - 1) then a - P2 w else a) else 0) < (if wok w b = true then (if b ≥ P2 (w - 1) then b - P2 w else b) else 0) then 1 else 0) := by
  unfold uX
  rw [b6m w a b, b5w w a, b5w w b]; simp only [Option.bind_some]
  by_cases h : (wok w a && wok w b) = true
  · rw [if_pos h, c6x]; simp only [Option.bind_some, decide_eq_true_eq, h, true_and]
  · rw [if_neg h, c6x]; simp only [Option.bind_some]; rw [if_neg (by simp), if_neg (fun z => h z.1)]
theorem c6z (w a l n : Int) (hl1 : -9223372036854775808 ≤ l) (hl2 : l ≤ 9223372036854775807) {k : Nat} (hk : 21 ≤ k) : xZ k w a l n = some (if wok w a = true ∧ 0 ≤ l ∧ 1 ≤ n ∧ n ≤ w - l then a / P2 l % P2 n else 0) := by
  unfold xZ
  obtain ⟨k, rfl⟩ : ∃ m, k = m + 1 := ⟨k - 1, oM⟩
  rw [b9u w a oM]; simp only [Option.bind_some, wC]
  by_cases ha : wok w a = true
  · rw [if_pos ha]
    obtain ⟨h1, h8, ha0, hA⟩ := pH.mp ha
    have hp := qR (by omega : 0 ≤ w) h8
    by_cases hl : l < 0
    · rw [if_pos hl, if_pos trivial, if_neg oM]
    · rw [if_neg hl, inS, kO oM oM]; simp only [Option.bind_some]
      by_cases hn : 1 ≤ n ∧ n ≤ w - l
      · have hpl := qR (by omega : 0 ≤ l) (by omega : l ≤ 8)
        have hpn := qR (by omega : 0 ≤ n) (by omega : n ≤ 8)
        have hq : 0 ≤ a / P2 l ∧ a / P2 l ≤ a := ⟨Int.ediv_nonneg ha0 oM, Int.ediv_le_self _ ha0⟩
        rw [if_neg (by simpa using hn), if_pos ⟨ha, oM, hn.1, hn.2⟩, a5u oM oM oM, a5u oM oM oM]; simp only [Option.bind_some]
        rw [if_neg oM, if_neg oM, Int.tdiv_eq_ediv_of_nonneg ha0, kO oM oM, Int.tmod_eq_emod_of_nonneg oM]
      · rw [if_pos (by simp; omega), if_neg oM]
  · rw [if_neg ha, if_pos trivial, if_neg (fun z => ha z.1)]
theorem c7a (w a l n : Int) (hn1 : -9223372036854775808 ≤ n) (hn2 : n ≤ 9223372036854775807) : yE w a l n = some (if wok w a = true ∧ 0 ≤ l ∧ 1 ≤ n ∧ n ≤ w - l then a / P2 l % P2 n else 0) := by
  unfold yE
  rw [b9v w a]; simp only [Option.bind_some]
  by_cases ha : wok w a = true
  · rw [if_pos ha, inI]; simp only [Option.bind_some]
    obtain ⟨h1, h8, ha0, hA⟩ := pH.mp ha
    have hp := qR (by omega : 0 ≤ w) h8
    by_cases hn : 1 ≤ n ∧ n ≤ w
    · rw [if_pos (by simpa using hn), inI, kO oM oM]; simp only [Option.bind_some]
      by_cases hl : 0 ≤ l ∧ l ≤ w - n
      · have hpl := qR (by omega : 0 ≤ l) (by omega : l ≤ 8)
        have hpn := qR (by omega : 0 ≤ n) (by omega : n ≤ 8)
        have hq : 0 ≤ a / P2 l ∧ a / P2 l ≤ a := ⟨Int.ediv_nonneg ha0 oM, Int.ediv_le_self _ ha0⟩
        rw [if_pos (by simpa using hl), if_pos (vL l), a0t oM oM, b9z oM oM, c6w oM oM oM oM, if_pos ⟨ha, oM, oM, oM⟩]
        rfl
      · rw [if_neg (by simpa using hl), if_neg oM]
    · rw [if_neg (by simpa using hn), if_neg oM]
  · rw [if_neg ha, if_neg (fun z => ha z.1)]
def Cur (l : List Int) (i : Int) : Prop := 0 ≤ i ∧ i ≤ (l.length : Int) ∧ (l.length : Int) ≤ 140737488351232
theorem b1c (x : Int) : 0 ≤ Go.bits .and .i64 x 255 ∧ Go.bits .and .i64 x 255 ≤ 255 := by
  have hm : (BitVec.ofInt 64 (255 : Int)).toNat = 255 := by decide
  have hle : ((BitVec.ofInt 64 x).toNat &&& 255) ≤ 255 := Nat.and_le_right
  have e : Go.bits .and .i64 x 255 = IntKind.i64.wrap (((BitVec.ofInt 64 x).toNat &&& 255 : Nat) : Int) := by
    show IntKind.i64.wrap ((BitVec.ofInt 64 x &&& BitVec.ofInt 64 (255 : Int)).toNat : Int) = _
    rw [BitVec.toNat_and, hm]
  rw [e, IntKind.wrap_i64]
  omega
theorem a1c (l : List Int) (i h : Int) (hc : Cur l i) : ∃ x i' h', sQ l i h = some (x, i', h') ∧ 0 ≤ x ∧ x ≤ 255 ∧ Cur l i' := by
  unfold sQ
  obtain ⟨h0, h1, h2⟩ := hc
  by_cases hi : i < (l.length : Int)
  · rw [if_pos hi, if_pos h0]
    exact ⟨_, _, _, rfl, (b1c _).1, (b1c _).2, by rw [kO oM oM]; exact ⟨oM, oM, h2⟩⟩
  · rw [if_neg hi]
    exact ⟨_, _, _, rfl, (b1c _).1, (b1c _).2, h0, h1, h2⟩
theorem qI (l : List Int) (i h n : Int) (hc : Cur l i) : ∃ x i' h', kQ l i h n = some (x, i', h') ∧ 0 ≤ x ∧ (n ≤ 0 → x = 0) ∧ (0 < n → x < n) ∧ Cur l i' := by
  unfold kQ
  by_cases h0 : n ≤ 0
  · rw [if_pos h0]
    exact ⟨0, i, h, rfl, oM, fun _ => rfl, fun _ => by omega, hc⟩
  · rw [if_neg h0]
    by_cases h1 : n ≤ 256
    · rw [if_pos h1]
      obtain ⟨x, i1, h2, e, b0, b1, c1⟩ := a1c l i h hc
      rw [e]; simp only [Option.bind_some]
      rw [if_neg oM]
      refine ⟨_, _, _, rfl, ?_, oM, fun _ => ?_, c1⟩
      · exact Int.tmod_nonneg _ b0
      · rw [Int.tmod_eq_emod_of_nonneg b0]; exact Int.emod_lt_of_pos _ oM
    · rw [if_neg h1]
      obtain ⟨x, i1, z1, e1, b0, b1, c1⟩ := a1c l i h hc
      rw [e1]; simp only [Option.bind_some]
      obtain ⟨y, i2, z2, e2, d0, d1, c2⟩ := a1c l i1 z1 c1
      rw [e2]; simp only [Option.bind_some]
      obtain ⟨z, i3, z3, e3, f0, f1, c3⟩ := a1c l i2 z2 c2
      rw [e3]; simp only [Option.bind_some]
      obtain ⟨v, i4, z4, e4, g0, g1, c4⟩ := a1c l i3 z3 c3
      rw [e4]; simp only [Option.bind_some]
      rw [if_neg oM, kO (x := x * 16777216) oM oM, kO (x := y * 65536) oM oM, kO (x := x * 16777216 + y * 65536) oM oM, kO (x := z * 256) oM oM, kO (x := x * 16777216 + y * 65536 + z * 256) oM oM, kO oM oM]
      refine ⟨_, _, _, rfl, ?_, oM, fun _ => ?_, c4⟩
      · exact Int.tmod_nonneg _ oM
      · rw [Int.tmod_eq_emod_of_nonneg oM]; exact Int.emod_lt_of_pos _ oM
theorem yZ (l : List Int) (i h n : Int) (hc : Cur l i) : ∃ b i' h', qW l i h n = some (b, i', h') ∧ Cur l i' := by
  unfold qW
  obtain ⟨x, i1, h1, e, _, _, _, c⟩ := qI l i h n hc
  rw [e]; exact ⟨_, _, _, rfl, c⟩
theorem a3g (l : List Int) (i h : Int) (xs : List Int) (hx : xs ≠ []) (hc : Cur l i) : ∃ x i' h', tU l i h xs = some (x, i', h') ∧ x ∈ xs ∧ Cur l i' := by
  unfold tU
  have hl : 0 < (xs.length : Int) := by have := List.length_pos_iff.mpr hx; omega
  obtain ⟨x, i1, h1, e, x0, _, x1, c⟩ := qI l i h (xs.length : Int) hc
  rw [e]; simp only [Option.bind_some]
  have hlt := x1 hl
  rw [if_pos x0, if_pos hlt]
  refine ⟨_, _, _, rfl, ?_, c⟩
  unfold rd
  rw [List.getD_eq_getElem?_getD, List.getElem?_eq_getElem oM]
  exact List.getElem_mem _
theorem c8y {w : Int} (h0 : 0 ≤ w) (h8 : w ≤ 8) {k : Nat} (hk : 20 ≤ k) : a0a k w = some (P2 w) := by
  obtain ⟨m, rfl⟩ := a7u hk
  have : w = 0 ∨ w = 1 ∨ w = 2 ∨ w = 3 ∨ w = 4 ∨ w = 5 ∨ w = 6 ∨ w = 7 ∨ w = 8 := by omega
  rcases this with rfl | rfl | rfl | rfl | rfl | rfl | rfl | rfl | rfl <;> simp [a0a, zA, P2, wrap64]
theorem b5r (l : List Int) (hl : (l.length : Int) ≤ 140737488351232) (hw : ∀ x ∈ l, (Lit.int .u8 x).wf = true) (i : Int) (i0 : 0 ≤ i) (i1 : i ≤ 1000) : ∃ x, a0b l i = some x ∧ 0 ≤ x ∧ x ≤ 255 := by
  unfold a0b
  by_cases c : i < (l.length : Int)
  · rw [if_pos c, if_pos i0]
    have hm : rd l i ∈ l := by
      unfold rd
      rw [List.getD_eq_getElem?_getD, List.getElem?_eq_getElem oM]
      exact List.getElem_mem _
    have hb := hw _ hm
    have hmin : IntKind.u8.min = 0 := rfl
    have hmax : IntKind.u8.max = 255 := rfl
    simp only [Lit.wf, Bool.and_eq_true, decide_eq_true_eq] at hb
    rw [kO oM oM]
    exact ⟨_, rfl, oM, oM⟩
  · rw [if_neg c, kO (x := i * 7) oM oM, kO oM oM, Int.tmod_eq_emod_of_nonneg oM]
    exact ⟨_, rfl, oM, oM⟩
def c4b (op w a b : Int) : Int :=
  if op = 3 then Go.bits .and .i64 a b else if op = 4 then Go.bits .or .i64 a b else if op = 5 then Go.bits .xor .i64 a b
  else if op = 6 then (if (wok w a && wok w b) = true then (a + b) % P2 w else 0)
  else if op = 7 then (if (wok w a && wok w b) = true then (a - b) % P2 w else 0)
  else if op = 8 then (if (wok w a && wok w b) = true then (a * b) % P2 w else 0)
  else if op = 9 then (if (wok w a && wok w b) = true then (if b = 0 then P2 w - 1 else a / b) else 0)
  else if op = 10 then (if (wok w a && wok w b) = true then (if b = 0 then a else a % b) else 0)
  else if op = 11 then (if (wok w a && wok w b) = true then (if b ≥ w then 0 else (a * P2 b) % P2 w) else 0)
  else (if (wok w a && wok w b) = true then (if b ≥ w then 0 else a / P2 b) else 0)
def c7u (w a b : Int) : Int := if (wok w a && wok w b) = true ∧ a < b then 1 else 0
def c6a (w a b : Int) : Int := if (wok w a && wok w b) = true ∧ (if wok w a = true then (if a ≥ P2 (w - 1) then a - P2 w else a) else 0) < (if wok w b = true then (if b ≥ P2 (w - 1) then b - P2 w else b) else 0) then 1 else 0
def b9x (w a l n : Int) : Int := if wok w a = true ∧ 0 ≤ l ∧ 1 ≤ n ∧ n ≤ w - l then a / P2 l % P2 n else 0
def c2j (w a : Int) : Int := if wok w a = true then P2 w - 1 - a else 0
def a7m (W w a b c : Int) : Prop := (1 ≤ W ∧ W ≤ 8) ∧ (1 ≤ w ∧ w ≤ 8) ∧ (0 ≤ a ∧ a ≤ 255) ∧ (0 ≤ b ∧ b ≤ 255) ∧ (0 ≤ c ∧ c ≤ 255)
instance (W w a b c : Int) : Decidable (a7m W w a b c) := by unfold a7m; infer_instance
def b6e (op W K w a b c : Int) : Int :=
  if op = 0 then K else if op = 2 then c2j W a else if 3 ≤ op ∧ op ≤ 12 then c4b op W a b
  else if op = 13 then (if a = b then 1 else 0) else if op = 14 then c7u w a b else if op = 15 then c6a w a b
  else if op = 16 then (if W < w then b else a * P2 (W - w) + b)
  else if op = 17 then b9x w a K W
  else if op = 18 then (if a = 1 then b else c) else 0
def vF (op W K w a b c : Int) : Int := if a7m W w a b c then b6e op W K w a b c else 0
theorem b5s (op W K A B C w a b c : Int) (h : a7m W w a b c) (hk1 : -9223372036854775808 ≤ K) (hk2 : K ≤ 9223372036854775807) {k : Nat} (hk : 40 ≤ k) :
    rY k w a b c false op W K A B C = some (b6e op W K w a b c) := by
  obtain ⟨k, rfl⟩ : ∃ m, k = m + 1 := ⟨k - 1, oM⟩
  obtain ⟨⟨W1, W8⟩, ⟨w1, w8⟩, ⟨a0, a1⟩, ⟨b0, b1⟩, c0, c1⟩ := h
  simp only [rY]
  rw [if_neg (by simp)]
  unfold b6e
  by_cases h0 : op = 0
  · rw [if_pos h0, if_pos h0]
  rw [if_neg h0, if_neg h0]
  by_cases h2 : op = 2
  · rw [if_pos h2, if_pos h2, c8v _ _ oM]; rfl
  rw [if_neg h2, if_neg h2]
  by_cases hb : 3 ≤ op ∧ op ≤ 12
  · rw [if_pos hb]
    have hc : op = 3 ∨ op = 4 ∨ op = 5 ∨ op = 6 ∨ op = 7 ∨ op = 8 ∨ op = 9 ∨ op = 10 ∨ op = 11 ∨ op = 12 := by omega
    rw [d0c _ _ _ oM, c9p _ _ _ oM, c9y _ _ _ oM, d0a _ _ _ oM, c9v _ _ _ oM, c9t _ _ _ oM, c9r _ _ _ oM]
    rcases hc with rfl | rfl | rfl | rfl | rfl | rfl | rfl | rfl | rfl | rfl <;> simp [c4b]
  rw [if_neg (by omega : ¬ op = 3), if_neg (by omega : ¬ op = 4), if_neg (by omega : ¬ op = 5), if_neg (by omega : ¬ op = 6), if_neg (by omega : ¬ op = 7), if_neg (by omega : ¬ op = 8), if_neg (by omega : ¬ op = 9), if_neg (by omega : ¬ op = 10), if_neg (by omega : ¬ op = 11), if_neg (by omega : ¬ op = 12), if_neg hb]
  by_cases h13 : op = 13
  · rw [if_pos h13, if_pos h13, b5o]; simp
  rw [if_neg h13, if_neg h13]
  by_cases h14 : op = 14
  · rw [if_pos h14, if_pos h14, c8r _ _ _ oM]; rfl
  rw [if_neg h14, if_neg h14]
  by_cases h15 : op = 15
  · rw [if_pos h15, if_pos h15, a9s _ _ _ oM]; rfl
  rw [if_neg h15, if_neg h15]
  by_cases h16 : op = 16
  · rw [if_pos h16, if_pos h16]
    by_cases hw : W < w
    · rw [if_pos hw, if_pos hw]
    · have hp := qR (by omega : 0 ≤ W - w) oM
      have hm := a4z a0 a1 (by omega : 0 ≤ P2 (W - w)) hp.2
      rw [if_neg hw, if_neg hw, kO (x := W - w) oM oM, a5u oM oM oM]
      simp only [Option.bind_some]
      rw [kO (x := a * P2 (W - w)) oM oM, kO oM oM]
  rw [if_neg h16, if_neg h16]
  by_cases h17 : op = 17
  · rw [if_pos h17, if_pos h17, c6z _ _ _ _ hk1 hk2 oM]; rfl
  rw [if_neg h17, if_neg h17]
  by_cases h18 : op = 18
  · rw [if_pos h18, if_pos h18]; by_cases h1 : a = 1 <;> simp [h1]
  rw [if_neg h18, if_neg h18]
theorem a8q (op W K A B C w a b c : Int) {k : Nat} (hk : 1 ≤ k) : rY k w a b c true op W K A B C = some 0 := by
  obtain ⟨k, rfl⟩ : ∃ m, k = m + 1 := ⟨k - 1, oM⟩
  simp only [rY, if_true]
theorem c7o (op W K A B C w a b c : Int) (hk1 : -9223372036854775808 ≤ K) (hk2 : K ≤ 9223372036854775807) {k : Nat} (hk : 40 ≤ k) :
    yB k op W K A B C w a b c = some (vF op W K w a b c) := by
  unfold yB vF
  simp only [inS, Option.bind_some, decide_eq_true_eq, a8q op W K A B C w a b c (by omega : 1 ≤ k)]
  by_cases h : a7m W w a b c
  · rw [if_pos h]
    have h' := h
    obtain ⟨hW, hw, ha, hb, hc⟩ := h'
    simp only [hW, hw, ha, hb, hc, and_self, if_true, decide_true, Bool.not_true]
    exact b5s op W K A B C w a b c h hk1 hk2 hk
  · rw [if_neg h]
    unfold a7m at h
    by_cases hW : 1 ≤ W ∧ W ≤ 8
    · rw [if_pos hW]
      by_cases hw : 1 ≤ w ∧ w ≤ 8
      · rw [if_pos hw]
        by_cases ha : 0 ≤ a ∧ a ≤ 255
        · rw [if_pos ha]
          by_cases hb : 0 ≤ b ∧ b ≤ 255
          · rw [if_pos hb]
            have hc : ¬ (0 ≤ c ∧ c ≤ 255) := fun hc => h ⟨hW, hw, ha, hb, hc⟩
            rw [decide_eq_false hc]
            exact a8q op W K A B C w a b c oM
          · rw [if_neg hb]
        · rw [if_neg ha]
      · rw [if_neg hw]
    · rw [if_neg hW]
theorem c9o (op w a b : Int) (h : 3 ≤ op ∧ op ≤ 12) : xO op w a b = some (c4b op w a b) := by
  unfold xO
  have hc : op = 3 ∨ op = 4 ∨ op = 5 ∨ op = 6 ∨ op = 7 ∨ op = 8 ∨ op = 9 ∨ op = 10 ∨ op = 11 ∨ op = 12 := by omega
  rw [d0d, c9q, c9z, d0b, c9w, c9u, c9s]
  rcases hc with rfl | rfl | rfl | rfl | rfl | rfl | rfl | rfl | rfl | rfl <;> simp [c4b]
theorem a8s (op W K A B C b c : Int) (x : Bool) {k : Nat} (hk : 1 ≤ k) : wL k b c x op W K A B C = some (if x = true then b else if op = 18 then c else 0) := by
  obtain ⟨k, rfl⟩ : ∃ m, k = m + 1 := ⟨k - 1, oM⟩
  simp only [wL]
  cases x <;> simp
  by_cases h : op = 18 <;> simp [h]
theorem b5t (op W K A B C w a b c : Int) (h : a7m W w a b c) {k : Nat} (hk : 40 ≤ k) :
    rZ k w a b c false op W K A B C = some (b6e op W K w a b c) := by
  obtain ⟨k, rfl⟩ : ∃ m, k = m + 2 := ⟨k - 2, oM⟩
  obtain ⟨⟨W1, W8⟩, ⟨w1, w8⟩, ⟨a0, a1⟩, ⟨b0, b1⟩, c0, c1⟩ := h
  simp only [rZ, xP]
  rw [if_neg (by simp)]
  unfold b6e
  by_cases h0 : op = 0
  · rw [if_pos h0, if_pos h0]
  rw [if_neg h0, if_neg h0]
  by_cases h2 : op = 2
  · rw [if_pos h2, if_pos h2, c8w]; rfl
  rw [if_neg h2, if_neg h2, inI]
  simp only [Option.bind_some, decide_eq_true_eq]
  by_cases hb : 3 ≤ op ∧ op ≤ 12
  · rw [if_pos hb, if_pos hb, c9o _ _ _ _ hb]; rfl
  rw [if_neg hb, if_neg hb]
  by_cases h13 : op = 13
  · rw [if_pos h13, if_pos h13, c6x]; simp
  rw [if_neg h13, if_neg h13]
  by_cases h14 : op = 14
  · rw [if_pos h14, if_pos h14, c8s]; rfl
  rw [if_neg h14, if_neg h14]
  by_cases h15 : op = 15
  · rw [if_pos h15, if_pos h15, a9t]; rfl
  rw [if_neg h15, if_neg h15]
  by_cases h16 : op = 16
  · rw [if_pos h16, if_pos h16, if_pos h16]
    by_cases hw : W < w
    · rw [if_pos hw, if_pos hw]
    · have hp := qR (by omega : 0 ≤ W - w) oM
      have hm := a4z a0 a1 (by omega : 0 ≤ P2 (W - w)) hp.2
      rw [if_neg hw, if_neg hw, kO (x := W - w) oM oM, if_pos (vL _), a0t oM oM, b3u a0 a1 oM oM, kO oM oM]
  rw [if_neg h16, if_neg h16, if_neg h16, if_neg (by simp)]
  by_cases h17 : op = 17
  · rw [if_pos h17, if_pos h17, c7a _ _ _ _ oM oM]; rfl
  rw [if_neg h17, if_neg h17]
  by_cases h18 : op = 18
  · rw [if_pos h18, if_pos h18, a8s _ _ _ _ _ _ _ _ _ oM]; by_cases h1 : a = 1 <;> simp [h1, h18]
  rw [if_neg h18, if_neg h18, a8s _ _ _ _ _ _ _ _ _ oM]; simp [h18]
theorem a8r (op W K A B C w a b c : Int) {k : Nat} (hk : 1 ≤ k) : rZ k w a b c true op W K A B C = some 0 := by
  obtain ⟨k, rfl⟩ : ∃ m, k = m + 1 := ⟨k - 1, oM⟩
  simp only [rZ, if_true]
theorem c7p (op W K A B C w a b c : Int) {k : Nat} (hk : 40 ≤ k) :
    yF k op W K A B C w a b c = some (vF op W K w a b c) := by
  unfold yF sU wH vF
  simp only [inI, Option.bind_some, decide_eq_true_eq, a8r op W K A B C w a b c (by omega : 1 ≤ k)]
  by_cases h : a7m W w a b c
  · rw [if_pos h]
    have h' := h
    obtain ⟨hW, hw, ha, hb, hc⟩ := h'
    simp only [hW, hw, ha, hb, hc, and_self, if_true, decide_true, Bool.not_true]
    exact b5t op W K A B C w a b c h hk
  · rw [if_neg h]
    unfold a7m at h
    by_cases hW : 1 ≤ W ∧ W ≤ 8
    · rw [if_pos hW]
      by_cases hw : 1 ≤ w ∧ w ≤ 8
      · rw [if_pos hw]
        by_cases ha : 0 ≤ a ∧ a ≤ 255
        · rw [if_pos ha]
          by_cases hb : 0 ≤ b ∧ b ≤ 255
          · rw [if_pos hb]
            have hc : ¬ (0 ≤ c ∧ c ≤ 255) := fun hc => h ⟨hW, hw, ha, hb, hc⟩
            rw [decide_eq_false hc]
            exact a8r op W K A B C w a b c oM
          · rw [if_neg hb]
        · rw [if_neg ha]
      · rw [if_neg hw]
    · rw [if_neg hW]
theorem a3h (op w q a b c : Int) {k : Nat} (hk : 1 ≤ k) : sG k op w q a b c = some (kP op a b c) := by
  obtain ⟨k, rfl⟩ : ∃ m, k = m + 1 := ⟨k - 1, oM⟩
  unfold sG kP
  simp only [vB, inS]
  by_cases h2 : op = 2
  · subst h2; simp
  · by_cases h17 : op = 17
    · subst h17; simp
    · by_cases h19 : op = 19
      · subst h19; simp
      · by_cases h20 : op = 20
        · subst h20; simp
        · have hq : ¬ (op = 2 ∨ op = 17 ∨ op = 19 ∨ op = 20) := by omega
          rw [if_neg h2, if_neg h17, if_neg h19, if_neg (by simpa using h20), if_neg hq]
          simp only [Option.bind_some, decide_eq_true_eq]
          by_cases h3 : 3 ≤ op ∧ op ≤ 16
          · rw [if_pos h3, if_pos h3]
          · rw [if_neg h3, if_neg h3]
            by_cases h18 : op = 18
            · rw [if_pos h18, if_pos h18]
            · rw [if_neg h18, if_neg h18]
theorem rdN (l : List S31) (i : Nat) (h : i < l.length) : kA l (i : Int) = l[i] := by
  unfold kA
  rw [Int.toNat_natCast, List.getD_eq_getElem?_getD, List.getElem?_eq_getElem h]; rfl
theorem rdI (l : List Int) (i : Nat) (h : i < l.length) : rd l (i : Int) = l[i] := by simp [rd, h]
theorem rJ {x a b : Int} : inB x a b = true ↔ a ≤ x ∧ x ≤ b := by simp [inB]
theorem c4c (x a b : Int) : pK x a b = some (inB x a b) := inS x a b
theorem c3b (l : List S31) (i : Int) (hi0 : 0 ≤ i) (hi1 : i ≤ 9223372036854775807) (ps : List Int) (hps : ps.length ≤ 3) (n0 n1 n2 n3 n4 n5 : Int) (r : Bool)
    (h1 : (∀ p ∈ ps, inB p 0 (i - 1) = true) → Ev (fun k => sY k l i ps (ps.length : Int) n0 n1 n2 n3 n4 n5) r) (h2 : (¬ ∀ p ∈ ps, inB p 0 (i - 1) = true) → r = false) (d : Nat) :
    ∀ j : Nat, j + d = ps.length → (∀ t : Nat, t < j → inB (rd ps (t : Int)) 0 (i - 1) = true) → Ev (fun k => sY k l i ps (j : Int) n0 n1 n2 n3 n4 n5) r := by
  induction d with
  | zero =>
    intro j hj hA
    obtain rfl : j = ps.length := by omega
    refine h1 fun p hp => ?_
    obtain ⟨t, ht, rfl⟩ := List.getElem_of_mem hp
    rw [← rdI ps t ht]; exact hA t ht
  | succ d ih =>
    intro j hj hA
    have hlt : j < ps.length := by omega
    refine kJ ?_
    simp only [sY]
    refine kD oM (kD oM (pI (c4c _ _ _) ?_))
    rw [kO (x := i - 1) oM oM]
    by_cases hb : inB (rd ps (j : Int)) 0 (i - 1) = true
    · refine kD hb ?_
      rw [kO oM oM]
      refine ih (j + 1) oM fun t ht => ?_
      rcases Nat.lt_or_ge t j with h | h
      · exact hA t h
      · obtain rfl : t = j := by omega
        exact hb
    · refine kL hb ?_
      rw [h2 fun h => hb (by rw [rdI ps j hlt]; exact h _ (List.getElem_mem hlt))]
      exact qO
theorem c3a (l : List S31) (hl : l.length ≤ 4611686018427387904) (ps : List Int) (hps : ps.length ≤ 3) (hp : ∀ p ∈ ps, 0 ≤ p ∧ p < (l.length : Int)) (n0 n1 n2 n3 n4 n5 : Int) (r : Bool)
    (h : Ev (fun k => rU k l ps (ps.map fun p => (kA l p).f1) (ps.length : Int) n0 n1 n2 n3 n4 n5) r) (d : Nat) :
    ∀ j : Nat, j + d = ps.length → Ev (fun k => rU k l ps ((ps.take j).map fun p => (kA l p).f1) (j : Int) n0 n1 n2 n3 n4 n5) r := by
  induction d with
  | zero =>
    intro j hj
    obtain rfl : j = ps.length := by omega
    rw [List.take_of_length_le oM]; exact h
  | succ d ih =>
    intro j hj
    have hlt : j < ps.length := by omega
    have hq := hp _ (List.getElem_mem hlt)
    refine kJ ?_
    simp only [rU]
    rw [rdI ps j hlt]
    refine kD oM (kD oM (kD hq.1 (kD hq.2 (kD (by simp; omega) ?_))))
    rw [wS j]
    have := ih (j + 1) oM
    rwa [List.take_succ_eq_append_getElem hlt, List.map_append] at this
theorem a7e (l : List S31) (i : Nat) (p : Int) (h0 : 0 ≤ p) (h1 : p < i) : kA (l.take i) p = kA l p := by
  unfold kA
  rw [List.getD_eq_getElem?_getD, List.getD_eq_getElem?_getD, List.getElem?_take, if_pos oM]
theorem c7v (l : List S31) (ps ws : List Int) (op W K A B C : Int) (hps : ps = kP op A B C) (hws : ws.length = ps.length) :
    Ev (fun k => rU k l ps ws (ps.length : Int) op W K A B C) (inB op 0 20 && xY op K A B C && pO op W K B (ws.getD 0 0) (ws.getD 1 0) (ws.getD 2 0)) := by
  have hl := qV op A B C
  refine zD 60 fun k hk => ?_
  obtain ⟨k, rfl⟩ : ∃ m, k = m + 2 := ⟨k - 2, oM⟩
  simp only [rU]
  rw [if_neg oM, b9u _ _ oM, c4c, c4c, c4c]
  simp only [Option.bind_some, vT, c4c]
  have rd0 : rd ws 0 = ws.getD 0 0 := rfl
  have rd1 : rd ws 1 = ws.getD 1 0 := rfl
  have rd2 : rd ws 2 = ws.getD 2 0 := rfl
  rw [rd0, rd1, rd2]
  generalize ws.getD 0 0 = u
  generalize ws.getD 1 0 = v
  generalize ws.getD 2 0 = x
  by_cases h0 : op = 0
  · subst h0; simp [inB, xY, pO]; by_cases g : wok W K = true <;> by_cases a : A = 0 <;> by_cases b : B = 0 <;> simp [g, a, b]
  rw [if_neg h0]
  by_cases h1 : op = 1
  · subst h1; by_cases g : inB K 0 7 = true <;> by_cases a : A = 0 <;> by_cases b : B = 0 <;> simp [xY, pO, g, a, b, rJ.mpr (show (0 : Int) ≤ 1 ∧ (1 : Int) ≤ 20 by omega)]
  rw [if_neg h1]
  by_cases h2 : op = 2
  · subst h2
    have hn : (0 : Int) < (ws.length : Int) := by rw [hws, hps]; simp [kP]
    rw [if_pos rfl, if_pos hn]
    by_cases a : u = W <;> by_cases b : K = 0 <;> by_cases c : B = 0 <;> simp [inB, xY, pO, a, b, c]
  rw [if_neg h2]
  by_cases h3 : 3 ≤ op ∧ op ≤ 12
  · have e : ps = [A, B] := by rw [hps]; unfold kP; rw [if_neg oM, if_pos oM]
    have hn : ws.length = 2 := by rw [hws, e]; rfl
    rw [if_pos (rJ.mpr h3), if_pos oM, if_pos (c := (1 : Int) < _) oM]
    have hu : xY op K A B C = (K == 0 && C == 0) := by unfold xY; rw [if_neg oM, if_neg oM, if_neg oM, if_neg oM, if_pos oM]
    have hr : pO op W K B u v x = (u == W && v == W) := by unfold pO; rw [if_neg oM, if_neg oM, if_neg oM, if_pos oM]
    rw [hu, hr, rJ.mpr (show 0 ≤ op ∧ op ≤ 20 by omega)]
    by_cases a : u = W <;> by_cases b : K = 0 <;> by_cases c : v = W <;> simp [a, b, c]
  rw [if_neg (fun h => h3 (rJ.mp h))]
  by_cases h4 : 13 ≤ op ∧ op ≤ 15
  · have e : ps = [A, B] := by rw [hps]; unfold kP; rw [if_neg oM, if_pos oM]
    have hn : ws.length = 2 := by rw [hws, e]; rfl
    rw [if_pos (rJ.mpr h4), if_pos oM, if_pos (c := (1 : Int) < _) oM]
    have hu : xY op K A B C = (K == 0 && C == 0) := by unfold xY; rw [if_neg oM, if_neg oM, if_neg oM, if_neg oM, if_pos oM]
    have hr : pO op W K B u v x = (u == v && W == 1) := by unfold pO; rw [if_neg oM, if_neg oM, if_neg oM, if_neg oM, if_pos oM]
    rw [hu, hr, rJ.mpr (show 0 ≤ op ∧ op ≤ 20 by omega)]
    by_cases a : u = v <;> by_cases b : K = 0 <;> by_cases c : W = 1 <;> simp [a, b, c]
  rw [if_neg (fun h => h4 (rJ.mp h))]
  by_cases h16 : op = 16
  · subst h16
    have hn : ws.length = 2 := by rw [hws, hps]; rfl
    rw [if_pos rfl, if_pos oM, if_pos (c := (1 : Int) < _) oM]
    by_cases a : wrap64 (u + v) = W <;> by_cases b : K = 0 <;> simp [inB, xY, pO, a, b]
  rw [if_neg h16]
  by_cases h17 : op = 17
  · subst h17
    have hn : ws.length = 1 := by rw [hws, hps]; rfl
    rw [if_pos rfl, if_pos (c := (0 : Int) < _) oM]
    by_cases a : 0 ≤ K <;> by_cases b : K ≤ wrap64 (u - W) <;> by_cases c : B = 0 <;> simp [inB, xY, pO, a, b, c]
  rw [if_neg h17]
  by_cases h18 : op = 18
  · subst h18
    have hn : ws.length = 3 := by rw [hws, hps]; rfl
    rw [if_pos rfl, if_pos (c := (0 : Int) < _) oM, if_pos (c := (1 : Int) < _) oM, if_pos (c := (2 : Int) < _) oM]
    by_cases a : u = 1 <;> by_cases b : v = W <;> by_cases c : x = W <;> simp [inB, xY, pO, a, b, c]
  rw [if_neg h18]
  by_cases h19 : op = 19
  · subst h19
    have hn : ws.length = 1 := by rw [hws, hps]; rfl
    rw [if_pos rfl, if_pos trivial, if_pos (c := (0 : Int) < _) oM]
    by_cases a : inB K 0 7 = true <;> by_cases b : inB B 1 8 = true <;> by_cases c : u = 1 <;> by_cases d : W = 1 <;> simp [xY, pO, a, b, c, d, rJ.mpr (show (0 : Int) ≤ 19 ∧ (19 : Int) ≤ 20 by omega)]
  rw [if_neg h19]
  by_cases h20 : op = 20
  · subst h20
    have hn : ws.length = 1 := by rw [hws, hps]; rfl
    rw [if_pos (by rfl), if_pos (c := (0 : Int) < _) oM]
    by_cases a : inB K 0 7 = true <;> by_cases b : inB B 1 8 = true <;> by_cases c : u = 1 <;> by_cases d : W = 1 <;> simp [xY, pO, a, b, c, d, rJ.mpr (show (0 : Int) ≤ 20 ∧ (20 : Int) ≤ 20 by omega)]
  rw [if_neg (by simpa using h20)]
  have hn : inB op 0 20 = false := by simp [inB]; omega
  simp [hn]
theorem c3c (l : List S31) (hl : l.length ≤ 4611686018427387904) (i : Nat) (hi : i < l.length) : Ev (fun k => wV k l (i : Int)) (xM (l.take i) (kA l i).f0 (kA l i).f1 (kA l i).f2 (kA l i).f3 (kA l i).f4 (kA l i).f5) := by
  unfold wV
  refine kD oM (kD oM (kV (zD 1 fun k hk => a3h _ _ _ _ _ _ hk) ?_))
  generalize (kA l i).f0 = op
  generalize (kA l i).f1 = W
  generalize (kA l i).f2 = K
  generalize (kA l i).f3 = A
  generalize (kA l i).f4 = B
  generalize (kA l i).f5 = C
  have hlen := qV op A B C
  have htk : ((l.take i).length : Int) = i := by rw [List.length_take]; omega
  refine c3b l i oM oM _ hlen op W K A B C _ (fun hall => ?_) (fun hn => ?_) _ 0 (Nat.zero_add _) (fun t ht => absurd ht oM)
  · refine kJ ?_
    simp only [sY]
    refine kL oM (pI (c4c _ _ _) ?_)
    have hall' : (kP op A B C).all (fun p => inB p 0 (((l.take i).length : Int) - 1)) = true := by rw [htk]; exact List.all_eq_true.mpr hall
    unfold xM
    rw [hall']
    by_cases hw : inB W 1 8 = true
    · refine kD hw ?_
      rw [hw]
      have hwv : ∀ t : Nat, wv (l.take i) (kP op A B C) (kP op A B C).length t = ((kP op A B C).map fun p => (kA l p).f1).getD t 0 := by
        intro t
        unfold wv
        by_cases ht : t < (kP op A B C).length
        · rw [if_pos ht, rdI _ t ht, List.getD_eq_getElem?_getD, List.getElem?_map, List.getElem?_eq_getElem ht]
          have := rJ.mp (hall _ (List.getElem_mem ht))
          rw [a7e l i _ this.1 oM]; rfl
        · rw [if_neg ht, List.getD_eq_getElem?_getD, List.getElem?_eq_none (by simp; omega)]; rfl
      rw [hwv, hwv, hwv]
      simp only [Bool.true_and, Bool.and_true]
      exact c3a l hl _ hlen (fun p hp => by have := rJ.mp (hall p hp); omega) op W K A B C _ (c7v l _ _ op W K A B C rfl (by simp)) _ 0 (Nat.zero_add _)
    · have hw' : inB W 1 8 = false := by simpa using hw
      refine kL hw ?_
      rw [hw']; simp only [Bool.false_and]; exact qO
  · unfold xM
    have hnot : (kP op A B C).all (fun p => inB p 0 (((l.take i).length : Int) - 1)) = false := by
      rw [htk]
      cases e : (kP op A B C).all (fun p => inB p 0 ((i : Int) - 1)) with
      | false => rfl
      | true => exact absurd (List.all_eq_true.mp e) hn
    rw [hnot]; simp
def a2a (l : List S31) (i : Nat) : Bool := xM (l.take i) (kA l i).f0 (kA l i).f1 (kA l i).f2 (kA l i).f3 (kA l i).f4 (kA l i).f5
def qH (l : List S31) : Prop := ∀ i < l.length, a2a l i = true
def wO (l : List S31) : Prop := 1 ≤ l.length ∧ l.length ≤ 80 ∧ qH l
theorem b1i (l : List S31) (hl : l.length ≤ 80) (d : Nat) : ∀ i : Nat, i + d = l.length → ∃ r, Ev (fun k => tS k l (i : Int)) r ∧ Ev (fun k => tT k l l (l.length : Int) (i : Int)) r ∧ (r = true ↔ ∀ j < l.length, i ≤ j → a2a l j = true) := by
  induction d with
  | zero =>
    intro i hi
    refine ⟨true, kJ ?_, kJ ?_, by simp; intro j h1 h2; omega⟩
    · simp only [tS]; exact kL oM qO
    · simp only [tT]; exact kL oM qO
  | succ d ih =>
    intro i hi
    have hlt : i < l.length := by omega
    obtain ⟨r, e1, e2, h⟩ := ih (i + 1) oM
    have hn := c3c l oM i hlt
    by_cases hb : a2a l i = true
    · refine ⟨r, kJ ?_, kJ ?_, ?_⟩
      · simp only [tS]
        refine kD oM (kV hn (kD hb ?_))
        rw [wS i]; exact e1
      · simp only [tT]
        refine kD oM (kD oM (kD oM (kD oM (pI rfl (kD hb ?_)))))
        rw [wS i]; exact e2
      · rw [h]
        constructor
        · intro hh j h1 h2
          rcases Nat.lt_or_ge i j with h3 | h3
          · exact hh j h1 h3
          · obtain rfl : i = j := by omega
            exact hb
        · intro hh j h1 h2
          exact hh j h1 oM
    · refine ⟨false, kJ ?_, kJ ?_, ?_⟩
      · simp only [tS]
        exact kD oM (kV hn (kL hb qO))
      · simp only [tT]
        exact kD oM (kD oM (kD oM (kD oM (pI rfl (kL hb qO)))))
      · simp only [Bool.false_eq_true, false_iff]
        intro hh
        exact hb (hh i hlt oM)
theorem a4r (l : List S31) : ∃ r, Ev (fun k => rW k l) r ∧ Ev (fun k => uK k l) r ∧ (r = true ↔ wO l) := by
  by_cases hb : 1 ≤ (l.length : Int) ∧ (l.length : Int) ≤ 80
  · obtain ⟨r, e1, e2, h⟩ := b1i l oM l.length 0 oM
    refine ⟨r, ?_, ?_, ?_⟩
    · unfold rW; exact pI (inS _ _ _) (kD (by simpa using hb) e1)
    · unfold uK; exact pI (inI _ _ _) (kD (by simpa using hb) e2)
    · rw [h]; unfold wO qH
      constructor
      · intro hh; exact ⟨oM, oM, fun i hi => hh i hi oM⟩
      · intro hh j h1 _; exact hh.2.2 j h1
  · refine ⟨false, ?_, ?_, ?_⟩
    · unfold rW; exact pI (inS _ _ _) (kL (by simpa using hb) qO)
    · unfold uK; exact pI (inI _ _ _) (kL (by simpa using hb) qO)
    · simp only [Bool.false_eq_true, false_iff]; unfold wO; omega
def pl (l : List S31) (i : Nat) : List Int := kP (kA l i).f0 (kA l i).f3 (kA l i).f4 (kA l i).f5
def pV (l : List S31) : Prop := ∀ i < l.length, ∀ p ∈ pl l i, 0 ≤ p ∧ p < (i : Int)
theorem rP {l : List S31} (h : qH l) : pV l := by
  intro i hi p hp
  have hb := h i hi
  unfold a2a xM at hb
  simp only [Bool.and_eq_true] at hb
  have := rJ.mp (List.all_eq_true.mp hb.1.2 p hp)
  rw [List.length_take] at this
  omega
def vV (met : List Bool) (ps : List Int) : List Bool := ps.foldl (fun m p => m.set p.toNat true) met
theorem a1i (ps : List Int) : ∀ met : List Bool, (vV met ps).length = met.length := by
  induction ps with
  | nil => intro met; rfl
  | cons p ps ih => intro met; show (vV (met.set p.toNat true) ps).length = _; rw [ih, List.length_set]
def wR (pb : Nat → Bool) (l : List S31) (j : Nat) (met : List Bool) : List Bool := if met.getD j false = true ∧ pb j = true then vV met (pl l j) else met
def rgo (pb : Nat → Bool) (l : List S31) : Nat → List Bool → List Bool
  | 0, met => met
  | j + 1, met => rgo pb l j (wR pb l j met)
theorem a2k (pb : Nat → Bool) (l : List S31) (j : Nat) (met : List Bool) : (wR pb l j met).length = met.length := by
  unfold wR; split
  · rw [a1i]
  · rfl
theorem c2s (pb : Nat → Bool) (l : List S31) (j : Nat) : ∀ met, (rgo pb l j met).length = met.length := by
  induction j with
  | zero => intro met; rfl
  | succ j ih => intro met; show (rgo pb l j _).length = _; rw [ih, a2k]
def vI (pb : Nat → Bool) (l : List S31) (root : Nat) : List Bool := rgo pb l (root + 1) ((List.replicate l.length false).set root true)
theorem wG (pb : Nat → Bool) (l : List S31) (root : Nat) : (vI pb l root).length = l.length := by unfold vI; rw [c2s]; simp
theorem rdB (l : List Bool) (i : Nat) (h : i < l.length) : a0j false l (i : Int) = l[i] := by
  unfold a0j
  rw [Int.toNat_natCast, List.getD_eq_getElem?_getD, List.getElem?_eq_getElem h]; rfl
theorem gdB (l : List Bool) (i : Nat) (h : i < l.length) : l.getD i false = l[i] := by
  rw [List.getD_eq_getElem?_getD, List.getElem?_eq_getElem h]; rfl
theorem a4t (ps : List Int) (t : Nat) (h : t < ps.length) (met : List Bool) : vV met (ps.drop t) = vV (met.set (rd ps (t : Int)).toNat true) (ps.drop (t + 1)) := by
  rw [List.drop_eq_getElem_cons h, rdI ps t h]; rfl
theorem b4g (pf : Int → Option Bool) (l : List S31) (x8 : Int) (ps : List Int) (hps : ps.length ≤ 3) (hp : ∀ p ∈ ps, 0 ≤ p ∧ p < (l.length : Int)) (R : List Bool) (d : Nat) : ∀ (t : Nat) (met : List Bool), t + d = ps.length → met.length = l.length →
    Ev (fun k => sT pf k l (vV met (ps.drop t)) (wrap64 (x8 - 1))) R → Ev (fun k => vC pf k l met x8 ps (ps.length : Int) (t : Int)) R := by
  induction d with
  | zero =>
    intro t met ht hm h
    refine kJ ?_
    simp only [vC]
    refine kL oM ?_
    rw [List.drop_eq_nil_of_le oM] at h
    exact h
  | succ d ih =>
    intro t met ht hm h
    have hlt : t < ps.length := by omega
    have hq := hp _ (List.getElem_mem hlt)
    refine kJ ?_
    simp only [vC]
    rw [a4t ps t hlt] at h
    refine kD oM (kD oM (kD oM (kD (by rw [rdI ps t hlt]; exact hq.1) (kD (by rw [rdI ps t hlt]; omega) ?_))))
    rw [wS t]
    exact ih (t + 1) _ oM (by rw [List.length_set]; exact hm) h
theorem b4h (pf : Int → Option Bool) (pb : Nat → Bool) (l : List S31) (hl : l.length ≤ 4611686018427387904) (hP : pV l) (hpf : ∀ i : Nat, i < l.length → pf (i : Int) = some (pb i)) (j : Nat) : ∀ met : List Bool, j ≤ l.length → met.length = l.length →
    Ev (fun k => sT pf k l met ((j : Int) - 1)) (rgo pb l j met) := by
  induction j with
  | zero =>
    intro met hj hm
    refine kJ ?_
    simp only [sT]
    exact kL oM qO
  | succ j ih =>
    intro met hj hm
    have hlt : j < met.length := by omega
    rw [show ((j + 1 : Nat) : Int) - 1 = (j : Int) by omega]
    show Ev _ (rgo pb l j (wR pb l j met))
    refine kJ ?_
    simp only [sT]
    refine kD oM (kD oM (kD oM ?_))
    rw [rdB met j hlt]
    have jump : ∀ met' : List Bool, met'.length = l.length → Ev (fun k => sT pf k l met' (wrap64 ((j : Int) - 1))) (rgo pb l j met') := by
      intro met' hm'
      rw [kO oM oM]
      exact ih met' oM hm'
    by_cases hb : met[j] = true
    · refine kD hb (pI (hpf j oM) ?_)
      by_cases hq : pb j = true
      · have hs : wR pb l j met = vV met (pl l j) := by unfold wR; rw [if_pos ⟨by rw [gdB met j hlt]; exact hb, hq⟩]
        rw [hq, hs]
        refine kJ ?_
        simp only [vD]
        refine kL (by decide) (kD oM (kD oM (kV (zD 1 fun k hk => b0r _ _ _ _ _ _ hk) ?_)))
        have h0 := b4g pf l (j : Int) (pl l j) (qV _ _ _ _) (fun p hp => by have := hP j oM p hp; omega) (rgo pb l j (vV met (pl l j))) (pl l j).length 0 met oM hm (jump _ (by rw [List.drop_zero, a1i]; exact hm))
        exact h0
      · have hq' : pb j = false := by simpa using hq
        have hs : wR pb l j met = met := by unfold wR; rw [if_neg (fun h => hq h.2)]
        rw [hq', hs]
        refine kJ ?_
        simp only [vD]
        exact kD rfl (jump met hm)
    · have hs : wR pb l j met = met := by unfold wR; rw [if_neg (fun h => hb (by rw [← gdB met j hlt]; exact h.1))]
      rw [hs]
      refine kL hb ?_
      refine kJ ?_
      simp only [vD]
      exact kD trivial (jump met hm)
theorem a7d (pf : Int → Option Bool) (pb : Nat → Bool) (l : List S31) (hl : l.length ≤ 281474976710656) (hP : pV l) (hpf : ∀ i : Nat, i < l.length → pf (i : Int) = some (pb i)) (root : Nat) (hr : root < l.length) :
    Ev (fun k => vX pf k l (root : Int)) (vI pb l root) := by
  unfold vX
  refine kD oM (kD oM (pI rfl (kD oM (kD (by simp; omega) ?_))))
  have := b4h pf pb l oM hP hpf (root + 1) ((List.replicate l.length false).set root true) oM (by simp)
  rw [show ((root + 1 : Nat) : Int) - 1 = (root : Int) by omega] at this
  rw [Int.toNat_natCast, Int.toNat_natCast]
  exact this
theorem a6c (l : List S31) (hl : l.length ≤ 281474976710656) (h0 : 1 ≤ l.length) (hP : pV l) : Ev (fun k => vP k l) (vI (fun _ => true) l (l.length - 1)) := by
  unfold vP
  rw [kO oM oM, show (l.length : Int) - 1 = ((l.length - 1 : Nat) : Int) by omega]
  exact kV (a7d yJ (fun _ => true) l hl hP (fun i _ => rfl) (l.length - 1) oM) qO
theorem b4d (l : List S31) (i : Nat) (hi : i < l.length) (ps : List Int) (hps : ps.length ≤ 3) (hp : ∀ p ∈ ps, 0 ≤ p ∧ p < (l.length : Int)) (R : List Bool) (d : Nat) : ∀ (t : Nat) (met : List Bool), t + d = ps.length → met.length = l.length → met.getD i false = true →
    Ev (fun k => qP k l (vV met (ps.drop t)) (wrap64 ((i : Int) - 1))) R → Ev (fun k => sA k l met (i : Int) ps (t : Int)) R := by
  induction d with
  | zero =>
    intro t met ht hm hb h
    refine kJ ?_
    simp only [sA]
    refine kL oM ?_
    rw [List.drop_eq_nil_of_le oM] at h
    exact h
  | succ d ih =>
    intro t met ht hm hb h
    have hlt : t < ps.length := by omega
    have hq := hp _ (List.getElem_mem hlt)
    have him : i < met.length := by omega
    refine kJ ?_
    simp only [sA]
    rw [a4t ps t hlt] at h
    refine kD oM (kD oM (kD oM (kD (by rw [rdB met i him, ← gdB met i him]; exact hb) (kD oM (kD (by rw [rdI ps t hlt]; exact hq.1) (kD (by rw [rdI ps t hlt]; omega) ?_))))))
    rw [wS t]
    refine ih (t + 1) _ oM (by rw [List.length_set]; exact hm) ?_ h
    rw [gdB _ i (by rw [List.length_set]; exact him), List.getElem_set]
    split
    · rfl
    · rw [← gdB met i him]; exact hb
theorem b4e (l : List S31) (hl : l.length ≤ 4611686018427387904) (hP : pV l) (j : Nat) : ∀ met : List Bool, j ≤ l.length → met.length = l.length → Ev (fun k => qP k l met ((j : Int) - 1)) (rgo (fun _ => true) l j met) := by
  induction j with
  | zero =>
    intro met hj hm
    refine kJ ?_
    simp only [qP]
    exact kL oM qO
  | succ j ih =>
    intro met hj hm
    have hlt : j < met.length := by omega
    rw [show ((j + 1 : Nat) : Int) - 1 = (j : Int) by omega]
    show Ev _ (rgo _ l j (wR _ l j met))
    have jump : ∀ met' : List Bool, met'.length = l.length → Ev (fun k => qP k l met' (wrap64 ((j : Int) - 1))) (rgo (fun _ => true) l j met') := by
      intro met' hm'
      rw [kO oM oM]
      exact ih met' oM hm'
    refine kJ ?_
    simp only [qP]
    refine kD oM (kD oM (kD oM (kV (zD 1 fun k hk => a3h _ _ _ _ _ _ hk) ?_)))
    by_cases hb : met.getD j false = true
    · have hs : wR (fun _ => true) l j met = vV met (pl l j) := by unfold wR; rw [if_pos ⟨hb, rfl⟩]
      rw [hs]
      exact b4d l j oM (pl l j) (qV _ _ _ _) (fun p hp => by have := hP j oM p hp; omega) (rgo _ l j (vV met (pl l j))) (pl l j).length 0 met oM hm hb (jump _ (by rw [List.drop_zero, a1i]; exact hm))
    · have hs : wR (fun _ => true) l j met = met := by unfold wR; rw [if_neg (fun h => hb h.1)]
      rw [hs]
      refine kJ ?_
      simp only [sA]
      by_cases h0 : (0 : Int) < ((pl l j).length : Int)
      · refine kD h0 (kD oM (kD oM (kL ?_ (jump met hm))))
        rw [rdB met j hlt, ← gdB met j hlt]; exact hb
      · exact kL h0 (jump met hm)
theorem b4f (l : List S31) (hl : l.length ≤ 1048576) (hP : pV l) (d : Nat) : ∀ i : Nat, i + d = l.length →
    Ev (fun k => tF k l ((List.range i).map fun t : Nat => ((t : Int) == (l.length : Int) - 1)) (i : Int)) (rgo (fun _ => true) l l.length ((List.range l.length).map fun t : Nat => ((t : Int) == (l.length : Int) - 1))) := by
  induction d with
  | zero =>
    intro i hi
    obtain rfl : i = l.length := by omega
    refine kJ ?_
    simp only [tF]
    refine kL oM ?_
    rw [kO oM oM]
    exact b4e l oM hP l.length _ (Nat.le_refl _) (by simp)
  | succ d ih =>
    intro i hi
    refine kJ ?_
    simp only [tF]
    refine kD oM (kD (by rw [List.length_map, List.length_range]; omega) ?_)
    rw [kO (x := (l.length : Int) - 1) oM oM, wS i]
    have := ih (i + 1) oM
    rwa [List.range_succ, List.map_append] at this
theorem a5c (l : List S31) (hl : l.length ≤ 1048576) (h0 : 1 ≤ l.length) (hP : pV l) : Ev (fun k => uP k l) (vI (fun _ => true) l (l.length - 1)) := by
  unfold uP vI
  have := b4f l hl hP l.length 0 oM
  rw [show l.length - 1 + 1 = l.length by omega]
  have e : (List.replicate l.length false).set (l.length - 1) true = (List.range l.length).map fun t : Nat => ((t : Int) == (l.length : Int) - 1) := by
    apply List.ext_getElem
    · simp
    · intro t h1 h2
      rw [List.getElem_set, List.getElem_map, List.getElem_range]
      by_cases c : l.length - 1 = t
      · rw [if_pos c]; symm; simp; omega
      · rw [if_neg c, List.getElem_replicate]; symm; simp; simp at h2; omega
  rw [e]
  exact this
theorem c3k (a b c d e f : Int) : qQ a b c d e f = some ((a == 19) || (a == 20)) := by
  unfold qQ
  by_cases h : a = 19
  · rw [if_pos h]; simp [h]
  · rw [if_neg h]; simp [h]
theorem c3j (a : Int) : qM a = some ((a == 19) || (a == 20)) := by
  unfold qM
  by_cases h : a = 19
  · rw [if_pos h]; simp [h]
  · rw [if_neg h]; simp [h]
def c8z (l : List S31) (i : Nat) : Bool := ((kA l i).f0 == 19) || ((kA l i).f0 == 20)
def c7q (l : List S31) (v : Int) (i : Nat) : Bool := ((kA l i).f0 == 1) && ((kA l i).f2 == v)
def c3x (l : List S31) (v : Int) (i : Nat) : Bool := c8z l i && ((kA l i).f2 == v)
def b5n (l : List S31) (T : List (List Bool)) (i v : Nat) : Bool :=
  if c3x l v i = true then false else (c7q l v i || (pl l i).any fun p => (T.getD p.toNat []).getD v false)
def FT (l : List S31) : Nat → List (List Bool)
  | 0 => []
  | i + 1 => FT l i ++ [(List.range 8).map (b5n l (FT l i) i)]
theorem a8x (l : List S31) (i : Nat) : (FT l i).length = i := by
  induction i with
  | zero => rfl
  | succ i ih => simp [FT, ih]
theorem c7m (l : List S31) (i : Nat) : ∀ r ∈ FT l i, r.length = 8 := by
  induction i with
  | zero => intro r hr; simp [FT] at hr
  | succ i ih =>
    intro r hr
    simp only [FT, List.mem_append, List.mem_singleton] at hr
    rcases hr with hr | rfl
    · exact ih r hr
    · simp
theorem c7n (l : List S31) (n : Nat) : ∀ i < n, (FT l n).getD i [] = (List.range 8).map (b5n l (FT l i) i) := by
  induction n with
  | zero => intro i hi; omega
  | succ n ih =>
    intro i hi
    rw [FT, List.getD_eq_getElem?_getD]
    by_cases h : i < n
    · rw [List.getElem?_append_left (by rw [a8x]; exact h), ← List.getD_eq_getElem?_getD]; exact ih i h
    · obtain rfl : i = n := by omega
      rw [List.getElem?_append_right (by rw [a8x]; exact Nat.le_refl _), a8x, Nat.sub_self]; rfl
theorem l2F (l : List S31) (i : Nat) (hi : i < l.length) (hl : l.length ≤ 80) (T : List (List Bool)) (hT : T.length = i) (hR : ∀ r ∈ T, r.length = 8) (row : List Bool) (v : Nat) (hv : v < 8) (hrow : row.length = v) (ps : List Int) (hps : ps.length ≤ 3) (hp : ∀ p ∈ ps, 0 ≤ p ∧ p < (i : Int)) (R : List Bool) (d : Nat) :
    ∀ (t : Nat) (x7 : Bool), t + d = ps.length →
    Ev (fun k => qA k l T (i : Int) (row ++ [if c3x l v i = true then false else (x7 || (ps.drop t).any fun p => (T.getD p.toNat []).getD v false)]) (wrap64 ((v : Int) + 1))) R →
    Ev (fun k => tC k l T (i : Int) row (v : Int) x7 ps (t : Int)) R := by
  induction d with
  | zero =>
    intro t x7 ht h
    rw [List.drop_eq_nil_of_le oM] at h
    simp only [List.any_nil, Bool.or_false] at h
    refine kJ ?_
    simp only [tC]
    refine kL oM (kD oM (kD oM ?_))
    unfold c3x c8z at h
    by_cases a : (kA l i).f0 = 19
    · refine kD a ?_
      by_cases b : (kA l i).f2 = (v : Int)
      · rw [if_pos (by simp [a, b])] at h
        exact kD b (kD oM h)
      · rw [if_neg (by simp [a, b])] at h
        exact kL b (kD oM h)
    · refine kL a ?_
      by_cases a2 : (kA l i).f0 = 20
      · refine kD a2 ?_
        by_cases b : (kA l i).f2 = (v : Int)
        · rw [if_pos (by simp [a2, b])] at h
          exact kD b (kD oM h)
        · rw [if_neg (by simp [a2, b])] at h
          exact kL b (kD oM h)
      · rw [if_neg (by simp [a, a2])] at h
        exact kL a2 (kD oM h)
  | succ d ih =>
    intro t x7 ht h
    have hlt : t < ps.length := by omega
    have hq := hp _ (List.getElem_mem hlt)
    rw [List.drop_eq_getElem_cons hlt, List.any_cons, ← Bool.or_assoc] at h
    refine kJ ?_
    simp only [tC]
    refine kD oM ?_
    rw [wS t, rdI ps t hlt]
    by_cases hx : x7 = true
    · rw [hx, Bool.true_or] at h
      exact kD hx (ih (t + 1) true oM h)
    · have hx' : x7 = false := by simpa using hx
      rw [hx', Bool.false_or] at h
      have hr : (T.getD ps[t].toNat []).length = 8 := by
        rw [List.getD_eq_getElem?_getD, List.getElem?_eq_getElem oM]
        exact hR _ (List.getElem_mem _)
      refine kL hx (kD oM (kD hq.1 (kD oM (kD oM (kD ?_ ?_)))))
      · show (v : Int) < ((T.getD ps[t].toNat []).length : Int); omega
      · refine ih (t + 1) _ oM ?_
        exact h
theorem l1F (l : List S31) (i : Nat) (hi : i < l.length) (hl : l.length ≤ 80) (hP : pV l) (T : List (List Bool)) (hT : T.length = i) (hR : ∀ r ∈ T, r.length = 8) (R : List Bool)
    (h : Ev (fun k => tD k l (T ++ [(List.range 8).map (b5n l T i)]) (wrap64 ((i : Int) + 1))) R) (d : Nat) :
    ∀ v : Nat, v + d = 8 → Ev (fun k => qA k l T (i : Int) ((List.range v).map (b5n l T i)) (v : Int)) R := by
  induction d with
  | zero =>
    intro v hv
    obtain rfl : v = 8 := by omega
    refine kJ ?_
    simp only [qA]
    exact kL oM (kD oM h)
  | succ d ih =>
    intro v hv
    refine kJ ?_
    simp only [qA]
    have go : ∀ x7 : Bool, x7 = c7q l v i → Ev (fun k => uR k l T (i : Int) ((List.range v).map (b5n l T i)) (v : Int) x7) R := by
      rintro x7 rfl
      refine kJ ?_
      simp only [uR]
      refine kD oM (kD oM (kV (zD 1 fun k hk => a3h _ _ _ _ _ _ hk) ?_))
      refine l2F l i hi hl T hT hR _ v oM (by simp) (pl l i) (qV _ _ _ _) (hP i hi) R (pl l i).length 0 _ oM ?_
      have := ih (v + 1) oM
      rw [List.range_succ, List.map_append] at this
      rw [wS v]
      exact this
    refine kD oM (kD oM (kD oM ?_))
    by_cases a : (kA l i).f0 = 1
    · exact kD a (go _ (by unfold c7q; simp [a]))
    · exact kL a (go _ (by unfold c7q; simp [a]))
theorem l0F (l : List S31) (hl : l.length ≤ 80) (h0 : 1 ≤ l.length) (hP : pV l) (d : Nat) : ∀ i : Nat, i + d = l.length → Ev (fun k => tD k l (FT l i) (i : Int)) ((FT l l.length).getD (l.length - 1) []) := by
  induction d with
  | zero =>
    intro i hi
    obtain rfl : i = l.length := by omega
    refine kJ ?_
    simp only [tD]
    rw [kO (x := (l.length : Int) - 1) oM oM]
    refine kL oM (kD oM (kD (by rw [a8x]; omega) (a9m ?_)))
    unfold a4x
    rw [show ((l.length : Int) - 1).toNat = l.length - 1 by omega]
  | succ d ih =>
    intro i hi
    refine kJ ?_
    simp only [tD]
    refine kD oM ?_
    refine l1F l i oM hl hP (FT l i) (a8x l i) (c7m l i) _ ?_ 8 0 rfl
    have := ih (i + 1) oM
    rw [wS i]
    exact this
theorem b1x (l : List S31) (hl : l.length ≤ 80) (h0 : 1 ≤ l.length) (hP : pV l) : Ev (fun k => xW k l) ((FT l l.length).getD (l.length - 1) []) := l0F l hl h0 hP l.length 0 oM
def a3f (g : Int → Int) (n : S31) : S31 := ⟨n.f0, n.f1, n.f2, if 0 < (kP n.f0 n.f3 n.f4 n.f5).length then g n.f3 else n.f3, if 1 < (kP n.f0 n.f3 n.f4 n.f5).length then g n.f4 else n.f4, if 2 < (kP n.f0 n.f3 n.f4 n.f5).length then g n.f5 else n.f5⟩
def wW (l : List S31) (met : List Bool) : Nat → List Int × List S31
  | 0 => (List.replicate l.length 0, [])
  | i + 1 => if met.getD i false = true then ((wW l met i).1.set i ((wW l met i).2.length : Int), (wW l met i).2 ++ [a3f (fun p => rd ((wW l met i).1.set i ((wW l met i).2.length : Int)) p) (kA l (i : Int))]) else wW l met i
theorem a8g (l : List S31) (met : List Bool) (i : Nat) : (wW l met i).1.length = l.length ∧ (wW l met i).2.length ≤ i := by
  induction i with
  | zero => simp [wW]
  | succ i ih =>
    unfold wW
    split
    · simp [ih.1, ih.2]
    · exact ⟨ih.1, oM⟩
theorem yW (ps : List Int) : ∀ (met : List Bool) (i : Nat), met.getD i false = true → (vV met ps).getD i false = true := by
  induction ps with
  | nil => intro met i h; exact h
  | cons p ps ih =>
    intro met i h
    refine ih _ i ?_
    rw [List.getD_eq_getElem?_getD, List.getElem?_set]
    split
    · split
      · rfl
      · rename_i h1 h2; subst h1; rw [List.getD_eq_getElem?_getD, List.getElem?_eq_none oM] at h; simp at h
    · rwa [List.getD_eq_getElem?_getD] at h
theorem a5y (ps : List Int) : ∀ (met : List Bool) (p : Int), p ∈ ps → 0 ≤ p → p.toNat < met.length → (vV met ps).getD p.toNat false = true := by
  induction ps with
  | nil => intro met p h; cases h
  | cons q ps ih =>
    intro met p h h0 h1
    show (vV (met.set q.toNat true) ps).getD p.toNat false = true
    rcases List.mem_cons.mp h with rfl | h
    · refine yW ps _ _ ?_
      rw [List.getD_eq_getElem?_getD, List.getElem?_set, if_pos rfl, if_pos h1]; rfl
    · exact ih _ p h h0 (by rw [List.length_set]; exact h1)
theorem a5z (ps : List Int) : ∀ (met : List Bool) (i : Nat), (∀ p ∈ ps, p.toNat ≠ i) → (vV met ps).getD i false = met.getD i false := by
  induction ps with
  | nil => intro met i _; rfl
  | cons q ps ih =>
    intro met i h
    show (vV (met.set q.toNat true) ps).getD i false = _
    rw [ih _ i (fun p hp => h p (List.mem_cons_of_mem _ hp)), List.getD_eq_getElem?_getD, List.getElem?_set, if_neg (h q List.mem_cons_self), List.getD_eq_getElem?_getD]
theorem b1n (l : List S31) (hP : pV l) (j : Nat) : ∀ met : List Bool, j ≤ l.length → met.length = l.length → (∀ i < l.length, j ≤ i → met.getD i false = true → ∀ p ∈ pl l i, met.getD p.toNat false = true) →
    ∀ i < l.length, (rgo (fun _ => true) l j met).getD i false = true → ∀ p ∈ pl l i, (rgo (fun _ => true) l j met).getD p.toNat false = true := by
  induction j with
  | zero => intro met _ _ h i hi hm p hp; exact h i hi oM hm p hp
  | succ j ih =>
    intro met hj hm h
    refine ih _ oM (by rw [a2k]; exact hm) ?_
    intro i hi hij hmi p hp
    by_cases hb : met.getD j false = true
    · have hs : wR (fun _ => true) l j met = vV met (pl l j) := by unfold wR; rw [if_pos ⟨hb, rfl⟩]
      rw [hs] at hmi ⊢
      rcases Nat.eq_or_lt_of_le hij with rfl | hlt
      · have := hP j oM p hp
        exact a5y _ _ p hp this.1 oM
      · rw [a5z _ _ i (fun q hq => by have := hP j oM q hq; omega)] at hmi
        exact yW _ _ _ (h i hi oM hmi p hp)
    · have hs : wR (fun _ => true) l j met = met := by unfold wR; rw [if_neg (fun h => hb h.1)]
      rw [hs] at hmi ⊢
      rcases Nat.eq_or_lt_of_le hij with rfl | hlt
      · exact absurd hmi hb
      · exact h i hi oM hmi p hp
theorem uZ (l : List S31) (hP : pV l) (root : Nat) (hr : root < l.length) : ∀ i < l.length, (vI (fun _ => true) l root).getD i false = true → ∀ p ∈ pl l i, (vI (fun _ => true) l root).getD p.toNat false = true := by
  unfold vI
  refine b1n l hP (root + 1) _ oM (by simp) ?_
  intro i hi hij hm p hp
  rw [List.getD_eq_getElem?_getD, List.getElem?_set, if_neg oM, List.getElem?_replicate, if_pos hi] at hm
  simp at hm
def yG (met : List Bool) : Nat → Nat
  | 0 => 0
  | i + 1 => yG met i + (if met.getD i false = true then 1 else 0)
theorem c3w (met : List Bool) (i : Nat) : yG met i ≤ i := by
  induction i with
  | zero => exact Nat.le_refl _
  | succ i ih => unfold yG; split <;> omega
theorem c0a (l : List Int) (p : Int) : rd l p = l.getD p.toNat 0 := rfl
theorem a7h (l : List S31) (met : List Bool) (i : Nat) : i ≤ l.length → (wW l met i).2.length = yG met i ∧ ∀ p < i, met.getD p false = true → (wW l met i).1.getD p 0 = (yG met p : Int) := by
  induction i with
  | zero => intro _; exact ⟨rfl, fun p hp => absurd hp oM⟩
  | succ i ih =>
    intro hi
    obtain ⟨h1, h2⟩ := ih oM
    have hl := (a8g l met i).1
    have hcn : yG met (i + 1) = yG met i + (if met.getD i false = true then 1 else 0) := rfl
    rw [hcn]
    unfold wW
    by_cases hb : met.getD i false = true
    · rw [if_pos hb, if_pos hb]
      refine ⟨by simp [h1], fun p hp hm => ?_⟩
      rw [List.getD_eq_getElem?_getD, List.getElem?_set]
      by_cases hpi : i = p
      · subst hpi; rw [if_pos rfl, if_pos oM, h1]; rfl
      · rw [if_neg hpi, ← List.getD_eq_getElem?_getD]; exact h2 p oM hm
    · rw [if_neg hb, if_neg hb]
      refine ⟨oM, fun p hp hm => ?_⟩
      by_cases hpi : i = p
      · subst hpi; exact absurd hm hb
      · exact h2 p oM hm
def zZ (met : List Bool) (i : Nat) : List Int := (List.range i).map fun t => (yG met t : Int)
theorem b1t (met : List Bool) (i : Nat) (p : Int) (h0 : 0 ≤ p) (h1 : p < (i : Int)) : rd (zZ met i) p = (yG met p.toNat : Int) := by
  rw [c0a, List.getD_eq_getElem?_getD]
  unfold zZ
  rw [List.getElem?_map, List.getElem?_range oM]; rfl
theorem a6h (met : List Bool) (i : Nat) : (zZ met i).length = i := by simp [zZ]
theorem a9j (l : List S31) (hl : l.length ≤ 80) (hP : pV l) (met : List Bool) (hm : met.length = l.length) (hc : ∀ i < l.length, met.getD i false = true → ∀ p ∈ pl l i, met.getD p.toNat false = true) (d : Nat) : ∀ i : Nat, i + d = l.length →
    Ev (fun k => rX k l (wW l met i).2 met (zZ met i) (i : Int)) (wW l met l.length).2 := by
  induction d with
  | zero =>
    intro i hi
    obtain rfl : i = l.length := by omega
    refine kJ ?_
    simp only [rX]
    exact kL oM qO
  | succ d ih =>
    intro i hi
    have hlt : i < l.length := by omega
    have him : i < met.length := by omega
    obtain ⟨k1, k2⟩ := a7h l met i oM
    have hcl := c3w met i
    have hnext := ih (i + 1) oM
    have hpl : zZ met i ++ [((wW l met i).2.length : Int)] = zZ met (i + 1) := by unfold zZ; rw [List.range_succ, List.map_append, k1]; rfl
    refine kJ ?_
    simp only [rX]
    rw [hpl, wS i, rdB met i him, ← gdB met i him]
    refine kD oM (kD (by rw [a6h]; omega) (pI rfl (kD oM (kD oM ?_))))
    by_cases hb : met.getD i false = true
    · refine kD hb (kV (zD 1 fun k hk => a3h _ _ _ _ _ _ hk) ?_)
      have hkn : (wW l met (i + 1)).2 = (wW l met i).2 ++ [a3f (fun p => rd (zZ met (i + 1)) p) (kA l (i : Int))] := by
        show (if met.getD i false = true then _ else _ : List Int × List S31).2 = _
        rw [if_pos hb]
        have key : ∀ p ∈ pl l i, rd ((wW l met i).1.set i ((wW l met i).2.length : Int)) p = rd (zZ met (i + 1)) p := by
          intro p hp
          have hp1 := hP i hlt p hp
          rw [b1t met (i + 1) p hp1.1 oM, c0a, List.getD_eq_getElem?_getD, List.getElem?_set, if_neg oM, ← List.getD_eq_getElem?_getD]
          exact k2 p.toNat oM (hc i hlt hb p hp)
        simp only [a3f]
        congr 2
        unfold pl at key
        generalize (kA l (i : Int)).f3 = A at *
        generalize (kA l (i : Int)).f4 = B at *
        generalize (kA l (i : Int)).f5 = C at *
        generalize (kA l (i : Int)).f0 = op at *
        have h3 : 0 < (kP op A B C).length → A ∈ kP op A B C := by unfold kP; split <;> (try split) <;> (try split) <;> simp
        have h4 : 1 < (kP op A B C).length → B ∈ kP op A B C := by unfold kP; split <;> (try split) <;> (try split) <;> simp
        have h5 : 2 < (kP op A B C).length → C ∈ kP op A B C := by unfold kP; split <;> (try split) <;> (try split) <;> simp
        congr 1
        · by_cases h : 0 < (kP op A B C).length
          · rw [if_pos h, if_pos h, key A (h3 h)]
          · rw [if_neg h, if_neg h]
        · by_cases h : 1 < (kP op A B C).length
          · rw [if_pos h, if_pos h, key B (h4 h)]
          · rw [if_neg h, if_neg h]
        · by_cases h : 2 < (kP op A B C).length
          · rw [if_pos h, if_pos h, key C (h5 h)]
          · rw [if_neg h, if_neg h]
      rw [hkn] at hnext
      have hin : ∀ p ∈ pl l i, 0 ≤ p ∧ p < ((zZ met (i + 1)).length : Int) := by intro p hp; have := hP i hlt p hp; rw [a6h]; omega
      unfold pl at hin
      unfold a3f at hnext
      have hlen : (wW l met i).2.length < 2932031007402 := by omega
      generalize (kA l (i : Int)).f3 = A at *
      generalize (kA l (i : Int)).f4 = B at *
      generalize (kA l (i : Int)).f5 = C at *
      generalize (kA l (i : Int)).f0 = op at *
      have h3 : 0 < (kP op A B C).length → A ∈ kP op A B C := by unfold kP; split <;> (try split) <;> (try split) <;> simp
      have h4 : 1 < (kP op A B C).length → B ∈ kP op A B C := by unfold kP; split <;> (try split) <;> (try split) <;> simp
      have h5 : 2 < (kP op A B C).length → C ∈ kP op A B C := by unfold kP; split <;> (try split) <;> (try split) <;> simp
      have h45 : 2 < (kP op A B C).length → 1 < (kP op A B C).length := by omega
      have tail : ∀ A' : Int, A' = (if 0 < (kP op A B C).length then rd (zZ met (i + 1)) A else A) → Ev (fun k => wF k l (wW l met i).2 met (zZ met (i + 1)) (i : Int) (kP op A B C) op (kA l (i : Int)).f1 (kA l (i : Int)).f2 A' B C) (wW l met l.length).2 := by
        intro A' hA'
        refine kJ ?_
        simp only [wF]
        rw [wS i]
        subst hA'
        by_cases g1 : 1 < (kP op A B C).length
        · refine kD oM (kD (hin _ (h4 g1)).1 (kD (hin _ (h4 g1)).2 ?_))
          by_cases g2 : 2 < (kP op A B C).length
          · refine kD oM (kD (hin _ (h5 g2)).1 (kD (hin _ (h5 g2)).2 (kD hlen ?_)))
            rw [if_pos g1, if_pos g2] at hnext; exact hnext
          · refine kL oM (kD hlen ?_)
            rw [if_pos g1, if_neg g2] at hnext; exact hnext
        · have g2 : ¬ 2 < (kP op A B C).length := by omega
          refine kL oM (kL oM (kD hlen ?_))
          rw [if_neg g1, if_neg g2] at hnext; exact hnext
      by_cases g0 : 0 < (kP op A B C).length
      · exact kD oM (kD (hin _ (h3 g0)).1 (kD (hin _ (h3 g0)).2 (tail _ (by rw [if_pos g0]))))
      · exact kL oM (tail _ (by rw [if_neg g0]))
    · refine kL hb ?_
      have hkn : wW l met (i + 1) = wW l met i := by
        show (if met.getD i false = true then _ else _ : List Int × List S31) = _
        rw [if_neg hb]
      rw [hkn] at hnext
      exact hnext
def uU (l : List S31) : List S31 := (wW l (vI (fun _ => true) l (l.length - 1)) l.length).2
theorem b6v (l : List S31) : (uU l).length ≤ l.length := (a8g l _ _).2
theorem b5z (l : List S31) (h : wO l) (e1 : Ev (fun k => rW k l) true) : Ev (fun k => yA k l) (uU l) := by
  obtain ⟨h1, h2, h3⟩ := h
  have hP := rP h3
  unfold yA
  refine pI rfl (kV e1 (kD rfl (kV (a5c l oM h1 hP) ?_)))
  exact a9j l h2 hP _ (wG _ _ _) (uZ l hP _ oM) l.length 0 oM
def Ok {α : Type} (g : Nat → Option α) (P : α → Prop) : Prop := ∃ r, Ev g r ∧ P r
theorem rR {α : Type} {P : α → Prop} {r : α} (h : P r) : Ok (fun _ => some r) P := ⟨r, qO, h⟩
theorem b1v {α : Type} {g : Nat → Option α} {P : α → Prop} {r : α} (e : Ev g r) (h : P r) : Ok g P := ⟨r, e, h⟩
theorem a7g {α : Type} {g : Nat → Option α} {P Q : α → Prop} (h : Ok g P) (k : ∀ a, P a → Q a) : Ok g Q := by
  obtain ⟨r, e, p⟩ := h; exact ⟨r, e, k r p⟩
theorem rQ {α β : Type} {g : Nat → Option α} {f : Nat → α → Option β} {P : α → Prop} {Q : β → Prop} (h : Ok g P) (k : ∀ a, P a → Ok (fun n => f n a) Q) : Ok (fun n => (g n).bind (f n)) Q := by
  obtain ⟨a, e, p⟩ := h
  obtain ⟨r, e2, q⟩ := k a p
  exact ⟨r, kV e e2, q⟩
theorem pC {α β : Type} {c : Option α} {f : Nat → α → Option β} {Q : β → Prop} {a : α} (h : c = some a) (k : Ok (fun n => f n a) Q) : Ok (fun n => c.bind (f n)) Q := by
  subst h; exact k
theorem pD {α : Type} {c : Prop} [Decidable c] {A B : Nat → Option α} {P : α → Prop} (h : c) (k : Ok A P) : Ok (fun n => if c then A n else B n) P := by
  simpa [h] using k
theorem yD {α : Type} {c : Prop} [Decidable c] {A B : Nat → Option α} {P : α → Prop} (h : ¬ c) (k : Ok B P) : Ok (fun n => if c then A n else B n) P := by
  simpa [h] using k
theorem sI {α : Type} {c : Prop} [Decidable c] {A B : Nat → Option α} {P : α → Prop} (k : c → Ok A P) (j : ¬ c → Ok B P) : Ok (fun n => if c then A n else B n) P := by
  by_cases h : c
  · exact pD h (k h)
  · exact yD h (j h)
theorem pP {α : Type} {g : Nat → Option α} {P : α → Prop} (k : Ok (fun n => g (n + 1)) P) : Ok g P := by
  obtain ⟨r, e, p⟩ := k
  exact ⟨r, kJ e, p⟩
theorem yY (t : List S31) (ht : t.length ≤ 1000000) (a b c d e f : Int) : pL t a b c d e f = some (t ++ [⟨a, b, c, d, e, f⟩], (t.length : Int)) := by
  unfold pL; rw [if_pos oM]
def DP (t : List S31) (s : Nat) (b : List Int) (r : List S31 × Int × Int × Int) : Prop := r.1.length ≤ t.length + s ∧ 0 ≤ r.2.1 ∧ r.2.1 < (r.1.length : Int) ∧ Cur b r.2.2.1
def a1f (vs : List S31) : Prop := vs.length ≤ 1000 ∧ ∀ x ∈ vs, 1 ≤ x.f1 ∧ x.f1 ≤ 8
theorem b0h {vs : List S31} (h : a1f vs) (p : Int) (h0 : 0 ≤ p) (h1 : p < (vs.length : Int)) : 1 ≤ (kA vs p).f1 ∧ (kA vs p).f1 ≤ 8 := by
  obtain ⟨q, rfl⟩ := Int.eq_ofNat_of_zero_le h0
  rw [rdN vs q oM]
  exact h.2 _ (List.getElem_mem _)
def DS : Nat → Nat
  | 0 => 1
  | d + 1 => 3 * DS d + 1
theorem c0l (d : Nat) : 1 ≤ DS d := by cases d <;> simp [DS]
def b6d (d : Nat) : Prop := ∀ (b : List Int) (i h : Int) (t vs : List S31) (w : Int), Cur b i → t.length ≤ 100000 → a1f vs → 1 ≤ w → w ≤ 8 → Ok (fun k => pB k b i h t vs w (d : Int)) (DP t (DS d) b)
theorem a7i (b : List Int) (i h : Int) (t vs : List S31) (w : Int) (same : List Int) (x : Bool) (hc : Cur b i) (ht : t.length ≤ 100000) (h0 : 1 ≤ w) (h8 : w ≤ 8) (hs : ∀ y ∈ same, 0 ≤ y ∧ y < (vs.length : Int)) (hx : x = true → 0 < same.length) (s : Nat) (h1 : 1 ≤ s) :
    Ok (fun k => uS k t vs w same x b i h) (DP t s b) := by
  refine pP ?_
  simp only [uS]
  refine sI (fun hxt => ?_) (fun _ => ?_)
  · obtain ⟨y, i', h', e, y0, _, y1, c⟩ := qI b i h (same.length : Int) hc
    have hl := hx hxt
    have y1 := y1 oM
    refine pC e (pD y0 (pD y1 ?_))
    have hm := hs (rd same y) (by
      rw [show rd same y = same[y.toNat] from by unfold rd; rw [List.getD_eq_getElem?_getD, List.getElem?_eq_getElem oM]; rfl]
      exact List.getElem_mem _)
    refine pD hm.1 (pD hm.2 (pC (yY t oM _ _ _ _ _ _) (rR ?_)))
    refine ⟨by simp; omega, by simp, by simp; omega, c⟩
  · refine rQ (b1v (zD 20 fun k hk => a5u oM h8 hk) rfl) (fun p hp => ?_)
    subst hp
    obtain ⟨y, i', h', e, y0, _, y1, c⟩ := qI b i h (P2 w) hc
    refine pC e (pC (yY t oM _ _ _ _ _ _) (rR ?_))
    refine ⟨by simp; omega, by simp, by simp; omega, c⟩
theorem c3v (d : Nat) (hd : d ≤ 10) (ih : b6d d) (b : List Int) (i h : Int) (t vs : List S31) (w : Int) (hc : Cur b i) (ht : t.length + 3 * DS d ≤ 100000) (hv : a1f vs) (h0 : 1 ≤ w) (h8 : w ≤ 8) :
    Ok (fun k => rV k t vs w ((d + 1 : Nat) : Int) b i h) (DP t (DS (d + 1)) b) := by
  refine pP ?_
  simp only [rV]
  rw [kO (x := ((d + 1 : Nat) : Int) - 1) oM oM, show ((d + 1 : Nat) : Int) - 1 = (d : Int) by omega]
  refine rQ (ih b i h t vs w hc oM hv h0 h8) (fun r hr => ?_)
  obtain ⟨t1, a1, i1, h1⟩ := r
  obtain ⟨l1, m1, n1, c1⟩ := hr
  simp only at l1 m1 n1 c1
  refine rQ (ih b i1 h1 t1 vs w c1 oM hv h0 h8) (fun r hr => ?_)
  obtain ⟨t2, a2, i2, h2⟩ := r
  obtain ⟨l2, m2, n2, c2⟩ := hr
  simp only at l2 m2 n2 c2
  obtain ⟨y, i3, h3, e, _, _, _, c3⟩ := qI b i2 h2 10 c2
  refine pC e (pC (yY t2 oM _ _ _ _ _ _) (rR ?_))
  exact ⟨by simp [DS]; omega, by simp, by simp; omega, c3⟩
theorem a9n (d : Nat) (hd : d ≤ 10) (ih : b6d d) (b : List Int) (i h : Int) (t vs : List S31) (w : Int) (x : Bool) (hc : Cur b i) (ht : t.length + 3 * DS d ≤ 100000) (hv : a1f vs) (h0 : 1 ≤ w) (h8 : w ≤ 8) (hx : x = true → 0 < vs.length) :
    Ok (fun k => uC k t vs w ((d + 1 : Nat) : Int) x b i h) (DP t (DS (d + 1)) b) := by
  have hvl := hv.1
  have hj4 : ∀ i h, Cur b i → Ok (fun k => rV k t vs w ((d + 1 : Nat) : Int) b i h) (DP t (DS (d + 1)) b) := fun i h hc => c3v d hd ih b i h t vs w hc ht hv h0 h8
  refine pP ?_
  simp only [uC]
  rw [kO (x := ((d + 1 : Nat) : Int) - 1) oM oM, show ((d + 1 : Nat) : Int) - 1 = (d : Int) by omega]
  refine sI (fun hxt => ?_) (fun _ => ?_)
  · have hl := hx hxt
    obtain ⟨y, i1, h1, e, y0, _, y1, c1⟩ := qI b i h (vs.length : Int) hc
    have y1 := y1 oM
    have hw := b0h hv y y0 y1
    refine pC e (pD y0 (pD y1 (rQ (ih b i1 h1 t vs _ c1 oM hv hw.1 hw.2) (fun r hr => ?_))))
    obtain ⟨t1, a1, i2, h2⟩ := r
    obtain ⟨l1, m1, n1, c2⟩ := hr
    simp only at l1 m1 n1 c2
    refine rQ (ih b i2 h2 t1 vs _ c2 oM hv hw.1 hw.2) (fun r hr => ?_)
    obtain ⟨t2, a2, i3, h3⟩ := r
    obtain ⟨l2, m2, n2, c3⟩ := hr
    simp only at l2 m2 n2 c3
    obtain ⟨z, i4, h4, e4, _, _, _, c4⟩ := qI b i3 h3 3 c3
    refine pC e4 (pC (yY t2 oM _ _ _ _ _ _) (rR ?_))
    exact ⟨by simp [DS]; omega, by simp, by simp; omega, c4⟩
  · obtain ⟨y, i1, h1, e, y0, _, y1, c1⟩ := qI b i h 8 hc
    refine pC e (sI (fun _ => ?_) (fun _ => sI (fun _ => sI (fun hw1 => ?_) (fun _ => hj4 _ _ c1)) (fun _ => sI (fun _ => sI (fun hv0 => ?_) (fun _ => hj4 _ _ c1)) (fun _ => sI (fun _ => ?_) (fun _ => hj4 _ _ c1)))))
    · refine rQ (ih b i1 h1 t vs w c1 oM hv h0 h8) (fun r hr => ?_)
      obtain ⟨t1, a1, i2, h2⟩ := r
      obtain ⟨l1, m1, n1, c2⟩ := hr
      simp only at l1 m1 n1 c2
      refine pC (yY t1 oM _ _ _ _ _ _) (rR ?_)
      exact ⟨by simp [DS]; omega, by simp, by simp; omega, c2⟩
    · rw [kO (x := w - 1) oM oM]
      obtain ⟨z, i2, h2, e2, z0, _, z1, c2⟩ := qI b i1 h1 (w - 1) c1
      have z1 := z1 oM
      refine pC e2 ?_
      simp only
      rw [kO (x := 1 + z) oM oM, kO (x := w - (1 + z)) oM oM]
      refine rQ (ih b i2 h2 t vs (1 + z) c2 oM hv oM oM) (fun r hr => ?_)
      obtain ⟨t1, a1, i3, h3⟩ := r
      obtain ⟨l1, m1, n1, c3⟩ := hr
      simp only at l1 m1 n1 c3
      refine rQ (ih b i3 h3 t1 vs (w - (1 + z)) c3 oM hv oM oM) (fun r hr => ?_)
      obtain ⟨t2, a2, i4, h4⟩ := r
      obtain ⟨l2, m2, n2, c4⟩ := hr
      simp only at l2 m2 n2 c4
      refine pC (yY t2 oM _ _ _ _ _ _) (rR ?_)
      exact ⟨by simp [DS]; omega, by simp, by simp; omega, c4⟩
    · obtain ⟨z, i2, h2, e2, z0, _, z1, c2⟩ := qI b i1 h1 (vs.length : Int) c1
      have z1 := z1 hv0
      have hw := b0h hv z z0 z1
      refine pC e2 (pD z0 (pD z1 (sI (fun hgt => ?_) (fun _ => hj4 _ _ c2))))
      refine rQ (ih b i2 h2 t vs _ c2 oM hv hw.1 hw.2) (fun r hr => ?_)
      obtain ⟨t1, a1, i3, h3⟩ := r
      obtain ⟨l1, m1, n1, c3⟩ := hr
      simp only at l1 m1 n1 c3
      obtain ⟨y2, i4, h4, e4, _, _, _, c4⟩ := qI b i3 h3 (wrap64 ((wrap64 (((kA vs z).f1) - w)) + 1)) c3
      refine pC e4 (pC (yY t1 oM _ _ _ _ _ _) (rR ?_))
      exact ⟨by simp [DS]; omega, by simp, by simp; omega, c4⟩
    · refine rQ (ih b i1 h1 t vs 1 c1 oM hv oM oM) (fun r hr => ?_)
      obtain ⟨t1, a1, i2, h2⟩ := r
      obtain ⟨l1, m1, n1, c2⟩ := hr
      simp only at l1 m1 n1 c2
      refine rQ (ih b i2 h2 t1 vs w c2 oM hv h0 h8) (fun r hr => ?_)
      obtain ⟨t2, a2, i3, h3⟩ := r
      obtain ⟨l2, m2, n2, c3⟩ := hr
      simp only at l2 m2 n2 c3
      refine rQ (ih b i3 h3 t2 vs w c3 oM hv h0 h8) (fun r hr => ?_)
      obtain ⟨t3, a3, i4, h4⟩ := r
      obtain ⟨l3, m3, n3, c4⟩ := hr
      simp only at l3 m3 n3 c4
      refine pC (yY t3 oM _ _ _ _ _ _) (rR ?_)
      exact ⟨by simp [DS]; omega, by simp, by simp; omega, c4⟩
theorem b5j (b : List Int) (i h : Int) (t vs : List S31) (w d : Int) (hv : a1f vs) (P : List S31 × Int × Int × Int → Prop)
    (hk : ∀ same : List Int, (∀ y ∈ same, 0 ≤ y ∧ y < (vs.length : Int)) → Ok (fun k => if d = 0 then (qB k t vs w d same true b i h) else (if (t.length : Int) > 40 then (qB k t vs w d same true b i h) else ((qW b i h 5).bind fun bt411 => (qB k t vs w d same bt411.1 b bt411.2.1 bt411.2.2)))) P) (n : Nat) :
    ∀ (j : Nat) (same : List Int), j + n = vs.length → same.length ≤ j → (∀ y ∈ same, 0 ≤ y ∧ y < (vs.length : Int)) → Ok (fun k => tE k t vs w d same (j : Int) b i h) P := by
  have hvl := hv.1
  induction n with
  | zero =>
    intro j same hj _ hs
    refine pP ?_
    simp only [tE]
    exact yD oM (hk same hs)
  | succ n ih =>
    intro j same hj hl hs
    refine pP ?_
    simp only [tE]
    rw [wS j]
    refine pD oM (pD oM (sI (fun _ => pD oM (ih (j + 1) _ oM (by simp; omega) ?_)) (fun _ => ih (j + 1) same oM oM hs)))
    intro y hy
    rcases List.mem_append.mp hy with h | h
    · exact hs y h
    · obtain rfl := List.mem_singleton.mp h; omega
theorem c3u (d : Nat) : d ≤ 3 → b6d d := by
  induction d with
  | zero =>
    intro _ b i h t vs w hc ht hv h0 h8
    refine pP ?_
    simp only [pB]
    refine b5j b i h t vs w _ hv _ (fun same hs => pD (by rfl) ?_) vs.length 0 [] oM (by simp) (by simp)
    refine pP ?_
    simp only [qB]
    refine pD trivial (sI (fun hl => ?_) (fun hl => ?_))
    · obtain ⟨x, i', h', e, c⟩ := yZ b i h 4 hc
      exact pC e (a7i b i' h' t vs w same _ c ht h0 h8 hs (fun _ => by omega) 1 oM)
    · exact a7i b i h t vs w same _ hc ht h0 h8 hs (fun h => by simp at h) 1 oM
  | succ d ih =>
    intro hd b i h t vs w hc ht hv h0 h8
    have ih := ih oM
    have hds : 3 * DS d ≤ 39 := by
      have : d = 0 ∨ d = 1 ∨ d = 2 := by omega
      rcases this with rfl | rfl | rfl <;> simp [DS]
    refine pP ?_
    simp only [pB]
    refine b5j b i h t vs w _ hv _ (fun same hs => ?_) vs.length 0 [] oM (by simp) (by simp)
    have jt : ∀ i h, Cur b i → Ok (fun k => qB k t vs w ((d + 1 : Nat) : Int) same true b i h) (DP t (DS (d + 1)) b) := by
      intro i h hc
      refine pP ?_
      simp only [qB]
      refine pD trivial (sI (fun hl => ?_) (fun hl => ?_))
      · obtain ⟨x, i', h', e, c⟩ := yZ b i h 4 hc
        exact pC e (a7i b i' h' t vs w same _ c ht h0 h8 hs (fun _ => by omega) _ (c0l _))
      · exact a7i b i h t vs w same _ hc ht h0 h8 hs (fun h => by simp at h) _ (c0l _)
    refine yD oM (sI (fun _ => jt i h hc) (fun hle => ?_))
    obtain ⟨x, i1, h1, e, c1⟩ := yZ b i h 5 hc
    refine pC e ?_
    cases x with
    | true => exact jt i1 h1 c1
    | false =>
      refine pP ?_
      simp only [qB]
      refine yD (by simp) (sI (fun _ => sI (fun hv0 => ?_) (fun _ => ?_)) (fun _ => ?_))
      · obtain ⟨x, i', h', e, c⟩ := yZ b i1 h1 2 c1
        exact pC e (a9n d oM ih b i' h' t vs w _ c oM hv h0 h8 (fun _ => by omega))
      · exact a9n d oM ih b i1 h1 t vs w _ c1 oM hv h0 h8 (fun h => by simp at h)
      · exact a9n d oM ih b i1 h1 t vs w _ c1 oM hv h0 h8 (fun h => by simp at h)
def MP (t : List S31) (s : Nat) (b : List Int) (r : List S31 × Int × Int × Int × Int × Int) : Prop := r.1.length ≤ t.length + s ∧ (0 ≤ r.2.2.1 ∧ r.2.2.1 ≤ 8) ∧ (0 ≤ r.2.2.2.1 ∧ r.2.2.2.1 ≤ 100) ∧ Cur b r.2.2.2.2.1
def MS : Nat → Nat
  | 0 => 41
  | e + 1 => 2 * MS e + 41
theorem c8q (e : Nat) : 41 ≤ MS e := by cases e <;> simp [MS]
def a8u (e : Nat) : Prop := ∀ (b : List Int) (i h : Int) (t vs : List S31) (nx bits : Int), Cur b i → t.length + MS e ≤ 100000 → a1f vs → vs.length + e ≤ 900 → 0 ≤ nx → nx ≤ 8 → 0 ≤ bits → bits ≤ 100 → Ok (fun k => pR k b i h t vs nx bits (e : Int)) (MP t (MS e) b)
theorem a5b (e : Nat) (b : List Int) (i h : Int) (t vs : List S31) (nx bits : Int) (hc : Cur b i) (ht : t.length + MS e ≤ 100000) (hv : a1f vs) (n0 : 0 ≤ nx) (n8 : nx ≤ 8) (b0 : 0 ≤ bits) (b1 : bits ≤ 100) :
    Ok (fun k => (pB k b i h t vs 1 3).bind fun r => (some (r.1, r.2.1, nx, bits, r.2.2.1, r.2.2.2) : Option (List S31 × Int × Int × Int × Int × Int))) (MP t (MS e) b) := by
  have hm := c8q e
  refine rQ (c3u 3 oM b i h t vs 1 hc oM hv oM oM) (fun r hr => ?_)
  obtain ⟨l1, _, _, c1⟩ := hr
  refine rR ⟨?_, ⟨n0, n8⟩, ⟨b0, b1⟩, c1⟩
  have : DS 3 = 40 := rfl
  simp only; omega
theorem b6h {vs : List S31} (hv : a1f vs) (hl : vs.length < 1000) (w nx : Int) (h0 : 1 ≤ w) (h8 : w ≤ 8) : a1f (([] ++ vs) ++ [(⟨1, w, nx, 0, 0, 0⟩ : S31)]) := by
  refine ⟨by simp; omega, fun x hx => ?_⟩
  simp only [List.nil_append, List.mem_append, List.mem_singleton] at hx
  rcases hx with hx | rfl
  · exact hv.2 x hx
  · exact ⟨h0, h8⟩
theorem b4y (e : Nat) (ih : ∀ e', e = e' + 1 → a8u e') (he : e ≤ 10) (b : List Int) (i h : Int) (t vs : List S31) (nx bits : Int) (x : Bool) (hc : Cur b i) (ht : t.length + MS e ≤ 100000) (hv : a1f vs) (hvl : vs.length + e ≤ 900) (n0 : 0 ≤ nx) (n8 : nx ≤ 8) (b0 : 0 ≤ bits) (b1 : bits ≤ 100) :
    Ok (fun k => uQ k t vs nx bits (e : Int) x b i h) (MP t (MS e) b) := by
  refine pP ?_
  simp only [uQ]
  refine sI (fun _ => sI (fun hp => ?_) (fun _ => a5b e b i h t vs nx bits hc ht hv n0 n8 b0 b1)) (fun _ => a5b e b i h t vs nx bits hc ht hv n0 n8 b0 b1)
  obtain ⟨e', rfl⟩ : ∃ e', e = e' + 1 := ⟨e - 1, oM⟩
  have hms : MS (e' + 1) = 2 * MS e' + 41 := rfl
  rw [kO (x := ((e' + 1 : Nat) : Int) - 1) oM oM, show ((e' + 1 : Nat) : Int) - 1 = (e' : Int) by omega]
  refine rQ (ih e' rfl b i h t vs nx bits hc oM hv oM n0 n8 b0 b1) (fun r hr => ?_)
  obtain ⟨t1, a1, n1, bb1, i1, h1⟩ := r
  obtain ⟨l1, ⟨m1, m2⟩, ⟨k1, k2⟩, c1⟩ := hr
  simp only at l1 m1 m2 k1 k2 c1
  refine rQ (ih e' rfl b i1 h1 t1 vs n1 bb1 c1 oM hv oM m1 m2 k1 k2) (fun r hr => ?_)
  obtain ⟨t2, a2, n2, bb2, i2, h2⟩ := r
  obtain ⟨l2, q2, s2, c2⟩ := hr
  simp only at l2 q2 s2 c2
  obtain ⟨y, i3, h3, e3, _, _, _, c3⟩ := qI b i2 h2 2 c2
  refine pC e3 (pC (yY t2 oM _ _ _ _ _ _) (rR ?_))
  exact ⟨by simp; omega, q2, s2, c3⟩
theorem c3g (e : Nat) (ih : ∀ e', e = e' + 1 → a8u e') (he : e ≤ 10) (b : List Int) (i h : Int) (t vs : List S31) (nx bits : Int) (x : Bool) (hc : Cur b i) (ht : t.length + MS e ≤ 100000) (hv : a1f vs) (hvl : vs.length + e ≤ 900) (n0 : 0 ≤ nx) (n8 : nx ≤ 8) (b0 : 0 ≤ bits) (b1 : bits ≤ 100)
    (hx : x = true → 0 < e ∧ nx < 8 ∧ 0 < bits) : Ok (fun k => sZ k t vs nx bits (e : Int) x b i h) (MP t (MS e) b) := by
  refine pP ?_
  simp only [sZ]
  refine sI (fun hxt => ?_) (fun _ => ?_)
  · obtain ⟨g1, g2, g3⟩ := hx hxt
    obtain ⟨e', rfl⟩ : ∃ e', e = e' + 1 := ⟨e - 1, oM⟩
    have hms : MS (e' + 1) = 2 * MS e' + 41 := rfl
    obtain ⟨y, i1, h1, e1, y0, _, y1, c1⟩ := qI b i h 3 hc
    have y1 := y1 oM
    refine pC e1 ?_
    simp only
    rw [kO (x := 1 + y) oM oM, kO (x := ((e' + 1 : Nat) : Int) - 1) oM oM, show ((e' + 1 : Nat) : Int) - 1 = (e' : Int) by omega, kO (x := nx + 1) oM oM, kO (x := bits - bits) oM oM, kO (x := bits - (1 + y)) oM oM]
    have fin : ∀ (w bits' z : Int) (i2 h2 : Int), 1 ≤ w → w ≤ 8 → 0 ≤ bits' → bits' ≤ 100 → Cur b i2 → Ok (fun k => (some (([] : List S31) : List S31)).bind fun y560 => (if y560.length + vs.length < 2932031007402 then ((some (y560 ++ vs : List S31)).bind fun y563 => ((some (([(⟨1, w, nx, 0, 0, 0⟩ : S31)] : List S31) : List S31)).bind fun y566 => (if y563.length + y566.length < 2932031007402 then ((pR k b i2 h2 t (y563 ++ y566) (nx + 1) bits' (e' : Int)).bind fun bt572 => ((pL bt572.1 z 1 nx bt572.2.1 w 0).bind fun bt580 => (some (bt580.1, bt580.2, bt572.2.2.1, bt572.2.2.2.1, bt572.2.2.2.2.1, bt572.2.2.2.2.2) : Option (List S31 × Int × Int × Int × Int × Int)))) else (none)))) else (none))) (MP t (MS (e' + 1)) b) := by
      intro w bits' z i2 h2 w0 w8 p0 p1 c2
      have hv1 := hv.1
      refine pC rfl (pD (by simp; omega) (pC rfl (pC rfl (pD (by simp; omega) ?_))))
      refine rQ (ih e' rfl b i2 h2 t _ (nx + 1) bits' c2 oM (b6h hv oM w nx w0 w8) (by simp; omega) oM oM p0 p1) (fun r hr => ?_)
      obtain ⟨t1, a1, n1, bb1, i3, h3⟩ := r
      obtain ⟨l1, q1, s1, c3⟩ := hr
      simp only at l1 q1 s1 c3
      refine pC (yY t1 oM _ _ _ _ _ _) (rR ?_)
      exact ⟨by simp; omega, q1, s1, c3⟩
    refine sI (fun hgt => ?_) (fun hle => ?_)
    · obtain ⟨z, i2, h2, e2, _, _, _, c2⟩ := qI b i1 h1 2 c1
      exact pC e2 (fin bits (bits - bits) _ i2 h2 oM oM oM oM c2)
    · obtain ⟨z, i2, h2, e2, _, _, _, c2⟩ := qI b i1 h1 2 c1
      exact pC e2 (fin (1 + y) (bits - (1 + y)) _ i2 h2 oM oM oM oM c2)
  · obtain ⟨y, i1, h1, e1, y0, _, y1, c1⟩ := qI b i h 5 hc
    refine pC e1 (sI (fun _ => sI (fun hp => ?_) (fun _ => a5b e b i1 h1 t vs nx bits c1 ht hv n0 n8 b0 b1)) (fun _ => sI (fun _ => ?_) (fun _ => ?_)))
    · obtain ⟨e', rfl⟩ : ∃ e', e = e' + 1 := ⟨e - 1, oM⟩
      have hms : MS (e' + 1) = 2 * MS e' + 41 := rfl
      rw [kO (x := ((e' + 1 : Nat) : Int) - 1) oM oM, show ((e' + 1 : Nat) : Int) - 1 = (e' : Int) by omega]
      refine rQ (ih e' rfl b i1 h1 t vs nx bits c1 oM hv oM n0 n8 b0 b1) (fun r hr => ?_)
      obtain ⟨t1, a1, n1, bb1, i3, h3⟩ := r
      obtain ⟨l1, q1, s1, c3⟩ := hr
      simp only at l1 q1 s1 c3
      refine pC (yY t1 oM _ _ _ _ _ _) (rR ?_)
      exact ⟨by simp; omega, q1, s1, c3⟩
    · exact b4y e ih he b i1 h1 t vs nx bits _ c1 ht hv hvl n0 n8 b0 b1
    · exact b4y e ih he b i1 h1 t vs nx bits _ c1 ht hv hvl n0 n8 b0 b1
theorem a8e (e : Nat) (ih : ∀ e', e = e' + 1 → a8u e') (he : e ≤ 10) : a8u e := by
  intro b i h t vs nx bits hc ht hv hvl n0 n8 b0 b1
  refine pP ?_
  simp only [pR]
  have j0 := fun (i h : Int) (x : Bool) (hc : Cur b i) (hx : x = true → 0 < e ∧ nx < 8 ∧ 0 < bits) => c3g e ih he b i h t vs nx bits x hc ht hv hvl n0 n8 b0 b1 hx
  refine sI (fun h1 => sI (fun h2 => sI (fun h3 => ?_) (fun _ => j0 i h false hc (by simp))) (fun _ => j0 i h false hc (by simp))) (fun _ => j0 i h false hc (by simp))
  obtain ⟨x, i1, z1, e1, c1⟩ := yZ b i h 5 hc
  exact pC e1 (j0 i1 z1 _ c1 (fun _ => ⟨oM, h2, h3⟩))
theorem c3f (e : Nat) : e ≤ 10 → a8u e := by
  induction e with
  | zero => intro _; exact a8e 0 (fun e' h => by omega) oM
  | succ e ih => intro he; exact a8e (e + 1) (fun e' h => by have h' : e = e' := oM; subst h'; exact ih oM) he
theorem b5b (l : List S31) (hl : l.length ≤ 80) (i : Nat) (hi : i < l.length) (out : List Bool) (ho : out.length = i) (ps : List Int) (hps : ps.length ≤ 3) (hp : ∀ p ∈ ps, 0 ≤ p ∧ p < (i : Int)) (P : List Bool → Prop)
    (hk : ∀ b : Bool, Ok (fun k => rM k l (out ++ [b]) ((i + 1 : Nat) : Int)) P) (d : Nat) : ∀ (t : Nat) (b : Bool), t + d = ps.length → Ok (fun k => rK k l out (i : Int) b ps (t : Int)) P := by
  induction d with
  | zero =>
    intro t b ht
    refine pP ?_
    simp only [rK]
    rw [wS i]
    exact yD oM (pD oM (hk b))
  | succ d ih =>
    intro t b ht
    have hlt : t < ps.length := by omega
    have hq := hp _ (List.getElem_mem hlt)
    rw [← rdI ps t hlt] at hq
    refine pP ?_
    simp only [rK]
    rw [wS t]
    exact pD oM (sI (fun _ => ih (t + 1) true oM) (fun _ => pD oM (pD hq.1 (pD oM (ih (t + 1) _ oM)))))
theorem b5a (l : List S31) (hl : l.length ≤ 80) (hP : pV l) (d : Nat) : ∀ (i : Nat) (out : List Bool), i + d = l.length → out.length = i → Ok (fun k => rM k l out (i : Int)) (fun r => r.length = l.length) := by
  induction d with
  | zero =>
    intro i out hi ho
    refine pP ?_
    simp only [rM]
    exact yD oM (rR oM)
  | succ d ih =>
    intro i out hi ho
    refine pP ?_
    simp only [rM]
    refine pD oM (pD oM (pC (c3j _) (rQ (b1v (zD 1 fun k hk => a3h _ _ _ _ _ _ hk) rfl) (fun ps hps => ?_))))
    subst hps
    exact b5b l hl i oM out ho _ (qV _ _ _ _) (hP i oM) _ (fun b => ih (i + 1) _ oM (by simp; omega)) _ 0 _ (Nat.zero_add _)
theorem c6q {l : List S31} (h : qH l) (i : Nat) (hi : i < l.length) (ho : (kA l (i : Int)).f0 = 19 ∨ (kA l (i : Int)).f0 = 20 ∨ (kA l (i : Int)).f0 = 1) : 0 ≤ (kA l (i : Int)).f2 ∧ (kA l (i : Int)).f2 ≤ 7 := by
  have hb := h i hi
  unfold a2a xM at hb
  simp only [Bool.and_eq_true] at hb
  have hs := hb.2
  generalize (kA l (i : Int)).f0 = op at *
  generalize (kA l (i : Int)).f2 = K at *
  have : inB K 0 7 = true := by
    rcases ho with rfl | rfl | rfl
    · simp only [pO] at hs; simp at hs; exact hs.1.1.1
    · simp only [pO] at hs; simp at hs; exact hs.1.1.1
    · simpa [pO] using hs
  exact rJ.mp this
theorem c2m (l : List S31) (hl : l.length ≤ 80) (m h : List Bool) (us : List Int) (hm : m.length = l.length) (hh : h.length = l.length) (hu : us.length = l.length) (d : Nat) : ∀ i : Nat, i + d = l.length → Ok (fun k => qZ k l m h us (i : Int)) (fun _ => True) := by
  induction d with
  | zero =>
    intro i hi
    refine pP ?_
    simp only [qZ]
    exact yD oM (rR trivial)
  | succ d ih =>
    intro i hi
    refine pP ?_
    simp only [qZ]
    rw [wS i]
    have hn := ih (i + 1) oM
    exact pD oM (pD oM (pD oM (sI (fun _ => pD oM (sI (fun _ => pD oM (sI (fun _ => rR trivial) (fun _ => hn))) (fun _ => hn))) (fun _ => hn))))
theorem c2n (l : List S31) (hl : l.length ≤ 80) (hN : qH l) (m h : List Bool) (hm : m.length = l.length) (hh : h.length = l.length) (ws : List Int) (hw : ws.length = 8) (d : Nat) : ∀ (i : Nat) (us : List Int), i + d = l.length → us.length = l.length → Ok (fun k => sD k l m h ws us (i : Int)) (fun _ => True) := by
  have hP := rP hN
  induction d with
  | zero =>
    intro i us hi hu
    refine pP ?_
    simp only [sD]
    exact yD oM (c2m l hl m h us hm hh hu l.length 0 oM)
  | succ d ih =>
    intro i us hi hu
    have hlt : i < l.length := by omega
    have l4 : ∀ (n t : Nat) (us : List Int), t + n = (pl l i).length → us.length = l.length → Ok (fun k => tG k l m h ws us (i : Int) (pl l i) (t : Int)) (fun _ => True) := by
      intro n
      have hp3 : (pl l i).length ≤ 3 := qV _ _ _ _
      induction n with
      | zero =>
        intro t us ht hu
        refine pP ?_
        simp only [tG]
        rw [wS i]
        exact yD oM (ih (i + 1) us oM hu)
      | succ n ihn =>
        intro t us ht hu
        have hq := hP i hlt _ (List.getElem_mem (show t < (pl l i).length by omega))
        rw [← rdI (pl l i) t oM] at hq
        refine pP ?_
        simp only [tG]
        rw [wS t]
        exact pD oM (pD oM (pD hq.1 (pD oM (ihn (t + 1) _ oM (by rw [List.length_set]; exact hu)))))
    have j6 : ∀ x : Bool, Ok (fun k => qC k l m h ws us (i : Int) x) (fun _ => True) := by
      intro x
      refine pP ?_
      simp only [qC]
      refine sI (fun _ => rR trivial) (fun _ => pD oM (pD oM (rQ (b1v (zD 1 fun k hk => a3h _ _ _ _ _ _ hk) rfl) (fun ps hps => ?_))))
      subst hps
      exact l4 (pl l i).length 0 us oM hu
    have outer : ∀ op : Int, ∃ b, uB op = some b := by
      intro op
      unfold uB
      by_cases a : op = 2
      · exact ⟨_, if_pos a⟩
      · rw [if_neg a]
        by_cases b : op = 3
        · exact ⟨_, if_pos b⟩
        · rw [if_neg b]
          by_cases c : op = 4
          · exact ⟨_, if_pos c⟩
          · rw [if_neg c, c3j]; exact ⟨_, rfl⟩
    obtain ⟨ob, hob⟩ := outer (kA l (i : Int)).f0
    have tail : Ok (fun k => if (i : Int) < (h.length : Int) then (if a0j false h (i : Int) = true then ((uB ((kA l (i : Int)).f0)).bind fun t721 => (qC k l m h ws us (i : Int) (!t721))) else (qC k l m h ws us (i : Int) false)) else (none)) (fun _ => True) :=
      pD oM (sI (fun _ => pC hob (j6 _)) (fun _ => j6 _))
    refine pP ?_
    simp only [sD]
    rw [wS i]
    refine pD oM (pD oM (pD oM (sI (fun _ => sI (fun hv => ?_) (fun _ => tail)) (fun _ => ih (i + 1) us oM hu))))
    have hK := c6q hN i hlt (.inr (.inr hv))
    exact pD hK.1 (pD oM (sI (fun _ => tail) (fun _ => j6 true)))
theorem c2o (l : List S31) (hl : l.length ≤ 80) (hN : qH l) (m h : List Bool) (hm : m.length = l.length) (hh : h.length = l.length) (ws : List Int) (hw : ws.length = 8) (d : Nat) : ∀ (i : Nat) (us : List Int), i + d = l.length → us.length = i → Ok (fun k => tH k l m h ws us (i : Int)) (fun _ => True) := by
  induction d with
  | zero =>
    intro i us hi hu
    refine pP ?_
    simp only [tH]
    exact yD oM (c2n l hl hN m h hm hh ws hw l.length 0 us oM oM)
  | succ d ih =>
    intro i us hi hu
    refine pP ?_
    simp only [tH]
    rw [wS i]
    exact pD oM (pD oM (ih (i + 1) _ oM (by simp; omega)))
theorem c2p (l : List S31) (hl : l.length ≤ 80) (hN : qH l) (m h : List Bool) (hm : m.length = l.length) (hh : h.length = l.length) (d : Nat) : ∀ (i : Nat) (ws : List Int), i + d = l.length → ws.length = 8 → Ok (fun k => sE k l m h ws (i : Int)) (fun _ => True) := by
  induction d with
  | zero =>
    intro i ws hi hw
    refine pP ?_
    simp only [sE]
    exact yD oM (c2o l hl hN m h hm hh ws hw l.length 0 [] oM rfl)
  | succ d ih =>
    intro i ws hi hw
    have hlt : i < l.length := by omega
    have j3 : ∀ x : Bool, (x = true → (kA l (i : Int)).f0 = 19 ∨ (kA l (i : Int)).f0 = 20) → Ok (fun k => uF k l m h ws (i : Int) x) (fun _ => True) := by
      intro x hx
      refine pP ?_
      simp only [uF]
      rw [wS i]
      refine sI (fun hxt => ?_) (fun _ => ih (i + 1) ws oM hw)
      have hK := c6q hN i hlt (by rcases hx hxt with h | h; exact .inl h; exact .inr (.inl h))
      exact pD oM (pD oM (pD hK.1 (pD oM (sI (fun _ => ih (i + 1) _ oM (by rw [List.length_set]; exact hw)) (fun _ => rR trivial)))))
    refine pP ?_
    simp only [sE]
    refine pD oM (pD oM (pD oM (sI (fun _ => pC (c3j _) (j3 _ (fun h => by simpa using h))) (fun _ => j3 false (by simp)))))
theorem c2q (l : List S31) (hl : l.length ≤ 80) (hN : qH l) (m h : List Bool) (hm : m.length = l.length) (hh : h.length = l.length) (d : Nat) : ∀ (i : Nat) (ws : List Int), i + d = 8 → ws.length = i → Ok (fun k => tI k l m h ws (i : Int)) (fun _ => True) := by
  induction d with
  | zero =>
    intro i ws hi hw
    refine pP ?_
    simp only [tI]
    exact yD oM (c2p l hl hN m h hm hh l.length 0 ws oM oM)
  | succ d ih =>
    intro i ws hi hw
    refine pP ?_
    simp only [tI]
    rw [wS i]
    exact pD oM (pD oM (ih (i + 1) _ oM (by simp; omega)))
theorem a9r (l : List S31) (FR : ∃ r, Ev (fun k => xS k l) r) : Ok (fun k => uE k l) (fun b => b = true → wO l) := by
  obtain ⟨b, e1, _, hb⟩ := a4r l
  unfold uE
  refine rQ (b1v e1 rfl) (fun b' hb' => ?_)
  subst hb'
  have jt : Ok (fun k => sF k l true) (fun b => b = true → wO l) := by
    refine pP ?_
    simp only [sF]
    exact pD trivial (rR (by simp))
  refine sI (fun ht => ?_) (fun _ => jt)
  obtain ⟨h1, h2, h3⟩ := hb.mp ht
  rw [kO oM oM]
  refine pD oM (pD oM (sI (fun _ => ?_) (fun _ => jt)))
  obtain ⟨r, hr⟩ := FR
  refine rQ (b1v hr rfl) (fun r' hr' => ?_)
  refine a7g (P := fun _ => True) ?_ (fun _ _ _ => ⟨h1, h2, h3⟩)
  refine pP ?_
  simp only [sF]
  have hP := rP h3
  refine sI (fun _ => rR trivial) (fun _ => rQ (b1v (a5c l oM h1 hP) rfl) (fun m hm => rQ (b5a l h2 hP l.length 0 [] oM rfl) (fun h hh => ?_)))
  subst hm
  exact c2q l h2 h3 _ h (wG _ _ _) hh 8 0 [] oM rfl
theorem c6u (l : List S31) (row : List Bool) (hr : row.length = 8) (d : Nat) : ∀ (v : Nat) (out : List Int), v + d = 8 → out.length + d ≤ 8 → ∃ r, Ev (fun k => uJ k out row (v : Int)) r := by
  induction d with
  | zero =>
    intro v out hv ho
    refine ⟨out, kJ ?_⟩
    simp only [uJ]; exact kL oM qO
  | succ d ih =>
    intro v out hv ho
    by_cases hD : a0j false row (v : Int) = true
    · obtain ⟨r, e1⟩ := ih (v + 1) (out ++ [(v : Int)]) oM (by simp; omega)
      refine ⟨r, kJ ?_⟩
      simp only [uJ]
      refine kD oM (kD oM (kD oM (kD hD (kD oM ?_))))
      rw [wS v]; exact e1
    · obtain ⟨r, e1⟩ := ih (v + 1) out oM oM
      refine ⟨r, kJ ?_⟩
      simp only [uJ]
      refine kD oM (kD oM (kD oM (kL hD ?_)))
      rw [wS v]; exact e1
theorem c7l (l : List S31) : ∃ r, Ev (fun k => xS k l) r := by
  obtain ⟨b, e1, _, h⟩ := a4r l
  unfold xS
  by_cases hb : b = true
  · obtain ⟨h1, h2, h3⟩ := h.mp hb
    obtain ⟨r, f1⟩ := c6u l ((FT l l.length).getD (l.length - 1) []) (by rw [c7n l l.length _ oM]; simp) 8 0 [] rfl (by simp)
    exact ⟨r, pI rfl (kV e1 (kD hb (kV (b1x l h2 h1 (rP h3)) f1)))⟩
  · exact ⟨[], pI rfl (kV e1 (kL hb qO))⟩
theorem a6k : wO [(⟨1, 1, 0, 0, 0, 0⟩ : S31), (⟨20, 1, 0, 0, 1, 0⟩ : S31)] := by
  refine ⟨by simp, by simp, fun i hi => ?_⟩
  have : i = 0 ∨ i = 1 := by simp at hi; omega
  rcases this with rfl | rfl <;> decide +kernel
theorem a7b (b : List Int) (i h bits : Int) (hc : Cur b i) (b0 : 0 ≤ bits) (b1 : bits ≤ 100) : Ok (fun k => uH k b i h bits) (fun r => wO r.1 ∧ Cur b r.2.1) := by
  unfold uH
  refine rQ (c3f 4 oM b i h [] [] 0 bits hc (by simp [MS]) ⟨by simp, by simp⟩ (by simp) oM oM b0 b1) (fun r hr => ?_)
  obtain ⟨_, _, _, c⟩ := hr
  refine sI (fun _ => rR ⟨a6k, c⟩) (fun hl => ?_)
  obtain ⟨q, hq⟩ := c7l r.1
  exact rQ (a9r r.1 ⟨q, hq⟩) (fun x hx => sI (fun ht => rR ⟨hx ht, c⟩) (fun _ => rR ⟨a6k, c⟩))
theorem b7l (b : List Int) (i h : Int) (hc : Cur b i) : Ok (fun k => xK k b i h) (fun r => 1 ≤ r.1.length ∧ r.1.length ≤ 81 ∧ Cur b r.2.1) := by
  unfold xK
  refine rQ (a7b b i h 8 hc oM oM) (fun r hr => ?_)
  obtain ⟨t, i1, h1⟩ := r
  obtain ⟨⟨l1, l2, _⟩, c1⟩ := hr
  simp only at l1 l2 c1
  obtain ⟨y, i2, h2, e2, y0, _, y1, c2⟩ := qI b i1 h1 (t.length : Int) c1
  have y1 := y1 oM
  refine pC e2 ?_
  obtain ⟨z, i3, h3, e3, z0, _, z1, c3⟩ := qI b i2 h2 12 c2
  refine pC e3 ?_
  simp only
  refine sI (fun _ => ?_) (fun _ => sI (fun _ => ?_) (fun _ => sI (fun _ => ?_) (fun _ => sI (fun _ => ?_) (fun _ => sI (fun _ => ?_) (fun _ => sI (fun _ => sI (fun _ => ?_) (fun _ => ?_)) (fun _ => ?_))))))
  · obtain ⟨w, i4, h4, e4, _, c4⟩ := a3g b i3 h3 [0, 1, 2, 9] (by simp) c3
    exact pC e4 (pD y0 (pD y1 (rR ⟨by simp; omega, by simp; omega, c4⟩)))
  · obtain ⟨w, i4, h4, e4, _, _, _, c4⟩ := qI b i3 h3 (wrap64 ((t.length : Int) + 2)) c3
    exact pC e4 (pD y0 (pD y1 (rR ⟨by simp; omega, by simp; omega, c4⟩)))
  · obtain ⟨w, i4, h4, e4, _, c4⟩ := a3g b i3 h3 [(-1), 0, 1, 8] (by simp) c3
    exact pC e4 (pD y0 (pD y1 (rR ⟨by simp; omega, by simp; omega, c4⟩)))
  · obtain ⟨w, i4, h4, e4, _, _, _, c4⟩ := qI b i3 h3 23 c3
    exact pC e4 (pD y0 (pD y1 (rR ⟨by simp; omega, by simp; omega, c4⟩)))
  · rw [kO (x := y + 1) oM oM]
    exact pD oM (pD oM (rR ⟨by simp; omega, by simp; omega, c3⟩))
  · exact pD y0 (pD y1 (pD oM (rR ⟨by simp, by simp; omega, c3⟩)))
  · exact rR ⟨by simp only; omega, by simp only; omega, c3⟩
  · exact rR ⟨by simp only; omega, by simp only; omega, c3⟩
theorem b4v (b : List Int) (n : Nat) : ∀ (j : Nat) (t : List S31) (i h : Int), j + n = 3 → 1 ≤ t.length → t.length ≤ 81 → Cur b i → Ok (fun k => tX k t (j : Int) b i h) (fun r => 1 ≤ r.1.length ∧ r.1.length ≤ 81 ∧ Cur b r.2.1) := by
  induction n with
  | zero =>
    intro j t i h hj h1 h2 hc
    refine pP ?_
    simp only [tX]
    refine yD oM (pP ?_)
    simp only [rS]
    exact yD (by simp) (rR ⟨h1, h2, hc⟩)
  | succ n ih =>
    intro j t i h hj h1 h2 hc
    have jf : Ok (fun k => rS k t (j : Int) false b i h) (fun r => 1 ≤ r.1.length ∧ r.1.length ≤ 81 ∧ Cur b r.2.1) := by
      refine pP ?_
      simp only [rS]
      exact yD (by simp) (rR ⟨h1, h2, hc⟩)
    refine pP ?_
    simp only [tX]
    rw [kO (x := (t.length : Int) - 1) oM oM]
    refine pD oM (sI (fun hgt => pD oM (pD oM (pC (c3j _) ?_))) (fun _ => jf))
    refine pP ?_
    simp only [rS]
    refine sI (fun _ => ?_) (fun _ => rR ⟨h1, h2, hc⟩)
    obtain ⟨x, i1, h1', e1, c1⟩ := yZ b i h 3 hc
    rw [kO (x := (t.length : Int) - 1) oM oM, wS j]
    refine pC e1 (sI (fun _ => rR ⟨h1, h2, c1⟩) (fun _ => pD oM (pD oM (ih (j + 1) _ _ _ oM (by simp; omega) (by simp; omega) c1))))
theorem b4w (b : List Int) (i h : Int) (hc : Cur b i) : Ok (fun k => wU k b i h) (fun r => 1 ≤ r.1.length ∧ r.1.length ≤ 81 ∧ Cur b r.2.1) := by
  unfold wU
  refine rQ (b7l b i h hc) (fun r hr => ?_)
  exact b4v b 3 0 r.1 r.2.1 r.2.2 rfl hr.1 hr.2.1 hr.2.2
theorem b0x (b : List Int) (m : Nat) (hm : m ≤ 8) (n : Nat) : ∀ (j : Nat) (e : List Int) (i h : Int), j + n = m → e.length = j → (∀ x ∈ e, 0 ≤ x ∧ x < 4) → Cur b i → Ok (fun k => uM k e (m : Int) (j : Int) b i h) (fun r => r.1.length = m ∧ (∀ x ∈ r.1, 0 ≤ x ∧ x < 4) ∧ Cur b r.2.1) := by
  induction n with
  | zero =>
    intro j e i h hj he hx hc
    refine pP ?_
    simp only [uM]
    exact yD oM (rR ⟨by simp only; omega, hx, hc⟩)
  | succ n ih =>
    intro j e i h hj he hx hc
    refine pP ?_
    simp only [uM]
    obtain ⟨y, i1, h1, e1, y0, _, y1, c1⟩ := qI b i h 4 hc
    have y1 := y1 oM
    rw [wS j]
    refine pD oM (pC e1 (pD oM (ih (j + 1) _ _ _ oM (by simp; omega) (fun x hx' => ?_) c1)))
    rcases List.mem_append.mp hx' with h | h
    · exact hx x h
    · obtain rfl := List.mem_singleton.mp h; exact ⟨y0, y1⟩
theorem b7g (b : List Int) (i h : Int) (hc : Cur b i) : Ok (fun k => xJ k b i h) (fun r => (r.1.length = 7 ∨ r.1.length = 8) ∧ (∀ x ∈ r.1, 0 ≤ x ∧ x < 4) ∧ Cur b r.2.1) := by
  unfold xJ
  obtain ⟨x, i1, h1, e1, c1⟩ := yZ b i h 20 hc
  refine pC rfl (pC e1 (sI (fun _ => ?_) (fun _ => ?_)))
  · refine pP ?_
    simp only [vN]
    exact a7g (b0x b 7 oM 7 0 [] i1 h1 rfl rfl (by simp) c1) (fun r hr => ⟨.inl hr.1, hr.2⟩)
  · refine pP ?_
    simp only [vN]
    exact a7g (b0x b 8 oM 8 0 [] i1 h1 rfl rfl (by simp) c1) (fun r hr => ⟨.inr hr.1, hr.2⟩)
theorem c6m (l : List Int) (hl : (l.length : Int) ≤ 140737488351232) (d : Nat) : ∀ (h j : Int), 0 ≤ j → 4000 - j ≤ d → Ok (fun k => uO k l h j) (fun r => r.1 = l ∧ r.2.1 = 0) := by
  induction d with
  | zero =>
    intro h j h0 hd
    refine pP ?_
    simp only [uO]
    exact sI (fun _ => yD oM (rR ⟨rfl, rfl⟩)) (fun _ => rR ⟨rfl, rfl⟩)
  | succ d ih =>
    intro h j h0 hd
    refine pP ?_
    simp only [uO]
    refine sI (fun _ => sI (fun _ => pD h0 ?_) (fun _ => rR ⟨rfl, rfl⟩)) (fun _ => rR ⟨rfl, rfl⟩)
    rw [kO (x := j + 1) oM oM]
    exact ih _ (j + 1) oM oM
theorem b2c (l : List Int) (hl : (l.length : Int) ≤ 140737488351232) : Ok (fun k => xL k l) (fun r => r.1 = l ∧ Cur l r.2.1) := by
  unfold xL
  exact a7g (c6m l hl 4000 _ 0 oM oM) (fun r hr => ⟨hr.1, by rw [hr.2]; unfold Cur; omega⟩)
theorem b1g (l : List Int) (hl : (l.length : Int) ≤ 140737488351232) : Ok (fun k => vG k l) (fun r => (1 ≤ r.1.length ∧ r.1.length ≤ 81) ∧ (r.2.length = 7 ∨ r.2.length = 8) ∧ (∀ x ∈ r.2, 0 ≤ x ∧ x < 4)) := by
  unfold vG
  refine rQ (b2c l hl) (fun c hc => ?_)
  obtain ⟨c0, c1, c2⟩ := c
  obtain ⟨h0, h1⟩ := hc
  simp only at h0 h1
  subst h0
  refine rQ (b4w c0 c1 c2 h1) (fun r hr => ?_)
  exact rQ (b7g c0 r.2.1 r.2.2 hr.2.2) (fun e he => rR ⟨⟨hr.1, hr.2.1⟩, he.1, he.2.1⟩)
inductive Tm where
  | leaf (op W K : Int)
  | un (op W K B : Int) (a : Tm)
  | bin (op W K : Int) (a b : Tm)
  | ter (op W K : Int) (a b c : Tm)
def Tm.wid : Tm → Int
  | .leaf _ W _ => W
  | .un _ W _ _ _ => W
  | .bin _ W _ _ _ => W
  | .ter _ W _ _ _ _ => W
def mkT (op W K B : Int) : List Tm → Tm
  | [] => .leaf op W K
  | [a] => .un op W K B a
  | [a, b] => .bin op W K a b
  | a :: b :: c :: _ => .ter op W K a b c
theorem c3d (op W K B : Int) : ∀ ts, (mkT op W K B ts).wid = W
  | [] => rfl
  | [_] => rfl
  | [_, _] => rfl
  | _ :: _ :: _ :: _ => rfl
def tr (l : List S31) : Nat → Nat → Tm
  | 0, _ => .leaf 0 0 0
  | n + 1, i => mkT (kA l (i : Int)).f0 (kA l (i : Int)).f1 (kA l (i : Int)).f2 (kA l (i : Int)).f4 ((pl l i).map fun p => tr l n p.toNat)
theorem b3p {l : List S31} (hP : pV l) (n : Nat) : ∀ m i : Nat, i < n → i < m → i < l.length → tr l n i = tr l m i := by
  induction n with
  | zero => intro m i h; omega
  | succ n ih =>
    intro m i h1 h2 hi
    obtain ⟨m, rfl⟩ : ∃ m', m = m' + 1 := ⟨m - 1, oM⟩
    unfold tr
    congr 1
    refine List.map_congr_left (fun p hp => ?_)
    have := hP i hi p hp
    exact ih m p.toNat oM oM oM
def T (l : List S31) (i : Nat) : Tm := tr l (i + 1) i
theorem a6l {l : List S31} (hP : pV l) (i : Nat) (hi : i < l.length) : T l i = mkT (kA l (i : Int)).f0 (kA l (i : Int)).f1 (kA l (i : Int)).f2 (kA l (i : Int)).f4 ((pl l i).map fun p => T l p.toNat) := by
  show tr l (i + 1) i = _
  unfold tr
  congr 1
  refine List.map_congr_left (fun p hp => ?_)
  have := hP i hi p hp
  exact b3p hP _ _ _ oM oM oM
theorem c8g {l : List S31} (i : Nat) : (T l i).wid = (kA l (i : Int)).f1 := by
  show (tr l (i + 1) i).wid = _
  unfold tr
  exact c3d _ _ _ _ _
def qv (op : Int) (n : Nat) (f : Nat → Int) : Int :=
  if op = 19 then (if (List.range n).all (fun x => f x == 1) = true then 1 else 0) else (if (List.range n).any (fun x => f x == 1) = true then 1 else 0)
def sem : Tm → List Int → Int
  | .leaf op W K, env => if op = 1 then rd env K else vF op W K 1 0 0 0
  | .un op W K B a, env => if op = 19 ∨ op = 20 then qv op (2 ^ B.toNat) (fun x => sem a (env.set K.toNat (x : Int))) else vF op W K a.wid (sem a env) 0 0
  | .bin op W K a b, env => vF op W K a.wid (sem a env) (sem b env) 0
  | .ter op W K a b c, env => vF op W K a.wid (sem a env) (sem b env) (sem c env)
theorem vW {op A B C : Int} (h : op = 19 ∨ op = 20) : kP op A B C = [A] := by
  unfold kP; rw [if_pos oM]
theorem tV {l : List S31} (h : qH l) (i : Nat) (hi : i < l.length) : (1 ≤ (kA l (i : Int)).f1 ∧ (kA l (i : Int)).f1 ≤ 8) ∧ (0 ≤ (kA l (i : Int)).f0 ∧ (kA l (i : Int)).f0 ≤ 20) ∧ (0 ≤ (kA l (i : Int)).f2 ∧ (kA l (i : Int)).f2 ≤ 9223372036854775807) := by
  have hb := h i hi
  unfold a2a xM at hb
  simp only [Bool.and_eq_true] at hb
  obtain ⟨⟨⟨⟨h1, h2⟩, h3⟩, h4⟩, h5⟩ := hb
  have h1 := rJ.mp h1
  have h2 := rJ.mp h2
  refine ⟨h1, h2, ?_⟩
  unfold pO at h5
  unfold xY at h3
  by_cases o0 : (kA l (i : Int)).f0 = 0
  · rw [if_pos o0] at h5
    have := pH.mp h5
    have := qR (w := (kA l (i : Int)).f1) oM oM
    omega
  rw [if_neg o0] at h5
  by_cases o1 : (kA l (i : Int)).f0 = 1
  · rw [if_pos o1] at h5
    have := rJ.mp h5
    omega
  rw [if_neg o1] at h5
  rw [if_neg oM] at h3
  by_cases o17 : (kA l (i : Int)).f0 = 17
  · rw [if_neg oM, if_neg oM, if_neg oM, if_neg oM, if_pos o17] at h5
    have := rJ.mp h5
    have hw : wrap64 (wv (l.take i) (kP (kA l (i : Int)).f0 (kA l (i : Int)).f3 (kA l (i : Int)).f4 (kA l (i : Int)).f5) (kP (kA l (i : Int)).f0 (kA l (i : Int)).f3 (kA l (i : Int)).f4 (kA l (i : Int)).f5).length 0 - (kA l (i : Int)).f1) ≤ 9223372036854775807 := by
      unfold wrap64; omega
    omega
  rw [if_neg o17] at h3
  by_cases oq : (kA l (i : Int)).f0 = 19 ∨ (kA l (i : Int)).f0 = 20
  · rw [if_neg oM, if_neg oM, if_neg oM, if_neg oM, if_neg oM, if_neg oM] at h5
    simp only [Bool.and_eq_true] at h5
    have := rJ.mp h5.1.1.1
    omega
  rw [if_neg oq] at h3
  by_cases o2 : (kA l (i : Int)).f0 = 2
  · rw [if_pos o2] at h3
    simp only [Bool.and_eq_true, beq_iff_eq] at h3
    omega
  rw [if_neg o2] at h3
  by_cases o3 : 3 ≤ (kA l (i : Int)).f0 ∧ (kA l (i : Int)).f0 ≤ 16
  · rw [if_pos o3] at h3
    simp only [Bool.and_eq_true, beq_iff_eq] at h3
    omega
  rw [if_neg o3] at h3
  by_cases o18 : (kA l (i : Int)).f0 = 18
  · rw [if_pos o18] at h3
    simp only [Bool.and_eq_true, beq_iff_eq] at h3
    omega
  · omega
theorem a3p {l : List S31} (h : qH l) (i : Nat) (hi : i < l.length) (o : (kA l (i : Int)).f0 = 1) : (kA l (i : Int)).f2 ≤ 7 := by
  have hb := h i hi
  unfold a2a xM pO at hb
  simp only [Bool.and_eq_true] at hb
  rw [if_neg oM, if_pos o] at hb
  exact (rJ.mp hb.2).2
theorem uG {l : List S31} (h : qH l) (i : Nat) (hi : i < l.length) (o : (kA l (i : Int)).f0 = 19 ∨ (kA l (i : Int)).f0 = 20) : (kA l (i : Int)).f2 ≤ 7 ∧ (1 ≤ (kA l (i : Int)).f4 ∧ (kA l (i : Int)).f4 ≤ 8) ∧ (0 ≤ (kA l (i : Int)).f3 ∧ (kA l (i : Int)).f3 < (i : Int)) ∧ (kA l (kA l (i : Int)).f3).f1 = 1 ∧ (kA l (i : Int)).f1 = 1 := by
  have hp := rP h i hi (kA l (i : Int)).f3 (by unfold pl; rw [vW o]; simp)
  have hb := h i hi
  unfold a2a xM pO at hb
  simp only [Bool.and_eq_true] at hb
  rw [if_neg oM, if_neg oM, if_neg oM, if_neg oM, if_neg oM, if_neg oM, if_neg oM, if_neg oM] at hb
  simp only [Bool.and_eq_true, beq_iff_eq] at hb
  obtain ⟨_, ⟨⟨h1, h2⟩, h3⟩, h4⟩ := hb
  have h1 := rJ.mp h1
  have h2 := rJ.mp h2
  rw [vW o] at h3
  have h3 : (kA (l.take i) (rd [(kA l (i : Int)).f3] 0)).f1 = 1 := h3
  rw [show rd [(kA l (i : Int)).f3] 0 = (kA l (i : Int)).f3 from rfl, a7e l i _ hp.1 hp.2] at h3
  exact ⟨h1.2, h2, hp, h3, h4⟩
theorem a1h {w : Int} (h : 0 ≤ w) : P2 w = ((2 ^ w.toNat : Nat) : Int) := by unfold P2; simp
theorem b0w {α : Type} {g : Nat → Option α} {r : α} (h : Ev g r) : Ev (fun k => g (k + 1)) r := by
  obtain ⟨n, h⟩ := h
  exact ⟨n, fun k hk => h (k + 1) oM⟩
def HA (l : List S31) (i : Nat) (A : Nat → List S31 → List Int → Int → Option (Int × List Int)) : Prop :=
  ∀ (env : List Int) (j : Nat), env.length = 8 → j < i → Ev (fun k => A k l env (j : Int)) (sem (T l j) env, env)
theorem a3s {l : List S31} {i : Nat} {A : Nat → List S31 → List Int → Int → Option (Int × List Int)} (h : HA l i A) : HA l i (fun k => A (k + 1)) :=
  fun env j he hj => b0w (h env j he hj)
theorem c6d (l : List Int) (i : Int) (h0 : 0 ≤ i) (h1 : i < (l.length : Int)) : l.set i.toNat (rd l i) = l := by
  unfold rd
  rw [List.getD_eq_getElem?_getD, List.getElem?_eq_getElem oM]
  exact List.set_getElem_self _
theorem b1d (n : Nat) (f : Nat → Bool) : (List.range (n + 1)).all f = ((List.range n).all f && f n) := by
  rw [List.range_succ, List.all_append]; simp
theorem b1b (n : Nat) (f : Nat → Bool) : (List.range (n + 1)).any f = ((List.range n).any f || f n) := by
  rw [List.range_succ, List.any_append]; simp
theorem c6k (l : List S31) (a i : Nat) (hai : a < i) (env : List Int) (he : env.length = 8) (op W K B C : Int) (hK0 : 0 ≤ K) (hK : K ≤ 7) (hB0 : 1 ≤ B) (hB : B ≤ 8) (d : Nat) : ∀ (x : Nat) (A : Nat → List S31 → List Int → Int → Option (Int × List Int)) (env' : List Int), HA l i A → x + d = 2 ^ B.toNat → env'.length = 8 → (∀ y, env'.set K.toNat y = env.set K.toNat y) →
    Ev (fun k => tP (A k) k l env' (rd env K) (if (List.range x).all (fun y => sem (T l a) (env.set K.toNat (y : Int)) == 1) = true then 1 else 0) (if (List.range x).any (fun y => sem (T l a) (env.set K.toNat (y : Int)) == 1) = true then 1 else 0) (x : Int) op W K (a : Int) B C) (qv op (2 ^ B.toNat) (fun x => sem (T l a) (env.set K.toNat (x : Int))), env) := by
  have hp : ∀ x : Nat, x ≤ 2 ^ B.toNat → (x : Int) ≤ 256 := by
    intro x hx
    have := qR (w := B) oM hB
    rw [a1h oM] at this
    omega
  induction d with
  | zero =>
    intro x A env' hA hx hl hs
    have := hp x oM
    obtain rfl : x = 2 ^ B.toNat := by omega
    refine kJ ?_
    simp only [tP]
    refine kV (a := P2 B) (zD 20 fun k hk => a5u oM hB hk) ?_
    refine kL (by rw [a1h oM]; omega) (kD hK0 (kD (by rw [hl]; omega) (pI rfl ?_)))
    rw [hs, c6d env K hK0 oM]
    unfold qv
    by_cases h19 : op = 19
    · rw [if_pos h19, if_pos h19]; exact qO
    · rw [if_neg h19, if_neg h19]; exact qO
  | succ d ih =>
    intro x A env' hA hx hl hs
    have := hp x oM
    refine kJ ?_
    simp only [tP]
    refine kV (a := P2 B) (zD 20 fun k hk => a5u oM hB hk) ?_
    refine kD (by rw [a1h oM]; omega) (kD hK0 (kD (by rw [hl]; omega) ?_))
    refine kV (a3s hA (env'.set K.toNat (x : Int)) a (by simpa using hl) hai) ?_
    rw [wS x]
    rw [hs]
    have ih := ih (x + 1) (fun k => A (k + 1)) (env.set K.toNat (x : Int)) (a3s hA) oM (by simpa using he) (fun y => by simp)
    rw [b1d, b1b] at ih
    by_cases h1 : sem (T l a) (env.set K.toNat (x : Int)) = 1
    · refine kD h1 ?_
      rw [show (sem (T l a) (env.set K.toNat (x : Int)) == 1) = true from beq_iff_eq.mpr h1, Bool.and_true, Bool.or_true, if_pos (rfl : true = true)] at ih
      exact ih
    · refine kL h1 ?_
      rw [show (sem (T l a) (env.set K.toNat (x : Int)) == 1) = false from beq_eq_false_iff_ne.mpr h1, Bool.and_false, Bool.or_false, if_neg (show ¬ (false = true) by decide)] at ih
      exact ih
theorem c6j (l : List S31) (i : Nat) (hi : i < l.length) (hl : l.length ≤ 80) (env vals : List Int) (hv : vals.length = i) (hvals : ∀ t < i, rd vals (t : Int) = sem (T l t) env) (ps : List Int) (hps : ps.length ≤ 3) (hin : ∀ p ∈ ps, 0 ≤ p ∧ p < (i : Int)) (op W K A_ B C : Int) (hk1 : -9223372036854775808 ≤ K) (hk2 : K ≤ 9223372036854775807) (d : Nat) :
    ∀ (j : Nat) (A : Nat → List S31 → List Int → Int → Option (Int × List Int)) (v : List Int) (w : Int), j + d = ps.length → v.length = 3 → (w = if j = 0 then 1 else (kA l (rd ps 0)).f1) → (∀ t : Nat, t < 3 → rd v (t : Int) = if t < j then sem (T l (rd ps (t : Int)).toNat) env else 0) →
      Ev (fun k => tO (A k) k l env vals v w ps (j : Int) op W K A_ B C) (vF op W K (if ps.length = 0 then 1 else (kA l (rd ps 0)).f1) (if 0 < ps.length then sem (T l (rd ps 0).toNat) env else 0) (if 1 < ps.length then sem (T l (rd ps 1).toNat) env else 0) (if 2 < ps.length then sem (T l (rd ps 2).toNat) env else 0), env) := by
  induction d with
  | zero =>
    intro j A v w hj hv3 hw h
    obtain rfl : j = ps.length := by omega
    refine kJ ?_
    simp only [tO]
    refine kL oM (kD oM (kD oM (kD oM ?_)))
    refine kV (zD 40 fun k hk => c7o op W K A_ B C w _ _ _ hk1 hk2 hk) (a9m ?_)
    have e0 := h 0 oM
    have e1 := h 1 oM
    have e2 := h 2 oM
    rw [show ((0 : Nat) : Int) = 0 from rfl] at e0
    rw [show ((1 : Nat) : Int) = 1 from rfl] at e1
    rw [show ((2 : Nat) : Int) = 2 from rfl] at e2
    rw [e0, e1, e2, hw]
  | succ d ih =>
    intro j A v w hj hv3 hw h
    have hp := hin (rd ps (j : Int)) (by rw [rdI ps j oM]; exact List.getElem_mem _)
    refine kJ ?_
    simp only [tO]
    refine kD oM (kD oM (kD hp.1 (kD oM (kD oM (pI rfl ?_)))))
    rw [wS j, Int.toNat_natCast]
    have hval : rd vals (rd ps (j : Int)) = sem (T l (rd ps (j : Int)).toNat) env := by
      have := hvals (rd ps (j : Int)).toNat oM
      rwa [Int.toNat_of_nonneg hp.1] at this
    have hnew : ∀ t : Nat, t < 3 → rd (v.set j (rd vals (rd ps (j : Int)))) (t : Int) = if t < j + 1 then sem (T l (rd ps (t : Int)).toNat) env else 0 := by
      intro t ht
      have this : v.getD t 0 = _ := h t ht
      show (v.set j (rd vals (rd ps (j : Int)))).getD t 0 = _
      rw [List.getD_eq_getElem?_getD, List.getElem?_set]
      by_cases hjt : j = t
      · subst hjt
        rw [if_pos rfl, if_pos oM, if_pos oM]
        exact hval
      · rw [if_neg hjt, ← List.getD_eq_getElem?_getD, this]
        by_cases c : t < j
        · rw [if_pos c, if_pos oM]
        · rw [if_neg c, if_neg oM]
    by_cases j0 : j = 0
    · subst j0
      refine kD rfl (kD oM ?_)
      exact ih 1 (fun k => A (k + 1)) _ _ oM (by simpa using hv3) rfl hnew
    · refine kL oM ?_
      rw [if_neg j0] at hw
      exact ih (j + 1) (fun k => A (k + 1)) _ _ oM (by simpa using hv3) (by rw [if_neg oM]; exact hw) hnew
theorem a4u (l : List S31) (op W K B : Int) (ps : List Int) (hps : ps.length ≤ 3) (h1 : op ≠ 1) (hq : ¬ (op = 19 ∨ op = 20)) (env : List Int) (hw : ∀ p ∈ ps, 0 ≤ p) :
    sem (mkT op W K B (ps.map fun p => T l p.toNat)) env = vF op W K (if ps.length = 0 then 1 else (kA l (rd ps 0)).f1) (if 0 < ps.length then sem (T l (rd ps 0).toNat) env else 0) (if 1 < ps.length then sem (T l (rd ps 1).toNat) env else 0) (if 2 < ps.length then sem (T l (rd ps 2).toNat) env else 0) := by
  have wd : ∀ p : Int, 0 ≤ p → (T l p.toNat).wid = (kA l p).f1 := by
    intro p hp
    rw [c8g, Int.toNat_of_nonneg hp]
  match ps, hps with
  | [], _ => simp [mkT, sem, h1]
  | [a], _ => simp [mkT, sem, hq, rd, wd a (hw a (by simp))]
  | [a, b], _ => simp [mkT, sem, rd, wd a (hw a (by simp))]
  | [a, b, c], _ => simp [mkT, sem, rd, wd a (hw a (by simp))]
  | a :: b :: c :: d :: r, h => simp at h
theorem c6l {l : List S31} (hN : qH l) (hl : l.length ≤ 80) (i : Nat) (hi : i < l.length) (A : Nat → List S31 → List Int → Int → Option (Int × List Int)) (hA : HA l i A) (env vals : List Int) (he : env.length = 8) (hv : vals.length = i) (hvals : ∀ t < i, rd vals (t : Int) = sem (T l t) env) :
    Ev (fun k => xI (A k) k l env vals (i : Int)) (sem (T l i) env, env) := by
  have hP := rP hN
  have hf := tV hN i hi
  unfold xI
  rw [a6l hP i hi]
  refine kD oM (kD oM ?_)
  by_cases o1 : (kA l (i : Int)).f0 = 1
  · have := a3p hN i hi o1
    refine kD o1 (kD oM (kD oM (a9m ?_)))
    have hpl : pl l i = [] := by unfold pl; rw [o1]; rfl
    rw [hpl, o1]
    rfl
  · refine kL o1 (pI (c3j _) ?_)
    by_cases oq : (kA l (i : Int)).f0 = 19 ∨ (kA l (i : Int)).f0 = 20
    · obtain ⟨k7, ⟨b1, b8⟩, ⟨a0, a1⟩, _, _⟩ := uG hN i hi oq
      have hpl : pl l i = [(kA l (i : Int)).f3] := by unfold pl; exact vW oq
      refine kD (by simpa using oq) (kD oM (kD oM ?_))
      rw [hpl]
      show Ev _ (sem (mkT _ _ _ _ [_]) env, env)
      simp only [mkT, sem]
      rw [if_pos oq]
      have := c6k l (kA l (i : Int)).f3.toNat i oM env he (kA l (i : Int)).f0 (kA l (i : Int)).f1 (kA l (i : Int)).f2 (kA l (i : Int)).f4 (kA l (i : Int)).f5 oM k7 b1 b8 (2 ^ (kA l (i : Int)).f4.toNat) 0 A env hA oM he (fun _ => rfl)
      rw [Int.toNat_of_nonneg a0] at this
      exact this
    · refine kL (by simpa using oq) (kV (a := pl l i) (zD 1 fun k hk => a3h _ _ _ _ _ _ hk) ?_)
      have hlen : (pl l i).length ≤ 3 := qV _ _ _ _
      have hin := hP i hi
      rw [a4u l _ _ _ _ (pl l i) hlen o1 oq env (fun p hp => (hin p hp).1)]
      exact c6j l i hi hl env vals hv hvals (pl l i) hlen hin _ _ _ _ _ _ oM oM (pl l i).length 0 A [0, 0, 0] 1 oM rfl rfl (by
        intro t ht
        rw [if_neg oM]
        have : t = 0 ∨ t = 1 ∨ t = 2 := by omega
        rcases this with rfl | rfl | rfl <;> rfl)
theorem c8d {l : List S31} (hN : qH l) (hl : l.length ≤ 80) (i : Nat) (hi : i < l.length) (env : List Int) (he : env.length = 8) (d : Nat) : ∀ (j : Nat) (A : Nat → List S31 → List Int → Int → Option (Int × List Int)) (vals : List Int), HA l i A → j + d = i + 1 → vals.length = j → (∀ t < j, rd vals (t : Int) = sem (T l t) env) →
    Ev (fun k => uN (A k) k l env (i : Int) vals (j : Int)) (sem (T l i) env, env) := by
  induction d with
  | zero =>
    intro j A vals hA hj hv hvals
    refine kJ ?_
    simp only [uN]
    refine kL oM (kD oM (kD oM (a9m ?_)))
    rw [hvals i oM]
  | succ d ih =>
    intro j A vals hA hj hv hvals
    refine kJ ?_
    simp only [uN]
    refine kD oM (kV (a := (sem (T l j) env, env)) ?_ (kD oM ?_))
    · have hA2 : HA l j (fun k => A (k + 1)) := fun e t h1 h2 => a3s hA e t h1 oM
      exact c6l hN hl j oM (fun k => A (k + 1)) hA2 env vals he hv hvals
    · rw [wS j]
      refine ih (j + 1) (fun k => A (k + 1)) _ (a3s hA) oM (by simp [hv]) ?_
      intro t ht
      by_cases c : t < j
      · have := hvals t c
        unfold rd at this ⊢
        rw [Int.toNat_natCast] at this ⊢
        rw [List.getD_eq_getElem?_getD, List.getElem?_append_left oM, ← List.getD_eq_getElem?_getD]
        exact this
      · obtain rfl : t = j := by omega
        unfold rd
        rw [Int.toNat_natCast, List.getD_eq_getElem?_getD, List.getElem?_append_right oM, hv, Nat.sub_self]
        rfl
theorem c8e {l : List S31} (hN : qH l) (hl : l.length ≤ 80) (i : Nat) : ∀ (env : List Int), i < l.length → env.length = 8 → Ev (fun k => tQ k l env (i : Int)) (sem (T l i) env, env) := by
  induction i using Nat.strongRecOn with
  | ind i ih =>
    intro env hi he
    refine kJ ?_
    simp only [tQ, yM]
    have hA : HA l i (fun k => tQ k) := fun e j h1 h2 => ih j h2 e oM h1
    have := c8d hN hl i hi env he (i + 1) 0 (fun k => match k with | 0 => fun _ _ _ => none | k + 1 => tQ k) [] (fun e j h1 h2 => kJ (hA e j h1 h2)) oM rfl (fun t h => absurd h oM)
    exact b0w this
theorem b0z (a b w : Nat) (hw : w ≤ 9) (ha : a < 2 ^ w) (hb : b < 2 ^ w) : ((Go.bits .and .i64 (a : Int) (b : Int)) = ((a &&& b : Nat) : Int)) ∧ ((Go.bits .or .i64 (a : Int) (b : Int)) = ((a ||| b : Nat) : Int)) ∧ ((Go.bits .xor .i64 (a : Int) (b : Int)) = ((a ^^^ b : Nat) : Int)) := by
  have hle : 2 ^ w ≤ 2 ^ 9 := Nat.pow_le_pow_right oM hw
  have ha' : (BitVec.ofInt 64 (a : Int)).toNat = a := by
    have := xT (x := (a : Int)) oM oM
    omega
  have hb' : (BitVec.ofInt 64 (b : Int)).toNat = b := by
    have := xT (x := (b : Int)) oM oM
    omega
  have h1 := Nat.and_lt_two_pow a hb
  have h2 := Nat.or_lt_two_pow ha hb
  have h3 := Nat.xor_lt_two_pow ha hb
  refine ⟨?_, ?_, ?_⟩
  · show IntKind.i64.wrap ((BitVec.ofInt 64 _ &&& BitVec.ofInt 64 _).toNat : Int) = _
    rw [BitVec.toNat_and, ha', hb', IntKind.wrap_i64]
    omega
  · show IntKind.i64.wrap ((BitVec.ofInt 64 _ ||| BitVec.ofInt 64 _).toNat : Int) = _
    rw [BitVec.toNat_or, ha', hb', IntKind.wrap_i64]
    omega
  · show IntKind.i64.wrap ((BitVec.ofInt 64 _ ^^^ BitVec.ofInt 64 _).toNat : Int) = _
    rw [BitVec.toNat_xor, ha', hb', IntKind.wrap_i64]
    omega
theorem b7j {w a b : Int} (ha : wok w a = true) (hb : wok w b = true) : wok w (Go.bits .and .i64 a b) = true ∧ wok w (Go.bits .or .i64 a b) = true ∧ wok w (Go.bits .xor .i64 a b) = true := by
  obtain ⟨w1, w8, a0, a1⟩ := pH.mp ha
  obtain ⟨_, _, b0, b1⟩ := pH.mp hb
  rw [a1h oM] at a1 b1
  obtain ⟨a, rfl⟩ := Int.eq_ofNat_of_zero_le a0
  obtain ⟨b, rfl⟩ := Int.eq_ofNat_of_zero_le b0
  obtain ⟨e1, e2, e3⟩ := b0z a b w.toNat oM oM oM
  have h1 := Nat.and_lt_two_pow (n := w.toNat) a (show b < 2 ^ w.toNat by omega)
  have h2 := Nat.or_lt_two_pow (show a < 2 ^ w.toNat by omega) (show b < 2 ^ w.toNat by omega)
  have h3 := Nat.xor_lt_two_pow (show a < 2 ^ w.toNat by omega) (show b < 2 ^ w.toNat by omega)
  rw [e1, e2, e3]
  simp only [pH]
  rw [a1h oM]
  omega
theorem yL {w a : Int} (h : wok w a = true) : 0 ≤ a ∧ a ≤ 255 := by
  obtain ⟨w1, w8, a0, a1⟩ := pH.mp h
  have := qR (w := w) oM w8
  omega
theorem a4q {w x : Int} (h1 : 1 ≤ w) (h8 : w ≤ 8) : wok w (x % P2 w) = true := by
  have := qR (w := w) oM h8
  have h2 := Int.emod_nonneg x (show P2 w ≠ 0 by omega)
  have h3 := Int.emod_lt_of_pos x (show 0 < P2 w by omega)
  exact pH.mpr ⟨h1, h8, h2, oM⟩
theorem b0g {w : Int} (h1 : 1 ≤ w) (h8 : w ≤ 8) : wok w 0 = true := by
  have := qR (w := w) oM h8
  exact pH.mpr ⟨h1, h8, oM, oM⟩
theorem b3l {x : Int} (h : x = 0 ∨ x = 1) : wok 1 x = true := by
  rcases h with rfl | rfl <;> decide
theorem b5q {x : Int} (h : wok 1 x = true) : x = 0 ∨ x = 1 := by
  obtain ⟨_, _, h0, h1⟩ := pH.mp h
  rw [show P2 1 = 2 from rfl] at h1
  omega
set_option maxHeartbeats 1000000 in
theorem b6k {op w a b : Int} (ha : wok w a = true) (hb : wok w b = true) : wok w (c4b op w a b) = true := by
  have hbw := b7j ha hb
  obtain ⟨w1, w8, a0, a1⟩ := pH.mp ha
  obtain ⟨_, _, b0, b1⟩ := pH.mp hb
  have hab : (wok w a && wok w b) = true := by rw [ha, hb]; rfl
  unfold c4b
  rw [if_pos hab, if_pos hab, if_pos hab, if_pos hab, if_pos hab, if_pos hab, if_pos hab]
  have hz := b0g w1 w8
  have hdiv : ∀ c : Int, 0 < c → wok w (a / c) = true := by
    intro c hc
    have h1 : 0 ≤ a / c := Int.ediv_nonneg a0 oM
    have h2 : a / c ≤ a := Int.ediv_le_self c a0
    exact pH.mpr ⟨w1, w8, h1, oM⟩
  by_cases o3 : op = 3
  · rw [if_pos o3]; exact hbw.1
  rw [if_neg o3]
  by_cases o4 : op = 4
  · rw [if_pos o4]; exact hbw.2.1
  rw [if_neg o4]
  by_cases o5 : op = 5
  · rw [if_pos o5]; exact hbw.2.2
  rw [if_neg o5]
  by_cases o6 : op = 6
  · rw [if_pos o6]; exact a4q w1 w8
  rw [if_neg o6]
  by_cases o7 : op = 7
  · rw [if_pos o7]; exact a4q w1 w8
  rw [if_neg o7]
  by_cases o8 : op = 8
  · rw [if_pos o8]; exact a4q w1 w8
  rw [if_neg o8]
  by_cases o9 : op = 9
  · rw [if_pos o9]
    by_cases hb0 : b = 0
    · rw [if_pos hb0]
      have := qR (w := w) oM w8
      exact pH.mpr ⟨w1, w8, oM, oM⟩
    · rw [if_neg hb0]; exact hdiv b oM
  rw [if_neg o9]
  by_cases o10 : op = 10
  · rw [if_pos o10]
    by_cases hb0 : b = 0
    · rw [if_pos hb0]; exact ha
    · rw [if_neg hb0]
      have h1 := Int.emod_nonneg a (show b ≠ 0 by omega)
      have h2 := Int.emod_lt_of_pos a (show 0 < b by omega)
      exact pH.mpr ⟨w1, w8, h1, oM⟩
  rw [if_neg o10]
  by_cases o11 : op = 11
  · rw [if_pos o11]
    by_cases hbw : b ≥ w
    · rw [if_pos hbw]; exact hz
    · rw [if_neg hbw]; exact a4q w1 w8
  rw [if_neg o11]
  by_cases hbw : b ≥ w
  · rw [if_pos hbw]; exact hz
  · rw [if_neg hbw]
    have := qR (w := b) b0 oM
    exact hdiv _ oM
theorem a3c {c : Prop} [Decidable c] : (if c then (1 : Int) else 0) = 0 ∨ (if c then (1 : Int) else 0) = 1 := by
  by_cases h : c
  · rw [if_pos h]; exact .inr rfl
  · rw [if_neg h]; exact .inl rfl
def a5q : Tm → List Int → Prop
  | .leaf op W K, env => op = 1 → wok W (rd env K) = true
  | .un op W K B a, env => (¬ (op = 19 ∨ op = 20) → a5q a env) ∧ ((op = 19 ∨ op = 20) → ∀ x : Nat, x < 2 ^ B.toNat → a5q a (env.set K.toNat (x : Int)))
  | .bin op W K a b, env => a5q a env ∧ a5q b env
  | .ter op W K a b c, env => a5q a env ∧ a5q b env ∧ a5q c env
theorem c3m {op W K B : Int} {env : List Int} (hq : ¬ (op = 19 ∨ op = 20)) : ∀ (ts : List Tm), ts.length ≤ 3 → a5q (mkT op W K B ts) env → ∀ t ∈ ts, a5q t env
  | [], _, _, t, h => by simp at h
  | [a], _, h, t, ht => by obtain rfl := List.mem_singleton.mp ht; exact h.1 hq
  | [a, b], _, h, t, ht => by
    rcases List.mem_cons.mp ht with rfl | ht
    · exact h.1
    · obtain rfl := List.mem_singleton.mp ht; exact h.2
  | [a, b, c], _, h, t, ht => by
    rcases List.mem_cons.mp ht with rfl | ht
    · exact h.1
    rcases List.mem_cons.mp ht with rfl | ht
    · exact h.2.1
    · obtain rfl := List.mem_singleton.mp ht; exact h.2.2
  | _ :: _ :: _ :: _ :: _, h, _, _, _ => by simp at h
theorem a8j {l : List S31} (hP : pV l) (i : Nat) (hi : i < l.length) (hq : ¬ ((kA l (i : Int)).f0 = 19 ∨ (kA l (i : Int)).f0 = 20)) {env : List Int} (h : a5q (T l i) env) (p : Int) (hp : p ∈ pl l i) : a5q (T l p.toNat) env := by
  rw [a6l hP i hi] at h
  exact c3m hq _ (by rw [List.length_map]; exact qV _ _ _ _) h _ (List.mem_map.mpr ⟨p, hp, rfl⟩)
theorem b2a {l : List S31} (hP : pV l) (i : Nat) (hi : i < l.length) (hq : (kA l (i : Int)).f0 = 19 ∨ (kA l (i : Int)).f0 = 20) {env : List Int} (h : a5q (T l i) env) (x : Nat) (hx : x < 2 ^ (kA l (i : Int)).f4.toNat) : a5q (T l (kA l (i : Int)).f3.toNat) (env.set (kA l (i : Int)).f2.toNat (x : Int)) := by
  rw [a6l hP i hi, show pl l i = [(kA l (i : Int)).f3] from vW hq] at h
  exact h.2 hq x hx
theorem b7d {l : List S31} (hP : pV l) (i : Nat) (hi : i < l.length) (o1 : (kA l (i : Int)).f0 = 1) {env : List Int} (h : a5q (T l i) env) : wok (kA l (i : Int)).f1 (rd env (kA l (i : Int)).f2) = true := by
  rw [a6l hP i hi, show pl l i = [] from by unfold pl; rw [o1]; rfl] at h
  exact h o1
theorem c6f (op : Int) (n : Nat) (f : Nat → Int) : qv op n f = 0 ∨ qv op n f = 1 := by
  unfold qv; split <;> exact a3c
set_option maxHeartbeats 2000000 in
theorem b3w {l : List S31} (hN : qH l) (i : Nat) : ∀ env : List Int, i < l.length → a5q (T l i) env → wok (kA l (i : Int)).f1 (sem (T l i) env) = true := by
  have hP := rP hN
  induction i using Nat.strongRecOn with
  | ind i ih =>
    intro env hi hg
    have hf := tV hN i hi
    have hb := hN i hi
    have hin := hP i hi
    by_cases o1 : (kA l (i : Int)).f0 = 1
    · have := b7d hP i hi o1 hg
      rw [a6l hP i hi, show pl l i = [] from by unfold pl; rw [o1]; rfl, o1]
      exact this
    by_cases oq : (kA l (i : Int)).f0 = 19 ∨ (kA l (i : Int)).f0 = 20
    · have hq := uG hN i hi oq
      rw [a6l hP i hi, show pl l i = [(kA l (i : Int)).f3] from vW oq, hq.2.2.2.2]
      show wok 1 (sem (mkT _ _ _ _ [_]) env) = true
      simp only [mkT, sem]
      rw [if_pos oq]
      exact b3l (c6f _ _ _)
    have part : ∀ p ∈ pl l i, wok (kA l p).f1 (sem (T l p.toNat) env) = true := by
      intro p hp
      have := hin p hp
      have h := ih p.toNat oM env oM (a8j hP i hi oq hg p hp)
      rwa [Int.toNat_of_nonneg this.1] at h
    have wvp : ∀ t : Nat, t < (pl l i).length → wv (l.take i) (pl l i) (pl l i).length t = (kA l (rd (pl l i) (t : Int))).f1 := by
      intro t ht
      unfold wv
      have := hin (rd (pl l i) (t : Int)) (by rw [rdI (pl l i) t ht]; exact List.getElem_mem _)
      rw [if_pos ht, a7e l i _ this.1 this.2]
    unfold a2a xM at hb
    simp only [Bool.and_eq_true] at hb
    have h5 := hb.2
    rw [a6l hP i hi, a4u l _ _ _ _ (pl l i) (qV _ _ _ _) o1 oq env (fun p hp => (hin p hp).1)]
    have hpl : kP (kA l (i : Int)).f0 (kA l (i : Int)).f3 (kA l (i : Int)).f4 (kA l (i : Int)).f5 = pl l i := rfl
    rw [hpl] at h5
    have hz : (0 : Int) ≤ 0 ∧ (0 : Int) ≤ 255 := by omega
    generalize hop : (kA l (i : Int)).f0 = op at *
    generalize hW : (kA l (i : Int)).f1 = W at *
    generalize hKq : (kA l (i : Int)).f2 = K at *
    obtain ⟨hWr, hopr, _⟩ := hf
    unfold pO at h5
    by_cases o0 : op = 0
    · subst o0
      rw [if_pos rfl] at h5
      have e : pl l i = [] := by unfold pl; rw [hop]; rfl
      rw [e]
      show wok W (vF 0 W K 1 0 0 0) = true
      unfold vF
      rw [if_pos ⟨hWr, oM, hz, hz, hz⟩]
      exact h5
    rw [if_neg o0, if_neg o1] at h5
    have un : (op = 2 ∨ op = 17) → ∃ a, pl l i = [a] := fun h => ⟨_, by unfold pl kP; rw [hop, if_pos oM]⟩
    have bi : (3 ≤ op ∧ op ≤ 16) → ∃ a b, pl l i = [a, b] := fun h => ⟨_, _, by unfold pl kP; rw [hop, if_neg oM, if_pos h]⟩
    have te : op = 18 → ∃ a b c, pl l i = [a, b, c] := fun h => ⟨_, _, _, by unfold pl kP; rw [hop, if_neg oM, if_neg oM, if_pos h]⟩
    have wr : ∀ p ∈ pl l i, 1 ≤ (kA l p).f1 ∧ (kA l p).f1 ≤ 8 := fun p hp => by have := pH.mp (part p hp); omega
    by_cases o2 : op = 2
    · obtain ⟨a, e⟩ := un (.inl o2)
      subst o2
      rw [if_pos rfl, wvp 0 (by rw [e]; simp)] at h5
      rw [e] at h5 part wr ⊢
      have h5 : (kA l a).f1 = W := beq_iff_eq.mp h5
      have pa := part a (by simp)
      show wok W (vF 2 W K (kA l a).f1 (sem (T l a.toNat) env) 0 0) = true
      rw [h5] at pa ⊢
      unfold vF
      rw [if_pos ⟨hWr, hWr, yL pa, hz, hz⟩]
      show wok W (c2j W _) = true
      unfold c2j
      rw [if_pos pa]
      have := pH.mp pa
      exact pH.mpr ⟨hWr.1, hWr.2, oM, oM⟩
    rw [if_neg o2] at h5
    by_cases ob : 3 ≤ op ∧ op ≤ 12
    · obtain ⟨a, b, e⟩ := bi oM
      rw [if_pos ob, wvp 0 (by rw [e]; simp), wvp 1 (by rw [e]; simp)] at h5
      rw [e] at h5 part wr ⊢
      rw [Bool.and_eq_true] at h5
      have h51 : (kA l a).f1 = W := beq_iff_eq.mp h5.1
      have h52 : (kA l b).f1 = W := beq_iff_eq.mp h5.2
      have pa := part a (by simp)
      have pb := part b (by simp)
      show wok W (vF op W K (kA l a).f1 (sem (T l a.toNat) env) (sem (T l b.toNat) env) 0) = true
      rw [h51] at pa ⊢
      rw [h52] at pb
      unfold vF
      rw [if_pos ⟨hWr, hWr, yL pa, yL pb, hz⟩]
      unfold b6e
      rw [if_neg o0, if_neg o2, if_pos ob]
      exact b6k pa pb
    rw [if_neg ob] at h5
    by_cases oc : 13 ≤ op ∧ op ≤ 15
    · obtain ⟨a, b, e⟩ := bi oM
      rw [if_pos oc, Bool.and_eq_true] at h5
      have hW1 : W = 1 := beq_iff_eq.mp h5.2
      rw [e]
      show wok W (vF op W K (kA l a).f1 (sem (T l a.toNat) env) (sem (T l b.toNat) env) 0) = true
      rw [hW1]
      refine b3l ?_
      unfold vF
      split
      · unfold b6e
        rw [if_neg o0, if_neg o2, if_neg ob]
        by_cases o13 : op = 13
        · rw [if_pos o13]; exact a3c
        rw [if_neg o13]
        by_cases o14 : op = 14
        · rw [if_pos o14]; exact a3c
        · rw [if_neg o14, if_pos oM]; exact a3c
      · exact .inl rfl
    rw [if_neg oc] at h5
    by_cases o16 : op = 16
    · obtain ⟨a, b, e⟩ := bi oM
      rw [if_pos o16, wvp 0 (by rw [e]; simp), wvp 1 (by rw [e]; simp)] at h5
      rw [e] at h5 part wr ⊢
      have h5 : wrap64 ((kA l a).f1 + (kA l b).f1) = W := beq_iff_eq.mp h5
      have pa := part a (by simp)
      have pb := part b (by simp)
      have ra := wr a (by simp)
      have rb := wr b (by simp)
      rw [kO oM oM] at h5
      show wok W (vF op W K (kA l a).f1 (sem (T l a.toNat) env) (sem (T l b.toNat) env) 0) = true
      unfold vF
      rw [if_pos ⟨hWr, ra, yL pa, yL pb, hz⟩]
      unfold b6e
      rw [if_neg o0, if_neg o2, if_neg ob, if_neg oM, if_neg oM, if_neg oM, if_pos o16, if_neg oM]
      rw [show W - (kA l a).f1 = (kA l b).f1 by omega]
      obtain ⟨_, _, a0, a1⟩ := pH.mp pa
      obtain ⟨_, _, b0, b1⟩ := pH.mp pb
      have hadd : P2 W = P2 (kA l a).f1 * P2 (kA l b).f1 := by rw [← c7i oM oM, h5]
      have hpb := qR (w := (kA l b).f1) oM rb.2
      have hmul : sem (T l a.toNat) env * P2 (kA l b).f1 ≤ (P2 (kA l a).f1 - 1) * P2 (kA l b).f1 := Int.mul_le_mul_of_nonneg_right a1 oM
      have hnn : 0 ≤ sem (T l a.toNat) env * P2 (kA l b).f1 := Int.mul_nonneg a0 oM
      rw [Int.sub_mul, ← hadd] at hmul
      exact pH.mpr ⟨hWr.1, hWr.2, oM, oM⟩
    rw [if_neg o16] at h5
    by_cases o17 : op = 17
    · obtain ⟨a, e⟩ := un (.inr o17)
      rw [if_pos o17, wvp 0 (by rw [e]; simp)] at h5
      rw [e] at h5 part wr ⊢
      have h5 : inB K 0 (wrap64 ((kA l a).f1 - W)) = true := h5
      have pa := part a (by simp)
      have ra := wr a (by simp)
      rw [kO oM oM] at h5
      have h5 := rJ.mp h5
      show wok W (vF op W K (kA l a).f1 (sem (T l a.toNat) env) 0 0) = true
      unfold vF
      rw [if_pos ⟨hWr, ra, yL pa, hz, hz⟩]
      unfold b6e
      rw [if_neg o0, if_neg o2, if_neg ob, if_neg oM, if_neg oM, if_neg oM, if_neg o16, if_pos o17]
      unfold b9x
      split
      · exact a4q hWr.1 hWr.2
      · exact b0g hWr.1 hWr.2
    rw [if_neg o17] at h5
    by_cases o18 : op = 18
    · obtain ⟨a, b, c, e⟩ := te o18
      rw [if_pos o18, wvp 0 (by rw [e]; simp), wvp 1 (by rw [e]; simp), wvp 2 (by rw [e]; simp)] at h5
      rw [e] at h5 part wr ⊢
      simp only [Bool.and_eq_true] at h5
      have h52 : (kA l b).f1 = W := beq_iff_eq.mp h5.1.2
      have h53 : (kA l c).f1 = W := beq_iff_eq.mp h5.2
      have pa := part a (by simp)
      have pb := part b (by simp)
      have pc := part c (by simp)
      have ra := wr a (by simp)
      rw [h52] at pb
      rw [h53] at pc
      show wok W (vF op W K (kA l a).f1 (sem (T l a.toNat) env) (sem (T l b.toNat) env) (sem (T l c.toNat) env)) = true
      unfold vF
      rw [if_pos ⟨hWr, ra, yL pa, yL pb, yL pc⟩]
      unfold b6e
      rw [if_neg o0, if_neg o2, if_neg ob, if_neg oM, if_neg oM, if_neg oM, if_neg o16, if_neg o17, if_pos o18]
      split
      · exact pb
      · exact pc
    · omega
def a5p (l : List S31) (kn env : List Int) : Prop := ∀ j : Nat, j < l.length → 0 ≤ rd kn (j : Int) → rd kn (j : Int) = sem (T l j) env
theorem a5d (l : List S31) (n : Nat) (env : List Int) (hn : n = l.length) : a5p l (List.replicate n (-1)) env := by
  intro j hj h
  subst hn
  unfold rd at h
  rw [List.getD_eq_getElem?_getD, List.getElem?_replicate, if_pos (by simpa using hj)] at h
  exact absurd h (by decide)
theorem a8f {l : List S31} {kn env : List Int} (h : a5p l kn env) (i : Nat) (hk : kn.length = l.length) : a5p l (kn.set i (sem (T l i) env)) env := by
  intro j hj h0
  have e : rd (kn.set i (sem (T l i) env)) (j : Int) = if i = j then sem (T l i) env else rd kn (j : Int) := by
    show (kn.set i (sem (T l i) env)).getD j 0 = _
    rw [List.getD_eq_getElem?_getD, List.getElem?_set]
    by_cases c : i = j
    · rw [if_pos c, if_pos c, if_pos oM]; rfl
    · rw [if_neg c, if_neg c, ← List.getD_eq_getElem?_getD]; rfl
  rw [e] at h0 ⊢
  by_cases c : i = j
  · rw [if_pos c]; rw [c]
  · rw [if_neg c] at h0 ⊢; exact h j hj h0
def HV (l : List S31) (i : Nat) (V : Nat → List Int → Int → List Int → Option (Int × List Int)) : Prop :=
  ∀ (env kn : List Int) (j : Nat), env.length = 8 → kn.length = l.length → j < i → a5q (T l j) env → a5p l kn env → ∃ kn', Ev (fun k => V k env (j : Int) kn) (sem (T l j) env, kn') ∧ kn'.length = l.length ∧ a5p l kn' env
theorem b9w {l : List S31} {i : Nat} {V : Nat → List Int → Int → List Int → Option (Int × List Int)} (hV : HV l i V) (env : List Int) (he : env.length = 8) : ∀ (ps kn : List Int), (∀ p ∈ ps, 0 ≤ p ∧ p < (i : Int)) → (∀ p ∈ ps, a5q (T l p.toNat) env) → kn.length = l.length → a5p l kn env →
    ∃ kn', Ev (fun k => vpl (V k) env ps kn) (ps.map (fun p => sem (T l p.toNat) env), kn') ∧ kn'.length = l.length ∧ a5p l kn' env
  | [], kn, _, _, hk, hkn => ⟨kn, by unfold vpl; exact qO, hk, hkn⟩
  | p :: ps, kn, hin, hg, hk, hkn => by
    have hp := hin p (by simp)
    obtain ⟨kn1, e1, l1, k1⟩ := hV env kn p.toNat he hk oM (hg p (by simp)) hkn
    rw [Int.toNat_of_nonneg hp.1] at e1
    obtain ⟨kn2, e2, l2, k2⟩ := b9w hV env he ps kn1 (fun q hq => hin q (List.mem_cons_of_mem _ hq)) (fun q hq => hg q (List.mem_cons_of_mem _ hq)) l1 k1
    refine ⟨kn2, ?_, l2, k2⟩
    unfold vpl
    exact kV e1 (kV e2 qO)
theorem b6t {l : List S31} {i : Nat} {V : Nat → List Int → Int → List Int → Option (Int × List Int)} (hV : HV l i V) (env : List Int) (he : env.length = 8) (a : Nat) (ha : a < i) (K : Nat) (N : Nat) (hg : ∀ x : Nat, x < N → a5q (T l a) (env.set K (x : Int))) (out : Int) (d : Nat) : ∀ x : Nat, x + d = N →
    Ev (fun k => a7z (V k) l.length env K (a : Int) out d (x : Int)) (if (List.range' x d).all (fun y => sem (T l a) (env.set K (y : Int)) == out) = true then out else 1 - out) := by
  induction d with
  | zero => intro x _; unfold a7z; exact qO
  | succ d ih =>
    intro x hx
    obtain ⟨kn1, e1, _, _⟩ := hV (env.set K (x : Int)) (List.replicate l.length (-1)) a (by simpa using he) (by simp) ha (hg x oM) (a5d l _ _ rfl)
    have ih := ih (x + 1) oM
    rw [show ((x + 1 : Nat) : Int) = (x : Int) + 1 by omega] at ih
    unfold a7z
    refine kV e1 ?_
    rw [List.range'_succ, List.all_cons]
    by_cases h : sem (T l a) (env.set K (x : Int)) = out
    · refine kD h ?_
      rw [show (sem (T l a) (env.set K (x : Int)) == out) = true from beq_iff_eq.mpr h, Bool.true_and]
      exact ih
    · refine kL h ?_
      rw [show (sem (T l a) (env.set K (x : Int)) == out) = false from beq_eq_false_iff_ne.mpr h, Bool.false_and, if_neg (by decide)]
      exact qO
theorem c6e (op : Int) (n : Nat) (f : Nat → Int) (hf : ∀ x < n, f x = 0 ∨ f x = 1) :
    (if (List.range' 0 n).all (fun y => f y == (if op = 19 then 1 else 0)) = true then (if op = 19 then (1 : Int) else 0) else 1 - (if op = 19 then (1 : Int) else 0)) = qv op n f := by
  rw [← List.range_eq_range']
  unfold qv
  by_cases h : op = 19
  · simp only [if_pos h]
    split <;> simp
  · simp only [if_neg h]
    by_cases c : (List.range n).all (fun y => f y == 0) = true
    · rw [if_pos c, if_neg]
      rw [List.any_eq_true]
      rintro ⟨x, hx, h1⟩
      have h0 := List.all_eq_true.mp c x hx
      have h0 : f x = 0 := beq_iff_eq.mp h0
      have h1 : f x = 1 := beq_iff_eq.mp h1
      omega
    · rw [if_neg c, if_pos]
      · rfl
      · rw [List.any_eq_true]
        rw [List.all_eq_true] at c
        have : ∃ x, x ∈ List.range n ∧ ¬ (f x == 0) = true := by
          refine Classical.byContradiction fun hn => c (fun x hx => Classical.byContradiction fun h2 => hn ⟨x, hx, h2⟩)
        obtain ⟨x, hx, h2⟩ := this
        refine ⟨x, hx, ?_⟩
        have := hf x (List.mem_range.mp hx)
        simp at h2 ⊢
        omega
theorem b1f {l : List S31} (hN : qH l) (hl : l.length ≤ 80) (i : Nat) (hi : i < l.length) (V : Nat → List Int → Int → List Int → Option (Int × List Int)) (hV : HV l i V) (env kn : List Int) (he : env.length = 8) (hk : kn.length = l.length) (hg : a5q (T l i) env) (hkn : a5p l kn env) :
    ∃ kn', Ev (fun k => impl_valueR (k + 1) (V k) l env (i : Int) kn) (sem (T l i) env, kn') ∧ kn'.length = l.length ∧ a5p l kn' env := by
  have hP := rP hN
  have hin := hP i hi
  have hf := tV hN i hi
  unfold impl_valueR
  by_cases h0 : 0 ≤ rd kn (i : Int)
  · refine ⟨kn, kD ⟨oM, oM⟩ (kD h0 (a9m ?_)), hk, hkn⟩
    rw [hkn i hi h0]
  have hset := a8f hkn i hk
  by_cases o1 : (kA l (i : Int)).f0 = 1
  · have hv := a3p hN i hi o1
    have es : sem (T l i) env = rd env (kA l (i : Int)).f2 := by
      rw [a6l hP i hi, show pl l i = [] from by unfold pl; rw [o1]; rfl, o1]; rfl
    refine ⟨_, kD ⟨oM, oM⟩ (kL h0 (kD o1 (kD ⟨oM, oM⟩ (a9m ?_)))), by simpa using hk, hset⟩
    rw [es]; rfl
  by_cases oq : (kA l (i : Int)).f0 = 19 ∨ (kA l (i : Int)).f0 = 20
  · obtain ⟨k7, ⟨b1, b8⟩, ⟨a0, a1⟩, hw1, _⟩ := uG hN i hi oq
    have hgq := b2a hP i hi oq hg
    have ql := b6t hV env he (kA l (i : Int)).f3.toNat oM (kA l (i : Int)).f2.toNat (2 ^ (kA l (i : Int)).f4.toNat) hgq (if (kA l (i : Int)).f0 = 19 then 1 else 0) (2 ^ (kA l (i : Int)).f4.toNat) 0 oM
    rw [c6e _ _ (fun y => sem (T l (kA l (i : Int)).f3.toNat) (env.set (kA l (i : Int)).f2.toNat (y : Int)))] at ql
    · rw [Int.toNat_of_nonneg a0] at ql
      have es : sem (T l i) env = qv (kA l (i : Int)).f0 (2 ^ (kA l (i : Int)).f4.toNat) (fun y => sem (T l (kA l (i : Int)).f3.toNat) (env.set (kA l (i : Int)).f2.toNat (y : Int))) := by
        rw [a6l hP i hi, show pl l i = [(kA l (i : Int)).f3] from vW oq]
        show sem (mkT _ _ _ _ [_]) env = _
        simp only [mkT, sem]
        rw [if_pos oq]
      refine ⟨_, kD ⟨oM, oM⟩ (kL h0 (kL o1 (kD (by simpa using oq) (kV (a := sem (T l i) env) ?_ qO)))), by simpa using hk, hset⟩
      rw [es]
      unfold impl_quantR
      exact kD ⟨oM, oM, oM, oM⟩ ql
    · intro x hx
      have := b3w hN (kA l (i : Int)).f3.toNat _ oM (hgq x hx)
      rw [Int.toNat_of_nonneg a0, hw1] at this
      exact b5q this
  · have hlen : (pl l i).length ≤ 3 := qV _ _ _ _
    obtain ⟨kn1, e1, l1, k1⟩ := b9w hV env he (pl l i) kn hin (fun p hp => a8j hP i hi oq hg p hp) hk hkn
    have hset1 := a8f k1 i l1
    refine ⟨_, kD ⟨oM, oM⟩ (kL h0 (kL o1 (kL (by simpa using oq) (kD ?_ (kV e1 (kV (a := sem (T l i) env) ?_ qO)))))), by simpa using l1, hset1⟩
    · refine List.all_eq_true.mpr fun p hp => rJ.mpr ?_
      have := hin p hp
      omega
    · refine zD 40 fun k hkk => ?_
      rw [c7p _ _ _ _ _ _ _ _ _ _ oM, a6l hP i hi, a4u l _ _ _ _ (pl l i) hlen o1 oq env (fun p hp => (hin p hp).1)]
      have hpl : kP (kA l (i : Int)).f0 (kA l (i : Int)).f3 (kA l (i : Int)).f4 (kA l (i : Int)).f5 = pl l i := rfl
      rw [hpl]
      generalize pl l i = ps at *
      match ps, hlen with
      | [], _ => rfl
      | [a], _ => rfl
      | [a, b], _ => rfl
      | [a, b, c], _ => rfl
      | a :: b :: c :: d :: r, h => exact absurd h (by simp)
theorem b6i {l : List S31} (hN : qH l) (hl : l.length ≤ 80) (i : Nat) : ∀ (env kn : List Int), i < l.length → env.length = 8 → kn.length = l.length → a5q (T l i) env → a5p l kn env → ∃ kn', Ev (fun k => impl_valueF l k env (i : Int) kn) (sem (T l i) env, kn') ∧ kn'.length = l.length ∧ a5p l kn' env := by
  induction i using Nat.strongRecOn with
  | ind i ih =>
    intro env kn hi he hk hg hkn
    obtain ⟨kn', e, h⟩ := b1f hN hl i hi (fun k => impl_valueF l k) (fun env kn j h1 h2 h3 h4 h5 => ih j h3 env kn oM h1 h2 h4 h5) env kn he hk hg hkn
    exact ⟨kn', kJ e, h⟩
def fs : Tm → Int → Nat
  | .leaf op W K, v => if op = 1 ∧ K = v then 2 ^ W.toNat else 0
  | .un op W K B a, v => if (op = 19 ∨ op = 20) ∧ K = v then 0 else fs a v
  | .bin op W K a b, v => fs a v ||| fs b v
  | .ter op W K a b c, v => fs a v ||| fs b v ||| fs c v
def a8y (l : List S31) (i : Nat) (v : Int) : Nat := (pl l i).foldl (fun s p => s ||| fs (T l p.toNat) v) (if (kA l (i : Int)).f0 = 1 ∧ (kA l (i : Int)).f2 = v then 2 ^ (kA l (i : Int)).f1.toNat else 0)
def isQ (l : List S31) (i : Nat) : Prop := (kA l (i : Int)).f0 = 19 ∨ (kA l (i : Int)).f0 = 20
instance (l : List S31) (i : Nat) : Decidable (isQ l i) := by unfold isQ; infer_instance
theorem b7e {l : List S31} (hP : pV l) (i : Nat) (hi : i < l.length) (v : Int) : fs (T l i) v = if isQ l i ∧ (kA l (i : Int)).f2 = v then 0 else a8y l i v := by
  rw [a6l hP i hi]
  unfold a8y isQ
  have hlen : (pl l i).length ≤ 3 := qV _ _ _ _
  by_cases oq : (kA l (i : Int)).f0 = 19 ∨ (kA l (i : Int)).f0 = 20
  · rw [show pl l i = [(kA l (i : Int)).f3] from vW oq]
    show fs (mkT _ _ _ _ [_]) v = _
    simp only [mkT, fs, List.foldl_cons, List.foldl_nil]
    rw [if_neg (show ¬ ((kA l (i : Int)).f0 = 1 ∧ (kA l (i : Int)).f2 = v) by omega), Nat.zero_or]
  · rw [if_neg (fun h => oq h.1)]
    by_cases o1 : (kA l (i : Int)).f0 = 1
    · rw [show pl l i = [] from by unfold pl; rw [o1]; rfl]; rfl
    · rw [if_neg (fun h => o1 h.1)]
      generalize pl l i = ps at *
      match ps, hlen with
      | [], _ => show fs (mkT _ _ _ _ []) v = _; simp only [mkT, fs]; rw [if_neg (fun h => o1 h.1)]; rfl
      | [a], _ => show fs (mkT _ _ _ _ [_]) v = _; simp only [mkT, fs, List.foldl_cons, List.foldl_nil, Nat.zero_or]; rw [if_neg (fun h => oq h.1)]
      | [a, b], _ => show fs (mkT _ _ _ _ [_, _]) v = _; simp only [mkT, fs, List.foldl_cons, List.foldl_nil, Nat.zero_or]
      | [a, b, c], _ => show fs (mkT _ _ _ _ [_, _, _]) v = _; simp only [mkT, fs, List.foldl_cons, List.foldl_nil, Nat.zero_or]
      | a :: b :: c :: d :: r, h => simp at h
theorem a3i (g : Int → Nat) (w : Nat) : ∀ (ps : List Int) (s : Nat), (ps.foldl (fun s p => s ||| g p) s).testBit w = true ↔ s.testBit w = true ∨ ∃ p ∈ ps, (g p).testBit w = true
  | [], s => by simp
  | p :: ps, s => by
    rw [List.foldl_cons, a3i g w ps, Nat.testBit_or, Bool.or_eq_true]
    constructor
    · rintro ((h | h) | ⟨q, hq, h⟩)
      · exact .inl h
      · exact .inr ⟨p, List.mem_cons_self .., h⟩
      · exact .inr ⟨q, List.mem_cons_of_mem _ hq, h⟩
    · rintro (h | ⟨q, hq, h⟩)
      · exact .inl (.inl h)
      · rcases List.mem_cons.mp hq with rfl | hq
        · exact .inl (.inr h)
        · exact .inr ⟨q, hq, h⟩
theorem a5h (g : Int → Nat) (n : Nat) : ∀ (ps : List Int) (s : Nat), s < 2 ^ n → (∀ p ∈ ps, g p < 2 ^ n) → ps.foldl (fun s p => s ||| g p) s < 2 ^ n
  | [], s, h, _ => h
  | p :: ps, s, h, hg => a5h g n ps _ (Nat.or_lt_two_pow h (hg p (by simp))) (fun q hq => hg q (List.mem_cons_of_mem _ hq))
theorem b0k {l : List S31} (hN : qH l) (i : Nat) (hi : i < l.length) (v : Int) : (if (kA l (i : Int)).f0 = 1 ∧ (kA l (i : Int)).f2 = v then 2 ^ (kA l (i : Int)).f1.toNat else 0) < 2 ^ 9 := by
  have := tV hN i hi
  split
  · exact Nat.pow_lt_pow_right oM oM
  · exact Nat.two_pow_pos 9
theorem c6t {l : List S31} (hN : qH l) (v : Int) (i : Nat) : i < l.length → fs (T l i) v < 2 ^ 9 := by
  have hP := rP hN
  induction i using Nat.strongRecOn with
  | ind i ih =>
    intro hi
    rw [b7e hP i hi]
    split
    · exact Nat.two_pow_pos 9
    · unfold a8y
      refine a5h _ 9 _ _ (b0k hN i hi v) (fun p hp => ?_)
      have := hP i hi p hp
      exact ih p.toNat oM oM
theorem a8k {l : List S31} (hP : pV l) (i : Nat) (hi : i < l.length) (v : Int) (w : Nat) : (fs (T l i) v).testBit w = true ↔ ((kA l (i : Int)).f0 = 1 ∧ (kA l (i : Int)).f2 = v ∧ (kA l (i : Int)).f1.toNat = w) ∨ (¬ (isQ l i ∧ (kA l (i : Int)).f2 = v) ∧ ∃ p ∈ pl l i, (fs (T l p.toNat) v).testBit w = true) := by
  rw [b7e hP i hi]
  by_cases hq : isQ l i ∧ (kA l (i : Int)).f2 = v
  · rw [if_pos hq]
    have h1 := hq.1
    unfold isQ at h1
    constructor
    · intro h; simp at h
    · rintro (h | h)
      · omega
      · exact absurd hq h.1
  · rw [if_neg hq]
    unfold a8y
    rw [a3i]
    have e : ((if (kA l (i : Int)).f0 = 1 ∧ (kA l (i : Int)).f2 = v then 2 ^ (kA l (i : Int)).f1.toNat else 0 : Nat).testBit w = true) ↔ ((kA l (i : Int)).f0 = 1 ∧ (kA l (i : Int)).f2 = v ∧ (kA l (i : Int)).f1.toNat = w) := by
      by_cases c : (kA l (i : Int)).f0 = 1 ∧ (kA l (i : Int)).f2 = v
      · rw [if_pos c, Nat.testBit_two_pow, decide_eq_true_eq]
        exact ⟨fun h => ⟨c.1, c.2, h⟩, fun h => h.2.2⟩
      · rw [if_neg c]
        constructor
        · intro h; simp at h
        · rintro ⟨a, b, _⟩; exact absurd ⟨a, b⟩ c
    rw [e]
    constructor
    · rintro (h | h)
      · exact .inl h
      · exact .inr ⟨hq, h⟩
    · rintro (h | h)
      · exact .inl h
      · exact .inr h.2
def qn (l : List S31) (i : Nat) : Prop := isQ l i → fs (T l (kA l (i : Int)).f3.toNat) (kA l (i : Int)).f2 = 0 ∨ fs (T l (kA l (i : Int)).f3.toNat) (kA l (i : Int)).f2 = 2 ^ (kA l (i : Int)).f4.toNat
def a9g (t : Tm) (env : List Int) : Prop := ∀ v : Nat, v < 8 → ∀ w : Nat, (fs t (v : Int)).testBit w = true → wok (w : Int) (rd env (v : Int)) = true
theorem a7l (s B : Nat) : (∀ w, s.testBit w = true → w = B) ↔ s = 0 ∨ s = 2 ^ B := by
  constructor
  · intro h
    by_cases hB : s.testBit B = true
    · right
      refine Nat.eq_of_testBit_eq fun w => ?_
      rw [Nat.testBit_two_pow]
      by_cases c : B = w
      · subst c; simp [hB]
      · rw [decide_eq_false c]
        cases hw : s.testBit w with
        | false => rfl
        | true => exact absurd (h w hw).symm c
    · left
      refine Nat.eq_of_testBit_eq fun w => ?_
      rw [Nat.zero_testBit]
      cases hw : s.testBit w with
      | false => rfl
      | true => have := h w hw; subst this; exact absurd hw hB
  · rintro (rfl | rfl) w hw
    · simp at hw
    · rw [Nat.testBit_two_pow, decide_eq_true_eq] at hw; exact hw.symm
theorem a2o (env : List Int) (K v : Nat) (x : Int) (hK : K < env.length) : rd (env.set K x) (v : Int) = if K = v then x else rd env (v : Int) := by
  show (env.set K x).getD v 0 = _
  rw [List.getD_eq_getElem?_getD, List.getElem?_set]
  by_cases c : K = v
  · rw [if_pos c, if_pos c, if_pos oM]; rfl
  · rw [if_neg c, if_neg c, ← List.getD_eq_getElem?_getD]; rfl
theorem b5c {l : List S31} (hN : qH l) (met : Nat → Prop) (hm : ∀ i < l.length, met i → ∀ p ∈ pl l i, met p.toNat) (hq : ∀ i < l.length, met i → qn l i) (i : Nat) : ∀ env : List Int, i < l.length → env.length = 8 → met i → a9g (T l i) env → a5q (T l i) env := by
  have hP := rP hN
  induction i using Nat.strongRecOn with
  | ind i ih =>
    intro env hi he hmi hr
    have hin := hP i hi
    have part : ∀ p ∈ pl l i, (∀ v : Nat, v < 8 → ∀ w : Nat, (fs (T l p.toNat) (v : Int)).testBit w = true → (fs (T l i) (v : Int)).testBit w = true) → a5q (T l p.toNat) env := by
      intro p hp h
      have := hin p hp
      exact ih p.toNat oM env oM he (hm i hi hmi p hp) (fun v hv w hw => hr v hv w (h v hv w hw))
    by_cases oq : isQ l i
    · obtain ⟨k7, ⟨b1, b8⟩, ⟨a0, a1⟩, _, _⟩ := uG hN i hi oq
      have hf := tV hN i hi
      have hpl : pl l i = [(kA l (i : Int)).f3] := vW oq
      have hqn := hq i hi hmi oq
      rw [a6l hP i hi, hpl]
      refine ⟨fun h => absurd oq h, fun _ x hx => ?_⟩
      refine ih (kA l (i : Int)).f3.toNat oM _ oM (by simpa using he) (hm i hi hmi _ (by rw [hpl]; simp)) ?_
      intro v hv w hw
      rw [a2o env _ v _ oM]
      by_cases c : (kA l (i : Int)).f2.toNat = v
      · rw [if_pos c]
        have hK : (kA l (i : Int)).f2 = (v : Int) := by omega
        rw [hK] at hqn
        have hwB := (a7l _ _).mpr hqn w hw
        have hx' : (x : Int) ≤ P2 (w : Int) - 1 := by
          rw [a1h oM, Int.toNat_natCast, hwB]; omega
        exact pH.mpr ⟨oM, oM, oM, hx'⟩
      · rw [if_neg c]
        refine hr v hv w ?_
        rw [a8k hP i hi]
        exact .inr ⟨fun h => c (by have := h.2; omega), _, by rw [hpl]; exact List.mem_singleton.mpr rfl, hw⟩
    · have hsub : ∀ p ∈ pl l i, a5q (T l p.toNat) env := fun p hp => part p hp (fun v hv w hw => by
        rw [a8k hP i hi]
        exact .inr ⟨fun h => oq h.1, p, hp, hw⟩)
      have hlen : (pl l i).length ≤ 3 := qV _ _ _ _
      have hvar : (kA l (i : Int)).f0 = 1 → wok (kA l (i : Int)).f1 (rd env (kA l (i : Int)).f2) = true := by
        intro o1
        have hf := tV hN i hi
        have hv := a3p hN i hi o1
        have := hr (kA l (i : Int)).f2.toNat oM (kA l (i : Int)).f1.toNat (by
          rw [a8k hP i hi]
          exact .inl ⟨o1, oM, rfl⟩)
        rwa [Int.toNat_of_nonneg oM, Int.toNat_of_nonneg oM] at this
      rw [a6l hP i hi]
      generalize pl l i = ps at *
      match ps, hlen with
      | [], _ => exact hvar
      | [a], _ => exact ⟨fun _ => hsub a (by simp), fun h => absurd h oq⟩
      | [a, b], _ => exact ⟨hsub a (by simp), hsub b (by simp)⟩
      | [a, b, c], _ => exact ⟨hsub a (by simp), hsub b (by simp), hsub c (by simp)⟩
      | a :: b :: c :: d :: r, h => exact absurd h (by simp)
theorem or9 {a b : Nat} (ha : a < 2 ^ 9) (hb : b < 2 ^ 9) : Go.bits .or .i64 (a : Int) (b : Int) = ((a ||| b : Nat) : Int) := (b0z a b 9 oM ha hb).2.1
def c0e (l : List S31) (i : Nat) : List Int := (List.range 8).map fun v : Nat => (fs (T l i) (v : Int) : Int)
def yP (l : List S31) (i : Nat) : List (List Int) := (List.range i).map fun t : Nat => c0e l t
theorem b0u (l : List S31) (i : Nat) : (c0e l i).length = 8 := by simp [c0e]
theorem a5i (l : List S31) (i : Nat) : (yP l i).length = i := by simp [yP]
theorem a8m (l : List S31) (i : Nat) (p : Int) (h0 : 0 ≤ p) (h1 : p < (i : Int)) : a0m (yP l i) p = c0e l p.toNat := by
  show (yP l i).getD p.toNat _ = _
  unfold yP
  rw [List.getD_eq_getElem?_getD, List.getElem?_map, List.getElem?_range oM]; rfl
theorem b0v (l : List S31) (i v : Nat) (hv : v < 8) : rd (c0e l i) (v : Int) = (fs (T l i) (v : Int) : Int) := by
  show (c0e l i).getD v 0 = _
  unfold c0e
  rw [List.getD_eq_getElem?_getD, List.getElem?_map, List.getElem?_range hv]; rfl
theorem c3q {l : List S31} (hN : qH l) (hl : l.length ≤ 80) (i : Nat) (hi : i < l.length) (env : List Int) (row : List Int) (v : Nat) (hv : v < 8) (ps : List Int) (hps : ps.length ≤ 3) (hin : ∀ p ∈ ps, 0 ≤ p ∧ p < (i : Int)) (op W K A B C : Int) (r : Bool) (d : Nat) : ∀ (j s : Nat), j + d = ps.length → s < 2 ^ 9 →
    Ev (fun k => if ((op == 19) || (op == 20)) = true then (pW k l env (yP l i) (i : Int) row ps (v : Int) (((ps.drop j).foldl (fun s p => s ||| fs (T l p.toNat) (v : Int)) s : Nat) : Int) (K == (v : Int)) op W K A B C) else (pW k l env (yP l i) (i : Int) row ps (v : Int) (((ps.drop j).foldl (fun s p => s ||| fs (T l p.toNat) (v : Int)) s : Nat) : Int) false op W K A B C)) r →
    Ev (fun k => tY k l env (yP l i) (i : Int) row ps (v : Int) (s : Int) (j : Int) op W K A B C) r := by
  induction d with
  | zero =>
    intro j s hj hs H
    obtain rfl : j = ps.length := by omega
    rw [List.drop_length] at H
    refine kJ ?_
    simp only [tY]
    exact kL oM (pI (c3j _) H)
  | succ d ih =>
    intro j s hj hs H
    have hjl : j < ps.length := by omega
    have hp := hin (rd ps (j : Int)) (by rw [rdI ps j hjl]; exact List.getElem_mem _)
    refine kJ ?_
    simp only [tY]
    rw [a8m l i _ hp.1 hp.2, b0v l _ v hv, b0u, a5i]
    rw [wS j]
    refine kD oM (kD oM (kD hp.1 (kD hp.2 (kD oM (kD oM ?_)))))
    have hlt := c6t hN (v : Int) (rd ps (j : Int)).toNat oM
    rw [or9 hs hlt]
    refine ih (j + 1) (s ||| fs (T l (rd ps (j : Int)).toNat) (v : Int)) oM (Nat.or_lt_two_pow hs hlt) ?_
    have hdrop : ps.drop j = rd ps (j : Int) :: ps.drop (j + 1) := by
      rw [List.drop_eq_getElem_cons hjl, rdI ps j hjl]
    rw [hdrop, List.foldl_cons] at H
    exact H
theorem c3r {l : List S31} (hN : qH l) (hl : l.length ≤ 80) (i : Nat) (hi : i < l.length) (env : List Int) (R : Prop)
    (NX : ∃ r, Ev (fun k => sX k l env (yP l (i + 1)) ((i + 1 : Nat) : Int)) r ∧ (r = true ↔ R)) (d : Nat) : ∀ (v : Nat), v + d = 8 →
    ∃ r, Ev (fun k => rT k l env (yP l i) (i : Int) ((List.range v).map fun v : Nat => (fs (T l i) (v : Int) : Int)) (pl l i) (v : Int) (kA l (i : Int)).f0 (kA l (i : Int)).f1 (kA l (i : Int)).f2 (kA l (i : Int)).f3 (kA l (i : Int)).f4 (kA l (i : Int)).f5) r ∧ (r = true ↔ (((v : Int) ≤ (kA l (i : Int)).f2 → qn l i) ∧ R)) := by
  have hP := rP hN
  have hf := tV hN i hi
  induction d with
  | zero =>
    intro v hv
    obtain rfl : v = 8 := by omega
    obtain ⟨r, e, h⟩ := NX
    refine ⟨r, kJ ?_, ?_⟩
    · simp only [rT]
      rw [wS i, a5i]
      refine kL oM (kD oM ?_)
      have : yP l i ++ [(List.range 8).map fun v : Nat => (fs (T l i) (v : Int) : Int)] = yP l (i + 1) := by
        show yP l i ++ [c0e l i] = _
        unfold yP; rw [List.range_succ (n := i), List.map_append]; rfl
      rw [this]; exact e
    · rw [h]
      constructor
      · intro hr
        refine ⟨fun hle hq => ?_, hr⟩
        have := (uG hN i hi hq).1
        omega
      · exact fun h => h.2
  | succ d ih =>
    intro v hv
    have hv8 : v < 8 := by omega
    obtain ⟨r, e, h⟩ := ih (v + 1) oM
    have hrow : ((List.range v).map fun v : Nat => (fs (T l i) (v : Int) : Int)) ++ [(fs (T l i) (v : Int) : Int)] = (List.range (v + 1)).map fun v : Nat => (fs (T l i) (v : Int) : Int) := by
      rw [List.range_succ, List.map_append]; rfl
    have hlen : (((List.range v).map fun v : Nat => (fs (T l i) (v : Int) : Int))).length = v := by simp
    have tail : ∃ r', Ev (fun k => if (((kA l (i : Int)).f0 == 19) || ((kA l (i : Int)).f0 == 20)) = true then (pW k l env (yP l i) (i : Int) ((List.range v).map fun v : Nat => (fs (T l i) (v : Int) : Int)) (pl l i) (v : Int) ((a8y l i (v : Int) : Nat) : Int) ((kA l (i : Int)).f2 == (v : Int)) (kA l (i : Int)).f0 (kA l (i : Int)).f1 (kA l (i : Int)).f2 (kA l (i : Int)).f3 (kA l (i : Int)).f4 (kA l (i : Int)).f5) else (pW k l env (yP l i) (i : Int) ((List.range v).map fun v : Nat => (fs (T l i) (v : Int) : Int)) (pl l i) (v : Int) ((a8y l i (v : Int) : Nat) : Int) false (kA l (i : Int)).f0 (kA l (i : Int)).f1 (kA l (i : Int)).f2 (kA l (i : Int)).f3 (kA l (i : Int)).f4 (kA l (i : Int)).f5)) r' ∧ (r' = true ↔ (((v : Int) ≤ (kA l (i : Int)).f2 → qn l i) ∧ R)) := by
      have plain : ¬ (isQ l i ∧ (kA l (i : Int)).f2 = (v : Int)) → ∃ r', Ev (fun k => pW k l env (yP l i) (i : Int) ((List.range v).map fun v : Nat => (fs (T l i) (v : Int) : Int)) (pl l i) (v : Int) ((a8y l i (v : Int) : Nat) : Int) false (kA l (i : Int)).f0 (kA l (i : Int)).f1 (kA l (i : Int)).f2 (kA l (i : Int)).f3 (kA l (i : Int)).f4 (kA l (i : Int)).f5) r' ∧ (r' = true ↔ (((v : Int) ≤ (kA l (i : Int)).f2 → qn l i) ∧ R)) := by
        intro hnq
        refine ⟨r, kJ ?_, ?_⟩
        · simp only [pW]
          rw [wS v, hlen]
          refine kL (by decide) (kD oM ?_)
          rw [show a8y l i (v : Int) = fs (T l i) (v : Int) from by rw [b7e hP i hi, if_neg hnq], hrow]
          exact e
        · rw [h]
          constructor
          · rintro ⟨a, b⟩
            refine ⟨fun hle hq => ?_, b⟩
            by_cases c : (kA l (i : Int)).f2 = (v : Int)
            · exact absurd ⟨hq, c⟩ hnq
            · exact a oM hq
          · rintro ⟨a, b⟩
            exact ⟨fun hle => a oM, b⟩
      by_cases oq : isQ l i
      · by_cases hK : (kA l (i : Int)).f2 = (v : Int)
        · have hq := uG hN i hi oq
          have hpre : a8y l i (v : Int) = fs (T l (kA l (i : Int)).f3.toNat) (v : Int) := by
            unfold a8y
            rw [show pl l i = [(kA l (i : Int)).f3] from vW oq]
            unfold isQ at oq
            rw [if_neg oM]
            simp
          have hfz : fs (T l i) (v : Int) = 0 := by rw [b7e hP i hi, if_pos ⟨oq, hK⟩]
          have hrow0 : ((List.range v).map fun v : Nat => (fs (T l i) (v : Int) : Int)) ++ [(0 : Int)] = (List.range (v + 1)).map fun v : Nat => (fs (T l i) (v : Int) : Int) := by
            rw [← hrow, hfz]; rfl
          have hqn : qn l i ↔ (a8y l i (v : Int) = 0 ∨ a8y l i (v : Int) = 2 ^ (kA l (i : Int)).f4.toNat) := by
            unfold qn
            rw [hK, hpre]
            exact ⟨fun h => h oq, fun h _ => h⟩
          have good : (a8y l i (v : Int) = 0 ∨ a8y l i (v : Int) = 2 ^ (kA l (i : Int)).f4.toNat) → (r = true ↔ (((v : Int) ≤ (kA l (i : Int)).f2 → qn l i) ∧ R)) := by
            intro hg
            rw [h]
            constructor
            · rintro ⟨_, b⟩; exact ⟨fun _ => hqn.mpr hg, b⟩
            · rintro ⟨_, b⟩; exact ⟨fun _ => hqn.mpr hg, b⟩
          have hB := hq.2.1
          have hP2 : P2 (kA l (i : Int)).f4 = ((2 ^ (kA l (i : Int)).f4.toNat : Nat) : Int) := a1h oM
          by_cases h0 : a8y l i (v : Int) = 0
          · refine ⟨r, kD (by unfold isQ at oq; simpa using oq) (kJ ?_), good (.inl h0)⟩
            simp only [pW]
            rw [wS v, hlen, hrow0]
            exact kD (by simpa using hK) (kD oM (kD oM e))
          · by_cases h1 : a8y l i (v : Int) = 2 ^ (kA l (i : Int)).f4.toNat
            · refine ⟨r, kD (by unfold isQ at oq; simpa using oq) (kJ ?_), good (.inr h1)⟩
              simp only [pW]
              rw [wS v, hlen, hrow0]
              exact kD (by simpa using hK) (kL oM (kV (a := P2 (kA l (i : Int)).f4) (zD 20 fun k hk => a5u oM oM hk) (kD (by rw [hP2, h1]) (kD oM e))))
            · refine ⟨false, kD (by unfold isQ at oq; simpa using oq) (kJ ?_), ?_⟩
              · simp only [pW]
                exact kD (by simpa using hK) (kL oM (kV (a := P2 (kA l (i : Int)).f4) (zD 20 fun k hk => a5u oM oM hk) (kL (by rw [hP2]; omega) qO)))
              · constructor
                · intro h; exact absurd h (by decide)
                · rintro ⟨a, _⟩
                  rcases hqn.mp (a oM) with h | h
                  · exact absurd h h0
                  · exact absurd h h1
        · obtain ⟨r', e', h'⟩ := plain (fun h => hK h.2)
          refine ⟨r', kD (by unfold isQ at oq; simpa using oq) ?_, h'⟩
          rw [show ((kA l (i : Int)).f2 == (v : Int)) = false from beq_eq_false_iff_ne.mpr hK]
          exact e'
      · obtain ⟨r', e', h'⟩ := plain (fun h => oq h.1)
        exact ⟨r', kL (by unfold isQ at oq; simpa using oq) e', h'⟩
    obtain ⟨r', e', h'⟩ := tail
    refine ⟨r', kJ ?_, h'⟩
    simp only [rT]
    have st := b0k hN i hi (v : Int)
    have l2 := c3q hN hl i hi env ((List.range v).map fun v : Nat => (fs (T l i) (v : Int) : Int)) v hv8 (pl l i) (qV _ _ _ _) (hP i hi) (kA l (i : Int)).f0 (kA l (i : Int)).f1 (kA l (i : Int)).f2 (kA l (i : Int)).f3 (kA l (i : Int)).f4 (kA l (i : Int)).f5 r' (pl l i).length 0 _ oM st e'
    refine kD oM ?_
    by_cases o1 : (kA l (i : Int)).f0 = 1
    · refine kD o1 ?_
      by_cases c : (kA l (i : Int)).f2 = (v : Int)
      · rw [if_pos ⟨o1, c⟩] at l2
        refine kJ ?_
        simp only [uA]
        refine kD (by simpa using c) (kV (a := P2 (kA l (i : Int)).f1) (zD 20 fun k hk => a5u oM oM hk) (kJ ?_))
        simp only [tZ]
        rw [a1h oM]
        exact l2
      · rw [if_neg (fun h => c h.2)] at l2
        refine kJ ?_
        simp only [uA]
        refine kL (by simpa using c) (kJ ?_)
        simp only [tZ]
        exact l2
    · rw [if_neg (fun h => o1 h.1)] at l2
      refine kL o1 (kJ ?_)
      simp only [uA]
      refine kL (by decide) (kJ ?_)
      simp only [tZ]
      exact l2
theorem c3o {l : List S31} (hN : qH l) (hl : l.length ≤ 80) (h0 : 1 ≤ l.length) (env : List Int) (he : env.length = 8) (v : Nat) (hv : v < 8) (R : Prop)
    (NX : ∃ r, Ev (fun k => sV k l env (yP l l.length) ((v + 1 : Nat) : Int)) r ∧ (r = true ↔ R)) (d : Nat) : ∀ w : Nat, w + d = 9 → 1 ≤ w →
    ∃ r, Ev (fun k => qL k l env (yP l l.length) (v : Int) (w : Int)) r ∧ (r = true ↔ ((∀ w' : Nat, w ≤ w' → w' ≤ 8 → (fs (T l (l.length - 1)) (v : Int)).testBit w' = true → wok (w' : Int) (rd env (v : Int)) = true) ∧ R)) := by
  induction d with
  | zero =>
    intro w hw h1
    obtain ⟨r, e, h⟩ := NX
    obtain rfl : w = 9 := by omega
    refine ⟨r, kJ ?_, ?_⟩
    · simp only [qL]
      rw [wS v]
      exact kL oM e
    · rw [h]
      exact ⟨fun h => ⟨fun w' a b => absurd b oM, h⟩, fun h => h.2⟩
  | succ d ih =>
    intro w hw h1
    obtain ⟨r, e, h⟩ := ih (w + 1) oM oM
    have hlt := c6t hN (v : Int) (l.length - 1) oM
    have hP2 : P2 (w : Int) = ((2 ^ w : Nat) : Int) := by rw [a1h oM, Int.toNat_natCast]
    have hpos := qR (w := (w : Int)) oM oM
    have hdiv : wrap64 (Int.tdiv (fs (T l (l.length - 1)) (v : Int) : Int) (P2 (w : Int))) = ((fs (T l (l.length - 1)) (v : Int) / 2 ^ w : Nat) : Int) := by
      rw [hP2, Int.tdiv_eq_ediv_of_nonneg oM, ← Int.natCast_ediv]
      have hle := Nat.div_le_self (fs (T l (l.length - 1)) (v : Int)) (2 ^ w)
      generalize fs (T l (l.length - 1)) (v : Int) / 2 ^ w = q at *
      exact kO oM oM
    have hmod : Int.tmod ((fs (T l (l.length - 1)) (v : Int) / 2 ^ w : Nat) : Int) 2 = ((fs (T l (l.length - 1)) (v : Int) / 2 ^ w % 2 : Nat) : Int) := by
      generalize fs (T l (l.length - 1)) (v : Int) / 2 ^ w = q at *
      rw [Int.tmod_eq_emod_of_nonneg oM]; omega
    have hbit : (fs (T l (l.length - 1)) (v : Int)).testBit w = true ↔ fs (T l (l.length - 1)) (v : Int) / 2 ^ w % 2 = 1 := by
      rw [Nat.testBit_eq_decide_div_mod_eq, decide_eq_true_eq]
    have hroot : wrap64 ((l.length : Int) - 1) = ((l.length - 1 : Nat) : Int) := by rw [kO oM oM]; omega
    have pre : ∀ r', Ev (fun k => if fs (T l (l.length - 1)) (v : Int) / 2 ^ w % 2 = 1 then (if (v : Int) < (env.length : Int) then ((qY k (w : Int) (rd env (v : Int))).bind fun t504 => (if t504 = true then (qL k l env (yP l l.length) (v : Int) ((w + 1 : Nat) : Int)) else (some false))) else (none)) else (qL k l env (yP l l.length) (v : Int) ((w + 1 : Nat) : Int))) r' → Ev (fun k => qL k l env (yP l l.length) (v : Int) (w : Int)) r' := by
      intro r' H
      refine kJ ?_
      simp only [qL]
      rw [hroot, a8m l l.length _ oM oM, Int.toNat_natCast, b0v l _ v hv, b0u, a5i]
      refine kD oM (kD oM (kD oM (kD oM (kD oM (kV (a := P2 (w : Int)) (zD 20 fun k hk => a5u oM oM hk) (kL oM ?_))))))
      rw [hdiv, hmod, wS w]
      by_cases c : fs (T l (l.length - 1)) (v : Int) / 2 ^ w % 2 = 1
      · simp only [if_pos c] at H
        exact kD oM H
      · simp only [if_neg c] at H
        exact kL oM H
    by_cases c : fs (T l (l.length - 1)) (v : Int) / 2 ^ w % 2 = 1
    · by_cases hwk : wok (w : Int) (rd env (v : Int)) = true
      · refine ⟨r, pre r (kD c (kD oM (kV (a := true) (zD 20 fun k hk => by rw [b9u _ _ hk, hwk]) (kD rfl e)))), ?_⟩
        rw [h]
        constructor
        · rintro ⟨a, b⟩
          refine ⟨fun w' h1 h2 h3 => ?_, b⟩
          by_cases cw : w' = w
          · subst cw; exact hwk
          · exact a w' oM h2 h3
        · rintro ⟨a, b⟩; exact ⟨fun w' h1 h2 h3 => a w' oM h2 h3, b⟩
      · refine ⟨false, pre false (kD c (kD oM (kV (a := false) (zD 20 fun k hk => by rw [b9u _ _ hk]; rw [Bool.not_eq_true] at hwk; rw [hwk]) (kL (by decide) qO)))), ?_⟩
        constructor
        · intro h; exact absurd h (by decide)
        · rintro ⟨a, _⟩; exact absurd (a w oM oM (hbit.mpr c)) hwk
    · refine ⟨r, pre r (kL c e), ?_⟩
      rw [h]
      constructor
      · rintro ⟨a, b⟩
        refine ⟨fun w' h1 h2 h3 => ?_, b⟩
        by_cases cw : w' = w
        · subst cw; exact absurd (hbit.mp h3) c
        · exact a w' oM h2 h3
      · rintro ⟨a, b⟩; exact ⟨fun w' h1 h2 h3 => a w' oM h2 h3, b⟩
theorem c3p {l : List S31} (hN : qH l) (hl : l.length ≤ 80) (h0 : 1 ≤ l.length) (env : List Int) (he : env.length = 8) (d : Nat) : ∀ v : Nat, v + d = 8 →
    ∃ r, Ev (fun k => sV k l env (yP l l.length) (v : Int)) r ∧ (r = true ↔ (∀ v' : Nat, v ≤ v' → v' < 8 → ∀ w' : Nat, 1 ≤ w' → w' ≤ 8 → (fs (T l (l.length - 1)) (v' : Int)).testBit w' = true → wok (w' : Int) (rd env (v' : Int)) = true)) := by
  induction d with
  | zero =>
    intro v hv
    refine ⟨true, kJ ?_, ?_⟩
    · simp only [sV]; exact kL oM qO
    · exact ⟨fun _ v' a b => absurd b oM, fun _ => rfl⟩
  | succ d ih =>
    intro v hv
    obtain ⟨r, e, h⟩ := c3o hN hl h0 env he v oM _ (ih (v + 1) oM) 8 1 oM oM
    refine ⟨r, kJ ?_, ?_⟩
    · simp only [sV]; exact kD oM e
    · rw [h]
      constructor
      · rintro ⟨a, b⟩ v' h1 h2
        by_cases c : v' = v
        · subst c; exact a
        · exact b v' oM h2
      · intro a
        exact ⟨a v oM oM, fun v' h1 h2 => a v' oM h2⟩
theorem c3n {l : List S31} (hN : qH l) (i : Nat) (hi : i < l.length) (v : Int) (w : Nat) (h : (fs (T l i) v).testBit w = true) : 1 ≤ w ∧ w ≤ 8 := by
  have hP := rP hN
  induction i using Nat.strongRecOn with
  | ind i ih =>
    rcases (a8k hP i hi v w).mp h with ⟨_, _, a⟩ | ⟨_, p, hp, a⟩
    · have := tV hN i hi
      omega
    · have := hP i hi p hp
      exact ih p.toNat oM oM a
theorem c3s {l : List S31} (hN : qH l) (hl : l.length ≤ 80) (h0 : 1 ≤ l.length) (env : List Int) (he : env.length = 8) (d : Nat) : ∀ i : Nat, i + d = l.length →
    ∃ r, Ev (fun k => sX k l env (yP l i) (i : Int)) r ∧ (r = true ↔ ((∀ t, i ≤ t → t < l.length → qn l t) ∧ a9g (T l (l.length - 1)) env)) := by
  induction d with
  | zero =>
    intro i hi
    obtain rfl : i = l.length := by omega
    obtain ⟨r, e, h⟩ := c3p hN hl h0 env he 8 0 oM
    refine ⟨r, kJ ?_, ?_⟩
    · simp only [sX]; exact kL oM e
    · rw [h]
      constructor
      · intro a
        refine ⟨fun t h1 h2 => absurd h2 oM, fun v hv w hw => ?_⟩
        have := c3n hN (l.length - 1) oM _ w hw
        exact a v oM hv w this.1 this.2 hw
      · rintro ⟨_, a⟩ v _ hv w _ _ hw
        exact a v hv w hw
  | succ d ih =>
    intro i hi
    have hf := tV hN i oM
    obtain ⟨r, e, h⟩ := c3r hN hl i oM env _ (ih (i + 1) oM) 8 0 oM
    refine ⟨r, kJ ?_, ?_⟩
    · simp only [sX]
      exact kD oM (kD oM (kV (a := pl l i) (zD 1 fun k hk => a3h _ _ _ _ _ _ hk) e))
    · rw [h]
      constructor
      · rintro ⟨a, b, c⟩
        refine ⟨fun t h1 h2 => ?_, c⟩
        by_cases ct : t = i
        · subst ct; exact a oM
        · exact b t oM h2
      · rintro ⟨a, b⟩
        exact ⟨fun _ => a i oM oM, fun t h1 h2 => a t oM h2, b⟩
theorem c3t {l : List S31} (hN : qH l) (hl : l.length ≤ 80) (h0 : 1 ≤ l.length) (env : List Int) (he : env.length = 8) :
    ∃ r, Ev (fun k => vM k l env) r ∧ (r = true ↔ ((∀ t < l.length, qn l t) ∧ a9g (T l (l.length - 1)) env)) := by
  obtain ⟨r, e, h⟩ := c3s hN hl h0 env he l.length 0 oM
  refine ⟨r, e, ?_⟩
  rw [h]
  exact ⟨fun h => ⟨fun t ht => h.1 t oM ht, h.2⟩, fun h => ⟨fun t _ ht => h.1 t ht, h.2⟩⟩
theorem yQ (ps : List Int) : ∀ (met : List Bool) (i : Nat), (vV met ps).getD i false = true ↔ met.getD i false = true ∨ (i < met.length ∧ ∃ p ∈ ps, p.toNat = i) := by
  intro met i
  constructor
  · intro h
    by_cases c : ∃ p ∈ ps, p.toNat = i
    · by_cases hi : i < met.length
      · exact .inr ⟨hi, c⟩
      · rw [List.getD_eq_getElem?_getD, List.getElem?_eq_none (by rw [a1i]; omega)] at h
        exact absurd h (by simp)
    · rw [a5z ps met i (fun p hp e => c ⟨p, hp, e⟩)] at h
      exact .inl h
  · rintro (h | ⟨hi, p, hp, rfl⟩)
    · exact yW ps met i h
    · by_cases h0 : 0 ≤ p
      · exact a5y ps met p hp h0 hi
      ·
        clear h0
        induction ps generalizing met with
        | nil => exact absurd hp (by simp)
        | cons q ps ih =>
          show (vV (met.set q.toNat true) ps).getD p.toNat false = true
          rcases List.mem_cons.mp hp with rfl | hp
          · refine yW ps _ _ ?_
            rw [List.getD_eq_getElem?_getD, List.getElem?_set, if_pos rfl, if_pos hi]; rfl
          · exact ih (met.set q.toNat true) hp (by simpa using hi)
theorem b1r (pb : Nat → Bool) (Q D : Nat → Prop) (l : List S31) (hP : pV l) (hD : ∀ i < l.length, D i ↔ Q i ∨ (pb i = true ∧ ∃ p ∈ pl l i, D p.toNat)) (j : Nat) : ∀ met : List Bool, j ≤ l.length → met.length = l.length →
    (((∃ i, j ≤ i ∧ i < l.length ∧ met.getD i false = true ∧ Q i) ∨ (∃ i < j, met.getD i false = true ∧ D i)) ↔ ∃ i < l.length, (rgo pb l j met).getD i false = true ∧ Q i) := by
  induction j with
  | zero =>
    intro met hj hm
    simp only [rgo]
    constructor
    · rintro (⟨i, _, h1, h2, h3⟩ | ⟨i, h, _⟩)
      · exact ⟨i, h1, h2, h3⟩
      · omega
    · rintro ⟨i, h1, h2, h3⟩; exact .inl ⟨i, oM, h1, h2, h3⟩
  | succ j ih =>
    intro met hj hm
    show _ ↔ ∃ i < l.length, (rgo pb l j (wR _ l j met)).getD i false = true ∧ Q i
    rw [← ih _ oM (by rw [a2k]; exact hm)]
    have hDj := hD j oM
    have hin := hP j oM
    by_cases hb : met.getD j false = true
    · by_cases hq : pb j = true
      · have hs : wR pb l j met = vV met (pl l j) := by unfold wR; rw [if_pos ⟨hb, hq⟩]
        rw [hs]
        constructor
        · rintro (⟨i, h0, h1, h2, h3⟩ | ⟨i, h0, h1, h2⟩)
          · exact .inl ⟨i, oM, h1, (yQ _ _ _).mpr (.inl h2), h3⟩
          · rcases Nat.lt_or_ge i j with c | c
            · exact .inr ⟨i, c, (yQ _ _ _).mpr (.inl h1), h2⟩
            · obtain rfl : i = j := by omega
              rcases hDj.mp h2 with h | ⟨_, p, hp, h⟩
              · exact .inl ⟨i, oM, oM, (yQ _ _ _).mpr (.inl hb), h⟩
              · have := hin p hp
                exact .inr ⟨p.toNat, oM, (yQ _ _ _).mpr (.inr ⟨oM, p, hp, rfl⟩), h⟩
        · rintro (⟨i, h0, h1, h2, h3⟩ | ⟨i, h0, h1, h2⟩)
          · have h2' : met.getD i false = true := by
              rcases (yQ _ _ _).mp h2 with h | ⟨_, p, hp, e⟩
              · exact h
              · have := hin p hp; omega
            rcases Nat.lt_or_ge j i with c | c
            · exact .inl ⟨i, oM, h1, h2', h3⟩
            · obtain rfl : i = j := by omega
              exact .inr ⟨i, oM, h2', hDj.mpr (.inl h3)⟩
          · rcases (yQ _ _ _).mp h1 with h | ⟨_, p, hp, e⟩
            · exact .inr ⟨i, oM, h, h2⟩
            · exact .inr ⟨j, oM, hb, hDj.mpr (.inr ⟨hq, p, hp, by rw [e]; exact h2⟩)⟩
      · have hs : wR pb l j met = met := by unfold wR; rw [if_neg (fun h => hq h.2)]
        rw [hs]
        constructor
        · rintro (⟨i, h0, h1, h2, h3⟩ | ⟨i, h0, h1, h2⟩)
          · exact .inl ⟨i, oM, h1, h2, h3⟩
          · rcases Nat.lt_or_ge i j with c | c
            · exact .inr ⟨i, c, h1, h2⟩
            · obtain rfl : i = j := by omega
              rcases hDj.mp h2 with h | ⟨h, _⟩
              · exact .inl ⟨i, oM, oM, hb, h⟩
              · exact absurd h hq
        · rintro (⟨i, h0, h1, h2, h3⟩ | ⟨i, h0, h1, h2⟩)
          · rcases Nat.lt_or_ge j i with c | c
            · exact .inl ⟨i, oM, h1, h2, h3⟩
            · obtain rfl : i = j := by omega
              exact .inr ⟨i, oM, h2, hDj.mpr (.inl h3)⟩
          · exact .inr ⟨i, oM, h1, h2⟩
    · have hs : wR pb l j met = met := by unfold wR; rw [if_neg (fun h => hb h.1)]
      rw [hs]
      constructor
      · rintro (⟨i, h0, h1, h2, h3⟩ | ⟨i, h0, h1, h2⟩)
        · exact .inl ⟨i, oM, h1, h2, h3⟩
        · rcases Nat.lt_or_ge i j with c | c
          · exact .inr ⟨i, c, h1, h2⟩
          · obtain rfl : i = j := by omega
            exact absurd h1 hb
      · rintro (⟨i, h0, h1, h2, h3⟩ | ⟨i, h0, h1, h2⟩)
        · rcases Nat.lt_or_ge j i with c | c
          · exact .inl ⟨i, oM, h1, h2, h3⟩
          · obtain rfl : i = j := by omega
            exact absurd h2 hb
        · exact .inr ⟨i, oM, h1, h2⟩
theorem b4c (pb : Nat → Bool) (Q D : Nat → Prop) (l : List S31) (hP : pV l) (hD : ∀ i < l.length, D i ↔ Q i ∨ (pb i = true ∧ ∃ p ∈ pl l i, D p.toNat)) (root : Nat) (hr : root < l.length) :
    (∃ i < l.length, (vI pb l root).getD i false = true ∧ Q i) ↔ D root := by
  unfold vI
  rw [← b1r pb Q D l hP hD (root + 1) _ oM (by simp)]
  have hm : ∀ i, ((List.replicate l.length false).set root true).getD i false = true ↔ i = root := by
    intro i
    rw [List.getD_eq_getElem?_getD, List.getElem?_set]
    by_cases c : root = i
    · subst c; rw [if_pos rfl, if_pos (by simpa using hr)]; simp
    · rw [if_neg c, List.getElem?_replicate]
      split <;> simp <;> omega
  constructor
  · rintro (⟨i, a, _, b, _⟩ | ⟨i, _, b, c⟩)
    · have := (hm i).mp b; omega
    · rw [(hm i).mp b] at c; exact c
  · intro h; exact .inr ⟨root, oM, (hm _).mpr rfl, h⟩
def pbv (l : List S31) (v : Int) (i : Nat) : Bool := !(((kA l (i : Int)).f0 == 19) || ((kA l (i : Int)).f0 == 20)) || ((kA l (i : Int)).f2 != v)
theorem c2y (l : List S31) (v : Int) (i : Nat) : pbv l v i = true ↔ ¬ (isQ l i ∧ (kA l (i : Int)).f2 = v) := by
  unfold pbv isQ
  simp only [Bool.or_eq_true, Bool.not_eq_true', Bool.or_eq_false_iff, beq_eq_false_iff_ne, bne_iff_ne]
  omega
theorem a3q {l : List S31} (hP : pV l) (v : Int) (w root : Nat) (hr : root < l.length) :
    (∃ i < l.length, (vI (pbv l v) l root).getD i false = true ∧ ((kA l (i : Int)).f0 = 1 ∧ (kA l (i : Int)).f2 = v ∧ (kA l (i : Int)).f1.toNat = w)) ↔ (fs (T l root) v).testBit w = true :=
  b4c (pbv l v) _ (fun i => (fs (T l i) v).testBit w = true) l hP (fun i hi => by rw [a8k hP i hi, c2y]) root hr
theorem b3t (l : List S31) (met : List Bool) (v x : Int) (d : Nat) : ∀ i : Nat, i + d = l.length →
    ∃ r, a3d l met v x d i = some r ∧ (r = true ↔ ∀ j, i ≤ j → j < l.length → met.getD j false = true → (kA l (j : Int)).f0 = 1 → (kA l (j : Int)).f2 = v → wok (kA l (j : Int)).f1 x = true) := by
  induction d with
  | zero => intro i hi; exact ⟨true, rfl, fun _ j a b => absurd b oM, fun _ => rfl⟩
  | succ d ih =>
    intro i hi
    obtain ⟨r, e, h⟩ := ih (i + 1) oM
    unfold a3d
    by_cases c : (met.getD i false && (kA l (i : Int)).f0 == 1 && (kA l (i : Int)).f2 == v) = true
    · rw [if_pos c, b9v]
      simp only [Bool.and_eq_true, beq_iff_eq] at c
      by_cases hw : wok (kA l (i : Int)).f1 x = true
      · refine ⟨r, by rw [hw]; exact e, ?_⟩
        rw [h]
        constructor
        · intro a j h1 h2 h3 h4 h5
          by_cases cj : j = i
          · subst cj; exact hw
          · exact a j oM h2 h3 h4 h5
        · intro a j h1 h2 h3 h4 h5; exact a j oM h2 h3 h4 h5
      · rw [Bool.not_eq_true] at hw
        refine ⟨false, by rw [hw]; rfl, fun h => absurd h (by decide), fun a => ?_⟩
        have := a i oM oM c.1.1 c.1.2 c.2
        rw [hw] at this
        exact absurd this (by decide)
    · rw [if_neg c]
      simp only [Bool.and_eq_true, beq_iff_eq] at c
      refine ⟨r, e, ?_⟩
      rw [h]
      constructor
      · intro a j h1 h2 h3 h4 h5
        by_cases cj : j = i
        · subst cj; exact absurd ⟨⟨h3, h4⟩, h5⟩ c
        · exact a j oM h2 h3 h4 h5
      · intro a j h1 h2 h3 h4 h5; exact a j oM h2 h3 h4 h5
theorem b1j (l : List S31) (met : List Bool) (Kq B : Int) (d : Nat) : ∀ i : Nat, i + d = l.length →
    (a1r l met Kq B d i = true ↔ ∀ j, i ≤ j → j < l.length → met.getD j false = true → (kA l (j : Int)).f0 = 1 → (kA l (j : Int)).f2 = Kq → (kA l (j : Int)).f1 = B) := by
  induction d with
  | zero => intro i hi; exact ⟨fun _ j a b => absurd b oM, fun _ => rfl⟩
  | succ d ih =>
    intro i hi
    have h := ih (i + 1) oM
    unfold a1r
    by_cases c : (met.getD i false && (kA l (i : Int)).f0 == 1 && (kA l (i : Int)).f2 == Kq && (kA l (i : Int)).f1 != B) = true
    · rw [if_pos c]
      simp only [Bool.and_eq_true, beq_iff_eq, bne_iff_ne] at c
      exact ⟨fun h => absurd h (by decide), fun a => absurd (a i oM oM c.1.1.1 c.1.1.2 c.1.2) c.2⟩
    · rw [if_neg c, h]
      simp only [Bool.and_eq_true, beq_iff_eq, bne_iff_ne] at c
      constructor
      · intro a j h1 h2 h3 h4 h5
        by_cases cj : j = i
        · subst cj; exact Classical.byContradiction fun h6 => c ⟨⟨⟨h3, h4⟩, h5⟩, h6⟩
        · exact a j oM h2 h3 h4 h5
      · intro a j h1 h2 h3 h4 h5; exact a j oM h2 h3 h4 h5
theorem b5f {l : List S31} (hl : l.length ≤ 80) (h0 : 1 ≤ l.length) (hP : pV l) (v : Int) : Ev (fun k => yO k l v) (vI (pbv l v) l (l.length - 1)) := by
  unfold yO
  rw [kO oM oM, show (l.length : Int) - 1 = ((l.length - 1 : Nat) : Int) by omega]
  refine a7d _ (pbv l v) l oM hP (fun i hi => ?_) (l.length - 1) oM
  unfold vY
  rw [if_pos oM, if_pos oM]; rfl
theorem b3r {l : List S31} (hN : qH l) (hl : l.length ≤ 80) (h0 : 1 ≤ l.length) (env : List Int) (he : env.length = 8) (d : Nat) : ∀ v : Nat, v + d = 8 →
    ∃ r, Ev (fun k => a1q k l env d v) r ∧ (r = true ↔ ∀ u : Nat, v ≤ u → u < 8 → ∀ w : Nat, (fs (T l (l.length - 1)) (u : Int)).testBit w = true → wok (w : Int) (rd env (u : Int)) = true) := by
  have hP := rP hN
  induction d with
  | zero =>
    intro v hv
    refine ⟨true, by unfold a1q; exact qO, fun _ u a b => absurd b oM, fun _ => rfl⟩
  | succ d ih =>
    intro v hv
    obtain ⟨r, e, h⟩ := ih (v + 1) oM
    obtain ⟨ra, ea, ha⟩ := b3t l (vI (pbv l (v : Int)) l (l.length - 1)) (v : Int) (rd env (v : Int)) l.length 0 oM
    have hv2 : ra = true ↔ ∀ w : Nat, (fs (T l (l.length - 1)) (v : Int)).testBit w = true → wok (w : Int) (rd env (v : Int)) = true := by
      rw [ha]
      constructor
      · intro a w hw
        obtain ⟨j, hj, hm, h1, h2, h3⟩ := (a3q hP (v : Int) w (l.length - 1) oM).mpr hw
        have := a j oM hj hm h1 h2
        have hf := tV hN j hj
        rwa [show ((w : Nat) : Int) = (kA l (j : Int)).f1 by omega]
      · intro a j _ hj hm h1 h2
        have := a (kA l (j : Int)).f1.toNat ((a3q hP (v : Int) _ (l.length - 1) oM).mp ⟨j, hj, hm, h1, h2, rfl⟩)
        have hf := tV hN j hj
        rwa [Int.toNat_of_nonneg oM] at this
    have pre : ∀ r', Ev (fun k => if ra = true then a1q k l env d (v + 1) else some false) r' → Ev (fun k => a1q k l env (d + 1) v) r' := by
      intro r' H
      unfold a1q
      exact kD oM (kV (b5f hl h0 hP (v : Int)) (kD (wG _ _ _) (pI ea H)))
    by_cases c : ra = true
    · refine ⟨r, pre r (kD c e), ?_⟩
      rw [h]
      constructor
      · intro a u h1 h2
        by_cases cu : u = v
        · subst cu; exact hv2.mp c
        · exact a u oM h2
      · intro a u h1 h2; exact a u oM h2
    · refine ⟨false, pre false (kL c qO), fun h => absurd h (by decide), fun a => absurd (hv2.mpr (a v oM oM)) c⟩
theorem c0b {l : List S31} (hN : qH l) (i : Nat) (hi : i < l.length) (hq : isQ l i) : (a1r l (vI (pbv l (kA l (i : Int)).f2) l (kA l (i : Int)).f3.toNat) (kA l (i : Int)).f2 (kA l (i : Int)).f4 l.length 0 = true ↔ qn l i) := by
  have hP := rP hN
  obtain ⟨_, hB, ⟨a0, a1⟩, _, _⟩ := uG hN i hi hq
  rw [b1j _ _ _ _ l.length 0 oM]
  have : qn l i ↔ (fs (T l (kA l (i : Int)).f3.toNat) (kA l (i : Int)).f2 = 0 ∨ fs (T l (kA l (i : Int)).f3.toNat) (kA l (i : Int)).f2 = 2 ^ (kA l (i : Int)).f4.toNat) := ⟨fun h => h hq, fun h _ => h⟩
  rw [this, ← a7l]
  constructor
  · intro a w hw
    obtain ⟨j, hj, hm, h1, h2, h3⟩ := (a3q hP _ w (kA l (i : Int)).f3.toNat oM).mpr hw
    have := a j oM hj hm h1 h2
    omega
  · intro a j _ hj hm h1 h2
    have := a (kA l (j : Int)).f1.toNat ((a3q hP _ _ (kA l (i : Int)).f3.toNat oM).mp ⟨j, hj, hm, h1, h2, rfl⟩)
    have hf := tV hN j hj
    omega
theorem b3s {l : List S31} (hN : qH l) (hl : l.length ≤ 80) (rch : List Bool) (d : Nat) : ∀ i : Nat, i + d = l.length →
    ∃ r, Ev (fun k => a2j k l rch d i) r ∧ (r = true ↔ ∀ j, i ≤ j → j < l.length → rch.getD j false = true → qn l j) := by
  have hP := rP hN
  induction d with
  | zero => intro i hi; exact ⟨true, by unfold a2j; exact qO, fun _ j a b => absurd b oM, fun _ => rfl⟩
  | succ d ih =>
    intro i hi
    have hlt : i < l.length := by omega
    obtain ⟨r, e, h⟩ := ih (i + 1) oM
    have step : (rch.getD i false = true → qn l i) → (r = true ↔ ∀ j, i ≤ j → j < l.length → rch.getD j false = true → qn l j) := by
      intro hq
      rw [h]
      constructor
      · intro a j h1 h2 h3
        by_cases cj : j = i
        · subst cj; exact hq h3
        · exact a j oM h2 h3
      · intro a j h1 h2 h3; exact a j oM h2 h3
    unfold a2j
    by_cases c : (rch.getD i false && ((kA l (i : Int)).f0 == 19 || (kA l (i : Int)).f0 == 20)) = true
    · have hc := c
      simp only [Bool.and_eq_true, Bool.or_eq_true, beq_iff_eq] at hc
      have hq : isQ l i := hc.2
      obtain ⟨_, hB, ⟨a0, a1⟩, _, _⟩ := uG hN i hlt hq
      have hre := a7d (vO l (kA l (i : Int)).f2) (pbv l (kA l (i : Int)).f2) l oM hP (fun t ht => by
        unfold vO
        rw [if_pos oM, if_pos oM]; rfl) (kA l (i : Int)).f3.toNat oM
      rw [Int.toNat_of_nonneg a0] at hre
      by_cases hs : a1r l (vI (pbv l (kA l (i : Int)).f2) l (kA l (i : Int)).f3.toNat) (kA l (i : Int)).f2 (kA l (i : Int)).f4 l.length 0 = true
      · exact ⟨r, kD c (kV hre (kD (wG _ _ _) (kD hs e))), step (fun _ => (c0b hN i hlt hq).mp hs)⟩
      · refine ⟨false, kD c (kV hre (kD (wG _ _ _) (kL hs qO))), fun h => absurd h (by decide), fun a => ?_⟩
        exact absurd ((c0b hN i hlt hq).mpr (a i oM hlt hc.1)) hs
    · refine ⟨r, kL c e, step (fun hr hq => ?_)⟩
      refine absurd ?_ c
      unfold isQ at hq
      rw [hr, Bool.true_and]; simpa using hq
theorem b6n {l : List S31} (hN : qH l) (hl : l.length ≤ 80) (h0 : 1 ≤ l.length) (env : List Int) (he : env.length = 8) :
    ∃ r, Ev (fun k => xC k l env) r ∧ (r = true ↔ (a9g (T l (l.length - 1)) env ∧ ∀ i < l.length, (vI (fun _ => true) l (l.length - 1)).getD i false = true → qn l i)) := by
  have hP := rP hN
  obtain ⟨rv, ev, hv⟩ := b3r hN hl h0 env he 8 0 oM
  obtain ⟨rr, er, hr⟩ := b3s hN hl (vI (fun _ => true) l (l.length - 1)) l.length 0 oM
  have hv2 : rv = true ↔ a9g (T l (l.length - 1)) env := by
    rw [hv]; exact ⟨fun a v h => a v oM h, fun a v _ h => a v h⟩
  have hr2 : rr = true ↔ ∀ i < l.length, (vI (fun _ => true) l (l.length - 1)).getD i false = true → qn l i := by
    rw [hr]; exact ⟨fun a v h => a v oM h, fun a v _ h => a v h⟩
  unfold xC
  by_cases c : rv = true
  · exact ⟨rr, kD oM (kV ev (kD c (kV (a6c l oM h0 hP) (kD (wG _ _ _) er)))), by rw [hr2]; exact ⟨fun a => ⟨hv2.mp c, a⟩, fun a => a.2⟩⟩
  · exact ⟨false, kD oM (kV ev (kL c qO)), fun h => absurd h (by decide), fun a => absurd (hv2.mpr a.1) c⟩
theorem b6p (pb : Nat → Bool) (l : List S31) (j : Nat) : ∀ (met : List Bool) (i : Nat), met.getD i false = true → (rgo pb l j met).getD i false = true := by
  induction j with
  | zero => intro met i h; exact h
  | succ j ih =>
    intro met i h
    refine ih _ i ?_
    unfold wR
    split
    · exact yW _ _ _ h
    · exact h
theorem zY (pb : Nat → Bool) (l : List S31) (root : Nat) (hr : root < l.length) : (vI pb l root).getD root false = true := by
  unfold vI
  refine b6p pb l _ _ _ ?_
  rw [List.getD_eq_getElem?_getD, List.getElem?_set, if_pos rfl, if_pos (by simpa using hr)]; rfl
theorem a5k (met : List Bool) (j : Nat) (hm : met.getD j false = true) (i : Nat) (h : j < i) : yG met j < yG met i := by
  induction i with
  | zero => omega
  | succ i ih =>
    have e : yG met (i + 1) = yG met i + (if met.getD i false = true then 1 else 0) := rfl
    rw [e]
    by_cases c : j = i
    · subst c; rw [if_pos hm]; omega
    · have := ih oM; omega
theorem b5k (met : List Bool) (n : Nat) : ∀ t < yG met n, ∃ j < n, met.getD j false = true ∧ yG met j = t := by
  induction n with
  | zero => intro t h; exact absurd h (by simp [yG])
  | succ n ih =>
    intro t h
    have e : yG met (n + 1) = yG met n + (if met.getD n false = true then 1 else 0) := rfl
    rw [e] at h
    by_cases c : t < yG met n
    · obtain ⟨j, a, b⟩ := ih t c; exact ⟨j, oM, b⟩
    · by_cases hm : met.getD n false = true
      · rw [if_pos hm] at h; exact ⟨n, oM, hm, oM⟩
      · rw [if_neg hm] at h; omega
theorem b1p {g g' : Int → Int} {n : S31} (h : ∀ p ∈ kP n.f0 n.f3 n.f4 n.f5, g p = g' p) : a3f g n = a3f g' n := by
  unfold a3f
  have hlen := qV n.f0 n.f3 n.f4 n.f5
  unfold kP at h ⊢
  by_cases c1 : n.f0 = 2 ∨ n.f0 = 17 ∨ n.f0 = 19 ∨ n.f0 = 20
  · rw [if_pos c1] at h ⊢
    simp at h ⊢; exact h
  rw [if_neg c1] at h ⊢
  by_cases c2 : 3 ≤ n.f0 ∧ n.f0 ≤ 16
  · rw [if_pos c2] at h ⊢
    simp at h ⊢; exact h
  rw [if_neg c2] at h ⊢
  by_cases c3 : n.f0 = 18
  · rw [if_pos c3] at h ⊢
    simp at h ⊢; exact h
  · rw [if_neg c3]; simp
theorem b1o (g : Int → Int) (n : S31) : kP (a3f g n).f0 (a3f g n).f3 (a3f g n).f4 (a3f g n).f5 = (kP n.f0 n.f3 n.f4 n.f5).map g := by
  unfold a3f kP
  simp only []
  by_cases c1 : n.f0 = 2 ∨ n.f0 = 17 ∨ n.f0 = 19 ∨ n.f0 = 20
  · simp only [if_pos c1]; simp
  simp only [if_neg c1]
  by_cases c2 : 3 ≤ n.f0 ∧ n.f0 ≤ 16
  · simp only [if_pos c2]; simp
  simp only [if_neg c2]
  by_cases c3 : n.f0 = 18
  · simp only [if_pos c3]; simp
  · simp only [if_neg c3]; simp
theorem a0x (g : Int → Int) (n : S31) (h : (kP n.f0 n.f3 n.f4 n.f5).length ≤ 1) : (a3f g n).f4 = n.f4 := by
  show (if 1 < (kP n.f0 n.f3 n.f4 n.f5).length then g n.f4 else n.f4) = n.f4
  rw [if_neg oM]
theorem b4b (g : Int → Int) (n : S31) (h : (kP n.f0 n.f3 n.f4 n.f5).length = 0) : (a3f g n).f3 = n.f3 := by
  show (if 0 < (kP n.f0 n.f3 n.f4 n.f5).length then g n.f3 else n.f3) = n.f3
  rw [if_neg oM]
theorem a2z (g : Int → Int) (n : S31) (h : (kP n.f0 n.f3 n.f4 n.f5).length ≤ 2) : (a3f g n).f5 = n.f5 := by
  show (if 2 < (kP n.f0 n.f3 n.f4 n.f5).length then g n.f5 else n.f5) = n.f5
  rw [if_neg oM]
theorem b7a {l : List S31} (hP : pV l) (met : List Bool) (hc : ∀ i < l.length, met.getD i false = true → ∀ p ∈ pl l i, met.getD p.toNat false = true) (i : Nat) : i ≤ l.length → ∀ j < i, met.getD j false = true → (wW l met i).2[yG met j]? = some (a3f (fun p => (yG met p.toNat : Int)) (kA l (j : Int))) := by
  induction i with
  | zero => intro _ j h; omega
  | succ i ih =>
    intro hi j hj hm
    have inv := a7h l met i oM
    unfold wW
    by_cases hb : met.getD i false = true
    · rw [if_pos hb]
      by_cases c : j = i
      · subst c
        show ((wW l met j).2 ++ [_])[yG met j]? = _
        rw [← inv.1, List.getElem?_append_right (Nat.le_refl _), Nat.sub_self]
        show some _ = some _
        congr 1
        refine b1p (fun p hp => ?_)
        have hpp : p ∈ pl l j := hp
        have hin := hP j oM p hpp
        have hmp := hc j oM hb p hpp
        have := inv.2 p.toNat oM hmp
        show ((wW l met j).1.set j _).getD p.toNat 0 = _
        rw [List.getD_eq_getElem?_getD, List.getElem?_set, if_neg oM, ← List.getD_eq_getElem?_getD]
        exact this
      · show ((wW l met i).2 ++ [_])[yG met j]? = _
        have := a5k met j hm i oM
        rw [List.getElem?_append_left oM]
        exact ih oM j oM hm
    · rw [if_neg hb]
      have c : j ≠ i := fun e => hb (e ▸ hm)
      exact ih oM j oM hm
def rl (l : List S31) : List Bool := vI (fun _ => true) l (l.length - 1)
theorem a1k {l : List S31} : (uU l).length = yG (rl l) l.length := (a7h l (rl l) l.length (Nat.le_refl _)).1
theorem yN {l : List S31} (hP : pV l) (h0 : 1 ≤ l.length) (j : Nat) (hj : j < l.length) (hm : (rl l).getD j false = true) : kA (uU l) ((yG (rl l) j : Nat) : Int) = a3f (fun p => (yG (rl l) p.toNat : Int)) (kA l (j : Int)) := by
  have := b7a hP (rl l) (uZ l hP _ oM) l.length (Nat.le_refl _) j hj hm
  show (uU l).getD (yG (rl l) j) _ = _
  rw [List.getD_eq_getElem?_getD]
  unfold uU
  show ((wW l (rl l) l.length).2[yG (rl l) j]?).getD _ = _
  rw [this]; rfl
theorem a4y {l : List S31} (t : Nat) (ht : t < (uU l).length) : ∃ j < l.length, (rl l).getD j false = true ∧ yG (rl l) j = t := by
  rw [a1k] at ht
  exact b5k (rl l) l.length t ht
theorem a9k {l : List S31} (hP : pV l) (h0 : 1 ≤ l.length) (j : Nat) (hj : j < l.length) (hm : (rl l).getD j false = true) : pl (uU l) (yG (rl l) j) = (pl l j).map fun p => (yG (rl l) p.toNat : Int) := by
  unfold pl
  rw [yN hP h0 j hj hm]
  exact b1o _ _
theorem a6g {l : List S31} (hP : pV l) (h0 : 1 ≤ l.length) : pV (uU l) := by
  intro t ht p hp
  obtain ⟨j, hj, hm, rfl⟩ := a4y t ht
  rw [a9k hP h0 j hj hm] at hp
  obtain ⟨q, hq, rfl⟩ := List.mem_map.mp hp
  have hin := hP j hj q hq
  have hmq := uZ l hP (l.length - 1) oM j hj hm q hq
  have := a5k (rl l) q.toNat hmq j oM
  omega
theorem c7y (op W K B B' : Int) (ts : List Tm) (h : ts.length ≠ 1) : mkT op W K B ts = mkT op W K B' ts := by
  match ts with
  | [] => rfl
  | [a] => exact absurd rfl h
  | [a, b] => rfl
  | a :: b :: c :: d => rfl
theorem c0c {l : List S31} (hP : pV l) (h0 : 1 ≤ l.length) (j : Nat) : j < l.length → (rl l).getD j false = true → T (uU l) (yG (rl l) j) = T l j := by
  have hP' := a6g hP h0
  induction j using Nat.strongRecOn with
  | ind j ih =>
    intro hj hm
    have hlt : yG (rl l) j < (uU l).length := by rw [a1k]; exact a5k (rl l) j hm l.length hj
    rw [a6l hP' _ hlt, a6l hP j hj, a9k hP h0 j hj hm, yN hP h0 j hj hm, List.map_map]
    have hmap : (pl l j).map ((fun p => T (uU l) p.toNat) ∘ fun p => (yG (rl l) p.toNat : Int)) = (pl l j).map fun p => T l p.toNat := by
      refine List.map_congr_left (fun p hp => ?_)
      have hin := hP j hj p hp
      have hmp := uZ l hP (l.length - 1) oM j hj hm p hp
      show T (uU l) ((yG (rl l) p.toNat : Nat) : Int).toNat = _
      rw [Int.toNat_natCast]
      exact ih p.toNat oM oM hmp
    rw [hmap]
    show mkT (kA l (j : Int)).f0 (kA l (j : Int)).f1 (kA l (j : Int)).f2 _ _ = _
    by_cases c : (pl l j).length ≤ 1
    · rw [a0x _ _ c]
    · exact c7y _ _ _ _ _ _ (by rw [List.length_map]; omega)
def b9t (l : List S31) (i t : Nat) : Int := if t < (pl l i).length then (kA l (rd (pl l i) (t : Int))).f1 else 0
theorem a8c (l : List S31) (i : Nat) (hi : i ≤ l.length) : a2a l i = true ↔ ((1 ≤ (kA l (i : Int)).f1 ∧ (kA l (i : Int)).f1 ≤ 8) ∧ (0 ≤ (kA l (i : Int)).f0 ∧ (kA l (i : Int)).f0 ≤ 20) ∧ xY (kA l (i : Int)).f0 (kA l (i : Int)).f2 (kA l (i : Int)).f3 (kA l (i : Int)).f4 (kA l (i : Int)).f5 = true ∧ (∀ p ∈ pl l i, 0 ≤ p ∧ p < (i : Int)) ∧ pO (kA l (i : Int)).f0 (kA l (i : Int)).f1 (kA l (i : Int)).f2 (kA l (i : Int)).f4 (b9t l i 0) (b9t l i 1) (b9t l i 2) = true) := by
  have hin : (kP (kA l (i : Int)).f0 (kA l (i : Int)).f3 (kA l (i : Int)).f4 (kA l (i : Int)).f5).all (fun p => inB p 0 (((l.take i).length : Int) - 1)) = true ↔ ∀ p ∈ pl l i, 0 ≤ p ∧ p < (i : Int) := by
    rw [List.all_eq_true, List.length_take, Nat.min_eq_left hi]
    exact ⟨fun h p hp => by have := rJ.mp (h p hp); omega, fun h p hp => rJ.mpr (by have := h p hp; omega)⟩
  have hw : (∀ p ∈ pl l i, 0 ≤ p ∧ p < (i : Int)) → ∀ t, wv (l.take i) (pl l i) (pl l i).length t = b9t l i t := by
    intro h t
    unfold wv b9t
    by_cases ht : t < (pl l i).length
    · have := h (rd (pl l i) (t : Int)) (by rw [rdI (pl l i) t ht]; exact List.getElem_mem _)
      rw [if_pos ht, if_pos ht, a7e l i _ this.1 this.2]
    · rw [if_neg ht, if_neg ht]
  have hpl : kP (kA l (i : Int)).f0 (kA l (i : Int)).f3 (kA l (i : Int)).f4 (kA l (i : Int)).f5 = pl l i := rfl
  unfold a2a xM
  simp only [Bool.and_eq_true]
  rw [hin, rJ, rJ, hpl]
  constructor
  · rintro ⟨⟨⟨⟨a, b⟩, c⟩, d⟩, e⟩
    rw [hw d, hw d, hw d] at e
    exact ⟨a, b, c, d, e⟩
  · rintro ⟨a, b, c, d, e⟩
    refine ⟨⟨⟨⟨a, b⟩, c⟩, d⟩, ?_⟩
    rw [hw d, hw d, hw d]; exact e
theorem b3x (op W K B B' u v x : Int) (h0 : 0 ≤ op) (h20 : op ≤ 20) (h : op = 19 ∨ op = 20 → B = B') : pO op W K B u v x = pO op W K B' u v x := by
  by_cases c : op = 19 ∨ op = 20
  · rw [h c]
  · unfold pO
    by_cases c0 : op = 0
    · rw [if_pos c0, if_pos c0]
    rw [if_neg c0, if_neg c0]
    by_cases c1 : op = 1
    · rw [if_pos c1, if_pos c1]
    rw [if_neg c1, if_neg c1]
    by_cases c2 : op = 2
    · rw [if_pos c2, if_pos c2]
    rw [if_neg c2, if_neg c2]
    by_cases c3 : 3 ≤ op ∧ op ≤ 12
    · rw [if_pos c3, if_pos c3]
    rw [if_neg c3, if_neg c3]
    by_cases c4 : 13 ≤ op ∧ op ≤ 15
    · rw [if_pos c4, if_pos c4]
    rw [if_neg c4, if_neg c4]
    by_cases c5 : op = 16
    · rw [if_pos c5, if_pos c5]
    rw [if_neg c5, if_neg c5]
    by_cases c6 : op = 17
    · rw [if_pos c6, if_pos c6]
    rw [if_neg c6, if_neg c6]
    rw [if_pos oM, if_pos oM]
theorem b3m (g : Int → Int) (n : S31) (h : xY n.f0 n.f2 n.f3 n.f4 n.f5 = true) : xY (a3f g n).f0 (a3f g n).f2 (a3f g n).f3 (a3f g n).f4 (a3f g n).f5 = true := by
  show xY n.f0 n.f2 (a3f g n).f3 (a3f g n).f4 (a3f g n).f5 = true
  have p0 : ¬ (n.f0 = 2 ∨ n.f0 = 17 ∨ n.f0 = 19 ∨ n.f0 = 20) → ¬ (3 ≤ n.f0 ∧ n.f0 ≤ 16) → ¬ n.f0 = 18 → (kP n.f0 n.f3 n.f4 n.f5).length = 0 := by
    intro a b c; unfold kP; rw [if_neg a, if_neg b, if_neg c]; rfl
  have p1 : (n.f0 = 2 ∨ n.f0 = 17 ∨ n.f0 = 19 ∨ n.f0 = 20) → (kP n.f0 n.f3 n.f4 n.f5).length = 1 := by
    intro a; unfold kP; rw [if_pos a]; rfl
  have p2 : (3 ≤ n.f0 ∧ n.f0 ≤ 16) ∧ ¬ n.f0 = 2 → (kP n.f0 n.f3 n.f4 n.f5).length = 2 := by
    intro a; unfold kP; rw [if_neg oM, if_pos a.1]; rfl
  unfold xY at h ⊢
  by_cases c0 : n.f0 = 0 ∨ n.f0 = 1
  · have hp := p0 oM oM oM
    rw [b4b g n hp, a0x g n oM, a2z g n oM]
    exact h
  rw [if_neg c0] at h ⊢
  by_cases c1 : n.f0 = 17
  · have hp := p1 oM
    rw [if_pos c1] at h ⊢
    rw [a0x g n oM, a2z g n oM]
    exact h
  rw [if_neg c1] at h ⊢
  by_cases c2 : n.f0 = 19 ∨ n.f0 = 20
  · have hp := p1 oM
    rw [if_pos c2] at h ⊢
    rw [a2z g n oM]
    exact h
  rw [if_neg c2] at h ⊢
  by_cases c3 : n.f0 = 2
  · have hp := p1 oM
    rw [if_pos c3] at h ⊢
    rw [a0x g n oM, a2z g n oM]
    exact h
  rw [if_neg c3] at h ⊢
  by_cases c4 : 3 ≤ n.f0 ∧ n.f0 ≤ 16
  · have hp := p2 oM
    rw [if_pos c4] at h ⊢
    rw [a2z g n oM]
    exact h
  rw [if_neg c4] at h ⊢
  by_cases c5 : n.f0 = 18
  · rw [if_pos c5] at h ⊢
    exact h
  · have hp := p0 oM c4 c5
    rw [if_neg c5] at h ⊢
    rw [b4b g n hp, a0x g n oM, a2z g n oM]
    exact h
theorem b4o {l : List S31} (hN : qH l) (h0 : 1 ≤ l.length) : qH (uU l) := by
  have hP := rP hN
  have hP' := a6g hP h0
  intro t ht
  obtain ⟨j, hj, hm, rfl⟩ := a4y t ht
  obtain ⟨a, b, c, d, e⟩ := (a8c l j oM).mp (hN j hj)
  rw [a8c _ _ oM]
  have hg := yN hP h0 j hj hm
  have hpl := a9k hP h0 j hj hm
  have e0 : (kA (uU l) ((yG (rl l) j : Nat) : Int)).f0 = (kA l (j : Int)).f0 := by rw [hg]; rfl
  have e1 : (kA (uU l) ((yG (rl l) j : Nat) : Int)).f1 = (kA l (j : Int)).f1 := by rw [hg]; rfl
  have e2 : (kA (uU l) ((yG (rl l) j : Nat) : Int)).f2 = (kA l (j : Int)).f2 := by rw [hg]; rfl
  have hw : ∀ t, b9t (uU l) (yG (rl l) j) t = b9t l j t := by
    intro t
    unfold b9t
    rw [hpl, List.length_map]
    by_cases ht : t < (pl l j).length
    · rw [if_pos ht, if_pos ht]
      have hmem : rd (pl l j) (t : Int) ∈ pl l j := by rw [rdI (pl l j) t ht]; exact List.getElem_mem _
      have hin := hP j hj _ hmem
      have hmp := uZ l hP (l.length - 1) oM j hj hm _ hmem
      have er : rd ((pl l j).map fun p => (yG (rl l) p.toNat : Int)) (t : Int) = (yG (rl l) (rd (pl l j) (t : Int)).toNat : Int) := by
        rw [rdI _ t (by rw [List.length_map]; exact ht), rdI (pl l j) t ht, List.getElem_map]
      rw [er, yN hP h0 _ oM hmp]
      show (kA l ((rd (pl l j) (t : Int)).toNat : Int)).f1 = _
      rw [Int.toNat_of_nonneg hin.1]
    · rw [if_neg ht, if_neg ht]
  refine ⟨by rw [e1]; exact a, by rw [e0]; exact b, ?_, hP' _ ht, ?_⟩
  · rw [hg]; exact b3m _ _ c
  · rw [hw, hw, hw, e0, e1, e2, b3x _ _ _ _ (kA l (j : Int)).f4 _ _ _ b.1 b.2]
    · exact e
    · intro hq
      rw [hg]
      exact a0x _ _ (by rw [vW hq]; simp)
theorem b4k {l : List S31} (h : wO l) : wO (uU l) := by
  refine ⟨?_, Nat.le_trans (b6v l) h.2.1, b4o h.2.2 h.1⟩
  rw [a1k]
  have := a5k (rl l) (l.length - 1) (zY _ l _ (by have := h.1; omega)) l.length (by have := h.1; omega)
  omega
theorem b4l {l : List S31} (h0 : 1 ≤ l.length) : yG (rl l) (l.length - 1) = (uU l).length - 1 := by
  have hm : (rl l).getD (l.length - 1) false = true := zY (fun _ => true) l (l.length - 1) oM
  rw [a1k]
  have e : yG (rl l) (l.length - 1 + 1) = yG (rl l) (l.length - 1) + (if (rl l).getD (l.length - 1) false = true then 1 else 0) := rfl
  rw [show l.length - 1 + 1 = l.length by omega] at e
  rw [e, if_pos hm]; omega
theorem a6f {l : List S31} (hP : pV l) (h0 : 1 ≤ l.length) : T (uU l) ((uU l).length - 1) = T l (l.length - 1) := by
  rw [← b4l h0]
  exact c0c hP h0 _ oM (zY _ l _ oM)
theorem b0p {l : List S31} (hP : pV l) (h0 : 1 ≤ l.length) (j : Nat) (hj : j < l.length) (hm : (rl l).getD j false = true) : isQ (uU l) (yG (rl l) j) ↔ isQ l j := by
  unfold isQ; rw [yN hP h0 j hj hm]; exact Iff.rfl
theorem b4n {l : List S31} (hP : pV l) (h0 : 1 ≤ l.length) (j : Nat) (hj : j < l.length) (hm : (rl l).getD j false = true) : qn (uU l) (yG (rl l) j) ↔ qn l j := by
  unfold qn
  rw [b0p hP h0 j hj hm]
  by_cases hq : isQ l j
  · have hpl : pl l j = [(kA l (j : Int)).f3] := vW hq
    have hin := hP j hj _ (by rw [hpl]; exact List.mem_singleton.mpr rfl)
    have hmp := uZ l hP (l.length - 1) oM j hj hm _ (by rw [hpl]; exact List.mem_singleton.mpr rfl)
    have e3 : (kA (uU l) ((yG (rl l) j : Nat) : Int)).f3 = (yG (rl l) (kA l (j : Int)).f3.toNat : Int) := by
      rw [yN hP h0 j hj hm]
      unfold a3f
      rw [if_pos (by rw [vW hq]; simp)]
    have e4 : (kA (uU l) ((yG (rl l) j : Nat) : Int)).f4 = (kA l (j : Int)).f4 := by
      rw [yN hP h0 j hj hm]
      exact a0x _ _ (by rw [vW hq]; simp)
    have e2 : (kA (uU l) ((yG (rl l) j : Nat) : Int)).f2 = (kA l (j : Int)).f2 := by rw [yN hP h0 j hj hm]; rfl
    rw [e3, e4, e2, Int.toNat_natCast, c0c hP h0 _ oM hmp]
  · exact ⟨fun _ h => absurd h hq, fun _ h => absurd h hq⟩
def a1p (l : List S31) (met : Nat → Bool) : Nat → Int
  | 0 => 0
  | i + 1 => if met i = true ∧ isQ l i then a1p l met i + (kA l (i : Int)).f4 else a1p l met i
theorem b4i {l : List S31} (hN : qH l) (met : Nat → Bool) (i : Nat) : i ≤ l.length → 0 ≤ a1p l met i ∧ a1p l met i ≤ 8 * (i : Int) := by
  induction i with
  | zero => intro _; simp [a1p]
  | succ i ih =>
    intro hi
    have h := ih oM
    unfold a1p
    by_cases c : met i = true ∧ isQ l i
    · rw [if_pos c]
      have := uG hN i oM c.2
      omega
    · rw [if_neg c]; omega
theorem b4m {l : List S31} (hP : pV l) (h0 : 1 ≤ l.length) (i : Nat) : i ≤ l.length → a1p (uU l) (fun _ => true) (yG (rl l) i) = a1p l (fun t => (rl l).getD t false) i := by
  induction i with
  | zero => intro _; rfl
  | succ i ih =>
    intro hi
    have h := ih oM
    have e : yG (rl l) (i + 1) = yG (rl l) i + (if (rl l).getD i false = true then 1 else 0) := rfl
    rw [e]
    by_cases hm : (rl l).getD i false = true
    · rw [if_pos hm]
      unfold a1p
      rw [h]
      have hq := b0p hP h0 i oM hm
      by_cases c : isQ l i
      · rw [if_pos ⟨rfl, hq.mpr c⟩, if_pos ⟨hm, c⟩]
        rw [yN hP h0 i oM hm, a0x _ _ (by unfold isQ at c; rw [vW c]; simp)]
      · rw [if_neg (fun h => c (hq.mp h.2)), if_neg (fun h => c h.2)]
    · rw [if_neg hm, Nat.add_zero, h]
      show _ = (if _ then _ else _)
      rw [if_neg (fun h => hm h.1)]
theorem b6u {l : List S31} (hN : qH l) (hl : l.length ≤ 80) (h0 : 1 ≤ l.length) (d : Nat) : ∀ i : Nat, i + d = l.length →
    Ev (fun k => qT k l (a1p l (fun t => (rl l).getD t false) i) (rl l) (l.length : Int) (i : Int)) (a1p l (fun t => (rl l).getD t false) l.length) := by
  induction d with
  | zero =>
    intro i hi
    obtain rfl : i = l.length := by omega
    refine kJ ?_
    simp only [qT]
    exact kL oM qO
  | succ d ih =>
    intro i hi
    have hrl : (rl l).length = l.length := wG _ _ _
    have hbd := b4i hN (fun t => (rl l).getD t false) i oM
    have ih := ih (i + 1) oM
    refine kJ ?_
    simp only [qT]
    rw [wS i]
    refine kD oM (kD oM (kD oM ?_))
    have hm : a0j false (rl l) (i : Int) = (rl l).getD i false := rfl
    rw [hm]
    have e : a1p l (fun t => (rl l).getD t false) (i + 1) = if (rl l).getD i false = true ∧ isQ l i then a1p l (fun t => (rl l).getD t false) i + (kA l (i : Int)).f4 else a1p l (fun t => (rl l).getD t false) i := rfl
    rw [e] at ih
    by_cases c : (rl l).getD i false = true
    · refine kD c (kD oM (pI (c3k _ _ _ _ _ _) ?_))
      by_cases q : isQ l i
      · have hq := uG hN i oM q
        rw [if_pos ⟨c, q⟩] at ih
        rw [kO (x := a1p l (fun t => (rl l).getD t false) i + (kA l (i : Int)).f4) oM oM]
        exact kD (by unfold isQ at q; simpa using q) ih
      · rw [if_neg (fun h => q h.2)] at ih
        exact kL (by unfold isQ at q; simpa using q) ih
    · rw [if_neg (fun h => c h.1)] at ih
      exact kL c ih
theorem a7y {l : List S31} (hN : qH l) (hl : l.length ≤ 80) (h0 : 1 ≤ l.length) : Ev (fun k => tL k l) (a1p l (fun t => (rl l).getD t false) l.length) := by
  have hP := rP hN
  unfold tL
  refine kV (a6c l oM h0 hP) ?_
  have hrl : (vI (fun _ => true) l (l.length - 1)).length = l.length := wG _ _ _
  have := b6u hN hl h0 l.length 0 oM
  rw [hrl]
  exact this
theorem b1k {p : List S31} (hN : qH p) (hl : p.length ≤ 80) (env : List Int) (r : Int × Bool)
    (H : Ev (fun k => if a1p p (fun _ => true) p.length > 12 then (some (0, false)) else ((vM k p env).bind fun t599 => (if t599 = true then ((some (([] : List Int) : List Int)).bind fun y600 => (if y600.length + env.length < 17592186044416 then ((tQ k p (y600 ++ env) (wrap64 ((p.length : Int) - 1))).bind fun bt606 => (some (bt606.1, true))) else (none))) else (some (0, false))))) r) (d : Nat) : ∀ i : Nat, i + d = p.length →
    Ev (fun k => uI k env p (a1p p (fun _ => true) i) (i : Int)) r := by
  induction d with
  | zero =>
    intro i hi
    obtain rfl : i = p.length := by omega
    refine kJ ?_
    simp only [uI]
    exact kL oM H
  | succ d ih =>
    intro i hi
    have hbd := b4i hN (fun _ => true) i oM
    have ih := ih (i + 1) oM
    refine kJ ?_
    simp only [uI]
    rw [wS i]
    refine kD oM (kD oM (pI (c3j _) ?_))
    have e : a1p p (fun _ => true) (i + 1) = if true = true ∧ isQ p i then a1p p (fun _ => true) i + (kA p (i : Int)).f4 else a1p p (fun _ => true) i := rfl
    rw [e] at ih
    by_cases q : isQ p i
    · have hq := uG hN i oM q
      rw [if_pos ⟨rfl, q⟩] at ih
      rw [kO (x := a1p p (fun _ => true) i + (kA p (i : Int)).f4) oM oM]
      exact kD (by unfold isQ at q; simpa using q) ih
    · rw [if_neg (fun h => q h.2)] at ih
      exact kL (by unfold isQ at q; simpa using q) ih
def a9p (l : List S31) (env : List Int) : Prop := wO l ∧ env.length = 8 ∧ a1p l (fun t => (rl l).getD t false) l.length ≤ 12 ∧ a9g (T l (l.length - 1)) env ∧ ∀ i < l.length, (rl l).getD i false = true → qn l i
theorem yR (l : List S31) (env : List Int) : (a9p l env → Ev (fun k => tR k l env) (sem (T l (l.length - 1)) env, true) ∧ Ev (fun k => rN k l env) (sem (T l (l.length - 1)) env, true)) ∧ (¬ a9p l env → Ev (fun k => tR k l env) (0, false) ∧ Ev (fun k => rN k l env) (0, false)) := by
  obtain ⟨b, e1, e2, hb⟩ := a4r l
  have jt : Ev (fun k => vA k l env true) (0, false) := by
    refine kJ ?_
    simp only [vA]
    exact kD trivial qO
  by_cases hbt : b = true
  · subst hbt
    have hT := hb.mp rfl
    obtain ⟨h0, hl, hN⟩ := hT
    have hP := rP hN
    by_cases he : env.length = 8
    ·
      have hNp := b4o hN h0
      have hTp := b4k ⟨h0, hl, hN⟩
      have hlp : (uU l).length ≤ 80 := hTp.2.1
      have h0p : 1 ≤ (uU l).length := hTp.1
      have hqs : a1p (uU l) (fun _ => true) (uU l).length = a1p l (fun t => (rl l).getD t false) l.length := by
        rw [a1k]; exact b4m hP h0 l.length (Nat.le_refl _)
      have spec : ∀ r, Ev (fun k => if a1p (uU l) (fun _ => true) (uU l).length > 12 then (some (0, false)) else ((vM k (uU l) env).bind fun t599 => (if t599 = true then ((some (([] : List Int) : List Int)).bind fun y600 => (if y600.length + env.length < 17592186044416 then ((tQ k (uU l) (y600 ++ env) (wrap64 (((uU l).length : Int) - 1))).bind fun bt606 => (some (bt606.1, true))) else (none))) else (some (0, false))))) r → Ev (fun k => tR k l env) r := by
        intro r H
        unfold tR
        refine kV e1 (kD rfl ?_)
        rw [show ((env.length : Int) != 8) = false by rw [he]; rfl]
        refine kJ ?_
        simp only [vA]
        exact kL (by decide) (kV (b5z l ⟨h0, hl, hN⟩ e1) (b1k hNp hlp env r H (uU l).length 0 oM))
      have impl : ∀ r, Ev (fun k => (xC k l env).bind fun s => (if s = true then (tL k l).bind fun q => (if q > 12 then some (0, false) else (impl_valueF l k env ((l.length : Int) - 1) (List.replicate l.length (-1))).bind fun p => some (p.1, true)) else some (0, false))) r → Ev (fun k => rN k l env) r := by
        intro r H
        unfold rN
        exact kV e2 (kD rfl (kD he (kD ⟨h0, oM⟩ H)))
      obtain ⟨fr, fe, fh⟩ := c3t hNp hlp h0p env he
      obtain ⟨sr, se, sh⟩ := b6n hN hl h0 env he
      have hfs : fr = true ↔ sr = true := by
        rw [fh, sh, a6f hP h0]
        constructor
        · rintro ⟨a, b⟩
          exact ⟨b, fun i hi hm => (b4n hP h0 i hi hm).mp (a _ (by rw [a1k]; exact a5k (rl l) i hm l.length hi))⟩
        · rintro ⟨a, b⟩
          refine ⟨fun t ht => ?_, a⟩
          obtain ⟨j, hj, hm, rfl⟩ := a4y t ht
          exact (b4n hP h0 j hj hm).mpr (b j hj hm)
      have hqb := a7y hN hl h0
      have hroot : wrap64 (((uU l).length : Int) - 1) = (((uU l).length - 1 : Nat) : Int) := by rw [kO oM oM]; omega
      by_cases hq : a1p l (fun t => (rl l).getD t false) l.length > 12
      · refine ⟨fun h => absurd hq (by have := h.2.2.1; omega), fun _ => ⟨spec _ (kD (by rw [hqs]; exact hq) qO), impl _ (kV se ?_)⟩⟩
        by_cases c : sr = true
        · exact kD c (kV hqb (kD hq qO))
        · exact kL c qO
      · by_cases c : sr = true
        · have hc := sh.mp c
          have hg := b5c hN (fun i => (rl l).getD i false = true) (fun i hi hm p hp => uZ l hP (l.length - 1) oM i hi hm p hp) hc.2 (l.length - 1) env oM he (zY _ l _ oM) hc.1
          obtain ⟨kn, ev_, _, _⟩ := b6i hN hl (l.length - 1) env (List.replicate l.length (-1)) oM he (by simp) hg (a5d l _ env rfl)
          have hat := c8e hNp hlp ((uU l).length - 1) env oM he
          rw [a6f hP h0] at hat
          refine ⟨fun _ => ⟨spec _ (kL (by rw [hqs]; exact hq) (kV fe (kD (hfs.mpr c) (pI rfl (kD (by simp; omega) ?_))))), impl _ (kV se (kD c (kV hqb (kL hq ?_))))⟩, fun h => absurd ⟨⟨h0, hl, hN⟩, he, oM, hc.1, hc.2⟩ h⟩
          · rw [hroot, List.nil_append]
            exact kV hat qO
          · rw [show (l.length : Int) - 1 = ((l.length - 1 : Nat) : Int) by omega]
            exact kV ev_ qO
        · refine ⟨fun h => absurd (sh.mpr ⟨h.2.2.2.1, h.2.2.2.2⟩) c, fun _ => ⟨spec _ (kL (by rw [hqs]; exact hq) (kV fe (kL (fun h => c (hfs.mp h)) qO))), impl _ (kV se (kL c qO))⟩⟩
    · refine ⟨fun h => absurd h.2.1 he, fun _ => ⟨?_, ?_⟩⟩
      · unfold tR
        refine kV e1 (kD rfl ?_)
        rw [show ((env.length : Int) != 8) = true from bne_iff_ne.mpr oM]
        exact jt
      · unfold rN
        exact kV e2 (kD rfl (kL he qO))
  · refine ⟨fun h => absurd (hb.mpr h.1) hbt, fun _ => ⟨?_, ?_⟩⟩
    · unfold tR
      exact kV e1 (kL hbt jt)
    · unfold rN
      exact kV e2 (kL hbt qO)
theorem c4e (l : List S31) (env : List Int) : ∃ r, Ev (fun k => tR k l env) r ∧ Ev (fun k => rN k l env) r := by
  by_cases h : a9p l env
  · exact ⟨_, (yR l env).1 h⟩
  · exact ⟨_, (yR l env).2 h⟩
end Go.Proofs.Ytkpipmojkhikaaa.Pure.InstancesW
namespace Go.Proofs.Ytkpipmojkhikaaa.Pure
open Go.RowKit Go.Proofs.Ytkpipmojkhikaaa.PAll Go.Proofs.YtkpipmojkhikaaaW.PrintWords Go.Proofs.YtkpipmojkhikaaaW.PrintLast Go.Proofs.YtkpipmojkhikaaaW.PrintMore Go.Proofs.Ytkpipmojkhikaaa.Base Go.Proofs.Ytkpipmojkhikaaa.Pure.InstancesW
theorem a1j (t : List S31) (q : S31) (i : Nat) (hi : i < t.length) : kA (t ++ [q]) (i : Int) = kA t (i : Int) := by
  rw [rdN _ i (by simp; omega), rdN t i hi, List.getElem_append_left hi]
theorem a3a (t : List S31) (q : S31) : kA (t ++ [q]) (t.length : Int) = q := by
  rw [rdN _ t.length (by simp)]; simp
theorem b1w (t : List S31) (q : S31) (i : Nat) (hi : i < t.length) : a2a (t ++ [q]) i = a2a t i := by
  unfold a2a
  rw [a1j t q i hi, List.take_append_of_le_length oM]
theorem b0q (t : List S31) (q : S31) (i : Nat) (hi : i < t.length) : pl (t ++ [q]) i = pl t i := by unfold pl; rw [a1j t q i hi]
theorem a9q (t : List S31) (q : S31) (hU : pV (t ++ [q])) (hP : pV t) (i : Nat) : i < t.length → T (t ++ [q]) i = T t i := by
  induction i using Nat.strongRecOn with
  | ind i ih =>
    intro hi
    rw [a6l hU i (by simp; omega), a6l hP i hi, b0q t q i hi, a1j t q i hi]
    congr 1
    refine List.map_congr_left (fun p hp => ?_)
    have := hP i hi p hp
    exact ih p.toNat oM oM
theorem b1m (ps : List Int) : ∀ (m : List Bool) (b : Bool), (∀ p ∈ ps, p.toNat < m.length) → vV (m ++ [b]) ps = vV m ps ++ [b] := by
  unfold vV
  induction ps with
  | nil => intro m b _; rfl
  | cons p ps ih =>
    intro m b h
    simp only [List.foldl_cons]
    rw [List.set_append_left _ _ (h p (by simp))]
    exact ih _ b (fun q hq => by rw [List.length_set]; exact h q (by simp [hq]))
theorem c2t (t : List S31) (q : S31) (hP : pV t) (j : Nat) : ∀ (m : List Bool) (b : Bool), j ≤ t.length → m.length = t.length → rgo (fun _ => true) (t ++ [q]) j (m ++ [b]) = rgo (fun _ => true) t j m ++ [b] := by
  induction j with
  | zero => intro m b _ _; rfl
  | succ j ih =>
    intro m b hj hm
    have e : wR (fun _ => true) (t ++ [q]) j (m ++ [b]) = wR (fun _ => true) t j m ++ [b] := by
      unfold wR
      have g : (m ++ [b]).getD j false = m.getD j false := by rw [List.getD_eq_getElem?_getD, List.getD_eq_getElem?_getD, List.getElem?_append_left oM]
      rw [b0q t q j oM, g]
      split
      · exact b1m _ m b (fun p hp => by have := hP j oM p hp; omega)
      · rfl
    show rgo _ _ j _ = rgo _ _ j _ ++ [b]
    rw [e]
    exact ih _ b oM (by rw [a2k]; exact hm)
theorem c2r (t : List S31) (q : S31) (hP : pV t) (h1 : 1 ≤ t.length) (hq : pl (t ++ [q]) t.length = [(t.length : Int) - 1]) : rl (t ++ [q]) = rl t ++ [true] := by
  have e0 : (List.replicate (t.length + 1) false).set t.length true = List.replicate t.length false ++ [true] := by
    rw [List.replicate_succ', List.set_append_right _ _ (by simp)]; simp
  have e1 : wR (fun _ => true) (t ++ [q]) t.length (List.replicate t.length false ++ [true]) = (List.replicate t.length false).set (t.length - 1) true ++ [true] := by
    unfold wR
    rw [hq, if_pos ⟨by simp [List.getD_eq_getElem?_getD], rfl⟩]
    show (List.replicate t.length false ++ [true]).set ((t.length : Int) - 1).toNat true = _
    rw [show ((t.length : Int) - 1).toNat = t.length - 1 by omega, List.set_append_left _ _ (by simp; omega)]
  unfold rl vI
  rw [List.length_append, List.length_cons, List.length_nil, show t.length + (0 + 1) - 1 = t.length by omega, show t.length + (0 + 1) = t.length + 1 from rfl, e0]
  show rgo _ _ t.length _ = _
  rw [e1, c2t t q hP t.length _ true (Nat.le_refl _) (by simp), show t.length - 1 + 1 = t.length by omega]
theorem a8h (t : List S31) (q : S31) (i : Nat) (hi : i < t.length) : isQ (t ++ [q]) i ↔ isQ t i := by unfold isQ; rw [a1j t q i hi]
theorem b1s (t : List S31) (q : S31) (m m' : Nat → Bool) (hm : ∀ i < t.length, m i = m' i) (i : Nat) : i ≤ t.length → a1p (t ++ [q]) m i = a1p t m' i := by
  induction i with
  | zero => intro _; rfl
  | succ i ih =>
    intro hi
    unfold a1p
    rw [ih oM, hm i oM, a1j t q i oM]
    have := a8h t q i oM
    by_cases c : m' i = true ∧ isQ t i
    · rw [if_pos c, if_pos ⟨c.1, this.mpr c.2⟩]
    · rw [if_neg c, if_neg (fun h => c ⟨h.1, this.mp h.2⟩)]
theorem b0o (t : List S31) (q : S31) (hU : pV (t ++ [q])) (hP : pV t) (i : Nat) (hi : i < t.length) : qn (t ++ [q]) i ↔ qn t i := by
  unfold qn
  rw [a8h t q i hi, a1j t q i hi]
  by_cases h : isQ t i
  · have := hP i hi (kA t (i : Int)).f3 (by rw [show pl t i = _ from vW h]; exact List.mem_singleton.mpr rfl)
    rw [a9q t q hU hP _ oM]
  · exact ⟨fun _ h' => absurd h' h, fun _ h' => absurd h' h⟩
theorem b6s (t : List S31) (hT : wO t) (hl : t.length < 80) (hW : (kA t ((t.length : Int) - 1)).f1 = 1) (op v B : Int) (ho : op = 19 ∨ op = 20) (v0 : 0 ≤ v) (v7 : v ≤ 7) (b1 : 1 ≤ B) (b8 : B ≤ 8) : wO (t ++ [⟨op, 1, v, (t.length : Int) - 1, B, 0⟩]) := by
  obtain ⟨h1, h2, h3⟩ := hT
  refine ⟨by simp, by simp; omega, fun i hi => ?_⟩
  simp only [List.length_append, List.length_cons, List.length_nil] at hi
  by_cases hlt : i < t.length
  · rw [b1w t _ i hlt]; exact h3 i hlt
  · obtain rfl : i = t.length := by omega
    unfold a2a
    rw [a3a, List.take_left' rfl]
    have hp : kP op ((t.length : Int) - 1) B 0 = [(t.length : Int) - 1] := by unfold kP; rw [if_pos oM]
    have hwv : wv t [(t.length : Int) - 1] 1 0 = 1 := by
      unfold wv
      rw [if_pos oM, show rd [(t.length : Int) - 1] ((0 : Nat) : Int) = (t.length : Int) - 1 from rfl]; exact hW
    unfold xM
    simp only [hp, List.length_cons, List.length_nil, Nat.zero_add, hwv, List.all_cons, List.all_nil, Bool.and_true]
    have e1 : inB 1 1 8 = true := by decide
    have e2 : inB op 0 20 = true := rJ.mpr oM
    have e3 : inB ((t.length : Int) - 1) 0 ((t.length : Int) - 1) = true := rJ.mpr oM
    have e4 : inB v 0 7 = true := rJ.mpr ⟨v0, v7⟩
    have e5 : inB B 1 8 = true := rJ.mpr ⟨b1, b8⟩
    rw [e1, e2, e3]
    rcases ho with rfl | rfl <;> simp [xY, pO, e4, e5]
def QV (t : List S31) (v B : Int) (env : List Int) : Prop :=
  env.length = 8 ∧ a1p t (fun i => (rl t).getD i false) t.length + B ≤ 12 ∧ (∀ u : Nat, u < 8 → (u : Int) ≠ v → ∀ w : Nat, (fs (T t (t.length - 1)) (u : Int)).testBit w = true → wok (w : Int) (rd env (u : Int)) = true) ∧ (∀ i < t.length, (rl t).getD i false = true → qn t i) ∧ (fs (T t (t.length - 1)) v = 0 ∨ fs (T t (t.length - 1)) v = 2 ^ B.toNat)
theorem a7x (t : List S31) (hT : wO t) (hl : t.length < 80) (hW : (kA t ((t.length : Int) - 1)).f1 = 1) (op v B : Int) (ho : op = 19 ∨ op = 20) (v0 : 0 ≤ v) (v7 : v ≤ 7) (b1 : 1 ≤ B) (b8 : B ≤ 8) (env : List Int) :
    (a9p (t ++ [⟨op, 1, v, (t.length : Int) - 1, B, 0⟩]) env ↔ QV t v B env) ∧ sem (T (t ++ [⟨op, 1, v, (t.length : Int) - 1, B, 0⟩]) ((t ++ [(⟨op, 1, v, (t.length : Int) - 1, B, 0⟩ : S31)]).length - 1)) env = qv op (2 ^ B.toNat) (fun x => sem (T t (t.length - 1)) (env.set v.toNat (x : Int))) := by
  have hU := b6s t hT hl hW op v B ho v0 v7 b1 b8
  generalize hq : (⟨op, 1, v, (t.length : Int) - 1, B, 0⟩ : S31) = q at hU ⊢
  have hPU := rP hU.2.2
  have hP := rP hT.2.2
  obtain ⟨h1, _, _⟩ := hT
  have hlen : (t ++ [q]).length = t.length + 1 := by simp
  have hpl : pl (t ++ [q]) t.length = [(t.length : Int) - 1] := by
    unfold pl
    rw [a3a, ← hq]
    exact vW ho
  have hroot : T (t ++ [q]) t.length = .un op 1 v B (T t (t.length - 1)) := by
    rw [a6l hPU t.length oM, hpl, a3a]
    show mkT _ _ _ _ [T (t ++ [q]) ((t.length : Int) - 1).toNat] = _
    rw [show ((t.length : Int) - 1).toNat = t.length - 1 by omega, a9q t q hPU hP _ oM, ← hq]
    rfl
  have hrl := c2r t q hP h1 hpl
  have hrt : (rl t).length = t.length := wG _ _ _
  have hg : ∀ i < t.length, (rl (t ++ [q])).getD i false = (rl t).getD i false := fun i hi => by
    rw [hrl, List.getD_eq_getElem?_getD, List.getD_eq_getElem?_getD, List.getElem?_append_left oM]
  have hgl : (rl (t ++ [q])).getD t.length false = true := by
    rw [hrl, List.getD_eq_getElem?_getD, List.getElem?_append_right oM, hrt, Nat.sub_self]; rfl
  have hisq : isQ (t ++ [q]) t.length := by unfold isQ; rw [a3a, ← hq]; exact ho
  have hqs : a1p (t ++ [q]) (fun i => (rl (t ++ [q])).getD i false) (t.length + 1) = a1p t (fun i => (rl t).getD i false) t.length + B := by
    show (if _ then _ else _) = _
    rw [if_pos ⟨hgl, hisq⟩, a3a, b1s t q _ (fun i => (rl t).getD i false) hg t.length (Nat.le_refl _), ← hq]
  have hqn : qn (t ++ [q]) t.length ↔ (fs (T t (t.length - 1)) v = 0 ∨ fs (T t (t.length - 1)) v = 2 ^ B.toNat) := by
    unfold qn
    rw [a3a, ← hq]
    simp only
    rw [hq, show ((t.length : Int) - 1).toNat = t.length - 1 by omega, a9q t q hPU hP _ oM]
    exact ⟨fun h => h hisq, fun h _ => h⟩
  refine ⟨?_, ?_⟩
  · unfold a9p QV a9g
    rw [hlen, Nat.add_sub_cancel, hqs, hroot]
    simp only [fs]
    constructor
    · rintro ⟨_, a, b, c, d⟩
      refine ⟨a, b, fun u hu hne w hw => c u hu w ?_, fun i hi hm => (b0o t q hPU hP i hi).mp (d i oM (by rw [hg i hi]; exact hm)), hqn.mp (d t.length oM hgl)⟩
      rw [if_neg (fun h => hne h.2.symm)]; exact hw
    · rintro ⟨a, b, c, d, e⟩
      refine ⟨hU, a, b, fun u hu w hw => ?_, fun i hi hm => ?_⟩
      · by_cases h : v = (u : Int)
        · rw [if_pos ⟨ho, h⟩] at hw; simp at hw
        · rw [if_neg (fun h' => h h'.2)] at hw
          exact c u hu (fun h' => h h'.symm) w hw
      · by_cases hlt : i < t.length
        · exact (b0o t q hPU hP i hlt).mpr (d i hlt (by rw [← hg i hlt]; exact hm))
        · obtain rfl : i = t.length := by omega
          exact hqn.mpr e
  · rw [hlen, Nat.add_sub_cancel, hroot]
    simp only [sem]
    rw [if_pos ho]
theorem b0n (t : List S31) (hT : wO t) (v B : Int) (v0 : 0 ≤ v) (v7 : v ≤ 7) (b1 : 1 ≤ B) (b8 : B ≤ 8) (env : List Int) (h : QV t v B env) (x : Nat) (hx : x < 2 ^ B.toNat) : a9p t (env.set v.toNat (x : Int)) := by
  obtain ⟨a, b, c, d, e⟩ := h
  refine ⟨hT, by rw [List.length_set]; exact a, oM, fun u hu w hw => ?_, d⟩
  rw [a2o env v.toNat u x oM]
  by_cases hv : v.toNat = u
  · rw [if_pos hv]
    have hvu : v = (u : Int) := by omega
    rw [hvu] at e
    have := (a7l _ _).mpr e w hw
    have hB : (w : Int) = B := by omega
    rw [hB]
    refine pH.mpr ⟨b1, b8, oM, ?_⟩
    rw [a1h oM]
    omega
  · rw [if_neg hv]
    exact c u hu oM w hw
def zG (v q : Int) (x : S31) : S31 := if x.f0 = 1 ∧ x.f2 = v then ⟨0, x.f1, q, 0, 0, 0⟩ else x
theorem b0l (v q : Int) (l : List S31) (i : Nat) (hi : i < l.length) : (l.take (i + 1)).map (zG v q) = (l.take i).map (zG v q) ++ [zG v q l[i]] := by
  rw [List.take_succ_eq_append_getElem hi, List.map_append]; rfl
theorem c2u (v q : Int) (l : List S31) (i : Nat) (hi : i < l.length) (y : S31) (hy : y = zG v q l[i]) : ((l.take i).map (zG v q) ++ l.drop i).set i y = (l.take (i + 1)).map (zG v q) ++ l.drop (i + 1) := by
  subst hy
  have hlen : ((l.take i).map (zG v q)).length = i := by rw [List.length_map, List.length_take]; omega
  rw [List.set_append_right _ _ oM, hlen, Nat.sub_self, List.drop_eq_getElem_cons hi, List.set_cons_zero, b0l v q l i hi, List.append_assoc]; rfl
theorem b6r (v q : Int) (l : List S31) (i : Nat) (hi : i < l.length) (hy : zG v q l[i] = l[i]) : (l.take i).map (zG v q) ++ l.drop i = (l.take (i + 1)).map (zG v q) ++ l.drop (i + 1) := by
  rw [b0l v q l i hi, hy, List.append_assoc, List.drop_eq_getElem_cons hi]; rfl
theorem b4a (v q : Int) (l : List S31) (hl : l.length ≤ 80) (d : Nat) : ∀ i : Nat, i + d = l.length →
    ∃ r : List S31 × Bool, Ev (fun k => pG k v q ((l.take i).map (zG v q) ++ l.drop i) l (l.length : Int) (i : Int)) r ∧ (r.2 = true → r.1 = l.map (zG v q) ∧ ∀ j < l.length, i ≤ j → ¬ (isQ l j ∧ (kA l (j : Int)).f2 = v)) := by
  induction d with
  | zero =>
    intro i hi
    obtain rfl : i = l.length := by omega
    refine ⟨(l.map (zG v q), true), kJ ?_, fun _ => ⟨rfl, fun j h1 h2 => by omega⟩⟩
    simp only [pG]
    refine kL oM ?_
    rw [List.take_of_length_le (Nat.le_refl _), List.drop_eq_nil_of_le (Nat.le_refl _), List.append_nil]; exact qO
  | succ d ih =>
    intro i hi
    have hlt : i < l.length := by omega
    have hlen : ((l.take i).map (zG v q)).length = i := by rw [List.length_map, List.length_take]; omega
    have hlen2 : ((l.take i).map (zG v q) ++ l.drop i).length = l.length := by rw [List.length_append, hlen, List.length_drop]; omega
    obtain ⟨r, e2, hr⟩ := ih (i + 1) oM
    have hr' : ¬ (isQ l i ∧ (kA l (i : Int)).f2 = v) → r.2 = true → r.1 = l.map (zG v q) ∧ ∀ j < l.length, i ≤ j → ¬ (isQ l j ∧ (kA l (j : Int)).f2 = v) := fun hn h => ⟨(hr h).1, fun j h1 h2 => by
      by_cases c : j = i
      · subst c; exact hn
      · exact (hr h).2 j h1 oM⟩
    have stop : ∀ (op W K A B C : Int), Ev (fun k => qF k v q ((l.take i).map (zG v q) ++ l.drop i) (i : Int) l (l.length : Int) (i : Int) true op W K A B C) ([], false) := fun _ _ _ _ _ _ => by
      refine kJ ?_
      simp only [qF]; exact kD trivial qO
    have goI : ∀ (op W K A B C : Int), l[i] = ⟨op, W, K, A, B, C⟩ → Ev (fun k => qF k v q ((l.take i).map (zG v q) ++ l.drop i) (i : Int) l (l.length : Int) (i : Int) false op W K A B C) r := by
      intro op W K A B C e
      refine kJ ?_
      simp only [qF]
      refine kL (by decide) ?_
      have e2' : Ev (fun k => pG k v q ((l.take (i + 1)).map (zG v q) ++ l.drop (i + 1)) l (l.length : Int) (wrap64 ((i : Int) + 1))) r := by
        rw [wS i]; exact e2
      have same : zG v q l[i] = l[i] → Ev (fun k => pG k v q ((l.take i).map (zG v q) ++ l.drop i) l (l.length : Int) (wrap64 ((i : Int) + 1))) r := by
        intro h
        rw [b6r v q l i hlt h]; exact e2'
      have st := fun y hy => c2u v q l i hlt y hy
      rw [e] at same st
      by_cases a : op = 1
      · refine kD a ?_
        by_cases b : K = v
        · refine kD b (kD oM (kD (by rw [hlen2]; omega) ?_))
          rw [Int.toNat_natCast, st ⟨0, W, q, 0, 0, 0⟩ (by unfold zG; rw [if_pos ⟨a, b⟩])]
          exact e2'
        · refine kL b (same ?_)
          unfold zG; rw [if_neg (fun h => b h.2)]
      · refine kL a (same ?_)
        unfold zG; rw [if_neg (fun h => a h.1)]
    have eq0 : isQ l i ↔ ((l[i].f0 == 19) || (l[i].f0 == 20)) = true := by unfold isQ; rw [rdN l i hlt]; simp
    have eq2 : (kA l (i : Int)).f2 = l[i].f2 := by rw [rdN l i hlt]
    have st0 : ∀ x, Ev (fun k => pG (k + 1) v q ((l.take i).map (zG v q) ++ l.drop i) l (l.length : Int) (i : Int)) x → Ev (fun k => pG k v q ((l.take i).map (zG v q) ++ l.drop i) l (l.length : Int) (i : Int)) x := fun x h => kJ h
    have F : ∀ x : List S31 × Bool, x = ([], false) → (x.2 = true → x.1 = l.map (zG v q) ∧ ∀ j < l.length, i ≤ j → ¬ (isQ l j ∧ (kA l (j : Int)).f2 = v)) := fun x hx h => by subst hx; cases h
    by_cases a : ((l[i].f0 == 19) || (l[i].f0 == 20)) = true
    · by_cases b : l[i].f2 = v
      · refine ⟨([], false), st0 _ ?_, F _ rfl⟩
        simp only [pG]
        rw [rdN l i hlt]
        exact kD oM (kD oM (kD oM (pI (c3k _ _ _ _ _ _) (kD a (kD b (stop _ _ _ _ _ _))))))
      · refine ⟨r, st0 _ ?_, hr' (fun h => b (eq2 ▸ h.2))⟩
        simp only [pG]
        rw [rdN l i hlt]
        refine kD oM (kD oM (kD oM (pI (c3k _ _ _ _ _ _) (kD a (kL b ?_)))))
        by_cases o : l[i].f0 = 1
        · exact kD o (goI _ _ _ _ _ _ rfl)
        · exact kL o (goI _ _ _ _ _ _ rfl)
    · have hn : ¬ (isQ l i ∧ (kA l (i : Int)).f2 = v) := fun h => a (eq0.mp h.1)
      by_cases o : l[i].f0 = 1
      · by_cases b : l[i].f2 = v
        · cases c : wok l[i].f1 q
          · refine ⟨([], false), st0 _ ?_, F _ rfl⟩
            simp only [pG]
            rw [rdN l i hlt]
            refine kD oM (kD oM (kD oM (pI (c3k _ _ _ _ _ _) (kL a (kD o (kD b (pI (b9v _ _) ?_)))))))
            rw [c]; exact stop _ _ _ _ _ _
          · refine ⟨r, st0 _ ?_, hr' hn⟩
            simp only [pG]
            rw [rdN l i hlt]
            refine kD oM (kD oM (kD oM (pI (c3k _ _ _ _ _ _) (kL a (kD o (kD b (pI (b9v _ _) ?_)))))))
            rw [c]; exact goI _ _ _ _ _ _ rfl
        · refine ⟨r, st0 _ ?_, hr' hn⟩
          simp only [pG]
          rw [rdN l i hlt]
          exact kD oM (kD oM (kD oM (pI (c3k _ _ _ _ _ _) (kL a (kD o (kL b (goI _ _ _ _ _ _ rfl)))))))
      · refine ⟨r, st0 _ ?_, hr' hn⟩
        simp only [pG]
        rw [rdN l i hlt]
        exact kD oM (kD oM (kD oM (pI (c3k _ _ _ _ _ _) (kL a (kL o (goI _ _ _ _ _ _ rfl))))))
theorem b5x (l : List S31) (hT : wO l) (v q : Int) : ∃ r : List S31 × Bool, Ev (fun k => wZ k l v q) r ∧ (r.2 = true → r.1 = l.map (zG v q) ∧ ∀ j < l.length, ¬ (isQ l j ∧ (kA l (j : Int)).f2 = v)) := by
  obtain ⟨b, _, e2, h⟩ := a4r l
  obtain rfl : b = true := h.mpr hT
  obtain ⟨r, f2, hr⟩ := b4a v q l hT.2.1 l.length 0 oM
  refine ⟨r, ?_, fun h => ⟨(hr h).1, fun j hj => (hr h).2 j hj oM⟩⟩
  unfold wZ
  exact kV e2 (kD rfl (kD (by simp; have := hT.2.1; omega) f2))
theorem c2x (l : List S31) (hN : qH l) (v q : Int) (v0 : 0 ≤ v) (v7 : v ≤ 7) (hU : pV (l.map (zG v q))) (hn : ∀ j < l.length, ¬ (isQ l j ∧ (kA l (j : Int)).f2 = v)) (i : Nat) : ∀ env : List Int, i < l.length → env.length = 8 → sem (T (l.map (zG v q)) i) env = sem (T l i) (env.set v.toNat q) := by
  have hP := rP hN
  have hg : ∀ j < l.length, kA (l.map (zG v q)) (j : Int) = zG v q (kA l (j : Int)) := fun j hj => by
    rw [rdN _ j (by simpa using hj), rdN l j hj, List.getElem_map]
  have hw : ∀ p : Int, 0 ≤ p → p < (l.length : Int) → (kA (l.map (zG v q)) p).f1 = (kA l p).f1 := fun p h0 h1 => by
    have := hg p.toNat oM
    rw [Int.toNat_of_nonneg h0] at this
    rw [this]; unfold zG; split <;> rfl
  induction i using Nat.strongRecOn with
  | ind i ih =>
    intro env hi he
    have hf := tV hN i hi
    have hr := hg i hi
    rw [a6l hU i (by simpa using hi), a6l hP i hi]
    by_cases c : (kA l (i : Int)).f0 = 1 ∧ (kA l (i : Int)).f2 = v
    · have e1 : pl l i = [] := by unfold pl; rw [c.1]; rfl
      have e2 : pl (l.map (zG v q)) i = [] := by unfold pl; rw [hr]; unfold zG; rw [if_pos c]; rfl
      rw [e1, e2, hr]
      unfold zG
      rw [if_pos c]
      show sem (.leaf 0 (kA l (i : Int)).f1 q) env = sem (.leaf (kA l (i : Int)).f0 (kA l (i : Int)).f1 (kA l (i : Int)).f2) _
      simp only [sem]
      rw [c.1, c.2, if_pos rfl, if_neg oM]
      unfold vF
      rw [if_pos ⟨hf.1, oM, oM, oM, oM⟩]
      have := a2o env v.toNat v.toNat q oM
      rw [if_pos rfl, Int.toNat_of_nonneg v0] at this
      rw [this]; rfl
    · have hsame : kA (l.map (zG v q)) (i : Int) = kA l (i : Int) := by rw [hr]; unfold zG; rw [if_neg c]
      have hpl : pl (l.map (zG v q)) i = pl l i := by unfold pl; rw [hsame]
      rw [hsame, hpl]
      have hin := hP i hi
      by_cases o1 : (kA l (i : Int)).f0 = 1
      · have e1 : pl l i = [] := by unfold pl; rw [o1]; rfl
        rw [e1]
        show sem (.leaf _ _ _) env = sem (.leaf _ _ _) _
        simp only [sem]
        rw [if_pos o1, if_pos o1]
        have h7 := a3p hN i hi o1
        have := a2o env v.toNat (kA l (i : Int)).f2.toNat q oM
        rw [if_neg (fun h => c ⟨o1, oM⟩), Int.toNat_of_nonneg oM] at this
        exact this.symm
      · by_cases oq : (kA l (i : Int)).f0 = 19 ∨ (kA l (i : Int)).f0 = 20
        · have hq := uG hN i hi oq
          rw [show pl l i = [(kA l (i : Int)).f3] from vW oq]
          show sem (.un _ _ _ _ _) env = sem (.un _ _ _ _ _) _
          simp only [sem]
          rw [if_pos oq, if_pos oq]
          congr 1
          funext x
          have hne : v.toNat ≠ (kA l (i : Int)).f2.toNat := fun h => hn i hi ⟨oq, oM⟩
          rw [ih _ oM _ oM (by rw [List.length_set]; exact he), List.set_comm _ _ hne]
        · have hlen : (pl l i).length ≤ 3 := qV _ _ _ _
          rw [a4u (l.map (zG v q)) _ _ _ _ (pl l i) hlen o1 oq env (fun p hp => (hin p hp).1), a4u l _ _ _ _ (pl l i) hlen o1 oq _ (fun p hp => (hin p hp).1)]
          have hp : ∀ t : Nat, t < (pl l i).length → sem (T (l.map (zG v q)) (rd (pl l i) (t : Int)).toNat) env = sem (T l (rd (pl l i) (t : Int)).toNat) (env.set v.toNat q) ∧ (kA (l.map (zG v q)) (rd (pl l i) (t : Int))).f1 = (kA l (rd (pl l i) (t : Int))).f1 := fun t ht => by
            have := hin (rd (pl l i) (t : Int)) (by rw [rdI (pl l i) t ht]; exact List.getElem_mem _)
            exact ⟨ih _ oM env oM he, hw _ this.1 oM⟩
          have c0 := hp 0
          have c1 := hp 1
          have c2 := hp 2
          rw [show ((0 : Nat) : Int) = 0 from rfl] at c0
          rw [show ((1 : Nat) : Int) = 1 from rfl] at c1
          rw [show ((2 : Nat) : Int) = 2 from rfl] at c2
          congr 1
          · by_cases h : (pl l i).length = 0
            · rw [if_pos h, if_pos h]
            · rw [if_neg h, if_neg h, (c0 oM).2]
          · by_cases h : 0 < (pl l i).length
            · rw [if_pos h, if_pos h, (c0 h).1]
            · rw [if_neg h, if_neg h]
          · by_cases h : 1 < (pl l i).length
            · rw [if_pos h, if_pos h, (c1 h).1]
            · rw [if_neg h, if_neg h]
          · by_cases h : 2 < (pl l i).length
            · rw [if_pos h, if_pos h, (c2 h).1]
            · rw [if_neg h, if_neg h]
theorem b1a {a b : Int} (ha : a = 0 ∨ a = 1) (hb : b = 0 ∨ b = 1) : Go.bits .and .i64 a b = (if a = 1 ∧ b = 1 then 1 else 0) ∧ Go.bits .or .i64 a b = (if a = 1 ∨ b = 1 then 1 else 0) := by
  rcases ha with rfl | rfl <;> rcases hb with rfl | rfl <;> exact ⟨by decide, by decide⟩
theorem FnInstances : laws_FnInstances.Pure := by
  intro l hm hl hw
  have hl : (l.length : Int) ≤ 140737488351232 := by omega
  refine b6c ?_
  unfold vS a1m
  refine pI rfl ?_
  by_cases hb : (l.length : Int) > 1048576
  · exact kD (by simpa using hb) qO
  refine kL (by simpa using hb) ?_
  obtain ⟨⟨t, env⟩, ed, ⟨t1, t2⟩, e78, _⟩ := b1g l hl
  refine kV ed ?_
  simp only at t1 t2 e78 ⊢
  obtain ⟨y3, a3, p3, q3⟩ := b5r l hl hw 3 oM oM
  obtain ⟨y4, a4, p4, q4⟩ := b5r l hl hw 4 oM oM
  obtain ⟨b, e1, _, hbt⟩ := a4r t
  refine pI a3 (pI a4 (kV e1 ?_))
  have hv := Int.emod_nonneg y3 (show (4 : Int) ≠ 0 by omega)
  have hv2 := Int.emod_lt_of_pos y3 (show (0 : Int) < 4 by omega)
  have hB := Int.emod_nonneg y4 (show (3 : Int) ≠ 0 by omega)
  have hB2 := Int.emod_lt_of_pos y4 (show (0 : Int) < 3 by omega)
  rw [Int.tmod_eq_emod_of_nonneg p3, Int.tmod_eq_emod_of_nonneg p4, kO (x := 1 + y4 % 3) oM oM, kO (x := (t.length : Int) - 1) oM oM]
  have hBB : 1 ≤ 1 + y4 % 3 ∧ 1 + y4 % 3 ≤ 3 := by omega
  generalize 1 + y4 % 3 = B at *
  have hvv : 0 ≤ y3 % 4 ∧ y3 % 4 ≤ 3 := by omega
  generalize y3 % 4 = v at *
  have jt : Ev (fun k => qN k t env v B true) true := by
    refine kJ ?_
    simp only [qN]
    exact kD trivial qO
  by_cases hT : b = true
  rotate_left
  · exact kL hT jt
  have hT' := hbt.mp hT
  refine kD hT (kD oM (kD oM ?_))
  by_cases hW : (kA t ((t.length : Int) - 1)).f1 = 1
  rotate_left
  · exact kL hW jt
  refine kD hW ?_
  by_cases h80 : (t.length : Int) ≥ 80
  · rw [decide_eq_true h80]; exact jt
  rw [decide_eq_false h80]
  have hP2 : P2 B = ((2 ^ B.toNat : Nat) : Int) := a1h oM
  have hPB := qR (w := B) oM oM
  have hP8 : 2 ^ B.toNat ≤ 2 ^ 3 := Nat.pow_le_pow_right oM oM
  refine kJ ?_
  simp only [qN]
  rw [kO (x := (t.length : Int) - 1) oM oM]
  obtain ⟨k19, s19⟩ := a7x t hT' oM hW 19 v B (.inl rfl) hvv.1 oM hBB.1 oM env
  obtain ⟨k20, s20⟩ := a7x t hT' oM hW 20 v B (.inr rfl) hvv.1 oM hBB.1 oM env
  refine kL (by decide) (pI rfl (kD (by simp; omega) (pI rfl (pI rfl (kD (by simp; omega) (pI rfl (pI rfl (kD (by simp; omega) (pI rfl (pI rfl (kD (by simp; omega) ?_)))))))))))
  rw [List.nil_append]
  obtain ⟨y19, n19⟩ := yR (t ++ [⟨19, 1, v, (t.length : Int) - 1, B, 0⟩]) env
  obtain ⟨y20, n20⟩ := yR (t ++ [⟨20, 1, v, (t.length : Int) - 1, B, 0⟩]) env
  by_cases hQ : QV t v B env
  rotate_left
  · obtain ⟨z1, z2⟩ := n19 (fun h => hQ (k19.mp h))
    obtain ⟨z3, z4⟩ := n20 (fun h => hQ (k20.mp h))
    refine kV z2 (kV z4 (kV z1 (kL (by decide) (kJ ?_))))
    simp only [sN]
    exact kL (by decide) (kL (by decide) qO)
  obtain ⟨z1, z2⟩ := y19 (k19.mpr hQ)
  obtain ⟨z3, z4⟩ := y20 (k20.mpr hQ)
  rw [s19] at z1 z2
  rw [s20] at z3 z4
  refine kV z2 (kV z4 (kV z1 (kL (by simp) (kJ ?_))))
  simp only [sN]
  refine kL (by simp) (kD trivial ?_)
  have he8 := hQ.1
  have hN := hT'.2.2
  have hP := rP hN
  have hbit : ∀ x : Nat, x < 2 ^ B.toNat → (sem (T t (t.length - 1)) (env.set v.toNat (x : Int)) = 0 ∨ sem (T t (t.length - 1)) (env.set v.toNat (x : Int)) = 1) := fun x hx => by
    have hV := b0n t hT' v B hvv.1 oM hBB.1 oM env hQ x hx
    have hg := b5c hN (fun i => (rl t).getD i false = true) (fun i hi hm p hp => uZ t hP (t.length - 1) oM i hi hm p hp) hV.2.2.2.2 (t.length - 1) _ oM hV.2.1 (zY _ t _ oM) hV.2.2.2.1
    have h := b3w hN (t.length - 1) _ oM hg
    rw [show ((t.length - 1 : Nat) : Int) = (t.length : Int) - 1 by omega, hW] at h
    exact b5q h
  have key : ∀ (d x : Nat), x + d = 2 ^ B.toNat →
      Ev (fun k => pX k t env v B (qv 19 (2 ^ B.toNat) (fun x => sem (T t (t.length - 1)) (env.set v.toNat (x : Int)))) (qv 20 (2 ^ B.toNat) (fun x => sem (T t (t.length - 1)) (env.set v.toNat (x : Int)))) (if (List.range x).all (fun x => sem (T t (t.length - 1)) (env.set v.toNat (x : Int)) == 1) = true then 1 else 0) (if (List.range x).any (fun x => sem (T t (t.length - 1)) (env.set v.toNat (x : Int)) == 1) = true then 1 else 0) (x : Int)) true := by
    intro d
    induction d with
    | zero =>
      intro x hx
      obtain rfl : x = 2 ^ B.toNat := by omega
      refine kJ ?_
      simp only [pX]
      refine kV (a := P2 B) (zD 20 fun k hk => c8y oM oM hk) (kL (by rw [hP2]; omega) ?_)
      unfold qv
      rw [if_pos rfl, if_neg (show ¬ (20 : Int) = 19 by omega)]
      exact kD rfl (a9m (beq_self_eq_true _))
    | succ d ih =>
      intro x hx
      have hV := b0n t hT' v B hvv.1 oM hBB.1 oM env hQ x oM
      obtain ⟨⟨_, w2⟩⟩ : Nonempty (_ ∧ _) := ⟨(yR t (env.set v.toNat (x : Int))).1 hV⟩
      obtain ⟨⟨u, pt⟩, er, hr⟩ := b5x t hT' v (x : Int)
      have ih := ih (x + 1) oM
      have hx1 := hbit x oM
      obtain ⟨b1, b2⟩ := b1a (a := if (List.range x).all (fun x => sem (T t (t.length - 1)) (env.set v.toNat (x : Int)) == 1) = true then 1 else 0) a3c hx1
      obtain ⟨_, b4⟩ := b1a (a := if (List.range x).any (fun x => sem (T t (t.length - 1)) (env.set v.toNat (x : Int)) == 1) = true then 1 else 0) a3c hx1
      have go : Ev (fun k => pX k t env v B (qv 19 (2 ^ B.toNat) (fun x => sem (T t (t.length - 1)) (env.set v.toNat (x : Int)))) (qv 20 (2 ^ B.toNat) (fun x => sem (T t (t.length - 1)) (env.set v.toNat (x : Int)))) (Go.bits .and .i64 (if (List.range x).all (fun x => sem (T t (t.length - 1)) (env.set v.toNat (x : Int)) == 1) = true then 1 else 0) (sem (T t (t.length - 1)) (env.set v.toNat (x : Int)))) (Go.bits .or .i64 (if (List.range x).any (fun x => sem (T t (t.length - 1)) (env.set v.toNat (x : Int)) == 1) = true then 1 else 0) (sem (T t (t.length - 1)) (env.set v.toNat (x : Int)))) (wrap64 ((x : Int) + 1))) true := by
        rw [wS x, b1, b4]
        rw [b1d, b1b] at ih
        have c1 : (if (if (List.range x).all (fun x => sem (T t (t.length - 1)) (env.set v.toNat (x : Int)) == 1) = true then (1 : Int) else 0) = 1 ∧ sem (T t (t.length - 1)) (env.set v.toNat (x : Int)) = 1 then (1 : Int) else 0) = (if ((List.range x).all (fun x => sem (T t (t.length - 1)) (env.set v.toNat (x : Int)) == 1) && (sem (T t (t.length - 1)) (env.set v.toNat (x : Int)) == 1)) = true then 1 else 0) := by
          cases (List.range x).all (fun x => sem (T t (t.length - 1)) (env.set v.toNat (x : Int)) == 1) <;> rcases hx1 with h | h <;> rw [h] <;> rfl
        have c2 : (if (if (List.range x).any (fun x => sem (T t (t.length - 1)) (env.set v.toNat (x : Int)) == 1) = true then (1 : Int) else 0) = 1 ∨ sem (T t (t.length - 1)) (env.set v.toNat (x : Int)) = 1 then (1 : Int) else 0) = (if ((List.range x).any (fun x => sem (T t (t.length - 1)) (env.set v.toNat (x : Int)) == 1) || (sem (T t (t.length - 1)) (env.set v.toNat (x : Int)) == 1)) = true then 1 else 0) := by
          cases (List.range x).any (fun x => sem (T t (t.length - 1)) (env.set v.toNat (x : Int)) == 1) <;> rcases hx1 with h | h <;> rw [h] <;> rfl
        rw [c1, c2]; exact ih
      have j3 : ∀ z : Bool, z = false → Ev (fun k => rI k t env v B (qv 19 (2 ^ B.toNat) (fun x => sem (T t (t.length - 1)) (env.set v.toNat (x : Int)))) (qv 20 (2 ^ B.toNat) (fun x => sem (T t (t.length - 1)) (env.set v.toNat (x : Int)))) (if (List.range x).all (fun x => sem (T t (t.length - 1)) (env.set v.toNat (x : Int)) == 1) = true then 1 else 0) (if (List.range x).any (fun x => sem (T t (t.length - 1)) (env.set v.toNat (x : Int)) == 1) = true then 1 else 0) (x : Int) (sem (T t (t.length - 1)) (env.set v.toNat (x : Int))) true z) true := by
        rintro z rfl
        refine kJ ?_
        simp only [rI]
        exact kL (by decide) (kD trivial go)
      refine kJ ?_
      simp only [pX]
      refine kV (a := P2 B) (zD 20 fun k hk => c8y oM oM hk) (kD (by rw [hP2]; omega) (pI rfl (kD (by simp; omega) (pI rfl (kD hvv.1 (kD (by simp; omega) (kV er ?_)))))))
      rw [List.nil_append]
      refine kV w2 ?_
      by_cases hp : pt = true
      rotate_left
      · exact kL hp (kD rfl go)
      obtain ⟨hu, hn⟩ := hr hp
      simp only at hu hn
      subst hu
      refine kD hp ?_
      obtain ⟨yu, nu⟩ := yR (t.map (zG v (x : Int))) env
      by_cases hVU : a9p (t.map (zG v (x : Int))) env
      · refine kV (yu hVU).2 (kD rfl (kD rfl (j3 _ ?_)))
        rw [List.length_map, c2x t hN v x hvv.1 oM (rP hVU.1.2.2) (fun j hj => hn j hj) (t.length - 1) env oM he8]
        simp
      · exact kV (nu hVU).2 (kL (by decide) (j3 _ rfl))
  exact key (2 ^ B.toNat) 0 oM
end Go.Proofs.Ytkpipmojkhikaaa.Pure
