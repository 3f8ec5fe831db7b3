/- Written by a program of this session over the loaded program, and by hand: Go functions as plain Lean functions, and that a call comes to what they say. -/
import Derived.Test.YtkpipmojkhikaaaVDenied0
import Derived.Test.YtkpipmojkhikaaaVDenied9
import Derived.Test.YtkpipmojkhikaaaVDenied12
import Derived.Test.YtkpipmojkhikaaaVDenied13
import Derived.Test.YtkpipmojkhikaaaBase
import Derived.Test.YtkpipmojkhikaaaSq
namespace Go.Proofs.Ytkpipmojkhikaaa.PAll
open Go.RowKit Go.Proofs.YtkpipmojkhikaaaW.PrintWords Go.Proofs.YtkpipmojkhikaaaW.PrintLast Go.Proofs.YtkpipmojkhikaaaW.PrintMore Go.Proofs.YtkpipmojkhikaaaW.Sq
attribute [local go_sem] qZ qX sT sS qC qB qY qW
set_option linter.unusedVariables false
set_option maxHeartbeats 8000000
set_option maxRecDepth 100000
set_option linter.unusedSimpArgs false
def a0c (a0 : Int) (a1 : Int) (a2 : Int) : Option (Int) := (tP a0 a1 a2).bind fun a3 => (if a3 = true then (if a2 = 0 then (some a1) else (some (Int.tmod a1 a2))) else (some 0))
theorem b3j {P : Prop} (h : P := by
 obtain rfl := oI H
 go_enter Try.func136, Try.ntmps136
 go_wp2_with (first | ((with_reducible refine gW ?_); first | (refine gD (some 11) Try.func139 rfl (impl_two.calls A4.out) fun nd => ?_)))
 go_ret
 exact ⟨rfl, dR⟩) : P := h
theorem impl_Rem.calls {a0 a1 a2 r : Int} {w : World} (h : a0c a0 a1 a2 = some r) :
  Calls Try.prog 136 #[.int .i64 a0, .int .i64 a1, .int .i64 a2] w fun e w' => e = .returned (.int .i64 r) ∧ Drawn0 w w' := by
 have H := h
 clear h
 unfold a0c at H
 replace H := oA H; obtain ⟨a5, A4, H⟩ := H
 replace H := iB H; rcases H with ⟨rfl, H⟩ | ⟨rfl, H⟩
 ·by_cases c6 : a2 = 0
  ·rw [if_pos c6] at H
   have a4 : (a2 == 0) = true := beq_iff_eq.mpr c6
   have a3 : (a2 != 0) = false := bne_eq_false_iff_eq.mpr c6
   clear c6
   exact b3j
  rw [if_neg c6] at H
  have a4 : (a2 == 0) = false := beq_eq_false_iff_ne.mpr c6
  have a3 : (a2 != 0) = true := bne_iff_ne.mpr c6
  exact b3j
 exact b3j
def a0b (a0 : Int) (a1 : Int) (a2 : Int) : Option (Int) := (tP a0 a1 a2).bind fun a4 => (if a4 = true then (if a2 ≥ a0 then (some 0) else (if 0 ≤ (IntKind.u64.wrap (a2)) then ((wH a0 (shl .i64 a1 (IntKind.u64.wrap (a2)))).bind fun a3 => (some a3)) else (none))) else (some 0))
theorem b9k {P : Prop} (h : P := by
 obtain rfl := oI H
 go_enter Try.func137, Try.ntmps137
 go_wp2_with (first | ((with_reducible refine gW ?_); first | (refine gD (some 10) Try.func139 rfl (impl_two.calls A4.out) fun nd => ?_)))
 go_ret
 exact ⟨rfl, dR⟩) : P := h
theorem impl_Shl.calls {a0 a1 a2 r : Int} {w : World} (h : a0b a0 a1 a2 = some r) :
  Calls Try.prog 137 #[.int .i64 a0, .int .i64 a1, .int .i64 a2] w fun e w' => e = .returned (.int .i64 r) ∧ Drawn0 w w' := by
 have H := h
 clear h
 unfold a0b at H
 replace H := oA H; obtain ⟨aE, A4, H⟩ := H
 replace H := iB H; rcases H with ⟨rfl, H⟩ | ⟨rfl, H⟩
 rotate_left
 ·exact b9k
 by_cases c6 : a2 ≥ a0
 ·rw [if_pos c6] at H
  have a9 : decide (a0 ≤ a2) = true := decide_eq_true c6
  clear c6
  exact b9k
 rw [if_neg c6] at H
 have a9 : decide (a0 ≤ a2) = false := decide_eq_false c6
 clear c6
 generalize a8 : IntKind.u64.wrap (a2) = a3 at H
 (try rw [a8] at A4)
 replace H := iTD H; obtain ⟨aG, aF, H⟩ := H
 generalize a4 : shl .i64 a1 (a3) = a5 at H
 (try rw [a4] at A4)
 have a7 : (IntKind.i64.wrap (a1 * 2 ^ min (a3).toNat 64)) = a5 := a4
 have a6 : (a3) ≤ 64 → (IntKind.i64.wrap (a1 * 2 ^ (a3).toNat)) = a5 := xZ a4
 have aB : (wrap64 (a1 * 2 ^ min (a3).toNat 64)) = a5 := (vY _).symm.trans a7
 have aC : (a3) ≤ 64 → (wrap64 (a1 * 2 ^ (a3).toNat)) = a5 := fun h_ => (vY _).symm.trans (a6 h_)
 replace H := oA H; obtain ⟨aD, aA, H⟩ := H
 obtain rfl := oI H
 go_enter Try.func137, Try.ntmps137
 go_wp2_with (first | ((with_reducible refine gW ?_); first | (refine gD (some 10) Try.func139 rfl (impl_two.calls A4.out) fun nd => ?_) | (refine gD (some 22) Try.func141 rfl (impl_cut.calls aA.out) fun nd => ?_)))
 go_ret
 exact ⟨rfl, dR⟩
def a0a (a0 : Int) (a1 : Int) (a2 : Int) : Option (Int) := (tP a0 a1 a2).bind fun a3 => (if a3 = true then (if a2 ≥ a0 then (some 0) else (if 0 ≤ (IntKind.u64.wrap (a2)) then (some (shr .i64 a1 (IntKind.u64.wrap (a2)))) else (none))) else (some 0))
theorem b3d {P : Prop} (h : P := by
 obtain rfl := oI H
 go_enter Try.func138, Try.ntmps138
 go_wp2_with (first | ((with_reducible refine gW ?_); first | (refine gD (some 10) Try.func139 rfl (impl_two.calls A4.out) fun nd => ?_)))
 go_ret
 exact ⟨rfl, dR⟩) : P := h
theorem impl_Shr.calls {a0 a1 a2 r : Int} {w : World} (h : a0a a0 a1 a2 = some r) :
  Calls Try.prog 138 #[.int .i64 a0, .int .i64 a1, .int .i64 a2] w fun e w' => e = .returned (.int .i64 r) ∧ Drawn0 w w' := by
 have H := h
 clear h
 unfold a0a at H
 replace H := oA H; obtain ⟨aA, A4, H⟩ := H
 replace H := iB H; rcases H with ⟨rfl, H⟩ | ⟨rfl, H⟩
 rotate_left
 ·exact b3d
 by_cases c6 : a2 ≥ a0
 ·rw [if_pos c6] at H
  have a7 : decide (a0 ≤ a2) = true := decide_eq_true c6
  clear c6
  exact b3d
 rw [if_neg c6] at H
 have a7 : decide (a0 ≤ a2) = false := decide_eq_false c6
 clear c6
 generalize a6 : IntKind.u64.wrap (a2) = a4 at H
 (try rw [a6] at A4)
 replace H := iTD H; obtain ⟨aC, aB, H⟩ := H
 generalize a3 : shr .i64 a1 (a4) = a5 at H
 (try rw [a3] at A4)
 have a9 : (a1 / 2 ^ min (a4).toNat 64) = a5 := a3
 have a8 : (a4) ≤ 64 → (a1 / 2 ^ (a4).toNat) = a5 := a8e a3
 exact b3d
def xN (a0 : Int) (a1 : Int) (a2 : Int) (a3 : Int) : Option (Int) := if a0 = 3 then (some (Go.bits .and .i64 a2 a3)) else (if a0 = 4 then (some (Go.bits .or .i64 a2 a3)) else (if a0 = 5 then (some (Go.bits .xor .i64 a2 a3)) else (if a0 = 6 then ((a0f a1 a2 a3).bind fun aA => (some aA)) else (if a0 = 7 then ((zZ a1 a2 a3).bind fun a9 => (some a9)) else (if a0 = 8 then ((a0d a1 a2 a3).bind fun a8 => (some a8)) else (if a0 = 9 then ((a0e a1 a2 a3).bind fun a7 => (some a7)) else (if a0 = 10 then ((a0c a1 a2 a3).bind fun a6 => (some a6)) else (if a0 = 11 then ((a0b a1 a2 a3).bind fun a5 => (some a5)) else ((a0a a1 a2 a3).bind fun a4 => (some a4))))))))))
theorem impl_binary.calls {a0 a1 a2 a3 r : Int} {w : World} (h : xN a0 a1 a2 a3 = some r) :
  Calls Try.prog 116 #[.int .i64 a0, .int .i64 a1, .int .i64 a2, .int .i64 a3] w fun e w' => e = .returned (.int .i64 r) ∧ Drawn0 w w' := by
 have H := h
 clear h
 unfold xN at H
 replace H := iE H; rcases H with ⟨aL, aK, H⟩ | ⟨aL, aK, H⟩
 ·obtain rfl := oI H
  go_enter Try.func116, Try.ntmps116
  go_wp2
  go_ret
  exact ⟨rfl, dR⟩
 replace H := iE H; rcases H with ⟨aJ, aI, H⟩ | ⟨aJ, aI, H⟩
 ·obtain rfl := oI H
  go_enter Try.func116, Try.ntmps116
  go_wp2
  go_ret
  exact ⟨rfl, dR⟩
 replace H := iE H; rcases H with ⟨aH, aG, H⟩ | ⟨aH, aG, H⟩
 ·obtain rfl := oI H
  go_enter Try.func116, Try.ntmps116
  go_wp2
  go_ret
  exact ⟨rfl, dR⟩
 replace H := iE H; rcases H with ⟨aF, aE, H⟩ | ⟨aF, aE, H⟩
 ·replace H := oA H; obtain ⟨aZ, A9, H⟩ := H
  obtain rfl := oI H
  go_enter Try.func116, Try.ntmps116
  go_wp2_with (first | ((with_reducible refine gW ?_); first | (refine gD (some 30) Try.func132 rfl (impl_Add.calls A9.out) fun nd => ?_)))
  go_ret
  exact ⟨rfl, dR⟩
 replace H := iE H; rcases H with ⟨aD, aC, H⟩ | ⟨aD, aC, H⟩
 ·replace H := oA H; obtain ⟨aY, aS, H⟩ := H
  obtain rfl := oI H
  go_enter Try.func116, Try.ntmps116
  go_wp2_with (first | ((with_reducible refine gW ?_); first | (refine gD (some 36) Try.func133 rfl (impl_Sub.calls aS.out) fun nd => ?_)))
  go_ret
  exact ⟨rfl, dR⟩
 replace H := iE H; rcases H with ⟨aB, aA, H⟩ | ⟨aB, aA, H⟩
 ·replace H := oA H; obtain ⟨aX, aR, H⟩ := H
  obtain rfl := oI H
  go_enter Try.func116, Try.ntmps116
  go_wp2_with (first | ((with_reducible refine gW ?_); first | (refine gD (some 42) Try.func134 rfl (impl_Mul.calls aR.out) fun nd => ?_)))
  go_ret
  exact ⟨rfl, dR⟩
 replace H := iE H; rcases H with ⟨a9, a8, H⟩ | ⟨a9, a8, H⟩
 ·replace H := oA H; obtain ⟨aW, aQ, H⟩ := H
  obtain rfl := oI H
  go_enter Try.func116, Try.ntmps116
  go_wp2_with (first | ((with_reducible refine gW ?_); first | (refine gD (some 48) Try.func135 rfl (impl_Div.calls aQ.out) fun nd => ?_)))
  go_ret
  exact ⟨rfl, dR⟩
 replace H := iE H; rcases H with ⟨a7, a6, H⟩ | ⟨a7, a6, H⟩
 ·replace H := oA H; obtain ⟨aV, aO, H⟩ := H
  obtain rfl := oI H
  go_enter Try.func116, Try.ntmps116
  go_wp2_with (first | ((with_reducible refine gW ?_); first | (refine gD (some 54) Try.func136 rfl (impl_Rem.calls aO.out) fun nd => ?_)))
  go_ret
  exact ⟨rfl, dR⟩
 replace H := iE H; rcases H with ⟨a5, a4, H⟩ | ⟨a5, a4, H⟩
 ·replace H := oA H; obtain ⟨aU, aN, H⟩ := H
  obtain rfl := oI H
  go_enter Try.func116, Try.ntmps116
  go_wp2_with (first | ((with_reducible refine gW ?_); first | (refine gD (some 60) Try.func137 rfl (impl_Shl.calls aN.out) fun nd => ?_)))
  go_ret
  exact ⟨rfl, dR⟩
 replace H := oA H; obtain ⟨aT, aM, H⟩ := H
 obtain rfl := oI H
 go_enter Try.func116, Try.ntmps116
 go_wp2_with (first | ((with_reducible refine gW ?_); first | (refine gD (some 64) Try.func138 rfl (impl_Shr.calls aM.out) fun nd => ?_)))
 go_ret
 exact ⟨rfl, dR⟩
def yV (a0 : Int) (a1 : Int) (a2 : Int) : Option (Int) := (tP a0 a1 a2).bind fun a5 => (if a5 = true then ((uV (decide (a1 < a2))).bind fun a4 => (some a4)) else ((uV false).bind fun a3 => (some a3)))
theorem b8u {P : Prop} (h : P := by
 replace H := oA H; obtain ⟨a5, a3, H⟩ := H
 obtain rfl := oI H
 go_enter Try.func117, Try.ntmps117
 go_wp2_with (first | ((with_reducible refine gW ?_); first | (refine gD (some 10) Try.func139 rfl (impl_two.calls A4.out) fun nd => ?_) | (refine gD (some 16) Try.func113 rfl (impl_bit.calls _ _ _ a3.out) fun nd => ?_)))
 go_ret
 exact ⟨rfl, dR⟩) : P := h
theorem impl_Less.calls {a0 a1 a2 r : Int} {w : World} (h : yV a0 a1 a2 = some r) :
  Calls Try.prog 117 #[.int .i64 a0, .int .i64 a1, .int .i64 a2] w fun e w' => e = .returned (.int .i64 r) ∧ Drawn0 w w' := by
 have H := h
 clear h
 unfold yV at H
 replace H := oA H; obtain ⟨a4, A4, H⟩ := H
 replace H := iB H; rcases H with ⟨rfl, H⟩ | ⟨rfl, H⟩
 ·exact b8u
 exact b8u
def wI (a0 : Int) (a1 : Int) : Option (Int) := (rI a0 a1).bind fun a2 => (if a2 = true then (if 0 ≤ (IntKind.u64.wrap (wrap64 (a0 - 1))) then (if a1 ≥ (shl .i64 1 (IntKind.u64.wrap (wrap64 (a0 - 1)))) then (if 0 ≤ (IntKind.u64.wrap (a0)) then (some (wrap64 (a1 - (shl .i64 1 (IntKind.u64.wrap (a0)))))) else (none)) else (some a1)) else (none)) else (some 0))
theorem b2z {P : Prop} (h : P := by
 obtain rfl := oI H
 go_enter Try.func140, Try.ntmps140
 go_wp2_with (first | ((with_reducible refine gW ?_); first | (refine gD (some 8) Try.func54 rfl (impl_WordOk.calls _ _ _ _ A3.out) fun nd => ?_)))
 go_ret
 exact ⟨rfl, dR⟩) : P := h
theorem impl_Signed.calls {a0 a1 r : Int} {w : World} (h : wI a0 a1 = some r) :
  Calls Try.prog 140 #[.int .i64 a0, .int .i64 a1] w fun e w' => e = .returned (.int .i64 r) ∧ Drawn0 w w' := by
 have H := h
 clear h
 unfold wI at H
 replace H := oA H; obtain ⟨aQ, A3, H⟩ := H
 replace H := iB H; rcases H with ⟨rfl, H⟩ | ⟨rfl, H⟩
 rotate_left
 ·exact b2z
 generalize aD : IntKind.u64.wrap (wrap64 (a0 - 1)) = a3 at H
 (try rw [aD] at A3)
 replace H := iTD H; obtain ⟨aS, aR, H⟩ := H
 generalize a9 : shl .i64 1 (a3) = a4 at H
 (try rw [a9] at A3)
 have aB : (IntKind.i64.wrap (1 * 2 ^ min (a3).toNat 64)) = a4 := a9
 have aA : (a3) ≤ 64 → (IntKind.i64.wrap (1 * 2 ^ (a3).toNat)) = a4 := xZ a9
 have aM : (IntKind.i64.wrap (2 ^ min (a3).toNat 64)) = a4 := by have h_ := aB; rw [Int.one_mul] at h_; exact h_
 have aL : (a3) ≤ 64 → (IntKind.i64.wrap (2 ^ (a3).toNat)) = a4 := fun hle_ => by have h_ := aA hle_; rw [Int.one_mul] at h_; exact h_
 have aJ : (wrap64 (1 * 2 ^ min (a3).toNat 64)) = a4 := (vY _).symm.trans aB
 have aK : (a3) ≤ 64 → (wrap64 (1 * 2 ^ (a3).toNat)) = a4 := fun h_ => (vY _).symm.trans (aA h_)
 by_cases c8 : a1 ≥ (a4)
 ·rw [if_pos c8] at H
  have aE : decide ((a4) ≤ a1) = true := decide_eq_true c8
  clear c8
  generalize aC : IntKind.u64.wrap (a0) = a2 at H
  (try rw [aC] at A3)
  replace H := iTD H; obtain ⟨aO, aN, H⟩ := H
  generalize a6 : shl .i64 1 (a2) = a5 at H
  (try rw [a6] at A3)
  have a8 : (IntKind.i64.wrap (1 * 2 ^ min (a2).toNat 64)) = a5 := a6
  have a7 : (a2) ≤ 64 → (IntKind.i64.wrap (1 * 2 ^ (a2).toNat)) = a5 := xZ a6
  have aI : (IntKind.i64.wrap (2 ^ min (a2).toNat 64)) = a5 := by have h_ := a8; rw [Int.one_mul] at h_; exact h_
  have aH : (a2) ≤ 64 → (IntKind.i64.wrap (2 ^ (a2).toNat)) = a5 := fun hle_ => by have h_ := a7 hle_; rw [Int.one_mul] at h_; exact h_
  have aF : (wrap64 (1 * 2 ^ min (a2).toNat 64)) = a5 := (vY _).symm.trans a8
  have aG : (a2) ≤ 64 → (wrap64 (1 * 2 ^ (a2).toNat)) = a5 := fun h_ => (vY _).symm.trans (a7 h_)
  exact b2z
 rw [if_neg c8] at H
 have aE : decide ((a4) ≤ a1) = false := decide_eq_false c8
 clear c8
 exact b2z
def uX (a0 : Int) (a1 : Int) (a2 : Int) : Option (Int) := (tP a0 a1 a2).bind fun a7 => (if a7 = true then ((wI a0 a1).bind fun a6 => ((wI a0 a2).bind fun a5 => ((uV (decide (a6 < a5))).bind fun a4 => (some a4)))) else ((uV false).bind fun a3 => (some a3)))
theorem impl_LessSigned.calls {a0 a1 a2 r : Int} {w : World} (h : uX a0 a1 a2 = some r) :
  Calls Try.prog 118 #[.int .i64 a0, .int .i64 a1, .int .i64 a2] w fun e w' => e = .returned (.int .i64 r) ∧ Drawn0 w w' := by
 have H := h
 clear h
 unfold uX at H
 replace H := oA H; obtain ⟨a7, A4, H⟩ := H
 replace H := iB H; rcases H with ⟨rfl, H⟩ | ⟨rfl, H⟩
 ·replace H := oA H; obtain ⟨a6, A6, H⟩ := H
  replace H := oA H; obtain ⟨a5, A7, H⟩ := H
  replace H := oA H; obtain ⟨a4, A8, H⟩ := H
  obtain rfl := oI H
  go_enter Try.func118, Try.ntmps118
  go_wp2_with (first | (go_at_call 140; refine cD (impl_Signed.calls A6.out) fun nd => ?_) | (go_at_call 140; refine cD (impl_Signed.calls A7.out) fun nd => ?_) | ((with_reducible refine gW ?_); first | (refine gD (some 10) Try.func139 rfl (impl_two.calls A4.out) fun nd => ?_) | (refine gD (some 20) Try.func113 rfl (impl_bit.calls _ _ _ A8.out) fun nd => ?_)))
  go_ret
  exact ⟨rfl, dR⟩
 replace H := oA H; obtain ⟨a3, A9, H⟩ := H
 obtain rfl := oI H
 go_enter Try.func118, Try.ntmps118
 go_wp2_with (first | ((with_reducible refine gW ?_); first | (refine gD (some 10) Try.func139 rfl (impl_two.calls A4.out) fun nd => ?_) | (refine gD (some 20) Try.func113 rfl (impl_bit.calls _ _ _ A9.out) fun nd => ?_)))
 go_ret
 exact ⟨rfl, dR⟩
def yB (a0 : Int) (a1 : Int) (a2 : Int) (a3 : Int) : Option (Int) := (rI a0 a1).bind fun a7 => (if a7 = true then ((qD a3 1 a0).bind fun a6 => (if a6 = true then ((qD a2 0 (wrap64 (a0 - a3))).bind fun a5 => (if a5 = true then (if 0 ≤ (IntKind.u64.wrap (a2)) then ((wH a3 (shr .i64 a1 (IntKind.u64.wrap (a2)))).bind fun a4 => (some a4)) else (none)) else (some 0))) else (some 0))) else (some 0))
theorem impl_Slice.calls {a0 a1 a2 a3 r : Int} {w : World} (h : yB a0 a1 a2 a3 = some r) :
  Calls Try.prog 119 #[.int .i64 a0, .int .i64 a1, .int .i64 a2, .int .i64 a3] w fun e w' => e = .returned (.int .i64 r) ∧ Drawn0 w w' := by
 have H := h
 clear h
 unfold yB at H
 replace H := oA H; obtain ⟨aG, A5, H⟩ := H
 replace H := iB H; rcases H with ⟨rfl, H⟩ | ⟨rfl, H⟩
 rotate_left
 ·obtain rfl := oI H
  go_enter Try.func119, Try.ntmps119
  go_wp2_with (first | ((with_reducible refine gW ?_); first | (refine gD (some 11) Try.func54 rfl (impl_WordOk.calls _ _ _ _ A5.out) fun nd => ?_)))
  go_ret
  exact ⟨rfl, dR⟩
 replace H := oA H; obtain ⟨aF, A7, H⟩ := H
 replace H := iB H; rcases H with ⟨rfl, H⟩ | ⟨rfl, H⟩
 rotate_left
 ·obtain rfl := oI H
  go_enter Try.func119, Try.ntmps119
  go_wp2_with (first | (go_at_call 72; refine cD (impl_within.calls A7.out) fun nd => ?_) | ((with_reducible refine gW ?_); first | (refine gD (some 11) Try.func54 rfl (impl_WordOk.calls _ _ _ _ A5.out) fun nd => ?_)))
  go_ret
  exact ⟨rfl, dR⟩
 replace H := oA H; obtain ⟨aE, A9, H⟩ := H
 replace H := iB H; rcases H with ⟨rfl, H⟩ | ⟨rfl, H⟩
 ·generalize a6 : IntKind.u64.wrap (a2) = a5 at H
  (try rw [a6] at A5)
  (try rw [a6] at A7)
  (try rw [a6] at A9)
  replace H := iTD H; obtain ⟨aC, aB, H⟩ := H
  generalize a4 : shr .i64 a1 (a5) = a7 at H
  (try rw [a4] at A5)
  (try rw [a4] at A7)
  (try rw [a4] at A9)
  have a9 : (a1 / 2 ^ min (a5).toNat 64) = a7 := a4
  have a8 : (a5) ≤ 64 → (a1 / 2 ^ (a5).toNat) = a7 := a8e a4
  replace H := oA H; obtain ⟨aD, aA, H⟩ := H
  obtain rfl := oI H
  go_enter Try.func119, Try.ntmps119
  go_wp2_with (first | (go_at_call 72; refine cD (impl_within.calls A7.out) fun nd => ?_) | (go_at_call 72; refine cD (impl_within.calls A9.out) fun nd => ?_) | ((with_reducible refine gW ?_); first | (refine gD (some 11) Try.func54 rfl (impl_WordOk.calls _ _ _ _ A5.out) fun nd => ?_) | (refine gD (some 32) Try.func141 rfl (impl_cut.calls aA.out) fun nd => ?_)))
  go_ret
  exact ⟨rfl, dR⟩
 obtain rfl := oI H
 go_enter Try.func119, Try.ntmps119
 go_wp2_with (first | (go_at_call 72; refine cD (impl_within.calls A7.out) fun nd => ?_) | (go_at_call 72; refine cD (impl_within.calls A9.out) fun nd => ?_) | ((with_reducible refine gW ?_); first | (refine gD (some 11) Try.func54 rfl (impl_WordOk.calls _ _ _ _ A5.out) fun nd => ?_)))
 go_ret
 exact ⟨rfl, dR⟩
end Go.Proofs.Ytkpipmojkhikaaa.PAll
