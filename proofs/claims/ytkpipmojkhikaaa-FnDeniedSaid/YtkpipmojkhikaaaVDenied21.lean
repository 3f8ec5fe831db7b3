/- Written by a program of this session over the loaded program, and by hand: Go functions as plain Lean functions, and that a call comes to what they say. -/
import Derived.Test.YtkpipmojkhikaaaVDenied0
import Derived.Test.YtkpipmojkhikaaaVDenied1
import Derived.Test.YtkpipmojkhikaaaBase
import Derived.Test.YtkpipmojkhikaaaSq
namespace Go.Proofs.Ytkpipmojkhikaaa.PAll
open Go.RowKit Go.Proofs.YtkpipmojkhikaaaW.PrintWords Go.Proofs.YtkpipmojkhikaaaW.PrintLast Go.Proofs.YtkpipmojkhikaaaW.PrintMore Go.Proofs.YtkpipmojkhikaaaW.Sq
attribute [local go_sem] qZ qX sT sS qC qB qY qW
set_option linter.unusedVariables false
set_option maxHeartbeats 8000000
set_option maxRecDepth 100000
set_option linter.unusedSimpArgs false
def yR (k : Nat) (a0 : Int) (a1 : Int) : Option (Int) := (rF k a0 a1).bind fun a3 => (if a3 = true then ((kZ k a0).bind fun a2 => (some (wrap64 ((wrap64 (a2 - 1)) - a1)))) else (some 0))
theorem spec_Flip.calls {k : Nat} {a0 a1 r : Int} {w : World} (h : yR k a0 a1 = some r) :
  Calls Try.prog 142 #[.int .i64 a0, .int .i64 a1] w fun e w' => e = .returned (.int .i64 r) ∧ Drawn0 w w' := by
 have H := h
 clear h
 unfold yR at H
 replace H := oA H; obtain ⟨a3, A3, H⟩ := H
 replace H := iB H; rcases H with ⟨rfl, H⟩ | ⟨rfl, H⟩
 ·replace H := oA H; obtain ⟨a2, A5, H⟩ := H
  obtain rfl := oI H
  go_enter Try.func142, Try.ntmps142
  go_wp2_with (first | ((with_reducible refine gW ?_); first | (refine gD (some 7) Try.func71 rfl (spec_WordOk.calls A3.out) fun nd => ?_) | (refine gD (some 10) Try.func81 rfl (spec_l01Pow2.calls A5.out) fun nd => ?_)))
  go_ret
  exact ⟨rfl, dR⟩
 obtain rfl := oI H
 go_enter Try.func142, Try.ntmps142
 go_wp2_with (first | ((with_reducible refine gW ?_); first | (refine gD (some 7) Try.func71 rfl (spec_WordOk.calls A3.out) fun nd => ?_)))
 go_ret
 exact ⟨rfl, dR⟩
def qS (k : Nat) (a0 : Int) (a1 : Int) (a2 : Int) : Option (Bool) := (rF k a0 a1).bind fun a4 => (if a4 = true then ((rF k a0 a2).bind fun a3 => (some a3)) else (some false))
theorem spec_l01Two.calls {k : Nat} {a0 a1 a2 : Int} {r : Bool} {w : World} (h : qS k a0 a1 a2 = some r) :
  Calls Try.prog 155 #[.int .i64 a0, .int .i64 a1, .int .i64 a2] w fun e w' => e = .returned (.bool r) ∧ Drawn0 w w' := by
 have H := h
 clear h
 unfold qS at H
 replace H := oA H; obtain ⟨a4, A4, H⟩ := H
 replace H := iB H; rcases H with ⟨rfl, H⟩ | ⟨rfl, H⟩
 ·replace H := oA H; obtain ⟨a3, A6, H⟩ := H
  obtain rfl := oI H
  go_enter Try.func155, Try.ntmps155
  go_wp2_with (first | (go_at_call 71; refine cD (spec_WordOk.calls A6.out) fun nd => ?_) | ((with_reducible refine gW ?_); first | (refine gD (some 9) Try.func71 rfl (spec_WordOk.calls A4.out) fun nd => ?_)))
  go_ret
  exact ⟨rfl, dR⟩
 obtain rfl := oI H
 go_enter Try.func155, Try.ntmps155
 go_wp2_with (first | ((with_reducible refine gW ?_); first | (refine gD (some 9) Try.func71 rfl (spec_WordOk.calls A4.out) fun nd => ?_)))
 go_ret
 exact ⟨rfl, dR⟩
def zV (k : Nat) (a0 : Int) (a1 : Int) (a2 : Int) : Option (Int) := (qS k a0 a1 a2).bind fun a4 => (if a4 = true then ((kZ k a0).bind fun a3 => (if a3 = 0 then (none) else (some (Int.tmod (wrap64 (a1 + a2)) a3)))) else (some 0))
theorem spec_Add.calls {k : Nat} {a0 a1 a2 r : Int} {w : World} (h : zV k a0 a1 a2 = some r) :
  Calls Try.prog 143 #[.int .i64 a0, .int .i64 a1, .int .i64 a2] w fun e w' => e = .returned (.int .i64 r) ∧ Drawn0 w w' := by
 have H := h
 clear h
 unfold zV at H
 replace H := oA H; obtain ⟨a4, A4, H⟩ := H
 replace H := iB H; rcases H with ⟨rfl, H⟩ | ⟨rfl, H⟩
 ·replace H := oA H; obtain ⟨a3, A6, H⟩ := H
  by_cases c7 : a3 = 0
  ·rw [if_pos c7] at H
   exact absurd H (by simp)
  rw [if_neg c7] at H
  have a6 : (a3 == 0) = false := beq_eq_false_iff_ne.mpr c7
  have a5 : (a3 != 0) = true := bne_iff_ne.mpr c7
  obtain rfl := oI H
  go_enter Try.func143, Try.ntmps143
  go_wp2_with (first | ((with_reducible refine gW ?_); first | (refine gD (some 10) Try.func155 rfl (spec_l01Two.calls A4.out) fun nd => ?_) | (refine gD (some 16) Try.func81 rfl (spec_l01Pow2.calls A6.out) fun nd => ?_)))
  go_ret
  exact ⟨rfl, dR⟩
 obtain rfl := oI H
 go_enter Try.func143, Try.ntmps143
 go_wp2_with (first | ((with_reducible refine gW ?_); first | (refine gD (some 10) Try.func155 rfl (spec_l01Two.calls A4.out) fun nd => ?_)))
 go_ret
 exact ⟨rfl, dR⟩
def zM (k : Nat) (a0 : Int) (a1 : Int) (a2 : Int) : Option (Int) := (qS k a0 a1 a2).bind fun a5 => (if a5 = true then ((kZ k a0).bind fun a4 => ((kZ k a0).bind fun a3 => (if a3 = 0 then (none) else (some (Int.tmod (wrap64 ((wrap64 (a1 + a4)) - a2)) a3))))) else (some 0))
theorem spec_Sub.calls {k : Nat} {a0 a1 a2 r : Int} {w : World} (h : zM k a0 a1 a2 = some r) :
  Calls Try.prog 144 #[.int .i64 a0, .int .i64 a1, .int .i64 a2] w fun e w' => e = .returned (.int .i64 r) ∧ Drawn0 w w' := by
 have H := h
 clear h
 unfold zM at H
 replace H := oA H; obtain ⟨a5, A4, H⟩ := H
 replace H := iB H; rcases H with ⟨rfl, H⟩ | ⟨rfl, H⟩
 ·replace H := oA H; obtain ⟨a4, A6, H⟩ := H
  replace H := oA H; obtain ⟨a3, A7, H⟩ := H
  by_cases c8 : a3 = 0
  ·rw [if_pos c8] at H
   exact absurd H (by simp)
  rw [if_neg c8] at H
  have a7 : (a3 == 0) = false := beq_eq_false_iff_ne.mpr c8
  have a6 : (a3 != 0) = true := bne_iff_ne.mpr c8
  obtain rfl := oI H
  go_enter Try.func144, Try.ntmps144
  go_wp2_with (first | ((with_reducible refine gW ?_); first | (refine gD (some 10) Try.func155 rfl (spec_l01Two.calls A4.out) fun nd => ?_) | (refine gD (some 14) Try.func81 rfl (spec_l01Pow2.calls A6.out) fun nd => ?_) | (refine gD (some 19) Try.func81 rfl (spec_l01Pow2.calls A7.out) fun nd => ?_)))
  go_ret
  exact ⟨rfl, dR⟩
 obtain rfl := oI H
 go_enter Try.func144, Try.ntmps144
 go_wp2_with (first | ((with_reducible refine gW ?_); first | (refine gD (some 10) Try.func155 rfl (spec_l01Two.calls A4.out) fun nd => ?_)))
 go_ret
 exact ⟨rfl, dR⟩
def zT (k : Nat) (a0 : Int) (a1 : Int) (a2 : Int) : Option (Int) := (qS k a0 a1 a2).bind fun a4 => (if a4 = true then ((kZ k a0).bind fun a3 => (if a3 = 0 then (none) else (some (Int.tmod (wrap64 (a1 * a2)) a3)))) else (some 0))
theorem spec_Mul.calls {k : Nat} {a0 a1 a2 r : Int} {w : World} (h : zT k a0 a1 a2 = some r) :
  Calls Try.prog 145 #[.int .i64 a0, .int .i64 a1, .int .i64 a2] w fun e w' => e = .returned (.int .i64 r) ∧ Drawn0 w w' := by
 have H := h
 clear h
 unfold zT at H
 replace H := oA H; obtain ⟨a4, A4, H⟩ := H
 replace H := iB H; rcases H with ⟨rfl, H⟩ | ⟨rfl, H⟩
 ·replace H := oA H; obtain ⟨a3, A6, H⟩ := H
  by_cases c7 : a3 = 0
  ·rw [if_pos c7] at H
   exact absurd H (by simp)
  rw [if_neg c7] at H
  have a6 : (a3 == 0) = false := beq_eq_false_iff_ne.mpr c7
  have a5 : (a3 != 0) = true := bne_iff_ne.mpr c7
  obtain rfl := oI H
  go_enter Try.func145, Try.ntmps145
  go_wp2_with (first | ((with_reducible refine gW ?_); first | (refine gD (some 10) Try.func155 rfl (spec_l01Two.calls A4.out) fun nd => ?_) | (refine gD (some 16) Try.func81 rfl (spec_l01Pow2.calls A6.out) fun nd => ?_)))
  go_ret
  exact ⟨rfl, dR⟩
 obtain rfl := oI H
 go_enter Try.func145, Try.ntmps145
 go_wp2_with (first | ((with_reducible refine gW ?_); first | (refine gD (some 10) Try.func155 rfl (spec_l01Two.calls A4.out) fun nd => ?_)))
 go_ret
 exact ⟨rfl, dR⟩
def zU (k : Nat) (a0 : Int) (a1 : Int) (a2 : Int) : Option (Int) := (qS k a0 a1 a2).bind fun a4 => (if a4 = true then (if a2 = 0 then ((kZ k a0).bind fun a3 => (some (wrap64 (a3 - 1)))) else (some (wrap64 (Int.tdiv a1 a2)))) else (some 0))
theorem b9r {P : Prop} (h : P := by
 obtain rfl := oI H
 go_enter Try.func146, Try.ntmps146
 go_wp2_with (first | ((with_reducible refine gW ?_); first | (refine gD (some 10) Try.func155 rfl (spec_l01Two.calls A4.out) fun nd => ?_)))
 go_ret
 exact ⟨rfl, dR⟩) : P := h
theorem spec_Div.calls {k : Nat} {a0 a1 a2 r : Int} {w : World} (h : zU k a0 a1 a2 = some r) :
  Calls Try.prog 146 #[.int .i64 a0, .int .i64 a1, .int .i64 a2] w fun e w' => e = .returned (.int .i64 r) ∧ Drawn0 w w' := by
 have H := h
 clear h
 unfold zU at H
 replace H := oA H; obtain ⟨a6, A4, H⟩ := H
 replace H := iB H; rcases H with ⟨rfl, H⟩ | ⟨rfl, H⟩
 ·by_cases c6 : a2 = 0
  ·rw [if_pos c6] at H
   have a4 : (a2 == 0) = true := beq_iff_eq.mpr c6
   have a3 : (a2 != 0) = false := bne_eq_false_iff_eq.mpr c6
   clear c6
   replace H := oA H; obtain ⟨a5, A7, H⟩ := H
   obtain rfl := oI H
   go_enter Try.func146, Try.ntmps146
   go_wp2_with (first | ((with_reducible refine gW ?_); first | (refine gD (some 10) Try.func155 rfl (spec_l01Two.calls A4.out) fun nd => ?_) | (refine gD (some 15) Try.func81 rfl (spec_l01Pow2.calls A7.out) fun nd => ?_)))
   go_ret
   exact ⟨rfl, dR⟩
  rw [if_neg c6] at H
  have a4 : (a2 == 0) = false := beq_eq_false_iff_ne.mpr c6
  have a3 : (a2 != 0) = true := bne_iff_ne.mpr c6
  exact b9r
 exact b9r
def zS (k : Nat) (a0 : Int) (a1 : Int) (a2 : Int) : Option (Int) := (qS k a0 a1 a2).bind fun a3 => (if a3 = true then (if a2 = 0 then (some a1) else (some (Int.tmod a1 a2))) else (some 0))
theorem b3f {P : Prop} (h : P := by
 obtain rfl := oI H
 go_enter Try.func147, Try.ntmps147
 go_wp2_with (first | ((with_reducible refine gW ?_); first | (refine gD (some 10) Try.func155 rfl (spec_l01Two.calls A4.out) fun nd => ?_)))
 go_ret
 exact ⟨rfl, dR⟩) : P := h
theorem spec_Rem.calls {k : Nat} {a0 a1 a2 r : Int} {w : World} (h : zS k a0 a1 a2 = some r) :
  Calls Try.prog 147 #[.int .i64 a0, .int .i64 a1, .int .i64 a2] w fun e w' => e = .returned (.int .i64 r) ∧ Drawn0 w w' := by
 have H := h
 clear h
 unfold zS at H
 replace H := oA H; obtain ⟨a5, A4, H⟩ := H
 replace H := iB H; rcases H with ⟨rfl, H⟩ | ⟨rfl, H⟩
 ·by_cases c6 : a2 = 0
  ·rw [if_pos c6] at H
   have a4 : (a2 == 0) = true := beq_iff_eq.mpr c6
   have a3 : (a2 != 0) = false := bne_eq_false_iff_eq.mpr c6
   clear c6
   exact b3f
  rw [if_neg c6] at H
  have a4 : (a2 == 0) = false := beq_eq_false_iff_ne.mpr c6
  have a3 : (a2 != 0) = true := bne_iff_ne.mpr c6
  exact b3f
 exact b3f
def yO : Nat → Int → Int → Int → Bool → Option (Int)
 | 0, _, _, _, _ => none
 | k + 1, x0, x1, x2, a2 => if a2 = true then (some 0) else ((kZ k x2).bind fun a1 => ((kZ k x0).bind fun a0 => (if a0 = 0 then (none) else (some (Int.tmod (wrap64 (x1 * a1)) a0)))))
def zO (k : Nat) (a0 : Int) (a1 : Int) (a2 : Int) : Option (Int) := (qS k a0 a1 a2).bind fun a3 => (if a3 = true then (yO k a0 a1 a2 (decide (a2 ≥ a0))) else (yO k a0 a1 a2 true))
theorem spec_Shl.calls {k : Nat} {a0 a1 a2 r : Int} {w : World} (h : zO k a0 a1 a2 = some r) :
  Calls Try.prog 148 #[.int .i64 a0, .int .i64 a1, .int .i64 a2] w fun e w' => e = .returned (.int .i64 r) ∧ Drawn0 w w' := by
 have H := h
 clear h
 unfold zO at H
 have a5 := am H; clear H
 go_enter Try.func148, Try.ntmps148
 go_upto_region 1 with (fail)
 go_cut [16] (fun a6 wc => ∃ (kq : Nat) (a3 : Bool), a6 = .bool a3 ∧ Aside0 (yO kq a0 a1 a2 a3 = some r) ∧ Aside0 (kq ≤ k) ∧ Drawn0 w wc)
 case first =>
  have H := a5.out
  clear a5
  replace H := oA H; obtain ⟨aA, A5, H⟩ := H
  replace H := iB H; rcases H with ⟨rfl, H⟩ | ⟨rfl, H⟩
  ·replace H := am H
   go_wp2_with (first | ((with_reducible refine gW ?_); first | (refine gD (some 10) Try.func155 rfl (spec_l01Two.calls A5.out) fun nd => ?_)))
   go_meet
   case rel => exact ⟨_, (decide (a2 ≥ a0)), rfl, H, ⟨oM⟩, dR⟩
  replace H := am H
  go_wp2_with (first | ((with_reducible refine gW ?_); first | (refine gD (some 10) Try.func155 rfl (spec_l01Two.calls A5.out) fun nd => ?_)))
  go_meet
  case rel => exact ⟨_, true, rfl, H, ⟨oM⟩, dR⟩
 clear a5
 obtain ⟨kq, a3, rfl, HA, aD, ⟨aB, rfl⟩⟩ := hcut
 cases kq with
 | zero => cases HA.out
 | succ aC =>
  obtain ⟨H⟩ := HA
  simp only [yO] at H
  replace H := iB H; rcases H with ⟨rfl, H⟩ | ⟨rfl, H⟩
  ·obtain rfl := oI H
   go_wp2
   go_ret
   exact ⟨rfl, dR⟩
  replace H := oA H; obtain ⟨a9, A8, H⟩ := H
  replace H := oA H; obtain ⟨a4, A9, H⟩ := H
  by_cases c10 : a4 = 0
  ·rw [if_pos c10] at H
   exact absurd H (by simp)
  rw [if_neg c10] at H
  have a8 : (a4 == 0) = false := beq_eq_false_iff_ne.mpr c10
  have a7 : (a4 != 0) = true := bne_iff_ne.mpr c10
  obtain rfl := oI H
  go_wp2_with (first | ((with_reducible refine gW ?_); first | (refine gD (some 19) Try.func81 rfl (spec_l01Pow2.calls A8.out) fun nd => ?_) | (refine gD (some 22) Try.func81 rfl (spec_l01Pow2.calls A9.out) fun nd => ?_)))
  go_ret
  exact ⟨rfl, dR⟩
def zN (k : Nat) (a0 : Int) (a1 : Int) (a2 : Int) : Option (Int) := (qS k a0 a1 a2).bind fun a4 => (if a4 = true then (if a2 ≥ a0 then (some 0) else ((kZ k a2).bind fun a3 => (if a3 = 0 then (none) else (some (wrap64 (Int.tdiv a1 a3)))))) else (some 0))
theorem b8z {P : Prop} (h : P := by
 obtain rfl := oI H
 go_enter Try.func149, Try.ntmps149
 go_wp2_with (first | ((with_reducible refine gW ?_); first | (refine gD (some 10) Try.func155 rfl (spec_l01Two.calls A4.out) fun nd => ?_)))
 go_ret
 exact ⟨rfl, dR⟩) : P := h
theorem spec_Shr.calls {k : Nat} {a0 a1 a2 r : Int} {w : World} (h : zN k a0 a1 a2 = some r) :
  Calls Try.prog 149 #[.int .i64 a0, .int .i64 a1, .int .i64 a2] w fun e w' => e = .returned (.int .i64 r) ∧ Drawn0 w w' := by
 have H := h
 clear h
 unfold zN at H
 replace H := oA H; obtain ⟨a5, A4, H⟩ := H
 replace H := iB H; rcases H with ⟨rfl, H⟩ | ⟨rfl, H⟩
 rotate_left
 ·exact b8z
 by_cases c6 : a2 ≥ a0
 ·rw [if_pos c6] at H
  have a4 : decide (a0 ≤ a2) = true := decide_eq_true c6
  clear c6
  exact b8z
 rw [if_neg c6] at H
 have a4 : decide (a0 ≤ a2) = false := decide_eq_false c6
 clear c6
 replace H := oA H; obtain ⟨a3, A7, H⟩ := H
 by_cases c8 : a3 = 0
 ·rw [if_pos c8] at H
  exact absurd H (by simp)
 rw [if_neg c8] at H
 have a7 : (a3 == 0) = false := beq_eq_false_iff_ne.mpr c8
 have a6 : (a3 != 0) = true := bne_iff_ne.mpr c8
 obtain rfl := oI H
 go_enter Try.func149, Try.ntmps149
 go_wp2_with (first | ((with_reducible refine gW ?_); first | (refine gD (some 10) Try.func155 rfl (spec_l01Two.calls A4.out) fun nd => ?_) | (refine gD (some 19) Try.func81 rfl (spec_l01Pow2.calls A7.out) fun nd => ?_)))
 go_ret
 exact ⟨rfl, dR⟩
def sE (a0 : Bool) : Option (Int) := if a0 = true then (some 1) else (some 0)
theorem spec_l01Bool.calls {a0 : Bool} {r : Int} {w : World} (h : sE a0 = some r) :
  Calls Try.prog 150 #[.bool a0] w fun e w' => e = .returned (.int .i64 r) ∧ Drawn0 w w' := by
 have H := h
 clear h
 unfold sE at H
 replace H := iB H; rcases H with ⟨rfl, H⟩ | ⟨rfl, H⟩
 ·obtain rfl := oI H
  go_enter Try.func150, Try.ntmps150
  go_wp2
  go_ret
  exact ⟨rfl, dR⟩
 obtain rfl := oI H
 go_enter Try.func150, Try.ntmps150
 go_wp2
 go_ret
 exact ⟨rfl, dR⟩
def yP (k : Nat) (a0 : Int) (a1 : Int) (a2 : Int) : Option (Int) := (qS k a0 a1 a2).bind fun a5 => (if a5 = true then ((sE (decide (a1 < a2))).bind fun a4 => (some a4)) else ((sE false).bind fun a3 => (some a3)))
theorem b8t {P : Prop} (h : P := by
 replace H := oA H; obtain ⟨a5, a3, H⟩ := H
 obtain rfl := oI H
 go_enter Try.func151, Try.ntmps151
 go_wp2_with (first | ((with_reducible refine gW ?_); first | (refine gD (some 10) Try.func155 rfl (spec_l01Two.calls A4.out) fun nd => ?_) | (refine gD (some 16) Try.func150 rfl (spec_l01Bool.calls a3.out) fun nd => ?_)))
 go_ret
 exact ⟨rfl, dR⟩) : P := h
theorem spec_Less.calls {k : Nat} {a0 a1 a2 r : Int} {w : World} (h : yP k a0 a1 a2 = some r) :
  Calls Try.prog 151 #[.int .i64 a0, .int .i64 a1, .int .i64 a2] w fun e w' => e = .returned (.int .i64 r) ∧ Drawn0 w w' := by
 have H := h
 clear h
 unfold yP at H
 replace H := oA H; obtain ⟨a4, A4, H⟩ := H
 replace H := iB H; rcases H with ⟨rfl, H⟩ | ⟨rfl, H⟩
 ·exact b8t
 exact b8t
def wD (k : Nat) (a0 : Int) (a1 : Int) : Option (Int) := (rF k a0 a1).bind fun a4 => (if a4 = true then ((kZ k (wrap64 (a0 - 1))).bind fun a3 => (if a1 ≥ a3 then ((kZ k a0).bind fun a2 => (some (wrap64 (a1 - a2)))) else (some a1))) else (some 0))
theorem spec_Signed.calls {k : Nat} {a0 a1 r : Int} {w : World} (h : wD k a0 a1 = some r) :
  Calls Try.prog 156 #[.int .i64 a0, .int .i64 a1] w fun e w' => e = .returned (.int .i64 r) ∧ Drawn0 w w' := by
 have H := h
 clear h
 unfold wD at H
 replace H := oA H; obtain ⟨a5, A3, H⟩ := H
 replace H := iB H; rcases H with ⟨rfl, H⟩ | ⟨rfl, H⟩
 ·replace H := oA H; obtain ⟨a2, A5, H⟩ := H
  by_cases c6 : a1 ≥ a2
  ·rw [if_pos c6] at H
   have a3 : decide (a2 ≤ a1) = true := decide_eq_true c6
   clear c6
   replace H := oA H; obtain ⟨a4, A7, H⟩ := H
   obtain rfl := oI H
   go_enter Try.func156, Try.ntmps156
   go_wp2_with (first | ((with_reducible refine gW ?_); first | (refine gD (some 7) Try.func71 rfl (spec_WordOk.calls A3.out) fun nd => ?_) | (refine gD (some 12) Try.func81 rfl (spec_l01Pow2.calls A5.out) fun nd => ?_) | (refine gD (some 16) Try.func81 rfl (spec_l01Pow2.calls A7.out) fun nd => ?_)))
   go_ret
   exact ⟨rfl, dR⟩
  rw [if_neg c6] at H
  have a3 : decide (a2 ≤ a1) = false := decide_eq_false c6
  clear c6
  obtain rfl := oI H
  go_enter Try.func156, Try.ntmps156
  go_wp2_with (first | ((with_reducible refine gW ?_); first | (refine gD (some 7) Try.func71 rfl (spec_WordOk.calls A3.out) fun nd => ?_) | (refine gD (some 12) Try.func81 rfl (spec_l01Pow2.calls A5.out) fun nd => ?_)))
  go_ret
  exact ⟨rfl, dR⟩
 obtain rfl := oI H
 go_enter Try.func156, Try.ntmps156
 go_wp2_with (first | ((with_reducible refine gW ?_); first | (refine gD (some 7) Try.func71 rfl (spec_WordOk.calls A3.out) fun nd => ?_)))
 go_ret
 exact ⟨rfl, dR⟩
def uP (k : Nat) (a0 : Int) (a1 : Int) (a2 : Int) : Option (Int) := (qS k a0 a1 a2).bind fun a7 => (if a7 = true then ((wD k a0 a1).bind fun a6 => ((wD k a0 a2).bind fun a5 => ((sE (decide (a6 < a5))).bind fun a4 => (some a4)))) else ((sE false).bind fun a3 => (some a3)))
theorem spec_LessSigned.calls {k : Nat} {a0 a1 a2 r : Int} {w : World} (h : uP k a0 a1 a2 = some r) :
  Calls Try.prog 152 #[.int .i64 a0, .int .i64 a1, .int .i64 a2] w fun e w' => e = .returned (.int .i64 r) ∧ Drawn0 w w' := by
 have H := h
 clear h
 unfold uP at H
 replace H := oA H; obtain ⟨a7, A4, H⟩ := H
 replace H := iB H; rcases H with ⟨rfl, H⟩ | ⟨rfl, H⟩
 ·replace H := oA H; obtain ⟨a6, A6, H⟩ := H
  replace H := oA H; obtain ⟨a5, A7, H⟩ := H
  replace H := oA H; obtain ⟨a4, A8, H⟩ := H
  obtain rfl := oI H
  go_enter Try.func152, Try.ntmps152
  go_wp2_with (first | (go_at_call 156; refine cD (spec_Signed.calls A6.out) fun nd => ?_) | (go_at_call 156; refine cD (spec_Signed.calls A7.out) fun nd => ?_) | ((with_reducible refine gW ?_); first | (refine gD (some 10) Try.func155 rfl (spec_l01Two.calls A4.out) fun nd => ?_) | (refine gD (some 20) Try.func150 rfl (spec_l01Bool.calls A8.out) fun nd => ?_)))
  go_ret
  exact ⟨rfl, dR⟩
 replace H := oA H; obtain ⟨a3, A9, H⟩ := H
 obtain rfl := oI H
 go_enter Try.func152, Try.ntmps152
 go_wp2_with (first | ((with_reducible refine gW ?_); first | (refine gD (some 10) Try.func155 rfl (spec_l01Two.calls A4.out) fun nd => ?_) | (refine gD (some 20) Try.func150 rfl (spec_l01Bool.calls A9.out) fun nd => ?_)))
 go_ret
 exact ⟨rfl, dR⟩
def wC : Nat → Int → Int → Int → Bool → Option (Int)
 | 0, _, _, _, _ => none
 | k + 1, x1, x2, x3, a2 => if a2 = true then (some 0) else ((kZ k x2).bind fun a1 => (if a1 = 0 then (none) else ((kZ k x3).bind fun a0 => (if a0 = 0 then (none) else (some (Int.tmod (wrap64 (Int.tdiv x1 a1)) a0))))))
def xW (k : Nat) (a0 : Int) (a1 : Int) (a2 : Int) (a3 : Int) : Option (Int) := (rF k a0 a1).bind fun a5 => (if a5 = true then (if a2 < 0 then (wC k a1 a2 a3 true) else ((pJ a3 1 (wrap64 (a0 - a2))).bind fun a4 => (wC k a1 a2 a3 (!a4)))) else (wC k a1 a2 a3 true))
theorem b8o {P : Prop} (h : P := by
 replace H := am H
 go_wp2_with (first | (go_at_call 71; refine cD (spec_WordOk.calls A6.out) fun nd => ?_; (try exact dq)))
 go_meet
 case rel => exact ⟨_, true, rfl, H, ⟨oM⟩, dR⟩) : P := h
theorem spec_Slice.calls {k : Nat} {a0 a1 a2 a3 r : Int} {w : World} (h : xW k a0 a1 a2 a3 = some r) :
  Calls Try.prog 153 #[.int .i64 a0, .int .i64 a1, .int .i64 a2, .int .i64 a3] w fun e w' => e = .returned (.int .i64 r) ∧ Drawn0 w w' := by
 have H := h
 clear h
 unfold xW at H
 have a9 := am H; clear H
 go_enter Try.func153, Try.ntmps153
 go_upto_region 1 with (fail)
 repeat (go_quiet (fail); go_upto_region 1 with (fail))
 go_cut [24] (fun aE wc => ∃ (kq : Nat) (a4 : Bool), aE = .bool a4 ∧ Aside0 (wC kq a1 a2 a3 a4 = some r) ∧ Aside0 (kq ≤ k) ∧ Drawn0 w wc)
 case first =>
  have H := a9.out
  clear a9
  replace H := oA H; obtain ⟨aJ, A6, H⟩ := H
  replace H := iB H; rcases H with ⟨rfl, H⟩ | ⟨rfl, H⟩
  ·replace H := iD H; rcases H with ⟨aD, H⟩ | ⟨aD, H⟩
   ·exact b8o
   replace H := oA H; obtain ⟨aC, A9, H⟩ := H
   replace H := am H
   go_wp2_with (first | (go_at_call 71; refine cD (spec_WordOk.calls A6.out) fun nd => ?_; (try exact dq)) | (go_at_call 42; refine cD (spec_l01In.calls A9.out) fun nd => ?_; (try exact dq)))
   go_meet
   case rel => exact ⟨_, (!aC), rfl, H, ⟨oM⟩, dR⟩
  exact b8o
 clear a9
 obtain ⟨kq, a4, rfl, HA, aM, ⟨aK, rfl⟩⟩ := hcut
 cases kq with
 | zero => cases HA.out
 | succ aL =>
  obtain ⟨H⟩ := HA
  simp only [wC] at H
  replace H := iB H; rcases H with ⟨rfl, H⟩ | ⟨rfl, H⟩
  ·obtain rfl := oI H
   go_wp2
   repeat (go_quiet (fail); try go_wp2)
   go_ret
   exact ⟨rfl, dR⟩
  replace H := oA H; obtain ⟨a6, aB, H⟩ := H
  by_cases a8 : a6 = 0
  ·rw [if_pos a8] at H
   exact absurd H (by simp)
  rw [if_neg a8] at H
  have aI : (a6 == 0) = false := beq_eq_false_iff_ne.mpr a8
  have aH : (a6 != 0) = true := bne_iff_ne.mpr a8
  replace H := oA H; obtain ⟨a5, aA, H⟩ := H
  by_cases a7 : a5 = 0
  ·rw [if_pos a7] at H
   exact absurd H (by simp)
  rw [if_neg a7] at H
  have aG : (a5 == 0) = false := beq_eq_false_iff_ne.mpr a7
  have aF : (a5 != 0) = true := bne_iff_ne.mpr a7
  obtain rfl := oI H
  go_wp2_with (first | (go_at_call 81; refine cD (spec_l01Pow2.calls aB.out) fun nd => ?_; (try exact dq)) | (go_at_call 81; refine cD (spec_l01Pow2.calls aA.out) fun nd => ?_; (try exact dq)))
  repeat (go_quiet (first | (go_at_call 81; refine cD (spec_l01Pow2.calls aB.out) fun nd => ?_; (try exact dq)) | (go_at_call 81; refine cD (spec_l01Pow2.calls aA.out) fun nd => ?_; (try exact dq))); try go_wp2_with (first | (go_at_call 81; refine cD (spec_l01Pow2.calls aB.out) fun nd => ?_; (try exact dq)) | (go_at_call 81; refine cD (spec_l01Pow2.calls aA.out) fun nd => ?_; (try exact dq))))
  go_ret
  exact ⟨rfl, dR⟩
end Go.Proofs.Ytkpipmojkhikaaa.PAll
