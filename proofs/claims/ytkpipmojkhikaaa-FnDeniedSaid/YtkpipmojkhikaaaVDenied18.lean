/- Written by a program of this session over the loaded program, and by hand: Go functions as plain Lean functions, and that a call comes to what they say. -/
import Derived.Test.YtkpipmojkhikaaaVDenied0
import Derived.Test.YtkpipmojkhikaaaVDenied10
import Derived.Test.YtkpipmojkhikaaaVDenied12
import Derived.Test.YtkpipmojkhikaaaVDenied15
import Derived.Test.YtkpipmojkhikaaaVDenied16
import Derived.Test.YtkpipmojkhikaaaVDenied17
import Derived.Test.YtkpipmojkhikaaaBase
import Derived.Test.YtkpipmojkhikaaaSq
namespace Go.Proofs.Ytkpipmojkhikaaa.PAll
open Go.RowKit Go.Proofs.YtkpipmojkhikaaaW.PrintWords Go.Proofs.YtkpipmojkhikaaaW.PrintLast Go.Proofs.YtkpipmojkhikaaaW.PrintMore Go.Proofs.YtkpipmojkhikaaaW.Sq
attribute [local go_sem] qZ qX sT sS qC qB qY qW
set_option linter.unusedVariables false
set_option maxHeartbeats 8000000
set_option maxRecDepth 100000
set_option linter.unusedSimpArgs false
def tZ : Nat → List (S31) → Bool → Option (Bool)
 | 0, _, _ => none
 | k + 1, x0, a3 => if a3 = true then (some false) else ((uK k x0).bind fun a0 => ((yA x0 a0).bind fun a2 => (if a2 = true then ((zG k x0 a0).bind fun a1 => (some a1)) else (some false))))
def uW (k : Nat) (l0 : List (S31)) : Option (Bool) := (tH k l0).bind fun a1 => (if a1 = true then (if 0 ≤ (wrap64 ((l0.length : Int) - 1)) then (if (wrap64 ((l0.length : Int) - 1)) < (l0.length : Int) then (if ((kA l0 (wrap64 ((l0.length : Int) - 1))).f1) = 1 then ((yW k l0).bind fun a0 => (tZ k l0 (decide ((a0.length : Int) > 0)))) else (tZ k l0 true)) else (none)) else (none)) else (tZ k l0 true))
theorem impl_Sentence.calls {k : Nat} {A0 : Option Addr} {c0 : Nat} {l0 : List (S31)} {r : Bool} {w : World} (hr0 : Kd.C k31 w A0 l0.length l0) (hc0 : l0.length ≤ c0) (h : uW k l0 = some r) :
  Calls Try.prog 65 #[.slice A0 l0.length c0] w fun e w' => e = .returned (.bool r) ∧ Below w.heap.size w w' := by
 have a7 := am hr0
 have a8 := am hc0
 clear hr0 hc0
 have HB := am (Below.refl w.heap.size w)
 have H := h
 clear h
 unfold uW at H
 have aD := am H; clear H
 go_enter Try.func65, Try.ntmps65
 go_upto_region 1 with (fail)
 go_cut [22] (fun aO wc => ∃ (kq : Nat) (aA : Bool), aO = .bool aA ∧ Aside0 (tZ kq l0 aA = some r) ∧ Aside0 (kq ≤ k) ∧ Aside0 (Below w.heap.size w wc))
 case first =>
  have H := aD.out
  clear aD
  replace H := oA H; obtain ⟨aW, A3, H⟩ := H
  replace H := iB H; rcases H with ⟨rfl, H⟩ | ⟨rfl, H⟩
  ·generalize aC : wrap64 ((l0.length : Int) - 1) = aB at H
   (try rw [aC] at A3)
   have aR : (IntKind.i64.wrap ((l0.length : Int) - 1)) = aB := (vY _).trans aC
   replace H := iN H; obtain ⟨b0, H⟩ := H
   replace H := iN H; obtain ⟨a_, H⟩ := H
   replace H := iE H; rcases H with ⟨aN, aM, H⟩ | ⟨aN, aM, H⟩
   ·replace H := oA H; obtain ⟨aJ, A9, H⟩ := H
    replace H := am H
    go_wp2_with (first | (go_at_call 102; refine (impl_Free.calls (sC (Kd.C_below a7.out HB.out)) a8.out A9.out).mono ?_; rintro e w11 ⟨aS, rfl, a9, hb⟩; have aF := rL a9 HB; replace HB := hB HB hb; (try clear hb); (try clear a9); obtain ⟨b3, aZ, rfl⟩ := Kd.R_slice aF.out) | ((with_reducible refine gW ?_); first | (refine gF 44 (some 5) rfl ?_; refine gS Try.func44 (impl_TermOk.calls _ _ _ _ _ _ (sC (Kd.C_below a7.out HB.out)) a8.out A3.out) ?_; rintro w10 hb; replace HB := hB HB hb; (try clear hb); obtain ⟨aL, aK, aE, rfl, a6, a5, a4, a3, a2, a1⟩ := ix (oZ a7.out (aB)); replace a6 := kC HB.out a6; replace a5 := kC HB.out a5; replace a4 := kC HB.out a4; replace a3 := kC HB.out a3; replace a2 := kC HB.out a2; replace a1 := kC HB.out a1)))
    go_meet
    case rel => exact ⟨_, (decide ((aJ.length : Int) > 0)), (by (simp; done)), H, ⟨oM⟩, ⟨sW HB.out⟩⟩
   replace H := am H
   go_wp2_with (first | ((with_reducible refine gW ?_); first | (refine gF 44 (some 5) rfl ?_; refine gS Try.func44 (impl_TermOk.calls _ _ _ _ _ _ (sC (Kd.C_below a7.out HB.out)) a8.out A3.out) ?_; rintro w13 hb; replace HB := hB HB hb; (try clear hb); obtain ⟨aL, aK, aE, rfl, a6, a5, a4, a3, a2, a1⟩ := ix (oZ a7.out (aB)); replace a6 := kC HB.out a6; replace a5 := kC HB.out a5; replace a4 := kC HB.out a4; replace a3 := kC HB.out a3; replace a2 := kC HB.out a2; replace a1 := kC HB.out a1)))
   go_meet
   case rel => exact ⟨_, true, rfl, H, ⟨oM⟩, ⟨sW HB.out⟩⟩
  replace H := am H
  go_wp2_with (first | ((with_reducible refine gW ?_); first | (refine gF 44 (some 5) rfl ?_; refine gS Try.func44 (impl_TermOk.calls _ _ _ _ _ _ (sC (Kd.C_below a7.out HB.out)) a8.out A3.out) ?_; rintro w14 hb; replace HB := hB HB hb; (try clear hb))))
  go_meet
  case rel => exact ⟨_, true, rfl, H, ⟨oM⟩, ⟨sW HB.out⟩⟩
 clear aD
 obtain ⟨kq, aA, rfl, HA, b5, HB⟩ := hcut
 cases kq with
 | zero => cases HA.out
 | succ b4 =>
  obtain ⟨H⟩ := HA
  simp only [tZ] at H
  replace H := iB H; rcases H with ⟨rfl, H⟩ | ⟨rfl, H⟩
  ·obtain rfl := oI H
   go_wp2
   go_ret
   exact ⟨rfl, sW HB.out⟩
  replace H := oA H; obtain ⟨aV, aH, H⟩ := H
  replace H := oA H; obtain ⟨aU, aG, H⟩ := H
  replace H := iB H; rcases H with ⟨rfl, H⟩ | ⟨rfl, H⟩
  ·replace H := oA H; obtain ⟨aT, aQ, H⟩ := H
   obtain rfl := oI H
   go_wp2_with (first | (go_at_call 104; refine (impl_onWay.calls (sC (Kd.C_below a7.out HB.out)) a8.out (sC (Kd.R_reads' a0.out).2.2) ((Kd.R_reads' a0.out).2.1) aQ.out).mono ?_; rintro e w23 ⟨rfl, hb⟩; replace a0 := rB a0 hb; replace HB := hB HB hb; (try clear hb)) | ((with_reducible refine gW ?_); first | (refine gF 75 (some 24) rfl ?_; refine gT Try.func75 (impl_reached.calls _ _ _ _ _ _ (sC (Kd.C_below a7.out HB.out)) a8.out aH.out) ?_; rintro aI w20 ⟨a9, hb⟩; have a0 := rL a9 HB; replace HB := hB HB hb; (try clear hb); (try clear a9); obtain ⟨b2, aY, rfl⟩ := Kd.R_slice a0.out) | (refine gF 103 (some 27) rfl ?_; refine gS Try.func103 (impl_sized.calls (sC (Kd.C_below a7.out HB.out)) a8.out (sC (Kd.R_reads' a0.out).2.2) ((Kd.R_reads' a0.out).2.1) aG.out) ?_; rintro w22 hb; replace a0 := rB a0 hb; replace HB := hB HB hb; (try clear hb))))
   go_ret
   exact ⟨rfl, sW HB.out⟩
  obtain rfl := oI H
  go_wp2_with (first | ((with_reducible refine gW ?_); first | (refine gF 75 (some 24) rfl ?_; refine gT Try.func75 (impl_reached.calls _ _ _ _ _ _ (sC (Kd.C_below a7.out HB.out)) a8.out aH.out) ?_; rintro aI w24 ⟨a9, hb⟩; have a0 := rL a9 HB; replace HB := hB HB hb; (try clear hb); (try clear a9); obtain ⟨b1, aX, rfl⟩ := Kd.R_slice a0.out) | (refine gF 103 (some 27) rfl ?_; refine gS Try.func103 (impl_sized.calls (sC (Kd.C_below a7.out HB.out)) a8.out (sC (Kd.R_reads' a0.out).2.2) ((Kd.R_reads' a0.out).2.1) aG.out) ?_; rintro w26 hb; replace a0 := rB a0 hb; replace HB := hB HB hb; (try clear hb))))
  go_ret
  exact ⟨rfl, sW HB.out⟩
def uZ (k : Nat) (l0 : List (S31)) : Option (Int × Bool) := (uW k l0).bind fun a2 => (if a2 = true then ((rH k l0).bind fun a1 => (if a1 > 12 then (some (0, false)) else (if 8 ≤ 35184372088832 then ((tN k l0 (List.replicate 8 0)).bind fun a0 => (some (a0.1, a0.2))) else (none)))) else (some (0, false)))
theorem impl_Holds.calls {k : Nat} {A0 : Option Addr} {c0 : Nat} {l0 : List (S31)} {r1 : Int} {r2 : Bool} {w : World} (hr0 : Kd.C k31 w A0 l0.length l0) (hc0 : l0.length ≤ c0) (h : uZ k l0 = some (r1, r2)) :
  Calls Try.prog 36 #[.slice A0 l0.length c0] w fun e w' => e = .returned (.tuple #[.int .i64 r1, .bool r2]) ∧ Below w.heap.size w w' := by
 have a1 := am hr0
 have a2 := am hc0
 clear hr0 hc0
 have HB := am (Below.refl w.heap.size w)
 have H := h
 clear h
 unfold uZ at H
 replace H := oA H; obtain ⟨aC, A2, H⟩ := H
 replace H := iB H; rcases H with ⟨rfl, H⟩ | ⟨rfl, H⟩
 rotate_left
 ·simp only [Option.some.injEq, Prod.mk.injEq] at H
  obtain ⟨rfl, rfl⟩ := H
  go_enter Try.func36, Try.ntmps36
  go_wp2_with (first | ((with_reducible refine gW ?_); first | (refine gC 65 (some 5) Try.func65 #[.slice A0 l0.length c0] ?_; (with_reducible refine (impl_Sentence.calls ?side1 ?side2 A2.out).mono ?_); (case side1 => repeat (first | exact a1.out | (with_reducible refine Kd.C_alloc ?_ _) | (with_reducible refine Kd.C_drewN ?_ _) | (with_reducible refine Kd.C_drew ?_))); (case side2 => exact a2.out); rintro e w16 ⟨rfl, hb⟩; refine ⟨_, rfl, ?_⟩; replace HB := hB HB hb; (try clear hb))))
  go_ret2
  exact ⟨rfl, sW HB.out⟩
 replace H := oA H; obtain ⟨a4, A4, H⟩ := H
 by_cases c5 : a4 > 12
 ·rw [if_pos c5] at H
  have a7 : decide (12 < a4) = true := decide_eq_true c5
  clear c5
  simp only [Option.some.injEq, Prod.mk.injEq] at H
  obtain ⟨rfl, rfl⟩ := H
  go_enter Try.func36, Try.ntmps36
  go_wp2_with (first | (go_at_call 46; refine (impl_quantBits.calls _ _ _ _ _ _ (sC (Kd.C_below a1.out HB.out)) a2.out A4.out).mono ?_; rintro e w7 ⟨rfl, hb⟩; replace HB := hB HB hb; (try clear hb)) | ((with_reducible refine gW ?_); first | (refine gC 65 (some 5) Try.func65 #[.slice A0 l0.length c0] ?_; (with_reducible refine (impl_Sentence.calls ?side1 ?side2 A2.out).mono ?_); (case side1 => repeat (first | exact a1.out | (with_reducible refine Kd.C_alloc ?_ _) | (with_reducible refine Kd.C_drewN ?_ _) | (with_reducible refine Kd.C_drew ?_))); (case side2 => exact a2.out); rintro e w6 ⟨rfl, hb⟩; refine ⟨_, rfl, ?_⟩; replace HB := hB HB hb; (try clear hb))))
  go_ret2
  exact ⟨rfl, sW HB.out⟩
 rw [if_neg c5] at H
 have a7 : decide (12 < a4) = false := decide_eq_false c5
 clear c5
 replace H := iTD H; obtain ⟨aF, aE, H⟩ := H
 generalize a5 : (List.replicate 8 0 : List Int) = a8 at H
 have a6 := am a5.symm; clear a5
 replace H := oA H; obtain ⟨⟨aB, aA⟩, A9, H⟩ := H
 try dsimp only at H
 simp only [Option.some.injEq, Prod.mk.injEq] at H
 obtain ⟨rfl, rfl⟩ := H
 go_enter Try.func36, Try.ntmps36
 go_wp2_with (first | (go_at_call 46; refine (impl_quantBits.calls _ _ _ _ _ _ (sC (Kd.C_below a1.out HB.out)) a2.out A4.out).mono ?_; rintro e w11 ⟨rfl, hb⟩; replace HB := hB HB hb; (try clear hb)) | ((with_reducible refine gW ?_); first | (refine gC 65 (some 5) Try.func65 #[.slice A0 l0.length c0] ?_; (with_reducible refine (impl_Sentence.calls ?side1 ?side2 A2.out).mono ?_); (case side1 => repeat (first | exact a1.out | (with_reducible refine Kd.C_alloc ?_ _) | (with_reducible refine Kd.C_drewN ?_ _) | (with_reducible refine Kd.C_drew ?_))); (case side2 => exact a2.out); rintro e w10 ⟨rfl, hb⟩; refine ⟨_, rfl, ?_⟩; replace HB := hB HB hb; (try clear hb)) | ((with_reducible refine qF (N := 13) rfl ?_); refine Kd.R_make (Kd.int .i64) _ 3 rfl (N := 13) rfl 25 _ _ rfl 8 rfl rfl Try.underlying25 (.int .i64 0) 8 a0u rfl (by decide) oM 0 (ok := fun _ => True) (okp := fun _ => True) rfl (fun _ hk => hk) trivial oM oM (Below.refl _ _) (Nat.le_refl _) ?_; intro a9 w12 a3 hb hg_ hnew_; clear hg_ hnew_; ((simp only [Int.reduceToNat] at a3; rw [← a6.out] at a3)); have a0 := rL a3 HB; replace HB := hB HB hb; clear hb a3; obtain ⟨aG, aD, rfl⟩ := Kd.R_slice a0.out) | (refine gF 14 (some 14) rfl ?_; refine gS Try.func14 (impl_Value.calls (sC (Kd.C_below a1.out HB.out)) a2.out (sC (Kd.R_reads' a0.out).2.2) ((Kd.R_reads' a0.out).2.1) A9.out) ?_; rintro w15 hb; replace a0 := rB a0 hb; replace HB := hB HB hb; (try clear hb))))
 go_ret2
 exact ⟨rfl, sW HB.out⟩
end Go.Proofs.Ytkpipmojkhikaaa.PAll
