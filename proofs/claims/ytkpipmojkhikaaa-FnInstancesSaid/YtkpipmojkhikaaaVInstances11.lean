/- Written by a program of this session over the loaded program, and by hand: Go functions as plain Lean functions, and that a call comes to what they say. -/
import Derived.Test.YtkpipmojkhikaaaVInstances0
import Derived.Test.YtkpipmojkhikaaaVInstances1
import Derived.Test.YtkpipmojkhikaaaVInstances6
import Derived.Test.YtkpipmojkhikaaaVInstances10
import Derived.Test.YtkpipmojkhikaaaBase
import Derived.Test.YtkpipmojkhikaaaSq
namespace Go.Proofs.Ytkpipmojkhikaaa.PAll
open Go.RowKit Go.Proofs.YtkpipmojkhikaaaW.PrintWords Go.Proofs.YtkpipmojkhikaaaW.PrintLast Go.Proofs.YtkpipmojkhikaaaW.PrintMore Go.Proofs.YtkpipmojkhikaaaW.Sq
attribute [local go_sem] rF rC tK tJ qE qD rD rA
set_option linter.unusedVariables false
set_option maxHeartbeats 8000000
set_option maxRecDepth 100000
set_option linter.unusedSimpArgs false
mutual
def tX : Nat → List (S31) → Int → List Int → Int → Int → Option ((List (S31)) × Int × Int)
 | 0, _, _, _, _, _ => none
 | k + 1, x3, x4, a2, a1, a0 => if x4 < 3 then (if (x3.length : Int) > 1 then (if 0 ≤ (wrap64 ((x3.length : Int) - 1)) then (if (wrap64 ((x3.length : Int) - 1)) < (x3.length : Int) then ((qM ((kA x3 (wrap64 ((x3.length : Int) - 1))).f0)).bind fun a4 => (rS k x3 x4 a4 a2 a1 a0)) else (none)) else (none)) else (rS k x3 x4 false a2 a1 a0)) else (rS k x3 x4 false a2 a1 a0)
def rS : Nat → List (S31) → Int → Bool → List Int → Int → Int → Option ((List (S31)) × Int × Int)
 | 0, _, _, _, _, _, _ => none
 | k + 1, x3, x4, a5, a2, a1, a0 => if a5 = true then ((qW a2 a1 a0 3).bind fun a3 => (if a3.1 = true then (some (x3, a3.2.1, a3.2.2)) else (if 0 ≤ (wrap64 ((x3.length : Int) - 1)) then (if (wrap64 ((x3.length : Int) - 1)) ≤ (x3.length : Int) then (tX k (x3.take ((wrap64 ((x3.length : Int) - 1)) : Int).toNat) (wrap64 (x4 + 1)) a2 a3.2.1 a3.2.2) else (none)) else (none)))) else (some (x3, a1, a0))
end
def wU (k : Nat) (a1 : List Int) (a3 : Int) (a2 : Int) : Option ((List (S31)) × Int × Int) := (xK k a1 a3 a2).bind fun a0 => (tX k a0.1 0 a1 a0.2.1 a0.2.2)
theorem b8x {P : Prop} (h : P := by
 go_wp2
 go_meet
 case rel => exact ⟨_, false, rfl, H, ⟨by have := aB.out; omega⟩, ⟨sR <| a1.out⟩, ⟨kG⟩, ⟨kB⟩, ⟨kF⟩⟩) : P := h
theorem spec_l04Open.calls {k g : Nat} {a4 : List Int} {aE aD : Int} {r1 : List (S31)} {r2 r3 : Int} (w0 w : World) (hI : IsS93 w0 w g a4 aE aD) (hB : Below w0.heap.size w0 w) (h : wU k a4 aE aD = some (r1, r2, r3)) :
  Calls Try.prog 40 #[.pointer (some ⟨g, 0, none⟩)] w fun e w' => ∃ aL : Value, e = .returned (aL) ∧ Kd.R k31 31 w' w.heap.size (fun _ => True) aL r1 ∧ IsS93 w0 w' g a4 r2 r3 ∧ Below w0.heap.size w0 w' ∧ KeepBut w w' g none := by
 have HI0 := am hI
 have HK := am (KeepBut.refl w g none)
 have HL := am hB.size
 clear hI
 have HW0 := am hB.size
 have HB := am hB
 clear hB
 have H := h
 clear h
 unfold wU at H
 replace H := oA H; obtain ⟨⟨aV, aU, aT⟩, A2, H⟩ := H
 try dsimp only at H
 replace H := am H
 go_enter Try.func40, Try.ntmps40
 go_wp2_with (first | ((with_reducible refine gW ?_); first | (refine gF 60 (some 6) rfl ?_; refine gT Try.func60 (spec_l02Any.calls w0 _ kG kF A2.out) ?_; rintro bH w3 ⟨aN, hi, hb, hk⟩; have aK := am (Kd.R_lower aN (vJ (w := w) (g := g) (row := none) (by exact kB))); replace HK := kT hk; replace HB := am hb; replace HI0 := am hi; (try clear hb); (try clear hk); (try clear hi); (try clear aN))))
 go_loopg [3, 4] k (fun kq v3 v4 w' => ∃ (a0 : List (S31)) (a6 : Int) (a3 : Int) (a2 : Int), v4 = .int .i64 a6 ∧ Aside0 (tX kq a0 a6 a4 a3 a2 = some (r1, r2, r3)) ∧ Aside0 (kq ≤ k) ∧ Aside0 (Kd.R k31 31 w' w.heap.size (fun _ => True) v3 a0) ∧ Aside0 (IsS93 w0 w' g a4 a3 a2) ∧ Aside0 (KeepBut w w' g none) ∧ Aside0 (Below w0.heap.size w0 w'))
 case atStart => exact ⟨aV, 0, aU, aT, rfl, H, ⟨Nat.le_refl _⟩, ⟨sR <| aK.out⟩, ⟨kG⟩, ⟨kB⟩, ⟨kF⟩⟩
 clear H
 obtain ⟨a0, a6, a3, a2, rfl, HA, aB, a1, HI0, HK, HB⟩ := hrel
 cases gk with
 | zero => cases HA.out
 | succ k1 =>
  obtain ⟨H⟩ := HA
  simp only [tX] at H
  have aH := am H; clear H
  go_upto_region 3 with (fail)
  go_cut [23] (fun b7 wc => ∃ (kq : Nat) (a7 : Bool), b7 = .bool a7 ∧ Aside0 (rS kq a0 a6 a7 a4 a3 a2 = some (r1, r2, r3)) ∧ Aside0 (kq ≤ k1) ∧ Aside0 (Kd.R k31 31 wc w.heap.size (fun _ => True) u3 a0) ∧ Aside0 (IsS93 w0 wc g a4 a3 a2) ∧ Aside0 (KeepBut w wc g none) ∧ Aside0 (Below w0.heap.size w0 wc))
  case first =>
   have H := aH.out
   clear aH
   replace H := iD H; rcases H with ⟨a_, H⟩ | ⟨a_, H⟩
   rotate_left
   ·replace H := am H
    exact b8x
   by_cases c6 : (a0.length : Int) > 1
   ·rw [if_pos c6] at H
    have aZ : decide (1 < (a0.length : Int)) = true := decide_eq_true c6
    have aY : decide (1 < a0.length) = true := decide_eq_true oM
    clear c6
    generalize aW : wrap64 ((a0.length : Int) - 1) = aM at H
    have bB : (IntKind.i64.wrap ((a0.length : Int) - 1)) = aM := (vE _).trans aW
    replace H := iN H; obtain ⟨bO, H⟩ := H
    replace H := iN H; obtain ⟨bN, H⟩ := H
    replace H := oA H; obtain ⟨aS, bA, H⟩ := H
    replace H := am H
    obtain ⟨bQ, bM, rfl⟩ := Kd.R_slice a1.out
    obtain ⟨bK, bJ, bG, rfl, b6, b5, b4, b3, b2, b1⟩ := ix (pE (Kd.R_reads' a1.out).2.2 (aM))
    go_wp2_with (first | (go_at_call 50; refine cD (spec_l02Quant.calls bA.out) fun nd => ?_))
    go_meet
    case rel => exact ⟨_, aS, rfl, H, ⟨by have := aB.out; omega⟩, ⟨sR <| a1.out⟩, ⟨kG⟩, ⟨kB⟩, ⟨kF⟩⟩
   rw [if_neg c6] at H
   have aZ : decide (1 < (a0.length : Int)) = false := decide_eq_false c6
   have aY : decide (1 < a0.length) = false := decide_eq_false oM
   clear c6
   replace H := am H
   obtain ⟨bP, bL, rfl⟩ := Kd.R_slice a1.out
   exact b8x
  clear aH
  obtain ⟨kq, a7, rfl, HA, aO, a1, HI0, HK, HB⟩ := hcut
  cases kq with
  | zero => cases HA.out
  | succ b8 =>
   obtain ⟨H⟩ := HA
   simp only [rS] at H
   replace H := iB H; rcases H with ⟨rfl, H⟩ | ⟨rfl, H⟩
   rotate_left
   ·simp only [Option.some.injEq, Prod.mk.injEq] at H
    obtain ⟨rfl, rfl, rfl⟩ := H
    go_wp2
    go_ret
    exact ⟨_, rfl, sR <| a1.out, kG, kF, kB⟩
   replace H := oA H; obtain ⟨⟨bI, aR, aQ⟩, aI, H⟩ := H
   try dsimp only at H
   replace H := iB H; rcases H with ⟨rfl, H⟩ | ⟨rfl, H⟩
   ·simp only [Option.some.injEq, Prod.mk.injEq] at H
    obtain ⟨rfl, rfl, rfl⟩ := H
    go_wp2_with (first | ((with_reducible refine gW ?_); first | (refine gF 68 (some 27) rfl ?_; refine gS Try.func68 (spec_l01Once.calls w0 _ kG kF aI.out) ?_; rintro w16 ⟨hi, hb, hk⟩; replace a1 := sH a1 hk; replace HK := kT hk; replace HB := am hb; replace HI0 := am hi; (try clear hb); (try clear hk); (try clear hi))))
    go_ret
    exact ⟨_, rfl, sR <| a1.out, kG, kF, kB⟩
   generalize a9 : wrap64 ((a0.length : Int) - 1) = a5 at H
   (try rw [a9] at aI)
   have b9 : (IntKind.i64.wrap ((a0.length : Int) - 1)) = a5 := (vE _).trans a9
   replace H := iTD H; obtain ⟨bF, bE, H⟩ := H
   replace H := iTD H; obtain ⟨bD, bC, H⟩ := H
   generalize a8 : a0.take ((a5) : Int).toNat = aC at H
   have aA := am a8.symm; clear a8
   replace H := am H
   go_wp2_with (first | ((with_reducible refine gW ?_); first | (refine gF 68 (some 27) rfl ?_; refine gS Try.func68 (spec_l01Once.calls w0 _ kG kF aI.out) ?_; rintro w20 ⟨hi, hb, hk⟩; replace a1 := sH a1 hk; replace HK := kT hk; replace HB := am hb; replace HI0 := am hi; (try clear hb); (try clear hk); (try clear hi); obtain ⟨b0, aX, rfl⟩ := Kd.R_slice a1.out; have aF : ((a5) : Int) ≤ ((a0.length : Int) : Int) := oD (by assumption); obtain ⟨i022, hi022, _, hsz22, _⟩ := info_parts uV; have hcut22 := b0y (P := Try.prog) 24 31 .i64 Try.underlying24 hi022 b0 a0.length aX (a5) (oD (by assumption)) aF (Kd.R_reads' a1.out).2.1; have hr22 := Kd.R_take (m := ((a5) : Int).toNat) a1.out oM; have aG : aC.length = ((a5) : Int).toNat := (by rw [aA.out, List.length_take]; omega); rw [← aA.out] at hr22; rw [← aG] at hr22 hcut22; clear aG hi022 hsz22 a1; have aJ := am hr22; clear hr22; replace aF := eq_true aF)))
   go_roundg b8
   case measure => have := aB.out; have := aO.out; omega
   case rel => exact ⟨aC, (wrap64 (a6 + 1)), aR, aQ, rfl, H, ⟨by have := aB.out; have := aO.out; omega⟩, ⟨sR <| aJ.out⟩, ⟨kG⟩, ⟨kB⟩, ⟨kF⟩⟩
mutual
def vN : Nat → List Int → Int → List Int → Int → Int → Option (List Int × Int × Int)
 | 0, _, _, _, _, _ => none
 | k + 1, x3, x4, a2, a1, a0 => uM k x3 x4 0 a2 a1 a0
def uM : Nat → List Int → Int → Int → List Int → Int → Int → Option (List Int × Int × Int)
 | 0, _, _, _, _, _, _ => none
 | k + 1, x3, x4, x5, a2, a1, a0 => if x5 < x4 then ((kQ a2 a1 a0 4).bind fun a3 => (if x3.length < 17592186044416 then (uM k (x3 ++ [a3.1]) x4 (wrap64 (x5 + 1)) a2 a3.2.1 a3.2.2) else (none))) else (some (x3, a1, a0))
end
def xJ (k : Nat) (a1 : List Int) (a4 : Int) (a3 : Int) : Option (List Int × Int × Int) := (some (([] : List Int) : List Int)).bind fun a2 => ((qW a1 a4 a3 20).bind fun a0 => (if a0.1 = true then (vN k a2 7 a1 a0.2.1 a0.2.2) else (vN k a2 8 a1 a0.2.1 a0.2.2)))
theorem spec_l04Env.calls {k g : Nat} {a1 : List Int} {aM aK : Int} {r1 : List Int} {r2 r3 : Int} (w0 w : World) (hI : IsS93 w0 w g a1 aM aK) (hB : Below w0.heap.size w0 w) (h : xJ k a1 aM aK = some (r1, r2, r3)) :
  Calls Try.prog 41 #[.pointer (some ⟨g, 0, none⟩)] w fun e w' => ∃ aU : Value, e = .returned (aU) ∧ Kd.R (Kd.int .i64) 3 w' w.heap.size (fun _ => True) aU r1 ∧ IsS93 w0 w' g a1 r2 r3 ∧ Below w0.heap.size w0 w' ∧ KeepBut w w' g none := by
 have HI0 := am hI
 have HK := am (KeepBut.refl w g none)
 have HL := am hB.size
 clear hI
 have HW0 := am hB.size
 have HB := am hB
 clear hB
 have H := h
 clear h
 unfold xJ at H
 replace H := oS H; obtain ⟨aD, aJ, H⟩ := H
 replace H := oA H; obtain ⟨⟨b3, aH, aG⟩, A2, H⟩ := H
 try dsimp only at H
 have aN := am H; clear H
 go_enter Try.func41, Try.ntmps41
 go_upto_if 8 with (first | ((with_reducible refine gW ?_); first | ((with_reducible refine pQ (N := 6) rfl ?_); refine Kd.R_lit (Kd.int .i64) _ 3 ?hg (N := 6) ?hd (xs := ([] : List Int)) (inner := []) (ok := fun _ => True) (okp := fun _ => True) ?hr ?hp (fun _ hk => hk) trivial (Below.refl _ _) (Nat.le_refl _) (by simp) ?_; (case hd => rfl); (case hg => rfl); (case hr => first | (go_simp; done) | (go_simp; rfl)); (case hp => exact (Reps.none _ _)); intro aZ w4 aC hb hg_ hnew_; clear hg_ hnew_; (first | rw [← aJ.out] at aC | (simp only [Int.reduceToNat] at aC; rw [← aJ.out] at aC)); have aB := am (Kd.R_lower aC (vJ (w := w) (g := g) (row := none) (by exact kB))); have aA := am (IsS93.below (by exact kG) hb); have a9 := kT (rH hb g none); have a8 := hX hb (by exact kF); clear HI0; clear HK; clear HB; have a4 := aB; have HI0 := aA; have HK := a9; have HB := a8; clear aB aA a9 a8; clear hb aC) | (refine gF 68 (some 8) rfl ?_; refine gS Try.func68 (spec_l01Once.calls w0 _ kG kF A2.out) ?_; rintro w6 ⟨hi, hb, hk⟩; replace a4 := sH a4 hk; replace HK := kT hk; replace HB := am hb; replace HI0 := am hi; (try clear hi)))); clear hb hk
 (try simp only [Act.put, List.setIfInBounds_toArray, List.set_cons_zero, List.set_cons_succ])
 go_cut [4] (fun v4 wc => ∃ (kq : Nat) (a7 : Int), v4 = .int .i64 a7 ∧ Aside0 (vN kq aD a7 a1 aH aG = some (r1, r2, r3)) ∧ Aside0 (kq ≤ k) ∧ Aside0 (Kd.R (Kd.int .i64) 3 wc w.heap.size (fun _ => True) aZ aD) ∧ Aside0 (IsS93 w0 wc g a1 aH aG) ∧ Aside0 (KeepBut w wc g none) ∧ Aside0 (Below w0.heap.size w0 wc))
 case first =>
  have H := aN.out
  clear aN
  replace H := iB H; rcases H with ⟨rfl, H⟩ | ⟨rfl, H⟩
  ·replace H := am H
   go_wp2
   go_meet
   case rel => exact ⟨_, 7, rfl, H, ⟨oM⟩, ⟨sR <| a4.out⟩, ⟨kG⟩, ⟨kB⟩, ⟨kF⟩⟩
  replace H := am H
  go_wp2
  go_meet
  case rel => exact ⟨_, 8, rfl, H, ⟨oM⟩, ⟨sR <| a4.out⟩, ⟨kG⟩, ⟨kB⟩, ⟨kF⟩⟩
 clear aN
 obtain ⟨kq, a7, rfl, HA, aX, a0, HI0, HK, HB⟩ := hcut
 cases kq with
 | zero => cases HA.out
 | succ aV =>
  obtain ⟨H⟩ := HA
  simp only [vN] at H
  replace H := am H
  go_wp2
  go_loopg [3, 5] aV (fun kq v3 v5 w' => ∃ (a5 : List Int) (a6 : Int) (a3 : Int) (a2 : Int), v5 = .int .i64 a6 ∧ Aside0 (uM kq a5 a7 a6 a1 a3 a2 = some (r1, r2, r3)) ∧ Aside0 (kq ≤ aV) ∧ Aside0 (Kd.R (Kd.int .i64) 3 w' w.heap.size (fun _ => True) v3 a5) ∧ Aside0 (IsS93 w0 w' g a1 a3 a2) ∧ Aside0 (KeepBut w w' g none) ∧ Aside0 (Below w0.heap.size w0 w'))
  case atStart => exact ⟨aD, 0, aH, aG, rfl, H, ⟨Nat.le_refl _⟩, ⟨sR <| a0.out⟩, ⟨kG⟩, ⟨kB⟩, ⟨kF⟩⟩
  clear H
  obtain ⟨a5, a6, a3, a2, rfl, HA, aW, a0, HI0, HK, HB⟩ := hrel
  cases gk with
  | zero => cases HA.out
  | succ k2 =>
   obtain ⟨H⟩ := HA
   simp only [uM] at H
   replace H := iD H; rcases H with ⟨b1, H⟩ | ⟨b1, H⟩
   ·replace H := oA H; obtain ⟨⟨aE, b0, a_⟩, A9, H⟩ := H
    try dsimp only at H
    replace H := iP H; obtain ⟨c10, H⟩ := H
    have aR := am c10
    clear c10
    generalize aI : a5 ++ [aE] = aY at H
    have aQ := am aI.symm; clear aI
    replace H := am H
    go_wp2_with (first | ((with_reducible refine gW ?_); first | (refine gF 69 (some 16) rfl ?_; refine gS Try.func69 (spec_l01Below.calls _ _ _ _ _ _ _ _ w0 _ kG kF A9.out) ?_; rintro w11 ⟨hi, hb, hk⟩; replace a0 := sH a0 hk; replace HK := kT hk; replace HB := am hb; replace HI0 := am hi; (try clear hb); (try clear hk); (try clear hi)) | ((with_reducible refine kS (b := .append) (xs := #[.tmp 14, .tmp 17]) rfl ?_); at_builtin; refine Kd.R_append (Kd.int .i64) w.heap.size rfl (.tmp 14) (.tmp 17) 25 3 (.int .i64 0) 8 rfl Try.underlying25 a0z rfl (by decide) oM u3 a5 aE [.int .i64 aE] (fun _ => True) (fun _ => False) rfl rfl ?aP (fun _ hk => hk.elim) ?aF ?aO (Below.refl _ _) ?aS ?aL ?_; (case aP => exact rfl); (case aF => exact (fun _ _ => trivial)); (case aO => exact (by exact sR <| a0.out)); (case aS => exact (vJ (w := w) (g := g) (row := none) (by exact kB))); (case aL => have := aR.out; omega); intro b2 w12 ho hb hg hat; rw [← aQ.out] at ho; have aB := am (IsS93.grown (by exact kG) hg (oZ HI0.out a0.out (by decide))); have aA := am (a3k (by exact kF) HL.out hb); have a9 := am (KeepBut.trans (by exact kB) (tM hg g) (Kd.R_base2 a0.out)); have a8 := am (ho); clear HI0; clear HB; clear HK; clear a0; have HI0 := aB; have HB := aA; have HK := a9; have aT := a8; clear aB aA a9 a8; clear ho hb hg hat)))
    go_roundg k2
    case measure => have := aX.out; have := aW.out; omega
    case rel => exact ⟨aY, (wrap64 (a6 + 1)), b0, a_, rfl, H, ⟨by have := aX.out; have := aW.out; omega⟩, ⟨sR <| aT.out⟩, ⟨kG⟩, ⟨kB⟩, ⟨kF⟩⟩
   simp only [Option.some.injEq, Prod.mk.injEq] at H
   obtain ⟨rfl, rfl, rfl⟩ := H
   go_wp2
   go_ret
   exact ⟨_, rfl, sR <| a0.out, kG, kF, kB⟩
def vG (k : Nat) (l0 : List Int) : Option ((List (S31)) × List Int) := (xL k l0).bind fun a0 => ((wU k a0.1 a0.2.1 a0.2.2).bind fun a1 => ((xJ k a0.1 a1.2.1 a1.2.2).bind fun a2 => (some (a1.1, a2.1))))
theorem spec_DrawValue.calls {k : Nat} {A0 : Option Addr} {c0 : Nat} {l0 : List Int} {r1 : List (S31)} {r2 : List Int} {w : World} (hr0 : Kd.C (Kd.int .u8) w A0 l0.length l0) (hc0 : l0.length ≤ c0) (h : vG k l0 = some (r1, r2)) :
  Calls Try.prog 11 #[.slice A0 l0.length c0] w fun e w' => ∃ a6 a5 : Value, e = .returned (.tuple #[a6, a5]) ∧ Kd.R k31 31 w' w.heap.size (fun _ => True) a6 r1 ∧ Kd.R (Kd.int .i64) 3 w' w.heap.size (fun _ => True) a5 r2 ∧ Below w.heap.size w w' := by
 have a7 := am hr0
 have a8 := am hc0
 clear hr0 hc0
 have HB := am (Below.refl w.heap.size w)
 have H := h
 clear h
 unfold vG at H
 replace H := oA H; obtain ⟨⟨aJ, aI, aH⟩, A2, H⟩ := H
 try dsimp only at H
 replace H := oA H; obtain ⟨⟨aG, aF, aE⟩, A3, H⟩ := H
 try dsimp only at H
 replace H := oA H; obtain ⟨⟨aD, aC, aB⟩, A4, H⟩ := H
 try dsimp only at H
 simp only [Option.some.injEq, Prod.mk.injEq] at H
 obtain ⟨rfl, rfl⟩ := H
 go_enter Try.func11, Try.ntmps11
 go_wp2_with (first | ((with_reducible refine gW ?_); first | (refine gC 39 (some 7) Try.func39 #[.slice A0 l0.length c0] ?_; (with_reducible refine (spec_l01New.calls w _ (sW HB.out) a7.out a8.out A2.out).mono ?_); rintro e w5 ⟨a3, rfl, hi, hb, hb2⟩; refine ⟨_, rfl, ?_⟩; replace HB := am hb; have a0 := am hi; (try clear hb); (try clear hb2); (try clear hi)) | (refine gC 40 (some 9) Try.func40 #[.pointer (some ⟨a3, 0, none⟩)] ?_; (with_reducible refine (spec_l04Open.calls w _ ?side1 ?side2 A3.out).mono ?_); (case side1 => repeat (first | (with_reducible first | exact a0.out | apply IsS93.alloc | apply IsS93.drewN | apply IsS93.drew | apply a2f | apply a2e) | exact a0.out)); (case side2 => repeat (first | (with_reducible first | exact HB.out | apply kN | apply kI | apply kM | refine pJ ?_ (a0o a0.out)) | exact HB.out)); rintro e w6 ⟨aA, rfl, a2, hi, hb, hk⟩; refine ⟨_, rfl, ?_⟩; have a1 := am (Kd.R_lower a2 (kE (by repeat (first | (with_reducible first | exact HB.out | apply kN | apply kI | apply kM | refine pJ ?_ (a0o a0.out)) | exact HB.out)))); replace HB := am hb; replace a0 := am hi; (try clear hb); (try clear hk); (try clear hi); (try clear a2)) | (refine gC 41 (some 12) Try.func41 #[.pointer (some ⟨a3, 0, none⟩)] ?_; (with_reducible refine (spec_l04Env.calls w _ ?side1 ?side2 A4.out).mono ?_); (case side1 => repeat (first | (with_reducible first | exact a0.out | apply IsS93.alloc | apply IsS93.drewN | apply IsS93.drew | apply a2f | apply a2e) | exact a0.out)); (case side2 => repeat (first | (with_reducible first | exact HB.out | apply kN | apply kI | apply kM | refine pJ ?_ (a0o a0.out)) | exact HB.out)); rintro e w7 ⟨a9, rfl, a2, hi, hb, hk⟩; refine ⟨_, rfl, ?_⟩; replace a1 := sH a1 hk (hI := a0.out); have a4 := am (Kd.R_lower a2 (kE (by repeat (first | (with_reducible first | exact HB.out | apply kN | apply kI | apply kM | refine pJ ?_ (a0o a0.out)) | exact HB.out)))); replace HB := am hb; replace a0 := am hi; (try clear hb); (try clear hk); (try clear hi); (try clear a2))))
 go_ret2
 exact ⟨_, _, rfl, sR <| a1.out, sR <| a4.out, by repeat (first | (with_reducible first | exact HB.out | apply kN | apply kI | apply kM | refine pJ ?_ (a0o a0.out)) | exact HB.out)⟩
def a0b (l0 : List Int) (a1 : Int) : Option (Int) := if a1 < (l0.length : Int) then (if 0 ≤ a1 then (some (wrap64 (rd l0 a1))) else (none)) else (some (Int.tmod (wrap64 ((wrap64 (a1 * 7)) + (l0.length : Int))) 256))
theorem laws_at.calls {A0 : Option Addr} {c0 : Nat} {l0 : List Int} {a1 r : Int} {w : World} (hr0 : Kd.C (Kd.int .u8) w A0 l0.length l0) (hc0 : l0.length ≤ c0) (h : a0b l0 a1 = some r) :
  Calls Try.prog 12 #[.slice A0 l0.length c0, .int .i64 a1] w fun e w' => e = .returned (.int .i64 r) ∧ Drawn0 w w' := by
 have a3 := am hr0
 have a8 := am hc0
 clear hr0 hc0
 have H := h
 clear h
 unfold a0b at H
 replace H := iD H; rcases H with ⟨a0, H⟩ | ⟨a0, H⟩
 ·replace H := iN H; obtain ⟨a7, H⟩ := H
  obtain rfl := oI H
  obtain ⟨a6, a5, a4, rfl, a2⟩ := ix (Kd.at_int a3.out a1)
  go_enter Try.func12, Try.ntmps12
  go_wp2
  go_ret
  exact ⟨rfl, dR⟩
 obtain rfl := oI H
 go_enter Try.func12, Try.ntmps12
 go_wp2
 go_ret
 exact ⟨rfl, dR⟩
def pY (a0 : Int) (a1 : Int) (a2 : Int) : Option (Bool) := if a0 ≥ a1 then (some (decide (a0 ≤ a2))) else (some false)
theorem b8o {P : Prop} (h : P := by
 clear c4
 obtain rfl := oI H
 go_enter Try.func72, Try.ntmps72
 go_wp2
 go_ret
 exact ⟨rfl, dR⟩) : P := h
theorem impl_within.calls {a0 a1 a2 : Int} {r : Bool} {w : World} (h : pY a0 a1 a2 = some r) :
  Calls Try.prog 72 #[.int .i64 a0, .int .i64 a1, .int .i64 a2] w fun e w' => e = .returned (.bool r) ∧ Drawn0 w w' := by
 have H := h
 clear h
 unfold pY at H
 by_cases c4 : a0 ≥ a1
 ·rw [if_pos c4] at H
  have a3 : decide (a1 ≤ a0) = true := decide_eq_true c4
  exact b8o
 rw [if_neg c4] at H
 have a3 : decide (a1 ≤ a0) = false := decide_eq_false c4
 exact b8o
def sU (a0 : Int) : Option (Bool) := (pY a0 1 8).bind fun a1 => (some a1)
theorem impl_isWidth.calls {a0 : Int} {r : Bool} {w : World} (h : sU a0 = some r) :
  Calls Try.prog 83 #[.int .i64 a0] w fun e w' => e = .returned (.bool r) ∧ Drawn0 w w' := by
 have H := h
 clear h
 unfold sU at H
 replace H := oA H; obtain ⟨a1, A2, H⟩ := H
 obtain rfl := oI H
 go_enter Try.func83, Try.ntmps83
 go_wp2_with (first | ((with_reducible refine gW ?_); first | (refine gD (some 4) Try.func72 rfl (impl_within.calls A2.out) fun nd => ?_)))
 go_ret
 exact ⟨rfl, dR⟩
def qU (a0 : Int) (a1 : Int) : Option (Bool) := (sU a0).bind fun a3 => (if a3 = true then (if 0 ≤ (IntKind.u64.wrap (a0)) then ((pY a1 0 (wrap64 ((shl .i64 1 (IntKind.u64.wrap (a0))) - 1))).bind fun a2 => (some a2)) else (none)) else (some false))
theorem impl_WordOk.calls (a0 a1 : Int) (r : Bool) (w : World) (h : qU a0 a1 = some r) :
  Calls Try.prog 54 #[.int .i64 a0, .int .i64 a1] w fun e w' => e = .returned (.bool r) ∧ Drawn0 w w' := by
 have H := h
 clear h
 unfold qU at H
 replace H := oA H; obtain ⟨aD, A3, H⟩ := H
 replace H := iB H; rcases H with ⟨rfl, H⟩ | ⟨rfl, H⟩
 ·generalize a7 : IntKind.u64.wrap (a0) = a2 at H
  (try rw [a7] at A3)
  replace H := iTD H; obtain ⟨aF, aE, H⟩ := H
  generalize a4 : shl .i64 1 (a2) = a3 at H
  (try rw [a4] at A3)
  have a6 : (IntKind.i64.wrap (1 * 2 ^ min (a2).toNat 64)) = a3 := a4
  have a5 : (a2) ≤ 64 → (IntKind.i64.wrap (1 * 2 ^ (a2).toNat)) = a3 := yC a4
  have aB : (IntKind.i64.wrap (2 ^ min (a2).toNat 64)) = a3 := by have h_ := a6; rw [Int.one_mul] at h_; exact h_
  have aA : (a2) ≤ 64 → (IntKind.i64.wrap (2 ^ (a2).toNat)) = a3 := fun hle_ => by have h_ := a5 hle_; rw [Int.one_mul] at h_; exact h_
  have a8 : (wrap64 (1 * 2 ^ min (a2).toNat 64)) = a3 := (vE _).symm.trans a6
  have a9 : (a2) ≤ 64 → (wrap64 (1 * 2 ^ (a2).toNat)) = a3 := fun h_ => (vE _).symm.trans (a5 h_)
  replace H := oA H; obtain ⟨aC, A8, H⟩ := H
  obtain rfl := oI H
  go_enter Try.func54, Try.ntmps54
  go_wp2_with (first | (go_at_call 72; refine cD (impl_within.calls A8.out) fun nd => ?_) | ((with_reducible refine gW ?_); first | (refine gD (some 6) Try.func83 rfl (impl_isWidth.calls A3.out) fun nd => ?_)))
  go_ret
  exact ⟨rfl, dR⟩
 obtain rfl := oI H
 go_enter Try.func54, Try.ntmps54
 go_wp2_with (first | ((with_reducible refine gW ?_); first | (refine gD (some 6) Try.func83 rfl (impl_isWidth.calls A3.out) fun nd => ?_)))
 go_ret
 exact ⟨rfl, dR⟩
def qQ (a0 : Int) (a5 : Int) (a4 : Int) (a3 : Int) (a2 : Int) (a1 : Int) : Option (Bool) := if a0 = 19 then (some true) else (some (a0 == 20))
theorem b8g {P : Prop} (h : P := by
 obtain rfl := oI H
 go_enter Try.func53, Try.ntmps53
 go_wp2_with (first | ((with_reducible refine gW ?_); first | (refine bX 1 31 #[.int .i64 a5, .int .i64 a4, .int .i64 a3, .int .i64 a2, .int .i64 a1, .int .i64 a0] ?_; intro a9 hg aD hbox hb; have a6 := am hbox; have aA := gw hg; have aB := gw hg; replace HB := hB HB hb; clear hb hbox hg; have aC := cf6 a6.out)))
 go_ret
 exact ⟨rfl, bW⟩) : P := h
theorem impl_isQuant.calls {a5 a4 a3 a2 a1 a0 : Int} (r : Bool) (w : World) (h : qQ a5 a4 a3 a2 a1 a0 = some r) :
  Calls Try.prog 53 #[.agg #[.int .i64 a5, .int .i64 a4, .int .i64 a3, .int .i64 a2, .int .i64 a1, .int .i64 a0]] w fun e w' => e = .returned (.bool r) ∧ Below w.heap.size w w' := by
 have hu31 := Try.underlying31
 have HB := am (Below.refl w.heap.size w)
 have H := h
 clear h
 unfold qQ at H
 replace H := iE H; rcases H with ⟨a8, a7, H⟩ | ⟨a8, a7, H⟩
 ·exact b8g
 exact b8g
def wK : Nat → Bool → Int → Int → Int → Int → Int → Int → Option (List Int)
 | 0, _, _, _, _, _, _, _ => none
 | k + 1, x3, a2, a6, a5, a0, a1, a3 => if x3 = true then (some (([a0] : List Int))) else ((pY a2 3 16).bind fun a4 => (if a4 = true then (some (([a0, a1] : List Int))) else (if a2 = 18 then (some (([a0, a1, a3] : List Int))) else (some (([] : List Int))))))
def xD (k : Nat) (a0 : Int) (a5 : Int) (a4 : Int) (a3 : Int) (a2 : Int) (a1 : Int) : Option (List Int) := if a0 = 2 then (wK k true a0 a5 a4 a3 a2 a1) else (if a0 = 17 then (wK k true a0 a5 a4 a3 a2 a1) else ((qQ a0 a5 a4 a3 a2 a1).bind fun a6 => (wK k a6 a0 a5 a4 a3 a2 a1)))
theorem b8a {P : Prop} (h : P := by
 replace H := am H
 have bJ := cf6 a0.out
 go_wp2
 go_meet
 case rel => exact ⟨_, true, rfl, H, ⟨oM⟩, ⟨sB <| a0.out⟩, ⟨bW⟩⟩) : P := h
theorem impl_Parts.calls (k : Nat) (a6 a5 a4 a1 a2 a3 : Int) (r : List Int) (w : World) (h : xD k a6 a5 a4 a1 a2 a3 = some r) :
  Calls Try.prog 58 #[.agg #[.int .i64 a6, .int .i64 a5, .int .i64 a4, .int .i64 a1, .int .i64 a2, .int .i64 a3]] w fun e w' => ∃ aU : Value, e = .returned (aU) ∧ Kd.R (Kd.int .i64) 3 w' w.heap.size (fun _ => True) aU r ∧ Below w.heap.size w w' := by
 have hu31 := Try.underlying31
 have HB := am (Below.refl w.heap.size w)
 have H := h
 clear h
 unfold xD at H
 have aG := am H; clear H
 go_enter Try.func58, Try.ntmps58
 go_upto_region 1 with (first | ((with_reducible refine pQ (N := 1) rfl ?_); refine vZ ?hg (N := 1) ?hd (cs := #[.int .i64 a6, .int .i64 a5, .int .i64 a4, .int .i64 a1, .int .i64 a2, .int .i64 a3]) (t := 31) ?hr ?_; (case hd => rfl); (case hg => rfl); (case hr => (go_simp; done)); intro aI hg w3 hbox hb; have aY := am (xE (by exact sW HB.out) hb); have aX := am (hbox); have aW := gw hg; have aV := gw hg; clear HB; have HB := aY; have a0 := aX; have b8 := aW; have b9 := aV; clear aY aX aW aV; clear hb hbox hg))
 (try simp only [Act.put, List.setIfInBounds_toArray, List.set_cons_zero, List.set_cons_succ])
 go_cut [3] (fun v3 wc => ∃ (kq : Nat) (a7 : Bool), v3 = .bool a7 ∧ Aside0 (wK kq a7 a6 a5 a4 a1 a2 a3 = some r) ∧ Aside0 (kq ≤ k) ∧ Aside0 (wc.heap[aI]? = some (.cells #[.int .i64 a6, .int .i64 a5, .int .i64 a4, .int .i64 a1, .int .i64 a2, .int .i64 a3] 31 (0, 0))) ∧ Aside0 (Below w.heap.size w wc))
 case first =>
  have H := aG.out
  clear aG
  replace H := iE H; rcases H with ⟨b2, b1, H⟩ | ⟨b2, b1, H⟩
  ·exact b8a
  replace H := iE H; rcases H with ⟨b0, a_, H⟩ | ⟨b0, a_, H⟩
  ·exact b8a
  replace H := oA H; obtain ⟨aZ, A8, H⟩ := H
  replace H := am H
  have b7 := cf6 a0.out
  go_wp2_with (first | (go_at_call 53; refine (impl_isQuant.calls _ _ A8.out).mono ?_; rintro e w10 ⟨rfl, hb⟩; replace a0 := gB a0 hb; replace HB := hX hb; (try clear hb)))
  go_meet
  case rel => exact ⟨_, aZ, rfl, H, ⟨oM⟩, ⟨sB <| a0.out⟩, ⟨bW⟩⟩
 clear aG
 obtain ⟨kq, a7, rfl, HA, bL, a0, HB⟩ := hcut
 cases kq with
 | zero => cases HA.out
 | succ bK =>
  obtain ⟨H⟩ := HA
  simp only [wK] at H
  replace H := iB H; rcases H with ⟨rfl, H⟩ | ⟨rfl, H⟩
  ·generalize aF : ([a1] : List Int) = bD at H
   have aO := am aF.symm; clear aF
   obtain rfl := oI H
   have b6 := cf6 a0.out
   go_wp2_with (first | ((with_reducible refine pQ (N := 18) rfl ?_); refine Kd.R_lit (Kd.int .i64) _ 3 ?hg (N := 18) ?hd (xs := ([a1] : List Int)) (inner := [.int .i64 a1]) (ok := fun _ => True) (okp := fun _ => True) ?hr ?hp (fun _ hk => hk) trivial (Below.refl _ _) (Nat.le_refl _) (by simp) ?_; (case hd => rfl); (case hg => rfl); (case hr => (go_simp; done)); (case hp => exact (Reps.one (show Kd.M (Kd.int .i64) _ _ _ a1 [.int .i64 a1] from rfl) (Reps.none _ _))); intro bH w13 aB hb hg_ hnew_; clear hg_ hnew_; (rw [← aO.out] at aB); have aT := am (Kd.R_lower aB (kE (by exact bW))); replace a0 := gB a0 hb; replace HB := hX hb; clear hb aB))
   go_ret
   exact ⟨_, rfl, sR <| aT.out, bW⟩
  replace H := oA H; obtain ⟨bI, aH, H⟩ := H
  replace H := iB H; rcases H with ⟨rfl, H⟩ | ⟨rfl, H⟩
  ·generalize aE : ([a1, a2] : List Int) = bC at H
   have aN := am aE.symm; clear aE
   obtain rfl := oI H
   have b5 := cf6 a0.out
   go_wp2_with (first | ((with_reducible refine gW ?_); first | (refine gD (some 22) Try.func72 rfl (impl_within.calls aH.out) fun nd => ?_) | ((with_reducible refine pQ (N := 27) rfl ?_); refine Kd.R_lit (Kd.int .i64) _ 3 ?hg (N := 27) ?hd (xs := ([a1, a2] : List Int)) (inner := [.int .i64 a1, .int .i64 a2]) (ok := fun _ => True) (okp := fun _ => True) ?hr ?hp (fun _ hk => hk) trivial (Below.refl _ _) (Nat.le_refl _) (by simp) ?_; (case hd => rfl); (case hg => rfl); (case hr => (go_simp; done)); (case hp => exact (Reps.one (show Kd.M (Kd.int .i64) _ _ _ a1 [.int .i64 a1] from rfl) (Reps.one (show Kd.M (Kd.int .i64) _ _ _ a2 [.int .i64 a2] from rfl) (Reps.none _ _)))); intro bG w18 aA hb hg_ hnew_; clear hg_ hnew_; (rw [← aN.out] at aA); have aS := am (Kd.R_lower aA (kE (by exact bW))); replace a0 := gB a0 hb; replace HB := hX hb; clear hb aA)))
   go_ret
   exact ⟨_, rfl, sR <| aS.out, bW⟩
  replace H := iE H; rcases H with ⟨aK, aJ, H⟩ | ⟨aK, aJ, H⟩
  ·generalize aD : ([a1, a2, a3] : List Int) = bB at H
   have aM := am aD.symm; clear aD
   obtain rfl := oI H
   have b4 := cf6 a0.out
   go_wp2_with (first | ((with_reducible refine gW ?_); first | (refine gD (some 22) Try.func72 rfl (impl_within.calls aH.out) fun nd => ?_) | ((with_reducible refine pQ (N := 38) rfl ?_); refine Kd.R_lit (Kd.int .i64) _ 3 ?hg (N := 38) ?hd (xs := ([a1, a2, a3] : List Int)) (inner := [.int .i64 a1, .int .i64 a2, .int .i64 a3]) (ok := fun _ => True) (okp := fun _ => True) ?hr ?hp (fun _ hk => hk) trivial (Below.refl _ _) (Nat.le_refl _) (by simp) ?_; (case hd => rfl); (case hg => rfl); (case hr => (go_simp; done)); (case hp => exact (Reps.one (show Kd.M (Kd.int .i64) _ _ _ a1 [.int .i64 a1] from rfl) (Reps.one (show Kd.M (Kd.int .i64) _ _ _ a2 [.int .i64 a2] from rfl) (Reps.one (show Kd.M (Kd.int .i64) _ _ _ a3 [.int .i64 a3] from rfl) (Reps.none _ _))))); intro bF w22 a9 hb hg_ hnew_; clear hg_ hnew_; (rw [← aM.out] at a9); have aR := am (Kd.R_lower a9 (kE (by exact bW))); replace a0 := gB a0 hb; replace HB := hX hb; clear hb a9)))
   go_ret
   exact ⟨_, rfl, sR <| aR.out, bW⟩
  generalize aC : ([] : List Int) = bA at H
  have aL := am aC.symm; clear aC
  obtain rfl := oI H
  have b3 := cf6 a0.out
  go_wp2_with (first | ((with_reducible refine gW ?_); first | (refine gD (some 22) Try.func72 rfl (impl_within.calls aH.out) fun nd => ?_) | (refine lE (Kd.int .i64) 3 39 ?_; intro bE w25 a8 hb; (rw [← aL.out] at a8); have aQ := am (Kd.R_lower a8 (kE (by exact bW))); replace a0 := gB a0 hb; replace HB := hX hb; clear hb a8)))
  go_ret
  exact ⟨_, rfl, sR <| aQ.out, bW⟩
end Go.Proofs.Ytkpipmojkhikaaa.PAll
