/- Written by a program of this session over the loaded program, and by hand: Go functions as plain Lean functions, and that a call comes to what they say. -/
import Derived.Test.YtkpipmojkhikaaaVDenied0
import Derived.Test.YtkpipmojkhikaaaVDenied9
import Derived.Test.YtkpipmojkhikaaaVDenied10
import Derived.Test.YtkpipmojkhikaaaVDenied11
import Derived.Test.YtkpipmojkhikaaaVDenied12
import Derived.Test.YtkpipmojkhikaaaVDenied13
import Derived.Test.YtkpipmojkhikaaaVDenied14
import Derived.Test.YtkpipmojkhikaaaBase
import Derived.Test.YtkpipmojkhikaaaSq
namespace Go.Proofs.Ytkpipmojkhikaaa.PAll
open Go.RowKit Go.Proofs.YtkpipmojkhikaaaW.PrintWords Go.Proofs.YtkpipmojkhikaaaW.PrintLast Go.Proofs.YtkpipmojkhikaaaW.PrintMore Go.Proofs.YtkpipmojkhikaaaW.Sq
attribute [local go_sem] qZ qX sT sS qC qB qY qW
set_option linter.unusedVariables false
set_option maxHeartbeats 8000000
set_option maxRecDepth 100000
set_option linter.unusedSimpArgs false
mutual
def rS : Nat → Int → Int → Int → Int → Bool → Int → Int → Int → Int → Int → Int → Option (Int)
 | 0, _, _, _, _, _, _, _, _, _, _, _ => none
 | k + 1, x1, x2, x3, x4, aF, a0, a1, a2, a5, a4, a3 => if aF = true then (some 0) else (if a0 = 0 then (some a2) else (if a0 = 2 then ((yX a1 x2).bind fun aD => (some aD)) else ((qD a0 3 12).bind fun aC => (if aC = true then ((xN a0 a1 x2 x3).bind fun aB => (some aB)) else (if a0 = 13 then ((uV (x2 == x3)).bind fun aA => (some aA)) else (if a0 = 14 then ((yV x1 x2 x3).bind fun a9 => (some a9)) else (if a0 = 15 then ((uX x1 x2 x3).bind fun a8 => (some a8)) else (if a0 = 16 then (xO k x1 x2 x3 x4 (decide (a1 < x1)) a0 a1 a2 a5 a4 a3) else (xO k x1 x2 x3 x4 false a0 a1 a2 a5 a4 a3)))))))))
def xO : Nat → Int → Int → Int → Int → Bool → Int → Int → Int → Int → Int → Int → Option (Int)
 | 0, _, _, _, _, _, _, _, _, _, _, _ => none
 | k + 1, x1, x2, x3, x4, aE, a0, a1, a2, a5, a4, a3 => if aE = true then (some x3) else (if a0 = 16 then (if 0 ≤ (IntKind.u64.wrap (wrap64 (a1 - x1))) then (some (wrap64 ((shl .i64 x2 (IntKind.u64.wrap (wrap64 (a1 - x1)))) + x3))) else (none)) else (if a0 = 17 then ((yB x1 x2 a2 a1).bind fun a7 => (some a7)) else (if a0 = 18 then (wK k x3 x4 (x2 == 1) a0 a1 a2 a5 a4 a3) else (wK k x3 x4 false a0 a1 a2 a5 a4 a3))))
def wK : Nat → Int → Int → Bool → Int → Int → Int → Int → Int → Int → Option (Int)
 | 0, _, _, _, _, _, _, _, _, _ => none
 | k + 1, x3, x4, a6, a0, a1, a2, a5, a4, a3 => if a6 = true then (some x3) else (if a0 = 18 then (some x4) else (some 0))
end
def yC (k : Nat) (a9 : Int) (a0 : Int) (a8 : Int) (a7 : Int) (a6 : Int) (a5 : Int) (a1 : Int) (a2 : Int) (a3 : Int) (a4 : Int) : Option (Int) := (sH a0).bind fun aE => (if aE = true then ((sH a1).bind fun aD => (if aD = true then ((wG a2).bind fun aC => (if aC = true then ((wG a3).bind fun aB => (if aB = true then ((wG a4).bind fun aA => (rS k a1 a2 a3 a4 (!aA) a9 a0 a8 a7 a6 a5)) else (rS k a1 a2 a3 a4 true a9 a0 a8 a7 a6 a5))) else (rS k a1 a2 a3 a4 true a9 a0 a8 a7 a6 a5))) else (rS k a1 a2 a3 a4 true a9 a0 a8 a7 a6 a5))) else (rS k a1 a2 a3 a4 true a9 a0 a8 a7 a6 a5))
theorem impl_Apply.calls (k : Nat) (a0 a6 aA a9 a8 a7 a1 a2 a3 a4 r : Int) (w : World) (h : yC k a0 a6 aA a9 a8 a7 a1 a2 a3 a4 = some r) :
  Calls Try.prog 79 #[.agg #[.int .i64 a0, .int .i64 a6, .int .i64 aA, .int .i64 a9, .int .i64 a8, .int .i64 a7], .int .i64 a1, .int .i64 a2, .int .i64 a3, .int .i64 a4] w fun e w' => e = .returned (.int .i64 r) ∧ Below w.heap.size w w' := by
 have hu31 := Try.underlying31
 have HB := am (Below.refl w.heap.size w)
 have H := h
 clear h
 unfold yC at H
 have bD := am H; clear H
 go_enter Try.func79, Try.ntmps79
 go_upto_region 1 with (first | ((with_reducible refine qF (N := 5) rfl ?_); refine wT ?hg (N := 5) ?hd (cs := #[.int .i64 a0, .int .i64 a6, .int .i64 aA, .int .i64 a9, .int .i64 a8, .int .i64 a7]) (t := 31) ?hr ?_; (case hd => rfl); (case hg => rfl); (case hr => (go_simp; done)); intro aN hg w7 hbox hb; have bO := am (rA (by exact sW HB.out) hb); have bN := am (hbox); have bM := gw hg; have bL := gw hg; clear HB; have HB := bO; have a5 := bN; have d2 := bM; have d3 := bL; clear bO bN bM bL; clear hb hbox hg))
 (try simp only [Act.put, List.setIfInBounds_toArray, List.set_cons_zero, List.set_cons_succ])
 go_cut [34] (fun cP wc => ∃ (kq : Nat) (aL : Bool), cP = .bool aL ∧ Aside0 (rS kq a1 a2 a3 a4 aL a0 a6 aA a9 a8 a7 = some r) ∧ Aside0 (kq ≤ k) ∧ Aside0 (wc.heap[aN]? = some (.cells #[.int .i64 a0, .int .i64 a6, .int .i64 aA, .int .i64 a9, .int .i64 a8, .int .i64 a7] 31 (0, 0))) ∧ Aside0 (Below w.heap.size w wc))
 case first =>
  have H := bD.out
  clear bD
  replace H := oA H; obtain ⟨dE, A8, H⟩ := H
  replace H := iB H; rcases H with ⟨rfl, H⟩ | ⟨rfl, H⟩
  rotate_left
  ·replace H := am H
   have cJ := cf6 a5.out
   go_wp2_with (first | ((with_reducible refine gW ?_); first | (refine gD (some 13) Try.func83 rfl (impl_isWidth.calls A8.out) fun nd => ?_)))
   go_meet
   case rel => exact ⟨_, true, rfl, H, ⟨oM⟩, ⟨sB <| a5.out⟩, ⟨bW⟩⟩
  replace H := oA H; obtain ⟨dD, b7, H⟩ := H
  replace H := iB H; rcases H with ⟨rfl, H⟩ | ⟨rfl, H⟩
  rotate_left
  ·replace H := am H
   have cK := cf6 a5.out
   go_wp2_with (first | (go_at_call 83; refine cD (impl_isWidth.calls b7.out) fun nd => ?_) | ((with_reducible refine gW ?_); first | (refine gD (some 13) Try.func83 rfl (impl_isWidth.calls A8.out) fun nd => ?_)))
   go_meet
   case rel => exact ⟨_, true, rfl, H, ⟨oM⟩, ⟨sB <| a5.out⟩, ⟨bW⟩⟩
  replace H := oA H; obtain ⟨dC, bE, H⟩ := H
  replace H := iB H; rcases H with ⟨rfl, H⟩ | ⟨rfl, H⟩
  ·replace H := oA H; obtain ⟨dB, bP, H⟩ := H
   replace H := iB H; rcases H with ⟨rfl, H⟩ | ⟨rfl, H⟩
   ·replace H := oA H; obtain ⟨bR, cZ, H⟩ := H
    replace H := am H
    have cN := cf6 a5.out
    go_wp2_with (first | (go_at_call 83; refine cD (impl_isWidth.calls b7.out) fun nd => ?_) | (go_at_call 114; refine cD (impl_isByte.calls bE.out) fun nd => ?_) | (go_at_call 114; refine cD (impl_isByte.calls bP.out) fun nd => ?_) | (go_at_call 114; refine cD (impl_isByte.calls cZ.out) fun nd => ?_) | ((with_reducible refine gW ?_); first | (refine gD (some 13) Try.func83 rfl (impl_isWidth.calls A8.out) fun nd => ?_)))
    go_meet
    case rel => exact ⟨_, (!bR), rfl, H, ⟨oM⟩, ⟨sB <| a5.out⟩, ⟨bW⟩⟩
   replace H := am H
   have cM := cf6 a5.out
   go_wp2_with (first | (go_at_call 83; refine cD (impl_isWidth.calls b7.out) fun nd => ?_) | (go_at_call 114; refine cD (impl_isByte.calls bE.out) fun nd => ?_) | (go_at_call 114; refine cD (impl_isByte.calls bP.out) fun nd => ?_) | ((with_reducible refine gW ?_); first | (refine gD (some 13) Try.func83 rfl (impl_isWidth.calls A8.out) fun nd => ?_)))
   go_meet
   case rel => exact ⟨_, true, rfl, H, ⟨oM⟩, ⟨sB <| a5.out⟩, ⟨bW⟩⟩
  replace H := am H
  have cL := cf6 a5.out
  go_wp2_with (first | (go_at_call 83; refine cD (impl_isWidth.calls b7.out) fun nd => ?_) | (go_at_call 114; refine cD (impl_isByte.calls bE.out) fun nd => ?_) | ((with_reducible refine gW ?_); first | (refine gD (some 13) Try.func83 rfl (impl_isWidth.calls A8.out) fun nd => ?_)))
  go_meet
  case rel => exact ⟨_, true, rfl, H, ⟨oM⟩, ⟨sB <| a5.out⟩, ⟨bW⟩⟩
 clear bD
 obtain ⟨kq, aL, rfl, HA, b6, a5, HB⟩ := hcut
 cases kq with
 | zero => cases HA.out
 | succ cQ =>
  obtain ⟨H⟩ := HA
  simp only [rS] at H
  replace H := iB H; rcases H with ⟨rfl, H⟩ | ⟨rfl, H⟩
  ·obtain rfl := oI H
   go_wp2
   go_ret
   exact ⟨rfl, bW⟩
  by_cases aJ : a0 = 0
  ·rw [if_pos aJ] at H
   have b5 : (a0 == 0) = true := beq_iff_eq.mpr aJ
   have b4 : (a0 != 0) = false := bne_eq_false_iff_eq.mpr aJ
   clear aJ
   obtain rfl := oI H
   have cI := cf6 a5.out
   go_wp2
   go_ret
   exact ⟨rfl, bW⟩
  rw [if_neg aJ] at H
  have b5 : (a0 == 0) = false := beq_eq_false_iff_ne.mpr aJ
  have b4 : (a0 != 0) = true := bne_iff_ne.mpr aJ
  by_cases aI : a0 = 2
  ·rw [if_pos aI] at H
   have b3 : (a0 == 2) = true := beq_iff_eq.mpr aI
   have b2 : (a0 != 2) = false := bne_eq_false_iff_eq.mpr aI
   clear aI
   replace H := oA H; obtain ⟨dA, cY, H⟩ := H
   obtain rfl := oI H
   have cH := cf6 a5.out
   go_wp2_with (first | ((with_reducible refine gW ?_); first | (refine gD (some 48) Try.func115 rfl (impl_Flip.calls cY.out) fun nd => ?_)))
   go_ret
   exact ⟨rfl, bW⟩
  rw [if_neg aI] at H
  have b3 : (a0 == 2) = false := beq_eq_false_iff_ne.mpr aI
  have b2 : (a0 != 2) = true := bne_iff_ne.mpr aI
  replace H := oA H; obtain ⟨d9, aO, H⟩ := H
  replace H := iB H; rcases H with ⟨rfl, H⟩ | ⟨rfl, H⟩
  ·replace H := oA H; obtain ⟨d8, cX, H⟩ := H
   obtain rfl := oI H
   have cG := cf6 a5.out
   go_wp2_with (first | ((with_reducible refine gW ?_); first | (refine gD (some 52) Try.func72 rfl (impl_within.calls aO.out) fun nd => ?_) | (refine gD (some 59) Try.func116 rfl (impl_binary.calls cX.out) fun nd => ?_)))
   go_ret
   exact ⟨rfl, bW⟩
  by_cases aH : a0 = 13
  ·rw [if_pos aH] at H
   have b1 : (a0 == 13) = true := beq_iff_eq.mpr aH
   have b0 : (a0 != 13) = false := bne_eq_false_iff_eq.mpr aH
   clear aH
   replace H := oA H; obtain ⟨d7, cW, H⟩ := H
   obtain rfl := oI H
   have cF := cf6 a5.out
   go_wp2_with (first | ((with_reducible refine gW ?_); first | (refine gD (some 52) Try.func72 rfl (impl_within.calls aO.out) fun nd => ?_) | (refine gD (some 67) Try.func113 rfl (impl_bit.calls _ _ _ cW.out) fun nd => ?_)))
   go_ret
   exact ⟨rfl, bW⟩
  rw [if_neg aH] at H
  have b1 : (a0 == 13) = false := beq_eq_false_iff_ne.mpr aH
  have b0 : (a0 != 13) = true := bne_iff_ne.mpr aH
  by_cases aG : a0 = 14
  ·rw [if_pos aG] at H
   have a_ : (a0 == 14) = true := beq_iff_eq.mpr aG
   have aZ : (a0 != 14) = false := bne_eq_false_iff_eq.mpr aG
   clear aG
   replace H := oA H; obtain ⟨d6, cV, H⟩ := H
   obtain rfl := oI H
   have cE := cf6 a5.out
   go_wp2_with (first | ((with_reducible refine gW ?_); first | (refine gD (some 52) Try.func72 rfl (impl_within.calls aO.out) fun nd => ?_) | (refine gD (some 75) Try.func117 rfl (impl_Less.calls cV.out) fun nd => ?_)))
   go_ret
   exact ⟨rfl, bW⟩
  rw [if_neg aG] at H
  have a_ : (a0 == 14) = false := beq_eq_false_iff_ne.mpr aG
  have aZ : (a0 != 14) = true := bne_iff_ne.mpr aG
  by_cases aF : a0 = 15
  ·rw [if_pos aF] at H
   have aY : (a0 == 15) = true := beq_iff_eq.mpr aF
   have aX : (a0 != 15) = false := bne_eq_false_iff_eq.mpr aF
   clear aF
   replace H := oA H; obtain ⟨d5, cU, H⟩ := H
   obtain rfl := oI H
   have cC := cf6 a5.out
   go_wp2_with (first | ((with_reducible refine gW ?_); first | (refine gD (some 52) Try.func72 rfl (impl_within.calls aO.out) fun nd => ?_) | (refine gD (some 83) Try.func118 rfl (impl_LessSigned.calls cU.out) fun nd => ?_)))
   go_ret
   exact ⟨rfl, bW⟩
  rw [if_neg aF] at H
  have aY : (a0 == 15) = false := beq_eq_false_iff_ne.mpr aF
  have aX : (a0 != 15) = true := bne_iff_ne.mpr aF
  have aR := am H; clear H
  have b9 := cf6 a5.out
  go_upto_region 15 with (first | ((with_reducible refine gW ?_); first | (refine gD (some 52) Try.func72 rfl (impl_within.calls aO.out) fun nd => ?_)))
  (try simp only [Act.put, List.setIfInBounds_toArray, List.set_cons_zero, List.set_cons_succ])
  go_cut [84] (fun cO wc => ∃ (kq : Nat) (aK : Bool), cO = .bool aK ∧ Aside0 (xO kq a1 a2 a3 a4 aK a0 a6 aA a9 a8 a7 = some r) ∧ Aside0 (kq ≤ cQ) ∧ Aside0 (wc.heap[aN]? = some (.cells #[.int .i64 a0, .int .i64 a6, .int .i64 aA, .int .i64 a9, .int .i64 a8, .int .i64 a7] 31 (0, 0))) ∧ Aside0 (Below w.heap.size w wc))
  case first =>
   have H := aR.out
   clear aR
   replace H := iE H; rcases H with ⟨bK, bJ, H⟩ | ⟨bK, bJ, H⟩
   ·replace H := am H
    have cB := cf6 a5.out
    go_wp2
    go_meet
    case rel => exact ⟨_, (decide (a6 < a1)), rfl, H, ⟨by have := b6.out; omega⟩, ⟨sB <| a5.out⟩, ⟨bW⟩⟩
   replace H := am H
   have c1 := cf6 a5.out
   go_wp2
   go_meet
   case rel => exact ⟨_, false, rfl, H, ⟨by have := b6.out; omega⟩, ⟨sB <| a5.out⟩, ⟨bW⟩⟩
  clear aR
  clear aJ b5 b4 aI b3 b2 aH b1 b0 aG a_ aZ aF aY aX b9
  obtain ⟨kq, aK, rfl, HA, bC, a5, HB⟩ := hcut
  cases kq with
  | zero => cases HA.out
  | succ bS =>
   obtain ⟨H⟩ := HA
   simp only [xO] at H
   replace H := iB H; rcases H with ⟨rfl, H⟩ | ⟨rfl, H⟩
   ·obtain rfl := oI H
    go_wp2
    go_ret
    exact ⟨rfl, bW⟩
   by_cases aE : a0 = 16
   ·rw [if_pos aE] at H
    have aW : (a0 == 16) = true := beq_iff_eq.mpr aE
    have aV : (a0 != 16) = false := bne_eq_false_iff_eq.mpr aE
    clear aE
    generalize c_ : IntKind.u64.wrap (wrap64 (a6 - a1)) = aB at H
    replace H := iTD H; obtain ⟨d1, d0, H⟩ := H
    generalize aS : shl .i64 a2 (aB) = aM at H
    have bB : (IntKind.i64.wrap (a2 * 2 ^ min (aB).toNat 64)) = aM := aS
    have bA : (aB) ≤ 64 → (IntKind.i64.wrap (a2 * 2 ^ (aB).toNat)) = aM := xZ aS
    have cR : (wrap64 (a2 * 2 ^ min (aB).toNat 64)) = aM := (vY _).symm.trans bB
    have cS : (aB) ≤ 64 → (wrap64 (a2 * 2 ^ (aB).toNat)) = aM := fun h_ => (vY _).symm.trans (bA h_)
    obtain rfl := oI H
    have c0 := cf6 a5.out
    go_wp2
    go_ret
    exact ⟨rfl, bW⟩
   rw [if_neg aE] at H
   have aW : (a0 == 16) = false := beq_eq_false_iff_ne.mpr aE
   have aV : (a0 != 16) = true := bne_iff_ne.mpr aE
   by_cases aD : a0 = 17
   ·rw [if_pos aD] at H
    have aU : (a0 == 17) = true := beq_iff_eq.mpr aD
    have aT : (a0 != 17) = false := bne_eq_false_iff_eq.mpr aD
    clear aD
    replace H := oA H; obtain ⟨d4, cT, H⟩ := H
    obtain rfl := oI H
    have b_ := cf6 a5.out
    go_wp2_with (first | ((with_reducible refine gW ?_); first | (refine gD (some 118) Try.func119 rfl (impl_Slice.calls cT.out) fun nd => ?_)))
    go_ret
    exact ⟨rfl, bW⟩
   rw [if_neg aD] at H
   have aU : (a0 == 17) = false := beq_eq_false_iff_ne.mpr aD
   have aT : (a0 != 17) = true := bne_iff_ne.mpr aD
   have aQ := am H; clear H
   have b8 := cf6 a5.out
   go_upto_region 21 with (fail)
   go_cut [119] (fun bQ wc => ∃ (kq : Nat) (aC : Bool), bQ = .bool aC ∧ Aside0 (wK kq a3 a4 aC a0 a6 aA a9 a8 a7 = some r) ∧ Aside0 (kq ≤ bS) ∧ Aside0 (wc.heap[aN]? = some (.cells #[.int .i64 a0, .int .i64 a6, .int .i64 aA, .int .i64 a9, .int .i64 a8, .int .i64 a7] 31 (0, 0))) ∧ Aside0 (Below w.heap.size w wc))
   case first =>
    have H := aQ.out
    clear aQ
    replace H := iE H; rcases H with ⟨bI, bH, H⟩ | ⟨bI, bH, H⟩
    ·replace H := am H
     have bZ := cf6 a5.out
     go_wp2
     go_meet
     case rel => exact ⟨_, ((a2 == 1)), rfl, H, ⟨by have := b6.out; have := bC.out; omega⟩, ⟨sB <| a5.out⟩, ⟨bW⟩⟩
    replace H := am H
    have bV := cf6 a5.out
    go_wp2
    go_meet
    case rel => exact ⟨_, false, rfl, H, ⟨by have := b6.out; have := bC.out; omega⟩, ⟨sB <| a5.out⟩, ⟨bW⟩⟩
   clear aQ
   clear aE aW aV aD aU aT b8
   obtain ⟨kq, aC, rfl, HA, dG, a5, HB⟩ := hcut
   cases kq with
   | zero => cases HA.out
   | succ dF =>
    obtain ⟨H⟩ := HA
    simp only [wK] at H
    replace H := iB H; rcases H with ⟨rfl, H⟩ | ⟨rfl, H⟩
    ·obtain rfl := oI H
     go_wp2
     go_ret
     exact ⟨rfl, bW⟩
    replace H := iE H; rcases H with ⟨bG, bF, H⟩ | ⟨bG, bF, H⟩
    ·obtain rfl := oI H
     have bU := cf6 a5.out
     go_wp2
     go_ret
     exact ⟨rfl, bW⟩
    obtain rfl := oI H
    have bT := cf6 a5.out
    go_wp2
    go_ret
    exact ⟨rfl, bW⟩
def vpl (V : List Int → Int → List Int → Option (Int × List Int)) (env : List Int) : List Int → List Int → Option (List Int × List Int)
 | [], kn => some ([], kn)
 | p :: ps, kn => (V env p kn).bind fun r => (vpl V env ps r.2).bind fun s => some (r.1 :: s.1, s.2)
theorem a9w (l : List Int) (i v : Int) (h0 : 0 ≤ i) (h : i < (l.length : Int)) : rd (l.set i.toNat v) i = v := by
 have hl : i.toNat < l.length := by omega
 simp [rd, hl, List.getD_eq_getElem?_getD]
def xc (acc : List Int) : Array Value := #[.int .i64 (rd acc 0), .int .i64 (rd acc 1), .int .i64 (rd acc 2)]
theorem c6p (acc : List Int) (j : Nat) (h : j < 3) : ∃ v, (xc acc)[j]? = some (.int .i64 v) := by
 have : j = 0 ∨ j = 1 ∨ j = 2 := by omega
 rcases this with rfl | rfl | rfl
 ·exact ⟨_, rfl⟩
 ·exact ⟨_, rfl⟩
 ·exact ⟨_, rfl⟩
theorem c6o (acc : List Int) (v : Int) (h : acc.length < 3) : (xc acc).setIfInBounds acc.length (.int .i64 v) = xc (acc ++ [v]) := by
 match acc, h with
 | [], _ => rfl
 | [a], _ => rfl
 | [a, b], _ => rfl
 | a :: b :: c :: t, h => exact absurd h (by simp)
def c6q (l0 : List (S31)) (ps : List Int) : Int := if 0 < ps.length then (kA l0 (rd ps 0)).f1 else 1
def impl_valueR (k : Nat) (V : List Int → Int → List Int → Option (Int × List Int)) (l0 : List (S31)) (env : List Int) (i : Int) (known : List Int) : Option (Int × List Int) :=
 if 0 ≤ i ∧ i < (l0.length : Int) then
  if 0 ≤ rd known i then some (rd known i, known)
  else if (kA l0 i).f0 = 1 then (if 0 ≤ (kA l0 i).f2 ∧ (kA l0 i).f2 < 8 then some (rd env (kA l0 i).f2, known.set i.toNat (rd env (kA l0 i).f2)) else none)
  else if ((kA l0 i).f0 == 19 || (kA l0 i).f0 == 20) = true then (impl_quantR V l0.length env (kA l0 i).f0 (kA l0 i).f2 (kA l0 i).f3 (kA l0 i).f4).bind fun r => some (r, known.set i.toNat r)
  else if (kS (kA l0 i).f0 (kA l0 i).f3 (kA l0 i).f4 (kA l0 i).f5).all (fun p => inB p 0 ((l0.length : Int) - 1)) = true then
   (vpl V env (kS (kA l0 i).f0 (kA l0 i).f3 (kA l0 i).f4 (kA l0 i).f5) known).bind fun s => (yC k (kA l0 i).f0 (kA l0 i).f1 (kA l0 i).f2 (kA l0 i).f3 (kA l0 i).f4 (kA l0 i).f5 (c6q l0 (kS (kA l0 i).f0 (kA l0 i).f3 (kA l0 i).f4 (kA l0 i).f5)) (rd s.1 0) (rd s.1 1) (rd s.1 2)).bind fun r => some (r, s.2.set i.toNat r)
  else none
 else none
theorem b9t {P : Prop} (h : P := by
 obtain ⟨adk, ek, hx⟩ := Kd.at_int (Kd.R_reads' RK.out).2.2 i i0 (by have := HKL.out; omega)
 cases ek
 simp only [pI] at hx
 obtain ⟨g2, c2, e2, a5, _, cl2, HGO⟩ := Kd.R_form RK.out (by have := HKL.out; omega)
 rw [HKL.out] at e2
 cases e2
 have hfx := kP HGO i.toNat
 clear HGO
 go_wp2_with fail
 go_ret
 refine ⟨by rw [← HR.out.1]; rfl, ?_, by rw [← HR.out.2, List.length_set]; exact HKL.out, KW.out.setCell (.inl rfl) _, H0.out.setCell (Nat.zero_le _) _⟩
 rw [← HR.out.2]
 exact Kd.R_putn RK.out i rq) : P := h
set_option maxHeartbeats 4000000 in
theorem impl_valueR.calls (k g : Nat) (A0 : Option Addr) (c0 : Nat) (l0 : List (S31)) (V : List Int → Int → List Int → Option (Int × List Int)) (hV : a3i g A0 c0 l0 V) (hc0 : l0.length ≤ c0) (hm : l0.length ≤ 1048576) : a3i g A0 c0 l0 (impl_valueR k V l0) := by
 unfold a3i at hV ⊢
 intro hk ck base env i known r known' w hb he hgk hr0 hkl ho h
 unfold impl_valueR at h
 by_cases hi : 0 ≤ i ∧ i < (l0.length : Int)
 rotate_left
 ·rw [if_neg hi] at h
  exact absurd h (by simp)
 rw [if_pos hi] at h
 obtain ⟨i0, i1⟩ := hi
 have t1 : decide (0 ≤ i) = true := decide_eq_true i0
 have t2 : decide (i < (l0.length : Int)) = true := decide_eq_true i1
 have hkb := Kd.R_bound ho
 obtain ⟨_, hkb, hkw, q, hq, cl, hcl⟩ := hkb.1 hk rfl
 have BGL := am (vQ hb); have HKW := am hkw; have HKB := am hkb
 clear hkb hkw q hq cl hcl
 obtain ⟨adk, ek, hx⟩ := Kd.at_int (Kd.R_reads' ho).2.2 i i0 oM
 cases ek
 simp only [pI] at hx
 obtain ⟨a6, e0, y0, y1, y2, y3, y4, y5⟩ := oZ (hr0 w (Kept.refl _ _)) i i0 i1
 cases e0
 have x0 := (kG hb 0).trans (a7h _ _ _ _)
 have HV := am hV; have BG := am hb; have HE := am he; have HGK := am hgk; have a1 := am hr0; have HKL := am hkl; have RK := am ho; have HM := am hm; have aA := am hc0; have HH := am h
 clear hV hb he hgk hr0 hkl ho hm hc0 h
 by_cases hkn : 0 ≤ rd known i
 ·have h := HH.out
  rw [if_pos hkn] at h
  obtain ⟨rfl, rfl⟩ := Prod.mk.inj (oI h)
  clear h
  have t3 : decide (0 ≤ rd known i) = true := decide_eq_true hkn
  go_enter Try.func47, Try.ntmps47
  go_wp2_with fail
  go_ret
  exact ⟨rfl, RK.out, HKL.out, Kept.refl _ _, Below.refl _ _⟩
 have t3 : decide (0 ≤ rd known i) = false := decide_eq_false hkn
 have h := HH.out
 rw [if_neg hkn] at h
 obtain ⟨⟨op, W, Kq, A, B, C⟩, hnd⟩ : ∃ n, kA l0 i = n := ⟨_, rfl⟩
 rw [hnd] at h y0 y1 y2 y3 y4 y5
 simp only [] at h y0 y1 y2 y3 y4 y5
 have BN := am (heap_alloc_new w (Obj.cells #[Value.int .i64 op, Value.int .i64 W, Value.int .i64 Kq, Value.int .i64 A, Value.int .i64 B, Value.int .i64 C] 31))
 have BG := am (pD BG.out (Obj.cells #[Value.int .i64 op, Value.int .i64 W, Value.int .i64 Kq, Value.int .i64 A, Value.int .i64 B, Value.int .i64 C] 31))
 have RK := am (Kd.R_alloc RK.out (Obj.cells #[Value.int .i64 op, Value.int .i64 W, Value.int .i64 Kq, Value.int .i64 A, Value.int .i64 B, Value.int .i64 C] 31))
 have KW := am (Kept.alloc (Kept.refl w (fun k => k = hk)) (Obj.cells #[Value.int .i64 op, Value.int .i64 W, Value.int .i64 Kq, Value.int .i64 A, Value.int .i64 B, Value.int .i64 C] 31))
 have H0 := am (show Below 0 w (w.alloc (Obj.cells #[Value.int .i64 op, Value.int .i64 W, Value.int .i64 Kq, Value.int .i64 A, Value.int .i64 B, Value.int .i64 C] 31)) from (Below.refl 0 w).alloc (Nat.zero_le _) _)
 have HND := am hnd
 clear hnd hkn
 by_cases hop : op = 1
 ·rw [if_pos hop] at h
  by_cases hK : 0 ≤ Kq ∧ Kq < 8
  rotate_left
  ·rw [if_neg hK] at h
   exact absurd h (by simp)
  rw [if_pos hK] at h
  have HR := am (Prod.mk.inj (oI h))
  have K8 := am hK
  have t4 : (op == 1) = true := beq_iff_eq.mpr hop
  clear h hK hop HH
  go_enter Try.func47, Try.ntmps47
  go_wp2_with fail
  clear x0 y0 y1 y2 y3 y4 y5 hx
  generalize w.alloc (Obj.cells #[Value.int .i64 op, Value.int .i64 W, Value.int .i64 Kq, Value.int .i64 A, Value.int .i64 B, Value.int .i64 C] 31) = wA at *
  obtain ⟨q0, q1, q2, q3, q4, q5⟩ := a9l BN.out
  have x1 := (kG BG.out (Kq.toNat + 1)).trans (a1z _ _ _ _ Kq.toNat (by rw [HE.out]; have := K8.out; omega))
  rw [Int.toNat_of_nonneg K8.out.1, Nat.add_comm Kq.toNat 1] at x1
  have kk := K8.out
  obtain ⟨adk, ek, hx⟩ := Kd.at_int (Kd.R_reads' RK.out).2.2 i i0 (by have := HKL.out; omega)
  cases ek
  simp only [pI] at hx
  obtain ⟨g2, c2, e2, a5, _, cl2, HGO⟩ := Kd.R_form RK.out (by have := HKL.out; omega)
  rw [HKL.out] at e2
  cases e2
  have hfx := kP HGO i.toNat
  clear HGO
  go_region
  clear q0 q1 q2 q3 q4 q5 x1 kk hx hfx
  have RK := am (show Kd.R (Kd.int .i64) 3 (wA.setCell ⟨hk, i.toNat, none⟩ (.int .i64 (rd env Kq))).drew base (fun k => k = hk) (.slice (some ⟨hk, 0, none⟩) l0.length ck) (known.set i.toNat (rd env Kq)) from Kd.R_drew (Kd.R_putn RK.out i (rd env Kq)))
  have KW := am (show Kept w (wA.setCell ⟨hk, i.toNat, none⟩ (.int .i64 (rd env Kq))).drew (fun k => k = hk) from Kept.drew (KW.out.setCell (.inl rfl) _))
  have H0 := am (show Below 0 w (wA.setCell ⟨hk, i.toNat, none⟩ (.int .i64 (rd env Kq))).drew from wL (H0.out.setCell (Nat.zero_le _) _))
  generalize (wA.setCell ⟨hk, i.toNat, none⟩ (.int .i64 (rd env Kq))).drew = wE at *
  obtain ⟨adk, ek, hx⟩ := Kd.at_int (Kd.R_reads' RK.out).2.2 i i0 (by rw [List.length_set]; have := HKL.out; omega)
  cases ek
  simp only [pI] at hx
  rw [a9w known i (rd env Kq) i0 (by have := HKL.out; omega)] at hx
  go_wp2_with fail
  go_ret
  exact ⟨by rw [← HR.out.1]; rfl, by rw [← HR.out.2]; exact RK.out, by rw [← HR.out.2, List.length_set]; exact HKL.out, KW.out, H0.out⟩
 rw [if_neg hop] at h
 have t4 : (op == 1) = false := beq_eq_false_iff_ne.mpr hop
 clear hop
 by_cases hqb : (op == 19 || op == 20) = true
 ·rw [if_pos hqb] at h
  obtain ⟨rq, hrq, h⟩ := oB h
  have HR := am (Prod.mk.inj (oI h))
  have HQ := am hqb; have HRQ := am hrq
  clear h hqb HH hrq
  go_enter Try.func47, Try.ntmps47
  go_wp2_with fail
  clear x0 y0 y1 y2 y3 y4 y5 hx
  generalize w.alloc (Obj.cells #[Value.int .i64 op, Value.int .i64 W, Value.int .i64 Kq, Value.int .i64 A, Value.int .i64 B, Value.int .i64 C] 31) = wA at *
  refine (impl_isQuant.calls true _ (by rw [zF, HQ.out])).mono ?_
  rintro e w2 ⟨rfl, hb⟩
  have BG := am (kM BG.out hb); have BN := am (kM BN.out hb); have RK := am (Kd.R_below RK.out hb); have KW := am (KW.out.below hb); have H0 := am (H0.out.trans (hb.mono (Nat.zero_le _)))
  clear hb
  obtain ⟨q0, q1, q2, q3, q4, q5⟩ := a9l BN.out
  go_wp2_with fail
  refine (impl_quantR.calls g _ c0 l0 V HV.out env op W Kq A B C rq _ BG.out HE.out oM HM.out (fun W_ hW => a1.out W_ ((KW.out.mono (fun _ h => .inr h)).then_ hW (fun k h => .inl (.inl h)))) HRQ.out).mono ?_
  rintro e w3 ⟨rfl, hb⟩
  have RK := am (Kd.R_below RK.out hb); have KW := am (KW.out.below hb); have H0 := am (H0.out.trans (hb.mono (Nat.zero_le _)))
  clear hb q0 q1 q2 q3 q4 q5
  exact b9t
 rw [if_neg hqb] at h
 have hqf : (op == 19 || op == 20) = false := by cases hh : (op == 19 || op == 20) <;> simp_all
 clear hqb
 obtain ⟨ps, hps⟩ : ∃ ps, kS op A B C = ps := ⟨_, rfl⟩
 have a0 := qN op A B C
 rw [hps] at h a0
 by_cases hpb : ps.all (fun p => inB p 0 ((l0.length : Int) - 1)) = true
 rotate_left
 ·rw [if_neg hpb] at h
  exact absurd h (by simp)
 rw [if_pos hpb] at h
 obtain ⟨⟨vs, kn⟩, hvp, h⟩ := oB h
 obtain ⟨rq, hap, h⟩ := oB h
 have HR := am (Prod.mk.inj (oI h))
 have HQ := am hqf; have HAP := am hap; have HVP := am hvp; have HPS := am hps; have HPB := am hpb; have a7 := am a0
 clear h hqf HH hap hvp hps hpb a0
 go_enter Try.func47, Try.ntmps47
 go_wp2_with fail
 clear x0 y0 y1 y2 y3 y4 y5 hx
 generalize w.alloc (Obj.cells #[Value.int .i64 op, Value.int .i64 W, Value.int .i64 Kq, Value.int .i64 A, Value.int .i64 B, Value.int .i64 C] 31) = wA at *
 refine (impl_isQuant.calls false _ (by rw [zF, HQ.out])).mono ?_
 rintro e w2 ⟨rfl, hb⟩
 have BG := am (kM BG.out hb); have BN := am (kM BN.out hb); have RK := am (Kd.R_below RK.out hb); have KW := am (KW.out.below hb); have H0 := am (H0.out.trans (hb.mono (Nat.zero_le _)))
 clear hb
 have BX := am (heap_alloc_new w2 (Obj.cells #[Value.int .i64 0, Value.int .i64 0, Value.int .i64 0] 101))
 have GX := am (show w.heap.size < w2.heap.size from vQ BN.out)
 have GG := am (show g < w.heap.size from BGL.out)
 have BG := am (pD BG.out (Obj.cells #[Value.int .i64 0, Value.int .i64 0, Value.int .i64 0] 101)); have BN := am (pD BN.out (Obj.cells #[Value.int .i64 0, Value.int .i64 0, Value.int .i64 0] 101)); have RK := am (Kd.R_alloc RK.out (Obj.cells #[Value.int .i64 0, Value.int .i64 0, Value.int .i64 0] 101)); have KW := am (KW.out.alloc (Obj.cells #[Value.int .i64 0, Value.int .i64 0, Value.int .i64 0] 101)); have H0 := am (show Below 0 w (w2.alloc (Obj.cells #[Value.int .i64 0, Value.int .i64 0, Value.int .i64 0] 101)) from H0.out.alloc (Nat.zero_le _) _)
 obtain ⟨q0, q1, q2, q3, q4, q5⟩ := a9l BN.out
 go_wp2_with fail
 generalize hgx : w2.heap.size = gx at *
 generalize w2.alloc (Obj.cells #[Value.int .i64 0, Value.int .i64 0, Value.int .i64 0] 101) = wX at *
 have GXX := am (show gx < wX.heap.size from vQ BX.out)
 clear hgx
 refine (impl_Parts.calls 1 _ _ _ _ _ _ ps _ (by rw [a8k _ _ _ _ _ _ oM, HPS.out])).mono ?_
 rintro e w3 ⟨vp, rfl, hpr, hb⟩
 have BG := am (kM BG.out hb); have BN := am (kM BN.out hb); have BX := am (kM BX.out hb); have RK := am (Kd.R_below RK.out hb); have H0 := am (H0.out.trans (hb.mono (Nat.zero_le _)))
 obtain ⟨Ap, cp, rfl, _, _⟩ := Kd.R_reads hpr
 have RP := am (Kd.R_mono (ok' := fun k => k ≠ hk) (Kd.R_bound hpr) (fun k hk' => by have h1 := hk'.2.1; have h2 := HKW.out; have h3 := KW.out.1; omega))
 have KW := am (KW.out.below hb)
 clear hb hpr q0 q1 q2 q3 q4 q5
 go_wp2_with fail
 go_loopg [9, 10, 11, 32] ps.length (fun gk v9 a9 a8 a4 w' => ∃ (j : Nat) (wv : Int) (acc rest kj : List Int), a4 = .int .i64 (j : Int) ∧ v9 = .int .i64 wv ∧ Aside0 (wv = if j = 0 then 1 else c6q l0 ps) ∧ Aside0 (gk + j = ps.length) ∧ Aside0 (acc.length = j) ∧ Aside0 (vs = acc ++ rest) ∧ Aside0 (vpl V env (ps.drop j) kj = some (rest, kn)) ∧ Aside0 (kj.length = l0.length) ∧
  Aside0 (w'.heap[g]? = some (.cells (zB (some a6) l0.length c0 env) 65 (0, 0))) ∧ Aside0 (w'.heap[w.heap.size]? = some (.cells #[.int .i64 op, .int .i64 W, .int .i64 Kq, .int .i64 A, .int .i64 B, .int .i64 C] 31 (0, 0))) ∧ Aside0 (w'.heap[gx]? = some (.cells (xc acc) 101 (0, 0))) ∧
  Aside0 (Kd.R (Kd.int .i64) 3 w' base (fun k => k = hk) (.slice (some ⟨hk, 0, none⟩) l0.length ck) kj) ∧ Aside0 (Kd.R (Kd.int .i64) 3 w' wX.heap.size (fun k => k ≠ hk) (.slice Ap ps.length cp) ps) ∧ Aside0 (Kept w w' (fun k => k = hk)) ∧ Aside0 (Below 0 w w'))
 case atStart => exact ⟨0, 1, [], vs, known, rfl, rfl, ⟨rfl⟩, ⟨rfl⟩, ⟨rfl⟩, ⟨rfl⟩, HVP, HKL, BG, BN, BX, RK, RP, KW, H0⟩
 obtain ⟨j, wv, acc, rest, kj, rfl, rfl, HWV, HG, HAL, HVS, HVP, HKL, BG, BN, BX, RK, RP, KW, H0⟩ := hrel
 by_cases hj : j < ps.length
 rotate_left
 ·obtain rfl : j = ps.length := by have := HG.out; omega
  have p2 : decide ((ps.length : Int) < (ps.length : Int)) = false := decide_eq_false oM
  have hv := HVP.out
  rw [List.drop_length] at hv
  unfold vpl at hv
  obtain ⟨hr1, hr2⟩ := Prod.mk.inj (oI hv)
  have hwv : wv = c6q l0 ps := by
   rw [HWV.out]
   by_cases h0 : ps.length = 0
   ·rw [if_pos h0]; unfold c6q; rw [if_neg oM]
   rw [if_neg h0]
  have hvs : vs = acc := by rw [HVS.out, ← hr1, List.append_nil]
  have hap := HAP.out
  rw [hvs, ← hwv] at hap
  have hR := HR.out
  rw [← hr2] at hR
  have HAP := am hap; have HR := am hR
  clear hap hR hvs hwv hr1 hr2 hv HVP HVS
  obtain ⟨q0, q1, q2, q3, q4, q5⟩ := a9l BN.out
  have z0 := (kG BX.out 0).trans (show (xc acc)[0]? = some (.int .i64 (rd acc 0)) from rfl)
  have z1 := (kG BX.out 1).trans (show (xc acc)[1]? = some (.int .i64 (rd acc 1)) from rfl)
  have z2 := (kG BX.out 2).trans (show (xc acc)[2]? = some (.int .i64 (rd acc 2)) from rfl)
  go_wp2_with fail
  refine (impl_Apply.calls k op W Kq A B C wv (rd acc 0) (rd acc 1) (rd acc 2) rq _ HAP.out).mono ?_
  rintro e w5 ⟨rfl, hb⟩
  have RK := am (Kd.R_below RK.out hb); have KW := am (KW.out.below hb); have H0 := am (H0.out.trans (hb.mono (Nat.zero_le _)))
  clear hb q0 q1 q2 q3 q4 q5 z0 z1 z2
  exact b9t
 have p1 : (0 : Int) ≤ (j : Int) := by omega
 have p2 : decide ((j : Int) < (ps.length : Int)) = true := decide_eq_true oM
 obtain ⟨adp, ep, hxp⟩ := Kd.at_int (Kd.R_reads' RP.out).2.2 (j : Int) p1 oM
 cases ep
 have hpb := List.all_eq_true.mp HPB.out ps[j] (List.getElem_mem hj)
 have hpr : rd ps (j : Int) = ps[j] := by simp [rd, hj, List.getD_eq_getElem?_getD]
 obtain ⟨pj, hpj⟩ : ∃ pj, ps[j] = pj := ⟨_, rfl⟩
 have hv := HVP.out
 rw [List.drop_eq_getElem_cons hj] at hv
 rw [hpj] at hpb hpr hv
 rw [hpr, Int.toNat_natCast] at hxp
 simp only [inB, decide_eq_true_eq] at hpb
 unfold vpl at hv
 obtain ⟨⟨rv, k1⟩, hv1, hv⟩ := oB hv
 obtain ⟨⟨vr, k2⟩, hv2, hv⟩ := oB hv
 obtain ⟨hr1, hr2⟩ := Prod.mk.inj (oI hv)
 have HV1 := am hv1; have HV2 := am hv2; have HRR := am (And.intro hr1 hr2); have HPJ := am hpb
 clear hpb hv hv1 hv2 hr1 hr2 HVP
 have J3 := am (show j < 3 from by have := a7.out; omega)
 have WP := am hpr
 clear hpr
 go_wp2_with fail
 refine (HV.out hk ck base env pj kj rv k1 _ BG.out HE.out HGK.out (fun W_ hW => a1.out W_ ((KW.out.mono (fun _ h => .inr h)).then_ hW (fun k h => .inl h))) HKL.out RK.out HV1.out).mono ?_
 rintro e w4 ⟨rfl, hR4, hl4, hK4, a3⟩
 have nk1 : w.heap.size ≠ hk := by have := HKW.out; omega
 have nk2 : gx ≠ hk := by have := HKW.out; have := GX.out; omega
 have BG := am (wV BG.out hK4 (fun h => HGK.out h)); have BN := am (wV BN.out hK4 nk1); have BX := am (wV BX.out hK4 nk2); have RK := am hR4; have HKL := am hl4
 have RP := am (Kd.R_kept RP.out hK4 (fun k h => h)); have KW := am (KW.out.then_ hK4 (fun k h => .inl h)); have H0 := am (H0.out.trans a3)
 clear hR4 hl4 hK4 a3 hxp nk1 nk2
 obtain ⟨xv, hxv⟩ := c6p acc j J3.out
 have hxx := (kG BX.out j).trans hxv
 have hfx := kP BX.out j
 have kk : (0 : Int) ≤ (j : Int) ∧ (j : Int) < 3 := by have := J3.out; omega
 clear hxv
 have ngx : g ≠ gx := by have := GG.out; have := GX.out; omega
 have nbx : w.heap.size ≠ gx := by have := GX.out; omega
 have BG := am (vZ (p := ⟨gx, j, none⟩) BG.out ngx (.int .i64 rv)); have BN := am (vZ (p := ⟨gx, j, none⟩) BN.out nbx (.int .i64 rv))
 have KW := am (show Kept w (w4.setCell ⟨gx, j, none⟩ (.int .i64 rv)) (fun k => k = hk) from KW.out.setCell (.inr (by have := GX.out; show w.heap.size ≤ gx; omega)) _)
 have H0 := am (show Below 0 w (w4.setCell ⟨gx, j, none⟩ (.int .i64 rv)) from H0.out.setCell (Nat.zero_le _) _)
 have RK := am (Kd.R_far (p := ⟨gx, j, none⟩) RK.out (fun k hk' => by have := HKW.out; have := GX.out; show k ≠ gx; omega) (.int .i64 rv))
 have RP := am (Kd.R_far (p := ⟨gx, j, none⟩) (Kd.R_mono (ok' := fun k => k ≠ hk ∧ k ≠ gx) (Kd.R_bound RP.out) (fun k hk' => ⟨hk'.1, by have := hk'.2.1; have := GXX.out; omega⟩)) (fun k hk' => hk'.2) (.int .i64 rv))
 have RP := am (Kd.R_mono (ok' := fun k => k ≠ hk) RP.out (fun k hk' => hk'.1))
 have x0 := (kG BG.out 0).trans (a7h _ _ _ _)
 have HG0 := am (a1.out _ (KW.out.mono (fun _ h => .inr h)))
 obtain ⟨_, e1, _, y1, _⟩ := oZ HG0.out pj (by have := HPJ.out; omega) (by have := HPJ.out; omega)
 cases e1
 clear ngx nbx
 have u1 : decide (0 ≤ pj) = true := decide_eq_true (by have := HPJ.out; omega)
 have u2 : decide (pj < (l0.length : Int)) = true := decide_eq_true (by have := HPJ.out; omega)
 have uu : 0 ≤ pj ∧ pj < (l0.length : Int) := by have := HPJ.out; omega
 obtain ⟨g1, rfl⟩ : ∃ g1, gk = g1 + 1 := ⟨gk - 1, by have := HG.out; omega⟩
 have BX1 := zK BX.out j (.int .i64 rv)
 rw [← HAL.out, c6o acc rv (by rw [HAL.out]; exact J3.out), HAL.out] at BX1
 by_cases hj0 : j = 0
 ·have t5 : ((j : Int) == 0) = true := by rw [hj0]; rfl
  have a2 := am hj0
  clear hj0
  go_wp2_with fail
  clear x0 y1 u1 u2 uu kk hxx hfx t5
  have hvs : vs = (acc ++ [rv]) ++ vr := by rw [HVS.out, ← HRR.out.1, List.append_assoc]; rfl
  have hv2 := HV2.out
  rw [HRR.out.2] at hv2
  go_roundg g1
  case measure => omega
  case rel => exact ⟨j + 1, _, acc ++ [rv], vr, k1, by go_num, rfl, ⟨by rw [if_neg oM]; unfold c6q; rw [if_pos oM]; have h := WP.out; rw [a2.out] at h; rw [show rd ps 0 = pj from h]⟩, ⟨by have := HG.out; omega⟩, ⟨by rw [List.length_append, HAL.out]; rfl⟩, ⟨hvs⟩, ⟨hv2⟩, HKL, BG, BN, ⟨BX1⟩, RK, RP, KW, H0⟩
 have t5 : ((j : Int) == 0) = false := beq_eq_false_iff_ne.mpr oM
 have a2 := am hj0
 clear hj0
 go_wp2_with fail
 clear x0 y1 u1 u2 uu kk hxx hfx t5
 have hvs : vs = (acc ++ [rv]) ++ vr := by rw [HVS.out, ← HRR.out.1, List.append_assoc]; rfl
 have hv2 := HV2.out
 rw [HRR.out.2] at hv2
 go_roundg g1
 case measure => omega
 case rel => exact ⟨j + 1, _, acc ++ [rv], vr, k1, by go_num, rfl, ⟨by rw [if_neg oM, HWV.out, if_neg a2.out]⟩, ⟨by have := HG.out; omega⟩, ⟨by rw [List.length_append, HAL.out]; rfl⟩, ⟨hvs⟩, ⟨hv2⟩, HKL, BG, BN, ⟨BX1⟩, RK, RP, KW, H0⟩
def impl_valueF (l0 : List (S31)) : Nat → List Int → Int → List Int → Option (Int × List Int)
 | 0 => fun _ _ _ => none
 | n + 1 => impl_valueR (n + 1) (impl_valueF l0 n) l0
theorem impl_valueF.calls (g : Nat) (A0 : Option Addr) (c0 : Nat) (l0 : List (S31)) (hc0 : l0.length ≤ c0) (hm : l0.length ≤ 1048576) : ∀ n, a3i g A0 c0 l0 (impl_valueF l0 n)
 | 0 => by
  unfold a3i
  intro hk ck base env i known r known' w hb he hgk hr0 hkl ho h
  exact absurd h (by simp [impl_valueF])
 | n + 1 => impl_valueR.calls (n + 1) g A0 c0 l0 _ (impl_valueF.calls g A0 c0 l0 hc0 hm n) hc0 hm
def c8o (cs : Array Value) : Nat → List Value → Array Value
 | _, [] => cs
 | o, v :: r => c8o (cs.setIfInBounds o v) (o + 1) r
theorem a3h {g t : Nat} : ∀ (vs : List Value) (o : Nat) (w : World) (cs : Array Value), w.heap[g]? = some (.cells cs t (0, 0)) → (w.setCells g o vs).heap[g]? = some (.cells (c8o cs o vs) t (0, 0))
 | [], _, _, _, h => h
 | v :: r, o, w, cs, h => a3h r (o + 1) _ _ (zK h o v)
theorem a1n {w : World} {g : Nat} (hg : w.heap.size ≤ g) : ∀ (vs : List Value) (o : Nat) (W : World), Below w.heap.size w W → Below w.heap.size w (W.setCells g o vs)
 | [], _, _, h => h
 | v :: r, o, W, h => a1n hg r (o + 1) _ (kX h hg)
theorem b7b (A : Option Addr) (n c : Nat) (l : List Int) (h : l.length = 8) : c8o #[.slice A n c, .int .i64 0, .int .i64 0, .int .i64 0, .int .i64 0, .int .i64 0, .int .i64 0, .int .i64 0, .int .i64 0] 1 (l.map (Value.int .i64)) = zB A n c l := by
 match l, h with
 | [a, b, c, d, e, f, g, h], _ => simp [c8o, zB]
set_option maxHeartbeats 4000000 in
theorem a5e (k : Nat) (A0 : Option Addr) (c0 : Nat) (l0 : List (S31)) (A1 : Option Addr) (c1 : Nat) (l1 : List Int) (r : Int) (kn : List Int) (w : World) (hr0 : Kd.C k31 w A0 l0.length l0) (hc0 : l0.length ≤ c0) (hr1 : Kd.C (Kd.int .i64) w A1 l1.length l1) (hc1 : l1.length ≤ c1) (h8 : l1.length = 8) (hl : 1 ≤ l0.length) (hm : l0.length ≤ 1048576)
  (ht : tH k l0 = some true) (h : impl_valueF l0 k l1 ((l0.length : Int) - 1) (List.replicate l0.length (-1)) = some (r, kn))
  (hs : ∀ w : World, Kd.C k31 w A0 l0.length l0 → Kd.C (Kd.int .i64) w A1 l1.length l1 → Calls Try.prog 45 #[.slice A0 l0.length c0, .slice A1 l1.length c1] w fun e w' => e = .returned (.bool true) ∧ Below w.heap.size w w')
  (q : Int) (hq : rH k l0 = some q) (hq12 : ¬ q > 12) :
  Calls Try.prog 14 #[.slice A0 l0.length c0, .slice A1 l1.length c1] w fun e w' => e = .returned (.tuple #[.int .i64 r, .bool true]) ∧ Below w.heap.size w w' := by
 have a1 := am hr0; have a3 := am hc0; have a2 := am hr1; have a5 := am hc1; have HL := am hl; have HM := am hm; have HT := am ht; have HH := am h; have HS := am hs; have HQ := am hq; have H8 := am h8
 have t1 : ((l1.length : Int) != 8) = false := by rw [h8]; rfl
 have t2 : decide (12 < q) = false := decide_eq_false oM
 clear hr0 hc0 hr1 hc1 hl hm ht h hs hq hq12 h8
 go_enter Try.func14, Try.ntmps14
 go_wp2_with fail
 refine (impl_TermOk.calls k A0 c0 l0 true w a1.out a3.out HT.out).mono ?_
 rintro e w2 ⟨rfl, hb⟩
 have HB := am hb
 clear hb
 go_wp2_with fail
 refine (HS.out w2 (Kd.C_below a1.out HB.out) (Kd.C_below a2.out HB.out)).mono ?_
 rintro e w3 ⟨rfl, hb⟩
 have HB := am (HB.out.trans (hb.mono HB.out.size))
 clear hb
 go_wp2_with fail
 refine (impl_quantBits.calls k A0 c0 l0 q w3 (Kd.C_below a1.out HB.out) a3.out HQ.out).mono ?_
 rintro e w4 ⟨rfl, hb⟩
 have HB := am (HB.out.trans (hb.mono HB.out.size))
 clear hb
 go_wp2_with fail
 have hHB4 := HB.out
 have BX := heap_alloc_new w4 (Obj.cells #[.slice A0 l0.length c0, .int .i64 0, .int .i64 0, .int .i64 0, .int .i64 0, .int .i64 0, .int .i64 0, .int .i64 0, .int .i64 0] 65)
 have hA := kR HB.out (Obj.cells #[.slice A0 l0.length c0, .int .i64 0, .int .i64 0, .int .i64 0, .int .i64 0, .int .i64 0, .int .i64 0, .int .i64 0, .int .i64 0] 65)
 generalize hWA : w4.alloc (Obj.cells #[.slice A0 l0.length c0, .int .i64 0, .int .i64 0, .int .i64 0, .int .i64 0, .int .i64 0, .int .i64 0, .int .i64 0, .int .i64 0] 65) = wA at *
 obtain ⟨a0, ea1, hc1'⟩ : ∃ a0, A1 = some a0 ∧ ∀ j v, (l1.map (Value.int .i64))[j]? = some v → wA.cell? (a0.add j) = some v := by
  obtain ⟨ad, e1, _⟩ := Kd.at_int a2.out 0 oM (by rw [H8.out]; decide)
  refine ⟨ad, e1, fun j v hv => ?_⟩
  obtain ⟨x, hx, rfl⟩ := Option.map_eq_some_iff.mp (by rw [List.getElem?_map] at hv; exact hv)
  have hj := (List.getElem?_eq_some_iff.mp hx).1
  obtain ⟨ad', e2, hc⟩ := Kd.at_int a2.out (j : Int) oM oM
  rw [e1] at e2
  cases e2
  rw [Int.toNat_natCast, show rd l1 (j : Int) = x by simp [rd, hx, List.getD_eq_getElem?_getD]] at hc
  exact kC hA hc
 subst ea1
 rw [run_copy_cells wA 25 25 3 3 w4.heap.size 1 8 8 a0 l1.length c1 (l1.map (Value.int .i64)) Try.underlying25 rfl (by rw [List.length_map, H8.out]; rfl) hc1' ?hcc ?hff ?hoo]
 case hcc =>
  intro j hj
  rw [List.length_map, H8.out] at hj
  rw [kG BX (1 + j)]
  have : j = 0 ∨ j = 1 ∨ j = 2 ∨ j = 3 ∨ j = 4 ∨ j = 5 ∨ j = 6 ∨ j = 7 := by omega
  rcases this with rfl | rfl | rfl | rfl | rfl | rfl | rfl | rfl <;> rfl
 case hff => exact fun j _ => kP BX _
 case hoo =>
  intro v hv
  obtain ⟨x, _, rfl⟩ := List.mem_map.mp hv
  rfl
 have hBX := a3h (l1.map (Value.int .i64)) 1 _ _ BX
 rw [b7b _ _ _ _ H8.out] at hBX
 have hHB := a1n HB.out.size (l1.map (Value.int .i64)) 1 _ hA
 have BG := am hBX; have HB := am hHB
 have G4 := am (show w.heap.size ≤ w4.heap.size from kE hHB4)
 clear hBX hHB BX hA hc1'
 generalize wA.setCells w4.heap.size 1 (l1.map (Value.int .i64)) = wB at *
 go_wp2_with fail
 refine (impl_valuer_blank.calls w4.heap.size A0 c0 l0 l1 wB BG.out HL.out HM.out).mono ?_
 rintro e w5 ⟨hk, ck, rfl, hRK, hb⟩
 have hn : wrap64 ((l0.length : Int) - 1) = (l0.length : Int) - 1 := by have := HL.out; have := HM.out; unfold wrap64; omega
 have hgk : w4.heap.size < hk := by
  obtain ⟨g2, c2, e2, a4, _⟩ := Kd.R_form hRK (by rw [List.length_replicate]; exact HL.out)
  rw [List.length_replicate] at e2
  cases e2
  exact Nat.lt_of_lt_of_le (vQ BG.out) a4
 have BG := am (kM BG.out hb)
 have HB := am (HB.out.trans (hb.mono HB.out.size))
 have RK := am hRK
 have HV := impl_valueF.calls w4.heap.size A0 c0 l0 a3.out HM.out k
 unfold a3i at HV
 have HV := am HV
 have HGK := am hgk
 clear hb hRK hgk
 go_wp2_with fail
 try rw [hn]
 clear hn
 refine (HV.out hk ck _ l1 ((l0.length : Int) - 1) (List.replicate l0.length (-1)) r kn w5 BG.out H8.out (by have := HGK.out; omega) (fun W_ hW => ?_) (by simp) RK.out HH.out).mono ?_
 ·have hbl : Below w.heap.size w { W_ with os := w.os, tape := w.tape, output := w.output } := ⟨rfl, rfl, rfl, Nat.le_trans HB.out.size hW.1, fun i hi => by
   show W_.heap[i]? = w.heap[i]?
   rw [hW.2 i (Nat.lt_of_lt_of_le hi HB.out.size) (by have := HGK.out; have := G4.out; omega), HB.out.block i hi]⟩
  have hC := Kd.C_below a1.out hbl
  exact hC
 ·rintro e w6 ⟨rfl, _, _, hK, h0⟩
  go_wp2
  refine bodyPost_ret (uY (rs := [.tmp 4, .tmp 5]) rfl (by simp) (.tmp (.tmp .nil))) rfl ?_
  refine ⟨rfl, h0.os.trans HB.out.os, h0.tape.trans HB.out.tape, h0.output.trans HB.out.output, Nat.le_trans HB.out.size h0.size, fun i hi => ?_⟩
  rw [hK.2 i (Nat.lt_of_lt_of_le hi HB.out.size) (by have := HGK.out; have := G4.out; omega), HB.out.block i hi]
def tN (k : Nat) (l0 : List (S31)) (l1 : List Int) : Option (Int × Bool) :=
 (tH k l0).bind fun ok => (if ok = true then (if l1.length = 8 then (if 1 ≤ l0.length ∧ l0.length ≤ 1048576 then (wZ k l0 l1).bind fun s => (if s = true then (rH k l0).bind fun q => (if q > 12 then some (0, false) else (impl_valueF l0 k l1 ((l0.length : Int) - 1) (List.replicate l0.length (-1))).bind fun p => some (p.1, true)) else some (0, false)) else none) else some (0, false)) else some (0, false))
theorem b0p {P : Prop} (h : P := by
 clear hb
 go_wp2_with fail
 refine bodyPost_ret (uY (rs := [.tmp 4, .tmp 5]) rfl (by simp) (.tmp (.tmp .nil))) rfl ?_
 exact ⟨rfl, HB.out⟩) : P := h
set_option maxHeartbeats 4000000 in
theorem impl_Value.calls {k : Nat} {A0 : Option Addr} {c0 : Nat} {l0 : List (S31)} {A1 : Option Addr} {c1 : Nat} {l1 : List Int} {r1 : Int} {r2 : Bool} {w : World} (hr0 : Kd.C k31 w A0 l0.length l0) (hc0 : l0.length ≤ c0) (hr1 : Kd.C (Kd.int .i64) w A1 l1.length l1) (hc1 : l1.length ≤ c1) (h : tN k l0 l1 = some (r1, r2)) :
  Calls Try.prog 14 #[.slice A0 l0.length c0, .slice A1 l1.length c1] w fun e w' => e = .returned (.tuple #[.int .i64 r1, .bool r2]) ∧ Below w.heap.size w w' := by
 unfold tN at h
 obtain ⟨ok, ht, h⟩ := oB h
 cases ok with
 | false =>
  rw [if_neg (by decide)] at h
  obtain ⟨rfl, rfl⟩ := Prod.mk.inj (oI h)
  have a0 := am hr0; have a1 := am hc0; have HT := am ht
  clear h ht hr0 hc0 hr1 hc1
  go_enter Try.func14, Try.ntmps14
  go_wp2_with fail
  refine (impl_TermOk.calls k A0 c0 l0 false w a0.out a1.out HT.out).mono ?_
  rintro e w2 ⟨rfl, hb⟩
  have HB := am hb
  exact b0p
 | true =>
  rw [if_pos rfl] at h
  by_cases h8 : l1.length = 8
  rotate_left
  ·rw [if_neg h8] at h
   obtain ⟨rfl, rfl⟩ := Prod.mk.inj (oI h)
   have a0 := am hr0; have a1 := am hc0; have HT := am ht
   have t1 : ((l1.length : Int) != 8) = true := bne_iff_ne.mpr oM
   clear h ht hr0 hc0 hr1 hc1 h8
   go_enter Try.func14, Try.ntmps14
   go_wp2_with fail
   refine (impl_TermOk.calls k A0 c0 l0 true w a0.out a1.out HT.out).mono ?_
   rintro e w2 ⟨rfl, hb⟩
   have HB := am hb
   exact b0p
  rw [if_pos h8] at h
  by_cases hl : 1 ≤ l0.length ∧ l0.length ≤ 1048576
  rotate_left
  ·rw [if_neg hl] at h
   exact absurd h (by simp)
  rw [if_pos hl] at h
  obtain ⟨s, hs, h⟩ := oB h
  cases s with
  | false =>
   rw [if_neg (by decide)] at h
   obtain ⟨rfl, rfl⟩ := Prod.mk.inj (oI h)
   have a0 := am hr0; have a1 := am hc0; have HT := am ht; have a2 := am hr1; have a3 := am hc1; have HS := am hs
   have t1 : ((l1.length : Int) != 8) = false := by rw [h8]; rfl
   clear h ht hr0 hc0 hr1 hc1 hs h8 hl
   go_enter Try.func14, Try.ntmps14
   go_wp2_with fail
   refine (impl_TermOk.calls k A0 c0 l0 true w a0.out a1.out HT.out).mono ?_
   rintro e w2 ⟨rfl, hb⟩
   have HB := am hb
   clear hb
   go_wp2_with fail
   refine (impl_suits.calls k A0 c0 l0 A1 c1 l1 false w2 (Kd.C_below a0.out HB.out) a1.out (Kd.C_below a2.out HB.out) a3.out HS.out).mono ?_
   rintro e w3 ⟨rfl, hb⟩
   have HB := am (HB.out.trans (hb.mono HB.out.size))
   exact b0p
  | true =>
   rw [if_pos rfl] at h
   obtain ⟨q, hq, h⟩ := oB h
   by_cases hq12 : q > 12
   rotate_left
   ·rw [if_neg hq12] at h
    obtain ⟨⟨r, kn⟩, hv, h⟩ := oB h
    obtain ⟨rfl, rfl⟩ := Prod.mk.inj (oI h)
    exact a5e k A0 c0 l0 A1 c1 l1 r kn w hr0 hc0 hr1 hc1 h8 hl.1 hl.2 ht hv (fun w' a b => impl_suits.calls k A0 c0 l0 A1 c1 l1 true w' a hc0 b hc1 hs) q hq hq12
   rw [if_pos hq12] at h
   obtain ⟨rfl, rfl⟩ := Prod.mk.inj (oI h)
   have a0 := am hr0; have a1 := am hc0; have HT := am ht; have a2 := am hr1; have a3 := am hc1; have HS := am hs; have HQ := am hq
   have t1 : ((l1.length : Int) != 8) = false := by rw [h8]; rfl
   have t2 : decide (12 < q) = true := decide_eq_true oM
   clear h ht hr0 hc0 hr1 hc1 hs h8 hl hq hq12
   go_enter Try.func14, Try.ntmps14
   go_wp2_with fail
   refine (impl_TermOk.calls k A0 c0 l0 true w a0.out a1.out HT.out).mono ?_
   rintro e w2 ⟨rfl, hb⟩
   have HB := am hb
   clear hb
   go_wp2_with fail
   refine (impl_suits.calls k A0 c0 l0 A1 c1 l1 true w2 (Kd.C_below a0.out HB.out) a1.out (Kd.C_below a2.out HB.out) a3.out HS.out).mono ?_
   rintro e w3 ⟨rfl, hb⟩
   have HB := am (HB.out.trans (hb.mono HB.out.size))
   clear hb
   go_wp2_with fail
   refine (impl_quantBits.calls k A0 c0 l0 q w3 (Kd.C_below a0.out HB.out) a1.out HQ.out).mono ?_
   rintro e w4 ⟨rfl, hb⟩
   have HB := am (HB.out.trans (hb.mono HB.out.size))
   exact b0p
end Go.Proofs.Ytkpipmojkhikaaa.PAll
