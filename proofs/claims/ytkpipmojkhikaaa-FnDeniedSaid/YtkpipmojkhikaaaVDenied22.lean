/- Written by a program of this session over the loaded program, and by hand: Go functions as plain Lean functions, and that a call comes to what they say. -/
import Derived.Test.YtkpipmojkhikaaaVDenied0
import Derived.Test.YtkpipmojkhikaaaVDenied1
import Derived.Test.YtkpipmojkhikaaaVDenied21
import Derived.Test.YtkpipmojkhikaaaBase
import Derived.Test.YtkpipmojkhikaaaSq
namespace Go.Proofs.Ytkpipmojkhikaaa.PAll
open Go.RowKit Go.Proofs.YtkpipmojkhikaaaW.PrintWords Go.Proofs.YtkpipmojkhikaaaW.PrintLast Go.Proofs.YtkpipmojkhikaaaW.PrintMore Go.Proofs.YtkpipmojkhikaaaW.Sq
attribute [local go_sem] qZ qX sT sS qC qB qY qW
set_option linter.unusedVariables false
set_option maxHeartbeats 8000000
set_option maxRecDepth 100000
set_option linter.unusedSimpArgs false
def rR : Nat → Int → Int → Int → Int → Bool → Int → Int → Int → Int → Int → Int → Option (Int)
 | 0, _, _, _, _, _, _, _, _, _, _, _ => none
 | k + 1, x1, x2, x3, x4, aJ, a0, a1, a2, aI, aH, aG => if aJ = true then (some 0) else (if a0 = 0 then (some a2) else (if a0 = 2 then ((yR k a1 x2).bind fun aF => (some aF)) else (if a0 = 3 then (some (Go.bits .and .i64 x2 x3)) else (if a0 = 4 then (some (Go.bits .or .i64 x2 x3)) else (if a0 = 5 then (some (Go.bits .xor .i64 x2 x3)) else (if a0 = 6 then ((zV k a1 x2 x3).bind fun aE => (some aE)) else (if a0 = 7 then ((zM k a1 x2 x3).bind fun aD => (some aD)) else (if a0 = 8 then ((zT k a1 x2 x3).bind fun aC => (some aC)) else (if a0 = 9 then ((zU k a1 x2 x3).bind fun aB => (some aB)) else (if a0 = 10 then ((zS k a1 x2 x3).bind fun aA => (some aA)) else (if a0 = 11 then ((zO k a1 x2 x3).bind fun a9 => (some a9)) else (if a0 = 12 then ((zN k a1 x2 x3).bind fun a8 => (some a8)) else (if a0 = 13 then ((sE (x2 == x3)).bind fun a7 => (some a7)) else (if a0 = 14 then ((yP k x1 x2 x3).bind fun a6 => (some a6)) else (if a0 = 15 then ((uP k x1 x2 x3).bind fun a5 => (some a5)) else (if a0 = 16 then (if a1 < x1 then (some x3) else ((kZ k (wrap64 (a1 - x1))).bind fun a4 => (some (wrap64 ((wrap64 (x2 * a4)) + x3))))) else (if a0 = 17 then ((xW k x1 x2 a2 a1).bind fun a3 => (some a3)) else (if a0 = 18 then (if x2 = 1 then (some x3) else (some x4)) else (some 0)))))))))))))))))))
def xY (k : Nat) (a9 : Int) (a0 : Int) (a8 : Int) (a7 : Int) (a6 : Int) (a5 : Int) (a1 : Int) (a2 : Int) (a3 : Int) (a4 : Int) : Option (Int) := (pJ a0 1 8).bind fun aE => (if aE = true then ((pJ a1 1 8).bind fun aD => (if aD = true then ((pJ a2 0 255).bind fun aC => (if aC = true then ((pJ a3 0 255).bind fun aB => (if aB = true then ((pJ a4 0 255).bind fun aA => (rR k a1 a2 a3 a4 (!aA) a9 a0 a8 a7 a6 a5)) else (rR k a1 a2 a3 a4 true a9 a0 a8 a7 a6 a5))) else (rR k a1 a2 a3 a4 true a9 a0 a8 a7 a6 a5))) else (rR k a1 a2 a3 a4 true a9 a0 a8 a7 a6 a5))) else (rR k a1 a2 a3 a4 true a9 a0 a8 a7 a6 a5))
theorem spec_Apply.calls {k : Nat} {aA a9 a8 a7 a6 a5 a1 a2 a3 a4 r : Int} {w : World} (h : xY k aA a9 a8 a7 a6 a5 a1 a2 a3 a4 = some r) :
  Calls Try.prog 120 #[.agg #[.int .i64 aA, .int .i64 a9, .int .i64 a8, .int .i64 a7, .int .i64 a6, .int .i64 a5], .int .i64 a1, .int .i64 a2, .int .i64 a3, .int .i64 a4] w fun e w' => e = .returned (.int .i64 r) ∧ Below w.heap.size w w' := by
 have hu31 := Try.underlying31
 have HB := am (Below.refl w.heap.size w)
 have H := h
 clear h
 unfold xY at H
 have aD := am H; clear H
 go_enter Try.func120, Try.ntmps120
 go_upto_region 1 with (first | ((with_reducible refine qF (N := 5) rfl ?_); refine wT ?hg (N := 5) ?hd (cs := #[.int .i64 aA, .int .i64 a9, .int .i64 a8, .int .i64 a7, .int .i64 a6, .int .i64 a5]) (t := 31) ?hr ?_; (case hd => rfl); (case hg => rfl); (case hr => (go_simp; done)); intro aF hg w7 hbox hb; have bM := am (rA (by exact sW HB.out) hb); have bL := am (hbox); have bK := gw hg; have bJ := gw hg; clear HB; have HB := bM; have a0 := bL; have d5 := bK; have d6 := bJ; clear bM bL bK bJ; clear hb hbox hg))
 (try simp only [Act.put, List.setIfInBounds_toArray, List.set_cons_zero, List.set_cons_succ])
 go_cut [34] (fun cR wc => ∃ (kq : Nat) (aB : Bool), cR = .bool aB ∧ Aside0 (rR kq a1 a2 a3 a4 aB aA a9 a8 a7 a6 a5 = some r) ∧ Aside0 (kq ≤ k) ∧ Aside0 (wc.heap[aF]? = some (.cells #[.int .i64 aA, .int .i64 a9, .int .i64 a8, .int .i64 a7, .int .i64 a6, .int .i64 a5] 31 (0, 0))) ∧ Aside0 (Below w.heap.size w wc))
 case first =>
  have H := aD.out
  clear aD
  replace H := oA H; obtain ⟨dN, A8, H⟩ := H
  replace H := iB H; rcases H with ⟨rfl, H⟩ | ⟨rfl, H⟩
  rotate_left
  ·replace H := am H
   have cM := cf6 a0.out
   go_wp2_with (first | ((with_reducible refine gW ?_); first | (refine gD (some 13) Try.func42 rfl (spec_l01In.calls A8.out) fun nd => ?_)))
   go_meet
   case rel => exact ⟨_, true, rfl, H, ⟨oM⟩, ⟨sB <| a0.out⟩, ⟨bW⟩⟩
  replace H := oA H; obtain ⟨dM, aC, H⟩ := H
  replace H := iB H; rcases H with ⟨rfl, H⟩ | ⟨rfl, H⟩
  rotate_left
  ·replace H := am H
   have cN := cf6 a0.out
   go_wp2_with (first | (go_at_call 42; refine cD (spec_l01In.calls aC.out) fun nd => ?_) | ((with_reducible refine gW ?_); first | (refine gD (some 13) Try.func42 rfl (spec_l01In.calls A8.out) fun nd => ?_)))
   go_meet
   case rel => exact ⟨_, true, rfl, H, ⟨oM⟩, ⟨sB <| a0.out⟩, ⟨bW⟩⟩
  replace H := oA H; obtain ⟨dL, aE, H⟩ := H
  replace H := iB H; rcases H with ⟨rfl, H⟩ | ⟨rfl, H⟩
  ·replace H := oA H; obtain ⟨dK, bN, H⟩ := H
   replace H := iB H; rcases H with ⟨rfl, H⟩ | ⟨rfl, H⟩
   ·replace H := oA H; obtain ⟨bO, d4, H⟩ := H
    replace H := am H
    have cQ := cf6 a0.out
    go_wp2_with (first | (go_at_call 42; refine cD (spec_l01In.calls aC.out) fun nd => ?_) | (go_at_call 42; refine cD (spec_l01In.calls aE.out) fun nd => ?_) | (go_at_call 42; refine cD (spec_l01In.calls bN.out) fun nd => ?_) | (go_at_call 42; refine cD (spec_l01In.calls d4.out) fun nd => ?_) | ((with_reducible refine gW ?_); first | (refine gD (some 13) Try.func42 rfl (spec_l01In.calls A8.out) fun nd => ?_)))
    go_meet
    case rel => exact ⟨_, (!bO), rfl, H, ⟨oM⟩, ⟨sB <| a0.out⟩, ⟨bW⟩⟩
   replace H := am H
   have cP := cf6 a0.out
   go_wp2_with (first | (go_at_call 42; refine cD (spec_l01In.calls aC.out) fun nd => ?_) | (go_at_call 42; refine cD (spec_l01In.calls aE.out) fun nd => ?_) | (go_at_call 42; refine cD (spec_l01In.calls bN.out) fun nd => ?_) | ((with_reducible refine gW ?_); first | (refine gD (some 13) Try.func42 rfl (spec_l01In.calls A8.out) fun nd => ?_)))
   go_meet
   case rel => exact ⟨_, true, rfl, H, ⟨oM⟩, ⟨sB <| a0.out⟩, ⟨bW⟩⟩
  replace H := am H
  have cO := cf6 a0.out
  go_wp2_with (first | (go_at_call 42; refine cD (spec_l01In.calls aC.out) fun nd => ?_) | (go_at_call 42; refine cD (spec_l01In.calls aE.out) fun nd => ?_) | ((with_reducible refine gW ?_); first | (refine gD (some 13) Try.func42 rfl (spec_l01In.calls A8.out) fun nd => ?_)))
  go_meet
  case rel => exact ⟨_, true, rfl, H, ⟨oM⟩, ⟨sB <| a0.out⟩, ⟨bW⟩⟩
 clear aD
 obtain ⟨kq, aB, rfl, HA, dP, a0, HB⟩ := hcut
 cases kq with
 | zero => cases HA.out
 | succ dO =>
  obtain ⟨H⟩ := HA
  simp only [rR] at H
  replace H := iB H; rcases H with ⟨rfl, H⟩ | ⟨rfl, H⟩
  ·obtain rfl := oI H
   go_wp2
   go_ret
   exact ⟨rfl, bW⟩
  replace H := iE H; rcases H with ⟨bI, bH, H⟩ | ⟨bI, bH, H⟩
  ·obtain rfl := oI H
   have cL := cf6 a0.out
   go_wp2
   go_ret
   exact ⟨rfl, bW⟩
  replace H := iE H; rcases H with ⟨bG, bF, H⟩ | ⟨bG, bF, H⟩
  ·replace H := oA H; obtain ⟨dJ, d3, H⟩ := H
   obtain rfl := oI H
   have cK := cf6 a0.out
   go_wp2_with (first | ((with_reducible refine gW ?_); first | (refine gD (some 46) Try.func142 rfl (spec_Flip.calls d3.out) fun nd => ?_)))
   go_ret
   exact ⟨rfl, bW⟩
  replace H := iE H; rcases H with ⟨bE, bD, H⟩ | ⟨bE, bD, H⟩
  ·obtain rfl := oI H
   have cJ := cf6 a0.out
   go_wp2
   go_ret
   exact ⟨rfl, bW⟩
  replace H := iE H; rcases H with ⟨bC, bB, H⟩ | ⟨bC, bB, H⟩
  ·obtain rfl := oI H
   have cI := cf6 a0.out
   go_wp2
   go_ret
   exact ⟨rfl, bW⟩
  replace H := iE H; rcases H with ⟨bA, b9, H⟩ | ⟨bA, b9, H⟩
  ·obtain rfl := oI H
   have cH := cf6 a0.out
   go_wp2
   go_ret
   exact ⟨rfl, bW⟩
  replace H := iE H; rcases H with ⟨b8, b7, H⟩ | ⟨b8, b7, H⟩
  ·replace H := oA H; obtain ⟨dI, d2, H⟩ := H
   obtain rfl := oI H
   have cG := cf6 a0.out
   go_wp2_with (first | ((with_reducible refine gW ?_); first | (refine gD (some 68) Try.func143 rfl (spec_Add.calls d2.out) fun nd => ?_)))
   go_ret
   exact ⟨rfl, bW⟩
  replace H := iE H; rcases H with ⟨b6, b5, H⟩ | ⟨b6, b5, H⟩
  ·replace H := oA H; obtain ⟨dH, d1, H⟩ := H
   obtain rfl := oI H
   have cF := cf6 a0.out
   go_wp2_with (first | ((with_reducible refine gW ?_); first | (refine gD (some 75) Try.func144 rfl (spec_Sub.calls d1.out) fun nd => ?_)))
   go_ret
   exact ⟨rfl, bW⟩
  replace H := iE H; rcases H with ⟨b4, b3, H⟩ | ⟨b4, b3, H⟩
  ·replace H := oA H; obtain ⟨dG, d0, H⟩ := H
   obtain rfl := oI H
   have cE := cf6 a0.out
   go_wp2_with (first | ((with_reducible refine gW ?_); first | (refine gD (some 82) Try.func145 rfl (spec_Mul.calls d0.out) fun nd => ?_)))
   go_ret
   exact ⟨rfl, bW⟩
  replace H := iE H; rcases H with ⟨b2, b1, H⟩ | ⟨b2, b1, H⟩
  ·replace H := oA H; obtain ⟨dF, c_, H⟩ := H
   obtain rfl := oI H
   have cC := cf6 a0.out
   go_wp2_with (first | ((with_reducible refine gW ?_); first | (refine gD (some 89) Try.func146 rfl (spec_Div.calls c_.out) fun nd => ?_)))
   go_ret
   exact ⟨rfl, bW⟩
  replace H := iE H; rcases H with ⟨b0, a_, H⟩ | ⟨b0, a_, H⟩
  ·replace H := oA H; obtain ⟨dE, cZ, H⟩ := H
   obtain rfl := oI H
   have cB := cf6 a0.out
   go_wp2_with (first | ((with_reducible refine gW ?_); first | (refine gD (some 96) Try.func147 rfl (spec_Rem.calls cZ.out) fun nd => ?_)))
   go_ret
   exact ⟨rfl, bW⟩
  replace H := iE H; rcases H with ⟨aZ, aY, H⟩ | ⟨aZ, aY, H⟩
  ·replace H := oA H; obtain ⟨dD, cY, H⟩ := H
   obtain rfl := oI H
   have c1 := cf6 a0.out
   go_wp2_with (first | ((with_reducible refine gW ?_); first | (refine gD (some 103) Try.func148 rfl (spec_Shl.calls cY.out) fun nd => ?_)))
   go_ret
   exact ⟨rfl, bW⟩
  replace H := iE H; rcases H with ⟨aX, aW, H⟩ | ⟨aX, aW, H⟩
  ·replace H := oA H; obtain ⟨dC, cX, H⟩ := H
   obtain rfl := oI H
   have c0 := cf6 a0.out
   go_wp2_with (first | ((with_reducible refine gW ?_); first | (refine gD (some 110) Try.func149 rfl (spec_Shr.calls cX.out) fun nd => ?_)))
   go_ret
   exact ⟨rfl, bW⟩
  replace H := iE H; rcases H with ⟨aV, aU, H⟩ | ⟨aV, aU, H⟩
  ·replace H := oA H; obtain ⟨dB, cW, H⟩ := H
   obtain rfl := oI H
   have b_ := cf6 a0.out
   go_wp2_with (first | ((with_reducible refine gW ?_); first | (refine gD (some 116) Try.func150 rfl (spec_l01Bool.calls cW.out) fun nd => ?_)))
   go_ret
   exact ⟨rfl, bW⟩
  replace H := iE H; rcases H with ⟨aT, aS, H⟩ | ⟨aT, aS, H⟩
  ·replace H := oA H; obtain ⟨dA, cV, H⟩ := H
   obtain rfl := oI H
   have bZ := cf6 a0.out
   go_wp2_with (first | ((with_reducible refine gW ?_); first | (refine gD (some 122) Try.func151 rfl (spec_Less.calls cV.out) fun nd => ?_)))
   go_ret
   exact ⟨rfl, bW⟩
  replace H := iE H; rcases H with ⟨aR, aQ, H⟩ | ⟨aR, aQ, H⟩
  ·replace H := oA H; obtain ⟨d9, cU, H⟩ := H
   obtain rfl := oI H
   have bV := cf6 a0.out
   go_wp2_with (first | ((with_reducible refine gW ?_); first | (refine gD (some 128) Try.func152 rfl (spec_LessSigned.calls cU.out) fun nd => ?_)))
   go_ret
   exact ⟨rfl, bW⟩
  replace H := iE H; rcases H with ⟨aO, aN, H⟩ | ⟨aO, aN, H⟩
  ·replace H := iD H; rcases H with ⟨aM, H⟩ | ⟨aM, H⟩
   ·obtain rfl := oI H
    have bU := cf6 a0.out
    go_wp2
    go_ret
    exact ⟨rfl, bW⟩
   replace H := oA H; obtain ⟨d8, cT, H⟩ := H
   obtain rfl := oI H
   have bT := cf6 a0.out
   go_wp2_with (first | ((with_reducible refine gW ?_); first | (refine gD (some 141) Try.func81 rfl (spec_l01Pow2.calls cT.out) fun nd => ?_)))
   go_ret
   exact ⟨rfl, bW⟩
  replace H := iE H; rcases H with ⟨aL, aK, H⟩ | ⟨aL, aK, H⟩
  ·replace H := oA H; obtain ⟨d7, cS, H⟩ := H
   obtain rfl := oI H
   have bS := cf6 a0.out
   go_wp2_with (first | ((with_reducible refine gW ?_); first | (refine gD (some 153) Try.func153 rfl (spec_Slice.calls cS.out) fun nd => ?_)))
   go_ret
   exact ⟨rfl, bW⟩
  replace H := iE H; rcases H with ⟨aJ, aI, H⟩ | ⟨aJ, aI, H⟩
  ·replace H := iE H; rcases H with ⟨aH, aG, H⟩ | ⟨aH, aG, H⟩
   ·obtain rfl := oI H
    have bR := cf6 a0.out
    go_wp2
    go_ret
    exact ⟨rfl, bW⟩
   obtain rfl := oI H
   have bQ := cf6 a0.out
   go_wp2
   go_ret
   exact ⟨rfl, bW⟩
  obtain rfl := oI H
  have bP := cf6 a0.out
  go_wp2
  go_ret
  exact ⟨rfl, bW⟩
end Go.Proofs.Ytkpipmojkhikaaa.PAll
