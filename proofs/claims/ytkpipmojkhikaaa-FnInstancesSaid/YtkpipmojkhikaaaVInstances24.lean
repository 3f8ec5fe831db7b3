/- Written by a program of this session over the loaded program, and by hand: Go functions as plain Lean functions, and that a call comes to what they say. -/
import Derived.Test.YtkpipmojkhikaaaVInstances0
import Derived.Test.YtkpipmojkhikaaaVInstances1
import Derived.Test.YtkpipmojkhikaaaVInstances3
import Derived.Test.YtkpipmojkhikaaaVInstances11
import Derived.Test.YtkpipmojkhikaaaVInstances16
import Derived.Test.YtkpipmojkhikaaaVInstances22
import Derived.Test.YtkpipmojkhikaaaVInstances23
import Derived.Test.YtkpipmojkhikaaaBase
import Derived.Test.YtkpipmojkhikaaaSq
namespace Go.Proofs.Ytkpipmojkhikaaa.PAll
open Go.RowKit Go.Proofs.YtkpipmojkhikaaaW.PrintWords Go.Proofs.YtkpipmojkhikaaaW.PrintLast Go.Proofs.YtkpipmojkhikaaaW.PrintMore Go.Proofs.YtkpipmojkhikaaaW.Sq
attribute [local go_sem] rF rC tK tJ qE qD rD rA
set_option linter.unusedVariables false
set_option maxHeartbeats 8000000
set_option maxRecDepth 100000
set_option linter.unusedSimpArgs false
mutual
def qN : Nat → List (S31) → List Int → Int → Int → Bool → Option (Bool)
 | 0, _, _, _, _, _ => none
 | k + 1, x3, x4, x5, x6, aO => if aO = true then (some true) else ((some (([] : List (S31)) : List (S31))).bind fun aJ => (if aJ.length + x3.length < 2932031007402 then ((some (aJ ++ x3 : List (S31))).bind fun aI => ((some (([(⟨19, 1, x5, wrap64 ((x3.length : Int) - 1), x6, 0⟩ : S31)] : List (S31)) : List (S31))).bind fun aH => (if aI.length + aH.length < 2932031007402 then ((some (aI ++ aH : List (S31))).bind fun aG => ((some (([] : List (S31)) : List (S31))).bind fun aF => (if aF.length + x3.length < 2932031007402 then ((some (aF ++ x3 : List (S31))).bind fun aE => ((some (([(⟨20, 1, x5, wrap64 ((x3.length : Int) - 1), x6, 0⟩ : S31)] : List (S31)) : List (S31))).bind fun aD => (if aE.length + aD.length < 2932031007402 then ((rN k aG x4).bind fun a8 => ((rN k (aE ++ aD) x4).bind fun a7 => ((tR k aG x4).bind fun a4 => (if (a8.2 != a4.2) = true then (sN k x3 x4 x5 x6 a8.1 a7.1 a4.2 true) else (sN k x3 x4 x5 x6 a8.1 a7.1 a4.2 (a7.2 != a4.2)))))) else (none)))) else (none)))) else (none)))) else (none)))
def sN : Nat → List (S31) → List Int → Int → Int → Int → Int → Bool → Bool → Option (Bool)
 | 0, _, _, _, _, _, _, _, _ => none
 | k + 1, x3, x4, x5, x6, a3, a2, aR, aN => if aN = true then (some false) else (if aR = true then (pX k x3 x4 x5 x6 a3 a2 1 0 0) else (some true))
def pX : Nat → List (S31) → List Int → Int → Int → Int → Int → Int → Int → Int → Option (Bool)
 | 0, _, _, _, _, _, _, _, _, _ => none
 | k + 1, x3, x4, x5, x6, a3, a2, a6, a5, a1 => (a0a k x6).bind fun aK => (if a1 < aK then ((some (([] : List Int) : List Int)).bind fun aC => (if aC.length + x4.length < 17592186044416 then ((some (aC ++ x4 : List Int)).bind fun aB => (if 0 ≤ x5 then (if x5 < (aB.length : Int) then ((wZ k x3 x5 a1).bind fun aA => ((rN k x3 (aB.set (x5 : Int).toNat a1)).bind fun a0 => (if aA.2 = true then ((rN k aA.1 x4).bind fun a9 => (if a9.2 = true then (if a0.2 = true then (rI k x3 x4 x5 x6 a3 a2 a6 a5 a1 a0.1 a0.2 (a0.1 != a9.1)) else (rI k x3 x4 x5 x6 a3 a2 a6 a5 a1 a0.1 a0.2 false)) else (rI k x3 x4 x5 x6 a3 a2 a6 a5 a1 a0.1 a0.2 false))) else (if a0.2 = true then (pX k x3 x4 x5 x6 a3 a2 (Go.bits .and .i64 a6 a0.1) (Go.bits .or .i64 a5 a0.1) (wrap64 (a1 + 1))) else (some false))))) else (none)) else (none))) else (none))) else (if a3 = a6 then (some (a2 == a5)) else (some false)))
def rI : Nat → List (S31) → List Int → Int → Int → Int → Int → Int → Int → Int → Int → Bool → Bool → Option (Bool)
 | 0, _, _, _, _, _, _, _, _, _, _, _, _ => none
 | k + 1, x3, x4, x5, x6, a3, a2, a6, a5, a1, aL, aQ, aM => if aM = true then (some false) else (if aQ = true then (pX k x3 x4 x5 x6 a3 a2 (Go.bits .and .i64 a6 aL) (Go.bits .or .i64 a5 aL) (wrap64 (a1 + 1))) else (some false))
end
def vS (k : Nat) (l0 : List Int) : Option (Bool) := (a1m l0).bind fun a4 => (if a4 = true then (some true) else ((vG k l0).bind fun a0 => ((a0b l0 3).bind fun a2 => ((a0b l0 4).bind fun a1 => ((rW k a0.1).bind fun a3 => (if a3 = true then (if 0 ≤ (wrap64 ((a0.1.length : Int) - 1)) then (if (wrap64 ((a0.1.length : Int) - 1)) < (a0.1.length : Int) then (if ((kA a0.1 (wrap64 ((a0.1.length : Int) - 1))).f1) = 1 then (qN k a0.1 a0.2 (Int.tmod a2 4) (wrap64 (1 + (Int.tmod a1 3))) (decide ((a0.1.length : Int) ≥ 80))) else (qN k a0.1 a0.2 (Int.tmod a2 4) (wrap64 (1 + (Int.tmod a1 3))) true)) else (none)) else (none)) else (qN k a0.1 a0.2 (Int.tmod a2 4) (wrap64 (1 + (Int.tmod a1 3))) true)))))))
theorem xQ {P : Prop} (h : P := by
 simp only [Act.put, List.setIfInBounds_toArray, List.set_cons_zero, List.set_cons_succ, vE, a3o]
 rfl) : P := h
theorem b8j {P : Prop} (h : P := by
 replace HB := am hb
 have b5 := am ho
 clear aV
 clear ho hb hg hat
 refine hK.out _ _ (cz6 a1.out) (fun hHeld => ?_)
 clear hK K
 refine sM (a' := ?_) ?_ ?_
 rotate_left
 ·show Act.put _ (some 73) _ = _
  exact xQ
 exact sM (by simp only [yX, Act.put, List.setIfInBounds_toArray, List.set_cons_zero, List.set_cons_succ]) (hCont (bT, bF, aX) _ ⟨hHeld, (by exact sR <| Kd.R_mono a7.out (fun _ hk => ⟨hk.1.2.1, ⟨hk.2, ⟨hk.1.2.2.1, ⟨hk.1.1, hk.1.2.2.2⟩⟩⟩⟩)), (by exact sR <| Kd.R_mono a9.out (fun _ hk => ⟨hk.1.2.1, ⟨hk.2, ⟨hk.1.2.2.1, ⟨hk.1.1, hk.1.2.2.2⟩⟩⟩⟩)), (by exact sR <| Kd.R_mono b5.out (fun _ hk => ⟨hk.2.1, ⟨hk.2.2.1, ⟨hk.2.2.2.1, ⟨hk.1, hk.2.2.2.2⟩⟩⟩⟩)), (by exact sR <| Kd.R_mono aE.out (fun _ hk => ⟨hk.1.2.1, ⟨hk.1.2.2.1, ⟨hk.2, ⟨hk.1.1, hk.1.2.2.2⟩⟩⟩⟩)), (by exact sR <| Kd.R_mono a3.out (fun _ hk => ⟨hk.1.1, ⟨hk.1.2.1, ⟨hk.2, ⟨hk.1.2.2.1, hk.1.2.2.2⟩⟩⟩⟩)), (by exact sR <| a4.out), (by exact sB <| a1.out), (by exact bW)⟩)) : P := h
theorem b8d {P : Prop} (h : P := by
 replace HB := am hb
 have b6 := am ho
 clear aW
 clear ho hb hg hat
 refine hK.out _ _ (cz6 a1.out) (fun hHeld => ?_)
 clear hK K
 refine sM (a' := ?_) ?_ ?_
 rotate_left
 ·show Act.put _ (some 66) _ = _
  exact xQ
 exact sM (by simp only [yX, Act.put, List.setIfInBounds_toArray, List.set_cons_zero, List.set_cons_succ]) (hCont (bU, bL, bA) _ ⟨hHeld, (by exact sR <| Kd.R_mono b6.out (fun _ hk => ⟨hk.2.1, ⟨hk.1, hk.2.2⟩⟩)), (by exact sR <| Kd.R_mono a7.out (fun _ hk => ⟨hk.2, ⟨hk.1.1, hk.1.2⟩⟩)), (by exact sR <| Kd.R_mono a3.out (fun _ hk => ⟨hk.2, ⟨hk.1.1, hk.1.2⟩⟩)), (by exact sR <| a4.out), (by exact sB <| a1.out), (by exact bW)⟩)) : P := h
theorem b7x {P : Prop} (h : P := by
 replace H := am H
 go_wp2
 go_meet
 case rel => exact ⟨_, false, rfl, H, ⟨by have := cK.out; have := cJ.out; have := cQ.out; omega⟩, ⟨by (try simp only [hl4_3]); exact sR <| Kd.R_mono a3.out (fun _ hk => hk.1)⟩, ⟨by (try simp only [hl4_3]); exact sR <| Kd.R_mono a4.out (fun _ hk => trivial)⟩, ⟨by (try simp only [hl4_3]); exact sB <| a1.out⟩, ⟨bW⟩⟩) : P := h
theorem b7v {P : Prop} (h : P := by
 obtain rfl := oI H
 go_wp2_with (first | ((with_reducible refine gW ?_); first | (refine gD (some 107) Try.func16 rfl (laws_pow.calls dF.out) fun nd => ?_)))
 go_ret
 exact ⟨rfl, bW⟩) : P := h
theorem laws_FnInstances.calls (k : Nat) (A0 : Option Addr) (c0 : Nat) (l0 : List Int) (r : Bool) (w : World) (hr0 : Kd.C (Kd.int .u8) w A0 l0.length l0) (hc0 : l0.length ≤ c0) (h : vS k l0 = some r) :
  Calls Try.prog 3 #[.slice A0 l0.length c0] w fun e w' => e = .returned (.bool r) ∧ Below w.heap.size w w' := by
 have hu31 := Try.underlying31
 have dD := am hr0
 have dE := am hc0
 clear hr0 hc0
 have HB := am (Below.refl w.heap.size w)
 have H := h
 clear h
 unfold vS at H
 replace H := oA H; obtain ⟨fY, A2, H⟩ := H
 replace H := iB H; rcases H with ⟨rfl, H⟩ | ⟨rfl, H⟩
 ·obtain rfl := oI H
  go_enter Try.func3, Try.ntmps3
  go_wp2_with (first | ((with_reducible refine gW ?_); first | (refine gC 10 (some 27) Try.func10 #[.slice A0 l0.length c0] ?_; (with_reducible refine (laws_big.calls ?side1 ?side2 A2.out).mono ?_); (case side1 => repeat (first | exact dD.out | (with_reducible refine Kd.C_alloc ?_ _) | (with_reducible refine Kd.C_drewN ?_ _) | (with_reducible refine Kd.C_drew ?_))); (case side2 => exact dE.out); rintro e w' ⟨rfl, ⟨nd, rfl⟩⟩; refine ⟨_, rfl, ?_⟩)))
  go_ret
  exact ⟨rfl, sW HB.out⟩
 replace H := oA H; obtain ⟨⟨a2, b7⟩, A4, H⟩ := H
 try dsimp only at H
 replace H := oA H; obtain ⟨a6, A5, H⟩ := H
 replace H := oA H; obtain ⟨a5, A6, H⟩ := H
 have e8 := am H; clear H
 go_enter Try.func3, Try.ntmps3
 go_upto_region 5 with (first | ((with_reducible refine gW ?_); first | ((with_reducible refine xU (f := 10) rfl ?_); refine a1v (some 27) rfl rfl Try.func10 (by kernel_rfl) rfl #[.slice A0 l0.length c0] rfl tn ?_; (with_reducible refine (laws_big.calls ?side1 ?side2 A2.out).mono ?_); (case side1 => repeat (first | exact dD.out | (with_reducible refine Kd.C_alloc ?_ _) | (with_reducible refine Kd.C_drewN ?_ _) | (with_reducible refine Kd.C_drew ?_))); (case side2 => exact dE.out); rintro e w' ⟨rfl, ⟨nd, rfl⟩⟩; refine ⟨_, rfl, ?_⟩) | ((with_reducible refine xU (f := 11) rfl ?_); refine a1v (some 30) rfl rfl Try.func11 (by kernel_rfl) rfl #[.slice A0 l0.length c0] rfl tn ?_; (with_reducible refine (spec_DrawValue.calls ?side1 ?side2 A4.out).mono ?_); (case side1 => repeat (first | exact dD.out | (with_reducible refine Kd.C_alloc ?_ _) | (with_reducible refine Kd.C_drewN ?_ _) | (with_reducible refine Kd.C_drew ?_))); (case side2 => exact dE.out); rintro e w8 ⟨e_, bV, rfl, bI, eS, hb⟩; refine ⟨_, rfl, ?_⟩; have aM := rL bI HB; have bE := rL eS HB; replace HB := hB HB hb; (try clear eS)) | (refine gD (some 34) Try.func12 rfl (laws_at.calls (sC (Kd.C_below dD.out HB.out)) dE.out A5.out) fun nd => ?_) | (refine gD (some 37) Try.func12 rfl (laws_at.calls (sC (Kd.C_below dD.out (by exact sW HB.out))) dE.out A6.out) fun nd => ?_))); clear hb bI
 (try simp only [Act.put, List.setIfInBounds_toArray, List.set_cons_zero, List.set_cons_succ])
 go_cut [57] (fun f8 wc => ∃ (kq : Nat) (cT : Bool), f8 = .bool cT ∧ Aside0 (qN kq a2 b7 (Int.tmod a6 4) (wrap64 (1 + (Int.tmod a5 3))) cT = some r) ∧ Aside0 (kq ≤ k) ∧ Aside0 (Kd.R k31 31 wc w.heap.size (fun _ => True) e_ a2) ∧ Aside0 (Kd.R (Kd.int .i64) 3 wc w.heap.size (fun _ => True) bV b7) ∧ Aside0 (Below w.heap.size w wc))
 case first =>
  have H := e8.out
  clear e8
  replace H := oA H; obtain ⟨fX, A9, H⟩ := H
  replace H := iB H; rcases H with ⟨rfl, H⟩ | ⟨rfl, H⟩
  ·generalize dU : wrap64 ((a2.length : Int) - 1) = dK at H
   (try rw [dU] at A9)
   have fD : (IntKind.i64.wrap ((a2.length : Int) - 1)) = dK := (vE _).trans dU
   replace H := iN H; obtain ⟨fS, H⟩ := H
   replace H := iN H; obtain ⟨fR, H⟩ := H
   replace H := iE H; rcases H with ⟨eK, eJ, H⟩ | ⟨eK, eJ, H⟩
   ·replace H := am H
    obtain ⟨g9, g3, rfl⟩ := Kd.R_slice aM.out
    go_wp2_with (first | ((with_reducible refine gW ?_); first | (refine gF 13 (some 41) rfl ?_; refine gS Try.func13 (spec_TermOk.calls (sC (Kd.R_reads' aM.out).2.2) ((Kd.R_reads' aM.out).2.1) A9.out) ?_; rintro w16 hb; replace aM := rB aM hb; replace bE := rB bE hb; replace HB := hB HB hb; (try clear hb); obtain ⟨f3, f2, eL, rfl, e2, e1, e0, d_, dZ, dY⟩ := ix (pE (Kd.R_reads' aM.out).2.2 (dK)))))
    go_meet
    case rel => exact ⟨_, (decide ((a2.length : Int) ≥ 80)), rfl, H, ⟨oM⟩, ⟨sR <| aM.out⟩, ⟨sR <| bE.out⟩, ⟨sW HB.out⟩⟩
   replace H := am H
   obtain ⟨g8, g2, rfl⟩ := Kd.R_slice aM.out
   go_wp2_with (first | ((with_reducible refine gW ?_); first | (refine gF 13 (some 41) rfl ?_; refine gS Try.func13 (spec_TermOk.calls (sC (Kd.R_reads' aM.out).2.2) ((Kd.R_reads' aM.out).2.1) A9.out) ?_; rintro w18 hb; replace aM := rB aM hb; replace bE := rB bE hb; replace HB := hB HB hb; (try clear hb); obtain ⟨f3, f2, eL, rfl, e2, e1, e0, d_, dZ, dY⟩ := ix (pE (Kd.R_reads' aM.out).2.2 (dK)))))
   go_meet
   case rel => exact ⟨_, true, rfl, H, ⟨oM⟩, ⟨sR <| aM.out⟩, ⟨sR <| bE.out⟩, ⟨sW HB.out⟩⟩
  replace H := am H
  obtain ⟨g7, g1, rfl⟩ := Kd.R_slice aM.out
  go_wp2_with (first | ((with_reducible refine gW ?_); first | (refine gF 13 (some 41) rfl ?_; refine gS Try.func13 (spec_TermOk.calls (sC (Kd.R_reads' aM.out).2.2) ((Kd.R_reads' aM.out).2.1) A9.out) ?_; rintro w20 hb; replace aM := rB aM hb; replace bE := rB bE hb; replace HB := hB HB hb; (try clear hb))))
  go_meet
  case rel => exact ⟨_, true, rfl, H, ⟨oM⟩, ⟨sR <| aM.out⟩, ⟨sR <| bE.out⟩, ⟨sW HB.out⟩⟩
 clear e8
 obtain ⟨kq, cT, rfl, HA, cK, a3, a4, HB⟩ := hcut
 cases kq with
 | zero => cases HA.out
 | succ fC =>
  obtain ⟨H⟩ := HA
  simp only [qN] at H
  replace H := iB H; rcases H with ⟨rfl, H⟩ | ⟨rfl, H⟩
  ·obtain rfl := oI H
   go_wp2
   go_ret
   exact ⟨rfl, sW HB.out⟩
  replace H := oS H; obtain ⟨dJ, dX, H⟩ := H
  replace H := iP H; obtain ⟨eZ, H⟩ := H
  have d4 := am eZ
  clear eZ
  replace H := oS H; obtain ⟨dI, d1, H⟩ := H
  replace H := oS H; obtain ⟨aD, d0, H⟩ := H
  replace H := iP H; obtain ⟨eY, H⟩ := H
  have eP := am eY
  clear eY
  replace H := oS H; obtain ⟨dH, eN, H⟩ := H
  replace H := oS H; obtain ⟨dG, dW, H⟩ := H
  replace H := iP H; obtain ⟨eX, H⟩ := H
  have d3 := am eX
  clear eX
  replace H := oS H; obtain ⟨cR, c_, H⟩ := H
  replace H := oS H; obtain ⟨bN, cZ, H⟩ := H
  replace H := iP H; obtain ⟨eW, H⟩ := H
  have eO := am eW
  clear eW
  generalize dT : cR ++ bN = fV at H
  have eM := am dT.symm; clear dT
  replace H := oA H; obtain ⟨⟨cV, bH⟩, fH, H⟩ := H
  try dsimp only at H
  replace H := oA H; obtain ⟨⟨cU, eD⟩, fG, H⟩ := H
  try dsimp only at H
  replace H := oA H; obtain ⟨⟨fM, b9⟩, fF, H⟩ := H
  try dsimp only at H
  have dP := am H; clear H
  obtain ⟨aC, aA, rfl⟩ := Kd.R_slice a3.out
  try go_wp2_with (first | ((with_reducible refine pQ (N := 7) rfl ?_); (try (refine sP (by rfl) ?_; dsimp only)); refine vZ ?hg (N := 7) ?hd (cs := #[.int .i64 0, .int .i64 0, .int .i64 0, .int .i64 0, .int .i64 0, .int .i64 0]) (t := 31) ?hr ?_; (case hd => rfl); (case hg => rfl); (case hr => (go_simp; done)); intro a0 hg w31 hbox hb; replace a3 := am (Kd.R_below (Kd.R_elderB (by exact sR <| a3.out) a0 (Nat.le_of_eq hg.symm)) hb); replace a4 := rB a4 hb; have a1 := am hbox; have fT := gw hg; have fU := gw hg; replace HB := hB HB hb; clear hb hbox hg; have f7 := cf6 a1.out))
  have b2 : Aside0 (Kd.R k31 31 ((((((w31.setCell ⟨a0, 0, none⟩ (.int .i64 19)).setCell ⟨a0, 1, none⟩ (.int .i64 1)).setCell ⟨a0, 2, none⟩ (.int .i64 (Int.tmod a6 4))).setCell ⟨a0, 3, none⟩ (.int .i64 (wrap64 ((a2.length : Int) - 1)))).setCell ⟨a0, 4, none⟩ (.int .i64 (wrap64 (1 + (Int.tmod a5 3))))).setCell ⟨a0, 5, none⟩ (.int .i64 0)) w.heap.size (fun k_ => k_ ≠ a0) (.slice aC a2.length aA) a2) := ⟨by exact sR <| Kd.R_mono (Kd.R_far (p := ⟨a0, 5, none⟩) (Kd.R_far (p := ⟨a0, 4, none⟩) (Kd.R_far (p := ⟨a0, 3, none⟩) (Kd.R_far (p := ⟨a0, 2, none⟩) (Kd.R_far (p := ⟨a0, 1, none⟩) (Kd.R_far (p := ⟨a0, 0, none⟩) (Kd.R_mono a3.out (fun k_ hk => (⟨hk, hk.2⟩ : _ ∧ k_ ≠ a0))) (fun _ hk => hk.2) (.int .i64 19)) (fun _ hk => hk.2) (.int .i64 1)) (fun _ hk => hk.2) (.int .i64 (Int.tmod a6 4))) (fun _ hk => hk.2) (.int .i64 (wrap64 ((a2.length : Int) - 1)))) (fun _ hk => hk.2) (.int .i64 (wrap64 (1 + (Int.tmod a5 3))))) (fun _ hk => hk.2) (.int .i64 0)) (fun _ hk => hk.1.2)⟩
  have b1 : Aside0 (Kd.R (Kd.int .i64) 3 ((((((w31.setCell ⟨a0, 0, none⟩ (.int .i64 19)).setCell ⟨a0, 1, none⟩ (.int .i64 1)).setCell ⟨a0, 2, none⟩ (.int .i64 (Int.tmod a6 4))).setCell ⟨a0, 3, none⟩ (.int .i64 (wrap64 ((a2.length : Int) - 1)))).setCell ⟨a0, 4, none⟩ (.int .i64 (wrap64 (1 + (Int.tmod a5 3))))).setCell ⟨a0, 5, none⟩ (.int .i64 0)) w.heap.size (fun _ => True) bV b7) := ⟨by exact sR <| Kd.R_mono (Kd.R_far (p := ⟨a0, 5, none⟩) (Kd.R_far (p := ⟨a0, 4, none⟩) (Kd.R_far (p := ⟨a0, 3, none⟩) (Kd.R_far (p := ⟨a0, 2, none⟩) (Kd.R_far (p := ⟨a0, 1, none⟩) (Kd.R_far (p := ⟨a0, 0, none⟩) (Kd.R_types a4.out a1.out (by decide)) (fun _ hk => hk.2) (.int .i64 19)) (fun _ hk => hk.2) (.int .i64 1)) (fun _ hk => hk.2) (.int .i64 (Int.tmod a6 4))) (fun _ hk => hk.2) (.int .i64 (wrap64 ((a2.length : Int) - 1)))) (fun _ hk => hk.2) (.int .i64 (wrap64 (1 + (Int.tmod a5 3))))) (fun _ hk => hk.2) (.int .i64 0)) (fun _ hk => trivial)⟩
  have b0 : Aside0 (((((((w31.setCell ⟨a0, 0, none⟩ (.int .i64 19)).setCell ⟨a0, 1, none⟩ (.int .i64 1)).setCell ⟨a0, 2, none⟩ (.int .i64 (Int.tmod a6 4))).setCell ⟨a0, 3, none⟩ (.int .i64 (wrap64 ((a2.length : Int) - 1)))).setCell ⟨a0, 4, none⟩ (.int .i64 (wrap64 (1 + (Int.tmod a5 3))))).setCell ⟨a0, 5, none⟩ (.int .i64 0)).heap[a0]? = some (.cells #[.int .i64 19, .int .i64 1, .int .i64 (Int.tmod a6 4), .int .i64 (wrap64 ((a2.length : Int) - 1)), .int .i64 (wrap64 (1 + (Int.tmod a5 3))), .int .i64 0] 31 (0, 0))) := ⟨by (with_reducible repeat (first | refine pA ?_ _ | refine kU ?_ | refine kY ?_ _)); refine pN (cs := #[.int .i64 19, .int .i64 1, .int .i64 (Int.tmod a6 4), .int .i64 (wrap64 ((a2.length : Int) - 1)), .int .i64 (wrap64 (1 + (Int.tmod a5 3))), .int .i64 0]) ?_ 5 _ rfl; (with_reducible repeat (first | refine pA ?_ _ | refine kU ?_ | refine kY ?_ _)); refine pN (cs := #[.int .i64 19, .int .i64 1, .int .i64 (Int.tmod a6 4), .int .i64 (wrap64 ((a2.length : Int) - 1)), .int .i64 0, .int .i64 0]) ?_ 4 _ rfl; (with_reducible repeat (first | refine pA ?_ _ | refine kU ?_ | refine kY ?_ _)); refine pN (cs := #[.int .i64 19, .int .i64 1, .int .i64 (Int.tmod a6 4), .int .i64 0, .int .i64 0, .int .i64 0]) ?_ 3 _ rfl; (with_reducible repeat (first | refine pA ?_ _ | refine kU ?_ | refine kY ?_ _)); refine pN (cs := #[.int .i64 19, .int .i64 1, .int .i64 0, .int .i64 0, .int .i64 0, .int .i64 0]) ?_ 2 _ rfl; (with_reducible repeat (first | refine pA ?_ _ | refine kU ?_ | refine kY ?_ _)); refine pN (cs := #[.int .i64 19, .int .i64 0, .int .i64 0, .int .i64 0, .int .i64 0, .int .i64 0]) ?_ 1 _ rfl; (with_reducible repeat (first | refine pA ?_ _ | refine kU ?_ | refine kY ?_ _)); refine pN (cs := #[.int .i64 0, .int .i64 0, .int .i64 0, .int .i64 0, .int .i64 0, .int .i64 0]) ?_ 0 _ rfl; exact sB <| a1.out⟩
  have a_ : Aside0 (Below w.heap.size w ((((((w31.setCell ⟨a0, 0, none⟩ (.int .i64 19)).setCell ⟨a0, 1, none⟩ (.int .i64 1)).setCell ⟨a0, 2, none⟩ (.int .i64 (Int.tmod a6 4))).setCell ⟨a0, 3, none⟩ (.int .i64 (wrap64 ((a2.length : Int) - 1)))).setCell ⟨a0, 4, none⟩ (.int .i64 (wrap64 (1 + (Int.tmod a5 3))))).setCell ⟨a0, 5, none⟩ (.int .i64 0))) := ⟨by exact bW⟩
  clear a3
  clear a4
  clear a1
  clear HB
  generalize ((((((w31.setCell ⟨a0, 0, none⟩ (.int .i64 19)).setCell ⟨a0, 1, none⟩ (.int .i64 1)).setCell ⟨a0, 2, none⟩ (.int .i64 (Int.tmod a6 4))).setCell ⟨a0, 3, none⟩ (.int .i64 (wrap64 ((a2.length : Int) - 1)))).setCell ⟨a0, 4, none⟩ (.int .i64 (wrap64 (1 + (Int.tmod a5 3))))).setCell ⟨a0, 5, none⟩ (.int .i64 0)) = w33 at b2 b1 b0 a_ ⊢
  have a3 := b2
  have a4 := b1
  have a1 := b0
  have HB := a_
  clear b2 b1 b0 a_
  replace a3 := am (Kd.R_drew a3.out)
  replace a4 := am (Kd.R_drew a4.out)
  replace a1 := am (kU a1.out)
  replace HB := am (kM HB.out)
  refine wT (n := 7) (S := fun w' => w'.cell? ⟨a0, 0, none⟩ = some (.int .i64 19) ∧ w'.cell? ⟨a0, 1, none⟩ = some (.int .i64 1) ∧ w'.cell? ⟨a0, 2, none⟩ = some (.int .i64 (Int.tmod a6 4)) ∧ w'.cell? ⟨a0, 3, none⟩ = some (.int .i64 (wrap64 ((a2.length : Int) - 1))) ∧ w'.cell? ⟨a0, 4, none⟩ = some (.int .i64 (wrap64 (1 + (Int.tmod a5 3)))) ∧ w'.cell? ⟨a0, 5, none⟩ = some (.int .i64 0)) (ds := []) #[false, false, false, false, false, false, false] (by kernel_rfl) rfl rfl (cz6 a1.out) (fun hHeld => ?_)
  generalize w33.drew = w34 at a3 a4 a1 HB hHeld ⊢
  refine pS (i := 1) (N := some 65) #[false, true, false, false, false, false, false] ?_
  refine sL (i := 3) (N := some 67) (v := ?_) (a' := ?_) #[false, true, false, true, false, false, false] rfl rfl (by kernel_rfl) (fun _ _ _ h => h) (Or.inl ⟨by rfl, ?_⟩) hHeld ?_ ?_
  rotate_left
  ·rintro w' ⟨s0, s1, s2, s3, s4, s5⟩
   go_simp
   with_reducible rfl
  rotate_left
  ·exact xQ
  refine b7c (σ := Value × Value × Value) 2 #[true, true, true, true, true, false, false] (fun s_ => [(64, s_.1), (66, s_.2.1), (68, s_.2.2)]) (fun s_ w' => (w'.cell? ⟨a0, 0, none⟩ = some (.int .i64 19) ∧ w'.cell? ⟨a0, 1, none⟩ = some (.int .i64 1) ∧ w'.cell? ⟨a0, 2, none⟩ = some (.int .i64 (Int.tmod a6 4)) ∧ w'.cell? ⟨a0, 3, none⟩ = some (.int .i64 (wrap64 ((a2.length : Int) - 1))) ∧ w'.cell? ⟨a0, 4, none⟩ = some (.int .i64 (wrap64 (1 + (Int.tmod a5 3)))) ∧ w'.cell? ⟨a0, 5, none⟩ = some (.int .i64 0)) ∧ (Kd.R k31 31 w' w.heap.size (fun k_ => some k_ ≠ (s_.2.2 : Value).ownBlock ∧ some k_ ≠ (.slice aC a2.length aA : Value).ownBlock ∧ k_ ≠ a0) s_.2.1 dI) ∧ (Kd.R k31 31 w' w.heap.size (fun k_ => some k_ ≠ (s_.2.1 : Value).ownBlock ∧ some k_ ≠ (.slice aC a2.length aA : Value).ownBlock ∧ k_ ≠ a0) s_.2.2 aD) ∧ (Kd.R k31 31 w' w.heap.size (fun k_ => some k_ ≠ (s_.2.1 : Value).ownBlock ∧ some k_ ≠ (s_.2.2 : Value).ownBlock ∧ k_ ≠ a0) (.slice aC a2.length aA) a2) ∧ (Kd.R (Kd.int .i64) 3 w' w.heap.size (fun _ => True) bV b7) ∧ (w'.heap[a0]? = some (.cells #[.int .i64 19, .int .i64 1, .int .i64 (Int.tmod a6 4), .int .i64 (wrap64 ((a2.length : Int) - 1)), .int .i64 (wrap64 (1 + (Int.tmod a5 3))), .int .i64 0] 31 (0, 0))) ∧ (Below w.heap.size w w')) ?_ ?_
  rotate_left
  ·intro hCont
   refine b9y (i := 0) (j := 4) (Ni := some 64) (Nj := some 68) #[true, true, false, true, false, false, false] #[false, true, false, true, true, false, false] rfl rfl rfl rfl (by kernel_rfl) (by decide) (by decide) (fun K hK => ?_) (fun K hK => ?_)
   ·skip
    refine Kd.R_lit_step k31 _ 31 ?hg (N := 64) ?hd (xs := ([] : List (S31))) (inner := []) (ok := fun _ => True) (okp := fun _ => True) ?hr ?hp (fun _ hk => hk) trivial (Below.refl _ _) (Nat.le_refl _) (by simp) ?_; (case hd => rfl); (case hg => rfl); (case hr => (go_simp; done)); (case hp => exact (Reps.none _ _))
    intro bU w35 bM hb hg_ hnew_
    clear hg_ hnew_
    (rw [← dX.out] at bM)
    replace a4 := rB a4 hb
    have aW := am (Kd.R_lower (Kd.R_newB (Kd.R_new' bM (Kd.R_lt (by exact sR <| a3.out))) (g := a0) (o := .cells #[.int .i64 19, .int .i64 1, .int .i64 (Int.tmod a6 4), .int .i64 (wrap64 ((a2.length : Int) - 1)), .int .i64 (wrap64 (1 + (Int.tmod a5 3))), .int .i64 0] 31 (0, 0)) (by exact sB <| a1.out)) (kE (by exact bW)))
    replace a3 := rE a3 bM hb
    replace a1 := gB a1 hb
    replace HB := hX hb
    clear hb bM
    refine hK.out _ _ (cz6 a1.out) (fun hHeld => ?_)
    clear hK K
    refine sM (a' := ?_) ?_ ?_
    rotate_left
    ·show Act.put _ (some 64) _ = _
     exact xQ
    refine b9y (i := 2) (j := 4) (Ni := some 66) (Nj := some 68) #[true, true, true, true, false, false, false] #[true, true, false, true, true, false, false] rfl rfl rfl rfl (by kernel_rfl) (by decide) (by decide) (fun K hK => ?_) (fun K hK => ?_)
    ·skip
     refine Kd.R_append_rows_step k31 (w0 := w) w.heap.size (by rfl) (.tmp 64) (.tmp 65) 24 31 (.agg #[(.int .i64 0), (.int .i64 0), (.int .i64 0), (.int .i64 0), (.int .i64 0), (.int .i64 0)]) 48 rfl Try.underlying24 uV rfl (by decide) oM bU dJ a2 _ _ _ (fun k_ => some k_ ≠ (.slice aC a2.length aA : Value).ownBlock ∧ k_ ≠ a0) (fun _ => False) rfl rfl ?aO ?aR (fun _ _ h => h) (fun _ h => h.elim) ?aF ?aB ?aS ?aL ?_
     (case aR => exact sC (Kd.R_reads' a3.out).2.2)
     (case aB => exact (by exact bW))
     (case aF => exact (fun k_ hk => ⟨Kd.fresh' (Kd.R_lt (by exact sR <| a3.out)) k_ hk, Kd.freshB (g := a0) (o := .cells #[.int .i64 19, .int .i64 1, .int .i64 (Int.tmod a6 4), .int .i64 (wrap64 ((a2.length : Int) - 1)), .int .i64 (wrap64 (1 + (Int.tmod a5 3))), .int .i64 0] 31 (0, 0)) (by exact sB <| a1.out) k_ hk⟩))
     (case aO => exact (by exact sR <| Kd.R_mono aW.out (fun _ hk => ⟨hk.1.2, hk.2⟩)))
     (case aS => exact (kE (by exact bW)))
     (case aL => have := d4.out; omega)
     intro bL w37 ho hb hg hat
     rw [← d1.out] at ho
     replace a3 := am (Kd.R_after (ok := (fun k_ => k_ ≠ a0)) (by exact sR <| a3.out) hg hat)
     replace a4 := oV a4 aW hg
     replace a1 := am (qG (g := a0) (o := .cells #[.int .i64 19, .int .i64 1, .int .i64 (Int.tmod a6 4), .int .i64 (wrap64 ((a2.length : Int) - 1)), .int .i64 (wrap64 (1 + (Int.tmod a5 3))), .int .i64 0] 31 (0, 0)) (by exact sB <| a1.out) hg (Kd.R_away aW.out (fun _ hk => hk.2)))
     replace HB := am hb
     have b6 := am ho
     clear aW
     clear ho hb hg hat
     refine hK.out _ _ (cz6 a1.out) (fun hHeld => ?_)
     clear hK K
     refine sM (a' := ?_) ?_ ?_
     rotate_left
     ·show Act.put _ (some 66) _ = _
      exact xQ
     refine a0s (i := 4) (N := some 68) #[true, true, true, true, true, false, false] rfl rfl (by kernel_rfl) (by decide) (fun K hK => ?_)
     refine Kd.R_lit_step k31 _ 31 ?hg (N := 68) ?hd (xs := ([(⟨19, 1, (Int.tmod a6 4), wrap64 ((a2.length : Int) - 1), (wrap64 (1 + (Int.tmod a5 3))), 0⟩ : S31)] : List (S31))) (inner := [.int .i64 19, .int .i64 1, .int .i64 (Int.tmod a6 4), .int .i64 (wrap64 ((a2.length : Int) - 1)), .int .i64 (wrap64 (1 + (Int.tmod a5 3))), .int .i64 0]) (ok := fun _ => True) (okp := fun _ => True) ?hr ?hp (fun _ hk => hk) trivial (Below.refl _ _) (Nat.le_refl _) (by simp) ?_; (case hd => rfl); (case hg => rfl); (case hr => (go_simp; done)); (case hp => exact (wP (show Kd.M k31 _ _ _ (⟨19, 1, (Int.tmod a6 4), wrap64 ((a2.length : Int) - 1), (wrap64 (1 + (Int.tmod a5 3))), 0⟩ : S31) [.int .i64 19, .int .i64 1, .int .i64 (Int.tmod a6 4), .int .i64 (wrap64 ((a2.length : Int) - 1)), .int .i64 (wrap64 (1 + (Int.tmod a5 3))), .int .i64 0] from (sO _ _ _ (⟨19, 1, (Int.tmod a6 4), wrap64 ((a2.length : Int) - 1), (wrap64 (1 + (Int.tmod a5 3))), 0⟩ : S31) )) (Reps.none _ _)))
     intro bA w38 cM hb hg_ hnew_
     clear hg_ hnew_
     (rw [← d0.out] at cM)
     replace a4 := rB a4 hb
     have a7 := am (Kd.R_lower (Kd.R_newB (Kd.R_new' (Kd.R_new' cM (Kd.R_lt (by exact sR <| a3.out))) (Kd.R_lt (by exact sR <| b6.out))) (g := a0) (o := .cells #[.int .i64 19, .int .i64 1, .int .i64 (Int.tmod a6 4), .int .i64 (wrap64 ((a2.length : Int) - 1)), .int .i64 (wrap64 (1 + (Int.tmod a5 3))), .int .i64 0] 31 (0, 0)) (by exact sB <| a1.out)) (kE (by exact bW)))
     replace a3 := rE a3 cM hb
     replace b6 := rE b6 cM hb
     replace a1 := gB a1 hb
     replace HB := hX hb
     clear hb cM
     refine hK.out _ _ (cz6 a1.out) (fun hHeld => ?_)
     clear hK K
     refine sM (a' := ?_) ?_ ?_
     rotate_left
     ·show Act.put _ (some 68) _ = _
      exact xQ
     exact sM (by simp only [yX, Act.put, List.setIfInBounds_toArray, List.set_cons_zero, List.set_cons_succ]) (hCont (bU, bL, bA) _ ⟨hHeld, (by exact sR <| Kd.R_mono b6.out (fun _ hk => ⟨hk.2, ⟨hk.1.1, hk.1.2⟩⟩)), (by exact sR <| Kd.R_mono a7.out (fun _ hk => ⟨hk.1.2, ⟨hk.1.1.2, hk.2⟩⟩)), (by exact sR <| Kd.R_mono a3.out (fun _ hk => ⟨hk.1.2, ⟨hk.2, hk.1.1⟩⟩)), (by exact sR <| a4.out), (by exact sB <| a1.out), (by exact bW)⟩)
    skip
    refine Kd.R_lit_step k31 _ 31 ?hg (N := 68) ?hd (xs := ([(⟨19, 1, (Int.tmod a6 4), wrap64 ((a2.length : Int) - 1), (wrap64 (1 + (Int.tmod a5 3))), 0⟩ : S31)] : List (S31))) (inner := [.int .i64 19, .int .i64 1, .int .i64 (Int.tmod a6 4), .int .i64 (wrap64 ((a2.length : Int) - 1)), .int .i64 (wrap64 (1 + (Int.tmod a5 3))), .int .i64 0]) (ok := fun _ => True) (okp := fun _ => True) ?hr ?hp (fun _ hk => hk) trivial (Below.refl _ _) (Nat.le_refl _) (by simp) ?_; (case hd => rfl); (case hg => rfl); (case hr => (go_simp; done)); (case hp => exact (wP (show Kd.M k31 _ _ _ (⟨19, 1, (Int.tmod a6 4), wrap64 ((a2.length : Int) - 1), (wrap64 (1 + (Int.tmod a5 3))), 0⟩ : S31) [.int .i64 19, .int .i64 1, .int .i64 (Int.tmod a6 4), .int .i64 (wrap64 ((a2.length : Int) - 1)), .int .i64 (wrap64 (1 + (Int.tmod a5 3))), .int .i64 0] from (sO _ _ _ (⟨19, 1, (Int.tmod a6 4), wrap64 ((a2.length : Int) - 1), (wrap64 (1 + (Int.tmod a5 3))), 0⟩ : S31) )) (Reps.none _ _)))
    intro bA w37 bG hb hg_ hnew_
    clear hg_ hnew_
    (rw [← d0.out] at bG)
    replace a4 := rB a4 hb
    have a7 := am (Kd.R_lower (Kd.R_newB (Kd.R_new' (Kd.R_new' bG (Kd.R_lt (by exact sR <| a3.out))) (Kd.R_lt (by exact sR <| aW.out))) (g := a0) (o := .cells #[.int .i64 19, .int .i64 1, .int .i64 (Int.tmod a6 4), .int .i64 (wrap64 ((a2.length : Int) - 1)), .int .i64 (wrap64 (1 + (Int.tmod a5 3))), .int .i64 0] 31 (0, 0)) (by exact sB <| a1.out)) (kE (by exact bW)))
    replace a3 := rE a3 bG hb
    replace aW := rE aW bG hb
    replace a1 := gB a1 hb
    replace HB := hX hb
    clear hb bG
    refine hK.out _ _ (cz6 a1.out) (fun hHeld => ?_)
    clear hK K
    refine sM (a' := ?_) ?_ ?_
    rotate_left
    ·show Act.put _ (some 68) _ = _
     exact xQ
    refine a0s (i := 2) (N := some 66) #[true, true, true, true, true, false, false] rfl rfl (by kernel_rfl) (by decide) (fun K hK => ?_)
    refine Kd.R_append_rows_step k31 (w0 := w) w.heap.size (by rfl) (.tmp 64) (.tmp 65) 24 31 (.agg #[(.int .i64 0), (.int .i64 0), (.int .i64 0), (.int .i64 0), (.int .i64 0), (.int .i64 0)]) 48 rfl Try.underlying24 uV rfl (by decide) oM bU dJ a2 _ _ _ (fun k_ => some k_ ≠ (.slice aC a2.length aA : Value).ownBlock ∧ some k_ ≠ (bA : Value).ownBlock ∧ k_ ≠ a0) (fun _ => False) rfl rfl ?aO ?aR (fun _ _ h => h) (fun _ h => h.elim) ?aF ?aB ?aS ?aL ?_
    (case aR => exact sC (Kd.R_reads' a3.out).2.2)
    (case aB => exact (by exact bW))
    (case aF => exact (fun k_ hk => ⟨Kd.fresh' (Kd.R_lt (by exact sR <| a3.out)) k_ hk, Kd.fresh' (Kd.R_lt (by exact sR <| a7.out)) k_ hk, Kd.freshB (g := a0) (o := .cells #[.int .i64 19, .int .i64 1, .int .i64 (Int.tmod a6 4), .int .i64 (wrap64 ((a2.length : Int) - 1)), .int .i64 (wrap64 (1 + (Int.tmod a5 3))), .int .i64 0] 31 (0, 0)) (by exact sB <| a1.out) k_ hk⟩))
    (case aO => exact (by exact sR <| Kd.R_mono aW.out (fun _ hk => ⟨hk.1.1.2, ⟨hk.2, hk.1.2⟩⟩)))
    (case aS => exact (kE (by exact bW)))
    (case aL => have := d4.out; omega)
    intro bL w39 ho hb hg hat
    rw [← d1.out] at ho
    replace a3 := am (Kd.R_after (ok := (fun k_ => some k_ ≠ (bA : Value).ownBlock ∧ k_ ≠ a0)) (by exact sR <| Kd.R_mono a3.out (fun _ hk => ⟨⟨hk.2, hk.1.1⟩, hk.1.2⟩)) hg hat)
    replace a4 := oV a4 aW hg
    replace a1 := am (qG (g := a0) (o := .cells #[.int .i64 19, .int .i64 1, .int .i64 (Int.tmod a6 4), .int .i64 (wrap64 ((a2.length : Int) - 1)), .int .i64 (wrap64 (1 + (Int.tmod a5 3))), .int .i64 0] 31 (0, 0)) (by exact sB <| a1.out) hg (Kd.R_away aW.out (fun _ hk => hk.1.2)))
    replace a7 := am (Kd.R_after (ok := (fun k_ => some k_ ≠ (.slice aC a2.length aA : Value).ownBlock ∧ k_ ≠ a0)) (by exact sR <| Kd.R_mono a7.out (fun _ hk => ⟨⟨hk.1.1.2, hk.2⟩, hk.1.2⟩)) hg hat)
    exact b8d
   skip
   refine Kd.R_lit_step k31 _ 31 ?hg (N := 68) ?hd (xs := ([(⟨19, 1, (Int.tmod a6 4), wrap64 ((a2.length : Int) - 1), (wrap64 (1 + (Int.tmod a5 3))), 0⟩ : S31)] : List (S31))) (inner := [.int .i64 19, .int .i64 1, .int .i64 (Int.tmod a6 4), .int .i64 (wrap64 ((a2.length : Int) - 1)), .int .i64 (wrap64 (1 + (Int.tmod a5 3))), .int .i64 0]) (ok := fun _ => True) (okp := fun _ => True) ?hr ?hp (fun _ hk => hk) trivial (Below.refl _ _) (Nat.le_refl _) (by simp) ?_; (case hd => rfl); (case hg => rfl); (case hr => (go_simp; done)); (case hp => exact (wP (show Kd.M k31 _ _ _ (⟨19, 1, (Int.tmod a6 4), wrap64 ((a2.length : Int) - 1), (wrap64 (1 + (Int.tmod a5 3))), 0⟩ : S31) [.int .i64 19, .int .i64 1, .int .i64 (Int.tmod a6 4), .int .i64 (wrap64 ((a2.length : Int) - 1)), .int .i64 (wrap64 (1 + (Int.tmod a5 3))), .int .i64 0] from (sO _ _ _ (⟨19, 1, (Int.tmod a6 4), wrap64 ((a2.length : Int) - 1), (wrap64 (1 + (Int.tmod a5 3))), 0⟩ : S31) )) (Reps.none _ _)))
   intro bA w35 bM hb hg_ hnew_
   clear hg_ hnew_
   (rw [← d0.out] at bM)
   replace a4 := rB a4 hb
   have a7 := am (Kd.R_lower (Kd.R_newB (Kd.R_new' bM (Kd.R_lt (by exact sR <| a3.out))) (g := a0) (o := .cells #[.int .i64 19, .int .i64 1, .int .i64 (Int.tmod a6 4), .int .i64 (wrap64 ((a2.length : Int) - 1)), .int .i64 (wrap64 (1 + (Int.tmod a5 3))), .int .i64 0] 31 (0, 0)) (by exact sB <| a1.out)) (kE (by exact bW)))
   replace a3 := rE a3 bM hb
   replace a1 := gB a1 hb
   replace HB := hX hb
   clear hb bM
   refine hK.out _ _ (cz6 a1.out) (fun hHeld => ?_)
   clear hK K
   refine sM (a' := ?_) ?_ ?_
   rotate_left
   ·show Act.put _ (some 68) _ = _
    exact xQ
   refine a0s (i := 0) (N := some 64) #[true, true, false, true, true, false, false] rfl rfl (by kernel_rfl) (by decide) (fun K hK => ?_)
   refine Kd.R_lit_step k31 _ 31 ?hg (N := 64) ?hd (xs := ([] : List (S31))) (inner := []) (ok := fun _ => True) (okp := fun _ => True) ?hr ?hp (fun _ hk => hk) trivial (Below.refl _ _) (Nat.le_refl _) (by simp) ?_; (case hd => rfl); (case hg => rfl); (case hr => (go_simp; done)); (case hp => exact (Reps.none _ _))
   intro bU w37 bG hb hg_ hnew_
   clear hg_ hnew_
   (rw [← dX.out] at bG)
   replace a4 := rB a4 hb
   have aW := am (Kd.R_lower (Kd.R_newB (Kd.R_new' (Kd.R_new' bG (Kd.R_lt (by exact sR <| a3.out))) (Kd.R_lt (by exact sR <| a7.out))) (g := a0) (o := .cells #[.int .i64 19, .int .i64 1, .int .i64 (Int.tmod a6 4), .int .i64 (wrap64 ((a2.length : Int) - 1)), .int .i64 (wrap64 (1 + (Int.tmod a5 3))), .int .i64 0] 31 (0, 0)) (by exact sB <| a1.out)) (kE (by exact bW)))
   replace a3 := rE a3 bG hb
   replace a7 := rE a7 bG hb
   replace a1 := gB a1 hb
   replace HB := hX hb
   clear hb bG
   refine hK.out _ _ (cz6 a1.out) (fun hHeld => ?_)
   clear hK K
   refine sM (a' := ?_) ?_ ?_
   rotate_left
   ·show Act.put _ (some 64) _ = _
    exact xQ
   refine a0s (i := 2) (N := some 66) #[true, true, true, true, true, false, false] rfl rfl (by kernel_rfl) (by decide) (fun K hK => ?_)
   refine Kd.R_append_rows_step k31 (w0 := w) w.heap.size (by rfl) (.tmp 64) (.tmp 65) 24 31 (.agg #[(.int .i64 0), (.int .i64 0), (.int .i64 0), (.int .i64 0), (.int .i64 0), (.int .i64 0)]) 48 rfl Try.underlying24 uV rfl (by decide) oM bU dJ a2 _ _ _ (fun k_ => some k_ ≠ (.slice aC a2.length aA : Value).ownBlock ∧ some k_ ≠ (bA : Value).ownBlock ∧ k_ ≠ a0) (fun _ => False) rfl rfl ?aO ?aR (fun _ _ h => h) (fun _ h => h.elim) ?aF ?aB ?aS ?aL ?_
   (case aR => exact sC (Kd.R_reads' a3.out).2.2)
   (case aB => exact (by exact bW))
   (case aF => exact (fun k_ hk => ⟨Kd.fresh' (Kd.R_lt (by exact sR <| a3.out)) k_ hk, Kd.fresh' (Kd.R_lt (by exact sR <| a7.out)) k_ hk, Kd.freshB (g := a0) (o := .cells #[.int .i64 19, .int .i64 1, .int .i64 (Int.tmod a6 4), .int .i64 (wrap64 ((a2.length : Int) - 1)), .int .i64 (wrap64 (1 + (Int.tmod a5 3))), .int .i64 0] 31 (0, 0)) (by exact sB <| a1.out) k_ hk⟩))
   (case aO => exact (by exact sR <| Kd.R_mono aW.out (fun _ hk => ⟨hk.1.1.2, ⟨hk.1.2, hk.2⟩⟩)))
   (case aS => exact (kE (by exact bW)))
   (case aL => have := d4.out; omega)
   intro bL w39 ho hb hg hat
   rw [← d1.out] at ho
   replace a3 := am (Kd.R_after (ok := (fun k_ => some k_ ≠ (bA : Value).ownBlock ∧ k_ ≠ a0)) (by exact sR <| Kd.R_mono a3.out (fun _ hk => ⟨⟨hk.1.2, hk.1.1⟩, hk.2⟩)) hg hat)
   replace a4 := oV a4 aW hg
   replace a1 := am (qG (g := a0) (o := .cells #[.int .i64 19, .int .i64 1, .int .i64 (Int.tmod a6 4), .int .i64 (wrap64 ((a2.length : Int) - 1)), .int .i64 (wrap64 (1 + (Int.tmod a5 3))), .int .i64 0] 31 (0, 0)) (by exact sB <| a1.out) hg (Kd.R_away aW.out (fun _ hk => hk.2)))
   replace a7 := am (Kd.R_after (ok := (fun k_ => some k_ ≠ (.slice aC a2.length aA : Value).ownBlock ∧ k_ ≠ a0)) (by exact sR <| Kd.R_mono a7.out (fun _ hk => ⟨⟨hk.1.1.2, hk.1.2⟩, hk.2⟩)) hg hat)
   exact b8d
  rintro ⟨bU, bL, bA⟩ w40 ⟨hS_, dC, dB, dA, d9, d8, d7⟩
  have b2 : Aside0 (Kd.R k31 31 w40 w.heap.size (fun k_ => some k_ ≠ (bA : Value).ownBlock ∧ some k_ ≠ (.slice aC a2.length aA : Value).ownBlock ∧ k_ ≠ a0) bL dI) := ⟨dC⟩
  have b1 : Aside0 (Kd.R k31 31 w40 w.heap.size (fun k_ => some k_ ≠ (bL : Value).ownBlock ∧ some k_ ≠ (.slice aC a2.length aA : Value).ownBlock ∧ k_ ≠ a0) bA aD) := ⟨dB⟩
  have b0 : Aside0 (Kd.R k31 31 w40 w.heap.size (fun k_ => some k_ ≠ (bL : Value).ownBlock ∧ some k_ ≠ (bA : Value).ownBlock ∧ k_ ≠ a0) (.slice aC a2.length aA) a2) := ⟨dA⟩
  have a_ : Aside0 (Kd.R (Kd.int .i64) 3 w40 w.heap.size (fun _ => True) bV b7) := ⟨d9⟩
  have cB : Aside0 (w40.heap[a0]? = some (.cells #[.int .i64 19, .int .i64 1, .int .i64 (Int.tmod a6 4), .int .i64 (wrap64 ((a2.length : Int) - 1)), .int .i64 (wrap64 (1 + (Int.tmod a5 3))), .int .i64 0] 31 (0, 0))) := ⟨d8⟩
  have c1 : Aside0 (Below w.heap.size w w40) := ⟨d7⟩
  clear a3
  clear a4
  clear a1
  clear HB
  clear dC dB dA d9 d8 d7
  have b6 := b2
  have a7 := b1
  have a3 := b0
  have a4 := a_
  have a1 := cB
  have HB := c1
  clear b2 b1 b0 a_ cB c1
  have hHeld : w40.cell? ⟨a0, 0, none⟩ = some (.int .i64 19) ∧ w40.cell? ⟨a0, 1, none⟩ = some (.int .i64 1) ∧ w40.cell? ⟨a0, 2, none⟩ = some (.int .i64 (Int.tmod a6 4)) ∧ w40.cell? ⟨a0, 3, none⟩ = some (.int .i64 (wrap64 ((a2.length : Int) - 1))) ∧ w40.cell? ⟨a0, 4, none⟩ = some (.int .i64 (wrap64 (1 + (Int.tmod a5 3)))) ∧ w40.cell? ⟨a0, 5, none⟩ = some (.int .i64 0) := hS_
  obtain ⟨aH, aG, f6⟩ := Kd.R_slice a7.out
  (subst f6)
  refine sM (a' := ?_) ?_ ?_
  rotate_left
  ·simp only [yX, Act.put, List.setIfInBounds_toArray, List.set_cons_zero, List.set_cons_succ]
   rfl
  refine a0s (i := 5) (N := some 69) #[true, true, true, true, true, true, false] rfl rfl (by kernel_rfl) (by decide) (fun K hK => ?_)
  refine Kd.R_append_rows_step k31 (w0 := w) w.heap.size (by rfl) (.tmp 66) (.tmp 68) 24 31 (.agg #[(.int .i64 0), (.int .i64 0), (.int .i64 0), (.int .i64 0), (.int .i64 0), (.int .i64 0)]) 48 rfl Try.underlying24 uV rfl (by decide) oM bL dI aD _ _ _ (fun k_ => some k_ ≠ (.slice aC a2.length aA : Value).ownBlock ∧ some k_ ≠ (.slice aH aD.length aG : Value).ownBlock ∧ k_ ≠ a0) (fun _ => False) rfl rfl ?aO ?aR (fun _ _ h => h) (fun _ h => h.elim) ?aF ?aB ?aS ?aL ?_
  (case aR => exact sC (Kd.R_reads' a7.out).2.2)
  (case aB => exact (by exact bW))
  (case aF => exact (fun k_ hk => ⟨Kd.fresh' (Kd.R_lt (by exact sR <| a3.out)) k_ hk, Kd.fresh' (Kd.R_lt (by exact sR <| a7.out)) k_ hk, Kd.freshB (g := a0) (o := .cells #[.int .i64 19, .int .i64 1, .int .i64 (Int.tmod a6 4), .int .i64 (wrap64 ((a2.length : Int) - 1)), .int .i64 (wrap64 (1 + (Int.tmod a5 3))), .int .i64 0] 31 (0, 0)) (by exact sB <| a1.out) k_ hk⟩))
  (case aO => exact (by exact sR <| Kd.R_mono b6.out (fun _ hk => ⟨hk.2.1, ⟨hk.1, hk.2.2⟩⟩)))
  (case aS => exact (kE (by exact bW)))
  (case aL => have := eP.out; omega)
  intro aI w41 ho hb hg hat
  rw [← eN.out] at ho
  replace a3 := am (Kd.R_after (ok := (fun k_ => some k_ ≠ (.slice aH aD.length aG : Value).ownBlock ∧ k_ ≠ a0)) (by exact sR <| Kd.R_mono a3.out (fun _ hk => ⟨⟨hk.2.1, hk.2.2⟩, hk.1⟩)) hg hat)
  replace a4 := oV a4 b6 hg
  replace a1 := am (qG (g := a0) (o := .cells #[.int .i64 19, .int .i64 1, .int .i64 (Int.tmod a6 4), .int .i64 (wrap64 ((a2.length : Int) - 1)), .int .i64 (wrap64 (1 + (Int.tmod a5 3))), .int .i64 0] 31 (0, 0)) (by exact sB <| a1.out) hg (Kd.R_away b6.out (fun _ hk => hk.2.2)))
  replace a7 := am (Kd.R_after (ok := (fun k_ => some k_ ≠ (.slice aC a2.length aA : Value).ownBlock ∧ k_ ≠ a0)) (by exact sR <| Kd.R_mono a7.out (fun _ hk => ⟨⟨hk.2.1, hk.2.2⟩, hk.1⟩)) hg hat)
  replace HB := am hb
  have a9 := am ho
  clear b6
  clear ho hb hg hat
  refine hK.out _ _ (cz6 a1.out) (fun hHeld => ?_)
  clear hK K
  refine sM (a' := ?_) ?_ ?_
  rotate_left
  ·show Act.put _ (some 69) _ = _
   exact xQ
  refine pS (i := 6) (N := some 8) #[true, true, true, true, true, true, true] ?_
  refine a1b (by kernel_rfl) ?_
  have e3 := cf6 a1.out
  try go_wp2
  have b2 : Aside0 (Kd.R k31 31 (w41.setCell ⟨a0, 0, none⟩ (.int .i64 20)) w.heap.size (fun k_ => some k_ ≠ (.slice aH aD.length aG : Value).ownBlock ∧ some k_ ≠ (aI : Value).ownBlock ∧ k_ ≠ a0) (.slice aC a2.length aA) a2) := ⟨by exact sR <| Kd.R_mono (Kd.R_far (p := ⟨a0, 0, none⟩) (Kd.R_mono a3.out (fun k_ hk => (⟨hk, hk.1.2⟩ : _ ∧ k_ ≠ a0))) (fun _ hk => hk.2) (.int .i64 20)) (fun _ hk => ⟨hk.1.1.1, ⟨hk.1.2, hk.1.1.2⟩⟩)⟩
  have b1 : Aside0 (Kd.R (Kd.int .i64) 3 (w41.setCell ⟨a0, 0, none⟩ (.int .i64 20)) w.heap.size (fun _ => True) bV b7) := ⟨by exact sR <| Kd.R_mono (Kd.R_far (p := ⟨a0, 0, none⟩) (Kd.R_types a4.out a1.out (by decide)) (fun _ hk => hk.2) (.int .i64 20)) (fun _ hk => trivial)⟩
  have b0 : Aside0 (Kd.R k31 31 (w41.setCell ⟨a0, 0, none⟩ (.int .i64 20)) w.heap.size (fun k_ => some k_ ≠ (.slice aC a2.length aA : Value).ownBlock ∧ some k_ ≠ (aI : Value).ownBlock ∧ k_ ≠ a0) (.slice aH aD.length aG) aD) := ⟨by exact sR <| Kd.R_mono (Kd.R_far (p := ⟨a0, 0, none⟩) (Kd.R_mono a7.out (fun k_ hk => (⟨hk, hk.1.2⟩ : _ ∧ k_ ≠ a0))) (fun _ hk => hk.2) (.int .i64 20)) (fun _ hk => ⟨hk.1.1.1, ⟨hk.1.2, hk.1.1.2⟩⟩)⟩
  have a_ : Aside0 (Kd.R k31 31 (w41.setCell ⟨a0, 0, none⟩ (.int .i64 20)) w.heap.size (fun k_ => some k_ ≠ (.slice aC a2.length aA : Value).ownBlock ∧ some k_ ≠ (.slice aH aD.length aG : Value).ownBlock ∧ k_ ≠ a0) aI dH) := ⟨by exact sR <| Kd.R_mono (Kd.R_far (p := ⟨a0, 0, none⟩) (Kd.R_mono a9.out (fun k_ hk => (⟨hk, hk.2.2⟩ : _ ∧ k_ ≠ a0))) (fun _ hk => hk.2) (.int .i64 20)) (fun _ hk => ⟨hk.1.1, ⟨hk.1.2.1, hk.1.2.2⟩⟩)⟩
  have cB : Aside0 ((w41.setCell ⟨a0, 0, none⟩ (.int .i64 20)).heap[a0]? = some (.cells #[.int .i64 20, .int .i64 1, .int .i64 (Int.tmod a6 4), .int .i64 (wrap64 ((a2.length : Int) - 1)), .int .i64 (wrap64 (1 + (Int.tmod a5 3))), .int .i64 0] 31 (0, 0))) := ⟨by (with_reducible repeat (first | refine pA ?_ _ | refine kU ?_ | refine kY ?_ _)); refine pN (cs := #[.int .i64 19, .int .i64 1, .int .i64 (Int.tmod a6 4), .int .i64 (wrap64 ((a2.length : Int) - 1)), .int .i64 (wrap64 (1 + (Int.tmod a5 3))), .int .i64 0]) ?_ 0 _ rfl; exact sB <| a1.out⟩
  have c1 : Aside0 (Below w.heap.size w (w41.setCell ⟨a0, 0, none⟩ (.int .i64 20))) := ⟨by exact bW⟩
  clear a3
  clear a4
  clear a7
  clear a9
  clear a1
  clear HB
  generalize (w41.setCell ⟨a0, 0, none⟩ (.int .i64 20)) = w44 at b2 b1 b0 a_ cB c1 ⊢
  have a3 := b2
  have a4 := b1
  have a7 := b0
  have a9 := a_
  have a1 := cB
  have HB := c1
  clear b2 b1 b0 a_ cB c1
  replace a3 := am (Kd.R_drew a3.out)
  replace a4 := am (Kd.R_drew a4.out)
  replace a7 := am (Kd.R_drew a7.out)
  replace a9 := am (Kd.R_drew a9.out)
  replace a1 := am (kU a1.out)
  replace HB := am (kM HB.out)
  refine wT (n := 7) (S := fun w' => w'.cell? ⟨a0, 0, none⟩ = some (.int .i64 20) ∧ w'.cell? ⟨a0, 1, none⟩ = some (.int .i64 1) ∧ w'.cell? ⟨a0, 2, none⟩ = some (.int .i64 (Int.tmod a6 4)) ∧ w'.cell? ⟨a0, 3, none⟩ = some (.int .i64 (wrap64 ((a2.length : Int) - 1))) ∧ w'.cell? ⟨a0, 4, none⟩ = some (.int .i64 (wrap64 (1 + (Int.tmod a5 3)))) ∧ w'.cell? ⟨a0, 5, none⟩ = some (.int .i64 0)) (ds := []) #[false, false, false, false, false, false, false] (by kernel_rfl) rfl rfl (cz6 a1.out) (fun hHeld => ?_)
  generalize w44.drew = w45 at a3 a4 a7 a9 a1 HB hHeld ⊢
  refine pS (i := 1) (N := some 72) #[false, true, false, false, false, false, false] ?_
  refine sL (i := 3) (N := some 74) (v := ?_) (a' := ?_) #[false, true, false, true, false, false, false] rfl rfl (by kernel_rfl) (fun _ _ _ h => h) (Or.inl ⟨by rfl, ?_⟩) hHeld ?_ ?_
  rotate_left
  ·rintro w' ⟨s0, s1, s2, s3, s4, s5⟩
   go_simp
   with_reducible rfl
  rotate_left
  ·exact xQ
  refine b7c (σ := Value × Value × Value) 2 #[true, true, true, true, true, false, false] (fun s_ => [(71, s_.1), (73, s_.2.1), (75, s_.2.2)]) (fun s_ w' => (w'.cell? ⟨a0, 0, none⟩ = some (.int .i64 20) ∧ w'.cell? ⟨a0, 1, none⟩ = some (.int .i64 1) ∧ w'.cell? ⟨a0, 2, none⟩ = some (.int .i64 (Int.tmod a6 4)) ∧ w'.cell? ⟨a0, 3, none⟩ = some (.int .i64 (wrap64 ((a2.length : Int) - 1))) ∧ w'.cell? ⟨a0, 4, none⟩ = some (.int .i64 (wrap64 (1 + (Int.tmod a5 3)))) ∧ w'.cell? ⟨a0, 5, none⟩ = some (.int .i64 0)) ∧ (Kd.R k31 31 w' w.heap.size (fun k_ => some k_ ≠ (aI : Value).ownBlock ∧ some k_ ≠ (s_.2.1 : Value).ownBlock ∧ some k_ ≠ (s_.2.2 : Value).ownBlock ∧ some k_ ≠ (.slice aC a2.length aA : Value).ownBlock ∧ k_ ≠ a0) (.slice aH aD.length aG) aD) ∧ (Kd.R k31 31 w' w.heap.size (fun k_ => some k_ ≠ (.slice aH aD.length aG : Value).ownBlock ∧ some k_ ≠ (s_.2.1 : Value).ownBlock ∧ some k_ ≠ (s_.2.2 : Value).ownBlock ∧ some k_ ≠ (.slice aC a2.length aA : Value).ownBlock ∧ k_ ≠ a0) aI dH) ∧ (Kd.R k31 31 w' w.heap.size (fun k_ => some k_ ≠ (.slice aH aD.length aG : Value).ownBlock ∧ some k_ ≠ (aI : Value).ownBlock ∧ some k_ ≠ (s_.2.2 : Value).ownBlock ∧ some k_ ≠ (.slice aC a2.length aA : Value).ownBlock ∧ k_ ≠ a0) s_.2.1 cR) ∧ (Kd.R k31 31 w' w.heap.size (fun k_ => some k_ ≠ (.slice aH aD.length aG : Value).ownBlock ∧ some k_ ≠ (aI : Value).ownBlock ∧ some k_ ≠ (s_.2.1 : Value).ownBlock ∧ some k_ ≠ (.slice aC a2.length aA : Value).ownBlock ∧ k_ ≠ a0) s_.2.2 bN) ∧ (Kd.R k31 31 w' w.heap.size (fun k_ => some k_ ≠ (.slice aH aD.length aG : Value).ownBlock ∧ some k_ ≠ (aI : Value).ownBlock ∧ some k_ ≠ (s_.2.1 : Value).ownBlock ∧ some k_ ≠ (s_.2.2 : Value).ownBlock ∧ k_ ≠ a0) (.slice aC a2.length aA) a2) ∧ (Kd.R (Kd.int .i64) 3 w' w.heap.size (fun _ => True) bV b7) ∧ (w'.heap[a0]? = some (.cells #[.int .i64 20, .int .i64 1, .int .i64 (Int.tmod a6 4), .int .i64 (wrap64 ((a2.length : Int) - 1)), .int .i64 (wrap64 (1 + (Int.tmod a5 3))), .int .i64 0] 31 (0, 0))) ∧ (Below w.heap.size w w')) ?_ ?_
  rotate_left
  ·intro hCont
   refine b9y (i := 0) (j := 4) (Ni := some 71) (Nj := some 75) #[true, true, false, true, false, false, false] #[false, true, false, true, true, false, false] rfl rfl rfl rfl (by kernel_rfl) (by decide) (by decide) (fun K hK => ?_) (fun K hK => ?_)
   ·skip
    refine Kd.R_lit_step k31 _ 31 ?hg (N := 71) ?hd (xs := ([] : List (S31))) (inner := []) (ok := fun _ => True) (okp := fun _ => True) ?hr ?hp (fun _ hk => hk) trivial (Below.refl _ _) (Nat.le_refl _) (by simp) ?_; (case hd => rfl); (case hg => rfl); (case hr => (go_simp; done)); (case hp => exact (Reps.none _ _))
    intro bT w46 b8 hb hg_ hnew_
    clear hg_ hnew_
    (rw [← dW.out] at b8)
    replace a4 := rB a4 hb
    have aV := am (Kd.R_lower (Kd.R_newB (Kd.R_new' (Kd.R_new' (Kd.R_new' b8 (Kd.R_lt (by exact sR <| a3.out))) (Kd.R_lt (by exact sR <| a7.out))) (Kd.R_lt (by exact sR <| a9.out))) (g := a0) (o := .cells #[.int .i64 20, .int .i64 1, .int .i64 (Int.tmod a6 4), .int .i64 (wrap64 ((a2.length : Int) - 1)), .int .i64 (wrap64 (1 + (Int.tmod a5 3))), .int .i64 0] 31 (0, 0)) (by exact sB <| a1.out)) (kE (by exact bW)))
    replace a3 := rE a3 b8 hb
    replace a7 := rE a7 b8 hb
    replace a9 := rE a9 b8 hb
    replace a1 := gB a1 hb
    replace HB := hX hb
    clear hb b8
    refine hK.out _ _ (cz6 a1.out) (fun hHeld => ?_)
    clear hK K
    refine sM (a' := ?_) ?_ ?_
    rotate_left
    ·show Act.put _ (some 71) _ = _
     exact xQ
    refine b9y (i := 2) (j := 4) (Ni := some 73) (Nj := some 75) #[true, true, true, true, false, false, false] #[true, true, false, true, true, false, false] rfl rfl rfl rfl (by kernel_rfl) (by decide) (by decide) (fun K hK => ?_) (fun K hK => ?_)
    ·skip
     refine Kd.R_append_rows_step k31 (w0 := w) w.heap.size (by rfl) (.tmp 71) (.tmp 72) 24 31 (.agg #[(.int .i64 0), (.int .i64 0), (.int .i64 0), (.int .i64 0), (.int .i64 0), (.int .i64 0)]) 48 rfl Try.underlying24 uV rfl (by decide) oM bT dG a2 _ _ _ (fun k_ => some k_ ≠ (.slice aC a2.length aA : Value).ownBlock ∧ some k_ ≠ (.slice aH aD.length aG : Value).ownBlock ∧ some k_ ≠ (aI : Value).ownBlock ∧ k_ ≠ a0) (fun _ => False) rfl rfl ?aO ?aR (fun _ _ h => h) (fun _ h => h.elim) ?aF ?aB ?aS ?aL ?_
     (case aR => exact sC (Kd.R_reads' a3.out).2.2)
     (case aB => exact (by exact bW))
     (case aF => exact (fun k_ hk => ⟨Kd.fresh' (Kd.R_lt (by exact sR <| a3.out)) k_ hk, Kd.fresh' (Kd.R_lt (by exact sR <| a7.out)) k_ hk, Kd.fresh' (Kd.R_lt (by exact sR <| a9.out)) k_ hk, Kd.freshB (g := a0) (o := .cells #[.int .i64 20, .int .i64 1, .int .i64 (Int.tmod a6 4), .int .i64 (wrap64 ((a2.length : Int) - 1)), .int .i64 (wrap64 (1 + (Int.tmod a5 3))), .int .i64 0] 31 (0, 0)) (by exact sB <| a1.out) k_ hk⟩))
     (case aO => exact (by exact sR <| Kd.R_mono aV.out (fun _ hk => ⟨hk.1.1.1.2, ⟨hk.1.1.2, ⟨hk.1.2, hk.2⟩⟩⟩)))
     (case aS => exact (kE (by exact bW)))
     (case aL => have := d3.out; omega)
     intro bF w48 ho hb hg hat
     rw [← c_.out] at ho
     replace a3 := am (Kd.R_after (ok := (fun k_ => some k_ ≠ (.slice aH aD.length aG : Value).ownBlock ∧ some k_ ≠ (aI : Value).ownBlock ∧ k_ ≠ a0)) (by exact sR <| a3.out) hg hat)
     replace a4 := oV a4 aV hg
     replace a1 := am (qG (g := a0) (o := .cells #[.int .i64 20, .int .i64 1, .int .i64 (Int.tmod a6 4), .int .i64 (wrap64 ((a2.length : Int) - 1)), .int .i64 (wrap64 (1 + (Int.tmod a5 3))), .int .i64 0] 31 (0, 0)) (by exact sB <| a1.out) hg (Kd.R_away aV.out (fun _ hk => hk.2)))
     replace a7 := am (Kd.R_after (ok := (fun k_ => some k_ ≠ (.slice aC a2.length aA : Value).ownBlock ∧ some k_ ≠ (aI : Value).ownBlock ∧ k_ ≠ a0)) (by exact sR <| a7.out) hg hat)
     replace a9 := am (Kd.R_after (ok := (fun k_ => some k_ ≠ (.slice aC a2.length aA : Value).ownBlock ∧ some k_ ≠ (.slice aH aD.length aG : Value).ownBlock ∧ k_ ≠ a0)) (by exact sR <| a9.out) hg hat)
     replace HB := am hb
     have b5 := am ho
     clear aV
     clear ho hb hg hat
     refine hK.out _ _ (cz6 a1.out) (fun hHeld => ?_)
     clear hK K
     refine sM (a' := ?_) ?_ ?_
     rotate_left
     ·show Act.put _ (some 73) _ = _
      exact xQ
     refine a0s (i := 4) (N := some 75) #[true, true, true, true, true, false, false] rfl rfl (by kernel_rfl) (by decide) (fun K hK => ?_)
     refine Kd.R_lit_step k31 _ 31 ?hg (N := 75) ?hd (xs := ([(⟨20, 1, (Int.tmod a6 4), wrap64 ((a2.length : Int) - 1), (wrap64 (1 + (Int.tmod a5 3))), 0⟩ : S31)] : List (S31))) (inner := [.int .i64 20, .int .i64 1, .int .i64 (Int.tmod a6 4), .int .i64 (wrap64 ((a2.length : Int) - 1)), .int .i64 (wrap64 (1 + (Int.tmod a5 3))), .int .i64 0]) (ok := fun _ => True) (okp := fun _ => True) ?hr ?hp (fun _ hk => hk) trivial (Below.refl _ _) (Nat.le_refl _) (by simp) ?_; (case hd => rfl); (case hg => rfl); (case hr => (go_simp; done)); (case hp => exact (wP (show Kd.M k31 _ _ _ (⟨20, 1, (Int.tmod a6 4), wrap64 ((a2.length : Int) - 1), (wrap64 (1 + (Int.tmod a5 3))), 0⟩ : S31) [.int .i64 20, .int .i64 1, .int .i64 (Int.tmod a6 4), .int .i64 (wrap64 ((a2.length : Int) - 1)), .int .i64 (wrap64 (1 + (Int.tmod a5 3))), .int .i64 0] from (sO _ _ _ (⟨20, 1, (Int.tmod a6 4), wrap64 ((a2.length : Int) - 1), (wrap64 (1 + (Int.tmod a5 3))), 0⟩ : S31) )) (Reps.none _ _)))
     intro aX w49 bZ hb hg_ hnew_
     clear hg_ hnew_
     (rw [← cZ.out] at bZ)
     replace a4 := rB a4 hb
     have aE := am (Kd.R_lower (Kd.R_newB (Kd.R_new' (Kd.R_new' (Kd.R_new' (Kd.R_new' bZ (Kd.R_lt (by exact sR <| a3.out))) (Kd.R_lt (by exact sR <| a7.out))) (Kd.R_lt (by exact sR <| a9.out))) (Kd.R_lt (by exact sR <| b5.out))) (g := a0) (o := .cells #[.int .i64 20, .int .i64 1, .int .i64 (Int.tmod a6 4), .int .i64 (wrap64 ((a2.length : Int) - 1)), .int .i64 (wrap64 (1 + (Int.tmod a5 3))), .int .i64 0] 31 (0, 0)) (by exact sB <| a1.out)) (kE (by exact bW)))
     replace a3 := rE a3 bZ hb
     replace a7 := rE a7 bZ hb
     replace a9 := rE a9 bZ hb
     replace b5 := rE b5 bZ hb
     replace a1 := gB a1 hb
     replace HB := hX hb
     clear hb bZ
     refine hK.out _ _ (cz6 a1.out) (fun hHeld => ?_)
     clear hK K
     refine sM (a' := ?_) ?_ ?_
     rotate_left
     ·show Act.put _ (some 75) _ = _
      exact xQ
     exact sM (by simp only [yX, Act.put, List.setIfInBounds_toArray, List.set_cons_zero, List.set_cons_succ]) (hCont (bT, bF, aX) _ ⟨hHeld, (by exact sR <| Kd.R_mono a7.out (fun _ hk => ⟨hk.1.1.2.1, ⟨hk.1.2, ⟨hk.2, ⟨hk.1.1.1, hk.1.1.2.2⟩⟩⟩⟩)), (by exact sR <| Kd.R_mono a9.out (fun _ hk => ⟨hk.1.1.2.1, ⟨hk.1.2, ⟨hk.2, ⟨hk.1.1.1, hk.1.1.2.2⟩⟩⟩⟩)), (by exact sR <| Kd.R_mono b5.out (fun _ hk => ⟨hk.1.2.1, ⟨hk.1.2.2.1, ⟨hk.2, ⟨hk.1.1, hk.1.2.2.2⟩⟩⟩⟩)), (by exact sR <| Kd.R_mono aE.out (fun _ hk => ⟨hk.1.1.1.2, ⟨hk.1.1.2, ⟨hk.1.2, ⟨hk.1.1.1.1.2, hk.2⟩⟩⟩⟩)), (by exact sR <| Kd.R_mono a3.out (fun _ hk => ⟨hk.1.1.1, ⟨hk.1.1.2.1, ⟨hk.1.2, ⟨hk.2, hk.1.1.2.2⟩⟩⟩⟩)), (by exact sR <| a4.out), (by exact sB <| a1.out), (by exact bW)⟩)
    skip
    refine Kd.R_lit_step k31 _ 31 ?hg (N := 75) ?hd (xs := ([(⟨20, 1, (Int.tmod a6 4), wrap64 ((a2.length : Int) - 1), (wrap64 (1 + (Int.tmod a5 3))), 0⟩ : S31)] : List (S31))) (inner := [.int .i64 20, .int .i64 1, .int .i64 (Int.tmod a6 4), .int .i64 (wrap64 ((a2.length : Int) - 1)), .int .i64 (wrap64 (1 + (Int.tmod a5 3))), .int .i64 0]) (ok := fun _ => True) (okp := fun _ => True) ?hr ?hp (fun _ hk => hk) trivial (Below.refl _ _) (Nat.le_refl _) (by simp) ?_; (case hd => rfl); (case hg => rfl); (case hr => (go_simp; done)); (case hp => exact (wP (show Kd.M k31 _ _ _ (⟨20, 1, (Int.tmod a6 4), wrap64 ((a2.length : Int) - 1), (wrap64 (1 + (Int.tmod a5 3))), 0⟩ : S31) [.int .i64 20, .int .i64 1, .int .i64 (Int.tmod a6 4), .int .i64 (wrap64 ((a2.length : Int) - 1)), .int .i64 (wrap64 (1 + (Int.tmod a5 3))), .int .i64 0] from (sO _ _ _ (⟨20, 1, (Int.tmod a6 4), wrap64 ((a2.length : Int) - 1), (wrap64 (1 + (Int.tmod a5 3))), 0⟩ : S31) )) (Reps.none _ _)))
    intro aX w48 b4 hb hg_ hnew_
    clear hg_ hnew_
    (rw [← cZ.out] at b4)
    replace a4 := rB a4 hb
    have aE := am (Kd.R_lower (Kd.R_newB (Kd.R_new' (Kd.R_new' (Kd.R_new' (Kd.R_new' b4 (Kd.R_lt (by exact sR <| a3.out))) (Kd.R_lt (by exact sR <| a7.out))) (Kd.R_lt (by exact sR <| a9.out))) (Kd.R_lt (by exact sR <| aV.out))) (g := a0) (o := .cells #[.int .i64 20, .int .i64 1, .int .i64 (Int.tmod a6 4), .int .i64 (wrap64 ((a2.length : Int) - 1)), .int .i64 (wrap64 (1 + (Int.tmod a5 3))), .int .i64 0] 31 (0, 0)) (by exact sB <| a1.out)) (kE (by exact bW)))
    replace a3 := rE a3 b4 hb
    replace a7 := rE a7 b4 hb
    replace a9 := rE a9 b4 hb
    replace aV := rE aV b4 hb
    replace a1 := gB a1 hb
    replace HB := hX hb
    clear hb b4
    refine hK.out _ _ (cz6 a1.out) (fun hHeld => ?_)
    clear hK K
    refine sM (a' := ?_) ?_ ?_
    rotate_left
    ·show Act.put _ (some 75) _ = _
     exact xQ
    refine a0s (i := 2) (N := some 73) #[true, true, true, true, true, false, false] rfl rfl (by kernel_rfl) (by decide) (fun K hK => ?_)
    refine Kd.R_append_rows_step k31 (w0 := w) w.heap.size (by rfl) (.tmp 71) (.tmp 72) 24 31 (.agg #[(.int .i64 0), (.int .i64 0), (.int .i64 0), (.int .i64 0), (.int .i64 0), (.int .i64 0)]) 48 rfl Try.underlying24 uV rfl (by decide) oM bT dG a2 _ _ _ (fun k_ => some k_ ≠ (.slice aC a2.length aA : Value).ownBlock ∧ some k_ ≠ (.slice aH aD.length aG : Value).ownBlock ∧ some k_ ≠ (aI : Value).ownBlock ∧ some k_ ≠ (aX : Value).ownBlock ∧ k_ ≠ a0) (fun _ => False) rfl rfl ?aO ?aR (fun _ _ h => h) (fun _ h => h.elim) ?aF ?aB ?aS ?aL ?_
    (case aR => exact sC (Kd.R_reads' a3.out).2.2)
    (case aB => exact (by exact bW))
    (case aF => exact (fun k_ hk => ⟨Kd.fresh' (Kd.R_lt (by exact sR <| a3.out)) k_ hk, Kd.fresh' (Kd.R_lt (by exact sR <| a7.out)) k_ hk, Kd.fresh' (Kd.R_lt (by exact sR <| a9.out)) k_ hk, Kd.fresh' (Kd.R_lt (by exact sR <| aE.out)) k_ hk, Kd.freshB (g := a0) (o := .cells #[.int .i64 20, .int .i64 1, .int .i64 (Int.tmod a6 4), .int .i64 (wrap64 ((a2.length : Int) - 1)), .int .i64 (wrap64 (1 + (Int.tmod a5 3))), .int .i64 0] 31 (0, 0)) (by exact sB <| a1.out) k_ hk⟩))
    (case aO => exact (by exact sR <| Kd.R_mono aV.out (fun _ hk => ⟨hk.1.1.1.1.2, ⟨hk.1.1.1.2, ⟨hk.1.1.2, ⟨hk.2, hk.1.2⟩⟩⟩⟩)))
    (case aS => exact (kE (by exact bW)))
    (case aL => have := d3.out; omega)
    intro bF w50 ho hb hg hat
    rw [← c_.out] at ho
    replace a3 := am (Kd.R_after (ok := (fun k_ => some k_ ≠ (.slice aH aD.length aG : Value).ownBlock ∧ some k_ ≠ (aI : Value).ownBlock ∧ some k_ ≠ (aX : Value).ownBlock ∧ k_ ≠ a0)) (by exact sR <| Kd.R_mono a3.out (fun _ hk => ⟨⟨hk.1.1.1, ⟨hk.1.1.2.1, ⟨hk.2, hk.1.1.2.2⟩⟩⟩, hk.1.2⟩)) hg hat)
    replace a4 := oV a4 aV hg
    replace a1 := am (qG (g := a0) (o := .cells #[.int .i64 20, .int .i64 1, .int .i64 (Int.tmod a6 4), .int .i64 (wrap64 ((a2.length : Int) - 1)), .int .i64 (wrap64 (1 + (Int.tmod a5 3))), .int .i64 0] 31 (0, 0)) (by exact sB <| a1.out) hg (Kd.R_away aV.out (fun _ hk => hk.1.2)))
    replace a7 := am (Kd.R_after (ok := (fun k_ => some k_ ≠ (.slice aC a2.length aA : Value).ownBlock ∧ some k_ ≠ (aI : Value).ownBlock ∧ some k_ ≠ (aX : Value).ownBlock ∧ k_ ≠ a0)) (by exact sR <| Kd.R_mono a7.out (fun _ hk => ⟨⟨hk.1.1.1, ⟨hk.1.1.2.1, ⟨hk.2, hk.1.1.2.2⟩⟩⟩, hk.1.2⟩)) hg hat)
    replace a9 := am (Kd.R_after (ok := (fun k_ => some k_ ≠ (.slice aC a2.length aA : Value).ownBlock ∧ some k_ ≠ (.slice aH aD.length aG : Value).ownBlock ∧ some k_ ≠ (aX : Value).ownBlock ∧ k_ ≠ a0)) (by exact sR <| Kd.R_mono a9.out (fun _ hk => ⟨⟨hk.1.1.1, ⟨hk.1.1.2.1, ⟨hk.2, hk.1.1.2.2⟩⟩⟩, hk.1.2⟩)) hg hat)
    replace aE := am (Kd.R_after (ok := (fun k_ => some k_ ≠ (.slice aC a2.length aA : Value).ownBlock ∧ some k_ ≠ (.slice aH aD.length aG : Value).ownBlock ∧ some k_ ≠ (aI : Value).ownBlock ∧ k_ ≠ a0)) (by exact sR <| Kd.R_mono aE.out (fun _ hk => ⟨⟨hk.1.1.1.1.2, ⟨hk.1.1.1.2, ⟨hk.1.1.2, hk.2⟩⟩⟩, hk.1.2⟩)) hg hat)
    exact b8j
   skip
   refine Kd.R_lit_step k31 _ 31 ?hg (N := 75) ?hd (xs := ([(⟨20, 1, (Int.tmod a6 4), wrap64 ((a2.length : Int) - 1), (wrap64 (1 + (Int.tmod a5 3))), 0⟩ : S31)] : List (S31))) (inner := [.int .i64 20, .int .i64 1, .int .i64 (Int.tmod a6 4), .int .i64 (wrap64 ((a2.length : Int) - 1)), .int .i64 (wrap64 (1 + (Int.tmod a5 3))), .int .i64 0]) (ok := fun _ => True) (okp := fun _ => True) ?hr ?hp (fun _ hk => hk) trivial (Below.refl _ _) (Nat.le_refl _) (by simp) ?_; (case hd => rfl); (case hg => rfl); (case hr => (go_simp; done)); (case hp => exact (wP (show Kd.M k31 _ _ _ (⟨20, 1, (Int.tmod a6 4), wrap64 ((a2.length : Int) - 1), (wrap64 (1 + (Int.tmod a5 3))), 0⟩ : S31) [.int .i64 20, .int .i64 1, .int .i64 (Int.tmod a6 4), .int .i64 (wrap64 ((a2.length : Int) - 1)), .int .i64 (wrap64 (1 + (Int.tmod a5 3))), .int .i64 0] from (sO _ _ _ (⟨20, 1, (Int.tmod a6 4), wrap64 ((a2.length : Int) - 1), (wrap64 (1 + (Int.tmod a5 3))), 0⟩ : S31) )) (Reps.none _ _)))
   intro aX w46 b8 hb hg_ hnew_
   clear hg_ hnew_
   (rw [← cZ.out] at b8)
   replace a4 := rB a4 hb
   have aE := am (Kd.R_lower (Kd.R_newB (Kd.R_new' (Kd.R_new' (Kd.R_new' b8 (Kd.R_lt (by exact sR <| a3.out))) (Kd.R_lt (by exact sR <| a7.out))) (Kd.R_lt (by exact sR <| a9.out))) (g := a0) (o := .cells #[.int .i64 20, .int .i64 1, .int .i64 (Int.tmod a6 4), .int .i64 (wrap64 ((a2.length : Int) - 1)), .int .i64 (wrap64 (1 + (Int.tmod a5 3))), .int .i64 0] 31 (0, 0)) (by exact sB <| a1.out)) (kE (by exact bW)))
   replace a3 := rE a3 b8 hb
   replace a7 := rE a7 b8 hb
   replace a9 := rE a9 b8 hb
   replace a1 := gB a1 hb
   replace HB := hX hb
   clear hb b8
   refine hK.out _ _ (cz6 a1.out) (fun hHeld => ?_)
   clear hK K
   refine sM (a' := ?_) ?_ ?_
   rotate_left
   ·show Act.put _ (some 75) _ = _
    exact xQ
   refine a0s (i := 0) (N := some 71) #[true, true, false, true, true, false, false] rfl rfl (by kernel_rfl) (by decide) (fun K hK => ?_)
   refine Kd.R_lit_step k31 _ 31 ?hg (N := 71) ?hd (xs := ([] : List (S31))) (inner := []) (ok := fun _ => True) (okp := fun _ => True) ?hr ?hp (fun _ hk => hk) trivial (Below.refl _ _) (Nat.le_refl _) (by simp) ?_; (case hd => rfl); (case hg => rfl); (case hr => (go_simp; done)); (case hp => exact (Reps.none _ _))
   intro bT w48 b4 hb hg_ hnew_
   clear hg_ hnew_
   (rw [← dW.out] at b4)
   replace a4 := rB a4 hb
   have aV := am (Kd.R_lower (Kd.R_newB (Kd.R_new' (Kd.R_new' (Kd.R_new' (Kd.R_new' b4 (Kd.R_lt (by exact sR <| a3.out))) (Kd.R_lt (by exact sR <| a7.out))) (Kd.R_lt (by exact sR <| a9.out))) (Kd.R_lt (by exact sR <| aE.out))) (g := a0) (o := .cells #[.int .i64 20, .int .i64 1, .int .i64 (Int.tmod a6 4), .int .i64 (wrap64 ((a2.length : Int) - 1)), .int .i64 (wrap64 (1 + (Int.tmod a5 3))), .int .i64 0] 31 (0, 0)) (by exact sB <| a1.out)) (kE (by exact bW)))
   replace a3 := rE a3 b4 hb
   replace a7 := rE a7 b4 hb
   replace a9 := rE a9 b4 hb
   replace aE := rE aE b4 hb
   replace a1 := gB a1 hb
   replace HB := hX hb
   clear hb b4
   refine hK.out _ _ (cz6 a1.out) (fun hHeld => ?_)
   clear hK K
   refine sM (a' := ?_) ?_ ?_
   rotate_left
   ·show Act.put _ (some 71) _ = _
    exact xQ
   refine a0s (i := 2) (N := some 73) #[true, true, true, true, true, false, false] rfl rfl (by kernel_rfl) (by decide) (fun K hK => ?_)
   refine Kd.R_append_rows_step k31 (w0 := w) w.heap.size (by rfl) (.tmp 71) (.tmp 72) 24 31 (.agg #[(.int .i64 0), (.int .i64 0), (.int .i64 0), (.int .i64 0), (.int .i64 0), (.int .i64 0)]) 48 rfl Try.underlying24 uV rfl (by decide) oM bT dG a2 _ _ _ (fun k_ => some k_ ≠ (.slice aC a2.length aA : Value).ownBlock ∧ some k_ ≠ (.slice aH aD.length aG : Value).ownBlock ∧ some k_ ≠ (aI : Value).ownBlock ∧ some k_ ≠ (aX : Value).ownBlock ∧ k_ ≠ a0) (fun _ => False) rfl rfl ?aO ?aR (fun _ _ h => h) (fun _ h => h.elim) ?aF ?aB ?aS ?aL ?_
   (case aR => exact sC (Kd.R_reads' a3.out).2.2)
   (case aB => exact (by exact bW))
   (case aF => exact (fun k_ hk => ⟨Kd.fresh' (Kd.R_lt (by exact sR <| a3.out)) k_ hk, Kd.fresh' (Kd.R_lt (by exact sR <| a7.out)) k_ hk, Kd.fresh' (Kd.R_lt (by exact sR <| a9.out)) k_ hk, Kd.fresh' (Kd.R_lt (by exact sR <| aE.out)) k_ hk, Kd.freshB (g := a0) (o := .cells #[.int .i64 20, .int .i64 1, .int .i64 (Int.tmod a6 4), .int .i64 (wrap64 ((a2.length : Int) - 1)), .int .i64 (wrap64 (1 + (Int.tmod a5 3))), .int .i64 0] 31 (0, 0)) (by exact sB <| a1.out) k_ hk⟩))
   (case aO => exact (by exact sR <| Kd.R_mono aV.out (fun _ hk => ⟨hk.1.1.1.1.2, ⟨hk.1.1.1.2, ⟨hk.1.1.2, ⟨hk.1.2, hk.2⟩⟩⟩⟩)))
   (case aS => exact (kE (by exact bW)))
   (case aL => have := d3.out; omega)
   intro bF w50 ho hb hg hat
   rw [← c_.out] at ho
   replace a3 := am (Kd.R_after (ok := (fun k_ => some k_ ≠ (.slice aH aD.length aG : Value).ownBlock ∧ some k_ ≠ (aI : Value).ownBlock ∧ some k_ ≠ (aX : Value).ownBlock ∧ k_ ≠ a0)) (by exact sR <| Kd.R_mono a3.out (fun _ hk => ⟨⟨hk.1.1.1, ⟨hk.1.1.2.1, ⟨hk.1.2, hk.1.1.2.2⟩⟩⟩, hk.2⟩)) hg hat)
   replace a4 := oV a4 aV hg
   replace a1 := am (qG (g := a0) (o := .cells #[.int .i64 20, .int .i64 1, .int .i64 (Int.tmod a6 4), .int .i64 (wrap64 ((a2.length : Int) - 1)), .int .i64 (wrap64 (1 + (Int.tmod a5 3))), .int .i64 0] 31 (0, 0)) (by exact sB <| a1.out) hg (Kd.R_away aV.out (fun _ hk => hk.2)))
   replace a7 := am (Kd.R_after (ok := (fun k_ => some k_ ≠ (.slice aC a2.length aA : Value).ownBlock ∧ some k_ ≠ (aI : Value).ownBlock ∧ some k_ ≠ (aX : Value).ownBlock ∧ k_ ≠ a0)) (by exact sR <| Kd.R_mono a7.out (fun _ hk => ⟨⟨hk.1.1.1, ⟨hk.1.1.2.1, ⟨hk.1.2, hk.1.1.2.2⟩⟩⟩, hk.2⟩)) hg hat)
   replace a9 := am (Kd.R_after (ok := (fun k_ => some k_ ≠ (.slice aC a2.length aA : Value).ownBlock ∧ some k_ ≠ (.slice aH aD.length aG : Value).ownBlock ∧ some k_ ≠ (aX : Value).ownBlock ∧ k_ ≠ a0)) (by exact sR <| Kd.R_mono a9.out (fun _ hk => ⟨⟨hk.1.1.1, ⟨hk.1.1.2.1, ⟨hk.1.2, hk.1.1.2.2⟩⟩⟩, hk.2⟩)) hg hat)
   replace aE := am (Kd.R_after (ok := (fun k_ => some k_ ≠ (.slice aC a2.length aA : Value).ownBlock ∧ some k_ ≠ (.slice aH aD.length aG : Value).ownBlock ∧ some k_ ≠ (aI : Value).ownBlock ∧ k_ ≠ a0)) (by exact sR <| Kd.R_mono aE.out (fun _ hk => ⟨⟨hk.1.1.1.1.2, ⟨hk.1.1.1.2, ⟨hk.1.1.2, hk.1.2⟩⟩⟩, hk.2⟩)) hg hat)
   exact b8j
  rintro ⟨bT, bF, aX⟩ w51 ⟨hS_, dC, dB, dA, d9, d8, d7, eU, eT⟩
  have b2 : Aside0 (Kd.R k31 31 w51 w.heap.size (fun k_ => some k_ ≠ (aI : Value).ownBlock ∧ some k_ ≠ (bF : Value).ownBlock ∧ some k_ ≠ (aX : Value).ownBlock ∧ some k_ ≠ (.slice aC a2.length aA : Value).ownBlock ∧ k_ ≠ a0) (.slice aH aD.length aG) aD) := ⟨dC⟩
  have b1 : Aside0 (Kd.R k31 31 w51 w.heap.size (fun k_ => some k_ ≠ (.slice aH aD.length aG : Value).ownBlock ∧ some k_ ≠ (bF : Value).ownBlock ∧ some k_ ≠ (aX : Value).ownBlock ∧ some k_ ≠ (.slice aC a2.length aA : Value).ownBlock ∧ k_ ≠ a0) aI dH) := ⟨dB⟩
  have b0 : Aside0 (Kd.R k31 31 w51 w.heap.size (fun k_ => some k_ ≠ (.slice aH aD.length aG : Value).ownBlock ∧ some k_ ≠ (aI : Value).ownBlock ∧ some k_ ≠ (aX : Value).ownBlock ∧ some k_ ≠ (.slice aC a2.length aA : Value).ownBlock ∧ k_ ≠ a0) bF cR) := ⟨dA⟩
  have a_ : Aside0 (Kd.R k31 31 w51 w.heap.size (fun k_ => some k_ ≠ (.slice aH aD.length aG : Value).ownBlock ∧ some k_ ≠ (aI : Value).ownBlock ∧ some k_ ≠ (bF : Value).ownBlock ∧ some k_ ≠ (.slice aC a2.length aA : Value).ownBlock ∧ k_ ≠ a0) aX bN) := ⟨d9⟩
  have cB : Aside0 (Kd.R k31 31 w51 w.heap.size (fun k_ => some k_ ≠ (.slice aH aD.length aG : Value).ownBlock ∧ some k_ ≠ (aI : Value).ownBlock ∧ some k_ ≠ (bF : Value).ownBlock ∧ some k_ ≠ (aX : Value).ownBlock ∧ k_ ≠ a0) (.slice aC a2.length aA) a2) := ⟨d8⟩
  have c1 : Aside0 (Kd.R (Kd.int .i64) 3 w51 w.heap.size (fun _ => True) bV b7) := ⟨d7⟩
  have eR : Aside0 (w51.heap[a0]? = some (.cells #[.int .i64 20, .int .i64 1, .int .i64 (Int.tmod a6 4), .int .i64 (wrap64 ((a2.length : Int) - 1)), .int .i64 (wrap64 (1 + (Int.tmod a5 3))), .int .i64 0] 31 (0, 0))) := ⟨eU⟩
  have eQ : Aside0 (Below w.heap.size w w51) := ⟨eT⟩
  clear a3
  clear a4
  clear a7
  clear a9
  clear a1
  clear HB
  clear dC dB dA d9 d8 d7 eU eT
  have a7 := b2
  have a9 := b1
  have b5 := b0
  have aE := a_
  have a3 := cB
  have a4 := c1
  have a1 := eR
  have HB := eQ
  clear b2 b1 b0 a_ cB c1 eR eQ
  have hHeld : w51.cell? ⟨a0, 0, none⟩ = some (.int .i64 20) ∧ w51.cell? ⟨a0, 1, none⟩ = some (.int .i64 1) ∧ w51.cell? ⟨a0, 2, none⟩ = some (.int .i64 (Int.tmod a6 4)) ∧ w51.cell? ⟨a0, 3, none⟩ = some (.int .i64 (wrap64 ((a2.length : Int) - 1))) ∧ w51.cell? ⟨a0, 4, none⟩ = some (.int .i64 (wrap64 (1 + (Int.tmod a5 3)))) ∧ w51.cell? ⟨a0, 5, none⟩ = some (.int .i64 0) := hS_
  obtain ⟨d5, cY, f5⟩ := Kd.R_slice aE.out
  (subst f5)
  refine sM (a' := ?_) ?_ ?_
  rotate_left
  ·simp only [yX, Act.put, List.setIfInBounds_toArray, List.set_cons_zero, List.set_cons_succ]
   rfl
  refine a0s (i := 5) (N := some 76) #[true, true, true, true, true, true, false] rfl rfl (by kernel_rfl) (by decide) (fun K hK => ?_)
  refine Kd.R_append_rows_step k31 (w0 := w) w.heap.size (by rfl) (.tmp 73) (.tmp 75) 24 31 (.agg #[(.int .i64 0), (.int .i64 0), (.int .i64 0), (.int .i64 0), (.int .i64 0), (.int .i64 0)]) 48 rfl Try.underlying24 uV rfl (by decide) oM bF cR bN _ _ _ (fun k_ => some k_ ≠ (.slice aC a2.length aA : Value).ownBlock ∧ some k_ ≠ (.slice aH aD.length aG : Value).ownBlock ∧ some k_ ≠ (aI : Value).ownBlock ∧ some k_ ≠ (.slice d5 bN.length cY : Value).ownBlock ∧ k_ ≠ a0) (fun _ => False) rfl rfl ?aO ?aR (fun _ _ h => h) (fun _ h => h.elim) ?aF ?aB ?aS ?aL ?_
  (case aR => exact sC (Kd.R_reads' aE.out).2.2)
  (case aB => exact (by exact bW))
  (case aF => exact (fun k_ hk => ⟨Kd.fresh' (Kd.R_lt (by exact sR <| a3.out)) k_ hk, Kd.fresh' (Kd.R_lt (by exact sR <| a7.out)) k_ hk, Kd.fresh' (Kd.R_lt (by exact sR <| a9.out)) k_ hk, Kd.fresh' (Kd.R_lt (by exact sR <| aE.out)) k_ hk, Kd.freshB (g := a0) (o := .cells #[.int .i64 20, .int .i64 1, .int .i64 (Int.tmod a6 4), .int .i64 (wrap64 ((a2.length : Int) - 1)), .int .i64 (wrap64 (1 + (Int.tmod a5 3))), .int .i64 0] 31 (0, 0)) (by exact sB <| a1.out) k_ hk⟩))
  (case aO => exact (by exact sR <| Kd.R_mono b5.out (fun _ hk => ⟨hk.2.2.2.1, ⟨hk.1, ⟨hk.2.1, ⟨hk.2.2.1, hk.2.2.2.2⟩⟩⟩⟩)))
  (case aS => exact (kE (by exact bW)))
  (case aL => have := eO.out; omega)
  intro fW w52 ho hb hg hat
  rw [← eM.out] at ho
  replace a3 := am (Kd.R_after (ok := (fun k_ => some k_ ≠ (.slice aH aD.length aG : Value).ownBlock ∧ some k_ ≠ (aI : Value).ownBlock ∧ some k_ ≠ (.slice d5 bN.length cY : Value).ownBlock ∧ k_ ≠ a0)) (by exact sR <| Kd.R_mono a3.out (fun _ hk => ⟨⟨hk.1, ⟨hk.2.1, ⟨hk.2.2.2.1, hk.2.2.2.2⟩⟩⟩, hk.2.2.1⟩)) hg hat)
  replace a4 := oV a4 b5 hg
  replace a1 := am (qG (g := a0) (o := .cells #[.int .i64 20, .int .i64 1, .int .i64 (Int.tmod a6 4), .int .i64 (wrap64 ((a2.length : Int) - 1)), .int .i64 (wrap64 (1 + (Int.tmod a5 3))), .int .i64 0] 31 (0, 0)) (by exact sB <| a1.out) hg (Kd.R_away b5.out (fun _ hk => hk.2.2.2.2)))
  replace a7 := am (Kd.R_after (ok := (fun k_ => some k_ ≠ (.slice aC a2.length aA : Value).ownBlock ∧ some k_ ≠ (aI : Value).ownBlock ∧ some k_ ≠ (.slice d5 bN.length cY : Value).ownBlock ∧ k_ ≠ a0)) (by exact sR <| Kd.R_mono a7.out (fun _ hk => ⟨⟨hk.2.2.2.1, ⟨hk.1, ⟨hk.2.2.1, hk.2.2.2.2⟩⟩⟩, hk.2.1⟩)) hg hat)
  replace a9 := am (Kd.R_after (ok := (fun k_ => some k_ ≠ (.slice aC a2.length aA : Value).ownBlock ∧ some k_ ≠ (.slice aH aD.length aG : Value).ownBlock ∧ some k_ ≠ (.slice d5 bN.length cY : Value).ownBlock ∧ k_ ≠ a0)) (by exact sR <| Kd.R_mono a9.out (fun _ hk => ⟨⟨hk.2.2.2.1, ⟨hk.1, ⟨hk.2.2.1, hk.2.2.2.2⟩⟩⟩, hk.2.1⟩)) hg hat)
  replace aE := am (Kd.R_after (ok := (fun k_ => some k_ ≠ (.slice aC a2.length aA : Value).ownBlock ∧ some k_ ≠ (.slice aH aD.length aG : Value).ownBlock ∧ some k_ ≠ (aI : Value).ownBlock ∧ k_ ≠ a0)) (by exact sR <| Kd.R_mono aE.out (fun _ hk => ⟨⟨hk.2.2.2.1, ⟨hk.1, ⟨hk.2.1, hk.2.2.2.2⟩⟩⟩, hk.2.2.1⟩)) hg hat)
  replace HB := am hb
  have bD := am ho
  clear b5
  clear ho hb hg hat
  refine hK.out _ _ (cz6 a1.out) (fun hHeld => ?_)
  clear hK K
  refine sM (a' := ?_) ?_ ?_
  rotate_left
  ·show Act.put _ (some 76) _ = _
   exact xQ
  refine pS (i := 6) (N := some 9) #[true, true, true, true, true, true, true] ?_
  refine a1b (by kernel_rfl) ?_
  obtain ⟨g6, g0, rfl⟩ := Kd.R_slice a9.out
  obtain ⟨bC, bB, rfl⟩ := Kd.R_slice a4.out
  go_upto_region 14 with (first | ((with_reducible refine gW ?_); first | (refine gF 14 (some 80) rfl ?_; refine gS Try.func14 (impl_Value.calls (sC (Kd.R_reads' a9.out).2.2) ((Kd.R_reads' a9.out).2.1) (sC (Kd.R_reads' a4.out).2.2) ((Kd.R_reads' a4.out).2.1) fH.out) ?_; rintro w56 hb; replace a3 := rB a3 hb; replace a4 := rB a4 hb; replace a7 := rB a7 hb; replace a9 := rB a9 hb; replace aE := rB aE hb; replace bD := rB bD hb; replace a1 := gB a1 hb; replace HB := hX hb; obtain ⟨g5, f_, rfl⟩ := Kd.R_slice bD.out) | (refine gF 14 (some 86) rfl ?_; refine gS Try.func14 (impl_Value.calls (sC (Kd.R_reads' bD.out).2.2) ((Kd.R_reads' bD.out).2.1) (sC (Kd.R_reads' a4.out).2.2) ((Kd.R_reads' a4.out).2.1) fG.out) ?_; rintro w58 hb; replace a3 := rB a3 hb; replace a4 := rB a4 hb; replace a7 := rB a7 hb; replace a9 := rB a9 hb; replace aE := rB aE hb; replace bD := rB bD hb; replace a1 := gB a1 hb; replace HB := hX hb) | (refine gF 15 (some 92) rfl ?_; refine gS Try.func15 (spec_Value.calls (sC (Kd.R_reads' a9.out).2.2) ((Kd.R_reads' a9.out).2.1) (sC (Kd.R_reads' a4.out).2.2) ((Kd.R_reads' a4.out).2.1) fF.out) ?_; rintro w59 hb; replace a3 := rB a3 hb; replace a4 := rB a4 hb; replace a7 := rB a7 hb; replace a9 := rB a9 hb; replace aE := rB aE hb; replace bD := rB bD hb; replace a1 := gB a1 hb; replace HB := hX hb))); clear hb; clear hb; clear hb
  (try simp only [Act.put, List.setIfInBounds_toArray, List.set_cons_zero, List.set_cons_succ])
  go_cut [102] (fun f1 wc => ∃ (kq : Nat) (cG : Bool), f1 = .bool cG ∧ Aside0 (sN kq a2 b7 (Int.tmod a6 4) (wrap64 (1 + (Int.tmod a5 3))) cV cU b9 cG = some r) ∧ Aside0 (kq ≤ fC) ∧ Aside0 (Kd.R k31 31 wc w.heap.size (fun k_ => k_ ≠ a0) (.slice aC a2.length aA) a2) ∧ Aside0 (Kd.R (Kd.int .i64) 3 wc w.heap.size (fun _ => True) (.slice bC b7.length bB) b7) ∧ Aside0 (wc.heap[a0]? = some (.cells #[.int .i64 20, .int .i64 1, .int .i64 (Int.tmod a6 4), .int .i64 (wrap64 ((a2.length : Int) - 1)), .int .i64 (wrap64 (1 + (Int.tmod a5 3))), .int .i64 0] 31 (0, 0))) ∧ Aside0 (Below w.heap.size w wc))
  case first =>
   have H := dP.out
   clear dP
   by_cases bP : (bH != b9) = true
   ·rw [if_pos bP] at H
    have eI : (bH != b9) = true := bP
    (try (have eH : decide (bH = b9) = false := by simpa using bP))
    (try (have eG : (bH == b9) = false := by simpa using bP))
    (try (have fQ : ¬ (bH = b9) := by simpa using bP))
    clear bP
    replace H := am H
    go_wp2
    go_meet
    case rel => exact ⟨_, true, rfl, H, ⟨by have := cK.out; omega⟩, ⟨sR <| Kd.R_mono a3.out (fun _ hk => hk.1.2.2.2)⟩, ⟨sR <| a4.out⟩, ⟨sB <| a1.out⟩, ⟨bW⟩⟩
   rw [if_neg bP] at H
   have eI : (bH != b9) = false := by simpa using bP
   (try (have eH : decide (bH = b9) = true := by simpa using bP))
   (try (have eG : (bH == b9) = true := by simpa using bP))
   clear bP
   replace H := am H
   go_wp2
   go_meet
   case rel => exact ⟨_, ((eD != b9)), rfl, H, ⟨by have := cK.out; omega⟩, ⟨sR <| Kd.R_mono a3.out (fun _ hk => hk.1.2.2.2)⟩, ⟨sR <| a4.out⟩, ⟨sB <| a1.out⟩, ⟨bW⟩⟩
  clear dP
  clear e3
  obtain ⟨kq, cG, rfl, HA, cJ, a3, a4, a1, HB⟩ := hcut
  cases kq with
  | zero => cases HA.out
  | succ e4 =>
   obtain ⟨H⟩ := HA
   simp only [sN] at H
   replace H := iB H; rcases H with ⟨rfl, H⟩ | ⟨rfl, H⟩
   ·obtain rfl := oI H
    go_wp2
    go_ret
    exact ⟨rfl, bW⟩
   replace H := iB H; rcases H with ⟨rfl, H⟩ | ⟨rfl, H⟩
   rotate_left
   ·obtain rfl := oI H
    go_wp2
    go_ret
    exact ⟨rfl, bW⟩
   replace H := am H
   go_wp2
   go_loopg [16, 17, 18] e4 (fun kq fB fA f9 w' => ∃ (aN : List Int) (bR : Int) (bQ : Int) (aY : Int), fB = .int .i64 bR ∧ fA = .int .i64 bQ ∧ f9 = .int .i64 aY ∧ Aside0 (pX kq a2 aN (Int.tmod a6 4) (wrap64 (1 + (Int.tmod a5 3))) cV cU bR bQ aY = some r) ∧ Aside0 (kq ≤ e4) ∧ Aside0 (Kd.R k31 31 w' w.heap.size (fun k_ => k_ ≠ a0) (.slice aC a2.length aA) a2) ∧ Aside0 (Kd.R (Kd.int .i64) 3 w' w.heap.size (fun _ => True) (.slice bC b7.length bB) aN) ∧ Aside0 (w'.heap[a0]? = some (.cells #[.int .i64 20, .int .i64 1, .int .i64 (Int.tmod a6 4), .int .i64 (wrap64 ((a2.length : Int) - 1)), .int .i64 (wrap64 (1 + (Int.tmod a5 3))), .int .i64 0] 31 (0, 0))) ∧ Aside0 (Below w.heap.size w w'))
   case atStart => exact ⟨b7, 1, 0, 0, rfl, rfl, rfl, H, ⟨Nat.le_refl _⟩, ⟨sR <| a3.out⟩, ⟨sR <| a4.out⟩, ⟨sB <| a1.out⟩, ⟨bW⟩⟩
   clear H
   obtain ⟨aN, bR, bQ, aY, rfl, rfl, rfl, HA, cQ, a3, a4, a1, HB⟩ := hrel
   have hl4_3 := (Kd.R_reads' a4.out).1
   rw [hl4_3] at a4
   (try simp only [hl4_3])
   (try simp only [hl4_3] at a1)
   (try simp only [hl4_3] at a3)
   cases gk with
   | zero => cases HA.out
   | succ k3 =>
    obtain ⟨H⟩ := HA
    simp only [pX] at H
    replace H := oA H; obtain ⟨fL, dF, H⟩ := H
    replace H := iD H; rcases H with ⟨dV, H⟩ | ⟨dV, H⟩
    rotate_left
    ·replace H := iE H; rcases H with ⟨e6, e5, H⟩ | ⟨e6, e5, H⟩
     ·exact b7v
     exact b7v
    replace H := oS H; obtain ⟨cS, cE, H⟩ := H
    replace H := iP H; obtain ⟨eV, H⟩ := H
    have d2 := am eV
    clear eV
    replace H := oS H; obtain ⟨aK, cO, H⟩ := H
    generalize cC : Int.tmod a6 4 = aJ at H
    (try rw [cC] at dF)
    (try rw [cC] at a1)
    replace H := iN H; obtain ⟨eF, H⟩ := H
    replace H := iN H; obtain ⟨eE, H⟩ := H
    generalize d6 : aK.set ((aJ) : Int).toNat aY = b3 at H
    have cN := am d6.symm; clear d6
    replace H := oA H; obtain ⟨⟨fK, fJ⟩, eA, H⟩ := H
    try dsimp only at H
    replace H := oA H; obtain ⟨⟨bS, eC⟩, e9, H⟩ := H
    try dsimp only at H
    replace H := iB H; rcases H with ⟨rfl, H⟩ | ⟨rfl, H⟩
    rotate_left
    ·replace H := iB H; rcases H with ⟨rfl, H⟩ | ⟨rfl, H⟩
     ·replace H := am H
      go_wp2_with (first | ((with_reducible refine gW ?_); first | (refine gD (some 107) Try.func16 rfl (laws_pow.calls dF.out) fun nd => ?_; (try (rw [xV wr]; generalize hq_ : World.drewN wr _ = wr; have b2 : Aside0 (Kd.R k31 31 wr w.heap.size (fun k_ => k_ ≠ a0) (.slice aC a2.length aA) a2) := ⟨by rw [← hq_]; exact (by exact sR <| a3.out)⟩; have b1 : Aside0 (Kd.R (Kd.int .i64) 3 wr w.heap.size (fun _ => True) (.slice bC aN.length bB) aN) := ⟨by rw [← hq_]; exact (by exact sR <| a4.out)⟩; have b0 : Aside0 (wr.heap[a0]? = some (.cells #[.int .i64 20, .int .i64 1, .int .i64 (aJ), .int .i64 (wrap64 ((a2.length : Int) - 1)), .int .i64 (wrap64 (1 + (Int.tmod a5 3))), .int .i64 0] 31 (0, 0))) := ⟨by rw [← hq_]; exact (by exact sB <| a1.out)⟩; have a_ : Aside0 (Below w.heap.size w wr) := ⟨by rw [← hq_]; exact (by exact bW)⟩; clear a3 a4 a1 HB hq_; have a3 := b2; have a4 := b1; have a1 := b0; have HB := a_; clear b2 b1 b0 a_))) | ((with_reducible refine pQ (N := 111) rfl ?_); (try (refine sP (by rfl) ?_; dsimp only)); refine Kd.R_lit (Kd.int .i64) _ 3 ?hg (N := 111) ?hd (xs := ([] : List Int)) (inner := []) (ok := fun _ => True) (okp := fun _ => True) ?hr ?hp (fun _ hk => hk) trivial (Below.refl _ _) (Nat.le_refl _) (by simp) ?_; (case hd => rfl); (case hg => rfl); (case hr => (go_simp; done)); (case hp => exact (Reps.none _ _)); intro b_ w89 cX hb hg_ hnew_; clear hg_ hnew_; (rw [← cE.out] at cX); replace a3 := rB a3 hb; have aT := am (Kd.R_lower (Kd.R_new' cX (Kd.R_lt (by exact sR <| a4.out))) (kE (by exact bW))); replace a4 := rE a4 cX hb; replace a1 := gB a1 hb; replace HB := hX hb; clear hb cX) | ((with_reducible refine kS (b := .append) (xs := #[.tmp 111, .tmp 112]) rfl ?_); (try (refine sP (by rfl) ?_; dsimp only)); at_builtin; refine Kd.R_append_rows (Kd.int .i64) (w0 := w) w.heap.size rfl (.tmp 111) (.tmp 112) 25 3 (.int .i64 0) 8 rfl Try.underlying25 a0z rfl (by decide) oM b_ cS aN _ _ _ (fun k_ => some k_ ≠ (.slice bC aN.length bB : Value).ownBlock) (fun _ => False) rfl rfl ?aO ?aR (fun _ _ h => h) (fun _ h => h.elim) ?aF ?aB ?aS ?aL ?_; (case aR => exact sC (Kd.R_reads' a4.out).2.2); (case aB => exact (by exact bW)); (case aF => exact (fun k_ hk => Kd.fresh' (Kd.R_lt (by exact sR <| a4.out)) k_ hk)); (case aO => exact (by exact sR <| Kd.R_mono aT.out (fun _ hk => hk.2))); (case aS => exact (kE (by exact bW))); (case aL => have := d2.out; omega); intro dS w91 ho hb hg hat; rw [← cO.out] at ho; replace a3 := oV a3 aT hg; replace a4 := am (Kd.R_after (ok := (fun _ => True)) (by exact sR <| a4.out) hg hat); replace a1 := gG a1 hg aT; replace HB := am hb; have a8 := am ho; clear aT; clear ho hb hg hat; have bK : 0 ≤ ((aJ) : Int) := oD (by assumption); have bJ : ((aJ) : Int) < ((aK.length : Int) : Int) := oD (by assumption); obtain ⟨aQ, aZ, cI, bO, gl69, cl69, HG69⟩ := Kd.R_form a8.out oM; (cases cI); have cP := am bO; have GG69 := am HG69; clear bO gl69 HG69; obtain ⟨cL, hf69_0⟩ := Kd.R_celln 0 a8.out ((aJ) : Int) bK bJ; replace bK := eq_true bK; replace bJ := eq_true bJ; obtain ⟨fO, hz92_⟩ := Kd.R_celln 0 a8.out ((aJ) : Int) (oD (by assumption)) (oD (by assumption)); have dM := Kd.R_putg a8.out ((aJ) : Int) aY) | ((with_reducible refine rO (t := 3) (p := 117) rfl ?_); refine qK (t := 3) (p := 117) (v := ?vo_w93) (w1 := (w91.setCell ⟨aQ, ((aJ) : Int).toNat, none⟩ (.int .i64 aY))) ?hg ?ho ?hn ?hr ?_; (case ho => rfl); (case hg => rfl); (case hn => rfl); (case hr => (go_simp; done)); intro w93 hw; have hg : w91.grownBy w93 (some aQ) := (by rw [hw]; exact dM.2); have hp_ : Kd.R (Kd.int .i64) 3 w93 w.heap.size (fun k_ => some k_ ≠ (.slice bC aN.length bB : Value).ownBlock) (.slice (some ⟨aQ, 0, none⟩) aK.length aZ) b3 := (by rw [hw, cN.out]; exact dM.1); clear dM; replace a3 := am (Kd.R_over' (v := (.slice (some ⟨aQ, 0, none⟩) aK.length aZ)) (by exact sR <| a3.out) (Kd.R_typed a8.out) (by decide) hg); replace a4 := am (Kd.R_after (v := (.slice (some ⟨aQ, 0, none⟩) aK.length aZ)) (v1 := (.slice (some ⟨aQ, 0, none⟩) aK.length aZ)) (ok := (fun _ => True)) (by exact sR <| a4.out) hg (.inl rfl)); replace a1 := gG a1 hg a8; replace a8 := am hp_; replace HB := am ((by rw [hw]; exact pJ (HB.out) cP.out : Below w.heap.size w w93)); clear hg hw hp_) | (refine gF 17 (some 122) rfl ?_; refine gT Try.func17 (impl_Replace.calls (sC (Kd.R_reads' a3.out).2.2) ((Kd.R_reads' a3.out).2.1) eA.out) ?_; rintro dQ w94 ⟨bI, hb⟩; replace a4 := rB a4 hb; replace a8 := rB a8 hb; have aU := am (Kd.R_lower (Kd.R_newB (Kd.R_new' bI (Kd.R_lt (by exact sR <| a3.out))) (g := a0) (o := .cells #[.int .i64 20, .int .i64 1, .int .i64 (aJ), .int .i64 (wrap64 ((a2.length : Int) - 1)), .int .i64 (wrap64 (1 + (Int.tmod a5 3))), .int .i64 0] 31 (0, 0)) (by exact sB <| a1.out)) (kE (by exact bW))); replace a3 := rE a3 bI hb; replace a1 := gB a1 hb; replace HB := hX hb; (try clear hb); (try clear bI)) | ((with_reducible refine xU (f := 14) rfl ?_); refine a1v (some 128) rfl rfl Try.func14 (by kernel_rfl) rfl #[.slice aC a2.length aA, .slice (some ⟨aQ, 0, none⟩) b3.length aZ] rfl (by (try simp only [List.map_toArray, List.map_cons, List.map_nil]); (rw [show b3.length = aK.length from (Kd.R_reads' a8.out).1.symm] <;> rfl)) ?_; (with_reducible refine (impl_Value.calls ?side1 ?side2 ?side3 ?side4 e9.out).mono ?_); (case side1 => exact sC (Kd.R_reads' a3.out).2.2); (case side2 => exact (Kd.R_reads' a3.out).2.1); (case side3 => exact sC (Kd.R_reads' a8.out).2.2); (case side4 => rw [show b3.length = aK.length from (Kd.R_reads' a8.out).1.symm]; exact (Kd.R_reads' a8.out).2.1); rintro e w95 ⟨rfl, hb⟩; refine ⟨_, rfl, ?_⟩; replace a3 := rB a3 hb; replace a4 := rB a4 hb; replace a8 := rB a8 hb; replace aU := rB aU hb; replace a1 := gB a1 hb; replace HB := hX hb; (try clear hb))))
      (try simp only [← hl4_3])
      subst cC
      go_roundg k3
      case measure => have := cK.out; have := cJ.out; have := cQ.out; omega
      case rel => exact ⟨aN, (Go.bits .and .i64 bR bS), (Go.bits .or .i64 bQ bS), (wrap64 (aY + 1)), rfl, rfl, rfl, H, ⟨by have := cK.out; have := cJ.out; have := cQ.out; omega⟩, ⟨by (try simp only [hl4_3]); exact sR <| Kd.R_mono a3.out (fun _ hk => hk.1)⟩, ⟨by (try simp only [hl4_3]); exact sR <| Kd.R_mono a4.out (fun _ hk => trivial)⟩, ⟨by (try simp only [hl4_3]); exact sB <| a1.out⟩, ⟨bW⟩⟩
     obtain rfl := oI H
     go_wp2_with (first | ((with_reducible refine gW ?_); first | (refine gD (some 107) Try.func16 rfl (laws_pow.calls dF.out) fun nd => ?_; (try (rw [xV wr]; generalize hq_ : World.drewN wr _ = wr; have b2 : Aside0 (Kd.R k31 31 wr w.heap.size (fun k_ => k_ ≠ a0) (.slice aC a2.length aA) a2) := ⟨by rw [← hq_]; exact (by exact sR <| a3.out)⟩; have b1 : Aside0 (Kd.R (Kd.int .i64) 3 wr w.heap.size (fun _ => True) (.slice bC aN.length bB) aN) := ⟨by rw [← hq_]; exact (by exact sR <| a4.out)⟩; have b0 : Aside0 (wr.heap[a0]? = some (.cells #[.int .i64 20, .int .i64 1, .int .i64 (aJ), .int .i64 (wrap64 ((a2.length : Int) - 1)), .int .i64 (wrap64 (1 + (Int.tmod a5 3))), .int .i64 0] 31 (0, 0))) := ⟨by rw [← hq_]; exact (by exact sB <| a1.out)⟩; have a_ : Aside0 (Below w.heap.size w wr) := ⟨by rw [← hq_]; exact (by exact bW)⟩; clear a3 a4 a1 HB hq_; have a3 := b2; have a4 := b1; have a1 := b0; have HB := a_; clear b2 b1 b0 a_))) | ((with_reducible refine pQ (N := 111) rfl ?_); (try (refine sP (by rfl) ?_; dsimp only)); refine Kd.R_lit (Kd.int .i64) _ 3 ?hg (N := 111) ?hd (xs := ([] : List Int)) (inner := []) (ok := fun _ => True) (okp := fun _ => True) ?hr ?hp (fun _ hk => hk) trivial (Below.refl _ _) (Nat.le_refl _) (by simp) ?_; (case hd => rfl); (case hg => rfl); (case hr => (go_simp; done)); (case hp => exact (Reps.none _ _)); intro b_ w96 cW hb hg_ hnew_; clear hg_ hnew_; (rw [← cE.out] at cW); replace a3 := rB a3 hb; have aT := am (Kd.R_lower (Kd.R_new' cW (Kd.R_lt (by exact sR <| a4.out))) (kE (by exact bW))); replace a4 := rE a4 cW hb; replace a1 := gB a1 hb; replace HB := hX hb; clear hb cW) | ((with_reducible refine kS (b := .append) (xs := #[.tmp 111, .tmp 112]) rfl ?_); (try (refine sP (by rfl) ?_; dsimp only)); at_builtin; refine Kd.R_append_rows (Kd.int .i64) (w0 := w) w.heap.size rfl (.tmp 111) (.tmp 112) 25 3 (.int .i64 0) 8 rfl Try.underlying25 a0z rfl (by decide) oM b_ cS aN _ _ _ (fun k_ => some k_ ≠ (.slice bC aN.length bB : Value).ownBlock) (fun _ => False) rfl rfl ?aO ?aR (fun _ _ h => h) (fun _ h => h.elim) ?aF ?aB ?aS ?aL ?_; (case aR => exact sC (Kd.R_reads' a4.out).2.2); (case aB => exact (by exact bW)); (case aF => exact (fun k_ hk => Kd.fresh' (Kd.R_lt (by exact sR <| a4.out)) k_ hk)); (case aO => exact (by exact sR <| Kd.R_mono aT.out (fun _ hk => hk.2))); (case aS => exact (kE (by exact bW))); (case aL => have := d2.out; omega); intro dS w98 ho hb hg hat; rw [← cO.out] at ho; replace a3 := oV a3 aT hg; replace a4 := am (Kd.R_after (ok := (fun _ => True)) (by exact sR <| a4.out) hg hat); replace a1 := gG a1 hg aT; replace HB := am hb; have a8 := am ho; clear aT; clear ho hb hg hat; have bK : 0 ≤ ((aJ) : Int) := oD (by assumption); have bJ : ((aJ) : Int) < ((aK.length : Int) : Int) := oD (by assumption); obtain ⟨aQ, aZ, cI, bO, gl69, cl69, HG69⟩ := Kd.R_form a8.out oM; (cases cI); have cP := am bO; have GG69 := am HG69; clear bO gl69 HG69; obtain ⟨cL, hf69_0⟩ := Kd.R_celln 0 a8.out ((aJ) : Int) bK bJ; replace bK := eq_true bK; replace bJ := eq_true bJ; obtain ⟨fN, hz99_⟩ := Kd.R_celln 0 a8.out ((aJ) : Int) (oD (by assumption)) (oD (by assumption)); have dL := Kd.R_putg a8.out ((aJ) : Int) aY) | ((with_reducible refine rO (t := 3) (p := 117) rfl ?_); refine qK (t := 3) (p := 117) (v := ?vo_w100) (w1 := (w98.setCell ⟨aQ, ((aJ) : Int).toNat, none⟩ (.int .i64 aY))) ?hg ?ho ?hn ?hr ?_; (case ho => rfl); (case hg => rfl); (case hn => rfl); (case hr => (go_simp; done)); intro w100 hw; have hg : w98.grownBy w100 (some aQ) := (by rw [hw]; exact dL.2); have hp_ : Kd.R (Kd.int .i64) 3 w100 w.heap.size (fun k_ => some k_ ≠ (.slice bC aN.length bB : Value).ownBlock) (.slice (some ⟨aQ, 0, none⟩) aK.length aZ) b3 := (by rw [hw, cN.out]; exact dL.1); clear dL; replace a3 := am (Kd.R_over' (v := (.slice (some ⟨aQ, 0, none⟩) aK.length aZ)) (by exact sR <| a3.out) (Kd.R_typed a8.out) (by decide) hg); replace a4 := am (Kd.R_after (v := (.slice (some ⟨aQ, 0, none⟩) aK.length aZ)) (v1 := (.slice (some ⟨aQ, 0, none⟩) aK.length aZ)) (ok := (fun _ => True)) (by exact sR <| a4.out) hg (.inl rfl)); replace a1 := gG a1 hg a8; replace a8 := am hp_; replace HB := am ((by rw [hw]; exact pJ (HB.out) cP.out : Below w.heap.size w w100)); clear hg hw hp_) | (refine gF 17 (some 122) rfl ?_; refine gT Try.func17 (impl_Replace.calls (sC (Kd.R_reads' a3.out).2.2) ((Kd.R_reads' a3.out).2.1) eA.out) ?_; rintro dQ w101 ⟨bI, hb⟩; replace a4 := rB a4 hb; replace a8 := rB a8 hb; have aU := am (Kd.R_lower (Kd.R_newB (Kd.R_new' bI (Kd.R_lt (by exact sR <| a3.out))) (g := a0) (o := .cells #[.int .i64 20, .int .i64 1, .int .i64 (aJ), .int .i64 (wrap64 ((a2.length : Int) - 1)), .int .i64 (wrap64 (1 + (Int.tmod a5 3))), .int .i64 0] 31 (0, 0)) (by exact sB <| a1.out)) (kE (by exact bW))); replace a3 := rE a3 bI hb; replace a1 := gB a1 hb; replace HB := hX hb; (try clear hb); (try clear bI)) | ((with_reducible refine xU (f := 14) rfl ?_); refine a1v (some 128) rfl rfl Try.func14 (by kernel_rfl) rfl #[.slice aC a2.length aA, .slice (some ⟨aQ, 0, none⟩) b3.length aZ] rfl (by (try simp only [List.map_toArray, List.map_cons, List.map_nil]); (rw [show b3.length = aK.length from (Kd.R_reads' a8.out).1.symm] <;> rfl)) ?_; (with_reducible refine (impl_Value.calls ?side1 ?side2 ?side3 ?side4 e9.out).mono ?_); (case side1 => exact sC (Kd.R_reads' a3.out).2.2); (case side2 => exact (Kd.R_reads' a3.out).2.1); (case side3 => exact sC (Kd.R_reads' a8.out).2.2); (case side4 => rw [show b3.length = aK.length from (Kd.R_reads' a8.out).1.symm]; exact (Kd.R_reads' a8.out).2.1); rintro e w102 ⟨rfl, hb⟩; refine ⟨_, rfl, ?_⟩; replace a3 := rB a3 hb; replace a4 := rB a4 hb; replace a8 := rB a8 hb; replace aU := rB aU hb; replace a1 := gB a1 hb; replace HB := hX hb; (try clear hb))))
     go_ret
     exact ⟨rfl, bW⟩
    replace H := oA H; obtain ⟨⟨eB, fI⟩, fE, H⟩ := H
    try dsimp only at H
    have dO := am H; clear H
    go_upto_region 28 with (first | ((with_reducible refine gW ?_); first | (refine gD (some 107) Try.func16 rfl (laws_pow.calls dF.out) fun nd => ?_; (try (rw [xV wr]; generalize hq_ : World.drewN wr _ = wr; have b2 : Aside0 (Kd.R k31 31 wr w.heap.size (fun k_ => k_ ≠ a0) (.slice aC a2.length aA) a2) := ⟨by rw [← hq_]; exact (by exact sR <| a3.out)⟩; have b1 : Aside0 (Kd.R (Kd.int .i64) 3 wr w.heap.size (fun _ => True) (.slice bC aN.length bB) aN) := ⟨by rw [← hq_]; exact (by exact sR <| a4.out)⟩; have b0 : Aside0 (wr.heap[a0]? = some (.cells #[.int .i64 20, .int .i64 1, .int .i64 (aJ), .int .i64 (wrap64 ((a2.length : Int) - 1)), .int .i64 (wrap64 (1 + (Int.tmod a5 3))), .int .i64 0] 31 (0, 0))) := ⟨by rw [← hq_]; exact (by exact sB <| a1.out)⟩; have a_ : Aside0 (Below w.heap.size w wr) := ⟨by rw [← hq_]; exact (by exact bW)⟩; clear a3 a4 a1 HB hq_; have a3 := b2; have a4 := b1; have a1 := b0; have HB := a_; clear b2 b1 b0 a_))) | ((with_reducible refine pQ (N := 111) rfl ?_); (try (refine sP (by rfl) ?_; dsimp only)); refine Kd.R_lit (Kd.int .i64) _ 3 ?hg (N := 111) ?hd (xs := ([] : List Int)) (inner := []) (ok := fun _ => True) (okp := fun _ => True) ?hr ?hp (fun _ hk => hk) trivial (Below.refl _ _) (Nat.le_refl _) (by simp) ?_; (case hd => rfl); (case hg => rfl); (case hr => first | (go_simp; done) | (go_simp; rfl)); (case hp => exact (Reps.none _ _)); intro b_ w75 cH hb hg_ hnew_; clear hg_ hnew_; (first | rw [← cE.out] at cH | (simp only [Int.reduceToNat] at cH; rw [← cE.out] at cH)); replace a3 := rB a3 hb; have aT := am (Kd.R_lower (Kd.R_new' cH (Kd.R_lt (by exact sR <| a4.out))) (kE (by exact bW))); replace a4 := rE a4 cH hb; replace a1 := gB a1 hb; replace HB := hX hb; clear hb cH) | ((with_reducible refine kS (b := .append) (xs := #[.tmp 111, .tmp 112]) rfl ?_); (try (refine sP (by rfl) ?_; dsimp only)); at_builtin; refine Kd.R_append_rows (Kd.int .i64) (w0 := w) w.heap.size rfl (.tmp 111) (.tmp 112) 25 3 (.int .i64 0) 8 rfl Try.underlying25 a0z rfl (by decide) oM b_ cS aN _ _ _ (fun k_ => some k_ ≠ (.slice bC aN.length bB : Value).ownBlock) (fun _ => False) rfl rfl ?aO ?aR (fun _ _ h => h) (fun _ h => h.elim) ?aF ?aB ?aS ?aL ?_; (case aR => exact sC (Kd.R_reads' a4.out).2.2); (case aB => exact (by exact bW)); (case aF => exact (fun k_ hk => Kd.fresh' (Kd.R_lt (by exact sR <| a4.out)) k_ hk)); (case aO => exact (by exact sR <| Kd.R_mono aT.out (fun _ hk => hk.2))); (case aS => exact (kE (by exact bW))); (case aL => have := d2.out; omega); intro dS w77 ho hb hg hat; rw [← cO.out] at ho; replace a3 := oV a3 aT hg; replace a4 := am (Kd.R_after (ok := (fun _ => True)) (by exact sR <| a4.out) hg hat); replace a1 := gG a1 hg aT; replace HB := am hb; have a8 := am ho; clear aT; clear ho hb hg hat; have bK : 0 ≤ ((aJ) : Int) := oD (by assumption); have bJ : ((aJ) : Int) < ((aK.length : Int) : Int) := oD (by assumption); obtain ⟨aQ, aZ, cI, bO, gl69, cl69, HG69⟩ := Kd.R_form a8.out oM; (first | cases cI | (injection cI with ea_ en_ ec_; (first | subst ea_ | (injection ea_ with ea_; subst ea_)); subst ec_; clear en_)); have cP := am bO; have GG69 := am HG69; clear bO gl69 HG69; obtain ⟨cL, hf69_0⟩ := Kd.R_celln 0 a8.out ((aJ) : Int) bK bJ; replace bK := eq_true bK; replace bJ := eq_true bJ; obtain ⟨fP, hz78_⟩ := Kd.R_celln 0 a8.out ((aJ) : Int) (oD (by assumption)) (oD (by assumption)); have dN := Kd.R_putg a8.out ((aJ) : Int) aY) | ((with_reducible refine rO (t := 3) (p := 117) rfl ?_); refine qK (t := 3) (p := 117) (v := ?vo_w79) (w1 := (w77.setCell ⟨aQ, ((aJ) : Int).toNat, none⟩ (.int .i64 aY))) ?hg ?ho ?hn ?hr ?_; (case ho => rfl); (case hg => rfl); (case hn => rfl); (case hr => first | (go_simp; done) | (go_simp; rfl)); intro w79 hw; have hg : w77.grownBy w79 (some aQ) := (by rw [hw]; exact dN.2); have hp_ : Kd.R (Kd.int .i64) 3 w79 w.heap.size (fun k_ => some k_ ≠ (.slice bC aN.length bB : Value).ownBlock) (.slice (some ⟨aQ, 0, none⟩) aK.length aZ) b3 := (by rw [hw, cN.out]; exact dN.1); clear dN; replace a3 := am (Kd.R_over' (v := (.slice (some ⟨aQ, 0, none⟩) aK.length aZ)) (by exact sR <| a3.out) (Kd.R_typed a8.out) (by decide) hg); replace a4 := am (Kd.R_after (v := (.slice (some ⟨aQ, 0, none⟩) aK.length aZ)) (v1 := (.slice (some ⟨aQ, 0, none⟩) aK.length aZ)) (ok := (fun _ => True)) (by exact sR <| a4.out) hg (.inl rfl)); replace a1 := gG a1 hg a8; replace a8 := am hp_; replace HB := am ((by rw [hw]; exact pJ (HB.out) cP.out : Below w.heap.size w w79)); clear hg hw hp_) | ((with_reducible refine xU (f := 17) rfl ?_); refine a1v (some 122) rfl rfl Try.func17 (by kernel_rfl) rfl #[.slice aC a2.length aA, .int .i64 (aJ), .int .i64 aY] rfl (by (try simp only [List.map_toArray, List.map_cons, List.map_nil]); first | done | (simp only [cC]; rfl) | rfl | (simp only [List.length_drop, List.length_take]; rfl)) ?_; refine (impl_Replace.calls (sC (Kd.R_reads' a3.out).2.2) ((Kd.R_reads' a3.out).2.1) eA.out).mono ?_; rintro e w80 ⟨dQ, rfl, bI, hb⟩; refine ⟨_, rfl, ?_⟩; replace a4 := rB a4 hb; replace a8 := rB a8 hb; have aU := am (Kd.R_lower (Kd.R_newB (Kd.R_new' bI (Kd.R_lt (by exact sR <| a3.out))) (g := a0) (o := .cells #[.int .i64 20, .int .i64 1, .int .i64 (aJ), .int .i64 (wrap64 ((a2.length : Int) - 1)), .int .i64 (wrap64 (1 + (Int.tmod a5 3))), .int .i64 0] 31 (0, 0)) (by exact sB <| a1.out)) (kE (by exact bW))); replace a3 := rE a3 bI hb; replace a1 := gB a1 hb; replace HB := hX hb; (try clear bI)) | ((with_reducible refine xU (f := 14) rfl ?_); refine a1v (some 128) rfl rfl Try.func14 (by kernel_rfl) rfl #[.slice aC a2.length aA, .slice (some ⟨aQ, 0, none⟩) b3.length aZ] rfl (by (try simp only [List.map_toArray, List.map_cons, List.map_nil]); first | done | (rw [show b3.length = aK.length from (Kd.R_reads' a8.out).1.symm] <;> rfl) | rfl | (simp only [List.length_drop, List.length_take]; rfl)) ?_; (with_reducible refine (impl_Value.calls ?side1 ?side2 ?side3 ?side4 e9.out).mono ?_); (case side1 => exact sC (Kd.R_reads' a3.out).2.2); (case side2 => exact (Kd.R_reads' a3.out).2.1); (case side3 => exact sC (Kd.R_reads' a8.out).2.2); (case side4 => rw [show b3.length = aK.length from (Kd.R_reads' a8.out).1.symm]; exact (Kd.R_reads' a8.out).2.1); rintro e w81 ⟨rfl, hb⟩; refine ⟨_, rfl, ?_⟩; replace a3 := rB a3 hb; replace a4 := rB a4 hb; replace a8 := rB a8 hb; replace aU := rB aU hb; replace a1 := gB a1 hb; replace HB := hX hb; obtain ⟨g4, fZ, rfl⟩ := Kd.R_slice aU.out) | (refine gF 14 (some 135) rfl ?_; refine gS Try.func14 (impl_Value.calls (sC (Kd.R_reads' aU.out).2.2) ((Kd.R_reads' aU.out).2.1) (sC (Kd.R_reads' a4.out).2.2) ((Kd.R_reads' a4.out).2.1) fE.out) ?_; rintro w83 hb; replace a3 := rB a3 hb; replace a4 := rB a4 hb; replace a8 := rB a8 hb; replace aU := rB aU hb; replace a1 := gB a1 hb; replace HB := hX hb))); clear hb; clear hb; clear hb
    (try simp only [Act.put, List.setIfInBounds_toArray, List.set_cons_zero, List.set_cons_succ])
    go_cut [146] (fun f0 wc => ∃ (kq : Nat) (cF : Bool), f0 = .bool cF ∧ Aside0 (rI kq a2 aN (aJ) (wrap64 (1 + (Int.tmod a5 3))) cV cU bR bQ aY bS eC cF = some r) ∧ Aside0 (kq ≤ k3) ∧ Aside0 (Kd.R k31 31 wc w.heap.size (fun k_ => k_ ≠ a0) (.slice aC a2.length aA) a2) ∧ Aside0 (Kd.R (Kd.int .i64) 3 wc w.heap.size (fun _ => True) (.slice bC aN.length bB) aN) ∧ Aside0 (wc.heap[a0]? = some (.cells #[.int .i64 20, .int .i64 1, .int .i64 (aJ), .int .i64 (wrap64 ((a2.length : Int) - 1)), .int .i64 (wrap64 (1 + (Int.tmod a5 3))), .int .i64 0] 31 (0, 0))) ∧ Aside0 (Below w.heap.size w wc))
    case first =>
     have H := dO.out
     clear dO
     replace H := iB H; rcases H with ⟨rfl, H⟩ | ⟨rfl, H⟩
     ·replace H := iB H; rcases H with ⟨rfl, H⟩ | ⟨rfl, H⟩
      ·replace H := am H
       go_wp2
       go_meet
       case rel => exact ⟨_, ((bS != eB)), rfl, H, ⟨by have := cK.out; have := cJ.out; have := cQ.out; omega⟩, ⟨by (try simp only [hl4_3]); exact sR <| Kd.R_mono a3.out (fun _ hk => hk.1)⟩, ⟨by (try simp only [hl4_3]); exact sR <| Kd.R_mono a4.out (fun _ hk => trivial)⟩, ⟨by (try simp only [hl4_3]); exact sB <| a1.out⟩, ⟨bW⟩⟩
      exact b7x
     exact b7x
    clear dO
    clear dV eF eE cL; try clear bK; try clear bJ; try clear bK; try clear bJ
    obtain ⟨kq, cF, rfl, HA, e7, a3, a4, a1, HB⟩ := hcut
    cases kq with
    | zero => cases HA.out
    | succ f4 =>
     obtain ⟨H⟩ := HA
     simp only [rI] at H
     replace H := iB H; rcases H with ⟨rfl, H⟩ | ⟨rfl, H⟩
     ·obtain rfl := oI H
      go_wp2
      go_ret
      exact ⟨rfl, bW⟩
     replace H := iB H; rcases H with ⟨rfl, H⟩ | ⟨rfl, H⟩
     ·replace H := am H
      go_wp2
      (try simp only [← hl4_3])
      subst cC
      go_roundg f4
      case measure => have := cK.out; have := cJ.out; have := cQ.out; have := e7.out; omega
      case rel => exact ⟨aN, (Go.bits .and .i64 bR bS), (Go.bits .or .i64 bQ bS), (wrap64 (aY + 1)), rfl, rfl, rfl, H, ⟨by have := cK.out; have := cJ.out; have := cQ.out; have := e7.out; omega⟩, ⟨by (try simp only [hl4_3]); exact sR <| a3.out⟩, ⟨by (try simp only [hl4_3]); exact sR <| a4.out⟩, ⟨by (try simp only [hl4_3]); exact sB <| a1.out⟩, ⟨bW⟩⟩
     obtain rfl := oI H
     go_wp2
     go_ret
     exact ⟨rfl, bW⟩
def laws_FnInstances.Pure : Prop := ∀ (l0 : List Int), l0.length ≤ maxLen → l0.length * 1 ≤ 140737488351232 → (∀ x ∈ l0, (Lit.int .u8 x).wf = true) → ∃ k, vS k l0 = some true
theorem laws_FnInstances.walk (P : laws_FnInstances.Pure) (a0 : Option Addr) (len0 cap0 : Nat) (z0 : List Int) (w : World) (w0 : (a0 = none ∧ len0 = 0 ∧ cap0 = 0 ∧ z0 = []) ∨ ∃ x, a0 = some x ∧ len0 ≤ cap0 ∧ cap0 ≤ maxLen ∧ z0.length = cap0 ∧ (∀ i, i < z0.length → w.cell? (x.add i) = some (.int .u8 (z0.getD i 0))) ∧ ∀ n ∈ z0, (Lit.int .u8 n).wf = true) (y0 : len0 * 1 ≤ 140737488351232) :
  Calls Try.prog 3 #[.slice a0 len0 cap0] w fun e w' => e = .returned (.bool true) ∧ Below w.heap.size w w' := by
 obtain ⟨l0, rfl, hr0, hm0, a1, hc0⟩ := a5n w0
 obtain ⟨k, h⟩ := P l0 hm0 y0 a1
 refine (laws_FnInstances.calls k _ _ l0 true w (Kd.C_of_reads (d := (0 : Int)) (h1 := fun _ => rfl) hr0) hc0 h).mono ?_
 rintro e w' ⟨rfl, hd⟩
 exact ⟨rfl, hd⟩
end Go.Proofs.Ytkpipmojkhikaaa.PAll
