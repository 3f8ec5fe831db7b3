/- Written by a program of this session over the loaded program, and by hand: Go functions as plain Lean functions, and that a call comes to what they say. -/
import Derived.Test.YtkpipmojkhikaaaVText0
import Derived.Test.YtkpipmojkhikaaaVText1
import Derived.Test.YtkpipmojkhikaaaVText10
import Derived.Test.YtkpipmojkhikaaaVText11
import Derived.Test.YtkpipmojkhikaaaVText15
import Derived.Test.YtkpipmojkhikaaaVText18
import Derived.Test.YtkpipmojkhikaaaVText21
import Derived.Test.YtkpipmojkhikaaaBase
import Derived.Test.YtkpipmojkhikaaaSq
namespace Go.Proofs.Ytkpipmojkhikaaa.PAll
open Go.RowKit Go.Proofs.YtkpipmojkhikaaaW.PrintWords Go.Proofs.YtkpipmojkhikaaaW.PrintLast Go.Proofs.YtkpipmojkhikaaaW.PrintMore Go.Proofs.YtkpipmojkhikaaaW.Sq
attribute [local go_sem] sD rZ uM uL qV qU sA rY
set_option linter.unusedVariables false
set_option maxHeartbeats 8000000
set_option maxRecDepth 100000
set_option linter.unusedSimpArgs false
mutual
def vX : Nat → List Int → List (S31) → ByteArray → Bool → Bool → Option (Bool)
 | 0, _, _, _, _, _ => none
 | k + 1, x0, x3, x4, x5, aE => if aE = true then (some false) else (if x5 = true then ((yY k x4).bind fun a0 => ((a5j k x4).bind fun a6 => (if a0.2.1 = a6.2.1 then (if a0.2.1 = 0 then (if a0.2.2 = 0 then ((uP k a0.1 a6.1).bind fun aA => (if aA = true then ((uB k x3).bind fun a9 => ((uP k a9 a0.1).bind fun a8 => (if a8 = true then ((vC k x3 a0.1).bind fun a7 => (tC k x0 x4 a0.1 (!a7))) else (tC k x0 x4 a0.1 true)))) else (tC k x0 x4 a0.1 true))) else (tC k x0 x4 a0.1 true)) else (tC k x0 x4 a0.1 true)) else (tC k x0 x4 a0.1 true)))) else ((uB k x3).bind fun aC => (if (aC.length : Int) = 0 then ((vC k x3 x3).bind fun aB => (some (!aB))) else (some false))))
def tC : Nat → List Int → ByteArray → List (S31) → Bool → Option (Bool)
 | 0, _, _, _, _ => none
 | k + 1, x0, x4, x8, aD => if aD = true then (some false) else ((a0w x0 3).bind fun a4 => (if (x4.size : Int) = 0 then (none) else (if 0 ≤ (Int.tmod a4 (x4.size : Int)) then (if (Int.tmod a4 (x4.size : Int)) ≤ (x4.size : Int) then ((yY k (x4.extract 0 ((Int.tmod a4 (x4.size : Int)) : Int).toNat)).bind fun a5 => (if x4.size + 1 ≤ 9223372036854775807 then ((yY k (x4 ++ (⟨#[32]⟩ : ByteArray))).bind fun a3 => (if (x4.size : Int) = 4000 then ((qK k x8).bind fun a2 => (if 0 < (x4.size : Int) then (if (bt x4 0) = 40 then (if a5.2.1 = 0 then (some false) else (if a2.2 = true then (some (a2.1.toList == x4.toList)) else (some false))) else (if a2.2 = true then (some (a2.1.toList == x4.toList)) else (some false))) else (none))) else ((qK k x8).bind fun a1 => (if 0 < (x4.size : Int) then (if (bt x4 0) = 40 then (if a5.2.1 = 0 then (some false) else (if a3.2.1 = 0 then (some false) else (if a3.2.2 = (x4.size : Int) then (if a1.2 = true then (some (a1.1.toList == x4.toList)) else (some false)) else (some false)))) else (if a3.2.1 = 0 then (some false) else (if a3.2.2 = (x4.size : Int) then (if a1.2 = true then (some (a1.1.toList == x4.toList)) else (some false)) else (some false)))) else (none))))) else (none))) else (none)) else (none))))
end
def yS (k : Nat) (l0 : List Int) : Option (Bool) := (a1e l0).bind fun a3 => (if a3 = true then (some true) else ((uK k l0).bind fun a1 => ((qK k a1).bind fun a0 => ((uH k a1).bind fun a2 => (if (a0.2 != a2.2) = true then (vX k l0 a1 a0.1 a0.2 true) else (vX k l0 a1 a0.1 a0.2 (a0.1.toList != a2.1.toList)))))))
theorem a9g {P : Prop} (h : P := by
 obtain rfl := oI H
 go_wp2_with (first | ((with_reducible refine gW ?_); first | (refine gD (some 101) Try.func12 rfl (laws_at.calls (sC (Kd.C_below aZ.out HB.out)) a_.out bF.out) fun nd => ?_) | (refine gF 32 (some 106) rfl ?_; refine gT Try.func32 (impl_ReadTerm.calls _ _ _ _ _ _ cH.out) ?_; rintro cL aF ⟨a1, hb⟩; have a6 := am (Kd.R_lower (Kd.R_new' a1 (Kd.R_lt (by exact sR <| a4.out))) (kJ (by exact sW HB.out))); replace a4 := rE a4 a1 hb; replace HB := hB HB hb; (try clear hb); (try clear a1)) | (refine gF 32 (some 113) rfl ?_; refine gT Try.func32 (impl_ReadTerm.calls _ _ _ _ _ _ cG.out) ?_; rintro cK b2 ⟨a1, hb⟩; have aJ := am (Kd.R_lower (Kd.R_new' (Kd.R_new' a1 (Kd.R_lt (by exact sR <| a4.out))) (Kd.R_lt (by exact sR <| a6.out))) (kJ (by exact sW HB.out))); replace a4 := rE a4 a1 hb; replace a6 := rE a6 a1 hb; replace HB := hB HB hb; (try clear hb); (try clear a1); obtain ⟨b5, aI, rfl⟩ := Kd.R_slice a4.out) | (refine gF 21 (some 124) rfl ?_; refine gS Try.func21 (impl_ShowTerm.calls _ _ _ _ _ _ _ (sC (Kd.R_reads' a4.out).2.2) ((Kd.R_reads' a4.out).2.1) d1.out) ?_; rintro b4 hb; replace a4 := rB a4 hb; replace a6 := rB a6 hb; replace aJ := rB aJ hb; replace HB := hB HB hb; (try clear hb); have cW : 0 ≤ (0 : Int) := oM; have c1 : 0 < a0.size := (by have : (0 : Int) < (a0.size : Int) := oD (by assumption); omega); have e8 : ∀ h : 0 < a0.size, ((a0[0]'h).toNat : Int) = bt a0 0 := xG a0 0; clear cW; have e4 : (0 < (a0.size : Int)) = True := eq_true (oD (by assumption)); replace c1 := eq_true c1)))
 go_ret
 exact ⟨rfl, sW HB.out⟩) : P := h
theorem b4r {P : Prop} (h : P := by
 obtain rfl := oI H
 go_wp2_with (first | ((with_reducible refine gW ?_); first | (refine gD (some 101) Try.func12 rfl (laws_at.calls (sC (Kd.C_below aZ.out HB.out)) a_.out bF.out) fun nd => ?_) | (refine gF 32 (some 106) rfl ?_; refine gT Try.func32 (impl_ReadTerm.calls _ _ _ _ _ _ cH.out) ?_; rintro cL aF ⟨a1, hb⟩; have a6 := am (Kd.R_lower (Kd.R_new' a1 (Kd.R_lt (by exact sR <| a4.out))) (kJ (by exact sW HB.out))); replace a4 := rE a4 a1 hb; replace HB := hB HB hb; (try clear hb); (try clear a1)) | (refine gF 32 (some 113) rfl ?_; refine gT Try.func32 (impl_ReadTerm.calls _ _ _ _ _ _ cG.out) ?_; rintro cK b2 ⟨a1, hb⟩; have aJ := am (Kd.R_lower (Kd.R_new' (Kd.R_new' a1 (Kd.R_lt (by exact sR <| a4.out))) (Kd.R_lt (by exact sR <| a6.out))) (kJ (by exact sW HB.out))); replace a4 := rE a4 a1 hb; replace a6 := rE a6 a1 hb; replace HB := hB HB hb; (try clear hb); (try clear a1); obtain ⟨b5, aI, rfl⟩ := Kd.R_slice a4.out) | (refine gF 21 (some 124) rfl ?_; refine gS Try.func21 (impl_ShowTerm.calls _ _ _ _ _ _ _ (sC (Kd.R_reads' a4.out).2.2) ((Kd.R_reads' a4.out).2.1) d2.out) ?_; rintro b4 hb; replace a4 := rB a4 hb; replace a6 := rB a6 hb; replace aJ := rB aJ hb; replace HB := hB HB hb; (try clear hb); have cX : 0 ≤ (0 : Int) := oM; have cB : 0 < a0.size := (by have : (0 : Int) < (a0.size : Int) := oD (by assumption); omega); have e9 : ∀ h : 0 < a0.size, ((a0[0]'h).toNat : Int) = bt a0 0 := xG a0 0; clear cX; have e5 : (0 < (a0.size : Int)) = True := eq_true (oD (by assumption)); replace cB := eq_true cB)))
 go_ret
 exact ⟨rfl, sW HB.out⟩) : P := h
theorem c1m {P : Prop} (h : P := by
 by_cases aF : aO = 0
 ·rw [if_pos aF] at H
  have b2 : (aO == 0) = true := beq_iff_eq.mpr aF
  have b5 : (aO != 0) = false := bne_eq_false_iff_eq.mpr aF
  clear aF
  exact a9g
 rw [if_neg aF] at H
 have b2 : (aO == 0) = false := beq_eq_false_iff_ne.mpr aF
 have b5 : (aO != 0) = true := bne_iff_ne.mpr aF
 by_cases aI : aN = (a0.size : Int)
 ·rw [if_pos aI] at H
  have b4 : (aN == (a0.size : Int)) = true := beq_iff_eq.mpr aI
  have cT : (aN != (a0.size : Int)) = false := bne_eq_false_iff_eq.mpr aI
  clear aI
  replace H := iB H; rcases H with ⟨rfl, H⟩ | ⟨rfl, H⟩
  ·exact a9g
  exact a9g
 rw [if_neg aI] at H
 have b4 : (aN == (a0.size : Int)) = false := beq_eq_false_iff_ne.mpr aI
 have cT : (aN != (a0.size : Int)) = true := bne_iff_ne.mpr aI
 exact a9g) : P := h
theorem a9b {P : Prop} (h : P := by
 go_meet
 case rel => exact ⟨_, true, rfl, H, ⟨by have := cF.out; omega⟩, ⟨sR <| Kd.R_mono a3.out (fun _ hk => trivial)⟩, ⟨sW HB.out⟩⟩) : P := h
theorem c0y {P : Prop} (h : P := by
 have aF : ((a0.size : Int) == (a0.size : Int)) = true := beq_self_eq_true _
 have b2 : ((a0.size : Int) != (a0.size : Int)) = false := bne_self_eq_false _
 replace H := iB H; rcases H with ⟨rfl, H⟩ | ⟨rfl, H⟩
 ·exact b4r
 exact b4r) : P := h
theorem laws_FnText.calls (k : Nat) (A0 : Option Addr) (c0 : Nat) (l0 : List Int) (r : Bool) (w : World) (hr0 : Kd.C (Kd.int .u8) w A0 l0.length l0) (hc0 : l0.length ≤ c0) (h : yS k l0 = some r) :
  Calls Try.prog 8 #[.slice A0 l0.length c0] w fun e w' => e = .returned (.bool r) ∧ Below w.heap.size w w' := by
 have aZ := am hr0
 have a_ := am hc0
 clear hr0 hc0
 have HB := am (Below.refl w.heap.size w)
 have H := h
 clear h
 unfold yS at H
 replace H := oA H; obtain ⟨e3, A2, H⟩ := H
 replace H := iB H; rcases H with ⟨rfl, H⟩ | ⟨rfl, H⟩
 ·obtain rfl := oI H
  go_enter Try.func8, Try.ntmps8
  go_wp2_with (first | ((with_reducible refine gW ?_); first | (refine gC 10 (some 23) Try.func10 #[.slice A0 l0.length c0] ?_; (with_reducible refine (laws_big.calls ?side1 ?side2 A2.out).mono ?_); (case side1 => repeat (first | exact aZ.out | (with_reducible refine Kd.C_alloc ?_ _) | (with_reducible refine Kd.C_drewN ?_ _) | (with_reducible refine Kd.C_drew ?_))); (case side2 => exact a_.out); rintro e w' ⟨rfl, ⟨nd, rfl⟩⟩; refine ⟨_, rfl, ?_⟩)))
  go_ret
  exact ⟨rfl, sW HB.out⟩
 replace H := oA H; obtain ⟨b0, A4, H⟩ := H
 replace H := oA H; obtain ⟨⟨a0, aB⟩, A5, H⟩ := H
 try dsimp only at H
 replace H := oA H; obtain ⟨⟨cR, aC⟩, A6, H⟩ := H
 try dsimp only at H
 have bE := am H; clear H
 go_enter Try.func8, Try.ntmps8
 go_upto_region 6 with (first | ((with_reducible refine gW ?_); first | ((with_reducible refine a1y (f := 10) rfl ?_); refine a6b (some 23) rfl rfl Try.func10 (by kernel_rfl) rfl #[.slice A0 l0.length c0] rfl tn ?_; (with_reducible refine (laws_big.calls ?side1 ?side2 A2.out).mono ?_); (case side1 => repeat (first | exact aZ.out | (with_reducible refine Kd.C_alloc ?_ _) | (with_reducible refine Kd.C_drewN ?_ _) | (with_reducible refine Kd.C_drew ?_))); (case side2 => exact a_.out); rintro e w' ⟨rfl, ⟨nd, rfl⟩⟩; refine ⟨_, rfl, ?_⟩) | ((with_reducible refine a1y (f := 31) rfl ?_); refine a6b (some 25) rfl rfl Try.func31 (by kernel_rfl) rfl #[.slice A0 l0.length c0] rfl tn ?_; (with_reducible refine (spec_DrawShowTerm.calls ?side1 ?side2 A4.out).mono ?_); (case side1 => repeat (first | exact aZ.out | (with_reducible refine Kd.C_alloc ?_ _) | (with_reducible refine Kd.C_drewN ?_ _) | (with_reducible refine Kd.C_drew ?_))); (case side2 => exact a_.out); rintro e w8 ⟨dP, rfl, a1, hb⟩; refine ⟨_, rfl, ?_⟩; have a7 := rL a1 HB; replace HB := hB HB hb; obtain ⟨d0, cZ, rfl⟩ := Kd.R_slice a7.out) | (refine gF 21 (some 28) rfl ?_; refine gS Try.func21 (impl_ShowTerm.calls _ _ _ _ _ _ _ (sC (Kd.R_reads' a7.out).2.2) ((Kd.R_reads' a7.out).2.1) A5.out) ?_; rintro w10 hb; replace a7 := rB a7 hb; replace HB := hB HB hb) | (refine gF 19 (some 33) rfl ?_; refine gS Try.func19 (spec_ShowTerm.calls (sC (Kd.R_reads' a7.out).2.2) ((Kd.R_reads' a7.out).2.1) A6.out) ?_; rintro w11 hb; replace a7 := rB a7 hb; replace HB := hB HB hb))); clear hb a1; clear hb; clear hb
 (try simp only [Act.put, List.setIfInBounds_toArray, List.set_cons_zero, List.set_cons_succ])
 go_cut [43] (fun cV wc => ∃ (kq : Nat) (aY : Bool), cV = .bool aY ∧ Aside0 (vX kq l0 b0 a0 aB aY = some r) ∧ Aside0 (kq ≤ k) ∧ Aside0 (Kd.R k31 31 wc w.heap.size (fun _ => True) (.slice d0 b0.length cZ) b0) ∧ Aside0 (Below w.heap.size w wc))
 case first =>
  have H := bE.out
  clear bE
  by_cases aE : (aB != aC) = true
  ·rw [if_pos aE] at H
   have b_ : (aB != aC) = true := aE
   (try (have bZ : decide (aB = aC) = false := by simpa using aE))
   (try (have bV : (aB == aC) = false := by simpa using aE))
   (try (have dL : ¬ (aB = aC) := by simpa using aE))
   clear aE
   replace H := am H
   go_wp2
   go_meet
   case rel => exact ⟨_, true, rfl, H, ⟨oM⟩, ⟨sR <| a7.out⟩, ⟨sW HB.out⟩⟩
  rw [if_neg aE] at H
  have b_ : (aB != aC) = false := by simpa using aE
  (try (have bZ : decide (aB = aC) = true := by simpa using aE))
  (try (have bV : (aB == aC) = true := by simpa using aE))
  clear aE
  replace H := am H
  go_wp2
  go_meet
  case rel => exact ⟨_, ((a0.toList != cR.toList)), rfl, H, ⟨oM⟩, ⟨sR <| a7.out⟩, ⟨sW HB.out⟩⟩
 clear bE
 obtain ⟨kq, aY, rfl, HA, cF, a2, HB⟩ := hcut
 cases kq with
 | zero => cases HA.out
 | succ cY =>
  obtain ⟨H⟩ := HA
  simp only [vX] at H
  replace H := iB H; rcases H with ⟨rfl, H⟩ | ⟨rfl, H⟩
  ·obtain rfl := oI H
   go_wp2
   go_ret
   exact ⟨rfl, sW HB.out⟩
  replace H := iB H; rcases H with ⟨rfl, H⟩ | ⟨rfl, H⟩
  rotate_left
  ·replace H := oA H; obtain ⟨aL, bH, H⟩ := H
   by_cases aD : (aL.length : Int) = 0
   ·rw [if_pos aD] at H
    have b9 : ((aL.length : Int) == 0) = true := beq_iff_eq.mpr aD
    have b8 : ((aL.length : Int) != 0) = false := bne_eq_false_iff_eq.mpr aD
    clear aD
    replace H := oA H; obtain ⟨e2, cS, H⟩ := H
    obtain rfl := oI H
    go_wp2_with (first | (go_at_call 24; refine (impl_Same.calls (sC (Kd.R_reads' a2.out).2.2) ((Kd.R_reads' a2.out).2.1) (sC (Kd.R_reads' a2.out).2.2) ((Kd.R_reads' a2.out).2.1) cS.out).mono ?_; rintro e w149 ⟨rfl, hb⟩; replace a2 := rB a2 hb; replace aK := rB aK hb; replace HB := hB HB hb; (try clear hb)) | ((with_reducible refine gW ?_); first | (refine gF 28 (some 47) rfl ?_; refine gT Try.func28 (impl_Canon.calls (sC (Kd.R_reads' a2.out).2.2) ((Kd.R_reads' a2.out).2.1) bH.out) ?_; rintro cO w147 ⟨a1, hb⟩; have aK := am (Kd.R_lower (Kd.R_new' a1 (Kd.R_lt (by exact sR <| a2.out))) (kJ (by exact sW HB.out))); replace a2 := rE a2 a1 hb; replace HB := hB HB hb; (try clear hb); (try clear a1); obtain ⟨dN, d7, rfl⟩ := Kd.R_slice aK.out)))
    go_ret
    exact ⟨rfl, sW HB.out⟩
   rw [if_neg aD] at H
   have b9 : ((aL.length : Int) == 0) = false := beq_eq_false_iff_ne.mpr aD
   have b8 : ((aL.length : Int) != 0) = true := bne_iff_ne.mpr aD
   have c_ : ¬ (aL = []) := fun h_ => aD (by rw [h_]; rfl)
   obtain rfl := oI H
   go_wp2_with (first | ((with_reducible refine gW ?_); first | (refine gF 28 (some 47) rfl ?_; refine gT Try.func28 (impl_Canon.calls (sC (Kd.R_reads' a2.out).2.2) ((Kd.R_reads' a2.out).2.1) bH.out) ?_; rintro cO w150 ⟨a1, hb⟩; have aK := am (Kd.R_lower (Kd.R_new' a1 (Kd.R_lt (by exact sR <| a2.out))) (kJ (by exact sW HB.out))); replace a2 := rE a2 a1 hb; replace HB := hB HB hb; (try clear hb); (try clear a1); obtain ⟨dM, d6, rfl⟩ := Kd.R_slice aK.out)))
   go_ret
   exact ⟨rfl, sW HB.out⟩
  replace H := oA H; obtain ⟨⟨b6, aA, aR⟩, d5, H⟩ := H
  try dsimp only at H
  replace H := oA H; obtain ⟨⟨e1, aQ, e0⟩, d4, H⟩ := H
  try dsimp only at H
  have b1 := am H; clear H
  go_upto_region 12 with (first | ((with_reducible refine gW ?_); first | (refine gF 32 (some 58) rfl ?_; refine gT Try.func32 (impl_ReadTerm.calls _ _ _ _ _ _ d5.out) ?_; rintro cN w18 ⟨a1, hb⟩; have a3 := am (Kd.R_lower (Kd.R_new' a1 (Kd.R_lt (by exact sR <| a2.out))) (kJ (by exact sW HB.out))); replace a2 := rE a2 a1 hb; replace HB := hB HB hb; (try clear a1)) | (refine gF 33 (some 64) rfl ?_; refine gT Try.func33 (spec_ReadTerm.calls d4.out) ?_; rintro dO w19 ⟨a1, hb⟩; have a5 := am (Kd.R_lower (Kd.R_new' (Kd.R_new' a1 (Kd.R_lt (by exact sR <| a2.out))) (Kd.R_lt (by exact sR <| a3.out))) (kJ (by exact sW HB.out))); replace a2 := rE a2 a1 hb; replace a3 := rE a3 a1 hb; replace HB := hB HB hb; (try clear a1)))); clear hb; clear hb
  (try simp only [Act.put, List.setIfInBounds_toArray, List.set_cons_zero, List.set_cons_succ])
  go_cut [97] (fun cU wc => ∃ (kq : Nat) (aM : Bool), cU = .bool aM ∧ Aside0 (tC kq l0 a0 b6 aM = some r) ∧ Aside0 (kq ≤ cY) ∧ Aside0 (Kd.R k31 31 wc w.heap.size (fun _ => True) cN b6) ∧ Aside0 (Below w.heap.size w wc))
  case first =>
   have H := b1.out
   clear b1
   by_cases aX : aA = aQ
   rotate_left
   ·rw [if_neg aX] at H
    have bU : (aA == aQ) = false := beq_eq_false_iff_ne.mpr aX
    have bT : (aA != aQ) = true := bne_iff_ne.mpr aX
    replace H := am H
    go_wp2
    exact a9b
   rw [if_pos aX] at H
   have bU : (aA == aQ) = true := beq_iff_eq.mpr aX
   have bT : (aA != aQ) = false := bne_eq_false_iff_eq.mpr aX
   clear aX
   by_cases aW : aA = 0
   rotate_left
   ·rw [if_neg aW] at H
    have bS : (aA == 0) = false := beq_eq_false_iff_ne.mpr aW
    have bR : (aA != 0) = true := bne_iff_ne.mpr aW
    replace H := am H
    go_wp2
    exact a9b
   rw [if_pos aW] at H
   have bS : (aA == 0) = true := beq_iff_eq.mpr aW
   have bR : (aA != 0) = false := bne_eq_false_iff_eq.mpr aW
   clear aW
   by_cases aV : aR = 0
   rotate_left
   ·rw [if_neg aV] at H
    have bQ : (aR == 0) = false := beq_eq_false_iff_ne.mpr aV
    have bP : (aR != 0) = true := bne_iff_ne.mpr aV
    replace H := am H
    go_wp2
    exact a9b
   rw [if_pos aV] at H
   have bQ : (aR == 0) = true := beq_iff_eq.mpr aV
   have bP : (aR != 0) = false := bne_eq_false_iff_eq.mpr aV
   clear aV
   replace H := oA H; obtain ⟨d_, bG, H⟩ := H
   replace H := iB H; rcases H with ⟨rfl, H⟩ | ⟨rfl, H⟩
   ·replace H := oA H; obtain ⟨dZ, cJ, H⟩ := H
    replace H := oA H; obtain ⟨dY, cI, H⟩ := H
    replace H := iB H; rcases H with ⟨rfl, H⟩ | ⟨rfl, H⟩
    ·replace H := oA H; obtain ⟨cQ, d3, H⟩ := H
     replace H := am H
     obtain ⟨eQ, eH, rfl⟩ := Kd.R_slice a3.out
     obtain ⟨eP, eG, rfl⟩ := Kd.R_slice a5.out
     go_wp2_with (first | (go_at_call 34; refine cD (laws_sameNodes.calls (sC (Kd.R_reads' a3.out).2.2) ((Kd.R_reads' a3.out).2.1) (sC (Kd.R_reads' a5.out).2.2) ((Kd.R_reads' a5.out).2.1) bG.out) fun nd => ?_) | (go_at_call 28; refine (impl_Canon.calls (sC (Kd.R_reads' a2.out).2.2) ((Kd.R_reads' a2.out).2.1) cJ.out).mono ?_; rintro e w31 ⟨cM, rfl, a1, hb⟩; have a8 := am (Kd.R_lower (Kd.R_new' (Kd.R_new' (Kd.R_new' a1 (Kd.R_lt (by exact sR <| a2.out))) (Kd.R_lt (by exact sR <| a3.out))) (Kd.R_lt (by exact sR <| a5.out))) (kJ (by exact sW HB.out))); replace a2 := rE a2 a1 hb; replace a3 := rE a3 a1 hb; replace a5 := rE a5 a1 hb; replace HB := hB HB hb; (try clear hb); (try clear a1); obtain ⟨eO, eF, rfl⟩ := Kd.R_slice a8.out) | (go_at_call 34; refine cD (laws_sameNodes.calls (sC (Kd.R_reads' a8.out).2.2) ((Kd.R_reads' a8.out).2.1) (sC (Kd.R_reads' a3.out).2.2) ((Kd.R_reads' a3.out).2.1) cI.out) fun nd => ?_) | (go_at_call 24; refine (impl_Same.calls (sC (Kd.R_reads' a2.out).2.2) ((Kd.R_reads' a2.out).2.1) (sC (Kd.R_reads' a3.out).2.2) ((Kd.R_reads' a3.out).2.1) d3.out).mono ?_; rintro e w33 ⟨rfl, hb⟩; replace a2 := rB a2 hb; replace a3 := rB a3 hb; replace a5 := rB a5 hb; replace a8 := rB a8 hb; replace HB := hB HB hb; (try clear hb)))
     go_meet
     case rel => exact ⟨_, (!cQ), rfl, H, ⟨by have := cF.out; omega⟩, ⟨sR <| Kd.R_mono a3.out (fun _ hk => trivial)⟩, ⟨sW HB.out⟩⟩
    replace H := am H
    obtain ⟨eN, eE, rfl⟩ := Kd.R_slice a3.out
    obtain ⟨eM, eD, rfl⟩ := Kd.R_slice a5.out
    go_wp2_with (first | (go_at_call 34; refine cD (laws_sameNodes.calls (sC (Kd.R_reads' a3.out).2.2) ((Kd.R_reads' a3.out).2.1) (sC (Kd.R_reads' a5.out).2.2) ((Kd.R_reads' a5.out).2.1) bG.out) fun nd => ?_) | (go_at_call 28; refine (impl_Canon.calls (sC (Kd.R_reads' a2.out).2.2) ((Kd.R_reads' a2.out).2.1) cJ.out).mono ?_; rintro e w36 ⟨cM, rfl, a1, hb⟩; have a8 := am (Kd.R_lower (Kd.R_new' (Kd.R_new' (Kd.R_new' a1 (Kd.R_lt (by exact sR <| a2.out))) (Kd.R_lt (by exact sR <| a3.out))) (Kd.R_lt (by exact sR <| a5.out))) (kJ (by exact sW HB.out))); replace a2 := rE a2 a1 hb; replace a3 := rE a3 a1 hb; replace a5 := rE a5 a1 hb; replace HB := hB HB hb; (try clear hb); (try clear a1); obtain ⟨eL, eC, rfl⟩ := Kd.R_slice a8.out) | (go_at_call 34; refine cD (laws_sameNodes.calls (sC (Kd.R_reads' a8.out).2.2) ((Kd.R_reads' a8.out).2.1) (sC (Kd.R_reads' a3.out).2.2) ((Kd.R_reads' a3.out).2.1) cI.out) fun nd => ?_))
    exact a9b
   replace H := am H
   obtain ⟨eK, eB, rfl⟩ := Kd.R_slice a3.out
   obtain ⟨eJ, eA, rfl⟩ := Kd.R_slice a5.out
   go_wp2_with (first | (go_at_call 34; refine cD (laws_sameNodes.calls (sC (Kd.R_reads' a3.out).2.2) ((Kd.R_reads' a3.out).2.1) (sC (Kd.R_reads' a5.out).2.2) ((Kd.R_reads' a5.out).2.1) bG.out) fun nd => ?_))
   exact a9b
  clear b1
  obtain ⟨kq, aM, rfl, HA, eI, a4, HB⟩ := hcut
  cases kq with
  | zero => cases HA.out
  | succ e6 =>
   obtain ⟨H⟩ := HA
   simp only [tC] at H
   replace H := iB H; rcases H with ⟨rfl, H⟩ | ⟨rfl, H⟩
   ·obtain rfl := oI H
    go_wp2
    go_ret
    exact ⟨rfl, sW HB.out⟩
   replace H := oA H; obtain ⟨cP, bF, H⟩ := H
   by_cases b3 : (a0.size : Int) = 0
   ·rw [if_pos b3] at H
    exact absurd H (by simp)
   rw [if_neg b3] at H
   have dK : ((a0.size : Int) == 0) = false := beq_eq_false_iff_ne.mpr b3
   have dJ : ((a0.size : Int) != 0) = true := bne_iff_ne.mpr b3
   generalize bI : Int.tmod cP (a0.size : Int) = e7 at H
   (try rw [bI] at bF)
   replace H := iTD H; obtain ⟨dI, dH, H⟩ := H
   replace H := iTD H; obtain ⟨dG, dF, H⟩ := H
   replace H := oA H; obtain ⟨⟨dX, a9, dW⟩, cH, H⟩ := H
   try dsimp only at H
   replace H := iP H; obtain ⟨b7, H⟩ := H
   have dE := eq_true b7
   have dD : decide (a0.size + 1 ≤ 9223372036854775807) = true := decide_eq_true b7
   try have dC : (9223372036854775807 < a0.size + 1) = False := eq_false (Nat.not_lt.2 b7)
   replace H := oA H; obtain ⟨⟨dV, aO, aN⟩, cG, H⟩ := H
   try dsimp only at H
   by_cases aU : (a0.size : Int) = 4000
   ·rw [if_pos aU] at H
    have bO : ((a0.size : Int) == 4000) = true := beq_iff_eq.mpr aU
    have bN : ((a0.size : Int) != 4000) = false := bne_eq_false_iff_eq.mpr aU
    clear aU
    replace H := oA H; obtain ⟨⟨dU, dT⟩, d2, H⟩ := H
    try dsimp only at H
    replace H := iP H; obtain ⟨cE, H⟩ := H
    have dB : decide (0 < (a0.size : Int)) = true := decide_eq_true cE
    have dA : decide (0 < a0.size) = true := decide_eq_true oM
    clear cE
    by_cases aT : (bt a0 0) = 40
    ·rw [if_pos aT] at H
     have bM : ((bt a0 0) == 40) = true := beq_iff_eq.mpr aT
     have bL : ((bt a0 0) != 40) = false := bne_eq_false_iff_eq.mpr aT
     clear aT
     by_cases aS : a9 = 0
     ·rw [if_pos aS] at H
      have bK : (a9 == 0) = true := beq_iff_eq.mpr aS
      have bJ : (a9 != 0) = false := bne_eq_false_iff_eq.mpr aS
      clear aS
      exact b4r
     rw [if_neg aS] at H
     have bK : (a9 == 0) = false := beq_eq_false_iff_ne.mpr aS
     have bJ : (a9 != 0) = true := bne_iff_ne.mpr aS
     exact c0y
    rw [if_neg aT] at H
    have bM : ((bt a0 0) == 40) = false := beq_eq_false_iff_ne.mpr aT
    have bL : ((bt a0 0) != 40) = true := bne_iff_ne.mpr aT
    exact c0y
   rw [if_neg aU] at H
   have bO : ((a0.size : Int) == 4000) = false := beq_eq_false_iff_ne.mpr aU
   have bN : ((a0.size : Int) != 4000) = true := bne_iff_ne.mpr aU
   replace H := oA H; obtain ⟨⟨dS, dQ⟩, d1, H⟩ := H
   try dsimp only at H
   replace H := iP H; obtain ⟨cC, H⟩ := H
   have d9 : decide (0 < (a0.size : Int)) = true := decide_eq_true cC
   have d8 : decide (0 < a0.size) = true := decide_eq_true oM
   clear cC
   by_cases aH : (bt a0 0) = 40
   ·rw [if_pos aH] at H
    have bD : ((bt a0 0) == 40) = true := beq_iff_eq.mpr aH
    have bC : ((bt a0 0) != 40) = false := bne_eq_false_iff_eq.mpr aH
    clear aH
    by_cases aG : a9 = 0
    ·rw [if_pos aG] at H
     have bB : (a9 == 0) = true := beq_iff_eq.mpr aG
     have bA : (a9 != 0) = false := bne_eq_false_iff_eq.mpr aG
     clear aG
     exact a9g
    rw [if_neg aG] at H
    have bB : (a9 == 0) = false := beq_eq_false_iff_ne.mpr aG
    have bA : (a9 != 0) = true := bne_iff_ne.mpr aG
    exact c1m
   rw [if_neg aH] at H
   have bD : ((bt a0 0) == 40) = false := beq_eq_false_iff_ne.mpr aH
   have bC : ((bt a0 0) != 40) = true := bne_iff_ne.mpr aH
   exact c1m
def laws_FnText.Pure : Prop := ∀ (l0 : List Int), l0.length ≤ maxLen → l0.length * 1 ≤ 140737488351232 → (∀ x ∈ l0, (Lit.int .u8 x).wf = true) → ∃ k, yS k l0 = some true
theorem laws_FnText.walk (P : laws_FnText.Pure) (a0 : Option Addr) (len0 cap0 : Nat) (z0 : List Int) (w : World) (w0 : (a0 = none ∧ len0 = 0 ∧ cap0 = 0 ∧ z0 = []) ∨ ∃ x, a0 = some x ∧ len0 ≤ cap0 ∧ cap0 ≤ maxLen ∧ z0.length = cap0 ∧ (∀ i, i < z0.length → w.cell? (x.add i) = some (.int .u8 (z0.getD i 0))) ∧ ∀ n ∈ z0, (Lit.int .u8 n).wf = true) (y0 : len0 * 1 ≤ 140737488351232) :
  Calls Try.prog 8 #[.slice a0 len0 cap0] w fun e w' => e = .returned (.bool true) ∧ Below w.heap.size w w' := by
 obtain ⟨l0, rfl, hr0, hm0, a1, hc0⟩ := a6l w0
 obtain ⟨k, h⟩ := P l0 hm0 y0 a1
 refine (laws_FnText.calls k _ _ l0 true w (Kd.C_of_reads (d := (0 : Int)) (h1 := fun _ => rfl) hr0) hc0 h).mono ?_
 rintro e w' ⟨rfl, hd⟩
 exact ⟨rfl, hd⟩
end Go.Proofs.Ytkpipmojkhikaaa.PAll
