/- Written by a program of this session over the loaded program, and by hand: Go functions as plain Lean functions, and that a call comes to what they say. -/
import Derived.Test.YtkpipmojkhikaaaVDenied0
import Derived.Test.YtkpipmojkhikaaaVDenied1
import Derived.Test.YtkpipmojkhikaaaVDenied3
import Derived.Test.YtkpipmojkhikaaaBase
import Derived.Test.YtkpipmojkhikaaaSq
namespace Go.Proofs.Ytkpipmojkhikaaa.PAll
open Go.RowKit Go.Proofs.YtkpipmojkhikaaaW.PrintWords Go.Proofs.YtkpipmojkhikaaaW.PrintLast Go.Proofs.YtkpipmojkhikaaaW.PrintMore Go.Proofs.YtkpipmojkhikaaaW.Sq
attribute [local go_sem] qZ qX sT sS qC qB qY qW
set_option linter.unusedVariables false
set_option maxHeartbeats 8000000
set_option maxRecDepth 100000
set_option linter.unusedSimpArgs false
mutual
def rQ : Nat → List (S31) → List (S31) → List Bool → List Int → Int → Option ((List (S31)))
 | 0, _, _, _, _, _ => none
 | k + 1, x0, x3, x4, x5, x6 => if x6 < (x0.length : Int) then (if x5.length < 17592186044416 then ((some (x5 ++ [(x3.length : Int)] : List Int)).bind fun a6 => (if 0 ≤ x6 then (if x6 < (x4.length : Int) then (if vU false x4 x6 = true then ((rW k ((kA x0 x6).f0) ((kA x0 x6).f1) ((kA x0 x6).f2) ((kA x0 x6).f3) ((kA x0 x6).f4) ((kA x0 x6).f5)).bind fun a7 => (if (a7.length : Int) > 0 then (if 0 ≤ ((kA x0 x6).f3) then (if ((kA x0 x6).f3) < (a6.length : Int) then (wF k x0 x3 x4 a6 x6 a7 ((kA x0 x6).f0) ((kA x0 x6).f1) ((kA x0 x6).f2) (rd a6 ((kA x0 x6).f3)) ((kA x0 x6).f4) ((kA x0 x6).f5)) else (none)) else (none)) else (wF k x0 x3 x4 a6 x6 a7 ((kA x0 x6).f0) ((kA x0 x6).f1) ((kA x0 x6).f2) ((kA x0 x6).f3) ((kA x0 x6).f4) ((kA x0 x6).f5)))) else (rQ k x0 x3 x4 a6 (wrap64 (x6 + 1)))) else (none)) else (none))) else (none)) else (some x3)
def wF : Nat → List (S31) → List (S31) → List Bool → List Int → Int → List Int → Int → Int → Int → Int → Int → Int → Option ((List (S31)))
 | 0, _, _, _, _, _, _, _, _, _, _, _, _ => none
 | k + 1, x0, x3, x4, x5, x6, x8, a5, a4, a3, a2, a1, a0 => if (x8.length : Int) > 1 then (if 0 ≤ a1 then (if a1 < (x5.length : Int) then (if (x8.length : Int) > 2 then (if 0 ≤ a0 then (if a0 < (x5.length : Int) then (if x3.length < 2932031007402 then (rQ k x0 (x3 ++ [(⟨a5, a4, a3, a2, rd x5 a1, rd x5 a0⟩ : S31)]) x4 x5 (wrap64 (x6 + 1))) else (none)) else (none)) else (none)) else (if x3.length < 2932031007402 then (rQ k x0 (x3 ++ [(⟨a5, a4, a3, a2, rd x5 a1, a0⟩ : S31)]) x4 x5 (wrap64 (x6 + 1))) else (none))) else (none)) else (none)) else (if (x8.length : Int) > 2 then (if 0 ≤ a0 then (if a0 < (x5.length : Int) then (if x3.length < 2932031007402 then (rQ k x0 (x3 ++ [(⟨a5, a4, a3, a2, a1, rd x5 a0⟩ : S31)]) x4 x5 (wrap64 (x6 + 1))) else (none)) else (none)) else (none)) else (if x3.length < 2932031007402 then (rQ k x0 (x3 ++ [(⟨a5, a4, a3, a2, a1, a0⟩ : S31)]) x4 x5 (wrap64 (x6 + 1))) else (none)))
end
def xX (k : Nat) (l0 : List (S31)) : Option ((List (S31))) := (some (([] : List (S31)) : List (S31))).bind fun a0 => ((sF k l0).bind fun a2 => (if a2 = true then ((uL k l0).bind fun a1 => (rQ k l0 a0 a1 (([] : List Int)) 0)) else (some a0)))
theorem spec_Prune.calls {k : Nat} {A0 : Option Addr} {c0 : Nat} {l0 r : List (S31)} {w : World} (hr0 : Kd.C k31 w A0 l0.length l0) (hc0 : l0.length ≤ c0) (h : xX k l0 = some r) :
  Calls Try.prog 49 #[.slice A0 l0.length c0] w fun e w' => ∃ cX : Value, e = .returned (cX) ∧ Kd.R k31 31 w' w.heap.size (fun _ => True) cX r ∧ Below w.heap.size w w' := by
 have hu31 := Try.underlying31
 have bM := am hr0
 have bT := am hc0
 clear hr0 hc0
 have HB := am (Below.refl w.heap.size w)
 have H := h
 clear h
 unfold xX at H
 replace H := oS H; obtain ⟨d7, bJ, H⟩ := H
 replace H := oA H; obtain ⟨e8, A2, H⟩ := H
 replace H := iB H; rcases H with ⟨rfl, H⟩ | ⟨rfl, H⟩
 rotate_left
 ·obtain rfl := oI H
  go_enter Try.func49, Try.ntmps49
  go_wp2_with (first | ((with_reducible refine gW ?_); first | (refine lE k31 31 9 ?_; intro d9 w58 b8 hb; (rw [← bJ.out] at b8); have aC := rL b8 HB; replace HB := hB HB hb; clear hb b8) | (refine gF 13 (some 11) rfl ?_; refine gS Try.func13 (spec_TermOk.calls (sC (Kd.C_below bM.out HB.out)) bT.out A2.out) ?_; rintro w60 hb; replace aC := rB aC hb; replace HB := hB HB hb; (try clear hb))))
  go_ret
  exact ⟨_, rfl, sR <| aC.out, sW HB.out⟩
 replace H := oA H; obtain ⟨aI, A4, H⟩ := H
 generalize bF : ([] : List Int) = d6 at H
 have cN := am bF.symm; clear bF
 replace H := am H
 go_enter Try.func49, Try.ntmps49
 go_wp2_with (first | ((with_reducible refine gW ?_); first | (refine lE k31 31 9 ?_; intro d9 w5 bR hb; (rw [← bJ.out] at bR); have aC := rL bR HB; replace HB := hB HB hb; clear hb bR) | (refine gF 13 (some 11) rfl ?_; refine gS Try.func13 (spec_TermOk.calls (sC (Kd.C_below bM.out HB.out)) bT.out A2.out) ?_; rintro w7 hb; replace aC := rB aC hb; replace HB := hB HB hb; (try clear hb)) | (refine gF 80 (some 15) rfl ?_; refine gT Try.func80 (spec_l02Reach.calls (sC (Kd.C_below bM.out HB.out)) bT.out A4.out) ?_; rintro d8 w8 ⟨aX, hb⟩; replace aC := rB aC hb; have b4 := rL aX HB; replace HB := hB HB hb; (try clear hb); (try clear aX)) | (refine lE (Kd.int .i64) 3 16 ?_; intro e7 w9 b9 hb; (rw [← cN.out] at b9); replace aC := rB aC hb; replace b4 := rB b4 hb; have cW := rL b9 HB; replace HB := hB HB hb; clear hb b9)))
 go_loopg [3, 5, 6] k (fun kq v3 v5 v6 w' => ∃ (a9 : List (S31)) (aT : List Int) (a0 : Int), v6 = .int .i64 a0 ∧ Aside0 (rQ kq l0 a9 aI aT a0 = some r) ∧ Aside0 (kq ≤ k) ∧ Aside0 (Kd.R k31 31 w' w.heap.size (fun _ => True) v3 a9) ∧ Aside0 (Kd.R Kd.bool 4 w' w.heap.size (fun _ => True) d8 aI) ∧ Aside0 (Kd.R (Kd.int .i64) 3 w' w.heap.size (fun _ => True) v5 aT) ∧ Aside0 (Below w.heap.size w w'))
 case atStart => exact ⟨d7, d6, 0, rfl, H, ⟨Nat.le_refl _⟩, ⟨sR <| aC.out⟩, ⟨sR <| b4.out⟩, ⟨sR <| cW.out⟩, ⟨sW HB.out⟩⟩
 clear H
 obtain ⟨a9, aT, a0, rfl, HA, aD, a4, a7, a6, HB⟩ := hrel
 cases gk with
 | zero => cases HA.out
 | succ k1 =>
  obtain ⟨H⟩ := HA
  simp only [rQ] at H
  replace H := iD H; rcases H with ⟨bG, H⟩ | ⟨bG, H⟩
  rotate_left
  ·obtain rfl := oI H
   go_wp2
   go_ret
   exact ⟨_, rfl, sR <| a4.out, sW HB.out⟩
  replace H := iP H; obtain ⟨d1, H⟩ := H
  have bL := am d1
  clear d1
  replace H := oS H; obtain ⟨a3, bI, H⟩ := H
  replace H := iN H; obtain ⟨cH, H⟩ := H
  replace H := iN H; obtain ⟨cG, H⟩ := H
  generalize hbq15 : vU false aI a0 = eJ at H
  have bK := am hbq15.symm; clear hbq15
  replace H := iB H; rcases H with ⟨rfl, H⟩ | ⟨rfl, H⟩
  rotate_left
  ·replace H := am H
   obtain ⟨eL, eE, rfl⟩ := Kd.R_slice a4.out
   go_wp2_with (first | ((with_reducible refine kW (b := .append) (xs := #[.tmp 23, .tmp 26]) rfl ?_); at_builtin; refine Kd.R_append (Kd.int .i64) (w0 := w) w.heap.size rfl (.tmp 23) (.tmp 26) 25 3 (.int .i64 0) 8 rfl Try.underlying25 a0u rfl (by decide) oM u5 aT (a9.length : Int) [.int .i64 (a9.length : Int)] (fun _ => True) (fun _ => False) rfl rfl ?aP (fun _ hk => hk.elim) ?aF ?aO ?aB ?aS ?aL ?_; (case aP => exact rfl); (case aB => exact (by exact sW HB.out)); (case aF => exact (fun _ _ => trivial)); (case aO => exact (by exact sR <| a6.out)); (case aS => exact (kE (by exact sW HB.out))); (case aL => have := bL.out; omega); intro b5 w56 ho hb hg hat; rw [← bI.out] at ho; replace a4 := oV a4 a6 hg; replace a7 := oV a7 a6 hg; replace HB := am hb; have aA := am ho; clear a6; clear ho hb hg hat; obtain ⟨eK, eD, rfl⟩ := Kd.R_slice a7.out; obtain ⟨bQ, bP, bH, rfl, aH⟩ := ix (Kd.at_bool (Kd.R_reads' a7.out).2.2 a0); (try rw [← bK.out] at aH)))
   go_roundg k1
   case measure => have := aD.out; omega
   case rel => exact ⟨a9, a3, (wrap64 (a0 + 1)), rfl, H, ⟨by have := aD.out; omega⟩, ⟨sR <| a4.out⟩, ⟨sR <| a7.out⟩, ⟨sR <| aA.out⟩, ⟨sW HB.out⟩⟩
  replace H := oA H; obtain ⟨a8, dO, H⟩ := H
  have bA := am H; clear H
  obtain ⟨aV, aU, rfl⟩ := Kd.R_slice a4.out
  go_upto_if 41 with (first | ((with_reducible refine gW ?_); first | ((with_reducible refine kW (b := .append) (xs := #[.tmp 23, .tmp 26]) rfl ?_); at_builtin; refine Kd.R_append (Kd.int .i64) (w0 := w) w.heap.size rfl (.tmp 23) (.tmp 26) 25 3 (.int .i64 0) 8 rfl Try.underlying25 a0u rfl (by decide) oM u5 aT (a9.length : Int) [.int .i64 (a9.length : Int)] (fun _ => True) (fun _ => False) rfl rfl ?aP (fun _ hk => hk.elim) ?aF ?aO ?aB ?aS ?aL ?_; (case aP => exact rfl); (case aB => exact (by exact sW HB.out)); (case aF => exact (fun _ _ => trivial)); (case aO => exact (by exact sR <| a6.out)); (case aS => exact (kE (by exact sW HB.out))); (case aL => have := bL.out; omega); intro b5 w20 ho hb hg hat; rw [← bI.out] at ho; replace a4 := oV a4 a6 hg; replace a7 := oV a7 a6 hg; replace HB := am hb; have aA := am ho; clear a6; clear ho hb hg hat; obtain ⟨eQ, dF, rfl⟩ := Kd.R_slice a7.out; obtain ⟨bQ, bP, bH, rfl, aH⟩ := ix (Kd.at_bool (Kd.R_reads' a7.out).2.2 a0); (try rw [← bK.out] at aH); obtain ⟨dD, dB, d_, rfl, aR, aQ, aN, aM, aK, aJ⟩ := ix (oZ bM.out a0); replace aR := kC HB.out aR; replace aQ := kC HB.out aQ; replace aN := kC HB.out aN; replace aM := kC HB.out aM; replace aK := kC HB.out aK; replace aJ := kC HB.out aJ) | ((with_reducible refine qF (N := 7) rfl ?_); refine wT ?hg (N := 7) ?hd (cs := #[.int .i64 0, .int .i64 0, .int .i64 0, .int .i64 0, .int .i64 0, .int .i64 0]) (t := 31) ?hr ?_; (case hd => rfl); (case hg => rfl); (case hr => first | (go_simp; done) | (go_simp; rfl)); intro a5 hg w22 hbox hb; replace a4 := am (Kd.R_below (Kd.R_elderB (by exact sR <| a4.out) a5 (Nat.le_of_eq hg.symm)) hb); replace a7 := rB a7 hb; replace aA := rB aA hb; have a2 := am hbox; have e0 := gw hg; have e1 := gw hg; replace HB := hB HB hb; clear hb hbox hg; have bO := cf6 a2.out) | (refine gF 70 (some 38) rfl ?_; refine gT Try.func70 (spec_Parts.calls dO.out) ?_; rintro e6 w24 ⟨aX, hb⟩; replace a4 := am (Kd.R_below (by exact sR <| (rm (rf 5 (rf 4 (rf 3 (rf 2 (rf 1 (rf 0 (rp a4))))))))) hb); replace a7 := am (Kd.R_below (by exact sR <| (rm (rf 5 (rf 4 (rf 3 (rf 2 (rf 1 (rf 0 (ry a7 a2))))))))) hb); have b3 := am (Kd.R_lower (Kd.R_new' aX (Kd.R_lt (by exact sR <| (rm (rf 5 (rf 4 (rf 3 (rf 2 (rf 1 (rf 0 (ry aA a2))))))))))) (kE (by exact bW))); replace aA := am (Kd.R_elder' (by exact sR <| (rm (rf 5 (rf 4 (rf 3 (rf 2 (rf 1 (rf 0 (ry aA a2))))))))) (Kd.R_base aX) hb); replace a2 := am (kM (by exact sB <| pn (by exact sB <| a2.out)) hb); replace HB := hX hb; obtain ⟨bU, bS, rfl⟩ := Kd.R_slice b3.out))); clear hb aX
  (try simp only [Act.put, List.setIfInBounds_toArray, List.set_cons_zero, List.set_cons_succ])
  go_cut [] (fun wc => ∃ (kq : Nat) (a1 : Int), Aside0 (wF kq l0 a9 aI a3 a0 a8 ((kA l0 a0).f0) ((kA l0 a0).f1) ((kA l0 a0).f2) a1 ((kA l0 a0).f4) ((kA l0 a0).f5) = some r) ∧ Aside0 (kq ≤ k1) ∧ Aside0 (Kd.R k31 31 wc w.heap.size (fun k_ => k_ ≠ a5) (.slice aV a9.length aU) a9) ∧ Aside0 (Kd.R Kd.bool 4 wc w.heap.size (fun _ => True) (.slice (some bH) aI.length dF) aI) ∧ Aside0 (Kd.R (Kd.int .i64) 3 wc w.heap.size (fun k_ => some k_ ≠ ((.slice bU a8.length bS) : Value).ownBlock) b5 a3) ∧ Aside0 (Kd.R (Kd.int .i64) 3 wc w.heap.size (fun k_ => some k_ ≠ (b5 : Value).ownBlock) (.slice bU a8.length bS) a8) ∧ Aside0 (wc.heap[a5]? = some (.cells #[.int .i64 ((kA l0 a0).f0), .int .i64 ((kA l0 a0).f1), .int .i64 ((kA l0 a0).f2), .int .i64 a1, .int .i64 ((kA l0 a0).f4), .int .i64 ((kA l0 a0).f5)] 31 (0, 0))) ∧ Aside0 (Below w.heap.size w wc))
  case first =>
   have H := bA.out
   clear bA
   by_cases b0 : (a8.length : Int) > 0
   ·rw [if_pos b0] at H
    have cF : decide (0 < (a8.length : Int)) = true := decide_eq_true b0
    have cE : decide (0 < a8.length) = true := decide_eq_true oM
    have dG : 0 < a8.length := by omega
    clear b0
    replace H := iN H; obtain ⟨dX, H⟩ := H
    replace H := iN H; obtain ⟨dW, H⟩ := H
    replace H := am H
    have dN := cf6 a2.out
    obtain ⟨eP, eI, rfl⟩ := Kd.R_slice aA.out
    obtain ⟨eC, eA, dZ, rfl, dI⟩ := ix (Kd.at_int (Kd.R_reads' aA.out).2.2 ((kA l0 a0).f3))
    go_wp2
    go_meet
    case rel => exact ⟨_, (rd a3 ((kA l0 a0).f3)), H, ⟨by have := aD.out; omega⟩, ⟨sR <| Kd.R_mono (Kd.R_far (p := ⟨a5, 3, none⟩) (Kd.R_mono a4.out (fun k_ hk => (⟨hk, hk.2⟩ : _ ∧ k_ ≠ a5))) (fun _ hk => hk.2) (.int .i64 (rd a3 ((kA l0 a0).f3)))) (fun _ hk => hk.1.2)⟩, ⟨sR <| Kd.R_mono (Kd.R_far (p := ⟨a5, 3, none⟩) (Kd.R_types a7.out a2.out (by decide)) (fun _ hk => hk.2) (.int .i64 (rd a3 ((kA l0 a0).f3)))) (fun _ hk => trivial)⟩, ⟨sR <| Kd.R_mono (Kd.R_far (p := ⟨a5, 3, none⟩) (Kd.R_types aA.out a2.out (by decide)) (fun _ hk => hk.2) (.int .i64 (rd a3 ((kA l0 a0).f3)))) (fun _ hk => hk.1.2)⟩, ⟨sR <| Kd.R_mono (Kd.R_far (p := ⟨a5, 3, none⟩) (Kd.R_types b3.out a2.out (by decide)) (fun _ hk => hk.2) (.int .i64 (rd a3 ((kA l0 a0).f3)))) (fun _ hk => hk.1.2)⟩, ⟨by (with_reducible repeat (first | refine pG ?_ _ | refine pB ?_ | refine pD ?_ _)); refine pN (cs := #[.int .i64 ((kA l0 a0).f0), .int .i64 ((kA l0 a0).f1), .int .i64 ((kA l0 a0).f2), .int .i64 ((kA l0 a0).f3), .int .i64 ((kA l0 a0).f4), .int .i64 ((kA l0 a0).f5)]) ?_ 3 _ rfl; exact sB <| a2.out⟩, ⟨bW⟩⟩
   rw [if_neg b0] at H
   have cF : decide (0 < (a8.length : Int)) = false := decide_eq_false b0
   have cE : decide (0 < a8.length) = false := decide_eq_false oM
   have dG : ¬ 0 < a8.length := by omega
   clear b0
   replace H := am H
   go_wp2
   go_meet
   case rel => exact ⟨_, ((kA l0 a0).f3), H, ⟨by have := aD.out; omega⟩, ⟨sR <| Kd.R_mono a4.out (fun _ hk => hk.2)⟩, ⟨sR <| a7.out⟩, ⟨sR <| Kd.R_mono aA.out (fun _ hk => hk.2)⟩, ⟨sR <| Kd.R_mono b3.out (fun _ hk => hk.2)⟩, ⟨sB <| a2.out⟩, ⟨bW⟩⟩
  clear bA
  clear bG cH cG bO aH aR aQ aN aM aK aJ bQ dD bP dB
  obtain ⟨kq, a1, HA, aG, a4, a7, a6, aE, a2, HB⟩ := hcut
  cases kq with
  | zero => cases HA.out
  | succ b1 =>
   obtain ⟨H⟩ := HA
   simp only [wF] at H
   by_cases a_ : (a8.length : Int) > 1
   ·rw [if_pos a_] at H
    have cC : decide (1 < (a8.length : Int)) = true := decide_eq_true a_
    have cB : decide (1 < a8.length) = true := decide_eq_true oM
    clear a_
    replace H := iN H; obtain ⟨dV, H⟩ := H
    replace H := iN H; obtain ⟨dU, H⟩ := H
    by_cases aZ : (a8.length : Int) > 2
    ·rw [if_pos aZ] at H
     have c1 : decide (2 < (a8.length : Int)) = true := decide_eq_true aZ
     have b_ : decide (2 < a8.length) = true := decide_eq_true oM
     clear aZ
     replace H := iN H; obtain ⟨dT, H⟩ := H
     replace H := iN H; obtain ⟨dS, H⟩ := H
     replace H := iP H; obtain ⟨d0, H⟩ := H
     have cR := am d0
     clear d0
     generalize bE : a9 ++ [(⟨((kA l0 a0).f0), ((kA l0 a0).f1), ((kA l0 a0).f2), a1, rd a3 ((kA l0 a0).f4), rd a3 ((kA l0 a0).f5)⟩ : S31)] = d5 at H
     have cM := am bE.symm; clear bE
     replace H := am H
     have dM := cf6 a2.out
     obtain ⟨eO, eH, rfl⟩ := Kd.R_slice a6.out
     obtain ⟨dC, dA, b2, rfl, bN⟩ := ix (Kd.at_int (Kd.R_reads' a6.out).2.2 ((kA l0 a0).f4))
     have b7 : 0 ≤ (((kA l0 a0).f5) : Int) := oD (by assumption)
     have b6 : ((kA l0 a0).f5) < (a3.length : Int) := oD (by assumption)
     obtain ⟨cI, dE, aW⟩ := Kd.at_int (Kd.R_reads' a6.out).2.2 ((kA l0 a0).f5) b7 b6
     obtain rfl : b2 = cI := (by injection dE)
     have hn804_0 : b2.block ≠ a5 := Kd.own_blk (Kd.R_ne a6.out a2.out (by decide))
     replace aW := (kH (p := ⟨a5, 4, none⟩) (by (rw [kF]; exact hn804_0)) (.int .i64 (rd a3 ((kA l0 a0).f4)))).trans aW
     clear hn804_0
     replace b7 := eq_true b7
     replace b6 := eq_true b6
     go_wp2_with (first | ((with_reducible refine kW (b := .append) (xs := #[.tmp 66, .tmp 68]) rfl ?_); at_builtin; refine Kd.R_append k31 (w0 := w) w.heap.size rfl (.tmp 66) (.tmp 68) 24 31 (.agg #[(.int .i64 0), (.int .i64 0), (.int .i64 0), (.int .i64 0), (.int .i64 0), (.int .i64 0)]) 48 rfl Try.underlying24 xL rfl (by decide) oM (.slice aV a9.length aU) a9 (⟨((kA l0 a0).f0), ((kA l0 a0).f1), ((kA l0 a0).f2), a1, rd a3 ((kA l0 a0).f4), rd a3 ((kA l0 a0).f5)⟩ : S31) [.int .i64 ((kA l0 a0).f0), .int .i64 ((kA l0 a0).f1), .int .i64 ((kA l0 a0).f2), .int .i64 a1, .int .i64 (rd a3 ((kA l0 a0).f4)), .int .i64 (rd a3 ((kA l0 a0).f5))] (fun k_ => k_ ≠ a5) (fun _ => False) rfl (by (go_simp; done)) ?aP (fun _ hk => hk.elim) ?aF ?aO ?aB ?aS ?aL ?_; (case aP => exact vV _ _ _ (⟨((kA l0 a0).f0), ((kA l0 a0).f1), ((kA l0 a0).f2), a1, rd a3 ((kA l0 a0).f4), rd a3 ((kA l0 a0).f5)⟩ : S31)); (case aB => exact (by exact bW)); (case aF => exact (fun k_ hk => Kd.freshB (g := a5) (o := .cells #[.int .i64 ((kA l0 a0).f0), .int .i64 ((kA l0 a0).f1), .int .i64 ((kA l0 a0).f2), .int .i64 a1, .int .i64 (rd a3 ((kA l0 a0).f4)), .int .i64 (rd a3 ((kA l0 a0).f5))] 31 (0, 0)) (by (with_reducible repeat (first | refine pG ?_ _ | refine pB ?_ | refine pD ?_ _)); refine pN (cs := #[.int .i64 ((kA l0 a0).f0), .int .i64 ((kA l0 a0).f1), .int .i64 ((kA l0 a0).f2), .int .i64 a1, .int .i64 (rd a3 ((kA l0 a0).f4)), .int .i64 ((kA l0 a0).f5)]) ?_ 5 _ rfl; (with_reducible repeat (first | refine pG ?_ _ | refine pB ?_ | refine pD ?_ _)); refine pN (cs := #[.int .i64 ((kA l0 a0).f0), .int .i64 ((kA l0 a0).f1), .int .i64 ((kA l0 a0).f2), .int .i64 a1, .int .i64 ((kA l0 a0).f4), .int .i64 ((kA l0 a0).f5)]) ?_ 4 _ rfl; exact sB <| a2.out) k_ hk)); (case aO => exact (by exact sR <| Kd.R_mono (Kd.R_far (p := ⟨a5, 5, none⟩) (Kd.R_far (p := ⟨a5, 4, none⟩) (Kd.R_mono a4.out (fun k_ hk => (⟨hk, hk⟩ : _ ∧ k_ ≠ a5))) (fun _ hk => hk.2) (.int .i64 (rd a3 ((kA l0 a0).f4)))) (fun _ hk => hk.2) (.int .i64 (rd a3 ((kA l0 a0).f5)))) (fun _ hk => hk.1))); (case aS => exact (kE (by exact bW))); (case aL => have := cR.out; omega); intro e5 w40 ho hb hg hat; rw [← cM.out] at ho; replace a7 := am (Kd.R_over' (by exact sR <| (rm (rf 5 (rf 4 (ry a7 a2))))) (Kd.R_typed (by exact sR <| (rm (rf 5 (rf 4 (rq a4)))))) (by decide) hg); replace a6 := am (Kd.R_over' (by exact sR <| (rm (rf 5 (rf 4 (ry a6 a2))))) (Kd.R_typed (by exact sR <| (rm (rf 5 (rf 4 (rq a4)))))) (by decide) hg); replace aE := am (Kd.R_over' (by exact sR <| (rm (rf 5 (rf 4 (ry aE a2))))) (Kd.R_typed (by exact sR <| (rm (rf 5 (rf 4 (rq a4)))))) (by decide) hg); replace a2 := am (tF (g := a5) (o := .cells #[.int .i64 ((kA l0 a0).f0), .int .i64 ((kA l0 a0).f1), .int .i64 ((kA l0 a0).f2), .int .i64 a1, .int .i64 (rd a3 ((kA l0 a0).f4)), .int .i64 (rd a3 ((kA l0 a0).f5))] 31 (0, 0)) (by (with_reducible repeat (first | refine pG ?_ _ | refine pB ?_ | refine pD ?_ _)); refine pN (cs := #[.int .i64 ((kA l0 a0).f0), .int .i64 ((kA l0 a0).f1), .int .i64 ((kA l0 a0).f2), .int .i64 a1, .int .i64 (rd a3 ((kA l0 a0).f4)), .int .i64 ((kA l0 a0).f5)]) ?_ 5 _ rfl; (with_reducible repeat (first | refine pG ?_ _ | refine pB ?_ | refine pD ?_ _)); refine pN (cs := #[.int .i64 ((kA l0 a0).f0), .int .i64 ((kA l0 a0).f1), .int .i64 ((kA l0 a0).f2), .int .i64 a1, .int .i64 ((kA l0 a0).f4), .int .i64 ((kA l0 a0).f5)]) ?_ 4 _ rfl; exact sB <| a2.out) hg (Kd.R_away a4.out (fun _ hk => hk))); replace HB := am hb; have cV := am ho; clear a4; clear ho hb hg hat))
     go_roundg b1
     case measure => have := aD.out; have := aG.out; omega
     case rel => exact ⟨d5, a3, (wrap64 (a0 + 1)), rfl, H, ⟨by have := aD.out; have := aG.out; omega⟩, ⟨sR <| Kd.R_mono cV.out (fun _ hk => trivial)⟩, ⟨sR <| a7.out⟩, ⟨sR <| Kd.R_mono a6.out (fun _ hk => trivial)⟩, ⟨bW⟩⟩
    rw [if_neg aZ] at H
    have c1 : decide (2 < (a8.length : Int)) = false := decide_eq_false aZ
    have b_ : decide (2 < a8.length) = false := decide_eq_false oM
    clear aZ
    replace H := iP H; obtain ⟨c_, H⟩ := H
    have cQ := am c_
    clear c_
    generalize bD : a9 ++ [(⟨((kA l0 a0).f0), ((kA l0 a0).f1), ((kA l0 a0).f2), a1, rd a3 ((kA l0 a0).f4), ((kA l0 a0).f5)⟩ : S31)] = d4 at H
    have cL := am bD.symm; clear bD
    replace H := am H
    have dL := cf6 a2.out
    obtain ⟨eN, eG, rfl⟩ := Kd.R_slice a6.out
    obtain ⟨dC, dA, b2, rfl, bN⟩ := ix (Kd.at_int (Kd.R_reads' a6.out).2.2 ((kA l0 a0).f4))
    go_wp2_with (first | ((with_reducible refine kW (b := .append) (xs := #[.tmp 66, .tmp 68]) rfl ?_); at_builtin; refine Kd.R_append k31 (w0 := w) w.heap.size rfl (.tmp 66) (.tmp 68) 24 31 (.agg #[(.int .i64 0), (.int .i64 0), (.int .i64 0), (.int .i64 0), (.int .i64 0), (.int .i64 0)]) 48 rfl Try.underlying24 xL rfl (by decide) oM (.slice aV a9.length aU) a9 (⟨((kA l0 a0).f0), ((kA l0 a0).f1), ((kA l0 a0).f2), a1, rd a3 ((kA l0 a0).f4), ((kA l0 a0).f5)⟩ : S31) [.int .i64 ((kA l0 a0).f0), .int .i64 ((kA l0 a0).f1), .int .i64 ((kA l0 a0).f2), .int .i64 a1, .int .i64 (rd a3 ((kA l0 a0).f4)), .int .i64 ((kA l0 a0).f5)] (fun k_ => k_ ≠ a5) (fun _ => False) rfl (by (go_simp; done)) ?aP (fun _ hk => hk.elim) ?aF ?aO ?aB ?aS ?aL ?_; (case aP => exact vV _ _ _ (⟨((kA l0 a0).f0), ((kA l0 a0).f1), ((kA l0 a0).f2), a1, rd a3 ((kA l0 a0).f4), ((kA l0 a0).f5)⟩ : S31)); (case aB => exact (by exact bW)); (case aF => exact (fun k_ hk => Kd.freshB (g := a5) (o := .cells #[.int .i64 ((kA l0 a0).f0), .int .i64 ((kA l0 a0).f1), .int .i64 ((kA l0 a0).f2), .int .i64 a1, .int .i64 (rd a3 ((kA l0 a0).f4)), .int .i64 ((kA l0 a0).f5)] 31 (0, 0)) (by (with_reducible repeat (first | refine pG ?_ _ | refine pB ?_ | refine pD ?_ _)); refine pN (cs := #[.int .i64 ((kA l0 a0).f0), .int .i64 ((kA l0 a0).f1), .int .i64 ((kA l0 a0).f2), .int .i64 a1, .int .i64 ((kA l0 a0).f4), .int .i64 ((kA l0 a0).f5)]) ?_ 4 _ rfl; exact sB <| a2.out) k_ hk)); (case aO => exact (by exact sR <| Kd.R_mono (Kd.R_far (p := ⟨a5, 4, none⟩) (Kd.R_mono a4.out (fun k_ hk => (⟨hk, hk⟩ : _ ∧ k_ ≠ a5))) (fun _ hk => hk.2) (.int .i64 (rd a3 ((kA l0 a0).f4)))) (fun _ hk => hk.1))); (case aS => exact (kE (by exact bW))); (case aL => have := cQ.out; omega); intro e4 w44 ho hb hg hat; rw [← cL.out] at ho; replace a7 := am (Kd.R_over' (by exact sR <| (rm (rf 4 (ry a7 a2)))) (Kd.R_typed (by exact sR <| (rm (rf 4 (rq a4))))) (by decide) hg); replace a6 := am (Kd.R_over' (by exact sR <| (rm (rf 4 (ry a6 a2)))) (Kd.R_typed (by exact sR <| (rm (rf 4 (rq a4))))) (by decide) hg); replace aE := am (Kd.R_over' (by exact sR <| (rm (rf 4 (ry aE a2)))) (Kd.R_typed (by exact sR <| (rm (rf 4 (rq a4))))) (by decide) hg); replace a2 := am (tF (g := a5) (o := .cells #[.int .i64 ((kA l0 a0).f0), .int .i64 ((kA l0 a0).f1), .int .i64 ((kA l0 a0).f2), .int .i64 a1, .int .i64 (rd a3 ((kA l0 a0).f4)), .int .i64 ((kA l0 a0).f5)] 31 (0, 0)) (by (with_reducible repeat (first | refine pG ?_ _ | refine pB ?_ | refine pD ?_ _)); refine pN (cs := #[.int .i64 ((kA l0 a0).f0), .int .i64 ((kA l0 a0).f1), .int .i64 ((kA l0 a0).f2), .int .i64 a1, .int .i64 ((kA l0 a0).f4), .int .i64 ((kA l0 a0).f5)]) ?_ 4 _ rfl; exact sB <| a2.out) hg (Kd.R_away a4.out (fun _ hk => hk))); replace HB := am hb; have cU := am ho; clear a4; clear ho hb hg hat))
    go_roundg b1
    case measure => have := aD.out; have := aG.out; omega
    case rel => exact ⟨d4, a3, (wrap64 (a0 + 1)), rfl, H, ⟨by have := aD.out; have := aG.out; omega⟩, ⟨sR <| Kd.R_mono cU.out (fun _ hk => trivial)⟩, ⟨sR <| a7.out⟩, ⟨sR <| Kd.R_mono a6.out (fun _ hk => trivial)⟩, ⟨bW⟩⟩
   rw [if_neg a_] at H
   have cC : decide (1 < (a8.length : Int)) = false := decide_eq_false a_
   have cB : decide (1 < a8.length) = false := decide_eq_false oM
   clear a_
   by_cases aY : (a8.length : Int) > 2
   ·rw [if_pos aY] at H
    have bZ : decide (2 < (a8.length : Int)) = true := decide_eq_true aY
    have bV : decide (2 < a8.length) = true := decide_eq_true oM
    clear aY
    replace H := iN H; obtain ⟨dQ, H⟩ := H
    replace H := iN H; obtain ⟨dP, H⟩ := H
    replace H := iP H; obtain ⟨cZ, H⟩ := H
    have cP := am cZ
    clear cZ
    generalize bC : a9 ++ [(⟨((kA l0 a0).f0), ((kA l0 a0).f1), ((kA l0 a0).f2), a1, ((kA l0 a0).f4), rd a3 ((kA l0 a0).f5)⟩ : S31)] = d3 at H
    have cK := am bC.symm; clear bC
    replace H := am H
    have dK := cf6 a2.out
    obtain ⟨eM, eF, rfl⟩ := Kd.R_slice a6.out
    obtain ⟨eB, e9, dY, rfl, dH⟩ := ix (Kd.at_int (Kd.R_reads' a6.out).2.2 ((kA l0 a0).f5))
    go_wp2_with (first | ((with_reducible refine kW (b := .append) (xs := #[.tmp 66, .tmp 68]) rfl ?_); at_builtin; refine Kd.R_append k31 (w0 := w) w.heap.size rfl (.tmp 66) (.tmp 68) 24 31 (.agg #[(.int .i64 0), (.int .i64 0), (.int .i64 0), (.int .i64 0), (.int .i64 0), (.int .i64 0)]) 48 rfl Try.underlying24 xL rfl (by decide) oM (.slice aV a9.length aU) a9 (⟨((kA l0 a0).f0), ((kA l0 a0).f1), ((kA l0 a0).f2), a1, ((kA l0 a0).f4), rd a3 ((kA l0 a0).f5)⟩ : S31) [.int .i64 ((kA l0 a0).f0), .int .i64 ((kA l0 a0).f1), .int .i64 ((kA l0 a0).f2), .int .i64 a1, .int .i64 ((kA l0 a0).f4), .int .i64 (rd a3 ((kA l0 a0).f5))] (fun k_ => k_ ≠ a5) (fun _ => False) rfl (by (go_simp; done)) ?aP (fun _ hk => hk.elim) ?aF ?aO ?aB ?aS ?aL ?_; (case aP => exact vV _ _ _ (⟨((kA l0 a0).f0), ((kA l0 a0).f1), ((kA l0 a0).f2), a1, ((kA l0 a0).f4), rd a3 ((kA l0 a0).f5)⟩ : S31)); (case aB => exact (by exact bW)); (case aF => exact (fun k_ hk => Kd.freshB (g := a5) (o := .cells #[.int .i64 ((kA l0 a0).f0), .int .i64 ((kA l0 a0).f1), .int .i64 ((kA l0 a0).f2), .int .i64 a1, .int .i64 ((kA l0 a0).f4), .int .i64 (rd a3 ((kA l0 a0).f5))] 31 (0, 0)) (by (with_reducible repeat (first | refine pG ?_ _ | refine pB ?_ | refine pD ?_ _)); refine pN (cs := #[.int .i64 ((kA l0 a0).f0), .int .i64 ((kA l0 a0).f1), .int .i64 ((kA l0 a0).f2), .int .i64 a1, .int .i64 ((kA l0 a0).f4), .int .i64 ((kA l0 a0).f5)]) ?_ 5 _ rfl; exact sB <| a2.out) k_ hk)); (case aO => exact (by exact sR <| Kd.R_mono (Kd.R_far (p := ⟨a5, 5, none⟩) (Kd.R_mono a4.out (fun k_ hk => (⟨hk, hk⟩ : _ ∧ k_ ≠ a5))) (fun _ hk => hk.2) (.int .i64 (rd a3 ((kA l0 a0).f5)))) (fun _ hk => hk.1))); (case aS => exact (kE (by exact bW))); (case aL => have := cP.out; omega); intro e3 w51 ho hb hg hat; rw [← cK.out] at ho; replace a7 := am (Kd.R_over' (by exact sR <| (rm (rf 5 (ry a7 a2)))) (Kd.R_typed (by exact sR <| (rm (rf 5 (rq a4))))) (by decide) hg); replace a6 := am (Kd.R_over' (by exact sR <| (rm (rf 5 (ry a6 a2)))) (Kd.R_typed (by exact sR <| (rm (rf 5 (rq a4))))) (by decide) hg); replace aE := am (Kd.R_over' (by exact sR <| (rm (rf 5 (ry aE a2)))) (Kd.R_typed (by exact sR <| (rm (rf 5 (rq a4))))) (by decide) hg); replace a2 := am (tF (g := a5) (o := .cells #[.int .i64 ((kA l0 a0).f0), .int .i64 ((kA l0 a0).f1), .int .i64 ((kA l0 a0).f2), .int .i64 a1, .int .i64 ((kA l0 a0).f4), .int .i64 (rd a3 ((kA l0 a0).f5))] 31 (0, 0)) (by (with_reducible repeat (first | refine pG ?_ _ | refine pB ?_ | refine pD ?_ _)); refine pN (cs := #[.int .i64 ((kA l0 a0).f0), .int .i64 ((kA l0 a0).f1), .int .i64 ((kA l0 a0).f2), .int .i64 a1, .int .i64 ((kA l0 a0).f4), .int .i64 ((kA l0 a0).f5)]) ?_ 5 _ rfl; exact sB <| a2.out) hg (Kd.R_away a4.out (fun _ hk => hk))); replace HB := am hb; have cT := am ho; clear a4; clear ho hb hg hat))
    go_roundg b1
    case measure => have := aD.out; have := aG.out; omega
    case rel => exact ⟨d3, a3, (wrap64 (a0 + 1)), rfl, H, ⟨by have := aD.out; have := aG.out; omega⟩, ⟨sR <| Kd.R_mono cT.out (fun _ hk => trivial)⟩, ⟨sR <| a7.out⟩, ⟨sR <| Kd.R_mono a6.out (fun _ hk => trivial)⟩, ⟨bW⟩⟩
   rw [if_neg aY] at H
   have bZ : decide (2 < (a8.length : Int)) = false := decide_eq_false aY
   have bV : decide (2 < a8.length) = false := decide_eq_false oM
   clear aY
   replace H := iP H; obtain ⟨cY, H⟩ := H
   have cO := am cY
   clear cY
   generalize bB : a9 ++ [(⟨((kA l0 a0).f0), ((kA l0 a0).f1), ((kA l0 a0).f2), a1, ((kA l0 a0).f4), ((kA l0 a0).f5)⟩ : S31)] = d2 at H
   have cJ := am bB.symm; clear bB
   replace H := am H
   have dJ := cf6 a2.out
   go_wp2_with (first | ((with_reducible refine kW (b := .append) (xs := #[.tmp 66, .tmp 68]) rfl ?_); at_builtin; refine Kd.R_append k31 (w0 := w) w.heap.size rfl (.tmp 66) (.tmp 68) 24 31 (.agg #[(.int .i64 0), (.int .i64 0), (.int .i64 0), (.int .i64 0), (.int .i64 0), (.int .i64 0)]) 48 rfl Try.underlying24 xL rfl (by decide) oM (.slice aV a9.length aU) a9 (⟨((kA l0 a0).f0), ((kA l0 a0).f1), ((kA l0 a0).f2), a1, ((kA l0 a0).f4), ((kA l0 a0).f5)⟩ : S31) [.int .i64 ((kA l0 a0).f0), .int .i64 ((kA l0 a0).f1), .int .i64 ((kA l0 a0).f2), .int .i64 a1, .int .i64 ((kA l0 a0).f4), .int .i64 ((kA l0 a0).f5)] (fun k_ => k_ ≠ a5) (fun _ => False) rfl rfl ?aP (fun _ hk => hk.elim) ?aF ?aO ?aB ?aS ?aL ?_; (case aP => exact vV _ _ _ (⟨((kA l0 a0).f0), ((kA l0 a0).f1), ((kA l0 a0).f2), a1, ((kA l0 a0).f4), ((kA l0 a0).f5)⟩ : S31)); (case aB => exact (by exact bW)); (case aF => exact (fun k_ hk => Kd.freshB (g := a5) (o := .cells #[.int .i64 ((kA l0 a0).f0), .int .i64 ((kA l0 a0).f1), .int .i64 ((kA l0 a0).f2), .int .i64 a1, .int .i64 ((kA l0 a0).f4), .int .i64 ((kA l0 a0).f5)] 31 (0, 0)) (by exact sB <| a2.out) k_ hk)); (case aO => exact (by exact sR <| a4.out)); (case aS => exact (kE (by exact bW))); (case aL => have := cO.out; omega); intro e2 w54 ho hb hg hat; rw [← cJ.out] at ho; replace a7 := oV a7 a4 hg; replace a6 := oV a6 a4 hg; replace aE := oV aE a4 hg; replace a2 := am (tF (g := a5) (o := .cells #[.int .i64 ((kA l0 a0).f0), .int .i64 ((kA l0 a0).f1), .int .i64 ((kA l0 a0).f2), .int .i64 a1, .int .i64 ((kA l0 a0).f4), .int .i64 ((kA l0 a0).f5)] 31 (0, 0)) (by exact sB <| a2.out) hg (Kd.R_away a4.out (fun _ hk => hk))); replace HB := am hb; have cS := am ho; clear a4; clear ho hb hg hat))
   go_roundg b1
   case measure => have := aD.out; have := aG.out; omega
   case rel => exact ⟨d2, a3, (wrap64 (a0 + 1)), rfl, H, ⟨by have := aD.out; have := aG.out; omega⟩, ⟨sR <| Kd.R_mono cS.out (fun _ hk => trivial)⟩, ⟨sR <| a7.out⟩, ⟨sR <| Kd.R_mono a6.out (fun _ hk => trivial)⟩, ⟨bW⟩⟩
end Go.Proofs.Ytkpipmojkhikaaa.PAll
