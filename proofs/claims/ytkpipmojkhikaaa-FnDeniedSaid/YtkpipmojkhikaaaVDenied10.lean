/- Written by a program of this session over the loaded program, and by hand: Go functions as plain Lean functions, and that a call comes to what they say. -/
import Derived.Test.YtkpipmojkhikaaaVDenied0
import Derived.Test.YtkpipmojkhikaaaVDenied9
import Derived.Test.YtkpipmojkhikaaaBase
import Derived.Test.YtkpipmojkhikaaaSq
namespace Go.Proofs.Ytkpipmojkhikaaa.PAll
open Go.RowKit Go.Proofs.YtkpipmojkhikaaaW.PrintWords Go.Proofs.YtkpipmojkhikaaaW.PrintLast Go.Proofs.YtkpipmojkhikaaaW.PrintMore Go.Proofs.YtkpipmojkhikaaaW.Sq
attribute [local go_sem] qZ qX sT sS qC qB qY qW
set_option linter.unusedVariables false
set_option maxHeartbeats 8000000
set_option maxRecDepth 100000
set_option linter.unusedSimpArgs false
mutual
def sG (pf : Int → Option Bool) : Nat → List (S31) → List Bool → Int → Option (List Bool)
 | 0, _, _, _ => none
 | k + 1, x0, x7, x8 => if x8 ≥ 0 then (if 0 ≤ x8 then (if x8 < (x7.length : Int) then (if vU false x7 x8 = true then ((pf x8).bind fun a4 => (vE pf k x0 x7 x8 (!a4))) else (vE pf k x0 x7 x8 true)) else (none)) else (none)) else (some x7)
def vE (pf : Int → Option Bool) : Nat → List (S31) → List Bool → Int → Bool → Option (List Bool)
 | 0, _, _, _, _ => none
 | k + 1, x0, x7, x8, a5 => if a5 = true then (sG pf k x0 x7 (wrap64 (x8 - 1))) else (if 0 ≤ x8 then (if x8 < (x0.length : Int) then ((vX k ((kA x0 x8).f0) ((kA x0 x8).f1) ((kA x0 x8).f2) ((kA x0 x8).f3) ((kA x0 x8).f4) ((kA x0 x8).f5)).bind fun a2 => (vD pf k x0 x7 x8 a2 (a2.length : Int) 0)) else (none)) else (none))
def vD (pf : Int → Option Bool) : Nat → List (S31) → List Bool → Int → List Int → Int → Int → Option (List Bool)
 | 0, _, _, _, _, _, _ => none
 | k + 1, x0, x7, x8, a1, a3, a0 => if a0 < a3 then (if 0 ≤ a0 then (if a0 < (a1.length : Int) then (if 0 ≤ (rd a1 a0) then (if (rd a1 a0) < (x7.length : Int) then (vD pf k x0 (x7.set ((rd a1 a0) : Int).toNat true) x8 a1 a3 (wrap64 (a0 + 1))) else (none)) else (none)) else (none)) else (none)) else (sG pf k x0 x7 (wrap64 (x8 - 1)))
end
def vW (pf : Int → Option Bool) (k : Nat) (l0 : List (S31)) (a1 : Int) : Option (List Bool) := if 0 ≤ (l0.length : Int) then (if ((l0.length : Int) : Int).toNat ≤ 281474976710656 then ((some (List.replicate ((l0.length : Int) : Int).toNat false : List Bool)).bind fun a0 => (if 0 ≤ a1 then (if a1 < (a0.length : Int) then (sG pf k l0 (a0.set (a1 : Int).toNat true) a1) else (none)) else (none))) else (none)) else (none)
theorem impl_reach.calls (F : Nat) (cp : Array Value) (pf : Int → Option Bool) (k : Nat) (A0 : Option Addr) (c0 : Nat) (l0 : List (S31)) (a1 : Int) (r : List Bool) (w : World) (hr0 : Kd.C k31 w A0 l0.length l0) (hc0 : l0.length ≤ c0) (eg : ∀ args w, (callFunc F args).run Try.prog w = .ok (.enter F args) w) (hp : ∀ (W : World) (i : Int) (b : Bool), Below w.heap.size w W → pf i = some b → Calls Try.prog F (#[.int .i64 i] ++ cp) W fun e w' => e = .returned (.bool b) ∧ Below W.heap.size W w') (h : vW pf k l0 a1 = some r) :
  Calls Try.prog 76 #[.slice A0 l0.length c0, .int .i64 a1, .func (.func F) #[] cp] w fun e w' => ∃ bE : Value, e = .returned (bE) ∧ Kd.R Kd.bool 4 w' w.heap.size (fun _ => True) bE r ∧ Below w.heap.size w w' := by
 have hu31 := Try.underlying31
 have b_ := am hr0
 have cR := am hc0
 have HPF := am hp
 clear hr0 hc0 hp
 have HB := am (Below.refl w.heap.size w)
 have H := h
 clear h
 unfold vW at H
 replace H := iTD H; obtain ⟨bQ, bP, H⟩ := H
 replace H := iTD H; obtain ⟨bO, bN, H⟩ := H
 replace H := oS H; obtain ⟨aI, bD, H⟩ := H
 replace H := iN H; obtain ⟨bM, H⟩ := H
 replace H := iN H; obtain ⟨bL, H⟩ := H
 generalize aR : aI.set (a1 : Int).toNat true = b2 at H
 have bC := am aR.symm; clear aR
 replace H := am H
 go_enter Try.func76, Try.ntmps76
 go_wp2_with (first | ((with_reducible refine qF (N := 13) rfl ?_); refine Kd.R_make Kd.bool _ 4 rfl (N := 13) rfl 76 _ _ rfl (l0.length : Int) rfl rfl Try.underlying76 (.bool false) 1 a7p rfl (by decide) oM false (ok := fun _ => True) (okp := fun _ => True) rfl (fun _ hk => hk) trivial (oD (by assumption)) (Nat.le_trans (Nat.mul_le_mul_right _ (oD (by assumption) : (l0.length : Int).toNat ≤ 281474976710656)) oM) (Below.refl _ _) (Nat.le_refl _) ?_; intro cN w8 b6 hb hg_ hnew_; clear hg_ hnew_; (rw [← bD.out] at b6); have a9 := rL b6 HB; replace HB := hB HB hb; clear hb b6; have p7 : 0 ≤ (a1 : Int) := oD (by assumption); have q7 : (a1 : Int) < ((aI.length : Int) : Int) := oD (by assumption); obtain ⟨a7, aG, bZ, bG, gl7, cl7, HG7⟩ := Kd.R_form a9.out oM; (cases bZ); have bH := am bG; have GG7 := am HG7; clear bG gl7 HG7; obtain ⟨b7, hf7_0⟩ := Kd.R_celln false a9.out (a1 : Int) p7 q7; replace p7 := eq_true p7; replace q7 := eq_true q7; obtain ⟨cC, hz10_⟩ := Kd.R_celln false a9.out (a1 : Int) (oD (by assumption)) (oD (by assumption)); have aN := Kd.R_putg a9.out (a1 : Int) true) | ((with_reducible refine pZ (t := 4) (p := 16) rfl ?_); refine pM (t := 4) (p := 16) (v := ?vo_w11) (w1 := (w8.setCell ⟨a7, (a1 : Int).toNat, none⟩ (.bool true))) ?hg ?ho ?hn ?hr ?_; (case ho => rfl); (case hg => rfl); (case hn => rfl); (case hr => (go_simp; done)); intro w11 hw; have hg : w8.grownBy w11 (some a7) := (by rw [hw]; exact aN.2); have hp_ : Kd.R Kd.bool 4 w11 w.heap.size (fun _ => True) (.slice (some ⟨a7, 0, none⟩) aI.length aG) b2 := (by rw [hw, bC.out]; exact aN.1); clear aN; replace a9 := am hp_; replace HB := am ((by rw [hw]; exact kX (HB.out) bH.out : Below w.heap.size w w11)); clear hg hw hp_))
 go_loopg [8] k (fun kq v8 w' => ∃ (a4 : List Bool) (a2 : Int), v8 = .int .i64 a2 ∧ Aside0 (sG pf kq l0 a4 a2 = some r) ∧ Aside0 (kq ≤ k) ∧ Aside0 (Kd.R Kd.bool 4 w' w.heap.size (fun _ => True) (.slice (some ⟨a7, 0, none⟩) aI.length aG) a4) ∧ Aside0 (Below w.heap.size w w'))
 case atStart => exact ⟨b2, a1, rfl, H, ⟨Nat.le_refl _⟩, ⟨sR <| a9.out⟩, ⟨sW HB.out⟩⟩
 clear H
 clear bQ bP bO bN bM bL b7; try clear p7; try clear q7; try clear p7; try clear q7
 obtain ⟨a4, a2, rfl, HA, aE, a0, HB⟩ := hrel
 have hl7_1 := (Kd.R_reads' a0.out).1
 rw [hl7_1] at a0
 (try simp only [hl7_1])
 cases gk with
 | zero => cases HA.out
 | succ k1 =>
  obtain ⟨H⟩ := HA
  simp only [sG] at H
  by_cases aH : a2 ≥ 0
  rotate_left
  ·rw [if_neg aH] at H
   have aS : decide (0 ≤ a2) = false := decide_eq_false aH
   clear aH
   obtain rfl := oI H
   go_wp2
   go_ret
   exact ⟨_, rfl, sR <| a0.out, sW HB.out⟩
  rw [if_pos aH] at H
  have aS : decide (0 ≤ a2) = true := decide_eq_true aH
  clear aH
  have aO := am H; clear H
  go_upto_region 6 with (fail)
  go_cut [32] (fun bU wc => ∃ (kq : Nat) (aF : Bool), bU = .bool aF ∧ Aside0 (vE pf kq l0 a4 a2 aF = some r) ∧ Aside0 (kq ≤ k1) ∧ Aside0 (Kd.R Kd.bool 4 wc w.heap.size (fun _ => True) (.slice (some ⟨a7, 0, none⟩) a4.length aG) a4) ∧ Aside0 (Below w.heap.size w wc))
  case first =>
   have H := aO.out
   clear aO
   replace H := iN H; obtain ⟨cJ, H⟩ := H
   replace H := iN H; obtain ⟨cI, H⟩ := H
   generalize hbq16 : vU false a4 a2 = cQ at H
   have aT := am hbq16.symm; clear hbq16
   replace H := iB H; rcases H with ⟨rfl, H⟩ | ⟨rfl, H⟩
   ·replace H := oA H; obtain ⟨b3, cB, H⟩ := H
    replace H := am H
    have aB : 0 ≤ (a2 : Int) := oD (by assumption)
    have aA : a2 < (a4.length : Int) := oD (by assumption)
    obtain ⟨aJ, aL, a6⟩ := Kd.at_bool (Kd.R_reads' a0.out).2.2 a2 aB aA
    (try rw [← aT.out] at a6)
    obtain rfl : (⟨a7, 0, none⟩ : Addr) = aJ := (by injection aL)
    (simp only [pI] at a6)
    replace aB := eq_true aB
    replace aA := eq_true aA
    go_wp2_with (first | (go_at_fn F; refine (HPF.out _ a2 b3 (by exact sW HB.out) cB.out).mono ?_; rintro e w19 ⟨rfl, hb⟩; replace a0 := rB a0 hb; replace HB := hB HB hb; (try clear hb)))
    go_meet
    case rel => exact ⟨_, (!b3), rfl, H, ⟨by have := aE.out; omega⟩, ⟨by (try simp only [hl7_1]); exact sR <| a0.out⟩, ⟨sW HB.out⟩⟩
   replace H := am H
   have aB : 0 ≤ (a2 : Int) := oD (by assumption)
   have aA : a2 < (a4.length : Int) := oD (by assumption)
   obtain ⟨aJ, aL, a6⟩ := Kd.at_bool (Kd.R_reads' a0.out).2.2 a2 aB aA
   (try rw [← aT.out] at a6)
   obtain rfl : (⟨a7, 0, none⟩ : Addr) = aJ := (by injection aL)
   (simp only [pI] at a6)
   replace aB := eq_true aB
   replace aA := eq_true aA
   go_wp2
   go_meet
   case rel => exact ⟨_, true, rfl, H, ⟨by have := aE.out; omega⟩, ⟨by (try simp only [hl7_1]); exact sR <| a0.out⟩, ⟨sW HB.out⟩⟩
  clear aO
  clear aS
  obtain ⟨kq, aF, rfl, HA, aD, a0, HB⟩ := hcut
  cases kq with
  | zero => cases HA.out
  | succ aK =>
   obtain ⟨H⟩ := HA
   simp only [vE] at H
   replace H := iB H; rcases H with ⟨rfl, H⟩ | ⟨rfl, H⟩
   ·replace H := am H
    go_wp2
    (try simp only [← hl7_1])
    go_roundg aK
    case measure => have := aE.out; have := aD.out; omega
    case rel => exact ⟨a4, (wrap64 (a2 - 1)), rfl, H, ⟨by have := aE.out; have := aD.out; omega⟩, ⟨by (try simp only [hl7_1]); exact sR <| a0.out⟩, ⟨sW HB.out⟩⟩
   replace H := iN H; obtain ⟨bA, H⟩ := H
   replace H := iN H; obtain ⟨b9, H⟩ := H
   replace H := oA H; obtain ⟨a5, c1, H⟩ := H
   replace H := am H
   obtain ⟨bJ, bI, cL, rfl, b0, a_, aZ, aY, aX, aW⟩ := ix (oZ (Kd.C_below b_.out HB.out) a2)
   go_wp2_with (first | ((with_reducible refine gW ?_); first | (refine gF 58 (some 37) rfl ?_; refine gT Try.func58 (impl_Parts.calls _ _ _ _ _ _ _ _ _ c1.out) ?_; rintro cM w24 ⟨bF, hb⟩; replace a0 := rB a0 hb; have aU := rL bF HB; replace HB := hB HB hb; (try clear hb); (try clear bF); obtain ⟨bR, bK, rfl⟩ := Kd.R_slice aU.out)))
   go_loopg [39] aK (fun kq bT w' => ∃ (a8 : List Bool) (a3 : Int), bT = .int .i64 a3 ∧ Aside0 (vD pf kq l0 a8 a2 a5 (a5.length : Int) a3 = some r) ∧ Aside0 (kq ≤ aK) ∧ Aside0 (Kd.R Kd.bool 4 w' w.heap.size (fun _ => True) (.slice (some ⟨a7, 0, none⟩) a4.length aG) a8) ∧ Aside0 (Kd.R (Kd.int .i64) 3 w' w.heap.size (fun _ => True) (.slice bR a5.length bK) a5) ∧ Aside0 (Below w.heap.size w w'))
   case atStart => exact ⟨a4, 0, rfl, H, ⟨Nat.le_refl _⟩, ⟨by (try simp only [hl7_1]); exact sR <| a0.out⟩, ⟨by (try simp only [hl7_1]); exact sR <| aU.out⟩, ⟨sW HB.out⟩⟩
   clear H
   clear bA b9 b0 a_ aZ aY aX aW bJ bI
   obtain ⟨a8, a3, rfl, HA, aV, a0, aC, HB⟩ := hrel
   have hl7_3 := (Kd.R_reads' a0.out).1
   rw [hl7_3] at a0
   (try simp only [hl7_3])
   (try simp only [hl7_3] at aC)
   cases gk with
   | zero => cases HA.out
   | succ k3 =>
    obtain ⟨H⟩ := HA
    simp only [vD] at H
    replace H := iD H; rcases H with ⟨b8, H⟩ | ⟨b8, H⟩
    ·replace H := iN H; obtain ⟨cH, H⟩ := H
     replace H := iN H; obtain ⟨cG, H⟩ := H
     replace H := iN H; obtain ⟨cF, H⟩ := H
     replace H := iN H; obtain ⟨cE, H⟩ := H
     generalize aQ : a8.set ((rd a5 a3) : Int).toNat true = b1 at H
     have bB := am aQ.symm; clear aQ
     replace H := am H
     obtain ⟨cP, cO, cK, rfl, bS⟩ := ix (Kd.at_int (Kd.R_reads' aC.out).2.2 a3)
     have b5 : 0 ≤ ((rd a5 a3) : Int) := oD (by assumption)
     have b4 : ((rd a5 a3) : Int) < ((a8.length : Int) : Int) := oD (by assumption)
     obtain ⟨bV, hf31_0⟩ := Kd.R_celln false a0.out ((rd a5 a3) : Int) b5 b4
     replace b5 := eq_true b5
     replace b4 := eq_true b4
     have aM := Kd.R_putg a0.out ((rd a5 a3) : Int) true
     go_wp2_with (first | ((with_reducible refine pZ (t := 4) (p := 45) rfl ?_); refine pM (t := 4) (p := 45) (v := ?vo_w33) (w1 := (wr.setCell ⟨a7, ((rd a5 a3) : Int).toNat, none⟩ (.bool true))) ?hg ?ho ?hn ?hr ?_; (case ho => rfl); (case hg => rfl); (case hn => rfl); (case hr => (go_simp; done)); intro w33 hw; have hg : wr.grownBy w33 (some a7) := (by rw [hw]; exact aM.2); have hp_ : Kd.R Kd.bool 4 w33 w.heap.size (fun _ => True) (.slice (some ⟨a7, 0, none⟩) a8.length aG) b1 := (by rw [hw, bB.out]; exact aM.1); clear aM; replace aC := am (Kd.R_over' (v := (.slice (some ⟨a7, 0, none⟩) a8.length aG)) (by exact sR <| aC.out) (Kd.R_typed a0.out) (by decide) hg); replace a0 := am hp_; replace HB := am ((by rw [hw]; exact kX (HB.out) bH.out : Below w.heap.size w w33)); clear hg hw hp_))
     (try simp only [← hl7_3])
     go_roundg k3
     case measure => have := aE.out; have := aD.out; have := aV.out; omega
     case rel => exact ⟨b1, (wrap64 (a3 + 1)), rfl, H, ⟨by have := aE.out; have := aD.out; have := aV.out; omega⟩, ⟨by (try simp only [hl7_1]); (try simp only [hl7_3]); exact sR <| a0.out⟩, ⟨by (try simp only [hl7_1]); (try simp only [hl7_3]); exact sR <| aC.out⟩, ⟨sW HB.out⟩⟩
    replace H := am H
    go_wp2
    (try simp only [← hl7_1, ← hl7_3])
    go_roundg k3
    case measure => have := aE.out; have := aD.out; have := aV.out; omega
    case rel => exact ⟨a8, (wrap64 (a2 - 1)), rfl, H, ⟨by have := aE.out; have := aD.out; have := aV.out; omega⟩, ⟨by (try simp only [hl7_1]); (try simp only [hl7_3]); exact sR <| a0.out⟩, ⟨sW HB.out⟩⟩
def uK (k : Nat) (l0 : List (S31)) : Option (List Bool) := (vW yF k l0 (wrap64 ((l0.length : Int) - 1))).bind fun a0 => (some a0)
theorem impl_reached.calls (k : Nat) (A0 : Option Addr) (c0 : Nat) (l0 : List (S31)) (r : List Bool) (w : World) (hr0 : Kd.C k31 w A0 l0.length l0) (hc0 : l0.length ≤ c0) (h : uK k l0 = some r) :
  Calls Try.prog 75 #[.slice A0 l0.length c0] w fun e w' => ∃ a1 : Value, e = .returned (a1) ∧ Kd.R Kd.bool 4 w' w.heap.size (fun _ => True) a1 r ∧ Below w.heap.size w w' := by
 have a3 := am hr0
 have a4 := am hc0
 clear hr0 hc0
 have HB := am (Below.refl w.heap.size w)
 have H := h
 clear h
 unfold uK at H
 replace H := oA H; obtain ⟨a6, A2, H⟩ := H
 obtain rfl := oI H
 go_enter Try.func75, Try.ntmps75
 go_wp2_with (first | ((with_reducible refine gW ?_); first | (refine gC 76 (some 7) Try.func76 #[.slice A0 l0.length c0, .int .i64 (wrap64 ((l0.length : Int) - 1)), .func (.func 112) #[] #[]] ?_; (with_reducible refine (impl_reach.calls _ _ _ _ _ _ _ _ _ _ ?side1 ?side2 ?eg ?hp A2.out).mono ?_); (case eg => exact fun _ _ => rfl); (case hp => intro W i b _ h_; refine (impl_reached_1.calls i b W h_).mono ?_; exact fun _ _ h => h); (case side1 => repeat (first | exact a3.out | (with_reducible refine Kd.C_alloc ?_ _) | (with_reducible refine Kd.C_drewN ?_ _) | (with_reducible refine Kd.C_drew ?_))); (case side2 => exact a4.out); rintro e w3 ⟨a5, rfl, a2, hb⟩; refine ⟨_, rfl, ?_⟩; have a0 := rL a2 HB; replace HB := hB HB hb; (try clear hb); (try clear a2))))
 go_ret
 exact ⟨_, rfl, sR <| a0.out, sW HB.out⟩
def qT : Nat → List (S31) → Int → List Bool → Int → Int → Option (Int)
 | 0, _, _, _, _, _ => none
 | k + 1, x0, x3, x7, x8, x9 => if x9 < x8 then (if 0 ≤ x9 then (if x9 < (x7.length : Int) then (if vU false x7 x9 = true then (if x9 < (x0.length : Int) then ((pO ((kA x0 x9).f0) ((kA x0 x9).f1) ((kA x0 x9).f2) ((kA x0 x9).f3) ((kA x0 x9).f4) ((kA x0 x9).f5)).bind fun a0 => (if a0 = true then (qT k x0 (wrap64 (x3 + ((kA x0 x9).f4))) x7 x8 (wrap64 (x9 + 1))) else (qT k x0 x3 x7 x8 (wrap64 (x9 + 1))))) else (none)) else (qT k x0 x3 x7 x8 (wrap64 (x9 + 1)))) else (none)) else (none)) else (some x3)
def rH (k : Nat) (l0 : List (S31)) : Option (Int) := (uK k l0).bind fun a0 => (qT k l0 0 a0 (a0.length : Int) 0)
theorem b9u {P : Prop} (h : P := by
 go_roundg k1
 case measure => have := aJ.out; omega
 case rel => exact ⟨a6, (wrap64 (a0 + 1)), rfl, rfl, H, ⟨by have := aJ.out; omega⟩, ⟨sR <| a4.out⟩, ⟨sW HB.out⟩⟩) : P := h
theorem impl_quantBits.calls (k : Nat) (A0 : Option Addr) (c0 : Nat) (l0 : List (S31)) (r : Int) (w : World) (hr0 : Kd.C k31 w A0 l0.length l0) (hc0 : l0.length ≤ c0) (h : rH k l0 = some r) :
  Calls Try.prog 46 #[.slice A0 l0.length c0] w fun e w' => e = .returned (.int .i64 r) ∧ Below w.heap.size w w' := by
 have hu31 := Try.underlying31
 have aH := am hr0
 have aZ := am hc0
 clear hr0 hc0
 have HB := am (Below.refl w.heap.size w)
 have H := h
 clear h
 unfold rH at H
 replace H := oA H; obtain ⟨a5, A2, H⟩ := H
 replace H := am H
 go_enter Try.func46, Try.ntmps46
 go_wp2_with (first | ((with_reducible refine gW ?_); first | (refine gC 75 (some 7) Try.func75 #[.slice A0 l0.length c0] ?_; (with_reducible refine (impl_reached.calls _ _ _ _ _ _ ?side1 ?side2 A2.out).mono ?_); (case side1 => repeat (first | exact aH.out | (with_reducible refine Kd.C_alloc ?_ _) | (with_reducible refine Kd.C_drewN ?_ _) | (with_reducible refine Kd.C_drew ?_))); (case side2 => exact aZ.out); rintro e w3 ⟨b1, rfl, aS, hb⟩; refine ⟨_, rfl, ?_⟩; have aI := rL aS HB; replace HB := hB HB hb; (try clear hb); (try clear aS); obtain ⟨a_, aY, rfl⟩ := Kd.R_slice aI.out)))
 go_loopg [3, 9] k (fun kq v3 v9 w' => ∃ (a6 : Int) (a0 : Int), v3 = .int .i64 a6 ∧ v9 = .int .i64 a0 ∧ Aside0 (qT kq l0 a6 a5 (a5.length : Int) a0 = some r) ∧ Aside0 (kq ≤ k) ∧ Aside0 (Kd.R Kd.bool 4 w' w.heap.size (fun _ => True) (.slice a_ a5.length aY) a5) ∧ Aside0 (Below w.heap.size w w'))
 case atStart => exact ⟨0, 0, rfl, rfl, H, ⟨Nat.le_refl _⟩, ⟨sR <| aI.out⟩, ⟨sW HB.out⟩⟩
 clear H
 obtain ⟨a6, a0, rfl, rfl, HA, aJ, a4, HB⟩ := hrel
 cases gk with
 | zero => cases HA.out
 | succ k1 =>
  obtain ⟨H⟩ := HA
  simp only [qT] at H
  replace H := iD H; rcases H with ⟨aX, H⟩ | ⟨aX, H⟩
  rotate_left
  ·obtain rfl := oI H
   go_wp2
   go_ret
   exact ⟨rfl, sW HB.out⟩
  replace H := iN H; obtain ⟨b6, H⟩ := H
  replace H := iN H; obtain ⟨b5, H⟩ := H
  generalize hbq8 : vU false a5 a0 = b7 at H
  have aE := am hbq8.symm; clear hbq8
  replace H := iB H; rcases H with ⟨rfl, H⟩ | ⟨rfl, H⟩
  rotate_left
  ·replace H := am H
   have a2 : 0 ≤ (a0 : Int) := oD (by assumption)
   have a1 : a0 < (a5.length : Int) := oD (by assumption)
   obtain ⟨aG, a7, a3⟩ := Kd.at_bool (Kd.R_reads' a4.out).2.2 a0 a2 a1
   (try rw [← aE.out] at a3)
   cases a7
   replace a2 := eq_true a2
   replace a1 := eq_true a1
   go_wp2
   exact b9u
  replace H := iN H; obtain ⟨b0, H⟩ := H
  replace H := oA H; obtain ⟨b2, aT, H⟩ := H
  replace H := iB H; rcases H with ⟨rfl, H⟩ | ⟨rfl, H⟩
  ·replace H := am H
   have a2 : 0 ≤ (a0 : Int) := oD (by assumption)
   have a1 : a0 < (a5.length : Int) := oD (by assumption)
   obtain ⟨aG, a7, a3⟩ := Kd.at_bool (Kd.R_reads' a4.out).2.2 a0 a2 a1
   (try rw [← aE.out] at a3)
   cases a7
   replace a2 := eq_true a2
   replace a1 := eq_true a1
   obtain ⟨aV, aU, aF, rfl, aQ, aO, aN, aM, aL, aK⟩ := ix (oZ (Kd.C_below aH.out HB.out) a0)
   go_wp2_with (first | (go_at_call 53; refine (impl_isQuant.calls _ _ aT.out).mono ?_; rintro e w13 ⟨rfl, hb⟩; replace a4 := rB a4 hb; replace HB := hB HB hb; (try clear hb); obtain ⟨b4, b3, aR, aW, aD, aC, aB, aA, a9, a8⟩ := ix (oZ aH.out a0); obtain rfl : aF = aR := (by injection aW); replace aD := kC HB.out aD; replace aC := kC HB.out aC; replace aB := kC HB.out aB; replace aA := kC HB.out aA; replace a9 := kC HB.out a9; replace a8 := kC HB.out a8))
   go_roundg k1
   case measure => have := aJ.out; omega
   case rel => exact ⟨(wrap64 (a6 + ((kA l0 a0).f4))), (wrap64 (a0 + 1)), rfl, rfl, H, ⟨by have := aJ.out; omega⟩, ⟨sR <| a4.out⟩, ⟨sW HB.out⟩⟩
  replace H := am H
  have a2 : 0 ≤ (a0 : Int) := oD (by assumption)
  have a1 : a0 < (a5.length : Int) := oD (by assumption)
  obtain ⟨aG, a7, a3⟩ := Kd.at_bool (Kd.R_reads' a4.out).2.2 a0 a2 a1
  (try rw [← aE.out] at a3)
  cases a7
  replace a2 := eq_true a2
  replace a1 := eq_true a1
  obtain ⟨aV, aU, aF, rfl, aQ, aO, aN, aM, aL, aK⟩ := ix (oZ (Kd.C_below aH.out HB.out) a0)
  go_wp2_with (first | (go_at_call 53; refine (impl_isQuant.calls _ _ aT.out).mono ?_; rintro e w14 ⟨rfl, hb⟩; replace a4 := rB a4 hb; replace HB := hB HB hb; (try clear hb)))
  exact b9u
theorem c9c (d : Nat) (w : World) (x0 y0 x1 y1 x2 y2 x3 y3 x4 y4 x5 y5 : Int) :
  (Op.equalIn (d + 2) 31 (.agg #[.int .i64 x0, .int .i64 x1, .int .i64 x2, .int .i64 x3, .int .i64 x4, .int .i64 x5]) (.agg #[.int .i64 y0, .int .i64 y1, .int .i64 y2, .int .i64 y3, .int .i64 y4, .int .i64 y5])).run Try.prog w = .ok (x0 == y0 && (x1 == y1 && (x2 == y2 && (x3 == y3 && (x4 == y4 && (x5 == y5)))))) w := by
 refine c7r Try.underlying31 (by kernel_rfl) ?_
 refine a2k (by rfl) (by go_simp; rfl) (by go_simp; rfl) (by go_simp) ?_
 refine a2k (by rfl) (by go_simp; rfl) (by go_simp; rfl) (by go_simp) ?_
 refine a2k (by rfl) (by go_simp; rfl) (by go_simp; rfl) (by go_simp) ?_
 refine a2k (by rfl) (by go_simp; rfl) (by go_simp; rfl) (by go_simp) ?_
 refine a2k (by rfl) (by go_simp; rfl) (by go_simp; rfl) (by go_simp) ?_
 exact b7x (by rfl) (by go_simp; rfl) (by go_simp; rfl) (by go_simp)
end Go.Proofs.Ytkpipmojkhikaaa.PAll
