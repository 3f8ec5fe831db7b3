/- Written by a program of this session over the loaded program, and by hand: Go functions as plain Lean functions, and that a call comes to what they say. -/
import Derived.Test.YtkpipmojkhikaaaVText0
import Derived.Test.YtkpipmojkhikaaaVText1
import Derived.Test.YtkpipmojkhikaaaVText2
import Derived.Test.YtkpipmojkhikaaaBase
import Derived.Test.YtkpipmojkhikaaaSq
namespace Go.Proofs.Ytkpipmojkhikaaa.PAll
open Go.RowKit Go.Proofs.YtkpipmojkhikaaaW.PrintWords Go.Proofs.YtkpipmojkhikaaaW.PrintLast Go.Proofs.YtkpipmojkhikaaaW.PrintMore Go.Proofs.YtkpipmojkhikaaaW.Sq
attribute [local go_sem] sD rZ uM uL qV qU sA rY
set_option linter.unusedVariables false
set_option maxHeartbeats 8000000
set_option maxRecDepth 100000
set_option linter.unusedSimpArgs false
def tX : Nat → List (S31) → Int → Option (Bool)
 | 0, _, _ => none
 | k + 1, x0, x3 => if x3 < (x0.length : Int) then ((vV k x0 x3).bind fun a0 => (if a0 = true then (tX k x0 (wrap64 (x3 + 1))) else (some false))) else (some true)
def uU (k : Nat) (l0 : List (S31)) : Option (Bool) := (pW (l0.length : Int) 1 80).bind fun a0 => (if a0 = true then (tX k l0 0) else (some false))
theorem spec_TermOk.calls {k : Nat} {A0 : Option Addr} {c0 : Nat} {l0 : List (S31)} {r : Bool} {w : World} (hr0 : Kd.C k31 w A0 l0.length l0) (hc0 : l0.length ≤ c0) (h : uU k l0 = some r) :
  Calls Try.prog 13 #[.slice A0 l0.length c0] w fun e w' => e = .returned (.bool r) ∧ Below w.heap.size w w' := by
 have a1 := am hr0
 have a3 := am hc0
 clear hr0 hc0
 have HB := am (Below.refl w.heap.size w)
 have H := h
 clear h
 unfold uU at H
 replace H := oA H; obtain ⟨a6, A2, H⟩ := H
 replace H := iB H; rcases H with ⟨rfl, H⟩ | ⟨rfl, H⟩
 rotate_left
 ·obtain rfl := oI H
  go_enter Try.func13, Try.ntmps13
  go_wp2_with (first | ((with_reducible refine gW ?_); first | (refine gD (some 6) Try.func42 rfl (spec_l01In.calls _ _ _ _ _ A2.out) fun nd => ?_)))
  go_ret
  exact ⟨rfl, sW HB.out⟩
 replace H := am H
 go_enter Try.func13, Try.ntmps13
 go_wp2_with (first | ((with_reducible refine gW ?_); first | (refine gD (some 6) Try.func42 rfl (spec_l01In.calls _ _ _ _ _ A2.out) fun nd => ?_)))
 go_loopg [3] k (fun kq v3 w' => ∃ (a0 : Int), v3 = .int .i64 a0 ∧ Aside0 (tX kq l0 a0 = some r) ∧ Aside0 (kq ≤ k) ∧ Aside0 (Below w.heap.size w w'))
 case atStart => exact ⟨0, rfl, H, ⟨Nat.le_refl _⟩, ⟨sW HB.out⟩⟩
 clear H
 obtain ⟨a0, rfl, HA, a2, HB⟩ := hrel
 cases gk with
 | zero => cases HA.out
 | succ k1 =>
  obtain ⟨H⟩ := HA
  simp only [tX] at H
  replace H := iD H; rcases H with ⟨a4, H⟩ | ⟨a4, H⟩
  ·replace H := oA H; obtain ⟨a5, A5, H⟩ := H
   replace H := iB H; rcases H with ⟨rfl, H⟩ | ⟨rfl, H⟩
   ·replace H := am H
    go_wp2_with (first | ((with_reducible refine gW ?_); first | (refine gF 43 (some 16) rfl ?_; refine gS Try.func43 (spec_l02Node.calls _ _ _ _ _ _ _ (sC (Kd.C_below a1.out HB.out)) a3.out A5.out) ?_; rintro w7 hb; replace HB := hB HB hb; (try clear hb))))
    go_roundg k1
    case measure => have := a2.out; omega
    case rel => exact ⟨(wrap64 (a0 + 1)), rfl, H, ⟨by have := a2.out; omega⟩, ⟨sW HB.out⟩⟩
   obtain rfl := oI H
   go_wp2_with (first | ((with_reducible refine gW ?_); first | (refine gF 43 (some 16) rfl ?_; refine gS Try.func43 (spec_l02Node.calls _ _ _ _ _ _ _ (sC (Kd.C_below a1.out HB.out)) a3.out A5.out) ?_; rintro w8 hb; replace HB := hB HB hb; (try clear hb))))
   go_ret
   exact ⟨rfl, sW HB.out⟩
  obtain rfl := oI H
  go_wp2
  go_ret
  exact ⟨rfl, sW HB.out⟩
mutual
def tN : Nat → List (S31) → List Bool → Int → Option (List Bool)
 | 0, _, _, _ => none
 | k + 1, x0, x3, x4 => if x4 < (x0.length : Int) then (if x3.length < 140737488355328 then (tN k x0 (x3 ++ [(x4 == (wrap64 ((x0.length : Int) - 1)))]) (wrap64 (x4 + 1))) else (none)) else (qW k x0 x3 (wrap64 ((x0.length : Int) - 1)))
def qW : Nat → List (S31) → List Bool → Int → Option (List Bool)
 | 0, _, _, _ => none
 | k + 1, x0, x3, x5 => if x5 ≥ 0 then (if 0 ≤ x5 then (if x5 < (x0.length : Int) then ((tY k ((kA x0 x5).f0) ((kA x0 x5).f1) ((kA x0 x5).f2) ((kA x0 x5).f3) ((kA x0 x5).f4) ((kA x0 x5).f5)).bind fun a0 => (sH k x0 x3 x5 a0 0)) else (none)) else (none)) else (some x3)
def sH : Nat → List (S31) → List Bool → Int → List Int → Int → Option (List Bool)
 | 0, _, _, _, _, _ => none
 | k + 1, x0, x3, x5, x6, x7 => if x7 < (x6.length : Int) then (if 0 ≤ x5 then (if x5 < (x3.length : Int) then (if vD false x3 x5 = true then (if 0 ≤ x7 then (if 0 ≤ (rd x6 x7) then (if (rd x6 x7) < (x3.length : Int) then (sH k x0 (x3.set ((rd x6 x7) : Int).toNat true) x5 x6 (wrap64 (x7 + 1))) else (none)) else (none)) else (none)) else (qW k x0 x3 (wrap64 (x5 - 1)))) else (none)) else (none)) else (qW k x0 x3 (wrap64 (x5 - 1)))
end
def wC (k : Nat) (l0 : List (S31)) : Option (List Bool) := tN k l0 (([] : List Bool)) 0
theorem c2c {P : Prop} (h : P := by
 go_wp2
 go_roundg k3
 case measure => have := aC.out; have := aQ.out; have := aN.out; omega
 case rel => exact ⟨a3, (wrap64 (a1 - 1)), rfl, H, ⟨by have := aC.out; have := aQ.out; have := aN.out; omega⟩, ⟨sR <| a0.out⟩, ⟨sW HB.out⟩⟩) : P := h
theorem spec_l02Reach.calls {k : Nat} {A0 : Option Addr} {c0 : Nat} {l0 : List (S31)} {r : List Bool} {w : World} (hr0 : Kd.C k31 w A0 l0.length l0) (hc0 : l0.length ≤ c0) (h : wC k l0 = some r) :
  Calls Try.prog 80 #[.slice A0 l0.length c0] w fun e w' => ∃ bD : Value, e = .returned (bD) ∧ Kd.R Kd.bool 4 w' w.heap.size (fun _ => True) bD r ∧ Below w.heap.size w w' := by
 have hu31 := Try.underlying31
 have bR := am hr0
 have cS := am hc0
 clear hr0 hc0
 have HB := am (Below.refl w.heap.size w)
 have H := h
 clear h
 unfold wC at H
 generalize aK : ([] : List Bool) = bG at H
 have b9 := am aK.symm; clear aK
 replace H := am H
 go_enter Try.func80, Try.ntmps80
 go_wp2_with (first | ((with_reducible refine qC (N := 8) rfl ?_); refine Kd.R_lit Kd.bool _ 4 ?hg (N := 8) ?hd (xs := ([] : List Bool)) (inner := []) (ok := fun _ => True) (okp := fun _ => True) ?hr ?hp (fun _ hk => hk) trivial (Below.refl _ _) (Nat.le_refl _) (by simp) ?_; (case hd => rfl); (case hg => rfl); (case hr => (go_simp; done)); (case hp => exact (Reps.none _ _)); intro cE w2 b0 hb hg_ hnew_; clear hg_ hnew_; (rw [← b9.out] at b0); have bC := rL b0 HB; replace HB := hB HB hb; clear hb b0))
 go_loopg [3, 4] k (fun kq v3 v4 w' => ∃ (aA : List Bool) (a6 : Int), v4 = .int .i64 a6 ∧ Aside0 (tN kq l0 aA a6 = some r) ∧ Aside0 (kq ≤ k) ∧ Aside0 (Kd.R Kd.bool 4 w' w.heap.size (fun _ => True) v3 aA) ∧ Aside0 (Below w.heap.size w w'))
 case atStart => exact ⟨bG, 0, rfl, H, ⟨Nat.le_refl _⟩, ⟨sR <| bC.out⟩, ⟨sW HB.out⟩⟩
 clear H
 obtain ⟨aA, a6, rfl, HA, aC, a0, HB⟩ := hrel
 cases gk with
 | zero => cases HA.out
 | succ k1 =>
  obtain ⟨H⟩ := HA
  simp only [tN] at H
  replace H := iD H; rcases H with ⟨b4, H⟩ | ⟨b4, H⟩
  ·replace H := iP H; obtain ⟨c5, H⟩ := H
   have bN := am c5
   clear c5
   generalize aJ : aA ++ [(a6 == (wrap64 ((l0.length : Int) - 1)))] = bF at H
   have b8 := am aJ.symm; clear aJ
   replace H := am H
   go_wp2_with (first | ((with_reducible refine qG (b := .append) (xs := #[.tmp 15, .tmp 21]) rfl ?_); at_builtin; refine Kd.R_append Kd.bool (w0 := w) w.heap.size rfl (.tmp 15) (.tmp 21) 76 4 (.bool false) 1 rfl Try.underlying76 b0f rfl (by decide) oM u3 aA (a6 == (wrap64 ((l0.length : Int) - 1))) [.bool (a6 == (wrap64 ((l0.length : Int) - 1)))] (fun _ => True) (fun _ => False) rfl rfl ?aP (fun _ hk => hk.elim) ?aF ?aO ?aB ?aS ?aL ?_; (case aP => exact rfl); (case aB => exact (by exact sW HB.out)); (case aF => exact (fun _ _ => trivial)); (case aO => exact (by exact sR <| a0.out)); (case aS => exact (kJ (by exact sW HB.out))); (case aL => have := bN.out; omega); intro cC w6 ho hb hg hat; rw [← b8.out] at ho; replace HB := am hb; have bB := am ho; clear a0; clear ho hb hg hat))
   go_roundg k1
   case measure => have := aC.out; omega
   case rel => exact ⟨bF, (wrap64 (a6 + 1)), rfl, H, ⟨by have := aC.out; omega⟩, ⟨sR <| bB.out⟩, ⟨sW HB.out⟩⟩
  replace H := am H
  go_wp2
  go_loopg [5] k1 (fun kq v5 w' => ∃ (aD : List Bool) (a1 : Int), v5 = .int .i64 a1 ∧ Aside0 (qW kq l0 aD a1 = some r) ∧ Aside0 (kq ≤ k1) ∧ Aside0 (Kd.R Kd.bool 4 w' w.heap.size (fun _ => True) u3 aD) ∧ Aside0 (Below w.heap.size w w'))
  case atStart => exact ⟨aA, (wrap64 ((l0.length : Int) - 1)), rfl, H, ⟨Nat.le_refl _⟩, ⟨sR <| a0.out⟩, ⟨sW HB.out⟩⟩
  clear H
  clear b4
  obtain ⟨aD, a1, rfl, HA, aQ, a0, HB⟩ := hrel
  cases gk with
  | zero => cases HA.out
  | succ k2 =>
   obtain ⟨H⟩ := HA
   simp only [qW] at H
   by_cases c7 : a1 ≥ 0
   rotate_left
   ·rw [if_neg c7] at H
    have b3 : decide (0 ≤ a1) = false := decide_eq_false c7
    clear c7
    obtain rfl := oI H
    go_wp2
    go_ret
    exact ⟨_, rfl, sR <| a0.out, sW HB.out⟩
   rw [if_pos c7] at H
   have b3 : decide (0 ≤ a1) = true := decide_eq_true c7
   clear c7
   replace H := iN H; obtain ⟨bM, H⟩ := H
   replace H := iN H; obtain ⟨bL, H⟩ := H
   replace H := oA H; obtain ⟨a4, bS, H⟩ := H
   replace H := am H
   obtain ⟨bJ, bI, cB, rfl, aX, aW, aV, aU, aT, aR⟩ := ix (pL (Kd.C_below bR.out HB.out) a1)
   go_wp2_with (first | ((with_reducible refine gW ?_); first | (refine gF 70 (some 34) rfl ?_; refine gT Try.func70 (spec_Parts.calls bS.out) ?_; rintro bH w11 ⟨bE, hb⟩; replace a0 := rB a0 hb; have bA := rL bE HB; replace HB := hB HB hb; (try clear hb); (try clear bE))))
   go_loopg [7] k2 (fun kq v7 w' => ∃ (a3 : List Bool) (a2 : Int), v7 = .int .i64 a2 ∧ Aside0 (sH kq l0 a3 a1 a4 a2 = some r) ∧ Aside0 (kq ≤ k2) ∧ Aside0 (Kd.R Kd.bool 4 w' w.heap.size (fun _ => True) u3 a3) ∧ Aside0 (Kd.R (Kd.int .i64) 3 w' w.heap.size (fun _ => True) bH a4) ∧ Aside0 (Below w.heap.size w w'))
   case atStart => exact ⟨aD, 0, rfl, H, ⟨Nat.le_refl _⟩, ⟨sR <| a0.out⟩, ⟨sR <| bA.out⟩, ⟨sW HB.out⟩⟩
   clear H
   clear b3 bM bL aX aW aV aU aT aR bJ bI
   obtain ⟨a3, a2, rfl, HA, aN, a0, a9, HB⟩ := hrel
   cases gk with
   | zero => cases HA.out
   | succ k3 =>
    obtain ⟨H⟩ := HA
    simp only [sH] at H
    replace H := iD H; rcases H with ⟨b5, H⟩ | ⟨b5, H⟩
    rotate_left
    ·replace H := am H
     obtain ⟨cN, cH, rfl⟩ := Kd.R_slice a9.out
     exact c2c
    replace H := iN H; obtain ⟨b_, H⟩ := H
    replace H := iN H; obtain ⟨bZ, H⟩ := H
    generalize hbq15 : vD false a3 a1 = cM at H
    have aM := am hbq15.symm; clear hbq15
    replace H := iB H; rcases H with ⟨rfl, H⟩ | ⟨rfl, H⟩
    rotate_left
    ·replace H := am H
     obtain ⟨cP, cJ, rfl⟩ := Kd.R_slice a9.out
     obtain ⟨cO, cI, rfl⟩ := Kd.R_slice a0.out
     have a8 : 0 ≤ (a1 : Int) := oD (by assumption)
     have a7 : a1 < (a3.length : Int) := oD (by assumption)
     obtain ⟨b6, aG, a5⟩ := Kd.at_bool (Kd.R_reads' a0.out).2.2 a1 a8 a7
     (try rw [← aM.out] at a5)
     cases aG
     replace a8 := eq_true a8
     replace a7 := eq_true a7
     exact c2c
    replace H := iN H; obtain ⟨bV, H⟩ := H
    replace H := iN H; obtain ⟨bU, H⟩ := H
    replace H := iN H; obtain ⟨bT, H⟩ := H
    generalize aI : a3.set ((rd a4 a2) : Int).toNat true = aY at H
    have b7 := am aI.symm; clear aI
    replace H := am H
    obtain ⟨cR, cK, rfl⟩ := Kd.R_slice a9.out
    obtain ⟨cQ, b2, rfl⟩ := Kd.R_slice a0.out
    have a8 : 0 ≤ (a1 : Int) := oD (by assumption)
    have a7 : a1 < (a3.length : Int) := oD (by assumption)
    obtain ⟨b6, aG, a5⟩ := Kd.at_bool (Kd.R_reads' a0.out).2.2 a1 a8 a7
    (try rw [← aM.out] at a5)
    cases aG
    replace a8 := eq_true a8
    replace a7 := eq_true a7
    obtain ⟨cG, cF, c1, rfl, bP⟩ := ix (Kd.at_int (Kd.R_reads' a9.out).2.2 a2)
    have a_ : 0 ≤ ((rd a4 a2) : Int) := oD (by assumption)
    have aZ : ((rd a4 a2) : Int) < ((a3.length : Int) : Int) := oD (by assumption)
    obtain ⟨aE, cL, bK, b1, gl20, cl20, HG20⟩ := Kd.R_form a0.out oM
    (cases bK)
    have bO := am b1
    have GG20 := am HG20
    clear b1 gl20 HG20
    (simp only [qP] at a5)
    obtain ⟨bQ, hf20_0⟩ := Kd.R_celln false a0.out ((rd a4 a2) : Int) a_ aZ
    replace a_ := eq_true a_
    replace aZ := eq_true aZ
    have aH := Kd.R_putg a0.out ((rd a4 a2) : Int) true
    go_wp2_with (first | ((with_reducible refine qR (t := 4) (p := 52) rfl ?_); refine qD (t := 4) (p := 52) (v := ?vo_w24) (w1 := (wr.setCell ⟨aE, ((rd a4 a2) : Int).toNat, none⟩ (.bool true))) ?hg ?ho ?hn ?hr ?_; (case ho => rfl); (case hg => rfl); (case hn => rfl); (case hr => (go_simp; done)); intro w24 hw; have hg : wr.grownBy w24 (some aE) := (by rw [hw]; exact aH.2); have hp_ : Kd.R Kd.bool 4 w24 w.heap.size (fun _ => True) (.slice (some ⟨aE, 0, none⟩) a3.length b2) aY := (by rw [hw, b7.out]; exact aH.1); clear aH; replace a9 := am (Kd.R_over' (v := (.slice (some ⟨aE, 0, none⟩) a3.length b2)) (by exact sR <| a9.out) (Kd.R_typed a0.out) (by decide) hg); replace a0 := am hp_; replace HB := am ((by rw [hw]; exact kZ (HB.out) bO.out : Below w.heap.size w w24)); clear hg hw hp_))
    go_roundg k3
    case measure => have := aC.out; have := aQ.out; have := aN.out; omega
    case rel => exact ⟨aY, (wrap64 (a2 + 1)), rfl, H, ⟨by have := aC.out; have := aQ.out; have := aN.out; omega⟩, ⟨sR <| a0.out⟩, ⟨sR <| a9.out⟩, ⟨sW HB.out⟩⟩
mutual
def tH : Nat → List (S31) → List (List Bool) → Int → Option (List Bool)
 | 0, _, _, _ => none
 | k + 1, x0, x3, x4 => if x4 < (x0.length : Int) then (qH k x0 x3 x4 (([] : List Bool)) 0) else (if 0 ≤ (wrap64 ((x0.length : Int) - 1)) then (if (wrap64 ((x0.length : Int) - 1)) < (x3.length : Int) then (some (a5n x3 (wrap64 ((x0.length : Int) - 1)))) else (none)) else (none))
def qH : Nat → List (S31) → List (List Bool) → Int → List Bool → Int → Option (List Bool)
 | 0, _, _, _, _, _ => none
 | k + 1, x0, x3, x4, x5, x6 => if x6 < 8 then (if 0 ≤ x4 then (if x4 < (x0.length : Int) then (if ((kA x0 x4).f0) = 1 then (vI k x0 x3 x4 x5 x6 (((kA x0 x4).f2) == x6)) else (vI k x0 x3 x4 x5 x6 false)) else (none)) else (none)) else (if x3.length < 5864062014805 then (tH k x0 (x3 ++ [x5]) (wrap64 (x4 + 1))) else (none))
def vI : Nat → List (S31) → List (List Bool) → Int → List Bool → Int → Bool → Option (List Bool)
 | 0, _, _, _, _, _, _ => none
 | k + 1, x0, x3, x4, x5, x6, x7 => if 0 ≤ x4 then (if x4 < (x0.length : Int) then ((tY k ((kA x0 x4).f0) ((kA x0 x4).f1) ((kA x0 x4).f2) ((kA x0 x4).f3) ((kA x0 x4).f4) ((kA x0 x4).f5)).bind fun a0 => (tG k x0 x3 x4 x5 x6 x7 a0 0)) else (none)) else (none)
def tG : Nat → List (S31) → List (List Bool) → Int → List Bool → Int → Bool → List Int → Int → Option (List Bool)
 | 0, _, _, _, _, _, _, _, _ => none
 | k + 1, x0, x3, x4, x5, x6, x7, x8, x9 => if x9 < (x8.length : Int) then (if x7 = true then (tG k x0 x3 x4 x5 x6 true x8 (wrap64 (x9 + 1))) else (if 0 ≤ x9 then (if 0 ≤ (rd x8 x9) then (if (rd x8 x9) < (x3.length : Int) then (if 0 ≤ x6 then (if x6 < ((a5n x3 (rd x8 x9)).length : Int) then (tG k x0 x3 x4 x5 x6 (vD false (a5n x3 (rd x8 x9)) x6) x8 (wrap64 (x9 + 1))) else (none)) else (none)) else (none)) else (none)) else (none))) else (if 0 ≤ x4 then (if x4 < (x0.length : Int) then (if ((kA x0 x4).f0) = 19 then (if ((kA x0 x4).f2) = x6 then (if x5.length < 140737488355328 then (qH k x0 x3 x4 (x5 ++ [false]) (wrap64 (x6 + 1))) else (none)) else (if x5.length < 140737488355328 then (qH k x0 x3 x4 (x5 ++ [x7]) (wrap64 (x6 + 1))) else (none))) else (if ((kA x0 x4).f0) = 20 then (if ((kA x0 x4).f2) = x6 then (if x5.length < 140737488355328 then (qH k x0 x3 x4 (x5 ++ [false]) (wrap64 (x6 + 1))) else (none)) else (if x5.length < 140737488355328 then (qH k x0 x3 x4 (x5 ++ [x7]) (wrap64 (x6 + 1))) else (none))) else (if x5.length < 140737488355328 then (qH k x0 x3 x4 (x5 ++ [x7]) (wrap64 (x6 + 1))) else (none)))) else (none)) else (none))
end
def yD (k : Nat) (l0 : List (S31)) : Option (List Bool) := tH k l0 (([] : List (List Bool))) 0
theorem spec_l02Free.calls {k : Nat} {A0 : Option Addr} {c0 : Nat} {l0 : List (S31)} {r : List Bool} {w : World} (hr0 : Kd.C k31 w A0 l0.length l0) (hc0 : l0.length ≤ c0) (h : yD k l0 = some r) :
  Calls Try.prog 131 #[.slice A0 l0.length c0] w fun e w' => ∃ e0 : Value, e = .returned (e0) ∧ Kd.R Kd.bool 4 w' w.heap.size (fun _ => True) e0 r ∧ Below w.heap.size w w' := by
 have hu31 := Try.underlying31
 have aD := am hr0
 have gU := am hc0
 clear hr0 hc0
 have HB := am (Below.refl w.heap.size w)
 have H := h
 clear h
 unfold yD at H
 generalize bL : ([] : List (List Bool)) = eG at H
 have dK := am bL.symm; clear bL
 replace H := am H
 go_enter Try.func131, Try.ntmps131
 go_wp2_with (first | ((with_reducible refine qC (N := 10) rfl ?_); refine Kd.S_lit (Kd.slice 4 Kd.bool) _ 76 ?hg (N := 10) ?hd (xs := ([] : List (List Bool))) (inner := []) (ok := fun _ => True) (okp := fun _ => True) ?hr ?hp (fun _ hk => hk) trivial (Below.refl _ _) (Nat.le_refl _) (by simp) ?_; (case hd => rfl); (case hg => rfl); (case hr => (go_simp; done)); (case hp => exact (Reps.none _ _)); intro fY w2 cT hb hg_ hnew_; clear hg_ hnew_; (rw [← dK.out] at cT); have d_ := am (Kd.S_lower cT (kJ (by exact sW HB.out))); replace HB := hB HB hb; clear hb cT))
 go_loopg [3, 4] k (fun kq v3 v4 w' => ∃ (a5 : List (List Bool)) (a2 : Int), v4 = .int .i64 a2 ∧ Aside0 (tH kq l0 a5 a2 = some r) ∧ Aside0 (kq ≤ k) ∧ Aside0 (Kd.S (Kd.slice 4 Kd.bool) 76 w' w.heap.size (fun _ => True) v3 a5) ∧ Aside0 (Below w.heap.size w w'))
 case atStart => exact ⟨eG, 0, rfl, H, ⟨Nat.le_refl _⟩, ⟨by (with_reducible repeat (first | apply Kd.S_alloc | apply Kd.S_drewN | apply Kd.S_drew)); exact d_.out⟩, ⟨sW HB.out⟩⟩
 clear H
 obtain ⟨a5, a2, rfl, HA, a8, a0, HB⟩ := hrel
 cases gk with
 | zero => cases HA.out
 | succ k1 =>
  obtain ⟨H⟩ := HA
  simp only [tH] at H
  replace H := iD H; rcases H with ⟨cW, H⟩ | ⟨cW, H⟩
  rotate_left
  ·generalize cZ : wrap64 ((l0.length : Int) - 1) = aV at H
   have f7 : (IntKind.i64.wrap ((l0.length : Int) - 1)) = aV := (xW _).trans cZ
   replace H := iN H; obtain ⟨fE, H⟩ := H
   replace H := iN H; obtain ⟨fD, H⟩ := H
   obtain rfl := oI H
   obtain ⟨gJ, g4, eQ⟩ := Kd.S_slice a0.out
   subst eQ
   have b9 : 0 ≤ ((aV) : Int) := oD (by assumption)
   have b6 : (aV) < (a5.length : Int) := oD (by assumption)
   obtain ⟨fQ, fB, f9, eU, cQ, hl173_0, hi173_0⟩ := d0z (Kd.S_reads' a0.out).2.2 (aV) b9 b6
   cases eU
   obtain ⟨ce173, hce173, hMe173, hcc173⟩ := Kd.S_get a0.out [] (aV) b9 (by exact b6)
   obtain ⟨ve173_0, rfl, ge173_0⟩ := hMe173
   have hv173_0 := hcc173 0 _ rfl
   rw [Nat.add_zero, show ((Kd.slice 4 Kd.bool)).sz = 1 from rfl, Nat.mul_one] at hv173_0
   replace hv173_0 := oI (hv173_0.symm.trans cQ)
   rw [hv173_0] at ge173_0
   have HL173_0 := am (show Kd.R Kd.bool 4 _ _ _ _ (a5n a5 (aV)) from ge173_0)
   clear hv173_0 ge173_0
   clear hcc173 hce173
   have f4 := am hi173_0
   have f6 := am hl173_0
   clear hi173_0 hl173_0
   replace b9 := eq_true b9
   replace b6 := eq_true b6
   go_wp2
   go_ret
   exact ⟨_, rfl, sR <| Kd.R_mono HL173_0.out (fun _ hk => trivial), sW HB.out⟩
  generalize bK : ([] : List Bool) = eF at H
  have dJ := am bK.symm; clear bK
  replace H := am H
  go_wp2_with (first | ((with_reducible refine qC (N := 17) rfl ?_); refine Kd.R_lit Kd.bool _ 4 ?hg (N := 17) ?hd (xs := ([] : List Bool)) (inner := []) (ok := fun _ => True) (okp := fun _ => True) ?hr ?hp (fun _ hk => hk) trivial (Below.refl _ _) (Nat.le_refl _) (by simp) ?_; (case hd => rfl); (case hg => rfl); (case hr => (go_simp; done)); (case hp => exact (Reps.none _ _)); intro fX w5 bM hb hg_ hnew_; clear hg_ hnew_; (rw [← dJ.out] at bM); replace a0 := am (Kd.S_elder' (by (with_reducible repeat (first | apply Kd.S_alloc | apply Kd.S_drewN | apply Kd.S_drew)); exact a0.out) (Kd.R_base bM) hb); have dZ := rL bM HB; replace HB := hB HB hb; clear hb bM))
  go_loopg [5, 6] k1 (fun kq v5 v6 w' => ∃ (a3 : List Bool) (a9 : Int), v6 = .int .i64 a9 ∧ Aside0 (qH kq l0 a5 a2 a3 a9 = some r) ∧ Aside0 (kq ≤ k1) ∧ Aside0 (Kd.S (Kd.slice 4 Kd.bool) 76 w' w.heap.size (fun k_ => some k_ ≠ (v5 : Value).ownBlock) u3 a5) ∧ Aside0 (Kd.R Kd.bool 4 w' w.heap.size (fun _ => True) v5 a3) ∧ Aside0 (Below w.heap.size w w'))
  case atStart => exact ⟨eF, 0, rfl, H, ⟨Nat.le_refl _⟩, ⟨by (with_reducible repeat (first | apply Kd.S_alloc | apply Kd.S_drewN | apply Kd.S_drew)); exact Kd.S_mono a0.out (fun _ hk => hk.2)⟩, ⟨sR <| dZ.out⟩, ⟨sW HB.out⟩⟩
  clear H
  clear cW
  obtain ⟨a3, a9, rfl, HA, a7, a0, a1, HB⟩ := hrel
  cases gk with
  | zero => cases HA.out
  | succ k2 =>
   obtain ⟨H⟩ := HA
   simp only [qH] at H
   replace H := iD H; rcases H with ⟨cV, H⟩ | ⟨cV, H⟩
   rotate_left
   ·replace H := iP H; obtain ⟨e3, H⟩ := H
    have dL := am e3
    clear e3
    generalize bJ : a5 ++ [a3] = eE at H
    have dI := am bJ.symm; clear bJ
    replace H := am H
    obtain ⟨cY, cU, rfl⟩ := Kd.R_slice a1.out
    go_wp2_with (first | ((with_reducible refine qG (b := .append) (xs := #[.tmp 88, .tmp 90]) rfl ?_); at_builtin; refine Kd.S_append (Kd.slice 4 Kd.bool) (w0 := w) w.heap.size rfl (.tmp 88) (.tmp 90) 141 76 (.slice none 0 0) 24 rfl Try.underlying141 d0s rfl (by decide) oM u3 a5 a3 [.slice cY a3.length cU] (fun _ => True) (fun k_ => some k_ = (.slice cY a3.length cU : Value).ownBlock) rfl rfl ?aP (fun k_ hk_ => ((Kd.R_mono (ok' := fun k_ => ((fun _ => True)) k_ ∧ some k_ ≠ (u3 : Value).ownBlock) (Kd.R_apart' (a1.out) (Kd.S_typed a0.out) (by decide)) (fun k_ hk => ⟨trivial, hk.2⟩))).1 k_ hk_.symm) ?aF ?aO ?aB ?aS ?aL ?_; (case aP => exact Kd.M_row (Kd.R_mono (Kd.R_tight rfl (Kd.R_mono (ok' := fun k_ => ((fun _ => True)) k_ ∧ some k_ ≠ (u3 : Value).ownBlock) (Kd.R_apart' (a1.out) (Kd.S_typed a0.out) (by decide)) (fun k_ hk => ⟨trivial, hk.2⟩))) (fun _ h_ => h_))); (case aB => exact (by exact sW HB.out)); (case aF => exact (fun _ _ => trivial)); (case aO => exact (by (with_reducible repeat (first | apply Kd.S_alloc | apply Kd.S_drewN | apply Kd.S_drew)); exact Kd.S_mono a0.out (fun k_ hk => ⟨trivial, fun e_ => hk e_⟩))); (case aS => exact (kJ (by exact sW HB.out))); (case aL => have := dL.out; omega); intro fW w48 ho hb hg hat; rw [← dI.out] at ho; replace HB := am hb; have dY := am ho; clear a0 a1; clear ho hb hg hat))
    go_roundg k2
    case measure => have := a8.out; have := a7.out; omega
    case rel => exact ⟨eE, (wrap64 (a2 + 1)), rfl, H, ⟨by have := a8.out; have := a7.out; omega⟩, ⟨by (with_reducible repeat (first | apply Kd.S_alloc | apply Kd.S_drewN | apply Kd.S_drew)); exact dY.out⟩, ⟨sW HB.out⟩⟩
   have cX := am H; clear H
   go_upto_region 9 with (fail)
   go_cut [7] (fun v7 wc => ∃ (kq : Nat) (b3 : Bool), v7 = .bool b3 ∧ Aside0 (vI kq l0 a5 a2 a3 a9 b3 = some r) ∧ Aside0 (kq ≤ k2) ∧ Aside0 (Kd.S (Kd.slice 4 Kd.bool) 76 wc w.heap.size (fun k_ => some k_ ≠ (u5 : Value).ownBlock) u3 a5) ∧ Aside0 (Kd.R Kd.bool 4 wc w.heap.size (fun _ => True) u5 a3) ∧ Aside0 (Below w.heap.size w wc))
   case first =>
    have H := cX.out
    clear cX
    replace H := iN H; obtain ⟨gI, H⟩ := H
    replace H := iN H; obtain ⟨fM, H⟩ := H
    replace H := iE H; rcases H with ⟨dB, dA, H⟩ | ⟨dB, dA, H⟩
    ·replace H := am H
     obtain ⟨eP, eL, bN, rfl, cP, cO, cN, cM, cL, cK⟩ := ix (pL (Kd.C_below aD.out HB.out) a2)
     obtain ⟨g3, g0, dC, eT, f3, f1, f0, eZ, eY, eX⟩ := ix (pL (Kd.C_below aD.out HB.out) a2)
     obtain rfl : bN = dC := (by injection eT)
     go_wp2
     go_meet
     case rel => exact ⟨_, ((((kA l0 a2).f2) == a9)), rfl, H, ⟨by have := a8.out; have := a7.out; omega⟩, ⟨by (with_reducible repeat (first | apply Kd.S_alloc | apply Kd.S_drewN | apply Kd.S_drew)); exact a0.out⟩, ⟨sR <| a1.out⟩, ⟨sW HB.out⟩⟩
    replace H := am H
    obtain ⟨eP, eL, bN, rfl, cP, cO, cN, cM, cL, cK⟩ := ix (pL (Kd.C_below aD.out HB.out) a2)
    go_wp2
    go_meet
    case rel => exact ⟨_, false, rfl, H, ⟨by have := a8.out; have := a7.out; omega⟩, ⟨by (with_reducible repeat (first | apply Kd.S_alloc | apply Kd.S_drewN | apply Kd.S_drew)); exact a0.out⟩, ⟨sR <| a1.out⟩, ⟨sW HB.out⟩⟩
   clear cX
   clear cV
   obtain ⟨kq, b3, rfl, HA, aH, a0, a1, HB⟩ := hcut
   cases kq with
   | zero => cases HA.out
   | succ e1 =>
    obtain ⟨H⟩ := HA
    simp only [vI] at H
    replace H := iN H; obtain ⟨d9, H⟩ := H
    replace H := iN H; obtain ⟨d8, H⟩ := H
    replace H := oA H; obtain ⟨aJ, fC, H⟩ := H
    replace H := am H
    obtain ⟨eO, eK, a6, rfl, cJ, cI, cH, cG, cF, cE⟩ := ix (pL (Kd.C_below aD.out HB.out) a2)
    go_wp2_with (first | ((with_reducible refine gW ?_); first | (refine gF 70 (some 41) rfl ?_; refine gT Try.func70 (spec_Parts.calls fC.out) ?_; rintro eH w15 ⟨e2, hb⟩; replace a0 := am (Kd.S_below (by (with_reducible repeat (first | apply Kd.S_alloc | apply Kd.S_drewN | apply Kd.S_drew)); exact a0.out) hb); replace a1 := rB a1 hb; have dX := rL e2 HB; replace HB := hB HB hb; (try clear hb); (try clear e2))))
    go_loopg [7, 9] e1 (fun kq v7 v9 w' => ∃ (aC : Bool) (aA : Int), v7 = .bool aC ∧ v9 = .int .i64 aA ∧ Aside0 (tG kq l0 a5 a2 a3 a9 aC aJ aA = some r) ∧ Aside0 (kq ≤ e1) ∧ Aside0 (Kd.S (Kd.slice 4 Kd.bool) 76 w' w.heap.size (fun k_ => some k_ ≠ (u5 : Value).ownBlock) u3 a5) ∧ Aside0 (Kd.R Kd.bool 4 w' w.heap.size (fun _ => True) u5 a3) ∧ Aside0 (Kd.R (Kd.int .i64) 3 w' w.heap.size (fun _ => True) eH aJ) ∧ Aside0 (Below w.heap.size w w'))
    case atStart => exact ⟨b3, 0, rfl, rfl, H, ⟨Nat.le_refl _⟩, ⟨by (with_reducible repeat (first | apply Kd.S_alloc | apply Kd.S_drewN | apply Kd.S_drew)); exact a0.out⟩, ⟨sR <| a1.out⟩, ⟨sR <| dX.out⟩, ⟨sW HB.out⟩⟩
    clear H
    clear d9 d8 cJ cI cH cG cF cE eO eK
    obtain ⟨aC, aA, rfl, rfl, HA, aG, a0, a1, a4, HB⟩ := hrel
    cases gk with
    | zero => cases HA.out
    | succ k4 =>
     obtain ⟨H⟩ := HA
     simp only [tG] at H
     replace H := iD H; rcases H with ⟨d7, H⟩ | ⟨d7, H⟩
     ·replace H := iB H; rcases H with ⟨rfl, H⟩ | ⟨rfl, H⟩
      ·replace H := am H
       obtain ⟨gR, gH, rfl⟩ := Kd.R_slice a4.out
       go_wp2
       go_roundg k4
       case measure => have := a8.out; have := a7.out; have := aH.out; have := aG.out; omega
       case rel => exact ⟨true, (wrap64 (aA + 1)), rfl, rfl, H, ⟨by have := a8.out; have := a7.out; have := aH.out; have := aG.out; omega⟩, ⟨by (with_reducible repeat (first | apply Kd.S_alloc | apply Kd.S_drewN | apply Kd.S_drew)); exact a0.out⟩, ⟨sR <| a1.out⟩, ⟨sR <| a4.out⟩, ⟨sW HB.out⟩⟩
      replace H := iN H; obtain ⟨fL, H⟩ := H
      replace H := iN H; obtain ⟨fK, H⟩ := H
      replace H := iN H; obtain ⟨fJ, H⟩ := H
      replace H := iN H; obtain ⟨fI, H⟩ := H
      replace H := iN H; obtain ⟨fH, H⟩ := H
      replace H := am H
      obtain ⟨gQ, gE, rfl⟩ := Kd.R_slice a4.out
      obtain ⟨g2, f_, fP, rfl, eW⟩ := ix (Kd.at_int (Kd.R_reads' a4.out).2.2 aA)
      obtain ⟨gP, gA, eR⟩ := Kd.S_slice a0.out
      subst eR
      have b8 : 0 ≤ ((rd aJ aA) : Int) := oD (by assumption)
      have b5 : (rd aJ aA) < (a5.length : Int) := oD (by assumption)
      obtain ⟨fO, fA, f8, eS, cC, hl187_0, hi187_0⟩ := d0z (Kd.S_reads' a0.out).2.2 (rd aJ aA) b8 b5
      cases eS
      obtain ⟨ce187, hce187, hMe187, hcc187⟩ := Kd.S_get a0.out [] (rd aJ aA) b8 (by exact b5)
      obtain ⟨ve187_0, rfl, ge187_0⟩ := hMe187
      have hv187_0 := hcc187 0 _ rfl
      rw [Nat.add_zero, show ((Kd.slice 4 Kd.bool)).sz = 1 from rfl, Nat.mul_one] at hv187_0
      replace hv187_0 := oI (hv187_0.symm.trans cC)
      rw [hv187_0] at ge187_0
      have HL187_0 := am (show Kd.R Kd.bool 4 _ _ _ _ (a5n a5 (rd aJ aA)) from ge187_0)
      clear hv187_0 ge187_0
      clear hcc187 hce187
      have b2 := am hi187_0
      have f5 := am hl187_0
      clear hi187_0 hl187_0
      replace b8 := eq_true b8
      replace b5 := eq_true b5
      obtain ⟨g1, fZ, fN, rfl, eV⟩ := ix (Kd.at_bool (by repeat (first | (with_reducible exact b2.out) | (with_reducible refine Kd.C_alloc ?_ _) | (with_reducible refine Kd.C_drewN ?_ _) | (with_reducible refine Kd.C_drew ?_) | exact b2.out)) a9)
      go_wp2
      go_roundg k4
      case measure => have := a8.out; have := a7.out; have := aH.out; have := aG.out; omega
      case rel => exact ⟨(vD false (a5n a5 (rd aJ aA)) a9), (wrap64 (aA + 1)), rfl, rfl, H, ⟨by have := a8.out; have := a7.out; have := aH.out; have := aG.out; omega⟩, ⟨by (with_reducible repeat (first | apply Kd.S_alloc | apply Kd.S_drewN | apply Kd.S_drew)); exact a0.out⟩, ⟨sR <| a1.out⟩, ⟨sR <| a4.out⟩, ⟨sW HB.out⟩⟩
     replace H := iN H; obtain ⟨fG, H⟩ := H
     replace H := iN H; obtain ⟨fF, H⟩ := H
     replace H := iE H; rcases H with ⟨d6, d5, H⟩ | ⟨d6, d5, H⟩
     ·replace H := iE H; rcases H with ⟨d4, d3, H⟩ | ⟨d4, d3, H⟩
      ·replace H := iP H; obtain ⟨e8, H⟩ := H
       have dQ := am e8
       clear e8
       generalize bI : a3 ++ [false] = eD at H
       have dH := am bI.symm; clear bI
       replace H := am H
       obtain ⟨gO, g9, rfl⟩ := Kd.R_slice a4.out
       obtain ⟨b7, b4, aE, aI, aT, aR, aQ, aN, aM, aK⟩ := ix (pL (Kd.C_below aD.out HB.out) a2)
       obtain rfl : a6 = aE := (by injection aI)
       obtain ⟨eN, eJ, bB, bD, cB, c1, b_, bZ, bV, bU⟩ := ix (pL (Kd.C_below aD.out HB.out) a2)
       obtain rfl : a6 = bB := (by injection bD)
       go_wp2_with (first | ((with_reducible refine qG (b := .append) (xs := #[.tmp 84, .tmp 86]) rfl ?_); at_builtin; refine Kd.R_append Kd.bool (w0 := w) w.heap.size rfl (.tmp 84) (.tmp 86) 76 4 (.bool false) 1 rfl Try.underlying76 b0f rfl (by decide) oM u5 a3 false [.bool false] (fun _ => True) (fun _ => False) rfl rfl ?aP (fun _ hk => hk.elim) ?aF ?aO ?aB ?aS ?aL ?_; (case aP => exact rfl); (case aB => exact (by exact sW HB.out)); (case aF => exact (fun _ _ => trivial)); (case aO => exact (by exact sR <| a1.out)); (case aS => exact (kJ (by exact sW HB.out))); (case aL => have := dQ.out; omega); intro fV w32 ho hb hg hat; rw [← dH.out] at ho; replace a0 := am (Kd.S_after (ok := (fun _ => True)) (by (with_reducible repeat (first | apply Kd.S_alloc | apply Kd.S_drewN | apply Kd.S_drew)); exact Kd.S_mono a0.out (fun _ hk => ⟨trivial, hk⟩)) hg hat); replace a4 := oV a4 a1 hg; replace HB := am hb; have dW := am ho; clear a1; clear ho hb hg hat))
       go_roundg k4
       case measure => have := a8.out; have := a7.out; have := aH.out; have := aG.out; omega
       case rel => exact ⟨eD, (wrap64 (a9 + 1)), rfl, H, ⟨by have := a8.out; have := a7.out; have := aH.out; have := aG.out; omega⟩, ⟨by (with_reducible repeat (first | apply Kd.S_alloc | apply Kd.S_drewN | apply Kd.S_drew)); exact Kd.S_mono a0.out (fun _ hk => hk.2)⟩, ⟨sR <| dW.out⟩, ⟨sW HB.out⟩⟩
      replace H := iP H; obtain ⟨e7, H⟩ := H
      have dP := am e7
      clear e7
      generalize bH : a3 ++ [aC] = eC at H
      have dG := am bH.symm; clear bH
      replace H := am H
      obtain ⟨gN, g8, rfl⟩ := Kd.R_slice a4.out
      obtain ⟨b7, b4, aE, aI, aT, aR, aQ, aN, aM, aK⟩ := ix (pL (Kd.C_below aD.out HB.out) a2)
      obtain rfl : a6 = aE := (by injection aI)
      obtain ⟨eN, eJ, bB, bD, cB, c1, b_, bZ, bV, bU⟩ := ix (pL (Kd.C_below aD.out HB.out) a2)
      obtain rfl : a6 = bB := (by injection bD)
      go_wp2_with (first | ((with_reducible refine qG (b := .append) (xs := #[.tmp 84, .tmp 86]) rfl ?_); at_builtin; refine Kd.R_append Kd.bool (w0 := w) w.heap.size rfl (.tmp 84) (.tmp 86) 76 4 (.bool false) 1 rfl Try.underlying76 b0f rfl (by decide) oM u5 a3 aC [.bool aC] (fun _ => True) (fun _ => False) rfl rfl ?aP (fun _ hk => hk.elim) ?aF ?aO ?aB ?aS ?aL ?_; (case aP => exact rfl); (case aB => exact (by exact sW HB.out)); (case aF => exact (fun _ _ => trivial)); (case aO => exact (by exact sR <| a1.out)); (case aS => exact (kJ (by exact sW HB.out))); (case aL => have := dP.out; omega); intro fU w35 ho hb hg hat; rw [← dG.out] at ho; replace a0 := am (Kd.S_after (ok := (fun _ => True)) (by (with_reducible repeat (first | apply Kd.S_alloc | apply Kd.S_drewN | apply Kd.S_drew)); exact Kd.S_mono a0.out (fun _ hk => ⟨trivial, hk⟩)) hg hat); replace a4 := oV a4 a1 hg; replace HB := am hb; have dV := am ho; clear a1; clear ho hb hg hat))
      go_roundg k4
      case measure => have := a8.out; have := a7.out; have := aH.out; have := aG.out; omega
      case rel => exact ⟨eC, (wrap64 (a9 + 1)), rfl, H, ⟨by have := a8.out; have := a7.out; have := aH.out; have := aG.out; omega⟩, ⟨by (with_reducible repeat (first | apply Kd.S_alloc | apply Kd.S_drewN | apply Kd.S_drew)); exact Kd.S_mono a0.out (fun _ hk => hk.2)⟩, ⟨sR <| dV.out⟩, ⟨sW HB.out⟩⟩
     replace H := iE H; rcases H with ⟨d2, d1, H⟩ | ⟨d2, d1, H⟩
     rotate_left
     ·replace H := iP H; obtain ⟨e4, H⟩ := H
      have dM := am e4
      clear e4
      generalize bE : a3 ++ [aC] = e9 at H
      have dD := am bE.symm; clear bE
      replace H := am H
      obtain ⟨gK, g5, rfl⟩ := Kd.R_slice a4.out
      obtain ⟨b7, b4, aE, aI, aT, aR, aQ, aN, aM, aK⟩ := ix (pL (Kd.C_below aD.out HB.out) a2)
      obtain rfl : a6 = aE := (by injection aI)
      obtain ⟨cS, cR, aU, aW, b1, b0, a_, aZ, aY, aX⟩ := ix (pL (Kd.C_below aD.out HB.out) a2)
      obtain rfl : a6 = aU := (by injection aW)
      go_wp2_with (first | ((with_reducible refine qG (b := .append) (xs := #[.tmp 84, .tmp 86]) rfl ?_); at_builtin; refine Kd.R_append Kd.bool (w0 := w) w.heap.size rfl (.tmp 84) (.tmp 86) 76 4 (.bool false) 1 rfl Try.underlying76 b0f rfl (by decide) oM u5 a3 aC [.bool aC] (fun _ => True) (fun _ => False) rfl rfl ?aP (fun _ hk => hk.elim) ?aF ?aO ?aB ?aS ?aL ?_; (case aP => exact rfl); (case aB => exact (by exact sW HB.out)); (case aF => exact (fun _ _ => trivial)); (case aO => exact (by exact sR <| a1.out)); (case aS => exact (kJ (by exact sW HB.out))); (case aL => have := dM.out; omega); intro fR w46 ho hb hg hat; rw [← dD.out] at ho; replace a0 := am (Kd.S_after (ok := (fun _ => True)) (by (with_reducible repeat (first | apply Kd.S_alloc | apply Kd.S_drewN | apply Kd.S_drew)); exact Kd.S_mono a0.out (fun _ hk => ⟨trivial, hk⟩)) hg hat); replace a4 := oV a4 a1 hg; replace HB := am hb; have dS := am ho; clear a1; clear ho hb hg hat))
      go_roundg k4
      case measure => have := a8.out; have := a7.out; have := aH.out; have := aG.out; omega
      case rel => exact ⟨e9, (wrap64 (a9 + 1)), rfl, H, ⟨by have := a8.out; have := a7.out; have := aH.out; have := aG.out; omega⟩, ⟨by (with_reducible repeat (first | apply Kd.S_alloc | apply Kd.S_drewN | apply Kd.S_drew)); exact Kd.S_mono a0.out (fun _ hk => hk.2)⟩, ⟨sR <| dS.out⟩, ⟨sW HB.out⟩⟩
     replace H := iE H; rcases H with ⟨d0, c_, H⟩ | ⟨d0, c_, H⟩
     ·replace H := iP H; obtain ⟨e6, H⟩ := H
      have dO := am e6
      clear e6
      generalize bG : a3 ++ [false] = eB at H
      have dF := am bG.symm; clear bG
      replace H := am H
      obtain ⟨gM, g7, rfl⟩ := Kd.R_slice a4.out
      obtain ⟨b7, b4, aE, aI, aT, aR, aQ, aN, aM, aK⟩ := ix (pL (Kd.C_below aD.out HB.out) a2)
      obtain rfl : a6 = aE := (by injection aI)
      obtain ⟨cS, cR, aU, aW, b1, b0, a_, aZ, aY, aX⟩ := ix (pL (Kd.C_below aD.out HB.out) a2)
      obtain rfl : a6 = aU := (by injection aW)
      obtain ⟨eM, eI, bA, bC, bT, bS, bR, bQ, bP, bO⟩ := ix (pL (Kd.C_below aD.out HB.out) a2)
      obtain rfl : a6 = bA := (by injection bC)
      go_wp2_with (first | ((with_reducible refine qG (b := .append) (xs := #[.tmp 84, .tmp 86]) rfl ?_); at_builtin; refine Kd.R_append Kd.bool (w0 := w) w.heap.size rfl (.tmp 84) (.tmp 86) 76 4 (.bool false) 1 rfl Try.underlying76 b0f rfl (by decide) oM u5 a3 false [.bool false] (fun _ => True) (fun _ => False) rfl rfl ?aP (fun _ hk => hk.elim) ?aF ?aO ?aB ?aS ?aL ?_; (case aP => exact rfl); (case aB => exact (by exact sW HB.out)); (case aF => exact (fun _ _ => trivial)); (case aO => exact (by exact sR <| a1.out)); (case aS => exact (kJ (by exact sW HB.out))); (case aL => have := dO.out; omega); intro fT w40 ho hb hg hat; rw [← dF.out] at ho; replace a0 := am (Kd.S_after (ok := (fun _ => True)) (by (with_reducible repeat (first | apply Kd.S_alloc | apply Kd.S_drewN | apply Kd.S_drew)); exact Kd.S_mono a0.out (fun _ hk => ⟨trivial, hk⟩)) hg hat); replace a4 := oV a4 a1 hg; replace HB := am hb; have dU := am ho; clear a1; clear ho hb hg hat))
      go_roundg k4
      case measure => have := a8.out; have := a7.out; have := aH.out; have := aG.out; omega
      case rel => exact ⟨eB, (wrap64 (a9 + 1)), rfl, H, ⟨by have := a8.out; have := a7.out; have := aH.out; have := aG.out; omega⟩, ⟨by (with_reducible repeat (first | apply Kd.S_alloc | apply Kd.S_drewN | apply Kd.S_drew)); exact Kd.S_mono a0.out (fun _ hk => hk.2)⟩, ⟨sR <| dU.out⟩, ⟨sW HB.out⟩⟩
     replace H := iP H; obtain ⟨e5, H⟩ := H
     have dN := am e5
     clear e5
     generalize bF : a3 ++ [aC] = eA at H
     have dE := am bF.symm; clear bF
     replace H := am H
     obtain ⟨gL, g6, rfl⟩ := Kd.R_slice a4.out
     obtain ⟨b7, b4, aE, aI, aT, aR, aQ, aN, aM, aK⟩ := ix (pL (Kd.C_below aD.out HB.out) a2)
     obtain rfl : a6 = aE := (by injection aI)
     obtain ⟨cS, cR, aU, aW, b1, b0, a_, aZ, aY, aX⟩ := ix (pL (Kd.C_below aD.out HB.out) a2)
     obtain rfl : a6 = aU := (by injection aW)
     obtain ⟨eM, eI, bA, bC, bT, bS, bR, bQ, bP, bO⟩ := ix (pL (Kd.C_below aD.out HB.out) a2)
     obtain rfl : a6 = bA := (by injection bC)
     go_wp2_with (first | ((with_reducible refine qG (b := .append) (xs := #[.tmp 84, .tmp 86]) rfl ?_); at_builtin; refine Kd.R_append Kd.bool (w0 := w) w.heap.size rfl (.tmp 84) (.tmp 86) 76 4 (.bool false) 1 rfl Try.underlying76 b0f rfl (by decide) oM u5 a3 aC [.bool aC] (fun _ => True) (fun _ => False) rfl rfl ?aP (fun _ hk => hk.elim) ?aF ?aO ?aB ?aS ?aL ?_; (case aP => exact rfl); (case aB => exact (by exact sW HB.out)); (case aF => exact (fun _ _ => trivial)); (case aO => exact (by exact sR <| a1.out)); (case aS => exact (kJ (by exact sW HB.out))); (case aL => have := dN.out; omega); intro fS w43 ho hb hg hat; rw [← dE.out] at ho; replace a0 := am (Kd.S_after (ok := (fun _ => True)) (by (with_reducible repeat (first | apply Kd.S_alloc | apply Kd.S_drewN | apply Kd.S_drew)); exact Kd.S_mono a0.out (fun _ hk => ⟨trivial, hk⟩)) hg hat); replace a4 := oV a4 a1 hg; replace HB := am hb; have dT := am ho; clear a1; clear ho hb hg hat))
     go_roundg k4
     case measure => have := a8.out; have := a7.out; have := aH.out; have := aG.out; omega
     case rel => exact ⟨eA, (wrap64 (a9 + 1)), rfl, H, ⟨by have := a8.out; have := a7.out; have := aH.out; have := aG.out; omega⟩, ⟨by (with_reducible repeat (first | apply Kd.S_alloc | apply Kd.S_drewN | apply Kd.S_drew)); exact Kd.S_mono a0.out (fun _ hk => hk.2)⟩, ⟨sR <| dT.out⟩, ⟨sW HB.out⟩⟩
end Go.Proofs.Ytkpipmojkhikaaa.PAll
