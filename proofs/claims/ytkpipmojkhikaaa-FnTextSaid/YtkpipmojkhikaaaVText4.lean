/- Written by a program of this session over the loaded program, and by hand: Go functions as plain Lean functions, and that a call comes to what they say. -/
import Derived.Test.YtkpipmojkhikaaaVText0
import Derived.Test.YtkpipmojkhikaaaVText1
import Derived.Test.YtkpipmojkhikaaaVText3
import Derived.Test.YtkpipmojkhikaaaBase
import Derived.Test.YtkpipmojkhikaaaSq
namespace Go.Proofs.Ytkpipmojkhikaaa.PAll
open Go.RowKit Go.Proofs.YtkpipmojkhikaaaW.PrintWords Go.Proofs.YtkpipmojkhikaaaW.PrintLast Go.Proofs.YtkpipmojkhikaaaW.PrintMore Go.Proofs.YtkpipmojkhikaaaW.Sq
attribute [local go_sem] sD rZ uM uL qV qU sA rY
set_option linter.unusedVariables false
set_option maxHeartbeats 8000000
set_option maxRecDepth 100000
set_option linter.unusedSimpArgs false
def uV : Nat → List Int → List Bool → Int → Option (List Int)
 | 0, _, _, _ => none
 | k + 1, x3, x4, x5 => if x5 < 8 then (if 0 ≤ x5 then (if x5 < (x4.length : Int) then (if vD false x4 x5 = true then (if x3.length < 17592186044416 then (uV k (x3 ++ [x5]) x4 (wrap64 (x5 + 1))) else (none)) else (uV k x3 x4 (wrap64 (x5 + 1)))) else (none)) else (none)) else (some x3)
def xZ (k : Nat) (l0 : List (S31)) : Option (List Int) := (some (([] : List Int) : List Int)).bind fun a0 => ((uU k l0).bind fun a2 => (if a2 = true then ((yD k l0).bind fun a1 => (uV k a0 a1 0)) else (some a0)))
theorem spec_Free.calls {k : Nat} {A0 : Option Addr} {c0 : Nat} {l0 : List (S31)} {r : List Int} {w : World} (hr0 : Kd.C k31 w A0 l0.length l0) (hc0 : l0.length ≤ c0) (h : xZ k l0 = some r) :
  Calls Try.prog 105 #[.slice A0 l0.length c0] w fun e w' => ∃ aT : Value, e = .returned (aT) ∧ Kd.R (Kd.int .i64) 3 w' w.heap.size (fun _ => True) aT r ∧ Below w.heap.size w w' := by
 have aI := am hr0
 have aJ := am hc0
 clear hr0 hc0
 have HB := am (Below.refl w.heap.size w)
 have H := h
 clear h
 unfold xZ at H
 replace H := oS H; obtain ⟨aX, aD, H⟩ := H
 replace H := oA H; obtain ⟨b3, A2, H⟩ := H
 replace H := iB H; rcases H with ⟨rfl, H⟩ | ⟨rfl, H⟩
 rotate_left
 ·obtain rfl := oI H
  go_enter Try.func105, Try.ntmps105
  go_wp2_with (first | ((with_reducible refine gW ?_); first | (refine lE (Kd.int .i64) 3 6 ?_; intro aZ w18 a9 hb; (rw [← aD.out] at a9); have a1 := rL a9 HB; replace HB := hB HB hb; clear hb a9) | (refine gF 13 (some 8) rfl ?_; refine gS Try.func13 (spec_TermOk.calls (sC (Kd.C_below aI.out HB.out)) aJ.out A2.out) ?_; rintro w20 hb; replace a1 := rB a1 hb; replace HB := hB HB hb; (try clear hb))))
  go_ret
  exact ⟨_, rfl, sR <| a1.out, sW HB.out⟩
 replace H := oA H; obtain ⟨a7, A4, H⟩ := H
 replace H := am H
 go_enter Try.func105, Try.ntmps105
 go_wp2_with (first | ((with_reducible refine gW ?_); first | (refine lE (Kd.int .i64) 3 6 ?_; intro aZ w5 aH hb; (rw [← aD.out] at aH); have a1 := rL aH HB; replace HB := hB HB hb; clear hb aH) | (refine gF 13 (some 8) rfl ?_; refine gS Try.func13 (spec_TermOk.calls (sC (Kd.C_below aI.out HB.out)) aJ.out A2.out) ?_; rintro w7 hb; replace a1 := rB a1 hb; replace HB := hB HB hb; (try clear hb)) | (refine gF 131 (some 12) rfl ?_; refine gT Try.func131 (spec_l02Free.calls (sC (Kd.C_below aI.out HB.out)) aJ.out A4.out) ?_; rintro aY w8 ⟨aU, hb⟩; replace a1 := rB a1 hb; have aR := rL aU HB; replace HB := hB HB hb; (try clear hb); (try clear aU))))
 go_loopg [3, 5] k (fun kq v3 v5 w' => ∃ (a5 : List Int) (a0 : Int), v5 = .int .i64 a0 ∧ Aside0 (uV kq a5 a7 a0 = some r) ∧ Aside0 (kq ≤ k) ∧ Aside0 (Kd.R (Kd.int .i64) 3 w' w.heap.size (fun _ => True) v3 a5) ∧ Aside0 (Kd.R Kd.bool 4 w' w.heap.size (fun _ => True) aY a7) ∧ Aside0 (Below w.heap.size w w'))
 case atStart => exact ⟨aX, 0, rfl, H, ⟨Nat.le_refl _⟩, ⟨sR <| a1.out⟩, ⟨sR <| aR.out⟩, ⟨sW HB.out⟩⟩
 clear H
 obtain ⟨a5, a0, rfl, HA, aG, a8, a2, HB⟩ := hrel
 cases gk with
 | zero => cases HA.out
 | succ k1 =>
  obtain ⟨H⟩ := HA
  simp only [uV] at H
  replace H := iD H; rcases H with ⟨a_, H⟩ | ⟨a_, H⟩
  rotate_left
  ·obtain rfl := oI H
   go_wp2
   go_ret
   exact ⟨_, rfl, sR <| a8.out, sW HB.out⟩
  replace H := iN H; obtain ⟨b1, H⟩ := H
  replace H := iN H; obtain ⟨b0, H⟩ := H
  generalize hbq12 : vD false a7 a0 = b6 at H
  have aE := am hbq12.symm; clear hbq12
  replace H := iB H; rcases H with ⟨rfl, H⟩ | ⟨rfl, H⟩
  ·replace H := iP H; obtain ⟨aV, H⟩ := H
   have aN := am aV
   clear aV
   generalize aC : a5 ++ [a0] = aW at H
   have aM := am aC.symm; clear aC
   replace H := am H
   obtain ⟨b8, b5, rfl⟩ := Kd.R_slice a2.out
   have a4 : 0 ≤ (a0 : Int) := oD (by assumption)
   have a3 : a0 < (a7.length : Int) := oD (by assumption)
   obtain ⟨aK, aA, a6⟩ := Kd.at_bool (Kd.R_reads' a2.out).2.2 a0 a4 a3
   (try rw [← aE.out] at a6)
   cases aA
   replace a4 := eq_true a4
   replace a3 := eq_true a3
   go_wp2_with (first | ((with_reducible refine qG (b := .append) (xs := #[.tmp 21, .tmp 23]) rfl ?_); at_builtin; refine Kd.R_append (Kd.int .i64) (w0 := w) w.heap.size rfl (.tmp 21) (.tmp 23) 25 3 (.int .i64 0) 8 rfl Try.underlying25 b4a rfl (by decide) oM u3 a5 a0 [.int .i64 a0] (fun _ => True) (fun _ => False) rfl rfl ?aP (fun _ hk => hk.elim) ?aF ?aO ?aB ?aS ?aL ?_; (case aP => exact rfl); (case aB => exact (by exact sW HB.out)); (case aF => exact (fun _ _ => trivial)); (case aO => exact (by exact sR <| a8.out)); (case aS => exact (kJ (by exact sW HB.out))); (case aL => have := aN.out; omega); intro b2 w16 ho hb hg hat; rw [← aM.out] at ho; replace a2 := oV a2 a8 hg; replace HB := am hb; have aQ := am ho; clear a8; clear ho hb hg hat))
   go_roundg k1
   case measure => have := aG.out; omega
   case rel => exact ⟨aW, (wrap64 (a0 + 1)), rfl, H, ⟨by have := aG.out; omega⟩, ⟨sR <| aQ.out⟩, ⟨sR <| a2.out⟩, ⟨sW HB.out⟩⟩
  replace H := am H
  obtain ⟨b7, b4, rfl⟩ := Kd.R_slice a2.out
  have a4 : 0 ≤ (a0 : Int) := oD (by assumption)
  have a3 : a0 < (a7.length : Int) := oD (by assumption)
  obtain ⟨aK, aA, a6⟩ := Kd.at_bool (Kd.R_reads' a2.out).2.2 a0 a4 a3
  (try rw [← aE.out] at a6)
  cases aA
  replace a4 := eq_true a4
  replace a3 := eq_true a3
  go_wp2
  go_roundg k1
  case measure => have := aG.out; omega
  case rel => exact ⟨a5, (wrap64 (a0 + 1)), rfl, H, ⟨by have := aG.out; omega⟩, ⟨sR <| a8.out⟩, ⟨sR <| a2.out⟩, ⟨sW HB.out⟩⟩
mutual
def rR : Nat → List (S31) → List Bool → Int → Option (List Bool)
 | 0, _, _, _ => none
 | k + 1, x0, x3, x4 => if x4 < (x0.length : Int) then (if 0 ≤ x4 then ((rF ((kA x0 x4).f0)).bind fun a1 => ((tY k ((kA x0 x4).f0) ((kA x0 x4).f1) ((kA x0 x4).f2) ((kA x0 x4).f3) ((kA x0 x4).f4) ((kA x0 x4).f5)).bind fun a0 => (rQ k x0 x3 x4 a1 a0 0))) else (none)) else (some x3)
def rQ : Nat → List (S31) → List Bool → Int → Bool → List Int → Int → Option (List Bool)
 | 0, _, _, _, _, _, _ => none
 | k + 1, x0, x3, x4, x5, x6, x7 => if x7 < (x6.length : Int) then (if x5 = true then (rQ k x0 x3 x4 true x6 (wrap64 (x7 + 1))) else (if 0 ≤ x7 then (if 0 ≤ (rd x6 x7) then (if (rd x6 x7) < (x3.length : Int) then (rQ k x0 x3 x4 (vD false x3 (rd x6 x7)) x6 (wrap64 (x7 + 1))) else (none)) else (none)) else (none))) else (if x3.length < 140737488355328 then (rR k x0 (x3 ++ [x5]) (wrap64 (x4 + 1))) else (none))
end
def yM (k : Nat) (l0 : List (S31)) : Option (List Bool) := rR k l0 (([] : List Bool)) 0
theorem spec_l02Holder.calls {k : Nat} {A0 : Option Addr} {c0 : Nat} {l0 : List (S31)} {r : List Bool} {w : World} (hr0 : Kd.C k31 w A0 l0.length l0) (hc0 : l0.length ≤ c0) (h : yM k l0 = some r) :
  Calls Try.prog 106 #[.slice A0 l0.length c0] w fun e w' => ∃ b2 : Value, e = .returned (b2) ∧ Kd.R Kd.bool 4 w' w.heap.size (fun _ => True) b2 r ∧ Below w.heap.size w w' := by
 have hu31 := Try.underlying31
 have b5 := am hr0
 have cF := am hc0
 clear hr0 hc0
 have HB := am (Below.refl w.heap.size w)
 have H := h
 clear h
 unfold yM at H
 generalize aI : ([] : List Bool) = b7 at H
 have aY := am aI.symm; clear aI
 replace H := am H
 go_enter Try.func106, Try.ntmps106
 go_wp2_with (first | ((with_reducible refine qC (N := 8) rfl ?_); refine Kd.R_lit Kd.bool _ 4 ?hg (N := 8) ?hd (xs := ([] : List Bool)) (inner := []) (ok := fun _ => True) (okp := fun _ => True) ?hr ?hp (fun _ hk => hk) trivial (Below.refl _ _) (Nat.le_refl _) (by simp) ?_; (case hd => rfl); (case hg => rfl); (case hr => (go_simp; done)); (case hp => exact (Reps.none _ _)); intro bP w2 aT hb hg_ hnew_; clear hg_ hnew_; (rw [← aY.out] at aT); have b1 := rL aT HB; replace HB := hB HB hb; clear hb aT))
 go_loopg [3, 4] k (fun kq v3 v4 w' => ∃ (a2 : List Bool) (a4 : Int), v4 = .int .i64 a4 ∧ Aside0 (rR kq l0 a2 a4 = some r) ∧ Aside0 (kq ≤ k) ∧ Aside0 (Kd.R Kd.bool 4 w' w.heap.size (fun _ => True) v3 a2) ∧ Aside0 (Below w.heap.size w w'))
 case atStart => exact ⟨b7, 0, rfl, H, ⟨Nat.le_refl _⟩, ⟨sR <| b1.out⟩, ⟨sW HB.out⟩⟩
 clear H
 obtain ⟨a2, a4, rfl, HA, aE, a0, HB⟩ := hrel
 cases gk with
 | zero => cases HA.out
 | succ k1 =>
  obtain ⟨H⟩ := HA
  simp only [rR] at H
  replace H := iD H; rcases H with ⟨aU, H⟩ | ⟨aU, H⟩
  rotate_left
  ·obtain rfl := oI H
   go_wp2
   go_ret
   exact ⟨_, rfl, sR <| a0.out, sW HB.out⟩
  replace H := iN H; obtain ⟨bG, H⟩ := H
  replace H := oA H; obtain ⟨b9, A6, H⟩ := H
  replace H := oA H; obtain ⟨aG, A7, H⟩ := H
  replace H := am H
  obtain ⟨bD, bB, aW, rfl, aR, aQ, aN, aM, aK, aJ⟩ := ix (pL (Kd.C_below b5.out HB.out) a4)
  go_wp2_with (first | ((with_reducible refine gW ?_); first | (refine gD (some 20) Try.func50 rfl (spec_l02Quant.calls _ _ _ A6.out) fun nd => ?_; obtain ⟨bC, bA, aV, bE, aC, aA, a9, a8, a7, a6⟩ := ix (pL b5.out a4); obtain rfl : aW = aV := (by injection bE); replace aC := kC HB.out aC; replace aA := kC HB.out aA; replace a9 := kC HB.out a9; replace a8 := kC HB.out a8; replace a7 := kC HB.out a7; replace a6 := kC HB.out a6) | (refine gF 70 (some 25) rfl ?_; refine gT Try.func70 (spec_Parts.calls A7.out) ?_; rintro b8 w8 ⟨b3, hb⟩; replace a0 := rB a0 hb; have b0 := rL b3 HB; replace HB := hB HB hb; (try clear hb); (try clear b3))))
  go_loopg [5, 7] k1 (fun kq v5 v7 w' => ∃ (a5 : Bool) (a1 : Int), v5 = .bool a5 ∧ v7 = .int .i64 a1 ∧ Aside0 (rQ kq l0 a2 a4 a5 aG a1 = some r) ∧ Aside0 (kq ≤ k1) ∧ Aside0 (Kd.R Kd.bool 4 w' w.heap.size (fun _ => True) u3 a2) ∧ Aside0 (Kd.R (Kd.int .i64) 3 w' w.heap.size (fun _ => True) b8 aG) ∧ Aside0 (Below w.heap.size w w'))
  case atStart => exact ⟨b9, 0, rfl, rfl, H, ⟨Nat.le_refl _⟩, ⟨sR <| a0.out⟩, ⟨sR <| b0.out⟩, ⟨sW HB.out⟩⟩
  clear H
  clear aU bG aR aQ aN aM aK aJ aC aA a9 a8 a7 a6 bD bC bB bA
  obtain ⟨a5, a1, rfl, rfl, HA, aD, a0, a3, HB⟩ := hrel
  cases gk with
  | zero => cases HA.out
  | succ k2 =>
   obtain ⟨H⟩ := HA
   simp only [rQ] at H
   replace H := iD H; rcases H with ⟨bF, H⟩ | ⟨bF, H⟩
   ·replace H := iB H; rcases H with ⟨rfl, H⟩ | ⟨rfl, H⟩
    ·replace H := am H
     obtain ⟨cE, b_, rfl⟩ := Kd.R_slice a3.out
     go_wp2
     go_roundg k2
     case measure => have := aE.out; have := aD.out; omega
     case rel => exact ⟨true, (wrap64 (a1 + 1)), rfl, rfl, H, ⟨by have := aE.out; have := aD.out; omega⟩, ⟨sR <| a0.out⟩, ⟨sR <| a3.out⟩, ⟨sW HB.out⟩⟩
    replace H := iN H; obtain ⟨bL, H⟩ := H
    replace H := iN H; obtain ⟨bK, H⟩ := H
    replace H := iN H; obtain ⟨bJ, H⟩ := H
    replace H := am H
    obtain ⟨cC, bZ, rfl⟩ := Kd.R_slice a3.out
    obtain ⟨bT, bR, bN, rfl, bI⟩ := ix (Kd.at_int (Kd.R_reads' a3.out).2.2 a1)
    obtain ⟨cB, bV, rfl⟩ := Kd.R_slice a0.out
    obtain ⟨bS, bQ, bM, rfl, bH⟩ := ix (Kd.at_bool (Kd.R_reads' a0.out).2.2 (rd aG a1))
    go_wp2
    go_roundg k2
    case measure => have := aE.out; have := aD.out; omega
    case rel => exact ⟨(vD false a2 (rd aG a1)), (wrap64 (a1 + 1)), rfl, rfl, H, ⟨by have := aE.out; have := aD.out; omega⟩, ⟨sR <| a0.out⟩, ⟨sR <| a3.out⟩, ⟨sW HB.out⟩⟩
   replace H := iP H; obtain ⟨b4, H⟩ := H
   have aZ := am b4
   clear b4
   generalize aH : a2 ++ [a5] = b6 at H
   have aX := am aH.symm; clear aH
   replace H := am H
   obtain ⟨c1, bU, rfl⟩ := Kd.R_slice a3.out
   go_wp2_with (first | ((with_reducible refine qG (b := .append) (xs := #[.tmp 42, .tmp 44]) rfl ?_); at_builtin; refine Kd.R_append Kd.bool (w0 := w) w.heap.size rfl (.tmp 42) (.tmp 44) 76 4 (.bool false) 1 rfl Try.underlying76 b0f rfl (by decide) oM u3 a2 a5 [.bool a5] (fun _ => True) (fun _ => False) rfl rfl ?aP (fun _ hk => hk.elim) ?aF ?aO ?aB ?aS ?aL ?_; (case aP => exact rfl); (case aB => exact (by exact sW HB.out)); (case aF => exact (fun _ _ => trivial)); (case aO => exact (by exact sR <| a0.out)); (case aS => exact (kJ (by exact sW HB.out))); (case aL => have := aZ.out; omega); intro bO w19 ho hb hg hat; rw [← aX.out] at ho; replace a3 := oV a3 a0 hg; replace HB := am hb; have a_ := am ho; clear a0; clear ho hb hg hat))
   go_roundg k2
   case measure => have := aE.out; have := aD.out; omega
   case rel => exact ⟨b6, (wrap64 (a4 + 1)), rfl, H, ⟨by have := aE.out; have := aD.out; omega⟩, ⟨sR <| a_.out⟩, ⟨sW HB.out⟩⟩
def uF (a0 : Int) : Option (Bool) := if a0 = 2 then (some true) else (if a0 = 3 then (some true) else (if a0 = 4 then (some true) else ((rF a0).bind fun a1 => (some a1))))
theorem spec_l02Outer.calls {a0 : Int} {r : Bool} {w : World} (h : uF a0 = some r) :
  Calls Try.prog 107 #[.int .i64 a0] w fun e w' => e = .returned (.bool r) ∧ Drawn0 w w' := by
 have H := h
 clear h
 unfold uF at H
 replace H := iE H; rcases H with ⟨a6, a5, H⟩ | ⟨a6, a5, H⟩
 ·obtain rfl := oI H
  go_enter Try.func107, Try.ntmps107
  go_wp2
  go_ret
  exact ⟨rfl, dR⟩
 replace H := iE H; rcases H with ⟨a4, a3, H⟩ | ⟨a4, a3, H⟩
 ·obtain rfl := oI H
  go_enter Try.func107, Try.ntmps107
  go_wp2
  go_ret
  exact ⟨rfl, dR⟩
 replace H := iE H; rcases H with ⟨a2, a1, H⟩ | ⟨a2, a1, H⟩
 ·obtain rfl := oI H
  go_enter Try.func107, Try.ntmps107
  go_wp2
  go_ret
  exact ⟨rfl, dR⟩
 replace H := oA H; obtain ⟨a7, A5, H⟩ := H
 obtain rfl := oI H
 go_enter Try.func107, Try.ntmps107
 go_wp2_with (first | (go_at_call 50; refine cD (spec_l02Quant.calls _ _ _ A5.out) fun nd => ?_))
 go_ret
 exact ⟨rfl, dR⟩
end Go.Proofs.Ytkpipmojkhikaaa.PAll
