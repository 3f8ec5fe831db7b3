/- Written by a program of this session over the loaded program, and by hand: Go functions as plain Lean functions, and that a call comes to what they say. -/
import Derived.Outline
import Derived.Test.YtkpipmojkhikaaaVDenied0
import Derived.Test.YtkpipmojkhikaaaVDenied9
import Derived.Test.YtkpipmojkhikaaaVDenied12
import Derived.Test.YtkpipmojkhikaaaBase
import Derived.Test.YtkpipmojkhikaaaSq
namespace Go.Proofs.Ytkpipmojkhikaaa.PAll
open Go.RowKit Go.Proofs.YtkpipmojkhikaaaW.PrintWords Go.Proofs.YtkpipmojkhikaaaW.PrintLast Go.Proofs.YtkpipmojkhikaaaW.PrintMore Go.Proofs.YtkpipmojkhikaaaW.Sq
attribute [local go_sem] qZ qX sT sS qC qB qY qW
set_option linter.unusedVariables false
set_option maxHeartbeats 8000000
set_option maxRecDepth 100000
set_option linter.unusedSimpArgs false
def pY : Nat → Int → List Bool → List (S31) → Int → Int → Option (Int)
 | 0, _, _, _, _, _ => none
 | k + 1, x1, x2, x9, a1, a0 => if a0 < a1 then (if 0 ≤ a0 then (if a0 < (x9.length : Int) then (if a0 < (x2.length : Int) then (if vU false x2 a0 = true then (if ((kA x9 a0).f0) = 1 then (if ((kA x9 a0).f2) = x1 then (some a0) else (pY k x1 x2 x9 a1 (wrap64 (a0 + 1)))) else (pY k x1 x2 x9 a1 (wrap64 (a0 + 1)))) else (pY k x1 x2 x9 a1 (wrap64 (a0 + 1)))) else (none)) else (none)) else (none)) else (some (-1))
def xT (k : Nat) (l0 : List (S31)) (a1 : Int) (l2 : List Bool) : Option (Int) := pY k a1 l2 l0 (l0.length : Int) 0
theorem b3i {P : Prop} (h : P := by
 replace H := am H
 obtain ⟨aS, aR, aL, rfl, aF, aE, aD, aC, aB, aA⟩ := ix (oZ (Kd.C_below aO.out HB.out) a2)
 go_wp2_with (first | ((with_reducible refine gW ?_); first | (refine bX 8 31 #[.int .i64 0, .int .i64 0, .int .i64 0, .int .i64 0, .int .i64 0, .int .i64 0] ?_; intro a3 hg a_ hbox hb; have a8 := am hbox; have a5 := gw hg; have aM := gw hg; replace HB := hB HB hb; clear hb hbox hg; have aZ := cf6 a8.out; have a7 : 0 ≤ (a2 : Int) := oD (by assumption); have a6 : a2 < (l2.length : Int) := oD (by assumption); obtain ⟨a4, a9, a0⟩ := Kd.at_bool aN.out a2 a7 a6; (try rw [← aG.out] at a0); cases a9; have hn710_0 : a4.block ≠ a3 := Nat.ne_of_lt (Nat.lt_of_lt_of_le (by have := World.block_lt_of_cell? _ _ a0; rwa [kF] at this) a5.out); have hn710_1 : a4.block ≠ a3 := Nat.ne_of_lt (Nat.lt_of_lt_of_le (by have := World.block_lt_of_cell? _ _ a0; rwa [kF] at this) a5.out); have hn710_2 : a4.block ≠ a3 := Nat.ne_of_lt (Nat.lt_of_lt_of_le (by have := World.block_lt_of_cell? _ _ a0; rwa [kF] at this) a5.out); have hn710_3 : a4.block ≠ a3 := Nat.ne_of_lt (Nat.lt_of_lt_of_le (by have := World.block_lt_of_cell? _ _ a0; rwa [kF] at this) a5.out); have hn710_4 : a4.block ≠ a3 := Nat.ne_of_lt (Nat.lt_of_lt_of_le (by have := World.block_lt_of_cell? _ _ a0; rwa [kF] at this) a5.out); have hn710_5 : a4.block ≠ a3 := Nat.ne_of_lt (Nat.lt_of_lt_of_le (by have := World.block_lt_of_cell? _ _ a0; rwa [kF] at this) a5.out); replace a0 := kC HB.out a0; replace a0 := (kH (p := ⟨a3, 0, none⟩) (by (rw [kF]; exact hn710_0)) (.int .i64 ((kA l0 a2).f0))).trans a0; replace a0 := (kH (p := ⟨a3, 1, none⟩) (by (rw [kF]; exact hn710_1)) (.int .i64 ((kA l0 a2).f1))).trans a0; replace a0 := (kH (p := ⟨a3, 2, none⟩) (by (rw [kF]; exact hn710_2)) (.int .i64 ((kA l0 a2).f2))).trans a0; replace a0 := (kH (p := ⟨a3, 3, none⟩) (by (rw [kF]; exact hn710_3)) (.int .i64 ((kA l0 a2).f3))).trans a0; replace a0 := (kH (p := ⟨a3, 4, none⟩) (by (rw [kF]; exact hn710_4)) (.int .i64 ((kA l0 a2).f4))).trans a0; replace a0 := (kH (p := ⟨a3, 5, none⟩) (by (rw [kF]; exact hn710_5)) (.int .i64 ((kA l0 a2).f5))).trans a0; clear hn710_0; clear hn710_1; clear hn710_2; clear hn710_3; clear hn710_4; clear hn710_5; replace a7 := eq_true a7; replace a6 := eq_true a6)))
 go_roundg k1
 case measure => have := aQ.out; omega
 case rel => exact ⟨(wrap64 (a2 + 1)), rfl, H, ⟨by have := aQ.out; omega⟩, ⟨bW⟩⟩) : P := h
theorem impl_placeOf.calls {k : Nat} {A0 : Option Addr} {c0 : Nat} {l0 : List (S31)} {a1 : Int} {A2 : Option Addr} {c2 : Nat} {l2 : List Bool} {r : Int} {w : World} (hr0 : Kd.C k31 w A0 l0.length l0) (hc0 : l0.length ≤ c0) (hr2 : Kd.C Kd.bool w A2 l2.length l2) (hc2 : l2.length ≤ c2) (h : xT k l0 a1 l2 = some r) :
  Calls Try.prog 154 #[.slice A0 l0.length c0, .int .i64 a1, .slice A2 l2.length c2] w fun e w' => e = .returned (.int .i64 r) ∧ Below w.heap.size w w' := by
 have hu31 := Try.underlying31
 have aO := am hr0
 have b2 := am hc0
 clear hr0 hc0
 have aN := am hr2
 have b1 := am hc2
 clear hr2 hc2
 have HB := am (Below.refl w.heap.size w)
 have H := h
 clear h
 unfold xT at H
 replace H := am H
 go_enter Try.func154, Try.ntmps154
 go_wp2
 go_loopg [11] k (fun kq aV w' => ∃ (a2 : Int), aV = .int .i64 a2 ∧ Aside0 (pY kq a1 l2 l0 (l0.length : Int) a2 = some r) ∧ Aside0 (kq ≤ k) ∧ Aside0 (Below w.heap.size w w'))
 case atStart => exact ⟨0, rfl, H, ⟨Nat.le_refl _⟩, ⟨sW HB.out⟩⟩
 clear H
 obtain ⟨a2, rfl, HA, aQ, HB⟩ := hrel
 cases gk with
 | zero => cases HA.out
 | succ k1 =>
  obtain ⟨H⟩ := HA
  simp only [pY] at H
  replace H := iD H; rcases H with ⟨aT, H⟩ | ⟨aT, H⟩
  ·replace H := iN H; obtain ⟨aY, H⟩ := H
   replace H := iN H; obtain ⟨aX, H⟩ := H
   replace H := iN H; obtain ⟨aW, H⟩ := H
   generalize hbq8 : vU false l2 a2 = b0 at H
   have aG := am hbq8.symm; clear hbq8
   replace H := iB H; rcases H with ⟨rfl, H⟩ | ⟨rfl, H⟩
   ·replace H := iE H; rcases H with ⟨aK, aJ, H⟩ | ⟨aK, aJ, H⟩
    ·replace H := iE H; rcases H with ⟨aI, aH, H⟩ | ⟨aI, aH, H⟩
     ·obtain rfl := oI H
      obtain ⟨aS, aR, aL, rfl, aF, aE, aD, aC, aB, aA⟩ := ix (oZ (Kd.C_below aO.out HB.out) a2)
      go_wp2_with (first | ((with_reducible refine gW ?_); first | (refine bX 8 31 #[.int .i64 0, .int .i64 0, .int .i64 0, .int .i64 0, .int .i64 0, .int .i64 0] ?_; intro a3 hg w12 hbox hb; have a8 := am hbox; have a5 := gw hg; have aM := gw hg; replace HB := hB HB hb; clear hb hbox hg; have aU := cf6 a8.out; have a7 : 0 ≤ (a2 : Int) := oD (by assumption); have a6 : a2 < (l2.length : Int) := oD (by assumption); obtain ⟨a4, a9, a0⟩ := Kd.at_bool aN.out a2 a7 a6; (try rw [← aG.out] at a0); cases a9; have hn710_0 : a4.block ≠ a3 := Nat.ne_of_lt (Nat.lt_of_lt_of_le (by have := World.block_lt_of_cell? _ _ a0; rwa [kF] at this) a5.out); have hn710_1 : a4.block ≠ a3 := Nat.ne_of_lt (Nat.lt_of_lt_of_le (by have := World.block_lt_of_cell? _ _ a0; rwa [kF] at this) a5.out); have hn710_2 : a4.block ≠ a3 := Nat.ne_of_lt (Nat.lt_of_lt_of_le (by have := World.block_lt_of_cell? _ _ a0; rwa [kF] at this) a5.out); have hn710_3 : a4.block ≠ a3 := Nat.ne_of_lt (Nat.lt_of_lt_of_le (by have := World.block_lt_of_cell? _ _ a0; rwa [kF] at this) a5.out); have hn710_4 : a4.block ≠ a3 := Nat.ne_of_lt (Nat.lt_of_lt_of_le (by have := World.block_lt_of_cell? _ _ a0; rwa [kF] at this) a5.out); have hn710_5 : a4.block ≠ a3 := Nat.ne_of_lt (Nat.lt_of_lt_of_le (by have := World.block_lt_of_cell? _ _ a0; rwa [kF] at this) a5.out); replace a0 := kC HB.out a0; replace a0 := (kH (p := ⟨a3, 0, none⟩) (by (rw [kF]; exact hn710_0)) (.int .i64 ((kA l0 a2).f0))).trans a0; replace a0 := (kH (p := ⟨a3, 1, none⟩) (by (rw [kF]; exact hn710_1)) (.int .i64 ((kA l0 a2).f1))).trans a0; replace a0 := (kH (p := ⟨a3, 2, none⟩) (by (rw [kF]; exact hn710_2)) (.int .i64 ((kA l0 a2).f2))).trans a0; replace a0 := (kH (p := ⟨a3, 3, none⟩) (by (rw [kF]; exact hn710_3)) (.int .i64 ((kA l0 a2).f3))).trans a0; replace a0 := (kH (p := ⟨a3, 4, none⟩) (by (rw [kF]; exact hn710_4)) (.int .i64 ((kA l0 a2).f4))).trans a0; replace a0 := (kH (p := ⟨a3, 5, none⟩) (by (rw [kF]; exact hn710_5)) (.int .i64 ((kA l0 a2).f5))).trans a0; clear hn710_0; clear hn710_1; clear hn710_2; clear hn710_3; clear hn710_4; clear hn710_5; replace a7 := eq_true a7; replace a6 := eq_true a6)))
      go_ret
      exact ⟨rfl, bW⟩
     exact b3i
    exact b3i
   exact b3i
  obtain rfl := oI H
  go_wp2
  go_ret
  exact ⟨rfl, sW HB.out⟩
def vJ (k : Nat) (l0 : List (S31)) (a1 : Int) : Option (Int) := (vF k l0 a1).bind fun a2 => ((xT k l0 a1 a2).bind fun a0 => (some a0))
theorem impl_firstFree.calls {k : Nat} {A0 : Option Addr} {c0 : Nat} {l0 : List (S31)} {a1 r : Int} {w : World} (hr0 : Kd.C k31 w A0 l0.length l0) (hc0 : l0.length ≤ c0) (h : vJ k l0 a1 = some r) :
  Calls Try.prog 129 #[.slice A0 l0.length c0, .int .i64 a1] w fun e w' => e = .returned (.int .i64 r) ∧ Below w.heap.size w w' := by
 have a3 := am hr0
 have a4 := am hc0
 clear hr0 hc0
 have HB := am (Below.refl w.heap.size w)
 have H := h
 clear h
 unfold vJ at H
 replace H := oA H; obtain ⟨a7, A3, H⟩ := H
 replace H := oA H; obtain ⟨a6, A4, H⟩ := H
 obtain rfl := oI H
 go_enter Try.func129, Try.ntmps129
 go_wp2_with (first | ((with_reducible refine gW ?_); first | (refine gC 74 (some 9) Try.func74 #[.slice A0 l0.length c0, .int .i64 a1] ?_; (with_reducible refine (impl_freeAt.calls _ _ _ _ _ _ _ ?side1 ?side2 A3.out).mono ?_); (case side1 => repeat (first | exact a3.out | (with_reducible refine Kd.C_alloc ?_ _) | (with_reducible refine Kd.C_drewN ?_ _) | (with_reducible refine Kd.C_drew ?_))); (case side2 => exact a4.out); rintro e w5 ⟨a5, rfl, a2, hb⟩; refine ⟨_, rfl, ?_⟩; have a0 := rL a2 HB; replace HB := hB HB hb; (try clear hb); (try clear a2); obtain ⟨a9, a8, rfl⟩ := Kd.R_slice a0.out) | (refine gF 154 (some 10) rfl ?_; refine gS Try.func154 (impl_placeOf.calls (sC (Kd.C_below a3.out HB.out)) a4.out (sC (Kd.R_reads' a0.out).2.2) ((Kd.R_reads' a0.out).2.1) A4.out) ?_; rintro w7 hb; replace a0 := rB a0 hb; replace HB := hB HB hb; (try clear hb))))
 go_ret
 exact ⟨rfl, sW HB.out⟩
def uH : Nat → List (S31) → List Int → Int → Option (List Int)
 | 0, _, _, _ => none
 | k + 1, x0, x3, a0 => if a0 < 8 then ((vJ k x0 a0).bind fun a1 => (if a1 ≥ 0 then (if x3.length < 17592186044416 then (uH k x0 (x3 ++ [a0]) (wrap64 (a0 + 1))) else (none)) else (uH k x0 x3 (wrap64 (a0 + 1))))) else (some x3)
def yW (k : Nat) (l0 : List (S31)) : Option (List Int) := (some (([] : List Int) : List Int)).bind fun a0 => ((tH k l0).bind fun a1 => (if a1 = true then (uH k l0 a0 0) else (some a0)))
theorem impl_Free.calls {k : Nat} {A0 : Option Addr} {c0 : Nat} {l0 : List (S31)} {r : List Int} {w : World} (hr0 : Kd.C k31 w A0 l0.length l0) (hc0 : l0.length ≤ c0) (h : yW k l0 = some r) :
  Calls Try.prog 102 #[.slice A0 l0.length c0] w fun e w' => ∃ aH : Value, e = .returned (aH) ∧ Kd.R (Kd.int .i64) 3 w' w.heap.size (fun _ => True) aH r ∧ Below w.heap.size w w' := by
 have a8 := am hr0
 have aA := am hc0
 clear hr0 hc0
 have HB := am (Below.refl w.heap.size w)
 have H := h
 clear h
 unfold yW at H
 replace H := oS H; obtain ⟨aJ, a7, H⟩ := H
 replace H := oA H; obtain ⟨aT, A2, H⟩ := H
 replace H := iB H; rcases H with ⟨rfl, H⟩ | ⟨rfl, H⟩
 rotate_left
 ·obtain rfl := oI H
  go_enter Try.func102, Try.ntmps102
  go_wp2_with (first | ((with_reducible refine gW ?_); first | (refine lE (Kd.int .i64) 3 5 ?_; intro aK w14 a5 hb; (rw [← a7.out] at a5); have a1 := rL a5 HB; replace HB := hB HB hb; clear hb a5) | (refine gF 44 (some 7) rfl ?_; refine gS Try.func44 (impl_TermOk.calls _ _ _ _ _ _ (sC (Kd.C_below a8.out HB.out)) aA.out A2.out) ?_; rintro w16 hb; replace a1 := rB a1 hb; replace HB := hB HB hb; (try clear hb))))
  go_ret
  exact ⟨_, rfl, sR <| a1.out, sW HB.out⟩
 replace H := am H
 go_enter Try.func102, Try.ntmps102
 go_wp2_with (first | ((with_reducible refine gW ?_); first | (refine lE (Kd.int .i64) 3 5 ?_; intro aK w4 aC hb; (rw [← a7.out] at aC); have a1 := rL aC HB; replace HB := hB HB hb; clear hb aC) | (refine gF 44 (some 7) rfl ?_; refine gS Try.func44 (impl_TermOk.calls _ _ _ _ _ _ (sC (Kd.C_below a8.out HB.out)) aA.out A2.out) ?_; rintro w6 hb; replace a1 := rB a1 hb; replace HB := hB HB hb; (try clear hb))))
 go_loopg [3, 10] k (fun kq v3 aQ w' => ∃ (a3 : List Int) (a0 : Int), aQ = .int .i64 a0 ∧ Aside0 (uH kq l0 a3 a0 = some r) ∧ Aside0 (kq ≤ k) ∧ Aside0 (Kd.R (Kd.int .i64) 3 w' w.heap.size (fun _ => True) v3 a3) ∧ Aside0 (Below w.heap.size w w'))
 case atStart => exact ⟨aJ, 0, rfl, H, ⟨Nat.le_refl _⟩, ⟨sR <| a1.out⟩, ⟨sW HB.out⟩⟩
 clear H
 obtain ⟨a3, a0, rfl, HA, a9, a2, HB⟩ := hrel
 cases gk with
 | zero => cases HA.out
 | succ k1 =>
  obtain ⟨H⟩ := HA
  simp only [uH] at H
  replace H := iD H; rcases H with ⟨aN, H⟩ | ⟨aN, H⟩
  rotate_left
  ·obtain rfl := oI H
   go_wp2
   go_ret
   exact ⟨_, rfl, sR <| a2.out, sW HB.out⟩
  replace H := oA H; obtain ⟨a4, A8, H⟩ := H
  by_cases c9 : a4 ≥ 0
  ·rw [if_pos c9] at H
   have aM : decide (0 ≤ a4) = true := decide_eq_true c9
   clear c9
   replace H := iP H; obtain ⟨c10, H⟩ := H
   have aE := am c10
   clear c10
   generalize a6 : a3 ++ [a0] = aI at H
   have aD := am a6.symm; clear a6
   replace H := am H
   go_wp2_with (first | ((with_reducible refine gW ?_); first | (refine gF 129 (some 15) rfl ?_; refine gS Try.func129 (impl_firstFree.calls (sC (Kd.C_below a8.out HB.out)) aA.out A8.out) ?_; rintro w11 hb; replace a2 := rB a2 hb; replace HB := hB HB hb; (try clear hb)) | ((with_reducible refine kW (b := .append) (xs := #[.tmp 17, .tmp 19]) rfl ?_); at_builtin; refine Kd.R_append (Kd.int .i64) (w0 := w) w.heap.size rfl (.tmp 17) (.tmp 19) 25 3 (.int .i64 0) 8 rfl Try.underlying25 a0u rfl (by decide) oM u3 a3 a0 [.int .i64 a0] (fun _ => True) (fun _ => False) rfl rfl ?aP (fun _ hk => hk.elim) ?aF ?aO ?aB ?aS ?aL ?_; (case aP => exact rfl); (case aB => exact (by exact sW HB.out)); (case aF => exact (fun _ _ => trivial)); (case aO => exact (by exact sR <| a2.out)); (case aS => exact (kE (by exact sW HB.out))); (case aL => have := aE.out; omega); intro aR w12 ho hb hg hat; rw [← aD.out] at ho; replace HB := am hb; have aG := am ho; clear a2; clear ho hb hg hat)))
   go_roundg k1
   case measure => have := a9.out; omega
   case rel => exact ⟨aI, (wrap64 (a0 + 1)), rfl, H, ⟨by have := a9.out; omega⟩, ⟨sR <| aG.out⟩, ⟨sW HB.out⟩⟩
  rw [if_neg c9] at H
  have aM : decide (0 ≤ a4) = false := decide_eq_false c9
  clear c9
  replace H := am H
  go_wp2_with (first | ((with_reducible refine gW ?_); first | (refine gF 129 (some 15) rfl ?_; refine gS Try.func129 (impl_firstFree.calls (sC (Kd.C_below a8.out HB.out)) aA.out A8.out) ?_; rintro w13 hb; replace a2 := rB a2 hb; replace HB := hB HB hb; (try clear hb))))
  go_roundg k1
  case measure => have := a9.out; omega
  case rel => exact ⟨a3, (wrap64 (a0 + 1)), rfl, H, ⟨by have := a9.out; omega⟩, ⟨sR <| a2.out⟩, ⟨sW HB.out⟩⟩
def zC (l : List (S31)) (m : List Bool) (i : Nat) (ws : List Int) : Option (List Int) :=
  if vU false m (i : Int) = true ∧ ((kA l (i : Int)).f0 = 19 ∨ (kA l (i : Int)).f0 = 20) then (if rd ws (kA l (i : Int)).f2 > 0 then none else some (ws.set (kA l (i : Int)).f2.toNat (kA l (i : Int)).f4)) else some ws
def a9s (l : List (S31)) (m : List Bool) : Nat → Nat → List Int → Option (List Int)
  | 0, _, ws => some ws
  | n + 1, i, ws => (zC l m i ws).bind (a9s l m n (i + 1))
def a6a (l : List (S31)) (m : List Bool) (ws : List Int) : Nat → Nat → Bool
  | 0, _ => true
  | n + 1, i => if vU false m (i : Int) = true ∧ (kA l (i : Int)).f0 = 1 ∧ (kA l (i : Int)).f1 ≠ rd ws (kA l (i : Int)).f2 then false else a6a l m ws n (i + 1)
def c6u (l : List (S31)) (m : List Bool) : Bool := decide (m.length = l.length) && (List.range l.length).all fun i => !((kA l (i : Int)).f0 == 19 || (kA l (i : Int)).f0 == 20 || (kA l (i : Int)).f0 == 1) || decide (0 ≤ (kA l (i : Int)).f2 ∧ (kA l (i : Int)).f2 ≤ 7)
def szB (l : List (S31)) (m : List Bool) : Bool := match a9s l m l.length 0 (List.replicate 8 0) with | none => false | some ws => a6a l m ws l.length 0
def yA (l0 : List (S31)) (l1 : List Bool) : Option Bool := if c6u l0 l1 = true then some (szB l0 l1) else none
def a0m (ws : List Int) : Array Value := (ws.map (Value.int .i64)).toArray
theorem a3n (ws : List Int) (i : Nat) (h : i < ws.length) : (a0m ws)[i]? = some (.int .i64 (rd ws (i : Int))) := by
  simp [a0m, rd, h, List.getD_eq_getElem?_getD]
theorem b1l (ws : List Int) (i : Nat) (x : Int) : (a0m ws).setIfInBounds i (.int .i64 x) = a0m (ws.set i x) := by
  simp [a0m, List.map_set]
theorem d0p {w : World} {g T : Nat} (h : w.heap[g]? = some (.cells (a0m (List.replicate 8 0)) T (0, 0))) :
    (w.cell? ⟨g, 0, none⟩ = some (.int .i64 0) ∧ w.cell? ⟨g, 1, none⟩ = some (.int .i64 0) ∧ w.cell? ⟨g, 2, none⟩ = some (.int .i64 0) ∧ w.cell? ⟨g, 3, none⟩ = some (.int .i64 0) ∧ w.cell? ⟨g, 4, none⟩ = some (.int .i64 0) ∧ w.cell? ⟨g, 5, none⟩ = some (.int .i64 0) ∧ w.cell? ⟨g, 6, none⟩ = some (.int .i64 0) ∧ w.cell? ⟨g, 7, none⟩ = some (.int .i64 0)) ∧
    w.frozen? ⟨g, 0, none⟩ = false ∧ w.frozen? ⟨g, 1, none⟩ = false ∧ w.frozen? ⟨g, 2, none⟩ = false ∧ w.frozen? ⟨g, 3, none⟩ = false ∧ w.frozen? ⟨g, 4, none⟩ = false ∧ w.frozen? ⟨g, 5, none⟩ = false ∧ w.frozen? ⟨g, 6, none⟩ = false ∧ w.frozen? ⟨g, 7, none⟩ = false :=
  ⟨⟨(kG h 0).trans rfl, (kG h 1).trans rfl, (kG h 2).trans rfl, (kG h 3).trans rfl, (kG h 4).trans rfl, (kG h 5).trans rfl, (kG h 6).trans rfl, (kG h 7).trans rfl⟩, kP h 0, kP h 1, kP h 2, kP h 3, kP h 4, kP h 5, kP h 6, kP h 7⟩
theorem d0m {w : World} {g T : Nat} (h : w.heap[g]? = some (.cells (a0m (List.replicate 8 0)) T (0, 0))) :
    ((((((((w.setCell ⟨g, 0, none⟩ (.int .i64 0)).setCell ⟨g, 1, none⟩ (.int .i64 0)).setCell ⟨g, 2, none⟩ (.int .i64 0)).setCell ⟨g, 3, none⟩ (.int .i64 0)).setCell ⟨g, 4, none⟩ (.int .i64 0)).setCell ⟨g, 5, none⟩ (.int .i64 0)).setCell ⟨g, 6, none⟩ (.int .i64 0)).setCell ⟨g, 7, none⟩ (.int .i64 0)).heap[g]? = some (.cells (a0m (List.replicate 8 0)) T (0, 0)) :=
  pN (pN (pN (pN (pN (pN (pN (pN h 0 _ rfl) 1 _ rfl) 2 _ rfl) 3 _ rfl) 4 _ rfl) 5 _ rfl) 6 _ rfl) 7 _ rfl
theorem c8z (a b c d e f : Int) : pO a b c d e f = some ((a == 19) || (a == 20)) := by
  unfold pO
  by_cases h : a = 19 <;> simp [h]
theorem a7t {w : World} {g : Nat} {a : Addr} (n : S31) (hn : a.block ≠ g) : ((((((w.setCell ⟨g, 0, none⟩ (.int .i64 n.f0)).setCell ⟨g, 1, none⟩ (.int .i64 n.f1)).setCell ⟨g, 2, none⟩ (.int .i64 n.f2)).setCell ⟨g, 3, none⟩ (.int .i64 n.f3)).setCell ⟨g, 4, none⟩ (.int .i64 n.f4)).setCell ⟨g, 5, none⟩ (.int .i64 n.f5)).cell? a = w.cell? a :=
  (kH (p := ⟨g, 5, none⟩) hn _).trans ((kH (p := ⟨g, 4, none⟩) hn _).trans ((kH (p := ⟨g, 3, none⟩) hn _).trans ((kH (p := ⟨g, 2, none⟩) hn _).trans ((kH (p := ⟨g, 1, none⟩) hn _).trans (kH (p := ⟨g, 0, none⟩) hn _)))))
theorem c4t {w : World} {g h : Nat} (n : S31) {cs : Array Value} {T : Nat} (k : w.heap[h]? = some (.cells cs T (0, 0))) (hn : h ≠ g) : ((((((w.setCell ⟨g, 0, none⟩ (.int .i64 n.f0)).setCell ⟨g, 1, none⟩ (.int .i64 n.f1)).setCell ⟨g, 2, none⟩ (.int .i64 n.f2)).setCell ⟨g, 3, none⟩ (.int .i64 n.f3)).setCell ⟨g, 4, none⟩ (.int .i64 n.f4)).setCell ⟨g, 5, none⟩ (.int .i64 n.f5)).heap[h]? = some (.cells cs T (0, 0)) :=
  vZ (vZ (vZ (vZ (vZ (vZ k hn _) hn _) hn _) hn _) hn _) hn _
theorem a5n {w w0 : World} {g : Nat} (n : S31) (k : Below w0.heap.size w0 w) (hg : w0.heap.size ≤ g) : Below w0.heap.size w0 ((((((w.setCell ⟨g, 0, none⟩ (.int .i64 n.f0)).setCell ⟨g, 1, none⟩ (.int .i64 n.f1)).setCell ⟨g, 2, none⟩ (.int .i64 n.f2)).setCell ⟨g, 3, none⟩ (.int .i64 n.f3)).setCell ⟨g, 4, none⟩ (.int .i64 n.f4)).setCell ⟨g, 5, none⟩ (.int .i64 n.f5)) :=
  kX (kX (kX (kX (kX (kX k hg) hg) hg) hg) hg) hg
theorem b9j {P : Prop} (h : P := by
 go_wp2_with (first | ((with_reducible refine gW ?_); first | (refine bX 9 31 #[.int .i64 0, .int .i64 0, .int .i64 0, .int .i64 0, .int .i64 0, .int .i64 0] ?_; intro gb hg w12 hbox hb; have BX := am hbox; have GB := am (show w.heap.size ≤ gb by rw [hg]; exact kE (by exact sW HB.out)); have NE := am (show g5 ≠ gb by rw [hg]; exact Nat.ne_of_lt (vQ (by exact sB <| BW.out))); replace BW := am (kM (by exact sB <| BW.out) hb); replace HB := am (rA (by exact sW HB.out) hb); have zb := cf6 BX.out; have hm := (a7t (g := gb) (kA l0 (i : Int)) (by have h := GB.out; have := World.block_lt_of_cell? _ _ hc1; omega)).trans (kC HB.out hc1); clear hbox hb hg)))
 repeat (go_quiet (fail); try go_wp2)
 go_roundg g1
 case measure => omega
 case rel => exact ⟨i + 1, by go_num, ⟨by have := HG.out; omega⟩, ST, ⟨sB <| c4t (kA l0 (i : Int)) BW.out NE.out⟩, ⟨kI (a5n (kA l0 (i : Int)) HB.out GB.out) _⟩⟩) : P := h
set_option maxHeartbeats 4000000 in
theorem impl_sized.calls {A0 : Option Addr} {c0 : Nat} {l0 : List (S31)} {A1 : Option Addr} {c1 : Nat} {l1 : List Bool} {r : Bool} {w : World} (hr0 : Kd.C k31 w A0 l0.length l0) (hc0 : l0.length ≤ c0) (hr1 : Kd.C Kd.bool w A1 l1.length l1) (hc1 : l1.length ≤ c1) (h : yA l0 l1 = some r) :
    Calls Try.prog 103 #[.slice A0 l0.length c0, .slice A1 l1.length c1] w fun e w' => e = .returned (.bool r) ∧ Below w.heap.size w w' := by
 unfold yA at h
 by_cases hz : c6u l0 l1 = true
 rotate_left
 ·rw [if_neg hz] at h; exact absurd h (by simp)
 rw [if_pos hz] at h
 obtain rfl := oI h
 clear h
 unfold c6u at hz
 simp only [Bool.and_eq_true, decide_eq_true_eq, List.all_eq_true, List.mem_range, Bool.or_eq_true, Bool.not_eq_true', Bool.or_eq_false_iff] at hz
 obtain ⟨hlen, hK⟩ := hz
 have a1 := am hr0
 have a2 := am hr1
 have HL := am hlen
 have HK := am hK
 have hl0 : (l0.length : Int) ≤ 9223372036854775807 := by have := a1.out.2.1; omega
 have HB := am (Below.refl w.heap.size w)
 clear hr0 hc0 hr1 hc1 hlen hK
 go_enter Try.func103, Try.ntmps103
 go_wp2_with (first | ((with_reducible refine qF (N := 5) rfl ?_); refine wT ?hg (N := 5) ?hd (cs := a0m (List.replicate 8 0)) (t := 63) ?hr ?_; (case hd => rfl); (case hg => rfl); (case hr => (go_simp; rfl)); intro g5 hg w6 hbox hb; have BW := am hbox; have a0 := am (show w.heap.size ≤ g5 by rw [hg]; exact kE HB.out); replace HB := am (rA HB.out hb); have z8 := d0p BW.out; clear hbox hb hg))
 clear z8
 go_loopg [13] l0.length (fun g a4 w' => ∃ (i : Nat) (ws : List Int), a4 = .int .i64 (i : Int) ∧ Aside0 (g + i = l0.length) ∧ Aside0 (ws.length = 8) ∧ Aside0 (a9s l0 l1 l0.length 0 (List.replicate 8 0) = a9s l0 l1 (l0.length - i) i ws) ∧ Aside0 (w'.heap[g5]? = some (.cells (a0m ws) 63 (0, 0))) ∧ Aside0 (Below w.heap.size w w'))
 case atStart => exact ⟨0, List.replicate 8 0, rfl, ⟨rfl⟩, ⟨rfl⟩, ⟨rfl⟩, ⟨d0m BW.out⟩, ⟨kX (kX (kX (kX (kX (kX (kX (kX HB.out a0.out) a0.out) a0.out) a0.out) a0.out) a0.out) a0.out) a0.out⟩⟩
 clear BW HB
 obtain ⟨i, ws, rfl, HG, HW, HS, BW, HB⟩ := hrel
 by_cases hi : i < l0.length
 ·have t1 : decide ((i : Int) < (l0.length : Int)) = true := decide_eq_true oM
  have p1 : (0 : Int) ≤ (i : Int) := by omega
  have p2 : (i : Int) < (l0.length : Int) := by omega
  have p3 : (i : Int) < (l1.length : Int) := by have := HL.out; omega
  have HKi := am (HK.out i hi)
  have HT := am (show a9s l0 l1 l0.length 0 (List.replicate 8 0) = (zC l0 l1 i ws).bind (a9s l0 l1 (l0.length - (i + 1)) (i + 1)) by rw [HS.out, show l0.length - i = (l0.length - (i + 1)) + 1 by omega]; rfl)
  clear HS
  obtain ⟨a6, e0, x0, x1, x2, x3, x4, x5⟩ := oZ a1.out (i : Int) p1 p2
  cases e0
  replace x0 := kC HB.out x0
  replace x1 := kC HB.out x1
  replace x2 := kC HB.out x2
  replace x3 := kC HB.out x3
  replace x4 := kC HB.out x4
  replace x5 := kC HB.out x5
  obtain ⟨a5, e1, hc1⟩ := Kd.at_bool a2.out (i : Int) p1 p3
  cases e1
  rw [Int.toNat_natCast] at hc1 x0 x1 x2 x3 x4 x5
  obtain ⟨g1, rfl⟩ : ∃ g1, gk = g1 + 1 := ⟨gk - 1, by have := HG.out; omega⟩
  have q1 := eq_true p1
  have q2 := eq_true p2
  have q3 := eq_true p3
  clear p1 p2 p3
  by_cases m : vU false l1 (i : Int) = true
  rotate_left
  ·have m' : vU false l1 (i : Int) = false := by simpa using m
   rw [m'] at hc1
   have st : zC l0 l1 i ws = some ws := by
    unfold zC; rw [if_neg (fun h => m h.1)]
   have ST := am st
   clear st m
   go_wp2_with (first | ((with_reducible refine gW ?_); first | (refine bX 7 31 #[.int .i64 0, .int .i64 0, .int .i64 0, .int .i64 0, .int .i64 0, .int .i64 0] ?_; intro gb hg w12 hbox hb; have BX := am hbox; have GB := am (show w.heap.size ≤ gb by rw [hg]; exact kE (by exact sW HB.out)); have NE := am (show g5 ≠ gb by rw [hg]; exact Nat.ne_of_lt (vQ (by exact sB <| BW.out))); replace BW := am (kM (by exact sB <| BW.out) hb); replace HB := am (rA (by exact sW HB.out) hb); have zb := cf6 BX.out; have hm := (a7t (g := gb) (kA l0 (i : Int)) (by have h := GB.out; have := World.block_lt_of_cell? _ _ hc1; omega)).trans (kC HB.out hc1); clear hbox hb hg)))
   go_roundg g1
   case measure => omega
   case rel =>
    refine ⟨i + 1, ws, by go_num, ⟨by have := HG.out; omega⟩, HW, ⟨?_⟩, ⟨c4t _ BW.out NE.out⟩, ⟨a5n _ HB.out GB.out⟩⟩
    have h := HT.out
    rw [ST.out] at h
    exact h
  rw [m] at hc1
  by_cases q : (((kA l0 (i : Int)).f0 == 19) || ((kA l0 (i : Int)).f0 == 20)) = true
  rotate_left
  ·have q' : (((kA l0 (i : Int)).f0 == 19) || ((kA l0 (i : Int)).f0 == 20)) = false := by simpa using q
   have st : zC l0 l1 i ws = some ws := by
    unfold zC; rw [if_neg (fun h => q (by simpa using h.2))]
   have ST := am st
   clear st q
   go_wp2_with (first | (go_at_call 53; refine (impl_isQuant.calls _ _ (c8z _ _ _ _ _ _)).mono ?_; rintro e w20 ⟨rfl, hb⟩; have BQ := am (kM (pn BX.out) hb); have BW' := am (kM (c4t (kA l0 (i : Int)) BW.out NE.out) hb); have HB' := am (rA (a5n (kA l0 (i : Int)) HB.out GB.out) hb); clear BW HB BX zb hm hb; have BW := BW'; have HB := HB'; clear BW' HB'; have zq := cf6 BQ.out) | ((with_reducible refine gW ?_); first | (refine bX 7 31 #[.int .i64 0, .int .i64 0, .int .i64 0, .int .i64 0, .int .i64 0, .int .i64 0] ?_; intro gb hg w12 hbox hb; have BX := am hbox; have GB := am (show w.heap.size ≤ gb by rw [hg]; exact kE (by exact sW HB.out)); have NE := am (show g5 ≠ gb by rw [hg]; exact Nat.ne_of_lt (vQ (by exact sB <| BW.out))); replace BW := am (kM (by exact sB <| BW.out) hb); replace HB := am (rA (by exact sW HB.out) hb); have zb := cf6 BX.out; have hm := (a7t (g := gb) (kA l0 (i : Int)) (by have h := GB.out; have := World.block_lt_of_cell? _ _ hc1; omega)).trans (kC HB.out hc1); clear hbox hb hg)))
   go_roundg g1
   case measure => omega
   case rel =>
    refine ⟨i + 1, ws, by go_num, ⟨by have := HG.out; omega⟩, HW, ⟨?_⟩, BW, HB⟩
    have h := HT.out
    rw [ST.out] at h
    exact h
  have hq : (kA l0 (i : Int)).f0 = 19 ∨ (kA l0 (i : Int)).f0 = 20 := by simpa using q
  have hk : 0 ≤ (kA l0 (i : Int)).f2 ∧ (kA l0 (i : Int)).f2 ≤ 7 := by
   rcases HKi.out with h | h
   ·exfalso
    rcases hq with hq | hq
    ·exact absurd h.1.1 (by simp [hq])
    exact absurd h.1.2 (by simp [hq])
   exact h
  have k1 : decide (0 ≤ (kA l0 (i : Int)).f2) = true := decide_eq_true hk.1
  have k2 : decide ((kA l0 (i : Int)).f2 < 8) = true := decide_eq_true oM
  have k3 : (0 ≤ (kA l0 (i : Int)).f2) = True := eq_true hk.1
  have k4 : ((kA l0 (i : Int)).f2 < 8) = True := eq_true oM
  have HKK := am hk
  have HQ := am hq
  clear hk hq
  have st : zC l0 l1 i ws = if rd ws (kA l0 (i : Int)).f2 > 0 then none else some (ws.set (kA l0 (i : Int)).f2.toNat (kA l0 (i : Int)).f4) := by
   unfold zC; rw [if_pos ⟨m, HQ.out⟩]
  by_cases b : rd ws (kA l0 (i : Int)).f2 > 0
  ·have b0 : decide (0 < rd ws (kA l0 (i : Int)).f2) = true := decide_eq_true b
   rw [if_pos b] at st
   have ST := am st
   clear st b
   go_wp2_with (first | (go_at_call 53; refine (impl_isQuant.calls _ _ (c8z _ _ _ _ _ _)).mono ?_; rintro e w20 ⟨rfl, hb⟩; have BQ := am (kM (pn BX.out) hb); have BW' := am (kM (c4t (kA l0 (i : Int)) BW.out NE.out) hb); have HB' := am (rA (a5n (kA l0 (i : Int)) HB.out GB.out) hb); clear BW HB BX zb hm hb; have BW := BW'; have HB := HB'; clear BW' HB'; have zq := cf6 BQ.out; have hw := (kG BW.out (kA l0 (i : Int)).f2.toNat).trans ((a3n ws _ (by have := HKK.out; have := HW.out; omega)).trans (by rw [Int.toNat_of_nonneg HKK.out.1])); have hf := kP BW.out (kA l0 (i : Int)).f2.toNat) | ((with_reducible refine gW ?_); first | (refine bX 7 31 #[.int .i64 0, .int .i64 0, .int .i64 0, .int .i64 0, .int .i64 0, .int .i64 0] ?_; intro gb hg w12 hbox hb; have BX := am hbox; have GB := am (show w.heap.size ≤ gb by rw [hg]; exact kE (by exact sW HB.out)); have NE := am (show g5 ≠ gb by rw [hg]; exact Nat.ne_of_lt (vQ (by exact sB <| BW.out))); replace BW := am (kM (by exact sB <| BW.out) hb); replace HB := am (rA (by exact sW HB.out) hb); have zb := cf6 BX.out; have hm := (a7t (g := gb) (kA l0 (i : Int)) (by have h := GB.out; have := World.block_lt_of_cell? _ _ hc1; omega)).trans (kC HB.out hc1); clear hbox hb hg)))
   go_ret
   refine ⟨?_, by exact HB.out⟩
   have h := HT.out
   rw [ST.out] at h
   unfold szB
   rw [h]; rfl
  have b0 : decide (0 < rd ws (kA l0 (i : Int)).f2) = false := decide_eq_false b
  rw [if_neg b] at st
  have ST := am st
  clear st b
  go_wp2_with (first | (go_at_call 53; refine (impl_isQuant.calls _ _ (c8z _ _ _ _ _ _)).mono ?_; rintro e w20 ⟨rfl, hb⟩; have BQ := am (kM (pn BX.out) hb); have BW' := am (kM (c4t (kA l0 (i : Int)) BW.out NE.out) hb); have HB' := am (rA (a5n (kA l0 (i : Int)) HB.out GB.out) hb); clear BW HB BX zb hm hb; have BW := BW'; have HB := HB'; clear BW' HB'; have zq := cf6 BQ.out; have hw := (kG BW.out (kA l0 (i : Int)).f2.toNat).trans ((a3n ws _ (by have := HKK.out; have := HW.out; omega)).trans (by rw [Int.toNat_of_nonneg HKK.out.1])); have hf := kP BW.out (kA l0 (i : Int)).f2.toNat) | ((with_reducible refine gW ?_); first | (refine bX 7 31 #[.int .i64 0, .int .i64 0, .int .i64 0, .int .i64 0, .int .i64 0, .int .i64 0] ?_; intro gb hg w12 hbox hb; have BX := am hbox; have GB := am (show w.heap.size ≤ gb by rw [hg]; exact kE (by exact sW HB.out)); have NE := am (show g5 ≠ gb by rw [hg]; exact Nat.ne_of_lt (vQ (by exact sB <| BW.out))); replace BW := am (kM (by exact sB <| BW.out) hb); replace HB := am (rA (by exact sW HB.out) hb); have zb := cf6 BX.out; have hm := (a7t (g := gb) (kA l0 (i : Int)) (by have h := GB.out; have := World.block_lt_of_cell? _ _ hc1; omega)).trans (kC HB.out hc1); clear hbox hb hg)))
  go_roundg g1
  case measure => omega
  case rel =>
   refine ⟨i + 1, ws.set (kA l0 (i : Int)).f2.toNat (kA l0 (i : Int)).f4, by go_num, ⟨by have := HG.out; omega⟩, ⟨by rw [List.length_set]; exact HW.out⟩, ⟨?_⟩, ⟨?_⟩, ⟨kX HB.out a0.out⟩⟩
   ·have h := HT.out
    rw [ST.out] at h
    exact h
   exact (zK BW.out _ _).trans (by rw [b1l])
 have t1 : decide ((i : Int) < (l0.length : Int)) = false := decide_eq_false oM
 obtain rfl : i = l0.length := by have := HG.out; omega
 have HS' := HS.out
 rw [Nat.sub_self] at HS'
 have HT := am (show szB l0 l1 = a6a l0 l1 ws l0.length 0 by unfold szB; rw [HS']; rfl)
 clear HS' HS HG hi
 go_wp2
 go_loopg [39] l0.length (fun g a3 w' => ∃ (i : Nat), a3 = .int .i64 (i : Int) ∧ Aside0 (g + i = l0.length) ∧ Aside0 (szB l0 l1 = a6a l0 l1 ws (l0.length - i) i) ∧ Aside0 (w'.heap[g5]? = some (.cells (a0m ws) 63 (0, 0))) ∧ Aside0 (Below w.heap.size w w'))
 case atStart => exact ⟨0, rfl, ⟨rfl⟩, HT, BW, HB⟩
 clear BW HB HT
 obtain ⟨i, rfl, HG, HS, BW, HB⟩ := hrel
 by_cases hi : i < l0.length
 rotate_left
 ·have t2 : decide ((i : Int) < (l0.length : Int)) = false := decide_eq_false oM
  obtain rfl : i = l0.length := by have := HG.out; omega
  have ST := am (show szB l0 l1 = true by rw [HS.out, Nat.sub_self]; rfl)
  clear HS HG hi
  go_wp2
  go_ret
  exact ⟨by rw [ST.out] <;> rfl, HB.out⟩
 have t2 : decide ((i : Int) < (l0.length : Int)) = true := decide_eq_true oM
 have p1 : (0 : Int) ≤ (i : Int) := by omega
 have p2 : (i : Int) < (l0.length : Int) := by omega
 have p3 : (i : Int) < (l1.length : Int) := by have := HL.out; omega
 have HKi := am (HK.out i hi)
 have HS' := HS.out
 rw [show l0.length - i = (l0.length - (i + 1)) + 1 by omega] at HS'
 unfold a6a at HS'
 have HT := am HS'
 clear HS' HS
 obtain ⟨a6, e0, x0, x1, x2, x3, x4, x5⟩ := oZ a1.out (i : Int) p1 p2
 cases e0
 replace x0 := kC HB.out x0
 replace x1 := kC HB.out x1
 replace x2 := kC HB.out x2
 replace x3 := kC HB.out x3
 replace x4 := kC HB.out x4
 replace x5 := kC HB.out x5
 obtain ⟨a5, e1, hc1⟩ := Kd.at_bool a2.out (i : Int) p1 p3
 cases e1
 rw [Int.toNat_natCast] at hc1 x0 x1 x2 x3 x4 x5
 obtain ⟨g1, rfl⟩ : ∃ g1, gk = g1 + 1 := ⟨gk - 1, by have := HG.out; omega⟩
 have q1 := eq_true p1
 have q2 := eq_true p2
 have q3 := eq_true p3
 clear p1 p2 p3
 by_cases m : vU false l1 (i : Int) = true
 rotate_left
 ·have m' : vU false l1 (i : Int) = false := by simpa using m
  rw [m'] at hc1
  have ST := am (show szB l0 l1 = a6a l0 l1 ws (l0.length - (i + 1)) (i + 1) by rw [HT.out, if_neg (fun h => m h.1)])
  clear m
  exact b9j
 rw [m] at hc1
 by_cases o : (kA l0 (i : Int)).f0 = 1
 rotate_left
 ·have o1 : ((kA l0 (i : Int)).f0 == 1) = false := beq_eq_false_iff_ne.mpr o
  have ST := am (show szB l0 l1 = a6a l0 l1 ws (l0.length - (i + 1)) (i + 1) by rw [HT.out, if_neg (fun h => o h.2.1)])
  clear o
  exact b9j
 have o1 : ((kA l0 (i : Int)).f0 == 1) = true := beq_iff_eq.mpr o
 have hk : 0 ≤ (kA l0 (i : Int)).f2 ∧ (kA l0 (i : Int)).f2 ≤ 7 := by
  rcases HKi.out with h | h
  ·exact absurd h.2 (by simp [o])
  exact h
 have k1 : decide (0 ≤ (kA l0 (i : Int)).f2) = true := decide_eq_true hk.1
 have k2 : decide ((kA l0 (i : Int)).f2 < 8) = true := decide_eq_true oM
 have k3 : (0 ≤ (kA l0 (i : Int)).f2) = True := eq_true hk.1
 have k4 : ((kA l0 (i : Int)).f2 < 8) = True := eq_true oM
 have HKK := am hk
 have HO := am o
 clear hk o
 by_cases b : (kA l0 (i : Int)).f1 = rd ws (kA l0 (i : Int)).f2
 ·have b0 : ((kA l0 (i : Int)).f1 == rd ws (kA l0 (i : Int)).f2) = true := beq_iff_eq.mpr b
  have b1 : ((kA l0 (i : Int)).f1 != rd ws (kA l0 (i : Int)).f2) = false := bne_eq_false_iff_eq.mpr b
  have ST := am (show szB l0 l1 = a6a l0 l1 ws (l0.length - (i + 1)) (i + 1) by rw [HT.out, if_neg (fun h => h.2.2 b)])
  clear b
  go_wp2_with (first | ((with_reducible refine gW ?_); first | (refine bX 9 31 #[.int .i64 0, .int .i64 0, .int .i64 0, .int .i64 0, .int .i64 0, .int .i64 0] ?_; intro gb hg w12 hbox hb; have BX := am hbox; have GB := am (show w.heap.size ≤ gb by rw [hg]; exact kE (by exact sW HB.out)); have NE := am (show g5 ≠ gb by rw [hg]; exact Nat.ne_of_lt (vQ (by exact sB <| BW.out))); replace BW := am (kM (by exact sB <| BW.out) hb); replace HB := am (rA (by exact sW HB.out) hb); have zb := cf6 BX.out; have hm := (a7t (g := gb) (kA l0 (i : Int)) (by have h := GB.out; have := World.block_lt_of_cell? _ _ hc1; omega)).trans (kC HB.out hc1); have hw := (a7t (g := gb) (kA l0 (i : Int)) NE.out).trans ((kG BW.out (kA l0 (i : Int)).f2.toNat).trans ((a3n ws _ (by have := HKK.out; have := HW.out; omega)).trans (by rw [Int.toNat_of_nonneg HKK.out.1]))); clear hbox hb hg)))
  repeat (go_quiet (fail); try go_wp2)
  go_roundg g1
  case measure => omega
  case rel => exact ⟨i + 1, by go_num, ⟨by have := HG.out; omega⟩, ST, ⟨sB <| c4t (kA l0 (i : Int)) BW.out NE.out⟩, ⟨kI (a5n (kA l0 (i : Int)) HB.out GB.out) _⟩⟩
 have b0 : ((kA l0 (i : Int)).f1 == rd ws (kA l0 (i : Int)).f2) = false := beq_eq_false_iff_ne.mpr b
 have b1 : ((kA l0 (i : Int)).f1 != rd ws (kA l0 (i : Int)).f2) = true := bne_iff_ne.mpr b
 have ST := am (show szB l0 l1 = false by rw [HT.out, if_pos ⟨m, HO.out, b⟩])
 clear b
 go_wp2_with (first | ((with_reducible refine gW ?_); first | (refine bX 9 31 #[.int .i64 0, .int .i64 0, .int .i64 0, .int .i64 0, .int .i64 0, .int .i64 0] ?_; intro gb hg w12 hbox hb; have BX := am hbox; have GB := am (show w.heap.size ≤ gb by rw [hg]; exact kE (by exact sW HB.out)); have NE := am (show g5 ≠ gb by rw [hg]; exact Nat.ne_of_lt (vQ (by exact sB <| BW.out))); replace BW := am (kM (by exact sB <| BW.out) hb); replace HB := am (rA (by exact sW HB.out) hb); have zb := cf6 BX.out; have hm := (a7t (g := gb) (kA l0 (i : Int)) (by have h := GB.out; have := World.block_lt_of_cell? _ _ hc1; omega)).trans (kC HB.out hc1); have hw := (a7t (g := gb) (kA l0 (i : Int)) NE.out).trans ((kG BW.out (kA l0 (i : Int)).f2.toNat).trans ((a3n ws _ (by have := HKK.out; have := HW.out; omega)).trans (by rw [Int.toNat_of_nonneg HKK.out.1]))); clear hbox hb hg)))
 repeat (go_quiet (fail); try go_wp2)
 go_ret
 exact ⟨by rw [ST.out] <;> rfl, kI (a5n (kA l0 (i : Int)) HB.out GB.out) _⟩
end Go.Proofs.Ytkpipmojkhikaaa.PAll
