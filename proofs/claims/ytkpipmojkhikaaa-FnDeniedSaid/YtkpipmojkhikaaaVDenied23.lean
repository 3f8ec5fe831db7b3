/- Written by a program of this session over the loaded program, and by hand: Go functions as plain Lean functions, and that a call comes to what they say. -/
import Derived.Test.YtkpipmojkhikaaaVDenied0
import Derived.Test.YtkpipmojkhikaaaVDenied1
import Derived.Test.YtkpipmojkhikaaaVDenied22
import Derived.Test.YtkpipmojkhikaaaBase
import Derived.Test.YtkpipmojkhikaaaSq
namespace Go.Proofs.Ytkpipmojkhikaaa.PAll
open Go.RowKit Go.Proofs.YtkpipmojkhikaaaW.PrintWords Go.Proofs.YtkpipmojkhikaaaW.PrintLast Go.Proofs.YtkpipmojkhikaaaW.PrintMore Go.Proofs.YtkpipmojkhikaaaW.Sq
attribute [local go_sem] qZ qX sT sS qC qB qY qW
set_option linter.unusedVariables false
set_option maxHeartbeats 8000000
set_option maxRecDepth 100000
set_option linter.unusedSimpArgs false
@[reducible] def c6k : Array Bool := #[false, false, false, false, false, false, false, false, false, false, false, false, false]
@[reducible] def c6g : Array Bool := #[false, true, false, false, false, false, false, false, false, false, false, false, false]
@[reducible] def c6c : Array Bool := #[false, true, true, false, false, false, false, false, false, false, false, false, false]
@[reducible] def c5y : Array Bool := #[false, true, true, true, false, false, false, false, false, false, false, false, false]
@[reducible] def c5u : Array Bool := #[false, true, true, true, false, true, false, false, false, false, false, false, false]
@[reducible] def c5q : Array Bool := #[false, true, true, true, false, true, true, false, false, false, false, false, false]
@[reducible] def c5m : Array Bool := #[false, true, true, true, false, true, true, false, true, false, false, false, false]
@[reducible] def c5i : Array Bool := #[false, true, true, true, false, true, true, false, true, true, false, false, false]
@[reducible] def c5c : Array Bool := #[true, true, true, true, false, true, true, false, true, true, false, false, false]
@[reducible] def c4y : Array Bool := #[true, true, true, true, true, true, true, false, true, true, false, false, false]
@[reducible] def c3a : Array Bool := #[true, true, true, true, true, true, true, true, true, true, false, false, false]
@[reducible] def c2w : Array Bool := #[true, true, true, true, true, true, true, true, true, true, true, false, false]
@[reducible] def c2s : Array Bool := #[true, true, true, true, true, true, true, true, true, true, true, true, false]
@[reducible] def c2p : Array Bool := #[true, true, true, true, true, true, true, true, true, true, true, true, true]
mutual
def tJ (AT : List (S31) → List Int → Int → Option (Int × List Int)) : Nat → List (S31) → List Int → Int → Int → Int → Int → Int → Int → Int → Int → Int → Int → Option (Int × List Int)
 | 0, _, _, _, _, _, _, _, _, _, _, _, _ => none
 | k + 1, x0, x1, aD, aG, aF, aA, a3, a5, a0, a2, a1, a4 => (kZ k a1).bind fun aI => (if aA < aI then (if 0 ≤ a0 then (if a0 < (x1.length : Int) then ((AT x0 (x1.set (a0 : Int).toNat aA) a2).bind fun a9 => (if a9.1 = 1 then (tJ AT k x0 a9.2 aD aG 1 (wrap64 (aA + 1)) a3 a5 a0 a2 a1 a4) else (tJ AT k x0 a9.2 aD 0 aF (wrap64 (aA + 1)) a3 a5 a0 a2 a1 a4))) else (none)) else (none)) else (if 0 ≤ a0 then (if a0 < (x1.length : Int) then ((some (x1.set (a0 : Int).toNat aD : List Int)).bind fun aC => (if a3 = 19 then (some (aG, aC)) else (some (aF, aC)))) else (none)) else (none)))
def tI (AT : List (S31) → List Int → Int → Option (Int × List Int)) : Nat → List (S31) → List Int → List Int → List Int → Int → List Int → Int → Int → Int → Int → Int → Int → Int → Option (Int × List Int)
 | 0, _, _, _, _, _, _, _, _, _, _, _, _, _ => none
 | k + 1, x0, x1, x2, a8, aE, a7, a6, a3, a5, a0, a2, a1, a4 => if a6 < (a7.length : Int) then (if 0 ≤ a6 then (if 0 ≤ (rd a7 a6) then (if (rd a7 a6) < (x2.length : Int) then (if a6 < (a8.length : Int) then ((some (a8.set (a6 : Int).toNat (rd x2 (rd a7 a6)) : List Int)).bind fun aB => (if a6 = 0 then (if (rd a7 a6) < (x0.length : Int) then (tI AT k x0 x1 x2 aB ((kA x0 (rd a7 a6)).f1) a7 (wrap64 (a6 + 1)) a3 a5 a0 a2 a1 a4) else (none)) else (tI AT k x0 x1 x2 aB aE a7 (wrap64 (a6 + 1)) a3 a5 a0 a2 a1 a4))) else (none)) else (none)) else (none)) else (none)) else (if 0 < (a8.length : Int) then (if 1 < (a8.length : Int) then (if 2 < (a8.length : Int) then ((xY k a3 a5 a0 a2 a1 a4 aE (rd a8 0) (rd a8 1) (rd a8 2)).bind fun aH => (some (aH, x1))) else (none)) else (none)) else (none))
end
def xG (AT : List (S31) → List Int → Int → Option (Int × List Int)) (k : Nat) (l0 : List (S31)) (l1 : List Int) (l2 : List Int) (a3 : Int) : Option (Int × List Int) := if 0 ≤ a3 then (if a3 < (l0.length : Int) then (if ((kA l0 a3).f0) = 1 then (if 0 ≤ ((kA l0 a3).f2) then (if ((kA l0 a3).f2) < (l1.length : Int) then (some (rd l1 ((kA l0 a3).f2), l1)) else (none)) else (none)) else ((rC ((kA l0 a3).f0)).bind fun a1 => (if a1 = true then (if 0 ≤ ((kA l0 a3).f2) then (if ((kA l0 a3).f2) < (l1.length : Int) then (tJ AT k l0 l1 (rd l1 ((kA l0 a3).f2)) 1 0 0 ((kA l0 a3).f0) ((kA l0 a3).f1) ((kA l0 a3).f2) ((kA l0 a3).f3) ((kA l0 a3).f4) ((kA l0 a3).f5)) else (none)) else (none)) else ((rW k ((kA l0 a3).f0) ((kA l0 a3).f1) ((kA l0 a3).f2) ((kA l0 a3).f3) ((kA l0 a3).f4) ((kA l0 a3).f5)).bind fun a0 => (tI AT k l0 l1 l2 (([0, 0, 0] : List Int)) 1 a0 0 ((kA l0 a3).f0) ((kA l0 a3).f1) ((kA l0 a3).f2) ((kA l0 a3).f3) ((kA l0 a3).f4) ((kA l0 a3).f5)))))) else (none)) else (none)
def a0p : Bool × List (List Nat × List Nat) := (true, [([], []), ([], []), ([], []), ([2], [2]), ([3], [3]), ([], []), ([5], [5]), ([6], [6]), ([], []), ([8], [8]), ([9], [9]), ([0, 1, 4, 7, 10], [0, 1, 4, 7, 10]), ([11, 11, 0, 1, 2, 3, 4, 5, 6, 7, 8, 9, 10, 11], [11])])
def a4s : List Nat := [0, 0, 0, 4, 12, 0, 32, 96, 0, 256, 768, 2047, 4095]
theorem a2p : a3b .any (b2e Try.f82 27) = a0p := by kernel_rfl
theorem a2b : zJ a0p.2 a4s = true := by kernel_rfl
theorem a8c {P : Prop} (h : P := by
 simp only [Act.put, List.setIfInBounds_toArray, List.set_cons_zero, List.set_cons_succ, vY, a5f]
 rfl) : P := h
theorem b9h {P : Prop} (h : P := by
 exact ⟨rfl, (by exact (sR <| a4.out)), bW, by repeat (first | (with_reducible first | exact HK.out | apply Kept.alloc | apply Kept.drewN | apply Kept.drew | refine Kept.setCell ?_ (.inr a6.out) _) | exact HK.out)⟩) : P := h
theorem spec_l04One.calls (AT : List (S31) → List Int → Int → Option (Int × List Int)) (hAT : ∀ (A0 : Option Addr) (c0 : Nat) (l0 : List (S31)) (P1_ : Nat → Prop) (u9000_ : Value) (l1 : List Int) (a2 r1 : Int) (r2 : List Int) (w0 w : World) (hB : Below w0.heap.size w0 w) (hr0 : ∀ W_, Kept w W_ (fun k_ => P1_ k_) → Kd.C k31 W_ A0 l0.length l0) (hc0 : l0.length ≤ c0) (dV : Kd.R (Kd.int .i64) 3 w w0.heap.size P1_ u9000_ l1) (h : AT l0 l1 a2 = some (r1, r2)), Calls Try.prog 52 #[.slice A0 l0.length c0, u9000_, .int .i64 a2] w fun e w' => e = .returned (.int .i64 r1) ∧ Kd.R (Kd.int .i64) 3 w' w0.heap.size (fun k_ => (P1_ k_ ∨ w.heap.size ≤ k_)) u9000_ r2 ∧ Below w0.heap.size w0 w' ∧ Kept w w' (fun k_ => P1_ k_)) (k : Nat) (A0 : Option Addr) (c0 : Nat) (l0 : List (S31)) (P1_ : Nat → Prop) (u9000_ : Value) (l1 : List Int) (A2 : Option Addr) (c2 : Nat) (l2 : List Int) (a3 r1 : Int) (r2 : List Int) (w0 w : World) (hB : Below w0.heap.size w0 w) (hr0 : ∀ W_, Kept w W_ (fun k_ => P1_ k_) → Kd.C k31 W_ A0 l0.length l0) (hc0 : l0.length ≤ c0) (dV : Kd.R (Kd.int .i64) 3 w w0.heap.size P1_ u9000_ l1) (hr2 : ∀ W_, Kept w W_ (fun k_ => P1_ k_) → Kd.C (Kd.int .i64) W_ A2 l2.length l2) (hc2 : l2.length ≤ c2) (h : xG AT k l0 l1 l2 a3 = some (r1, r2)) :
  Calls Try.prog 82 #[.slice A0 l0.length c0, u9000_, .slice A2 l2.length c2, .int .i64 a3] w fun e w' => e = .returned (.int .i64 r1) ∧ Kd.R (Kd.int .i64) 3 w' w0.heap.size (fun k_ => (P1_ k_ ∨ w.heap.size ≤ k_)) u9000_ r2 ∧ Below w0.heap.size w0 w' ∧ Kept w w' (fun k_ => P1_ k_) := by
 have HAT := am hAT
 clear hAT
 have hu31 := Try.underlying31
 have bG := am hr0
 have d_ := am hc0
 clear hr0 hc0
 have aB := am (show Kd.R (Kd.int .i64) 3 w w0.heap.size (fun k_ => (P1_ k_ ∨ w.heap.size ≤ k_)) u9000_ l1 from Kd.R_mono dV (fun k_ hk => (.inl hk)))
 have dZ := am hr2
 have gJ := am hc2
 clear hr2 hc2
 have HK := am (Kept.refl w (fun k_ => P1_ k_))
 have HW0 := am hB.size
 have HB := am hB
 clear hB
 have H := h
 clear h
 unfold xG at H
 replace H := iN H; obtain ⟨dC, H⟩ := H
 replace H := iN H; obtain ⟨dB, H⟩ := H
 replace H := iE H; rcases H with ⟨cI, cH, H⟩ | ⟨cI, cH, H⟩
 ·replace H := iN H; obtain ⟨g6, H⟩ := H
  replace H := iN H; obtain ⟨g5, H⟩ := H
  simp only [Option.some.injEq, Prod.mk.injEq] at H
  obtain ⟨rfl, rfl⟩ := H
  obtain ⟨bN, bL, bP, rfl, a_, aZ, aY, aX, aW, aV⟩ := ix (oZ (Kd.C_kept_now bG.out HK.out) a3)
  go_enter Try.func82, Try.ntmps82
  go_wp2_with (first | ((with_reducible refine gW ?_); first | (refine bX 9 31 #[.int .i64 0, .int .i64 0, .int .i64 0, .int .i64 0, .int .i64 0, .int .i64 0] ?_; intro a1 hg w10 hbox hb; replace aB := rB aB hb; have a0 := am hbox; have a6 := am ((by rw [hg]; exact (by exact HK.out.1) : w.heap.size ≤ a1)); replace HK := am (Kept.below (S := (fun k_ => P1_ k_)) (by repeat (first | (with_reducible first | exact HK.out | apply Kept.alloc | apply Kept.drewN | apply Kept.drew) | exact HK.out)) hb); have cY := am ((by rw [hg]; exact (kE (by exact sW HB.out)) : w0.heap.size ≤ a1)); replace HB := hB HB hb; clear hb hbox hg; have eW := cf6 a0.out; obtain ⟨gI, g4, rfl⟩ := Kd.R_slice aB.out; have cC : 0 ≤ (((kA l0 a3).f2) : Int) := oD (by assumption); have bZ : ((kA l0 a3).f2) < (l1.length : Int) := oD (by assumption); obtain ⟨b1, eE, aC⟩ := Kd.at_int (Kd.R_reads' aB.out).2.2 ((kA l0 a3).f2) cC bZ; cases eE; have hn396_0 : b1.block ≠ a1 := Kd.own_blk (Kd.R_ne aB.out a0.out (by decide)); have hn396_1 : b1.block ≠ a1 := Kd.own_blk (Kd.R_ne aB.out a0.out (by decide)); have hn396_2 : b1.block ≠ a1 := Kd.own_blk (Kd.R_ne aB.out a0.out (by decide)); have hn396_3 : b1.block ≠ a1 := Kd.own_blk (Kd.R_ne aB.out a0.out (by decide)); have hn396_4 : b1.block ≠ a1 := Kd.own_blk (Kd.R_ne aB.out a0.out (by decide)); have hn396_5 : b1.block ≠ a1 := Kd.own_blk (Kd.R_ne aB.out a0.out (by decide)); replace aC := (kH (p := ⟨a1, 0, none⟩) (by (rw [kF]; exact hn396_0)) (.int .i64 ((kA l0 a3).f0))).trans aC; replace aC := (kH (p := ⟨a1, 1, none⟩) (by (rw [kF]; exact hn396_1)) (.int .i64 ((kA l0 a3).f1))).trans aC; replace aC := (kH (p := ⟨a1, 2, none⟩) (by (rw [kF]; exact hn396_2)) (.int .i64 ((kA l0 a3).f2))).trans aC; replace aC := (kH (p := ⟨a1, 3, none⟩) (by (rw [kF]; exact hn396_3)) (.int .i64 ((kA l0 a3).f3))).trans aC; replace aC := (kH (p := ⟨a1, 4, none⟩) (by (rw [kF]; exact hn396_4)) (.int .i64 ((kA l0 a3).f4))).trans aC; replace aC := (kH (p := ⟨a1, 5, none⟩) (by (rw [kF]; exact hn396_5)) (.int .i64 ((kA l0 a3).f5))).trans aC; clear hn396_0; clear hn396_1; clear hn396_2; clear hn396_3; clear hn396_4; clear hn396_5; replace cC := eq_true cC; replace bZ := eq_true bZ)))
  go_ret
  exact ⟨rfl, sR <| Kd.R_mono (Kd.R_far (p := ⟨a1, 5, none⟩) (Kd.R_far (p := ⟨a1, 4, none⟩) (Kd.R_far (p := ⟨a1, 3, none⟩) (Kd.R_far (p := ⟨a1, 2, none⟩) (Kd.R_far (p := ⟨a1, 1, none⟩) (Kd.R_far (p := ⟨a1, 0, none⟩) (Kd.R_types aB.out a0.out (by decide)) (fun _ hk => hk.2) (.int .i64 ((kA l0 a3).f0))) (fun _ hk => hk.2) (.int .i64 ((kA l0 a3).f1))) (fun _ hk => hk.2) (.int .i64 ((kA l0 a3).f2))) (fun _ hk => hk.2) (.int .i64 ((kA l0 a3).f3))) (fun _ hk => hk.2) (.int .i64 ((kA l0 a3).f4))) (fun _ hk => hk.2) (.int .i64 ((kA l0 a3).f5))) (fun _ hk => hk.1), bW, by repeat (first | (with_reducible first | exact HK.out | apply Kept.alloc | apply Kept.drewN | apply Kept.drew | refine Kept.setCell ?_ (.inr a6.out) _) | exact HK.out)⟩
 replace H := oA H; obtain ⟨fY, e1, H⟩ := H
 replace H := iB H; rcases H with ⟨rfl, H⟩ | ⟨rfl, H⟩
 ·replace H := iN H; obtain ⟨dM, H⟩ := H
  replace H := iN H; obtain ⟨dL, H⟩ := H
  replace H := am H
  obtain ⟨bN, bL, bP, rfl, a_, aZ, aY, aX, aW, aV⟩ := ix (oZ (Kd.C_kept_now bG.out HK.out) a3)
  go_enter Try.func82, Try.ntmps82
  go_wp2_with (first | ((with_reducible refine gW ?_); first | (refine bX 9 31 #[.int .i64 0, .int .i64 0, .int .i64 0, .int .i64 0, .int .i64 0, .int .i64 0] ?_; intro a1 hg w17 hbox hb; replace aB := rB aB hb; have a0 := am hbox; have a6 := am ((by rw [hg]; exact (by exact HK.out.1) : w.heap.size ≤ a1)); replace HK := am (Kept.below (S := (fun k_ => P1_ k_)) (by repeat (first | (with_reducible first | exact HK.out | apply Kept.alloc | apply Kept.drewN | apply Kept.drew) | exact HK.out)) hb); have cY := am ((by rw [hg]; exact (kE (by exact sW HB.out)) : w0.heap.size ≤ a1)); replace HB := hB HB hb; clear hb hbox hg; have d3 := cf6 a0.out) | (refine gD (some 32) Try.func50 rfl (spec_l02Quant.calls e1.out) fun nd => ?_; obtain ⟨gH, aI, rfl⟩ := Kd.R_slice aB.out; have bM : 0 ≤ (((kA l0 a3).f2) : Int) := oD (by assumption); have bK : ((kA l0 a3).f2) < (l1.length : Int) := oD (by assumption); obtain ⟨aH, eD, a9⟩ := Kd.at_int (Kd.R_reads' aB.out).2.2 ((kA l0 a3).f2) bM bK; cases eD; have hn398_0 : aH.block ≠ a1 := Kd.own_blk (Kd.R_ne aB.out a0.out (by decide)); have hn398_1 : aH.block ≠ a1 := Kd.own_blk (Kd.R_ne aB.out a0.out (by decide)); have hn398_2 : aH.block ≠ a1 := Kd.own_blk (Kd.R_ne aB.out a0.out (by decide)); have hn398_3 : aH.block ≠ a1 := Kd.own_blk (Kd.R_ne aB.out a0.out (by decide)); have hn398_4 : aH.block ≠ a1 := Kd.own_blk (Kd.R_ne aB.out a0.out (by decide)); have hn398_5 : aH.block ≠ a1 := Kd.own_blk (Kd.R_ne aB.out a0.out (by decide)); replace a9 := (kH (p := ⟨a1, 0, none⟩) (by (rw [kF]; exact hn398_0)) (.int .i64 ((kA l0 a3).f0))).trans a9; replace a9 := (kH (p := ⟨a1, 1, none⟩) (by (rw [kF]; exact hn398_1)) (.int .i64 ((kA l0 a3).f1))).trans a9; replace a9 := (kH (p := ⟨a1, 2, none⟩) (by (rw [kF]; exact hn398_2)) (.int .i64 ((kA l0 a3).f2))).trans a9; replace a9 := (kH (p := ⟨a1, 3, none⟩) (by (rw [kF]; exact hn398_3)) (.int .i64 ((kA l0 a3).f3))).trans a9; replace a9 := (kH (p := ⟨a1, 4, none⟩) (by (rw [kF]; exact hn398_4)) (.int .i64 ((kA l0 a3).f4))).trans a9; replace a9 := (kH (p := ⟨a1, 5, none⟩) (by (rw [kF]; exact hn398_5)) (.int .i64 ((kA l0 a3).f5))).trans a9; clear hn398_0; clear hn398_1; clear hn398_2; clear hn398_3; clear hn398_4; clear hn398_5; replace bM := eq_true bM; replace bK := eq_true bK; have hX2 := (kG (pN (cs' := #[.int .i64 ((kA l0 a3).f0), .int .i64 ((kA l0 a3).f1), .int .i64 ((kA l0 a3).f2), .int .i64 ((kA l0 a3).f3), .int .i64 ((kA l0 a3).f4), .int .i64 ((kA l0 a3).f5)]) (pN (cs' := #[.int .i64 ((kA l0 a3).f0), .int .i64 ((kA l0 a3).f1), .int .i64 ((kA l0 a3).f2), .int .i64 ((kA l0 a3).f3), .int .i64 ((kA l0 a3).f4), .int .i64 0]) (pN (cs' := #[.int .i64 ((kA l0 a3).f0), .int .i64 ((kA l0 a3).f1), .int .i64 ((kA l0 a3).f2), .int .i64 ((kA l0 a3).f3), .int .i64 0, .int .i64 0]) (pN (cs' := #[.int .i64 ((kA l0 a3).f0), .int .i64 ((kA l0 a3).f1), .int .i64 ((kA l0 a3).f2), .int .i64 0, .int .i64 0, .int .i64 0]) (pN (cs' := #[.int .i64 ((kA l0 a3).f0), .int .i64 ((kA l0 a3).f1), .int .i64 0, .int .i64 0, .int .i64 0, .int .i64 0]) (pN (cs' := #[.int .i64 ((kA l0 a3).f0), .int .i64 0, .int .i64 0, .int .i64 0, .int .i64 0, .int .i64 0]) a0.out 0 (.int .i64 ((kA l0 a3).f0)) rfl) 1 (.int .i64 ((kA l0 a3).f1)) rfl) 2 (.int .i64 ((kA l0 a3).f2)) rfl) 3 (.int .i64 ((kA l0 a3).f3)) rfl) 4 (.int .i64 ((kA l0 a3).f4)) rfl) 5 (.int .i64 ((kA l0 a3).f5)) rfl) 2).trans rfl; generalize hwX : ((((((w17.setCell ⟨a1, 0, none⟩ (.int .i64 ((kA l0 a3).f0))).setCell ⟨a1, 1, none⟩ (.int .i64 ((kA l0 a3).f1))).setCell ⟨a1, 2, none⟩ (.int .i64 ((kA l0 a3).f2))).setCell ⟨a1, 3, none⟩ (.int .i64 ((kA l0 a3).f3))).setCell ⟨a1, 4, none⟩ (.int .i64 ((kA l0 a3).f4))).setCell ⟨a1, 5, none⟩ (.int .i64 ((kA l0 a3).f5))) = wX at a9 hX2 ⊢; have HWX := am hwX; clear hwX)))
  obtain hwX := HWX.out
  subst hwX
  clear a9 hX2
  go_loopg [11, 12, 13] k (fun kq f7 f6 eZ w' => ∃ (aA : List Int) (b5 : Int) (b4 : Int) (aJ : Int), f7 = .int .i64 b5 ∧ f6 = .int .i64 b4 ∧ eZ = .int .i64 aJ ∧ Aside0 (tJ AT kq l0 aA (rd l1 ((kA l0 a3).f2)) b5 b4 aJ ((kA l0 a3).f0) ((kA l0 a3).f1) ((kA l0 a3).f2) ((kA l0 a3).f3) ((kA l0 a3).f4) ((kA l0 a3).f5) = some (r1, r2)) ∧ Aside0 (kq ≤ k) ∧ Aside0 (Kd.R (Kd.int .i64) 3 w' w0.heap.size (fun k_ => (P1_ k_ ∨ w.heap.size ≤ k_)) (.slice (some aH) l1.length aI) aA) ∧ Aside0 (w'.heap[a1]? = some (.cells #[.int .i64 ((kA l0 a3).f0), .int .i64 ((kA l0 a3).f1), .int .i64 ((kA l0 a3).f2), .int .i64 ((kA l0 a3).f3), .int .i64 ((kA l0 a3).f4), .int .i64 ((kA l0 a3).f5)] 31 (0, 0))) ∧ Aside0 (Kept w w' (fun k_ => P1_ k_)) ∧ Aside0 (Below w0.heap.size w0 w'))
  case atStart => exact ⟨l1, 1, 0, 0, rfl, rfl, rfl, H, ⟨Nat.le_refl _⟩, ⟨sR <| Kd.R_mono (Kd.R_far (p := ⟨a1, 5, none⟩) (Kd.R_far (p := ⟨a1, 4, none⟩) (Kd.R_far (p := ⟨a1, 3, none⟩) (Kd.R_far (p := ⟨a1, 2, none⟩) (Kd.R_far (p := ⟨a1, 1, none⟩) (Kd.R_far (p := ⟨a1, 0, none⟩) (Kd.R_types aB.out a0.out (by decide)) (fun _ hk => hk.2) (.int .i64 ((kA l0 a3).f0))) (fun _ hk => hk.2) (.int .i64 ((kA l0 a3).f1))) (fun _ hk => hk.2) (.int .i64 ((kA l0 a3).f2))) (fun _ hk => hk.2) (.int .i64 ((kA l0 a3).f3))) (fun _ hk => hk.2) (.int .i64 ((kA l0 a3).f4))) (fun _ hk => hk.2) (.int .i64 ((kA l0 a3).f5))) (fun _ hk => hk.1)⟩, ⟨by (with_reducible repeat (first | refine pG ?_ _ | refine pB ?_ | refine pD ?_ _)); refine pN (cs := #[.int .i64 ((kA l0 a3).f0), .int .i64 ((kA l0 a3).f1), .int .i64 ((kA l0 a3).f2), .int .i64 ((kA l0 a3).f3), .int .i64 ((kA l0 a3).f4), .int .i64 0]) ?_ 5 _ rfl; (with_reducible repeat (first | refine pG ?_ _ | refine pB ?_ | refine pD ?_ _)); refine pN (cs := #[.int .i64 ((kA l0 a3).f0), .int .i64 ((kA l0 a3).f1), .int .i64 ((kA l0 a3).f2), .int .i64 ((kA l0 a3).f3), .int .i64 0, .int .i64 0]) ?_ 4 _ rfl; (with_reducible repeat (first | refine pG ?_ _ | refine pB ?_ | refine pD ?_ _)); refine pN (cs := #[.int .i64 ((kA l0 a3).f0), .int .i64 ((kA l0 a3).f1), .int .i64 ((kA l0 a3).f2), .int .i64 0, .int .i64 0, .int .i64 0]) ?_ 3 _ rfl; (with_reducible repeat (first | refine pG ?_ _ | refine pB ?_ | refine pD ?_ _)); refine pN (cs := #[.int .i64 ((kA l0 a3).f0), .int .i64 ((kA l0 a3).f1), .int .i64 0, .int .i64 0, .int .i64 0, .int .i64 0]) ?_ 2 _ rfl; (with_reducible repeat (first | refine pG ?_ _ | refine pB ?_ | refine pD ?_ _)); refine pN (cs := #[.int .i64 ((kA l0 a3).f0), .int .i64 0, .int .i64 0, .int .i64 0, .int .i64 0, .int .i64 0]) ?_ 1 _ rfl; (with_reducible repeat (first | refine pG ?_ _ | refine pB ?_ | refine pD ?_ _)); refine pN (cs := #[.int .i64 0, .int .i64 0, .int .i64 0, .int .i64 0, .int .i64 0, .int .i64 0]) ?_ 0 _ rfl; exact sB <| a0.out⟩, ⟨by repeat (first | (with_reducible first | exact HK.out | apply Kept.alloc | apply Kept.drewN | apply Kept.drew | refine Kept.setCell ?_ (.inr a6.out) _) | exact HK.out)⟩, ⟨bW⟩⟩
  case round => as_aux_lemma =>
   clear H
   clear dC dB cI cH dM dL d3 a_ aZ aY aX aW aV bN bM bL bK
   obtain ⟨aA, b5, b4, aJ, rfl, rfl, rfl, HA, b3, a4, a0, HK, HB⟩ := hrel
   have hl1_1 := (Kd.R_reads' a4.out).1
   rw [hl1_1] at a4
   (try simp only [hl1_1])
   (try simp only [hl1_1] at a0)
   cases gk with
   | zero => cases HA.out
   | succ k1 =>
    obtain ⟨H⟩ := HA
    simp only [tJ] at H
    replace H := oA H; obtain ⟨fX, cZ, H⟩ := H
    replace H := iD H; rcases H with ⟨dK, H⟩ | ⟨dK, H⟩
    ·replace H := iN H; obtain ⟨fV, H⟩ := H
     replace H := iN H; obtain ⟨fU, H⟩ := H
     generalize cT : aA.set (((kA l0 a3).f2) : Int).toNat aJ = bI at H
     have cX := am cT.symm; clear cT
     replace H := oA H; obtain ⟨⟨d5, bJ⟩, e0, H⟩ := H
     try dsimp only at H
     replace H := iE H; rcases H with ⟨dJ, dI, H⟩ | ⟨dJ, dI, H⟩
     ·replace H := am H
      have eV := cf6 a0.out
      go_wp2_with (first | ((with_reducible refine gW ?_); first | (refine gD (some 41) Try.func81 rfl (spec_l01Pow2.calls cZ.out) fun nd => ?_; (try (rw [a1e wr]; generalize hq_ : World.drewN wr _ = wr; have aR : Aside0 (Kd.R (Kd.int .i64) 3 wr w0.heap.size (fun k_ => (P1_ k_ ∨ w.heap.size ≤ k_)) (.slice (some aH) aA.length aI) aA) := ⟨by rw [← hq_]; exact (by exact sR <| a4.out)⟩; have aQ : Aside0 (wr.heap[a1]? = some (.cells #[.int .i64 ((kA l0 a3).f0), .int .i64 ((kA l0 a3).f1), .int .i64 ((kA l0 a3).f2), .int .i64 ((kA l0 a3).f3), .int .i64 ((kA l0 a3).f4), .int .i64 ((kA l0 a3).f5)] 31 (0, 0))) := ⟨by rw [← hq_]; exact (by exact sB <| a0.out)⟩; have aO : Aside0 (Kept w wr (fun k_ => P1_ k_)) := ⟨by rw [← hq_]; exact (by repeat (first | (with_reducible first | exact HK.out | apply Kept.alloc | apply Kept.drewN | apply Kept.drew | refine Kept.setCell ?_ (.inr a6.out) _) | exact HK.out))⟩; have aN : Aside0 (Below w0.heap.size w0 wr) := ⟨by rw [← hq_]; exact (by exact bW)⟩; clear a4 a0 HK HB hq_; have a4 := aR; have a0 := aQ; have HK := aO; have HB := aN; clear aR aQ aO aN)); have hcy_0 := (kG a0.out 0).trans (show _ = some (Value.int .i64 ((kA l0 a3).f0)) from rfl); have hcy_2 := (kG a0.out 2).trans (show _ = some (Value.int .i64 ((kA l0 a3).f2)) from rfl); have hcy_3 := (kG a0.out 3).trans (show _ = some (Value.int .i64 ((kA l0 a3).f3)) from rfl); have hcy_4 := (kG a0.out 4).trans (show _ = some (Value.int .i64 ((kA l0 a3).f4)) from rfl); have bC : 0 ≤ (((kA l0 a3).f2) : Int) := oD (by assumption); have b9 : (((kA l0 a3).f2) : Int) < ((aA.length : Int) : Int) := oD (by assumption); obtain ⟨aF, eG, cG, bF, gl24, cl24, HG24⟩ := Kd.R_form a4.out oM; (cases cG); have cR := am bF; have GG24 := am HG24; clear bF gl24 HG24; have HMgo24 := am (show (P1_ aF ∨ w.heap.size ≤ aF) from (a4.out.1 _ rfl)); (skip); obtain ⟨d8, hf24_0⟩ := Kd.R_celln 0 a4.out (((kA l0 a3).f2) : Int) bC b9; replace bC := eq_true bC; replace b9 := eq_true b9; obtain ⟨fG, hz28_⟩ := Kd.R_celln 0 a4.out (((kA l0 a3).f2) : Int) (oD (by assumption)) (oD (by assumption)); have cO := Kd.R_putg a4.out (((kA l0 a3).f2) : Int) aJ) | ((with_reducible refine pZ (t := 3) (p := 49) rfl ?_); refine pM (t := 3) (p := 49) (v := ?vo_w29) (w1 := (wr.setCell ⟨aF, (((kA l0 a3).f2) : Int).toNat, none⟩ (.int .i64 aJ))) ?hg ?ho ?hn ?hr ?_; (case ho => rfl); (case hg => rfl); (case hn => rfl); (case hr => (go_simp; done)); intro w29 hw; have hg : wr.grownBy w29 (some aF) := (by rw [hw]; exact cO.2); have hp_ : Kd.R (Kd.int .i64) 3 w29 w0.heap.size (fun k_ => (P1_ k_ ∨ w.heap.size ≤ k_)) (.slice (some ⟨aF, 0, none⟩) aA.length aI) bI := (by rw [hw, cX.out]; exact cO.1); clear cO; replace a0 := gG a0 hg a4; replace HB := am ((by rw [hw]; exact kX (HB.out) cR.out : Below w0.heap.size w0 w29)); replace HK := am (qG (S := (fun k_ => P1_ k_)) hg (by repeat (first | (with_reducible first | exact HK.out | apply Kept.alloc | apply Kept.drewN | apply Kept.drew | refine Kept.setCell ?_ (.inr a6.out) _) | exact HK.out)) (fun k_ e_ => (a4.out.1 k_ e_))); replace a4 := am hp_; clear hg hw hp_; have eU := cf6 a0.out) | (refine gF 52 (some 54) rfl ?_; refine gS Try.func52 (HAT.out _ _ l0 (fun k_ => some k_ = (.slice (some ⟨aF, 0, none⟩) aA.length aI : Value).ownBlock) (.slice (some ⟨aF, 0, none⟩) aA.length aI) bI ((kA l0 a3).f3) d5 bJ w0 _ bW (Kd.C_kept_call bG.out (by repeat (first | (with_reducible first | exact HK.out | apply Kept.alloc | apply Kept.drewN | apply Kept.drew | refine Kept.setCell ?_ (.inr a6.out) _) | exact HK.out)) (fun k_ hs_ => (fun e_ => (a4.out.1 k_ e_.symm)) hs_)) d_.out (Kd.R_tight rfl a4.out) e0.out) ?_; rintro w31 ⟨bQ, hb, hkp⟩; replace a0 := am (wV (by exact sB <| a0.out) hkp (fun hs_ => (fun e_ => (Kd.R_ne a4.out a0.out (by decide)) e_) hs_)); replace HK := am (Kept.then_ (S := (fun k_ => P1_ k_)) (by repeat (first | (with_reducible first | exact HK.out | apply Kept.alloc | apply Kept.drewN | apply Kept.drew | refine Kept.setCell ?_ (.inr a6.out) _) | exact HK.out)) hkp (fun k_ hs_ => (fun e_ => (a4.out.1 k_ e_.symm)) hs_)); replace a4 := am (Kd.R_reok rfl bQ (fun k_ e_ => a4.out.1 k_ e_)); replace HB := am hb; (try clear hb); (try clear hkp); (try clear bQ))))
      (try simp only [← hl1_1])
      rw [show (({ block := aF, off := ((kA l0 a3).f2).toNat } : Addr)) = (⟨aF, 0, none⟩ : Addr).add ((kA l0 a3).f2).toNat from by simp [pI]]
      go_roundg k1
      case measure => have := b3.out; omega
      case rel => exact ⟨bJ, b5, 1, (wrap64 (aJ + 1)), rfl, rfl, rfl, H, ⟨by have := b3.out; omega⟩, ⟨by (try simp only [hl1_1]); exact sR <| a4.out⟩, ⟨by (try simp only [hl1_1]); exact sB <| a0.out⟩, ⟨by repeat (first | (with_reducible first | exact HK.out | apply Kept.alloc | apply Kept.drewN | apply Kept.drew | refine Kept.setCell ?_ (.inr a6.out) _) | exact HK.out)⟩, ⟨bW⟩⟩
     replace H := am H
     have eT := cf6 a0.out
     go_wp2_with (first | ((with_reducible refine gW ?_); first | (refine gD (some 41) Try.func81 rfl (spec_l01Pow2.calls cZ.out) fun nd => ?_; (try (rw [a1e wr]; generalize hq_ : World.drewN wr _ = wr; have aR : Aside0 (Kd.R (Kd.int .i64) 3 wr w0.heap.size (fun k_ => (P1_ k_ ∨ w.heap.size ≤ k_)) (.slice (some aH) aA.length aI) aA) := ⟨by rw [← hq_]; exact (by exact sR <| a4.out)⟩; have aQ : Aside0 (wr.heap[a1]? = some (.cells #[.int .i64 ((kA l0 a3).f0), .int .i64 ((kA l0 a3).f1), .int .i64 ((kA l0 a3).f2), .int .i64 ((kA l0 a3).f3), .int .i64 ((kA l0 a3).f4), .int .i64 ((kA l0 a3).f5)] 31 (0, 0))) := ⟨by rw [← hq_]; exact (by exact sB <| a0.out)⟩; have aO : Aside0 (Kept w wr (fun k_ => P1_ k_)) := ⟨by rw [← hq_]; exact (by repeat (first | (with_reducible first | exact HK.out | apply Kept.alloc | apply Kept.drewN | apply Kept.drew | refine Kept.setCell ?_ (.inr a6.out) _) | exact HK.out))⟩; have aN : Aside0 (Below w0.heap.size w0 wr) := ⟨by rw [← hq_]; exact (by exact bW)⟩; clear a4 a0 HK HB hq_; have a4 := aR; have a0 := aQ; have HK := aO; have HB := aN; clear aR aQ aO aN)); have hcy_0 := (kG a0.out 0).trans (show _ = some (Value.int .i64 ((kA l0 a3).f0)) from rfl); have hcy_2 := (kG a0.out 2).trans (show _ = some (Value.int .i64 ((kA l0 a3).f2)) from rfl); have hcy_3 := (kG a0.out 3).trans (show _ = some (Value.int .i64 ((kA l0 a3).f3)) from rfl); have hcy_4 := (kG a0.out 4).trans (show _ = some (Value.int .i64 ((kA l0 a3).f4)) from rfl); have bC : 0 ≤ (((kA l0 a3).f2) : Int) := oD (by assumption); have b9 : (((kA l0 a3).f2) : Int) < ((aA.length : Int) : Int) := oD (by assumption); obtain ⟨aF, eG, cG, bF, gl24, cl24, HG24⟩ := Kd.R_form a4.out oM; (cases cG); have cR := am bF; have GG24 := am HG24; clear bF gl24 HG24; have HMgo24 := am (show (P1_ aF ∨ w.heap.size ≤ aF) from (a4.out.1 _ rfl)); obtain ⟨d8, hf24_0⟩ := Kd.R_celln 0 a4.out (((kA l0 a3).f2) : Int) bC b9; replace bC := eq_true bC; replace b9 := eq_true b9; obtain ⟨fF, hz33_⟩ := Kd.R_celln 0 a4.out (((kA l0 a3).f2) : Int) (oD (by assumption)) (oD (by assumption)); have cN := Kd.R_putg a4.out (((kA l0 a3).f2) : Int) aJ) | ((with_reducible refine pZ (t := 3) (p := 49) rfl ?_); refine pM (t := 3) (p := 49) (v := ?vo_w34) (w1 := (wr.setCell ⟨aF, (((kA l0 a3).f2) : Int).toNat, none⟩ (.int .i64 aJ))) ?hg ?ho ?hn ?hr ?_; (case ho => rfl); (case hg => rfl); (case hn => rfl); (case hr => (go_simp; done)); intro w34 hw; have hg : wr.grownBy w34 (some aF) := (by rw [hw]; exact cN.2); have hp_ : Kd.R (Kd.int .i64) 3 w34 w0.heap.size (fun k_ => (P1_ k_ ∨ w.heap.size ≤ k_)) (.slice (some ⟨aF, 0, none⟩) aA.length aI) bI := (by rw [hw, cX.out]; exact cN.1); clear cN; replace a0 := gG a0 hg a4; replace HB := am ((by rw [hw]; exact kX (HB.out) cR.out : Below w0.heap.size w0 w34)); replace HK := am (qG (S := (fun k_ => P1_ k_)) hg (by repeat (first | (with_reducible first | exact HK.out | apply Kept.alloc | apply Kept.drewN | apply Kept.drew | refine Kept.setCell ?_ (.inr a6.out) _) | exact HK.out)) (fun k_ e_ => (a4.out.1 k_ e_))); replace a4 := am hp_; clear hg hw hp_; have eS := cf6 a0.out) | (refine gF 52 (some 54) rfl ?_; refine gS Try.func52 (HAT.out _ _ l0 (fun k_ => some k_ = (.slice (some ⟨aF, 0, none⟩) aA.length aI : Value).ownBlock) (.slice (some ⟨aF, 0, none⟩) aA.length aI) bI ((kA l0 a3).f3) d5 bJ w0 _ bW (Kd.C_kept_call bG.out (by repeat (first | (with_reducible first | exact HK.out | apply Kept.alloc | apply Kept.drewN | apply Kept.drew | refine Kept.setCell ?_ (.inr a6.out) _) | exact HK.out)) (fun k_ hs_ => (fun e_ => (a4.out.1 k_ e_.symm)) hs_)) d_.out (Kd.R_tight rfl a4.out) e0.out) ?_; rintro w36 ⟨bQ, hb, hkp⟩; replace a0 := am (wV (by exact sB <| a0.out) hkp (fun hs_ => (fun e_ => (Kd.R_ne a4.out a0.out (by decide)) e_) hs_)); replace HK := am (Kept.then_ (S := (fun k_ => P1_ k_)) (by repeat (first | (with_reducible first | exact HK.out | apply Kept.alloc | apply Kept.drewN | apply Kept.drew | refine Kept.setCell ?_ (.inr a6.out) _) | exact HK.out)) hkp (fun k_ hs_ => (fun e_ => (a4.out.1 k_ e_.symm)) hs_)); replace a4 := am (Kd.R_reok rfl bQ (fun k_ e_ => a4.out.1 k_ e_)); replace HB := am hb; (try clear hb); (try clear hkp); (try clear bQ))))
     (try simp only [← hl1_1])
     rw [show (({ block := aF, off := ((kA l0 a3).f2).toNat } : Addr)) = (⟨aF, 0, none⟩ : Addr).add ((kA l0 a3).f2).toNat from by simp [pI]]
     go_roundg k1
     case measure => have := b3.out; omega
     case rel => exact ⟨bJ, 0, b4, (wrap64 (aJ + 1)), rfl, rfl, rfl, H, ⟨by have := b3.out; omega⟩, ⟨by (try simp only [hl1_1]); exact sR <| a4.out⟩, ⟨by (try simp only [hl1_1]); exact sB <| a0.out⟩, ⟨by repeat (first | (with_reducible first | exact HK.out | apply Kept.alloc | apply Kept.drewN | apply Kept.drew | refine Kept.setCell ?_ (.inr a6.out) _) | exact HK.out)⟩, ⟨bW⟩⟩
    replace H := iN H; obtain ⟨fT, H⟩ := H
    replace H := iN H; obtain ⟨fS, H⟩ := H
    replace H := oS H; obtain ⟨d4, cW, H⟩ := H
    replace H := iE H; rcases H with ⟨dH, dG, H⟩ | ⟨dH, dG, H⟩
    ·simp only [Option.some.injEq, Prod.mk.injEq] at H
     obtain ⟨rfl, rfl⟩ := H
     have eR := cf6 a0.out
     go_wp2_with (first | ((with_reducible refine gW ?_); first | (refine gD (some 41) Try.func81 rfl (spec_l01Pow2.calls cZ.out) fun nd => ?_; (try (rw [a1e wr]; generalize hq_ : World.drewN wr _ = wr; have aR : Aside0 (Kd.R (Kd.int .i64) 3 wr w0.heap.size (fun k_ => (P1_ k_ ∨ w.heap.size ≤ k_)) (.slice (some aH) aA.length aI) aA) := ⟨by rw [← hq_]; exact (by exact sR <| a4.out)⟩; have aQ : Aside0 (wr.heap[a1]? = some (.cells #[.int .i64 ((kA l0 a3).f0), .int .i64 ((kA l0 a3).f1), .int .i64 ((kA l0 a3).f2), .int .i64 ((kA l0 a3).f3), .int .i64 ((kA l0 a3).f4), .int .i64 ((kA l0 a3).f5)] 31 (0, 0))) := ⟨by rw [← hq_]; exact (by exact sB <| a0.out)⟩; have aO : Aside0 (Kept w wr (fun k_ => P1_ k_)) := ⟨by rw [← hq_]; exact (by repeat (first | (with_reducible first | exact HK.out | apply Kept.alloc | apply Kept.drewN | apply Kept.drew | refine Kept.setCell ?_ (.inr a6.out) _) | exact HK.out))⟩; have aN : Aside0 (Below w0.heap.size w0 wr) := ⟨by rw [← hq_]; exact (by exact bW)⟩; clear a4 a0 HK HB hq_; have a4 := aR; have a0 := aQ; have HK := aO; have HB := aN; clear aR aQ aO aN)); have hcy_0 := (kG a0.out 0).trans (show _ = some (Value.int .i64 ((kA l0 a3).f0)) from rfl); have hcy_2 := (kG a0.out 2).trans (show _ = some (Value.int .i64 ((kA l0 a3).f2)) from rfl); have hcy_3 := (kG a0.out 3).trans (show _ = some (Value.int .i64 ((kA l0 a3).f3)) from rfl); have hcy_4 := (kG a0.out 4).trans (show _ = some (Value.int .i64 ((kA l0 a3).f4)) from rfl); have bB : 0 ≤ (((kA l0 a3).f2) : Int) := oD (by assumption); have b8 : (((kA l0 a3).f2) : Int) < ((aA.length : Int) : Int) := oD (by assumption); obtain ⟨aK, eF, cF, bE, gl39, cl39, HG39⟩ := Kd.R_form a4.out oM; (cases cF); have cQ := am bE; have GG39 := am HG39; clear bE gl39 HG39; have HMgo39 := am (show (P1_ aK ∨ w.heap.size ≤ aK) from (a4.out.1 _ rfl)); obtain ⟨d7, hf39_0⟩ := Kd.R_celln 0 a4.out (((kA l0 a3).f2) : Int) bB b8; replace bB := eq_true bB; replace b8 := eq_true b8; obtain ⟨fE, hz42_⟩ := Kd.R_celln 0 a4.out (((kA l0 a3).f2) : Int) (oD (by assumption)) (oD (by assumption)); have cM := Kd.R_putg a4.out (((kA l0 a3).f2) : Int) (rd l1 ((kA l0 a3).f2))) | ((with_reducible refine pZ (t := 3) (p := 60) rfl ?_); refine pM (t := 3) (p := 60) (v := ?vo_w43) (w1 := (wr.setCell ⟨aK, (((kA l0 a3).f2) : Int).toNat, none⟩ (.int .i64 (rd l1 ((kA l0 a3).f2))))) ?hg ?ho ?hn ?hr ?_; (case ho => rfl); (case hg => rfl); (case hn => rfl); (case hr => (go_simp; done)); intro w43 hw; have hg : wr.grownBy w43 (some aK) := (by rw [hw]; exact cM.2); have hp_ : Kd.R (Kd.int .i64) 3 w43 w0.heap.size (fun k_ => (P1_ k_ ∨ w.heap.size ≤ k_)) (.slice (some ⟨aK, 0, none⟩) aA.length aI) d4 := (by rw [hw, cW.out]; exact cM.1); clear cM; replace a0 := gG a0 hg a4; replace HB := am ((by rw [hw]; exact kX (HB.out) cQ.out : Below w0.heap.size w0 w43)); replace HK := am (qG (S := (fun k_ => P1_ k_)) hg (by repeat (first | (with_reducible first | exact HK.out | apply Kept.alloc | apply Kept.drewN | apply Kept.drew | refine Kept.setCell ?_ (.inr a6.out) _) | exact HK.out)) (fun k_ e_ => (a4.out.1 k_ e_))); replace a4 := am hp_; clear hg hw hp_; have eQ := cf6 a0.out)))
     go_ret
     exact b9h
    simp only [Option.some.injEq, Prod.mk.injEq] at H
    obtain ⟨rfl, rfl⟩ := H
    have eP := cf6 a0.out
    go_wp2_with (first | ((with_reducible refine gW ?_); first | (refine gD (some 41) Try.func81 rfl (spec_l01Pow2.calls cZ.out) fun nd => ?_; (try (rw [a1e wr]; generalize hq_ : World.drewN wr _ = wr; have aR : Aside0 (Kd.R (Kd.int .i64) 3 wr w0.heap.size (fun k_ => (P1_ k_ ∨ w.heap.size ≤ k_)) (.slice (some aH) aA.length aI) aA) := ⟨by rw [← hq_]; exact (by exact sR <| a4.out)⟩; have aQ : Aside0 (wr.heap[a1]? = some (.cells #[.int .i64 ((kA l0 a3).f0), .int .i64 ((kA l0 a3).f1), .int .i64 ((kA l0 a3).f2), .int .i64 ((kA l0 a3).f3), .int .i64 ((kA l0 a3).f4), .int .i64 ((kA l0 a3).f5)] 31 (0, 0))) := ⟨by rw [← hq_]; exact (by exact sB <| a0.out)⟩; have aO : Aside0 (Kept w wr (fun k_ => P1_ k_)) := ⟨by rw [← hq_]; exact (by repeat (first | (with_reducible first | exact HK.out | apply Kept.alloc | apply Kept.drewN | apply Kept.drew | refine Kept.setCell ?_ (.inr a6.out) _) | exact HK.out))⟩; have aN : Aside0 (Below w0.heap.size w0 wr) := ⟨by rw [← hq_]; exact (by exact bW)⟩; clear a4 a0 HK HB hq_; have a4 := aR; have a0 := aQ; have HK := aO; have HB := aN; clear aR aQ aO aN)); have hcy_0 := (kG a0.out 0).trans (show _ = some (Value.int .i64 ((kA l0 a3).f0)) from rfl); have hcy_2 := (kG a0.out 2).trans (show _ = some (Value.int .i64 ((kA l0 a3).f2)) from rfl); have hcy_3 := (kG a0.out 3).trans (show _ = some (Value.int .i64 ((kA l0 a3).f3)) from rfl); have hcy_4 := (kG a0.out 4).trans (show _ = some (Value.int .i64 ((kA l0 a3).f4)) from rfl); have bB : 0 ≤ (((kA l0 a3).f2) : Int) := oD (by assumption); have b8 : (((kA l0 a3).f2) : Int) < ((aA.length : Int) : Int) := oD (by assumption); obtain ⟨aK, eF, cF, bE, gl39, cl39, HG39⟩ := Kd.R_form a4.out oM; (cases cF); have cQ := am bE; have GG39 := am HG39; clear bE gl39 HG39; have HMgo39 := am (show (P1_ aK ∨ w.heap.size ≤ aK) from (a4.out.1 _ rfl)); obtain ⟨d7, hf39_0⟩ := Kd.R_celln 0 a4.out (((kA l0 a3).f2) : Int) bB b8; replace bB := eq_true bB; replace b8 := eq_true b8; obtain ⟨fD, hz46_⟩ := Kd.R_celln 0 a4.out (((kA l0 a3).f2) : Int) (oD (by assumption)) (oD (by assumption)); have cL := Kd.R_putg a4.out (((kA l0 a3).f2) : Int) (rd l1 ((kA l0 a3).f2))) | ((with_reducible refine pZ (t := 3) (p := 60) rfl ?_); refine pM (t := 3) (p := 60) (v := ?vo_w47) (w1 := (wr.setCell ⟨aK, (((kA l0 a3).f2) : Int).toNat, none⟩ (.int .i64 (rd l1 ((kA l0 a3).f2))))) ?hg ?ho ?hn ?hr ?_; (case ho => rfl); (case hg => rfl); (case hn => rfl); (case hr => (go_simp; done)); intro w47 hw; have hg : wr.grownBy w47 (some aK) := (by rw [hw]; exact cL.2); have hp_ : Kd.R (Kd.int .i64) 3 w47 w0.heap.size (fun k_ => (P1_ k_ ∨ w.heap.size ≤ k_)) (.slice (some ⟨aK, 0, none⟩) aA.length aI) d4 := (by rw [hw, cW.out]; exact cL.1); clear cL; replace a0 := gG a0 hg a4; replace HB := am ((by rw [hw]; exact kX (HB.out) cQ.out : Below w0.heap.size w0 w47)); replace HK := am (qG (S := (fun k_ => P1_ k_)) hg (by repeat (first | (with_reducible first | exact HK.out | apply Kept.alloc | apply Kept.drewN | apply Kept.drew | refine Kept.setCell ?_ (.inr a6.out) _) | exact HK.out)) (fun k_ e_ => (a4.out.1 k_ e_))); replace a4 := am hp_; clear hg hw hp_; have eO := cf6 a0.out)))
    go_ret
    exact b9h
 generalize cS : ([0, 0, 0] : List Int) = e2 at H
 have dT := am cS.symm; clear cS
 replace H := oA H; obtain ⟨aG, f9, H⟩ := H
 replace H := am H
 obtain ⟨bN, bL, bP, rfl, a_, aZ, aY, aX, aW, aV⟩ := ix (oZ (Kd.C_kept_now bG.out HK.out) a3)
 go_enter Try.func82, Try.ntmps82
 go_wp2_with (first | ((with_reducible refine gW ?_); first | (refine bX 9 31 #[.int .i64 0, .int .i64 0, .int .i64 0, .int .i64 0, .int .i64 0, .int .i64 0] ?_; intro a1 hg w50 hbox hb; replace aB := rB aB hb; have a0 := am hbox; have a6 := am ((by rw [hg]; exact (by exact HK.out.1) : w.heap.size ≤ a1)); replace HK := am (Kept.below (S := (fun k_ => P1_ k_)) (by repeat (first | (with_reducible first | exact HK.out | apply Kept.alloc | apply Kept.drewN | apply Kept.drew) | exact HK.out)) hb); have cY := am ((by rw [hg]; exact (kE (by exact sW HB.out)) : w0.heap.size ≤ a1)); replace HB := hB HB hb; clear hb hbox hg; have d2 := cf6 a0.out) | (refine gD (some 32) Try.func50 rfl (spec_l02Quant.calls e1.out) fun nd => ?_) | ((with_reducible refine qF (N := 66) rfl ?_); refine Kd.R_lit (Kd.int .i64) _ 3 ?hg (N := 66) ?hd (xs := ([0, 0, 0] : List Int)) (inner := [.int .i64 0, .int .i64 0, .int .i64 0]) (ok := fun _ => True) (okp := fun _ => True) ?hr ?hp (fun _ hk => hk) trivial (Below.refl _ _) (Nat.le_refl _) (by simp) ?_; (case hd => rfl); (case hg => rfl); (case hr => (go_simp; done)); (case hp => exact (Reps.one (show Kd.M (Kd.int .i64) _ _ _ 0 [.int .i64 0] from rfl) (Reps.one (show Kd.M (Kd.int .i64) _ _ _ 0 [.int .i64 0] from rfl) (Reps.one (show Kd.M (Kd.int .i64) _ _ _ 0 [.int .i64 0] from rfl) (Reps.none _ _))))); intro bS w52 bO hb hg_ hnew_; clear hg_ hnew_; (rw [← dT.out] at bO); have b6 := am (Kd.R_lower (Kd.R_new' (Kd.R_newM (M := fun k_ => (P1_ k_ ∨ w.heap.size ≤ k_)) bO (show Kept w _ (fun k_ => P1_ k_) from by repeat (first | (with_reducible first | exact HK.out | apply Kept.alloc | apply Kept.drewN | apply Kept.drew | refine Kept.setCell ?_ (.inr a6.out) _) | exact HK.out)).1 (fun k_ h_ => .inr h_)) (Kd.R_lt (by exact sR <| (rm (rf 5 (rf 4 (rf 3 (rf 2 (rf 1 (rf 0 (ry aB a0))))))))))) (kE (by exact bW))); replace aB := am (Kd.R_elder' (by exact sR <| (rm (rf 5 (rf 4 (rf 3 (rf 2 (rf 1 (rf 0 (ry aB a0))))))))) (Kd.R_base bO) hb); replace a0 := am (kM (by exact sB <| pn (by exact sB <| a0.out)) hb); replace HK := am (Kept.below (S := (fun k_ => P1_ k_)) (by repeat (first | (with_reducible first | exact HK.out | apply Kept.alloc | apply Kept.drewN | apply Kept.drew | refine Kept.setCell ?_ (.inr a6.out) _) | exact HK.out)) hb); replace HB := hX hb; clear hb bO; have d1 := cf6 a0.out) | (refine gF 70 (some 68) rfl ?_; refine gT Try.func70 (spec_Parts.calls f9.out) ?_; rintro bR w55 ⟨cU, hb⟩; have dU := am (Kd.R_lower (Kd.R_new' (Kd.R_new' (Kd.R_newM (M := fun k_ => (P1_ k_ ∨ w.heap.size ≤ k_)) cU (by exact HK.out.1) (fun k_ h_ => .inr h_)) (Kd.R_lt (by exact sR <| aB.out))) (Kd.R_lt (by exact sR <| b6.out))) (kE (by exact bW))); replace aB := rE aB cU hb; replace b6 := rE b6 cU hb; replace a0 := gB a0 hb; replace HK := am (Kept.below (S := (fun k_ => P1_ k_)) (by repeat (first | (with_reducible first | exact HK.out | apply Kept.alloc | apply Kept.drewN | apply Kept.drew | refine Kept.setCell ?_ (.inr a6.out) _) | exact HK.out)) hb); replace HB := hX hb; (try clear hb); (try clear cU))))
 go_loopg [15, 17] k (fun kq eY eX w' => ∃ (a5 : List Int) (b2 : Int) (a7 : Int), eY = .int .i64 b2 ∧ eX = .int .i64 a7 ∧ Aside0 (tI AT kq l0 l1 l2 a5 b2 aG a7 ((kA l0 a3).f0) ((kA l0 a3).f1) ((kA l0 a3).f2) ((kA l0 a3).f3) ((kA l0 a3).f4) ((kA l0 a3).f5) = some (r1, r2)) ∧ Aside0 (kq ≤ k) ∧ Aside0 (Kd.R (Kd.int .i64) 3 w' w0.heap.size (fun k_ => (P1_ k_ ∨ w.heap.size ≤ k_) ∧ some k_ ≠ (bS : Value).ownBlock ∧ some k_ ≠ (bR : Value).ownBlock) u9000_ l1) ∧ Aside0 (Kd.R (Kd.int .i64) 3 w' w0.heap.size (fun k_ => (P1_ k_ ∨ w.heap.size ≤ k_) ∧ some k_ ≠ (u9000_ : Value).ownBlock ∧ some k_ ≠ (bR : Value).ownBlock) bS a5) ∧ Aside0 (Kd.R (Kd.int .i64) 3 w' w0.heap.size (fun k_ => (P1_ k_ ∨ w.heap.size ≤ k_) ∧ some k_ ≠ (u9000_ : Value).ownBlock ∧ some k_ ≠ (bS : Value).ownBlock) bR aG) ∧ Aside0 (w'.heap[a1]? = some (.cells #[.int .i64 ((kA l0 a3).f0), .int .i64 ((kA l0 a3).f1), .int .i64 ((kA l0 a3).f2), .int .i64 ((kA l0 a3).f3), .int .i64 ((kA l0 a3).f4), .int .i64 ((kA l0 a3).f5)] 31 (0, 0))) ∧ Aside0 (Kept w w' (fun k_ => P1_ k_)) ∧ Aside0 (Below w0.heap.size w0 w'))
 case atStart => exact ⟨e2, 1, 0, rfl, rfl, H, ⟨Nat.le_refl _⟩, ⟨sR <| Kd.R_mono aB.out (fun _ hk => ⟨hk.1.1, ⟨hk.1.2, hk.2⟩⟩)⟩, ⟨sR <| Kd.R_mono b6.out (fun _ hk => ⟨hk.1.1.1, ⟨hk.1.2, hk.2⟩⟩)⟩, ⟨sR <| Kd.R_mono dU.out (fun _ hk => ⟨hk.1.1.1, ⟨hk.1.2, hk.2⟩⟩)⟩, ⟨sB <| a0.out⟩, ⟨by repeat (first | (with_reducible first | exact HK.out | apply Kept.alloc | apply Kept.drewN | apply Kept.drew | refine Kept.setCell ?_ (.inr a6.out) _) | exact HK.out)⟩, ⟨bW⟩⟩
 case round => as_aux_lemma =>
  clear H
  clear dC dB cI cH d2 d1 a_ aZ aY aX aW aV bN bL
  obtain ⟨a5, b2, a7, rfl, rfl, HA, b3, a4, a8, aD, a0, HK, HB⟩ := hrel
  cases gk with
  | zero => cases HA.out
  | succ k1 =>
   obtain ⟨H⟩ := HA
   simp only [tI] at H
   replace H := iD H; rcases H with ⟨dF, H⟩ | ⟨dF, H⟩
   ·replace H := iN H; obtain ⟨fR, H⟩ := H
    replace H := iN H; obtain ⟨fQ, H⟩ := H
    replace H := iN H; obtain ⟨fP, H⟩ := H
    replace H := iN H; obtain ⟨fO, H⟩ := H
    replace H := oS H; obtain ⟨bH, cV, H⟩ := H
    replace H := iE H; rcases H with ⟨dE, dD, H⟩ | ⟨dE, dD, H⟩
    ·replace H := iN H; obtain ⟨fN, H⟩ := H
     replace H := am H
     obtain ⟨gE, dA, rfl⟩ := Kd.R_slice aD.out
     obtain ⟨e6, e4, b0, rfl, d0⟩ := ix (Kd.at_int (Kd.R_reads' aD.out).2.2 a7)
     obtain ⟨e5, e3, dS, rfl, c_⟩ := ix (Kd.at_int (Kd.C_kept_now dZ.out HK.out) (rd aG a7))
     have bA : 0 ≤ (a7 : Int) := oD (by assumption)
     have b7 : (a7 : Int) < ((a5.length : Int) : Int) := oD (by assumption)
     obtain ⟨aE, aL, cE, bD, gl61, cl61, HG61⟩ := Kd.R_form a8.out oM
     (cases cE)
     have cP := am bD
     have GG61 := am HG61
     clear bD gl61 HG61
     have HMgo61 := am (show (P1_ aE ∨ w.heap.size ≤ aE) from (a8.out.1 _ rfl).1)
     obtain ⟨d6, hf61_0⟩ := Kd.R_celln 0 a8.out (a7 : Int) bA b7
     replace bA := eq_true bA
     replace b7 := eq_true b7
     have cK := Kd.R_putg a8.out (a7 : Int) (rd l2 (rd aG a7))
     go_wp2_with (first | ((with_reducible refine pZ (t := 3) (p := 84) rfl ?_); refine pM (t := 3) (p := 84) (v := ?vo_w66) (w1 := (wr.setCell ⟨aE, (a7 : Int).toNat, none⟩ (.int .i64 (rd l2 (rd aG a7))))) ?hg ?ho ?hn ?hr ?_; (case ho => rfl); (case hg => rfl); (case hn => rfl); (case hr => (go_simp; done)); intro w66 hw; have hg : wr.grownBy w66 (some aE) := (by rw [hw]; exact cK.2); have hp_ : Kd.R (Kd.int .i64) 3 w66 w0.heap.size (fun k_ => (P1_ k_ ∨ w.heap.size ≤ k_) ∧ some k_ ≠ (u9000_ : Value).ownBlock ∧ some k_ ≠ (.slice (some b0) aG.length dA : Value).ownBlock) (.slice (some ⟨aE, 0, none⟩) a5.length aL) bH := (by rw [hw, cV.out]; exact cK.1); clear cK; replace a4 := am (Kd.R_after (v := (.slice (some ⟨aE, 0, none⟩) a5.length aL)) (v1 := (.slice (some ⟨aE, 0, none⟩) a5.length aL)) (ok := (fun k_ => (P1_ k_ ∨ w.heap.size ≤ k_) ∧ some k_ ≠ (.slice (some b0) aG.length dA : Value).ownBlock)) (by exact sR <| Kd.R_mono a4.out (fun _ hk => ⟨⟨hk.1, hk.2.2⟩, hk.2.1⟩)) hg (.inl rfl)); replace aD := am (Kd.R_after (v := (.slice (some ⟨aE, 0, none⟩) a5.length aL)) (v1 := (.slice (some ⟨aE, 0, none⟩) a5.length aL)) (ok := (fun k_ => (P1_ k_ ∨ w.heap.size ≤ k_) ∧ some k_ ≠ (u9000_ : Value).ownBlock)) (by exact sR <| Kd.R_mono aD.out (fun _ hk => ⟨⟨hk.1, hk.2.1⟩, hk.2.2⟩)) hg (.inl rfl)); replace a0 := gG a0 hg a8; replace HB := am ((by rw [hw]; exact kX (HB.out) cP.out : Below w0.heap.size w0 w66)); replace HK := am (qG (S := (fun k_ => P1_ k_)) hg (by repeat (first | (with_reducible first | exact HK.out | apply Kept.alloc | apply Kept.drewN | apply Kept.drew | refine Kept.setCell ?_ (.inr a6.out) _) | exact HK.out)) (fun k_ e_ => (a8.out.1 k_ e_).1)); replace a8 := am hp_; clear hg hw hp_; obtain ⟨g1, f_, dQ, eC, eN⟩ := ix (Kd.at_int (Kd.R_reads' aD.out).2.2 a7); obtain rfl : b0 = dQ := (by injection eC); obtain ⟨g0, fZ, dP, eB, eM, eL, eK, eJ, eI, eH⟩ := ix (oZ (Kd.C_kept_now bG.out HK.out) (rd aG a7)); obtain rfl : bP = dP := (by injection eB)))
     go_roundg k1
     case measure => have := b3.out; omega
     case rel => exact ⟨bH, ((kA l0 (rd aG a7)).f1), (wrap64 (a7 + 1)), rfl, rfl, H, ⟨by have := b3.out; omega⟩, ⟨sR <| Kd.R_mono a4.out (fun _ hk => ⟨hk.1.1, ⟨hk.2, hk.1.2⟩⟩)⟩, ⟨sR <| a8.out⟩, ⟨sR <| Kd.R_mono aD.out (fun _ hk => ⟨hk.1.1, ⟨hk.1.2, hk.2⟩⟩)⟩, ⟨sB <| a0.out⟩, ⟨by repeat (first | (with_reducible first | exact HK.out | apply Kept.alloc | apply Kept.drewN | apply Kept.drew | refine Kept.setCell ?_ (.inr a6.out) _) | exact HK.out)⟩, ⟨bW⟩⟩
    replace H := am H
    obtain ⟨gA, d9, rfl⟩ := Kd.R_slice aD.out
    obtain ⟨e6, e4, b0, rfl, d0⟩ := ix (Kd.at_int (Kd.R_reads' aD.out).2.2 a7)
    obtain ⟨e5, e3, dS, rfl, c_⟩ := ix (Kd.at_int (Kd.C_kept_now dZ.out HK.out) (rd aG a7))
    have bA : 0 ≤ (a7 : Int) := oD (by assumption)
    have b7 : (a7 : Int) < ((a5.length : Int) : Int) := oD (by assumption)
    obtain ⟨aE, aL, cE, bD, gl61, cl61, HG61⟩ := Kd.R_form a8.out oM
    (cases cE)
    have cP := am bD
    have GG61 := am HG61
    clear bD gl61 HG61
    have HMgo61 := am (show (P1_ aE ∨ w.heap.size ≤ aE) from (a8.out.1 _ rfl).1)
    obtain ⟨d6, hf61_0⟩ := Kd.R_celln 0 a8.out (a7 : Int) bA b7
    replace bA := eq_true bA
    replace b7 := eq_true b7
    have cJ := Kd.R_putg a8.out (a7 : Int) (rd l2 (rd aG a7))
    go_wp2_with (first | ((with_reducible refine pZ (t := 3) (p := 84) rfl ?_); refine pM (t := 3) (p := 84) (v := ?vo_w69) (w1 := (wr.setCell ⟨aE, (a7 : Int).toNat, none⟩ (.int .i64 (rd l2 (rd aG a7))))) ?hg ?ho ?hn ?hr ?_; (case ho => rfl); (case hg => rfl); (case hn => rfl); (case hr => (go_simp; done)); intro w69 hw; have hg : wr.grownBy w69 (some aE) := (by rw [hw]; exact cJ.2); have hp_ : Kd.R (Kd.int .i64) 3 w69 w0.heap.size (fun k_ => (P1_ k_ ∨ w.heap.size ≤ k_) ∧ some k_ ≠ (u9000_ : Value).ownBlock ∧ some k_ ≠ (.slice (some b0) aG.length d9 : Value).ownBlock) (.slice (some ⟨aE, 0, none⟩) a5.length aL) bH := (by rw [hw, cV.out]; exact cJ.1); clear cJ; replace a4 := am (Kd.R_after (v := (.slice (some ⟨aE, 0, none⟩) a5.length aL)) (v1 := (.slice (some ⟨aE, 0, none⟩) a5.length aL)) (ok := (fun k_ => (P1_ k_ ∨ w.heap.size ≤ k_) ∧ some k_ ≠ (.slice (some b0) aG.length d9 : Value).ownBlock)) (by exact sR <| Kd.R_mono a4.out (fun _ hk => ⟨⟨hk.1, hk.2.2⟩, hk.2.1⟩)) hg (.inl rfl)); replace aD := am (Kd.R_after (v := (.slice (some ⟨aE, 0, none⟩) a5.length aL)) (v1 := (.slice (some ⟨aE, 0, none⟩) a5.length aL)) (ok := (fun k_ => (P1_ k_ ∨ w.heap.size ≤ k_) ∧ some k_ ≠ (u9000_ : Value).ownBlock)) (by exact sR <| Kd.R_mono aD.out (fun _ hk => ⟨⟨hk.1, hk.2.1⟩, hk.2.2⟩)) hg (.inl rfl)); replace a0 := gG a0 hg a8; replace HB := am ((by rw [hw]; exact kX (HB.out) cP.out : Below w0.heap.size w0 w69)); replace HK := am (qG (S := (fun k_ => P1_ k_)) hg (by repeat (first | (with_reducible first | exact HK.out | apply Kept.alloc | apply Kept.drewN | apply Kept.drew | refine Kept.setCell ?_ (.inr a6.out) _) | exact HK.out)) (fun k_ e_ => (a8.out.1 k_ e_).1)); replace a8 := am hp_; clear hg hw hp_))
    go_roundg k1
    case measure => have := b3.out; omega
    case rel => exact ⟨bH, b2, (wrap64 (a7 + 1)), rfl, rfl, H, ⟨by have := b3.out; omega⟩, ⟨sR <| Kd.R_mono a4.out (fun _ hk => ⟨hk.1.1, ⟨hk.2, hk.1.2⟩⟩)⟩, ⟨sR <| a8.out⟩, ⟨sR <| Kd.R_mono aD.out (fun _ hk => ⟨hk.1.1, ⟨hk.1.2, hk.2⟩⟩)⟩, ⟨sB <| a0.out⟩, ⟨by repeat (first | (with_reducible first | exact HK.out | apply Kept.alloc | apply Kept.drewN | apply Kept.drew | refine Kept.setCell ?_ (.inr a6.out) _) | exact HK.out)⟩, ⟨bW⟩⟩
   replace H := iP H; obtain ⟨dY, H⟩ := H
   have fM : decide (0 < (a5.length : Int)) = true := decide_eq_true dY
   have fL : decide (0 < a5.length) = true := decide_eq_true oM
   have g7 : 0 < a5.length := by omega
   clear dY
   replace H := iP H; obtain ⟨dX, H⟩ := H
   have fK : decide (1 < (a5.length : Int)) = true := decide_eq_true dX
   have fJ : decide (1 < a5.length) = true := decide_eq_true oM
   clear dX
   replace H := iP H; obtain ⟨dW, H⟩ := H
   have fI : decide (2 < (a5.length : Int)) = true := decide_eq_true dW
   have fH : decide (2 < a5.length) = true := decide_eq_true oM
   clear dW
   replace H := oA H; obtain ⟨fW, f8, H⟩ := H
   simp only [Option.some.injEq, Prod.mk.injEq] at H
   obtain ⟨rfl, rfl⟩ := H
   obtain ⟨g9, g3, rfl⟩ := Kd.R_slice aD.out
   try go_wp2
   replace a4 := am (Kd.R_drew a4.out)
   replace a8 := am (Kd.R_drew a8.out)
   replace aD := am (Kd.R_drew aD.out)
   replace a0 := am (pB a0.out)
   replace HK := am (Kept.drew HK.out)
   replace HB := am (kV HB.out)
   obtain ⟨g8, g2, e7⟩ := Kd.R_slice a8.out
   (subst e7)
   have cB : 0 ≤ (0 : Int) := oM
   have bV : 0 < (a5.length : Int) := oD (by assumption)
   obtain ⟨aM, eA, aU⟩ := Kd.at_int (Kd.R_reads' a8.out).2.2 0 cB bV
   cases eA
   have fC : (0 < a5.length) = True := eq_true oM
   (try rw [tn0] at aU)
   (try rw [Addr.add_zero'] at aU)
   replace cB := eq_true cB
   replace bV := eq_true bV
   have c1 : 0 ≤ (1 : Int) := oM
   have bU : 1 < (a5.length : Int) := oD (by assumption)
   obtain ⟨dO, e9, aT⟩ := Kd.at_int (Kd.R_reads' a8.out).2.2 1 c1 bU
   obtain rfl : aM = dO := (by injection e9)
   (try simp only [show (1 : Int).toNat = 1 from rfl, Nat.reduceMul, Nat.reduceEqDiff, Go.Addr.add, ↓reduceIte] at aT)
   have fB : (1 < a5.length) = True := eq_true oM
   (try rw [show ((1 : Int)).toNat = 1 from rfl] at aT)
   replace c1 := eq_true c1
   replace bU := eq_true bU
   have b_ : 0 ≤ (2 : Int) := oM
   have bT : 2 < (a5.length : Int) := oD (by assumption)
   obtain ⟨dN, e8, aS⟩ := Kd.at_int (Kd.R_reads' a8.out).2.2 2 b_ bT
   obtain rfl : aM = dN := (by injection e8)
   (try simp only [show (2 : Int).toNat = 2 from rfl, Nat.reduceMul, Nat.reduceEqDiff, Go.Addr.add, ↓reduceIte] at aS)
   have fA : (2 < a5.length) = True := eq_true oM
   (try rw [show ((2 : Int)).toNat = 2 from rfl] at aS)
   replace b_ := eq_true b_
   replace bT := eq_true bT
   refine xE (n := 13) (S := fun w' => w'.cell? ⟨a1, 0, none⟩ = some (.int .i64 ((kA l0 a3).f0)) ∧ w'.cell? ⟨a1, 1, none⟩ = some (.int .i64 ((kA l0 a3).f1)) ∧ w'.cell? ⟨a1, 2, none⟩ = some (.int .i64 ((kA l0 a3).f2)) ∧ w'.cell? ⟨a1, 3, none⟩ = some (.int .i64 ((kA l0 a3).f3)) ∧ w'.cell? ⟨a1, 4, none⟩ = some (.int .i64 ((kA l0 a3).f4)) ∧ w'.cell? ⟨a1, 5, none⟩ = some (.int .i64 ((kA l0 a3).f5)) ∧ w'.cell? aM = some (.int .i64 (rd a5 0)) ∧ w'.cell? ⟨aM.block, aM.off + 1, none⟩ = some (.int .i64 (rd a5 1)) ∧ w'.cell? ⟨aM.block, aM.off + 2, none⟩ = some (.int .i64 (rd a5 2))) (ds := []) c6k (by kernel_rfl) rfl rfl ⟨(kG a0.out 0).trans rfl, (kG a0.out 1).trans rfl, (kG a0.out 2).trans rfl, (kG a0.out 3).trans rfl, (kG a0.out 4).trans rfl, (kG a0.out 5).trans rfl, aU, aT, aS⟩ (fun hHeld => ?_); refine wP a2p a2b (fun HT_ HW_ => ?_)
   generalize wr.drew = w75 at a4 a8 aD a0 HK HB aU aT aS hHeld ⊢
   refine pT (i := 1) (N := some 96) c6g ?_
   refine pT (i := 2) (N := some 97) c6c ?_
   refine pT (i := 3) (N := some 98) c5y ?_
   refine pT (i := 5) (N := some 100) c5u ?_
   refine pT (i := 6) (N := some 101) c5q ?_
   refine pT (i := 8) (N := some 103) c5m ?_
   refine pT (i := 9) (N := some 104) c5i ?_
   refine sI (i := 0) (N := some 95) (v := ?_) (a' := ?_) c5c rfl rfl (pU HT_.out HW_.out (by kernel_rfl)) (fun _ _ _ h => h) (Or.inl ⟨by rfl, ?_⟩) hHeld ?_ ?_
   rotate_left
   ·rintro w' ⟨s0, s1, s2, s3, s4, s5, s6, s7, s8⟩
    go_simp
    with_reducible rfl
   rotate_left
   ·exact a8c
   refine sI (i := 4) (N := some 99) (v := ?_) (a' := ?_) c4y rfl rfl (pU HT_.out HW_.out (by kernel_rfl)) (fun _ _ _ h => h) (Or.inl ⟨by rfl, ?_⟩) hHeld ?_ ?_
   rotate_left
   ·rintro w' ⟨s0, s1, s2, s3, s4, s5, s6, s7, s8⟩
    go_simp
    with_reducible rfl
   rotate_left
   ·exact a8c
   refine sI (i := 7) (N := some 102) (v := ?_) (a' := ?_) c3a rfl rfl (pU HT_.out HW_.out (by kernel_rfl)) (fun _ _ _ h => h) (Or.inl ⟨by rfl, ?_⟩) hHeld ?_ ?_
   rotate_left
   ·rintro w' ⟨s0, s1, s2, s3, s4, s5, s6, s7, s8⟩
    go_simp
    with_reducible rfl
   rotate_left
   ·exact a8c
   refine sI (i := 10) (N := some 105) (v := ?_) (a' := ?_) c2w rfl rfl (pU HT_.out HW_.out (by kernel_rfl)) (fun _ _ _ h => h) (Or.inl ⟨by rfl, ?_⟩) hHeld ?_ ?_
   rotate_left
   ·rintro w' ⟨s0, s1, s2, s3, s4, s5, s6, s7, s8⟩
    go_simp
    with_reducible rfl
   rotate_left
   ·exact a8c
   refine a3e (i := 11) (N := some 106) c2s rfl rfl (a1k HT_.out (by kernel_rfl)) (by decide) (fun K hK => ?_)
   refine a5g Try.func120 (by kernel_rfl) rfl #[.agg #[.int .i64 ((kA l0 a3).f0), .int .i64 ((kA l0 a3).f1), .int .i64 ((kA l0 a3).f2), .int .i64 ((kA l0 a3).f3), .int .i64 ((kA l0 a3).f4), .int .i64 ((kA l0 a3).f5)], .int .i64 b2, .int .i64 (rd a5 0), .int .i64 (rd a5 1), .int .i64 (rd a5 2)] (by rfl) rfl rfl tm ?_
   with_reducible refine (spec_Apply.calls f8.out).mono ?_
   rintro e w77 ⟨rfl, hb⟩
   have HS6_ := (hb.cell (World.block_lt_of_cell? _ _ (hHeld.2.2.2.2.2.2.1))).trans (hHeld.2.2.2.2.2.2.1)
   have HS7_ := (hb.cell (World.block_lt_of_cell? _ _ (hHeld.2.2.2.2.2.2.2.1))).trans (hHeld.2.2.2.2.2.2.2.1)
   have HS8_ := (hb.cell (World.block_lt_of_cell? _ _ (hHeld.2.2.2.2.2.2.2.2))).trans (hHeld.2.2.2.2.2.2.2.2)
   refine ⟨_, rfl, ?_⟩
   replace a4 := rB a4 hb
   replace a8 := rB a8 hb
   replace aD := rB aD hb
   replace a0 := gB a0 hb
   replace HK := am (Kept.below (S := (fun k_ => P1_ k_)) (by repeat (first | (with_reducible first | exact HK.out | apply Kept.alloc | apply Kept.drewN | apply Kept.drew | refine Kept.setCell ?_ (.inr a6.out) _) | exact HK.out)) hb)
   replace HB := hX hb
   clear hb
   refine hK.out _ _ ⟨(kG a0.out 0).trans rfl, (kG a0.out 1).trans rfl, (kG a0.out 2).trans rfl, (kG a0.out 3).trans rfl, (kG a0.out 4).trans rfl, (kG a0.out 5).trans rfl, HS6_, HS7_, HS8_⟩ (fun hHeld => ?_)
   clear hK K
   refine wO (a' := ?_) ?_ ?_
   rotate_left
   ·show Act.put _ (some 106) _ = _
    exact a8c
   refine pT (i := 12) (N := some 8) c2p ?_
   refine a1v (a0v HT_.out (by kernel_rfl)) ?_
   try go_wp2
   go_ret
   exact ⟨rfl, sR <| Kd.R_mono a4.out (fun _ hk => hk.1), bW, by repeat (first | (with_reducible first | exact HK.out | apply Kept.alloc | apply Kept.drewN | apply Kept.drew | refine Kept.setCell ?_ (.inr a6.out) _) | exact HK.out)⟩
end Go.Proofs.Ytkpipmojkhikaaa.PAll
