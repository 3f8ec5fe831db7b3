/- Written by a program of this session over the loaded program, and by hand: Go functions as plain Lean functions, and that a call comes to what they say. -/
import Derived.Test.YtkpipmojkhikaaaVDenied0
import Derived.Test.YtkpipmojkhikaaaVDenied1
import Derived.Test.YtkpipmojkhikaaaBase
import Derived.Test.YtkpipmojkhikaaaSq
namespace Go.Proofs.Ytkpipmojkhikaaa.PAll
open Go.RowKit Go.Proofs.YtkpipmojkhikaaaW.PrintWords Go.Proofs.YtkpipmojkhikaaaW.PrintLast Go.Proofs.YtkpipmojkhikaaaW.PrintMore Go.Proofs.YtkpipmojkhikaaaW.Sq
attribute [local go_sem] qZ qX sT sS qC qB qY qW
set_option linter.unusedVariables false
set_option maxHeartbeats 8000000
set_option maxRecDepth 100000
set_option linter.unusedSimpArgs false
def sD (a2 : List Int) (a1 : Int) (a0 : Int) : Option (Int × Int × Int) := if a1 < (a2.length : Int) then (if 0 ≤ a1 then (some (Go.bits .and .i64 (wrap64 ((Go.bits .and .i64 (Go.bits .xor .i64 ((wrap64 ((wrap64 (a0 * 6364136223846793005)) + 1442695040888963407)) / 8589934592) ((wrap64 ((wrap64 (a0 * 6364136223846793005)) + 1442695040888963407)) / 35184372088832)) 255) + (wrap64 (rd a2 a1)))) 255, wrap64 (a1 + 1), wrap64 ((wrap64 (a0 * 6364136223846793005)) + 1442695040888963407))) else (none)) else (some (Go.bits .and .i64 (Go.bits .xor .i64 ((wrap64 ((wrap64 (a0 * 6364136223846793005)) + 1442695040888963407)) / 8589934592) ((wrap64 ((wrap64 (a0 * 6364136223846793005)) + 1442695040888963407)) / 35184372088832)) 255, a1, wrap64 ((wrap64 (a0 * 6364136223846793005)) + 1442695040888963407)))
theorem b9n {P : Prop} (h : P := by
 go_enter Try.func108, Try.ntmps108
 go_wp2
 repeat (go_quiet (fail); try go_wp2)
 go_ret
 exact ⟨rfl, kL, kJ, kB⟩) : P := h
theorem spec_l01Byte.calls {g : Nat} {a3 : List Int} {a1 a2 r1 r2 r3 : Int} (w0 w : World) (hI : IsS93 w0 w g a3 a1 a2) (hB : Below w0.heap.size w0 w) (h : sD a3 a1 a2 = some (r1, r2, r3)) :
  Calls Try.prog 108 #[.pointer (some ⟨g, 0, none⟩)] w fun e w' => e = .returned (.int .i64 r1) ∧ IsS93 w0 w' g a3 r2 r3 ∧ Below w0.heap.size w0 w' ∧ KeepBut w w' g none := by
 have HI0 := am hI
 have HK := am (KeepBut.refl w g none)
 have HL := am hB.size
 clear hI
 have HW0 := am hB.size
 have HB := am hB
 clear hB
 have H := h
 clear h
 unfold sD at H
 replace H := iD H; rcases H with ⟨a8, H⟩ | ⟨a8, H⟩
 ·replace H := iN H; obtain ⟨aK, H⟩ := H
  simp only [Option.some.injEq, Prod.mk.injEq] at H
  obtain ⟨rfl, rfl, rfl⟩ := H
  obtain ⟨ASz4_0, cSz4_0, HGz4, hgz4, HSz4_0⟩ := HI0.out
  have aJ := a9a HGz4
  have aI := a8z HGz4
  have aH := a8y HGz4
  have aD := kP HGz4 1
  have aC := kP HGz4 2
  clear HGz4 hgz4
  have a5 : 0 ≤ (a1 : Int) := oD (by assumption)
  have a4 : a1 < (a3.length : Int) := oD (by assumption)
  obtain ⟨a6, a7, a0⟩ := Kd.at_int HSz4_0 a1 a5 a4
  cases a7
  have hn287_0 : a6.block ≠ g := Nat.ne_of_lt (Nat.lt_of_lt_of_le (by have := World.block_lt_of_cell? _ _ a0; rwa [kF] at this) (a2n HI0.out))
  replace a0 := kC HB.out a0
  replace a0 := (kH (p := ⟨g, 2, none⟩) (by (rw [kF]; exact hn287_0)) (.int .i64 (wrap64 ((wrap64 (a2 * 6364136223846793005)) + 1442695040888963407)))).trans a0
  (try have a9 := fun (n_ : Nat) => (show (((w.drewN n_).setCell ⟨g, 2, none⟩ (.int .i64 (wrap64 ((wrap64 (a2 * 6364136223846793005)) + 1442695040888963407))))).cell? _ = some _ from a0))
  clear hn287_0
  replace a5 := eq_true a5
  replace a4 := eq_true a4
  exact b9n
 simp only [Option.some.injEq, Prod.mk.injEq] at H
 obtain ⟨rfl, rfl, rfl⟩ := H
 obtain ⟨ASz5_0, cSz5_0, HGz5, hgz5, HSz5_0⟩ := HI0.out
 have aG := a9a HGz5
 have aF := a8z HGz5
 have aE := a8y HGz5
 have aB := kP HGz5 1
 have aA := kP HGz5 2
 clear HGz5 hgz5
 exact b9n
def pC (a0 : List Int) (a8 : Int) (a7 : Int) (a1 : Int) : Option (Int × Int × Int) := if a1 ≤ 0 then (some (0, a8, a7)) else (if a1 ≤ 256 then ((sD a0 a8 a7).bind fun a6 => (if a1 = 0 then (none) else (some (Int.tmod a6.1 a1, a6.2.1, a6.2.2)))) else ((sD a0 a8 a7).bind fun a5 => ((sD a0 a5.2.1 a5.2.2).bind fun a4 => ((sD a0 a4.2.1 a4.2.2).bind fun a3 => ((sD a0 a3.2.1 a3.2.2).bind fun a2 => (if a1 = 0 then (none) else (some (Int.tmod (wrap64 ((wrap64 ((wrap64 ((wrap64 (a5.1 * 16777216)) + (wrap64 (a4.1 * 65536)))) + (wrap64 (a3.1 * 256)))) + a2.1)) a1, a2.2.1, a2.2.2))))))))
theorem spec_l01Below.calls (g : Nat) (a0 : List Int) (a4 a3 a1 r1 r2 r3 : Int) (w0 w : World) (hI : IsS93 w0 w g a0 a4 a3) (hB : Below w0.heap.size w0 w) (h : pC a0 a4 a3 a1 = some (r1, r2, r3)) :
  Calls Try.prog 69 #[.pointer (some ⟨g, 0, none⟩), .int .i64 a1] w fun e w' => e = .returned (.int .i64 r1) ∧ IsS93 w0 w' g a0 r2 r3 ∧ Below w0.heap.size w0 w' ∧ KeepBut w w' g none := by
 have HI0 := am hI
 have HK := am (KeepBut.refl w g none)
 have HL := am hB.size
 clear hI
 have HW0 := am hB.size
 have HB := am hB
 clear hB
 have H := h
 clear h
 unfold pC at H
 replace H := iD H; rcases H with ⟨a6, H⟩ | ⟨a6, H⟩
 ·simp only [Option.some.injEq, Prod.mk.injEq] at H
  obtain ⟨rfl, rfl, rfl⟩ := H
  go_enter Try.func69, Try.ntmps69
  go_wp2
  go_ret
  exact ⟨rfl, kL, kJ, kB⟩
 replace H := iD H; rcases H with ⟨a5, H⟩ | ⟨a5, H⟩
 ·replace H := oA H; obtain ⟨⟨aQ, aO, aN⟩, A5, H⟩ := H
  try dsimp only at H
  by_cases c6 : a1 = 0
  ·rw [if_pos c6] at H
   exact absurd H (by simp)
  rw [if_neg c6] at H
  have aS : (a1 == 0) = false := beq_eq_false_iff_ne.mpr c6
  have aR : (a1 != 0) = true := bne_iff_ne.mpr c6
  simp only [Option.some.injEq, Prod.mk.injEq] at H
  obtain ⟨rfl, rfl, rfl⟩ := H
  go_enter Try.func69, Try.ntmps69
  go_wp2_with (first | ((with_reducible refine gW ?_); first | (refine gF 108 (some 14) rfl ?_; refine gS Try.func108 (spec_l01Byte.calls w0 _ kL kJ A5.out) ?_; rintro w7 ⟨hi, hb, hk⟩; replace HK := kT hk; replace HB := am hb; replace HI0 := am hi; (try clear hb); (try clear hk); (try clear hi))))
  go_ret
  exact ⟨rfl, kL, kJ, kB⟩
 replace H := oA H; obtain ⟨⟨aM, aL, aK⟩, A8, H⟩ := H
 try dsimp only at H
 replace H := oA H; obtain ⟨⟨aJ, aI, aH⟩, A9, H⟩ := H
 try dsimp only at H
 replace H := oA H; obtain ⟨⟨aG, aF, aE⟩, a8, H⟩ := H
 try dsimp only at H
 replace H := oA H; obtain ⟨⟨aD, aC, aB⟩, a7, H⟩ := H
 try dsimp only at H
 by_cases a2 : a1 = 0
 ·rw [if_pos a2] at H
  exact absurd H (by simp)
 rw [if_neg a2] at H
 have aA : (a1 == 0) = false := beq_eq_false_iff_ne.mpr a2
 have a9 : (a1 != 0) = true := bne_iff_ne.mpr a2
 simp only [Option.some.injEq, Prod.mk.injEq] at H
 obtain ⟨rfl, rfl, rfl⟩ := H
 go_enter Try.func69, Try.ntmps69
 go_wp2_with (first | ((with_reducible refine gW ?_); first | (refine gF 108 (some 18) rfl ?_; refine gS Try.func108 (spec_l01Byte.calls w0 _ kL kJ A8.out) ?_; rintro w13 ⟨hi, hb, hk⟩; replace HK := kT hk; replace HB := am hb; replace HI0 := am hi; (try clear hb); (try clear hk); (try clear hi)) | (refine gF 108 (some 20) rfl ?_; refine gS Try.func108 (spec_l01Byte.calls w0 _ kL kJ A9.out) ?_; rintro w14 ⟨hi, hb, hk⟩; replace HK := kT hk; replace HB := am hb; replace HI0 := am hi; (try clear hb); (try clear hk); (try clear hi)) | (refine gF 108 (some 22) rfl ?_; refine gS Try.func108 (spec_l01Byte.calls w0 _ kL kJ a8.out) ?_; rintro w15 ⟨hi, hb, hk⟩; replace HK := kT hk; replace HB := am hb; replace HI0 := am hi; (try clear hb); (try clear hk); (try clear hi)) | (refine gF 108 (some 24) rfl ?_; refine gS Try.func108 (spec_l01Byte.calls w0 _ kL kJ a7.out) ?_; rintro w16 ⟨hi, hb, hk⟩; replace HK := kT hk; replace HB := am hb; replace HI0 := am hi; (try clear hb); (try clear hk); (try clear hi))))
 go_ret
 exact ⟨rfl, kL, kJ, kB⟩
def sA (a4 : List Int) (a3 : Int) (a2 : Int) (a1 : Int) : Option (Bool × Int × Int) := (pC a4 a3 a2 a1).bind fun a0 => (some ((a0.1 == 0), a0.2.1, a0.2.2))
theorem spec_l01Once.calls {g : Nat} {a0 : List Int} {a3 a2 a1 : Int} {r1 : Bool} {r2 r3 : Int} (w0 w : World) (hI : IsS93 w0 w g a0 a3 a2) (hB : Below w0.heap.size w0 w) (h : sA a0 a3 a2 a1 = some (r1, r2, r3)) :
  Calls Try.prog 68 #[.pointer (some ⟨g, 0, none⟩), .int .i64 a1] w fun e w' => e = .returned (.bool r1) ∧ IsS93 w0 w' g a0 r2 r3 ∧ Below w0.heap.size w0 w' ∧ KeepBut w w' g none := by
 have HI0 := am hI
 have HK := am (KeepBut.refl w g none)
 have HL := am hB.size
 clear hI
 have HW0 := am hB.size
 have HB := am hB
 clear hB
 have H := h
 clear h
 unfold sA at H
 replace H := oA H; obtain ⟨⟨a6, a5, a4⟩, A3, H⟩ := H
 try dsimp only at H
 simp only [Option.some.injEq, Prod.mk.injEq] at H
 obtain ⟨rfl, rfl, rfl⟩ := H
 go_enter Try.func68, Try.ntmps68
 go_wp2_with (first | ((with_reducible refine gW ?_); first | (refine gF 69 (some 7) rfl ?_; refine gS Try.func69 (spec_l01Below.calls _ _ _ _ _ _ _ _ w0 _ kL kJ A3.out) ?_; rintro w4 ⟨hi, hb, hk⟩; replace HK := kT hk; replace HB := am hb; replace HI0 := am hi; (try clear hb); (try clear hk); (try clear hi))))
 go_ret
 exact ⟨rfl, kL, kJ, kB⟩
def pK (l0 : List (S31)) (a5 : Int) (a4 : Int) (a3 : Int) (a2 : Int) (a1 : Int) (a0 : Int) : Option ((List (S31)) × Int) := if l0.length < 2932031007402 then (some ((l0 ++ [(⟨a5, a4, a3, a2, a1, a0⟩ : S31)]), (l0.length : Int))) else (none)
theorem spec_l02Push.calls (P0_ : Nat → Prop) (u9000_ : Value) (l0 : List (S31)) (a5 a4 a3 a2 a1 a0 : Int) (r1 : List (S31)) (r2 : Int) (w0 w : World) (hB : Below w0.heap.size w0 w) (aH : Kd.R k31 31 w w0.heap.size P0_ u9000_ l0) (h : pK l0 a5 a4 a3 a2 a1 a0 = some (r1, r2)) :
  Calls Try.prog 127 #[u9000_, .agg #[.int .i64 a5, .int .i64 a4, .int .i64 a3, .int .i64 a2, .int .i64 a1, .int .i64 a0]] w fun e w' => ∃ aE : Value, e = .returned (.tuple #[aE, .int .i64 r2]) ∧ Kd.R k31 31 w' w0.heap.size (fun k_ => (P0_ k_ ∨ w.heap.size ≤ k_)) aE r1 ∧ Below w0.heap.size w0 w' ∧ Kept w w' (fun k_ => P0_ k_) := by
 have hu31 := Try.underlying31
 have a8 := am (show Kd.R k31 31 w w0.heap.size (fun k_ => (P0_ k_ ∨ w.heap.size ≤ k_)) u9000_ l0 from Kd.R_mono aH (fun k_ hk => (.inl hk)))
 have HK := am (Kept.refl w (fun k_ => P0_ k_))
 have HW0 := am hB.size
 have HB := am hB
 clear hB
 have H := h
 clear h
 unfold pK at H
 replace H := iP H; obtain ⟨c3, H⟩ := H
 have aG := am c3
 clear c3
 generalize a9 : l0 ++ [(⟨a5, a4, a3, a2, a1, a0⟩ : S31)] = aZ at H
 have aC := am a9.symm; clear a9
 simp only [Option.some.injEq, Prod.mk.injEq] at H
 obtain ⟨rfl, rfl⟩ := H
 obtain ⟨Ao_push_, co_push_, rfl⟩ := Kd.R_slice a8.out
 go_enter Try.func127, Try.ntmps127
 go_wp2_with (first | ((with_reducible refine gW ?_); first | (refine bX 3 31 #[.int .i64 a5, .int .i64 a4, .int .i64 a3, .int .i64 a2, .int .i64 a1, .int .i64 a0] ?_; intro a6 hg w4 hbox hb; replace a8 := am (Kd.R_below (Kd.R_elderB (by exact sR <| a8.out) a6 (Nat.le_of_eq hg.symm)) hb); have a7 := am hbox; have aA := am ((by rw [hg]; exact (by exact HK.out.1) : w.heap.size ≤ a6)); replace HK := am (Kept.below (S := (fun k_ => P0_ k_)) (by repeat (first | (with_reducible first | exact HK.out | apply Kept.alloc | apply Kept.drewN | apply Kept.drew) | exact HK.out)) hb); have aY := am ((by rw [hg]; exact (kE (by exact sW HB.out)) : w0.heap.size ≤ a6)); replace HB := hB HB hb; clear hb hbox hg; obtain ⟨⟨aX, aW, aV, aU, aT, aR⟩, aQ, aN, aM, aK, aJ, aI⟩ := cf6 a7.out) | ((with_reducible refine kW (b := .append) (xs := #[.tmp 6, .tmp 8]) rfl ?_); at_builtin; refine Kd.R_append k31 (w0 := w0) w0.heap.size rfl (.tmp 6) (.tmp 8) 24 31 (.agg #[(.int .i64 0), (.int .i64 0), (.int .i64 0), (.int .i64 0), (.int .i64 0), (.int .i64 0)]) 48 rfl Try.underlying24 xL rfl (by decide) oM (Value.slice Ao_push_ l0.length co_push_) l0 (⟨a5, a4, a3, a2, a1, a0⟩ : S31) [.int .i64 a5, .int .i64 a4, .int .i64 a3, .int .i64 a2, .int .i64 a1, .int .i64 a0] (fun k_ => (P0_ k_ ∨ w.heap.size ≤ k_) ∧ k_ ≠ a6) (fun _ => False) rfl rfl ?aP (fun _ hk => hk.elim) ?aF ?aO ?aB ?aS ?aL ?_; (case aP => exact vV _ _ _ (⟨a5, a4, a3, a2, a1, a0⟩ : S31)); (case aB => exact (by exact bW)); (case aF => exact (fun k_ hk => ⟨(.inr (Nat.le_trans (by exact HK.out.1) hk)), Kd.freshB (g := a6) (o := .cells #[.int .i64 a5, .int .i64 a4, .int .i64 a3, .int .i64 a2, .int .i64 a1, .int .i64 a0] 31 (0, 0)) (by exact sB <| a7.out) k_ hk⟩)); (case aO => exact (by exact sR <| a8.out)); (case aS => exact (kE (by exact bW))); (case aL => have := aG.out; omega); intro a_ w6 ho hb hg hat; rw [← aC.out] at ho; replace a7 := am (tF (g := a6) (o := .cells #[.int .i64 a5, .int .i64 a4, .int .i64 a3, .int .i64 a2, .int .i64 a1, .int .i64 a0] 31 (0, 0)) (by exact sB <| a7.out) hg (Kd.R_away a8.out (fun _ hk => hk.2))); replace HB := am hb; replace HK := am (qG (S := (fun k_ => P0_ k_)) hg (by repeat (first | (with_reducible first | exact HK.out | apply Kept.alloc | apply Kept.drewN | apply Kept.drew | refine Kept.setCell ?_ (.inr aA.out) _) | exact HK.out)) (fun k_ e_ => (a8.out.1 k_ e_).1)); have aD := am ho; clear a8; clear ho hb hg hat)))
 go_ret2
 exact ⟨_, rfl, sR <| Kd.R_mono aD.out (fun _ hk => hk.1), bW, by repeat (first | (with_reducible first | exact HK.out | apply Kept.alloc | apply Kept.drewN | apply Kept.drew | refine Kept.setCell ?_ (.inr aA.out) _) | exact HK.out)⟩
end Go.Proofs.Ytkpipmojkhikaaa.PAll
