/- Written by a program of this session over the loaded program, and by hand: Go functions as plain Lean functions, and that a call comes to what they say. -/
import Derived.Test.YtjjjbifbibabgaaVFree0
import Derived.Test.YtjjjbifbibabgaaVFree11
import Derived.Test.YtjjjbifbibabgaaBase
import Derived.Test.YtjjjbifbibabgaaSq
namespace Go.Proofs.Ytjjjbifbibabgaa.PAll
open Go.RowKit Go.Proofs.YtjjjbifbibabgaaW.PrintWords Go.Proofs.YtjjjbifbibabgaaW.PrintLast Go.Proofs.YtjjjbifbibabgaaW.PrintMore Go.Proofs.YtjjjbifbibabgaaW.Sq
attribute [local go_sem] max2_int min2_int max_two min_two max_three min_three max_four min_four   -- for this text's walks alone
set_option linter.unusedVariables false
set_option linter.unusedSimpArgs false

section
attribute [local go_sem high] eqA39
@[reducible] def zA0x21 : Array Bool := #[false, false, false, false, false, false, false, false]
@[reducible] def zA1x21 : Array Bool := #[true, false, false, false, false, false, false, false]
@[reducible] def zA2x21 : Array Bool := #[true, false, true, false, false, false, false, false]
@[reducible] def zA3x21 : Array Bool := #[true, true, true, false, false, false, false, false]
@[reducible] def zA4x21 : Array Bool := #[true, true, true, false, true, false, false, false]
@[reducible] def zA5x21 : Array Bool := #[true, true, true, true, true, false, false, false]
@[reducible] def zA6x21 : Array Bool := #[true, true, true, true, true, true, false, false]
@[reducible] def zA7x21 : Array Bool := #[true, true, true, true, true, true, true, false]
@[reducible] def zA8x21 : Array Bool := #[true, true, true, true, true, true, true, true]
@[reducible] def zA9x21 : Array Bool := #[false, false, false, false, false, false, false, false, false, false, false, false]
@[reducible] def zA10x21 : Array Bool := #[true, false, false, false, false, false, false, false, false, false, false, false]
@[reducible] def zA11x21 : Array Bool := #[true, false, true, false, false, false, false, false, false, false, false, false]
@[reducible] def zA12x21 : Array Bool := #[true, false, true, false, true, false, false, false, false, false, false, false]
@[reducible] def zA13x21 : Array Bool := #[true, true, true, false, true, false, false, false, false, false, false, false]
@[reducible] def zA14x21 : Array Bool := #[true, true, true, false, true, false, true, false, false, false, false, false]
@[reducible] def zA15x21 : Array Bool := #[true, true, true, true, true, false, true, false, false, false, false, false]
@[reducible] def zA16x21 : Array Bool := #[true, true, true, true, true, true, true, false, false, false, false, false]
@[reducible] def zA17x21 : Array Bool := #[true, true, true, true, true, true, true, true, false, false, false, false]
@[reducible] def zA18x21 : Array Bool := #[true, true, true, true, true, true, true, true, true, false, false, false]
@[reducible] def zA19x21 : Array Bool := #[true, true, true, true, true, true, true, true, true, true, false, false]
@[reducible] def zA20x21 : Array Bool := #[true, true, true, true, true, true, true, true, true, true, true, false]
@[reducible] def zA21x21 : Array Bool := #[true, true, true, true, true, true, true, true, true, true, true, true]
/-! ### impl_usesOnly: function 48 -/
def impl_usesOnly.j0 : Nat → Int → Bool → Int → Int → Int → Int → Int → Int → Int → Int → Int → Int → Int → Int → Option (Bool)
 | 0, _, _, _, _, _, _, _, _, _, _, _, _, _, _ => none
 | k + 1, x4, x13, x696000, x696001, x696002, x696003, x696004, x696005, x697000, x697001, x697002, x697003, x697004, x697005 => if x13 = true then (some (x696000 == x697000 && (x696001 == x697001 && (x696003 == x697003 && (x696004 == x697004 && (x696005 == x697005)))))) else (if x696000 = 17 then (some (x696000 == x697000 && (x696001 == x697001 && (x696004 == x697004 && (x696005 == x697005))))) else ((impl_isQuant.f x696000 x696001 x696002 x696003 x696004 x696005).bind fun t700 => (if t700 = true then (some (x696000 == x697000 && (x696001 == x697001 && (x696005 == x697005)))) else (if x4 > 0 then (if x4 > 1 then (if x4 > 2 then (some (x696000 == x697000 && (x696001 == x697001 && (x696002 == x697002)))) else (some (x696000 == x697000 && (x696001 == x697001 && (x696002 == x697002 && (x696005 == x697005)))))) else (if x4 > 2 then (some (x696000 == x697000 && (x696001 == x697001 && (x696002 == x697002 && (x696004 == x697004))))) else (some (x696000 == x697000 && (x696001 == x697001 && (x696002 == x697002 && (x696004 == x697004 && (x696005 == x697005)))))))) else (some (x696000 == x697000 && (x696001 == x697001 && (x696002 == x697002 && (x696003 == x697003 && (x696004 == x697004 && (x696005 == x697005)))))))))))
def impl_usesOnly.f (k : Nat) (a0_0 : Int) (a0_1 : Int) (a0_2 : Int) (a0_3 : Int) (a0_4 : Int) (a0_5 : Int) : Option (Bool) := (impl_Parts.f k a0_0 a0_1 a0_2 a0_3 a0_4 a0_5).bind fun t697 => (if a0_0 = 0 then (impl_usesOnly.j0 k (t697.length : Int) true a0_0 a0_1 a0_2 a0_3 a0_4 a0_5 a0_0 a0_1 0 0 0 0) else (impl_usesOnly.j0 k (t697.length : Int) (a0_0 == 1) a0_0 a0_1 a0_2 a0_3 a0_4 a0_5 a0_0 a0_1 0 0 0 0))
def impl_usesOnly.T6 : Bool × List (List Nat × List Nat) := (true, [([], []), ([0], [0]), ([], []), ([2], [2]), ([0, 1], []), ([4, 1, 0, 1], [1, 4]), ([0, 1, 2, 3, 4, 5], []), ([6, 3, 5, 0, 1, 2, 3, 4, 5], [3, 6])])
def impl_usesOnly.B6 : List Nat := [0, 1, 0, 4, 3, 19, 63, 127]
theorem impl_usesOnly.tab6 : rtab .any (opsOf Try.f48 6) = impl_usesOnly.T6 := by kernel_rfl
theorem impl_usesOnly.bits6 : waitsOk impl_usesOnly.T6.2 impl_usesOnly.B6 = true := by kernel_rfl
def impl_usesOnly.T8 : Bool × List (List Nat × List Nat) := (true, [([], []), ([0], [0]), ([], []), ([2], [2]), ([], []), ([4], [4]), ([0, 1], []), ([6, 1, 0, 1], [1, 6]), ([0, 1, 2, 3, 6, 7], []), ([8, 3, 7, 0, 1, 2, 3, 6, 7], [3, 8]), ([0, 1, 2, 3, 4, 5, 6, 7, 8, 9], []), ([10, 5, 9, 0, 1, 2, 3, 4, 5, 6, 7, 8, 9], [5, 10])])
def impl_usesOnly.B8 : List Nat := [0, 1, 0, 4, 0, 16, 3, 67, 207, 463, 1023, 2047]
theorem impl_usesOnly.tab8 : rtab .any (opsOf Try.f48 8) = impl_usesOnly.T8 := by kernel_rfl
theorem impl_usesOnly.bits8 : waitsOk impl_usesOnly.T8.2 impl_usesOnly.B8 = true := by kernel_rfl
set_option maxHeartbeats 8000000 in
set_option maxRecDepth 100000 in
theorem impl_usesOnly.calls (k : Nat) (a0_0 : Int) (a0_1 : Int) (a0_2 : Int) (a0_3 : Int) (a0_4 : Int) (a0_5 : Int) (r : Bool) (w : World) (h : impl_usesOnly.f k a0_0 a0_1 a0_2 a0_3 a0_4 a0_5 = some r) :
  Calls Try.prog 48 #[.agg #[.int .i64 a0_0, .int .i64 a0_1, .int .i64 a0_2, .int .i64 a0_3, .int .i64 a0_4, .int .i64 a0_5]] w fun e w' => e = .returned (.bool r) ∧ Below w.heap.size w w' := by
 have hu39 := Try.underlying39
 have HB := am (Below.refl w.heap.size w)
 have H : ((impl_Parts.f k a0_0 a0_1 a0_2 a0_3 a0_4 a0_5).bind fun t697 => (if a0_0 = 0 then (impl_usesOnly.j0 k (t697.length : Int) true a0_0 a0_1 a0_2 a0_3 a0_4 a0_5 a0_0 a0_1 0 0 0 0) else (impl_usesOnly.j0 k (t697.length : Int) (a0_0 == 1) a0_0 a0_1 a0_2 a0_3 a0_4 a0_5 a0_0 a0_1 0 0 0 0))) = some r := h
 clear h
 replace H := oB H
 obtain ⟨t697, A20, H⟩ := H
 have A2 := am A20
 clear A20
 have HC3 := am H
 clear H
 go_enter Try.func48, Try.ntmps48
 go_upto_region 3 with (first | ((with_reducible refine gate_dst (N := 1) rfl ?_); refine box_event ?hg (N := 1) ?hd (cs := #[.int .i64 a0_0, .int .i64 a0_1, .int .i64 a0_2, .int .i64 a0_3, .int .i64 a0_4, .int .i64 a0_5]) (t := 39) ?hr ?_; (case hd => rfl); (case hg => rfl); (case hr => first | (go_simp; done) | (go_simp; rfl)); intro gb695 hg w4 hbox hb; have n0_ := am (below_step (by exact sW HB.out) hb); have n1_ := am (hbox); have n2_ := am ((by rw [hg]; exact (below_size (by exact sW HB.out)) : w.heap.size ≤ gb695)); have n3_ := am ((by rw [hg]; exact (below_size (by exact sW HB.out)) : w.heap.size ≤ gb695)); clear HB; have HB := n0_; have BK695 := n1_; have GW695 := n2_; have GE695 := n3_; clear n0_ n1_ n2_ n3_; clear hb hbox hg; obtain ⟨hcz5_0, hcz5_1, hcz5_2, hcz5_3, hcz5_4, hcz5_5⟩ := cz6 BK695.out; obtain ⟨hfz5_0, hfz5_1, hfz5_2, hfz5_3, hfz5_4, hfz5_5⟩ := fz6 BK695.out) | ((with_reducible refine gate_dst (N := 3) rfl ?_); refine box_event ?hg (N := 3) ?hd (cs := #[.int .i64 0, .int .i64 0, .int .i64 0, .int .i64 0, .int .i64 0, .int .i64 0]) (t := 39) ?hr ?_; (case hd => rfl); (case hg => rfl); (case hr => first | (go_simp; done) | (go_simp; rfl)); intro gb696 hg w6 hbox hb; have n0_ := am (blk_below (g := gb695) (o := .cells #[.int .i64 a0_0, .int .i64 a0_1, .int .i64 a0_2, .int .i64 a0_3, .int .i64 a0_4, .int .i64 a0_5] 39 (0, 0)) (by exact sB <| BK695.out) hb); have n1_ := am (below_step (by exact bW) hb); have n2_ := am (hbox); have n3_ := am ((by rw [hg]; exact (below_size (by exact bW)) : w.heap.size ≤ gb696)); have n4_ := am ((by rw [hg]; exact (below_size (by exact bW)) : w.heap.size ≤ gb696)); have n5_ := am ((by rw [hg]; exact Nat.ne_of_lt (blk_lt (g := gb695) (o := .cells #[.int .i64 a0_0, .int .i64 a0_1, .int .i64 a0_2, .int .i64 a0_3, .int .i64 a0_4, .int .i64 a0_5] 39 (0, 0)) (by exact sB <| BK695.out)) : gb695 ≠ gb696)); have n6_ := am ((by rw [hg]; exact Nat.ne_of_gt (blk_lt (g := gb695) (o := .cells #[.int .i64 a0_0, .int .i64 a0_1, .int .i64 a0_2, .int .i64 a0_3, .int .i64 a0_4, .int .i64 a0_5] 39 (0, 0)) (by exact sB <| BK695.out)) : gb696 ≠ gb695)); clear BK695; clear HB; have BK695 := n0_; have HB := n1_; have BK696 := n2_; have GW696 := n3_; have GE696 := n4_; have NB695_696 := n5_; have NB696_695 := n6_; clear n0_ n1_ n2_ n3_ n4_ n5_ n6_; clear hb hbox hg; have hnb7 := NB696_695.out; have hnc7 := NB695_696.out; obtain ⟨hcz8_0, hcz8_1, hcz8_2, hcz8_3, hcz8_4, hcz8_5⟩ := cz6 BK696.out; obtain ⟨hfz8_0, hfz8_1, hfz8_2, hfz8_3, hfz8_4, hfz8_5⟩ := fz6 BK696.out; obtain ⟨hcz9_0, hcz9_1, hcz9_2, hcz9_3, hcz9_4, hcz9_5⟩ := cz6 BK695.out; obtain ⟨hfz9_0, hfz9_1, hfz9_2, hfz9_3, hfz9_4, hfz9_5⟩ := fz6 BK695.out) | ((with_reducible refine gate_callee (f := 22) rfl ?_); refine goesL_ (some 11) rfl rfl Try.func22 (by kernel_rfl) rfl #[.agg #[.int .i64 a0_0, .int .i64 a0_1, .int .i64 a0_2, .int .i64 a0_3, .int .i64 a0_4, .int .i64 a0_5]] rfl tn ?_; (with_reducible refine (impl_Parts.calls k a0_0 a0_1 a0_2 a0_3 a0_4 a0_5 t697 _ A2.out).mono ?_); rintro e w10 ⟨v698, rfl, ho0, hb⟩; refine ⟨_, rfl, ?_⟩; have n0_ := am (Kd.R_lower ho0 (below_size (by exact bW))); have n1_ := am (blk_below (g := gb695) (o := .cells #[.int .i64 a0_0, .int .i64 a0_1, .int .i64 a0_2, .int .i64 a0_3, .int .i64 a0_4, .int .i64 a0_5] 39 (0, 0)) (by (with_reducible repeat (first | refine blk_drewN ?_ _ | refine blk_drew ?_ | refine blk_alloc ?_ _)); refine blk_far ?_ NB695_696.out _; (with_reducible repeat (first | refine blk_drewN ?_ _ | refine blk_drew ?_ | refine blk_alloc ?_ _)); refine blk_far ?_ NB695_696.out _; (with_reducible repeat (first | refine blk_drewN ?_ _ | refine blk_drew ?_ | refine blk_alloc ?_ _)); refine blk_far ?_ NB695_696.out _; (with_reducible repeat (first | refine blk_drewN ?_ _ | refine blk_drew ?_ | refine blk_alloc ?_ _)); refine blk_far ?_ NB695_696.out _; (with_reducible repeat (first | refine blk_drewN ?_ _ | refine blk_drew ?_ | refine blk_alloc ?_ _)); refine blk_far ?_ NB695_696.out _; (with_reducible repeat (first | refine blk_drewN ?_ _ | refine blk_drew ?_ | refine blk_alloc ?_ _)); refine blk_far ?_ NB695_696.out _; exact sB <| BK695.out) hb); have n2_ := am (blk_below (g := gb696) (o := .cells #[.int .i64 a0_0, .int .i64 a0_1, .int .i64 0, .int .i64 0, .int .i64 0, .int .i64 0] 39 (0, 0)) (by (with_reducible repeat (first | refine blk_drewN ?_ _ | refine blk_drew ?_ | refine blk_alloc ?_ _)); refine blk_put (cs := #[.int .i64 a0_0, .int .i64 a0_1, .int .i64 0, .int .i64 0, .int .i64 0, .int .i64 0]) ?_ 5 _ rfl; (with_reducible repeat (first | refine blk_drewN ?_ _ | refine blk_drew ?_ | refine blk_alloc ?_ _)); refine blk_put (cs := #[.int .i64 a0_0, .int .i64 a0_1, .int .i64 0, .int .i64 0, .int .i64 0, .int .i64 0]) ?_ 4 _ rfl; (with_reducible repeat (first | refine blk_drewN ?_ _ | refine blk_drew ?_ | refine blk_alloc ?_ _)); refine blk_put (cs := #[.int .i64 a0_0, .int .i64 a0_1, .int .i64 0, .int .i64 0, .int .i64 0, .int .i64 0]) ?_ 3 _ rfl; (with_reducible repeat (first | refine blk_drewN ?_ _ | refine blk_drew ?_ | refine blk_alloc ?_ _)); refine blk_put (cs := #[.int .i64 a0_0, .int .i64 a0_1, .int .i64 0, .int .i64 0, .int .i64 0, .int .i64 0]) ?_ 2 _ rfl; (with_reducible repeat (first | refine blk_drewN ?_ _ | refine blk_drew ?_ | refine blk_alloc ?_ _)); refine blk_put (cs := #[.int .i64 a0_0, .int .i64 0, .int .i64 0, .int .i64 0, .int .i64 0, .int .i64 0]) ?_ 1 _ rfl; (with_reducible repeat (first | refine blk_drewN ?_ _ | refine blk_drew ?_ | refine blk_alloc ?_ _)); refine blk_put (cs := #[.int .i64 0, .int .i64 0, .int .i64 0, .int .i64 0, .int .i64 0, .int .i64 0]) ?_ 0 _ rfl; exact sB <| BK696.out) hb); have n3_ := am (below_step (by exact bW) hb); clear BK695; clear BK696; clear HB; have HO699 := n0_; have BK695 := n1_; have BK696 := n2_; have HB := n3_; clear n0_ n1_ n2_ n3_; obtain ⟨Ao11, co11, eo11⟩ := Kd.R_slice HO699.out; subst eo11)); clear hb ho0
 (try simp only [Act.put, List.setIfInBounds_toArray, List.set_cons_zero, List.set_cons_succ])
 go_cut [13] (fun v13 wc => ∃ (kq : Nat) (x13_2 : Bool), v13 = .bool x13_2 ∧ Aside0 (impl_usesOnly.j0 kq (t697.length : Int) x13_2 a0_0 a0_1 a0_2 a0_3 a0_4 a0_5 a0_0 a0_1 0 0 0 0 = some r) ∧ Aside0 (kq ≤ k) ∧ Aside0 (wc.heap[gb695]? = some (.cells #[.int .i64 a0_0, .int .i64 a0_1, .int .i64 a0_2, .int .i64 a0_3, .int .i64 a0_4, .int .i64 a0_5] 39 (0, 0))) ∧ Aside0 (wc.heap[gb696]? = some (.cells #[.int .i64 a0_0, .int .i64 a0_1, .int .i64 0, .int .i64 0, .int .i64 0, .int .i64 0] 39 (0, 0))) ∧ Aside0 (Below w.heap.size w wc))
 case first =>
  have H := HC3.out
  clear HC3
  by_cases c12 : a0_0 = 0
  ·rw [if_pos c12] at H
   have c12b0 : (a0_0 == 0) = true := beq_iff_eq.mpr c12
   have c12b1 : (a0_0 != 0) = false := bne_eq_false_iff_eq.mpr c12
   clear c12
   (skip)
   have H' := am H
   clear H
   have hnb13 := NB695_696.out
   have hnc13 := NB696_695.out
   obtain ⟨hcz14_0, hcz14_1, hcz14_2, hcz14_3, hcz14_4, hcz14_5⟩ := cz6 BK695.out
   obtain ⟨hfz14_0, hfz14_1, hfz14_2, hfz14_3, hfz14_4, hfz14_5⟩ := fz6 BK695.out
   go_wp2
   go_meet
   case rel => exact ⟨_, (true), (by rfl), H', ⟨by omega⟩, ⟨by exact sB <| BK695.out⟩, ⟨by exact sB <| BK696.out⟩, ⟨by exact bW⟩⟩
  ·rw [if_neg c12] at H
   have c12b0 : (a0_0 == 0) = false := beq_eq_false_iff_ne.mpr c12
   have c12b1 : (a0_0 != 0) = true := bne_iff_ne.mpr c12
   (skip)
   have H' := am H
   clear H
   have hnb15 := NB695_696.out
   have hnc15 := NB696_695.out
   obtain ⟨hcz16_0, hcz16_1, hcz16_2, hcz16_3, hcz16_4, hcz16_5⟩ := cz6 BK695.out
   obtain ⟨hfz16_0, hfz16_1, hfz16_2, hfz16_3, hfz16_4, hfz16_5⟩ := fz6 BK695.out
   go_wp2
   go_meet
   case rel => exact ⟨_, ((a0_0 == 1)), (by rfl), H', ⟨by omega⟩, ⟨by exact sB <| BK695.out⟩, ⟨by exact sB <| BK696.out⟩, ⟨by exact bW⟩⟩
 case rest =>
  clear HC3
  clear hcz5_0 hcz5_1 hcz5_2 hcz5_3 hcz5_4 hcz5_5 hcz8_0 hcz8_1 hcz8_2 hcz8_3 hcz8_4 hcz8_5 hcz9_0 hcz9_1 hcz9_2 hcz9_3 hcz9_4 hcz9_5 hfz5_0 hfz5_1 hfz5_2 hfz5_3 hfz5_4 hfz5_5 hfz8_0 hfz8_1 hfz8_2 hfz8_3 hfz8_4 hfz8_5 hfz9_0 hfz9_1 hfz9_2 hfz9_3 hfz9_4 hfz9_5
  obtain ⟨kq, x13_2, rfl, HA, HJ2, BK695, BK696, HB⟩ := hcut
  cases kq with
  | zero => exact absurd HA.out (by simp [impl_usesOnly.j0])
  | succ kj2 =>
   have H := HA.out
   clear HA
   simp only [impl_usesOnly.j0] at H
   by_cases c17 : x13_2 = true
   ·subst c17
    rw [if_pos rfl] at H
    obtain rfl := oI H
    have hnb18 := NB695_696.out
    have hnc18 := NB696_695.out
    obtain ⟨hcz19_0, hcz19_1, hcz19_2, hcz19_3, hcz19_4, hcz19_5⟩ := cz6 BK695.out
    obtain ⟨hfz19_0, hfz19_1, hfz19_2, hfz19_3, hfz19_4, hfz19_5⟩ := fz6 BK695.out
    obtain ⟨hcz20_0, hcz20_1, hcz20_2, hcz20_3, hcz20_4, hcz20_5⟩ := cz6 BK696.out
    obtain ⟨hfz20_0, hfz20_1, hfz20_2, hfz20_3, hfz20_4, hfz20_5⟩ := fz6 BK696.out
    go_wp2
    go_ret
    exact ⟨by rfl, by exact bW⟩
   ·replace c17 := Bool.eq_false_iff.mpr c17
    subst c17
    rw [if_neg (show ¬ (false = true) by decide)] at H
    by_cases c21 : a0_0 = 17
    ·rw [if_pos c21] at H
     have c21b0 : (a0_0 == 17) = true := beq_iff_eq.mpr c21
     have c21b1 : (a0_0 != 17) = false := bne_eq_false_iff_eq.mpr c21
     clear c21
     obtain rfl := oI H
     have hnb22 := NB695_696.out
     have hnc22 := NB696_695.out
     obtain ⟨hcz23_0, hcz23_1, hcz23_2, hcz23_3, hcz23_4, hcz23_5⟩ := cz6 BK695.out
     obtain ⟨hfz23_0, hfz23_1, hfz23_2, hfz23_3, hfz23_4, hfz23_5⟩ := fz6 BK695.out
     try go_wp2
     have n0_ := am (blk_drew BK695.out)
     have n1_ := am (blk_drew BK696.out)
     have n2_ := am (below_drew1 HB.out)
     clear BK695
     clear BK696
     clear HB
     have BK695 := n0_
     have BK696 := n1_
     have HB := n2_
     clear n0_ n1_ n2_
     refine start_ (n := 8) (S := fun w' => w'.cell? ⟨gb695, 0, none⟩ = some (.int .i64 a0_0) ∧ w'.cell? ⟨gb695, 1, none⟩ = some (.int .i64 a0_1) ∧ w'.cell? ⟨gb695, 2, none⟩ = some (.int .i64 a0_2) ∧ w'.cell? ⟨gb695, 3, none⟩ = some (.int .i64 a0_3) ∧ w'.cell? ⟨gb695, 4, none⟩ = some (.int .i64 a0_4) ∧ w'.cell? ⟨gb695, 5, none⟩ = some (.int .i64 a0_5)) (ds := []) zA0x21 (by kernel_rfl) rfl rfl ⟨(blk_cell BK695.out 0).trans rfl, (blk_cell BK695.out 1).trans rfl, (blk_cell BK695.out 2).trans rfl, (blk_cell BK695.out 3).trans rfl, (blk_cell BK695.out 4).trans rfl, (blk_cell BK695.out 5).trans rfl⟩ (fun hHeld => ?_); refine with_tabW impl_usesOnly.tab6 impl_usesOnly.bits6 (fun HT_ HW_ => ?_)
     generalize wc.drew = w24 at BK695 BK696 HB hHeld ⊢
     refine pT (i := 0) (N := some 29) zA1x21 ?_
     refine pT (i := 2) (N := some 31) zA2x21 ?_
     refine take_ (i := 1) (N := some 30) (v := ?_) (a' := ?_) zA3x21 rfl rfl (take_ofW HT_.out HW_.out (by kernel_rfl)) (fun _ _ _ h => h) (Or.inl ⟨by rfl, ?_⟩) hHeld ?_ ?_
     rotate_left
     ·rintro w' ⟨s0, s1, s2, s3, s4, s5⟩
      go_simp
      with_reducible rfl
     rotate_left
     ·simp only [Act.put, List.setIfInBounds_toArray, List.set_cons_zero, List.set_cons_succ, i64_w, i32_w]
      rfl
     refine pT (i := 4) (N := some 33) zA4x21 ?_
     refine take_ (i := 3) (N := some 32) (v := ?_) (a' := ?_) zA5x21 rfl rfl (take_ofW HT_.out HW_.out (by kernel_rfl)) (fun _ _ _ h => h) (Or.inl ⟨by rfl, ?_⟩) hHeld ?_ ?_
     rotate_left
     ·rintro w' ⟨s0, s1, s2, s3, s4, s5⟩
      go_simp
      with_reducible rfl
     rotate_left
     ·simp only [Act.put, List.setIfInBounds_toArray, List.set_cons_zero, List.set_cons_succ, i64_w, i32_w]
      rfl
     refine one_ (i := 5) (N := none) zA6x21 rfl rfl (one_of HT_.out (by kernel_rfl)) (by decide) (fun K hK => ?_)
     have hs25 : w24.cell? ⟨gb696, 2, none⟩ = some (.int .i64 0) := (blk_cell BK696.out 2).trans rfl
     have hfs25 := blk_frozen BK696.out 2
     have hns25_0 := NB695_696.out
     have hms25_0 := NB696_695.out
     refine skip_ (w1 := ?_) (by rfl) rfl ?_ ?_
     rotate_left
     ·go_simp
      rfl
     refine hK.out _ _ ⟨((cell_far (p := ⟨gb696, _, none⟩) NB695_696.out _).trans (hHeld.1)), ((cell_far (p := ⟨gb696, _, none⟩) NB695_696.out _).trans (hHeld.2.1)), ((cell_far (p := ⟨gb696, _, none⟩) NB695_696.out _).trans (hHeld.2.2.1)), ((cell_far (p := ⟨gb696, _, none⟩) NB695_696.out _).trans (hHeld.2.2.2.1)), ((cell_far (p := ⟨gb696, _, none⟩) NB695_696.out _).trans (hHeld.2.2.2.2.1)), ((cell_far (p := ⟨gb696, _, none⟩) NB695_696.out _).trans (hHeld.2.2.2.2.2))⟩ (fun hHeld => ?_)
     clear hK K
     refine pT (i := 6) (N := some 34) zA7x21 ?_
     refine one_ (i := 7) (N := none) zA8x21 rfl rfl (one_of HT_.out (by kernel_rfl)) (by decide) (fun K hK => ?_)
     have hs26 : w24.cell? ⟨gb696, 3, none⟩ = some (.int .i64 0) := (blk_cell BK696.out 3).trans rfl
     have hfs26 := blk_frozen BK696.out 3
     have hns26_0 := NB695_696.out
     have hms26_0 := NB696_695.out
     refine skip_ (w1 := ?_) (by rfl) rfl ?_ ?_
     rotate_left
     ·go_simp
      rfl
     refine hK.out _ _ ⟨((cell_far (p := ⟨gb696, _, none⟩) NB695_696.out _).trans (hHeld.1)), ((cell_far (p := ⟨gb696, _, none⟩) NB695_696.out _).trans (hHeld.2.1)), ((cell_far (p := ⟨gb696, _, none⟩) NB695_696.out _).trans (hHeld.2.2.1)), ((cell_far (p := ⟨gb696, _, none⟩) NB695_696.out _).trans (hHeld.2.2.2.1)), ((cell_far (p := ⟨gb696, _, none⟩) NB695_696.out _).trans (hHeld.2.2.2.2.1)), ((cell_far (p := ⟨gb696, _, none⟩) NB695_696.out _).trans (hHeld.2.2.2.2.2))⟩ (fun hHeld => ?_)
     clear hK K
     refine done_ (done_of HT_.out (by kernel_rfl)) ?_
     obtain ⟨hcz27_0, hcz27_1, hcz27_2, hcz27_3, hcz27_4, hcz27_5⟩ := cz6 BK695.out
     obtain ⟨hfz27_0, hfz27_1, hfz27_2, hfz27_3, hfz27_4, hfz27_5⟩ := fz6 BK695.out
     obtain ⟨hcz28_0, hcz28_1, hcz28_2, hcz28_3, hcz28_4, hcz28_5⟩ := cz6 BK696.out
     obtain ⟨hfz28_0, hfz28_1, hfz28_2, hfz28_3, hfz28_4, hfz28_5⟩ := fz6 BK696.out
     try go_wp2
     go_ret
     exact ⟨by (simp [errW_none, errW_some] <;> rfl), by exact bW⟩
    ·rw [if_neg c21] at H
     have c21b0 : (a0_0 == 17) = false := beq_eq_false_iff_ne.mpr c21
     have c21b1 : (a0_0 != 17) = true := bne_iff_ne.mpr c21
     replace H := oB H
     obtain ⟨t700, A290, H⟩ := H
     have A29 := am A290
     clear A290
     by_cases c30 : t700 = true
     ·subst c30
      rw [if_pos rfl] at H
      obtain rfl := oI H
      have hnb31 := NB695_696.out
      have hnc31 := NB696_695.out
      obtain ⟨hcz32_0, hcz32_1, hcz32_2, hcz32_3, hcz32_4, hcz32_5⟩ := cz6 BK695.out
      obtain ⟨hfz32_0, hfz32_1, hfz32_2, hfz32_3, hfz32_4, hfz32_5⟩ := fz6 BK695.out
      try go_wp2_with (first | ((with_reducible refine gate_callee (f := 36) rfl ?_); refine goesL_ (some 37) rfl rfl Try.func36 (by kernel_rfl) rfl #[.agg #[.int .i64 a0_0, .int .i64 a0_1, .int .i64 a0_2, .int .i64 a0_3, .int .i64 a0_4, .int .i64 a0_5]] rfl tm ?_; (with_reducible refine (impl_isQuant.calls a0_0 a0_1 a0_2 a0_3 a0_4 a0_5 true _ A29.out).mono ?_); rintro e w33 ⟨rfl, hb⟩; refine ⟨_, rfl, ?_⟩; have n0_ := am (blk_below (g := gb695) (o := .cells #[.int .i64 a0_0, .int .i64 a0_1, .int .i64 a0_2, .int .i64 a0_3, .int .i64 a0_4, .int .i64 a0_5] 39 (0, 0)) (by exact sB <| BK695.out) hb); have n1_ := am (blk_below (g := gb696) (o := .cells #[.int .i64 a0_0, .int .i64 a0_1, .int .i64 0, .int .i64 0, .int .i64 0, .int .i64 0] 39 (0, 0)) (by exact sB <| BK696.out) hb); have n2_ := am (below_step (by exact bW) hb); clear BK695; clear BK696; clear HB; have BK695 := n0_; have BK696 := n1_; have HB := n2_; clear n0_ n1_ n2_; (try clear hb); (try clear hb2); (try clear hk); (try clear hi)))
      have n0_ := am (blk_drew BK695.out)
      have n1_ := am (blk_drew BK696.out)
      have n2_ := am (below_drew1 HB.out)
      clear BK695
      clear BK696
      clear HB
      have BK695 := n0_
      have BK696 := n1_
      have HB := n2_
      clear n0_ n1_ n2_
      refine start_ (n := 12) (S := fun w' => w'.cell? ⟨gb695, 0, none⟩ = some (.int .i64 a0_0) ∧ w'.cell? ⟨gb695, 1, none⟩ = some (.int .i64 a0_1) ∧ w'.cell? ⟨gb695, 2, none⟩ = some (.int .i64 a0_2) ∧ w'.cell? ⟨gb695, 3, none⟩ = some (.int .i64 a0_3) ∧ w'.cell? ⟨gb695, 4, none⟩ = some (.int .i64 a0_4) ∧ w'.cell? ⟨gb695, 5, none⟩ = some (.int .i64 a0_5)) (ds := []) zA9x21 (by kernel_rfl) rfl rfl ⟨(blk_cell BK695.out 0).trans rfl, (blk_cell BK695.out 1).trans rfl, (blk_cell BK695.out 2).trans rfl, (blk_cell BK695.out 3).trans rfl, (blk_cell BK695.out 4).trans rfl, (blk_cell BK695.out 5).trans rfl⟩ (fun hHeld => ?_); refine with_tabW impl_usesOnly.tab8 impl_usesOnly.bits8 (fun HT_ HW_ => ?_)
      generalize w33.drew = w34 at BK695 BK696 HB hHeld ⊢
      refine pT (i := 0) (N := some 38) zA10x21 ?_
      refine pT (i := 2) (N := some 40) zA11x21 ?_
      refine pT (i := 4) (N := some 42) zA12x21 ?_
      refine take_ (i := 1) (N := some 39) (v := ?_) (a' := ?_) zA13x21 rfl rfl (take_ofW HT_.out HW_.out (by kernel_rfl)) (fun _ _ _ h => h) (Or.inl ⟨by rfl, ?_⟩) hHeld ?_ ?_
      rotate_left
      ·rintro w' ⟨s0, s1, s2, s3, s4, s5⟩
       go_simp
       with_reducible rfl
      rotate_left
      ·simp only [Act.put, List.setIfInBounds_toArray, List.set_cons_zero, List.set_cons_succ, i64_w, i32_w]
       rfl
      refine pT (i := 6) (N := some 44) zA14x21 ?_
      refine take_ (i := 3) (N := some 41) (v := ?_) (a' := ?_) zA15x21 rfl rfl (take_ofW HT_.out HW_.out (by kernel_rfl)) (fun _ _ _ h => h) (Or.inl ⟨by rfl, ?_⟩) hHeld ?_ ?_
      rotate_left
      ·rintro w' ⟨s0, s1, s2, s3, s4, s5⟩
       go_simp
       with_reducible rfl
      rotate_left
      ·simp only [Act.put, List.setIfInBounds_toArray, List.set_cons_zero, List.set_cons_succ, i64_w, i32_w]
       rfl
      refine take_ (i := 5) (N := some 43) (v := ?_) (a' := ?_) zA16x21 rfl rfl (take_ofW HT_.out HW_.out (by kernel_rfl)) (fun _ _ _ h => h) (Or.inl ⟨by rfl, ?_⟩) hHeld ?_ ?_
      rotate_left
      ·rintro w' ⟨s0, s1, s2, s3, s4, s5⟩
       go_simp
       with_reducible rfl
      rotate_left
      ·simp only [Act.put, List.setIfInBounds_toArray, List.set_cons_zero, List.set_cons_succ, i64_w, i32_w]
       rfl
      refine one_ (i := 7) (N := none) zA17x21 rfl rfl (one_of HT_.out (by kernel_rfl)) (by decide) (fun K hK => ?_)
      have hs35 : w34.cell? ⟨gb696, 2, none⟩ = some (.int .i64 0) := (blk_cell BK696.out 2).trans rfl
      have hfs35 := blk_frozen BK696.out 2
      have hns35_0 := NB695_696.out
      have hms35_0 := NB696_695.out
      refine skip_ (w1 := ?_) (by rfl) rfl ?_ ?_
      rotate_left
      ·go_simp
       rfl
      refine hK.out _ _ ⟨((cell_far (p := ⟨gb696, _, none⟩) NB695_696.out _).trans (hHeld.1)), ((cell_far (p := ⟨gb696, _, none⟩) NB695_696.out _).trans (hHeld.2.1)), ((cell_far (p := ⟨gb696, _, none⟩) NB695_696.out _).trans (hHeld.2.2.1)), ((cell_far (p := ⟨gb696, _, none⟩) NB695_696.out _).trans (hHeld.2.2.2.1)), ((cell_far (p := ⟨gb696, _, none⟩) NB695_696.out _).trans (hHeld.2.2.2.2.1)), ((cell_far (p := ⟨gb696, _, none⟩) NB695_696.out _).trans (hHeld.2.2.2.2.2))⟩ (fun hHeld => ?_)
      clear hK K
      refine pT (i := 8) (N := some 45) zA18x21 ?_
      refine one_ (i := 9) (N := none) zA19x21 rfl rfl (one_of HT_.out (by kernel_rfl)) (by decide) (fun K hK => ?_)
      have hs36 : w34.cell? ⟨gb696, 3, none⟩ = some (.int .i64 0) := (blk_cell BK696.out 3).trans rfl
      have hfs36 := blk_frozen BK696.out 3
      have hns36_0 := NB695_696.out
      have hms36_0 := NB696_695.out
      refine skip_ (w1 := ?_) (by rfl) rfl ?_ ?_
      rotate_left
      ·go_simp
       rfl
      refine hK.out _ _ ⟨((cell_far (p := ⟨gb696, _, none⟩) NB695_696.out _).trans (hHeld.1)), ((cell_far (p := ⟨gb696, _, none⟩) NB695_696.out _).trans (hHeld.2.1)), ((cell_far (p := ⟨gb696, _, none⟩) NB695_696.out _).trans (hHeld.2.2.1)), ((cell_far (p := ⟨gb696, _, none⟩) NB695_696.out _).trans (hHeld.2.2.2.1)), ((cell_far (p := ⟨gb696, _, none⟩) NB695_696.out _).trans (hHeld.2.2.2.2.1)), ((cell_far (p := ⟨gb696, _, none⟩) NB695_696.out _).trans (hHeld.2.2.2.2.2))⟩ (fun hHeld => ?_)
      clear hK K
      refine pT (i := 10) (N := some 46) zA20x21 ?_
      refine one_ (i := 11) (N := none) zA21x21 rfl rfl (one_of HT_.out (by kernel_rfl)) (by decide) (fun K hK => ?_)
      have hs37 : w34.cell? ⟨gb696, 4, none⟩ = some (.int .i64 0) := (blk_cell BK696.out 4).trans rfl
      have hfs37 := blk_frozen BK696.out 4
      have hns37_0 := NB695_696.out
      have hms37_0 := NB696_695.out
      refine skip_ (w1 := ?_) (by rfl) rfl ?_ ?_
      rotate_left
      ·go_simp
       rfl
      refine hK.out _ _ ⟨((cell_far (p := ⟨gb696, _, none⟩) NB695_696.out _).trans (hHeld.1)), ((cell_far (p := ⟨gb696, _, none⟩) NB695_696.out _).trans (hHeld.2.1)), ((cell_far (p := ⟨gb696, _, none⟩) NB695_696.out _).trans (hHeld.2.2.1)), ((cell_far (p := ⟨gb696, _, none⟩) NB695_696.out _).trans (hHeld.2.2.2.1)), ((cell_far (p := ⟨gb696, _, none⟩) NB695_696.out _).trans (hHeld.2.2.2.2.1)), ((cell_far (p := ⟨gb696, _, none⟩) NB695_696.out _).trans (hHeld.2.2.2.2.2))⟩ (fun hHeld => ?_)
      clear hK K
      refine done_ (done_of HT_.out (by kernel_rfl)) ?_
      obtain ⟨hcz38_0, hcz38_1, hcz38_2, hcz38_3, hcz38_4, hcz38_5⟩ := cz6 BK695.out
      obtain ⟨hfz38_0, hfz38_1, hfz38_2, hfz38_3, hfz38_4, hfz38_5⟩ := fz6 BK695.out
      obtain ⟨hcz39_0, hcz39_1, hcz39_2, hcz39_3, hcz39_4, hcz39_5⟩ := cz6 BK696.out
      obtain ⟨hfz39_0, hfz39_1, hfz39_2, hfz39_3, hfz39_4, hfz39_5⟩ := fz6 BK696.out
      try go_wp2
      go_ret
      exact ⟨by (simp [errW_none, errW_some] <;> rfl), by exact bW⟩
     ·replace c30 := Bool.eq_false_iff.mpr c30
      subst c30
      rw [if_neg (show ¬ (false = true) by decide)] at H
      by_cases c40 : (t697.length : Int) > 0
      ·rw [if_pos c40] at H
       have c40b0 : decide (0 < (t697.length : Int)) = true := decide_eq_true c40
       have c40b1 : decide (0 < t697.length) = true := decide_eq_true (by omega)
       have c40p : 0 < t697.length := by omega
       clear c40
       by_cases c41 : (t697.length : Int) > 1
       ·rw [if_pos c41] at H
        have c41b0 : decide (1 < (t697.length : Int)) = true := decide_eq_true c41
        have c41b1 : decide (1 < t697.length) = true := decide_eq_true (by omega)
        clear c41
        by_cases c42 : (t697.length : Int) > 2
        ·rw [if_pos c42] at H
         have c42b0 : decide (2 < (t697.length : Int)) = true := decide_eq_true c42
         have c42b1 : decide (2 < t697.length) = true := decide_eq_true (by omega)
         clear c42
         obtain rfl := oI H
         have hnb43 := NB695_696.out
         have hnc43 := NB696_695.out
         obtain ⟨hcz44_0, hcz44_1, hcz44_2, hcz44_3, hcz44_4, hcz44_5⟩ := cz6 BK695.out
         obtain ⟨hfz44_0, hfz44_1, hfz44_2, hfz44_3, hfz44_4, hfz44_5⟩ := fz6 BK695.out
         go_wp2_with (first | ((with_reducible refine gate_callee (f := 36) rfl ?_); refine goesL_ (some 37) rfl rfl Try.func36 (by kernel_rfl) rfl #[.agg #[.int .i64 a0_0, .int .i64 a0_1, .int .i64 a0_2, .int .i64 a0_3, .int .i64 a0_4, .int .i64 a0_5]] rfl tm ?_; (with_reducible refine (impl_isQuant.calls a0_0 a0_1 a0_2 a0_3 a0_4 a0_5 false _ A29.out).mono ?_); rintro e w45 ⟨rfl, hb⟩; refine ⟨_, rfl, ?_⟩; have n0_ := am (blk_below (g := gb695) (o := .cells #[.int .i64 a0_0, .int .i64 a0_1, .int .i64 a0_2, .int .i64 a0_3, .int .i64 a0_4, .int .i64 a0_5] 39 (0, 0)) (by exact sB <| BK695.out) hb); have n1_ := am (blk_below (g := gb696) (o := .cells #[.int .i64 a0_0, .int .i64 a0_1, .int .i64 0, .int .i64 0, .int .i64 0, .int .i64 0] 39 (0, 0)) (by exact sB <| BK696.out) hb); have n2_ := am (below_step (by exact bW) hb); clear BK695; clear BK696; clear HB; have BK695 := n0_; have BK696 := n1_; have HB := n2_; clear n0_ n1_ n2_; (try clear hb); (try clear hb2); (try clear hk); (try clear hi); obtain ⟨hcz46_0, hcz46_1, hcz46_2, hcz46_3, hcz46_4, hcz46_5⟩ := cz6 BK695.out; obtain ⟨hfz46_0, hfz46_1, hfz46_2, hfz46_3, hfz46_4, hfz46_5⟩ := fz6 BK695.out; obtain ⟨hcz47_0, hcz47_1, hcz47_2, hcz47_3, hcz47_4, hcz47_5⟩ := cz6 BK696.out; obtain ⟨hfz47_0, hfz47_1, hfz47_2, hfz47_3, hfz47_4, hfz47_5⟩ := fz6 BK696.out))
         go_ret
         exact ⟨by rfl, by exact bW⟩
        ·rw [if_neg c42] at H
         have c42b0 : decide (2 < (t697.length : Int)) = false := decide_eq_false c42
         have c42b1 : decide (2 < t697.length) = false := decide_eq_false (by omega)
         clear c42
         obtain rfl := oI H
         have hnb48 := NB695_696.out
         have hnc48 := NB696_695.out
         obtain ⟨hcz49_0, hcz49_1, hcz49_2, hcz49_3, hcz49_4, hcz49_5⟩ := cz6 BK695.out
         obtain ⟨hfz49_0, hfz49_1, hfz49_2, hfz49_3, hfz49_4, hfz49_5⟩ := fz6 BK695.out
         go_wp2_with (first | ((with_reducible refine gate_callee (f := 36) rfl ?_); refine goesL_ (some 37) rfl rfl Try.func36 (by kernel_rfl) rfl #[.agg #[.int .i64 a0_0, .int .i64 a0_1, .int .i64 a0_2, .int .i64 a0_3, .int .i64 a0_4, .int .i64 a0_5]] rfl tm ?_; (with_reducible refine (impl_isQuant.calls a0_0 a0_1 a0_2 a0_3 a0_4 a0_5 false _ A29.out).mono ?_); rintro e w50 ⟨rfl, hb⟩; refine ⟨_, rfl, ?_⟩; have n0_ := am (blk_below (g := gb695) (o := .cells #[.int .i64 a0_0, .int .i64 a0_1, .int .i64 a0_2, .int .i64 a0_3, .int .i64 a0_4, .int .i64 a0_5] 39 (0, 0)) (by exact sB <| BK695.out) hb); have n1_ := am (blk_below (g := gb696) (o := .cells #[.int .i64 a0_0, .int .i64 a0_1, .int .i64 0, .int .i64 0, .int .i64 0, .int .i64 0] 39 (0, 0)) (by exact sB <| BK696.out) hb); have n2_ := am (below_step (by exact bW) hb); clear BK695; clear BK696; clear HB; have BK695 := n0_; have BK696 := n1_; have HB := n2_; clear n0_ n1_ n2_; (try clear hb); (try clear hb2); (try clear hk); (try clear hi); obtain ⟨hcz51_0, hcz51_1, hcz51_2, hcz51_3, hcz51_4, hcz51_5⟩ := cz6 BK695.out; obtain ⟨hfz51_0, hfz51_1, hfz51_2, hfz51_3, hfz51_4, hfz51_5⟩ := fz6 BK695.out; obtain ⟨hcz52_0, hcz52_1, hcz52_2, hcz52_3, hcz52_4, hcz52_5⟩ := cz6 BK696.out; obtain ⟨hfz52_0, hfz52_1, hfz52_2, hfz52_3, hfz52_4, hfz52_5⟩ := fz6 BK696.out))
         go_ret
         exact ⟨by rfl, by exact bW⟩
       ·rw [if_neg c41] at H
        have c41b0 : decide (1 < (t697.length : Int)) = false := decide_eq_false c41
        have c41b1 : decide (1 < t697.length) = false := decide_eq_false (by omega)
        clear c41
        by_cases c53 : (t697.length : Int) > 2
        ·rw [if_pos c53] at H
         have c53b0 : decide (2 < (t697.length : Int)) = true := decide_eq_true c53
         have c53b1 : decide (2 < t697.length) = true := decide_eq_true (by omega)
         clear c53
         obtain rfl := oI H
         have hnb54 := NB695_696.out
         have hnc54 := NB696_695.out
         obtain ⟨hcz55_0, hcz55_1, hcz55_2, hcz55_3, hcz55_4, hcz55_5⟩ := cz6 BK695.out
         obtain ⟨hfz55_0, hfz55_1, hfz55_2, hfz55_3, hfz55_4, hfz55_5⟩ := fz6 BK695.out
         go_wp2_with (first | ((with_reducible refine gate_callee (f := 36) rfl ?_); refine goesL_ (some 37) rfl rfl Try.func36 (by kernel_rfl) rfl #[.agg #[.int .i64 a0_0, .int .i64 a0_1, .int .i64 a0_2, .int .i64 a0_3, .int .i64 a0_4, .int .i64 a0_5]] rfl tm ?_; (with_reducible refine (impl_isQuant.calls a0_0 a0_1 a0_2 a0_3 a0_4 a0_5 false _ A29.out).mono ?_); rintro e w56 ⟨rfl, hb⟩; refine ⟨_, rfl, ?_⟩; have n0_ := am (blk_below (g := gb695) (o := .cells #[.int .i64 a0_0, .int .i64 a0_1, .int .i64 a0_2, .int .i64 a0_3, .int .i64 a0_4, .int .i64 a0_5] 39 (0, 0)) (by exact sB <| BK695.out) hb); have n1_ := am (blk_below (g := gb696) (o := .cells #[.int .i64 a0_0, .int .i64 a0_1, .int .i64 0, .int .i64 0, .int .i64 0, .int .i64 0] 39 (0, 0)) (by exact sB <| BK696.out) hb); have n2_ := am (below_step (by exact bW) hb); clear BK695; clear BK696; clear HB; have BK695 := n0_; have BK696 := n1_; have HB := n2_; clear n0_ n1_ n2_; (try clear hb); (try clear hb2); (try clear hk); (try clear hi); obtain ⟨hcz57_0, hcz57_1, hcz57_2, hcz57_3, hcz57_4, hcz57_5⟩ := cz6 BK695.out; obtain ⟨hfz57_0, hfz57_1, hfz57_2, hfz57_3, hfz57_4, hfz57_5⟩ := fz6 BK695.out; obtain ⟨hcz58_0, hcz58_1, hcz58_2, hcz58_3, hcz58_4, hcz58_5⟩ := cz6 BK696.out; obtain ⟨hfz58_0, hfz58_1, hfz58_2, hfz58_3, hfz58_4, hfz58_5⟩ := fz6 BK696.out))
         go_ret
         exact ⟨by rfl, by exact bW⟩
        ·rw [if_neg c53] at H
         have c53b0 : decide (2 < (t697.length : Int)) = false := decide_eq_false c53
         have c53b1 : decide (2 < t697.length) = false := decide_eq_false (by omega)
         clear c53
         obtain rfl := oI H
         have hnb59 := NB695_696.out
         have hnc59 := NB696_695.out
         obtain ⟨hcz60_0, hcz60_1, hcz60_2, hcz60_3, hcz60_4, hcz60_5⟩ := cz6 BK695.out
         obtain ⟨hfz60_0, hfz60_1, hfz60_2, hfz60_3, hfz60_4, hfz60_5⟩ := fz6 BK695.out
         go_wp2_with (first | ((with_reducible refine gate_callee (f := 36) rfl ?_); refine goesL_ (some 37) rfl rfl Try.func36 (by kernel_rfl) rfl #[.agg #[.int .i64 a0_0, .int .i64 a0_1, .int .i64 a0_2, .int .i64 a0_3, .int .i64 a0_4, .int .i64 a0_5]] rfl tm ?_; (with_reducible refine (impl_isQuant.calls a0_0 a0_1 a0_2 a0_3 a0_4 a0_5 false _ A29.out).mono ?_); rintro e w61 ⟨rfl, hb⟩; refine ⟨_, rfl, ?_⟩; have n0_ := am (blk_below (g := gb695) (o := .cells #[.int .i64 a0_0, .int .i64 a0_1, .int .i64 a0_2, .int .i64 a0_3, .int .i64 a0_4, .int .i64 a0_5] 39 (0, 0)) (by exact sB <| BK695.out) hb); have n1_ := am (blk_below (g := gb696) (o := .cells #[.int .i64 a0_0, .int .i64 a0_1, .int .i64 0, .int .i64 0, .int .i64 0, .int .i64 0] 39 (0, 0)) (by exact sB <| BK696.out) hb); have n2_ := am (below_step (by exact bW) hb); clear BK695; clear BK696; clear HB; have BK695 := n0_; have BK696 := n1_; have HB := n2_; clear n0_ n1_ n2_; (try clear hb); (try clear hb2); (try clear hk); (try clear hi); obtain ⟨hcz62_0, hcz62_1, hcz62_2, hcz62_3, hcz62_4, hcz62_5⟩ := cz6 BK695.out; obtain ⟨hfz62_0, hfz62_1, hfz62_2, hfz62_3, hfz62_4, hfz62_5⟩ := fz6 BK695.out; obtain ⟨hcz63_0, hcz63_1, hcz63_2, hcz63_3, hcz63_4, hcz63_5⟩ := cz6 BK696.out; obtain ⟨hfz63_0, hfz63_1, hfz63_2, hfz63_3, hfz63_4, hfz63_5⟩ := fz6 BK696.out))
         go_ret
         exact ⟨by rfl, by exact bW⟩
      ·rw [if_neg c40] at H
       have c40b0 : decide (0 < (t697.length : Int)) = false := decide_eq_false c40
       have c40b1 : decide (0 < t697.length) = false := decide_eq_false (by omega)
       have c40p : ¬ 0 < t697.length := by omega
       clear c40
       obtain rfl := oI H
       have hnb64 := NB695_696.out
       have hnc64 := NB696_695.out
       obtain ⟨hcz65_0, hcz65_1, hcz65_2, hcz65_3, hcz65_4, hcz65_5⟩ := cz6 BK695.out
       obtain ⟨hfz65_0, hfz65_1, hfz65_2, hfz65_3, hfz65_4, hfz65_5⟩ := fz6 BK695.out
       go_wp2_with (first | ((with_reducible refine gate_callee (f := 36) rfl ?_); refine goesL_ (some 37) rfl rfl Try.func36 (by kernel_rfl) rfl #[.agg #[.int .i64 a0_0, .int .i64 a0_1, .int .i64 a0_2, .int .i64 a0_3, .int .i64 a0_4, .int .i64 a0_5]] rfl tm ?_; (with_reducible refine (impl_isQuant.calls a0_0 a0_1 a0_2 a0_3 a0_4 a0_5 false _ A29.out).mono ?_); rintro e w66 ⟨rfl, hb⟩; refine ⟨_, rfl, ?_⟩; have n0_ := am (blk_below (g := gb695) (o := .cells #[.int .i64 a0_0, .int .i64 a0_1, .int .i64 a0_2, .int .i64 a0_3, .int .i64 a0_4, .int .i64 a0_5] 39 (0, 0)) (by exact sB <| BK695.out) hb); have n1_ := am (blk_below (g := gb696) (o := .cells #[.int .i64 a0_0, .int .i64 a0_1, .int .i64 0, .int .i64 0, .int .i64 0, .int .i64 0] 39 (0, 0)) (by exact sB <| BK696.out) hb); have n2_ := am (below_step (by exact bW) hb); clear BK695; clear BK696; clear HB; have BK695 := n0_; have BK696 := n1_; have HB := n2_; clear n0_ n1_ n2_; (try clear hb); (try clear hb2); (try clear hk); (try clear hi); obtain ⟨hcz67_0, hcz67_1, hcz67_2, hcz67_3, hcz67_4, hcz67_5⟩ := cz6 BK695.out; obtain ⟨hfz67_0, hfz67_1, hfz67_2, hfz67_3, hfz67_4, hfz67_5⟩ := fz6 BK695.out; obtain ⟨hcz68_0, hcz68_1, hcz68_2, hcz68_3, hcz68_4, hcz68_5⟩ := cz6 BK696.out; obtain ⟨hfz68_0, hfz68_1, hfz68_2, hfz68_3, hfz68_4, hfz68_5⟩ := fz6 BK696.out))
       go_ret
       exact ⟨by rfl, by exact bW⟩
end
/-! ### impl_WordOk: function 49 -/
def impl_WordOk.f (a0 : Int) (a1 : Int) : Option (Bool) := (impl_isWidth.f a0).bind fun t701 => (if t701 = true then (if 0 ≤ (IntKind.u64.wrap (a0)) then ((impl_within.f a1 0 (wrap64 ((shl .i64 1 (IntKind.u64.wrap (a0))) - 1))).bind fun t702 => (some t702)) else (none)) else (some false))
set_option maxHeartbeats 8000000 in
set_option maxRecDepth 100000 in
theorem impl_WordOk.calls (a0 : Int) (a1 : Int) (r : Bool) (w : World) (h : impl_WordOk.f a0 a1 = some r) :
  Calls Try.prog 49 #[.int .i64 a0, .int .i64 a1] w fun e w' => e = .returned (.bool r) ∧ Drawn0 w w' := by
 have H : ((impl_isWidth.f a0).bind fun t701 => (if t701 = true then (if 0 ≤ (IntKind.u64.wrap (a0)) then ((impl_within.f a1 0 (wrap64 ((shl .i64 1 (IntKind.u64.wrap (a0))) - 1))).bind fun t702 => (some t702)) else (none)) else (some false))) = some r := h
 clear h
 replace H := oB H
 obtain ⟨t701, A30, H⟩ := H
 have A3 := am A30
 clear A30
 by_cases c4 : t701 = true
 ·subst c4
  rw [if_pos rfl] at H
  obtain ⟨ji5, hji5⟩ : ∃ j_ : Int, (IntKind.u64.wrap (a0)) = j_ := ⟨_, rfl⟩
  replace H : (if 0 ≤ (ji5) then ((impl_within.f a1 0 (wrap64 ((shl .i64 1 (ji5)) - 1))).bind fun t702 => (some t702)) else (none)) = some r := by (rw [hji5] at H; exact H)
  (try rw [hji5] at A3)
  by_cases c6 : 0 ≤ (ji5)
  ·rw [if_pos c6] at H
   have c6b0 := eq_true c6
   have c6b1 : decide (0 ≤ (ji5)) = true := decide_eq_true c6
   clear c6
   obtain ⟨ji7, hji7⟩ : ∃ j_ : Int, (shl .i64 1 (ji5)) = j_ := ⟨_, rfl⟩
   replace H : ((impl_within.f a1 0 (wrap64 ((ji7) - 1))).bind fun t702 => (some t702)) = some r := by (rw [hji7] at H; exact H)
   (try rw [hji7] at A3)
   have hji7_ : (IntKind.i64.wrap (1 * 2 ^ min (ji5).toNat 64)) = ji7 := hji7
   have hji7z : (ji5) ≤ 64 → (IntKind.i64.wrap (1 * 2 ^ (ji5).toNat)) = ji7 := shl_small hji7
   have hji7u : (IntKind.i64.wrap (2 ^ min (ji5).toNat 64)) = ji7 := by have h_ := hji7_; rw [Int.one_mul] at h_; exact h_
   have hji7v : (ji5) ≤ 64 → (IntKind.i64.wrap (2 ^ (ji5).toNat)) = ji7 := fun hle_ => by have h_ := hji7z hle_; rw [Int.one_mul] at h_; exact h_
   have hji7y : (wrap64 (1 * 2 ^ min (ji5).toNat 64)) = ji7 := (i64_w _).symm.trans hji7_
   have hji7x : (ji5) ≤ 64 → (wrap64 (1 * 2 ^ (ji5).toNat)) = ji7 := fun h_ => (i64_w _).symm.trans (hji7z h_)
   replace H := oB H
   obtain ⟨t702, A80, H⟩ := H
   have A8 := am A80
   clear A80
   obtain rfl := oI H
   go_enter Try.func49, Try.ntmps49
   go_wp2_with (first | ((with_reducible refine gate_callee (f := 47) rfl ?_); refine goesL_ (some 6) rfl rfl Try.func47 (by kernel_rfl) rfl #[.int .i64 a0] rfl tm ?_; (with_reducible refine (impl_isWidth.calls a0 true _ A3.out).mono ?_); rintro e w' ⟨rfl, ⟨nd, rfl⟩⟩; refine ⟨_, rfl, ?_⟩) | (go_at_call 34; (with_reducible refine (impl_within.calls a1 0 (wrap64 ((ji7) - 1)) t702 _ A8.out).mono ?_); rintro e w' ⟨rfl, ⟨nd, rfl⟩⟩))
   go_ret
   exact ⟨by rfl, by repeat (first | exact Drawn0.refl _ | apply Drawn0.step)⟩
  ·rw [if_neg c6] at H
   exact absurd H (by simp)
 ·replace c4 := Bool.eq_false_iff.mpr c4
  subst c4
  rw [if_neg (show ¬ (false = true) by decide)] at H
  obtain rfl := oI H
  go_enter Try.func49, Try.ntmps49
  go_wp2_with (first | ((with_reducible refine gate_callee (f := 47) rfl ?_); refine goesL_ (some 6) rfl rfl Try.func47 (by kernel_rfl) rfl #[.int .i64 a0] rfl tm ?_; (with_reducible refine (impl_isWidth.calls a0 false _ A3.out).mono ?_); rintro e w' ⟨rfl, ⟨nd, rfl⟩⟩; refine ⟨_, rfl, ?_⟩))
  go_ret
  exact ⟨by rfl, by repeat (first | exact Drawn0.refl _ | apply Drawn0.step)⟩
/-! ### impl_isVar: function 50 -/
def impl_isVar.f (a0 : Int) : Option (Bool) := (impl_within.f a0 0 7).bind fun t703 => (some t703)
set_option maxHeartbeats 8000000 in
set_option maxRecDepth 100000 in
theorem impl_isVar.calls (a0 : Int) (r : Bool) (w : World) (h : impl_isVar.f a0 = some r) :
  Calls Try.prog 50 #[.int .i64 a0] w fun e w' => e = .returned (.bool r) ∧ Drawn0 w w' := by
 have H : ((impl_within.f a0 0 7).bind fun t703 => (some t703)) = some r := h
 clear h
 replace H := oB H
 obtain ⟨t703, A20, H⟩ := H
 have A2 := am A20
 clear A20
 obtain rfl := oI H
 go_enter Try.func50, Try.ntmps50
 go_wp2_with (first | ((with_reducible refine gate_callee (f := 34) rfl ?_); refine goesL_ (some 4) rfl rfl Try.func34 (by kernel_rfl) rfl #[.int .i64 a0, .int .i64 0, .int .i64 7] rfl tm ?_; (with_reducible refine (impl_within.calls a0 0 7 t703 _ A2.out).mono ?_); rintro e w' ⟨rfl, ⟨nd, rfl⟩⟩; refine ⟨_, rfl, ?_⟩))
 go_ret
 exact ⟨by rfl, by repeat (first | exact Drawn0.refl _ | apply Drawn0.step)⟩
end Go.Proofs.Ytjjjbifbibabgaa.PAll
