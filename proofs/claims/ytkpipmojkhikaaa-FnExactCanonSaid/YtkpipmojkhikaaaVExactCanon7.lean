/- Written by a program of this session over the loaded program, and by hand: Go functions as plain Lean functions, and that a call comes to what they say. -/
import Derived.Test.YtkpipmojkhikaaaVExactCanon0
import Derived.Test.YtkpipmojkhikaaaVExactCanon6
import Derived.Test.YtkpipmojkhikaaaBase
import Derived.Test.YtkpipmojkhikaaaSq
namespace Go.Proofs.Ytkpipmojkhikaaa.PAll
open Go.RowKit Go.Proofs.YtkpipmojkhikaaaW.PrintWords Go.Proofs.YtkpipmojkhikaaaW.PrintLast Go.Proofs.YtkpipmojkhikaaaW.PrintMore Go.Proofs.YtkpipmojkhikaaaW.Sq
attribute [local go_sem] max2_int min2_int max_two min_two max_three min_three max_four min_four   -- for this text's walks alone
set_option linter.unusedVariables false
set_option linter.unusedSimpArgs false

section
attribute [local go_sem high] eqA31
@[reducible] def zA0x17 : Array Bool := #[false, false, false, false, false, false, false, false]
@[reducible] def zA1x17 : Array Bool := #[true, false, false, false, false, false, false, false]
@[reducible] def zA2x17 : Array Bool := #[true, false, true, false, false, false, false, false]
@[reducible] def zA3x17 : Array Bool := #[true, true, true, false, false, false, false, false]
@[reducible] def zA4x17 : Array Bool := #[true, true, true, false, true, false, false, false]
@[reducible] def zA5x17 : Array Bool := #[true, true, true, true, true, false, false, false]
@[reducible] def zA6x17 : Array Bool := #[true, true, true, true, true, true, false, false]
@[reducible] def zA7x17 : Array Bool := #[true, true, true, true, true, true, true, false]
@[reducible] def zA8x17 : Array Bool := #[true, true, true, true, true, true, true, true]
@[reducible] def zA9x17 : Array Bool := #[false, false, false, false, false, false, false, false, false, false, false, false]
@[reducible] def zA10x17 : Array Bool := #[true, false, false, false, false, false, false, false, false, false, false, false]
@[reducible] def zA11x17 : Array Bool := #[true, false, true, false, false, false, false, false, false, false, false, false]
@[reducible] def zA12x17 : Array Bool := #[true, false, true, false, true, false, false, false, false, false, false, false]
@[reducible] def zA13x17 : Array Bool := #[true, true, true, false, true, false, false, false, false, false, false, false]
@[reducible] def zA14x17 : Array Bool := #[true, true, true, false, true, false, true, false, false, false, false, false]
@[reducible] def zA15x17 : Array Bool := #[true, true, true, true, true, false, true, false, false, false, false, false]
@[reducible] def zA16x17 : Array Bool := #[true, true, true, true, true, true, true, false, false, false, false, false]
@[reducible] def zA17x17 : Array Bool := #[true, true, true, true, true, true, true, true, false, false, false, false]
@[reducible] def zA18x17 : Array Bool := #[true, true, true, true, true, true, true, true, true, false, false, false]
@[reducible] def zA19x17 : Array Bool := #[true, true, true, true, true, true, true, true, true, true, false, false]
@[reducible] def zA20x17 : Array Bool := #[true, true, true, true, true, true, true, true, true, true, true, false]
@[reducible] def zA21x17 : Array Bool := #[true, true, true, true, true, true, true, true, true, true, true, true]
/-! ### impl_usesOnly: function 109 -/
def impl_usesOnly.j0 : Nat → Int → Bool → Int → Int → Int → Int → Int → Int → Int → Int → Int → Int → Int → Int → Option (Bool)
 | 0, _, _, _, _, _, _, _, _, _, _, _, _, _, _ => none
 | k + 1, x4, x13, x328000, x328001, x328002, x328003, x328004, x328005, x329000, x329001, x329002, x329003, x329004, x329005 => if x13 = true then (some (x328000 == x329000 && (x328001 == x329001 && (x328003 == x329003 && (x328004 == x329004 && (x328005 == x329005)))))) else (if x328000 = 17 then (some (x328000 == x329000 && (x328001 == x329001 && (x328004 == x329004 && (x328005 == x329005))))) else ((impl_isQuant.f x328000 x328001 x328002 x328003 x328004 x328005).bind fun t332 => (if t332 = true then (some (x328000 == x329000 && (x328001 == x329001 && (x328005 == x329005)))) else (if x4 > 0 then (if x4 > 1 then (if x4 > 2 then (some (x328000 == x329000 && (x328001 == x329001 && (x328002 == x329002)))) else (some (x328000 == x329000 && (x328001 == x329001 && (x328002 == x329002 && (x328005 == x329005)))))) else (if x4 > 2 then (some (x328000 == x329000 && (x328001 == x329001 && (x328002 == x329002 && (x328004 == x329004))))) else (some (x328000 == x329000 && (x328001 == x329001 && (x328002 == x329002 && (x328004 == x329004 && (x328005 == x329005)))))))) else (some (x328000 == x329000 && (x328001 == x329001 && (x328002 == x329002 && (x328003 == x329003 && (x328004 == x329004 && (x328005 == x329005)))))))))))
def impl_usesOnly.f (k : Nat) (a0_0 : Int) (a0_1 : Int) (a0_2 : Int) (a0_3 : Int) (a0_4 : Int) (a0_5 : Int) : Option (Bool) := (impl_Parts.f k a0_0 a0_1 a0_2 a0_3 a0_4 a0_5).bind fun t329 => (if a0_0 = 0 then (impl_usesOnly.j0 k (t329.length : Int) true a0_0 a0_1 a0_2 a0_3 a0_4 a0_5 a0_0 a0_1 0 0 0 0) else (impl_usesOnly.j0 k (t329.length : Int) (a0_0 == 1) a0_0 a0_1 a0_2 a0_3 a0_4 a0_5 a0_0 a0_1 0 0 0 0))
def impl_usesOnly.T6 : Bool × List (List Nat × List Nat) := (true, [([], []), ([0], [0]), ([], []), ([2], [2]), ([0, 1], []), ([4, 1, 0, 1], [1, 4]), ([0, 1, 2, 3, 4, 5], []), ([6, 3, 5, 0, 1, 2, 3, 4, 5], [3, 6])])
def impl_usesOnly.B6 : List Nat := [0, 1, 0, 4, 3, 19, 63, 127]
theorem impl_usesOnly.tab6 : rtab .any (opsOf Try.f109 6) = impl_usesOnly.T6 := by kernel_rfl
theorem impl_usesOnly.bits6 : waitsOk impl_usesOnly.T6.2 impl_usesOnly.B6 = true := by kernel_rfl
def impl_usesOnly.T8 : Bool × List (List Nat × List Nat) := (true, [([], []), ([0], [0]), ([], []), ([2], [2]), ([], []), ([4], [4]), ([0, 1], []), ([6, 1, 0, 1], [1, 6]), ([0, 1, 2, 3, 6, 7], []), ([8, 3, 7, 0, 1, 2, 3, 6, 7], [3, 8]), ([0, 1, 2, 3, 4, 5, 6, 7, 8, 9], []), ([10, 5, 9, 0, 1, 2, 3, 4, 5, 6, 7, 8, 9], [5, 10])])
def impl_usesOnly.B8 : List Nat := [0, 1, 0, 4, 0, 16, 3, 67, 207, 463, 1023, 2047]
theorem impl_usesOnly.tab8 : rtab .any (opsOf Try.f109 8) = impl_usesOnly.T8 := by kernel_rfl
theorem impl_usesOnly.bits8 : waitsOk impl_usesOnly.T8.2 impl_usesOnly.B8 = true := by kernel_rfl
set_option maxHeartbeats 8000000 in
set_option maxRecDepth 100000 in
theorem impl_usesOnly.calls (k : Nat) (a0_0 : Int) (a0_1 : Int) (a0_2 : Int) (a0_3 : Int) (a0_4 : Int) (a0_5 : Int) (r : Bool) (w : World) (h : impl_usesOnly.f k a0_0 a0_1 a0_2 a0_3 a0_4 a0_5 = some r) :
  Calls Try.prog 109 #[.agg #[.int .i64 a0_0, .int .i64 a0_1, .int .i64 a0_2, .int .i64 a0_3, .int .i64 a0_4, .int .i64 a0_5]] w fun e w' => e = .returned (.bool r) ∧ Below w.heap.size w w' := by
 have hu31 := Try.underlying31
 have HB := am (Below.refl w.heap.size w)
 have H : ((impl_Parts.f k a0_0 a0_1 a0_2 a0_3 a0_4 a0_5).bind fun t329 => (if a0_0 = 0 then (impl_usesOnly.j0 k (t329.length : Int) true a0_0 a0_1 a0_2 a0_3 a0_4 a0_5 a0_0 a0_1 0 0 0 0) else (impl_usesOnly.j0 k (t329.length : Int) (a0_0 == 1) a0_0 a0_1 a0_2 a0_3 a0_4 a0_5 a0_0 a0_1 0 0 0 0))) = some r := h
 clear h
 replace H := oA H; obtain ⟨t329, A2, H⟩ := H
 have HC3 := am H; clear H
 go_enter Try.func109, Try.ntmps109
 go_upto_region 3 with (first | ((with_reducible refine gate_dst (N := 1) rfl ?_); refine box_event ?hg (N := 1) ?hd (cs := #[.int .i64 a0_0, .int .i64 a0_1, .int .i64 a0_2, .int .i64 a0_3, .int .i64 a0_4, .int .i64 a0_5]) (t := 31) ?hr ?_; (case hd => rfl); (case hg => rfl); (case hr => (go_simp; done)); intro gb327 hg w4 hbox hb; have n0_ := am (below_step (by exact sW HB.out) hb); have n1_ := am (hbox); have n2_ := am ((by rw [hg]; exact (below_size (by exact sW HB.out)) : w.heap.size ≤ gb327)); have n3_ := am ((by rw [hg]; exact (below_size (by exact sW HB.out)) : w.heap.size ≤ gb327)); clear HB; have HB := n0_; have BK327 := n1_; have GW327 := n2_; have GE327 := n3_; clear n0_ n1_ n2_ n3_; clear hb hbox hg; obtain ⟨hcz5_0, hcz5_1, hcz5_2, hcz5_3, hcz5_4, hcz5_5⟩ := cz6 BK327.out; obtain ⟨hfz5_0, hfz5_1, hfz5_2, hfz5_3, hfz5_4, hfz5_5⟩ := fz6 BK327.out) | ((with_reducible refine gate_dst (N := 3) rfl ?_); refine box_event ?hg (N := 3) ?hd (cs := #[.int .i64 0, .int .i64 0, .int .i64 0, .int .i64 0, .int .i64 0, .int .i64 0]) (t := 31) ?hr ?_; (case hd => rfl); (case hg => rfl); (case hr => (go_simp; done)); intro gb328 hg w6 hbox hb; have n0_ := am (blk_below (g := gb327) (o := .cells #[.int .i64 a0_0, .int .i64 a0_1, .int .i64 a0_2, .int .i64 a0_3, .int .i64 a0_4, .int .i64 a0_5] 31 (0, 0)) (by exact sB <| BK327.out) hb); have n1_ := am (below_step (by exact bW) hb); have n2_ := am (hbox); have n3_ := am ((by rw [hg]; exact (below_size (by exact bW)) : w.heap.size ≤ gb328)); have n4_ := am ((by rw [hg]; exact (below_size (by exact bW)) : w.heap.size ≤ gb328)); have n5_ := am ((by rw [hg]; exact Nat.ne_of_lt (blk_lt (g := gb327) (o := .cells #[.int .i64 a0_0, .int .i64 a0_1, .int .i64 a0_2, .int .i64 a0_3, .int .i64 a0_4, .int .i64 a0_5] 31 (0, 0)) (by exact sB <| BK327.out)) : gb327 ≠ gb328)); have n6_ := am ((by rw [hg]; exact Nat.ne_of_gt (blk_lt (g := gb327) (o := .cells #[.int .i64 a0_0, .int .i64 a0_1, .int .i64 a0_2, .int .i64 a0_3, .int .i64 a0_4, .int .i64 a0_5] 31 (0, 0)) (by exact sB <| BK327.out)) : gb328 ≠ gb327)); clear BK327; clear HB; have BK327 := n0_; have HB := n1_; have BK328 := n2_; have GW328 := n3_; have GE328 := n4_; have NB327_328 := n5_; have NB328_327 := n6_; clear n0_ n1_ n2_ n3_ n4_ n5_ n6_; clear hb hbox hg; have hnb7 := NB328_327.out; have hnc7 := NB327_328.out; obtain ⟨hcz8_0, hcz8_1, hcz8_2, hcz8_3, hcz8_4, hcz8_5⟩ := cz6 BK328.out; obtain ⟨hfz8_0, hfz8_1, hfz8_2, hfz8_3, hfz8_4, hfz8_5⟩ := fz6 BK328.out; obtain ⟨hcz9_0, hcz9_1, hcz9_2, hcz9_3, hcz9_4, hcz9_5⟩ := cz6 BK327.out; obtain ⟨hfz9_0, hfz9_1, hfz9_2, hfz9_3, hfz9_4, hfz9_5⟩ := fz6 BK327.out) | ((with_reducible refine gate_callee (f := 58) rfl ?_); refine goesL_ (some 11) rfl rfl Try.func58 (by kernel_rfl) rfl #[.agg #[.int .i64 a0_0, .int .i64 a0_1, .int .i64 a0_2, .int .i64 a0_3, .int .i64 a0_4, .int .i64 a0_5]] rfl tm ?_; (with_reducible refine (impl_Parts.calls _ _ _ _ _ _ _ _ _ A2.out).mono ?_); rintro e w10 ⟨v330, rfl, ho0, hb⟩; refine ⟨_, rfl, ?_⟩; have n0_ := am (Kd.R_lower ho0 (below_size (by exact bW))); have n1_ := am (blk_below (g := gb327) (o := .cells #[.int .i64 a0_0, .int .i64 a0_1, .int .i64 a0_2, .int .i64 a0_3, .int .i64 a0_4, .int .i64 a0_5] 31 (0, 0)) (by (with_reducible repeat (first | refine blk_drewN ?_ _ | refine blk_drew ?_ | refine blk_alloc ?_ _)); refine blk_far ?_ NB327_328.out _; (with_reducible repeat (first | refine blk_drewN ?_ _ | refine blk_drew ?_ | refine blk_alloc ?_ _)); refine blk_far ?_ NB327_328.out _; (with_reducible repeat (first | refine blk_drewN ?_ _ | refine blk_drew ?_ | refine blk_alloc ?_ _)); refine blk_far ?_ NB327_328.out _; (with_reducible repeat (first | refine blk_drewN ?_ _ | refine blk_drew ?_ | refine blk_alloc ?_ _)); refine blk_far ?_ NB327_328.out _; (with_reducible repeat (first | refine blk_drewN ?_ _ | refine blk_drew ?_ | refine blk_alloc ?_ _)); refine blk_far ?_ NB327_328.out _; (with_reducible repeat (first | refine blk_drewN ?_ _ | refine blk_drew ?_ | refine blk_alloc ?_ _)); refine blk_far ?_ NB327_328.out _; exact sB <| BK327.out) hb); have n2_ := am (blk_below (g := gb328) (o := .cells #[.int .i64 a0_0, .int .i64 a0_1, .int .i64 0, .int .i64 0, .int .i64 0, .int .i64 0] 31 (0, 0)) (by (with_reducible repeat (first | refine blk_drewN ?_ _ | refine blk_drew ?_ | refine blk_alloc ?_ _)); refine blk_put (cs := #[.int .i64 a0_0, .int .i64 a0_1, .int .i64 0, .int .i64 0, .int .i64 0, .int .i64 0]) ?_ 5 _ rfl; (with_reducible repeat (first | refine blk_drewN ?_ _ | refine blk_drew ?_ | refine blk_alloc ?_ _)); refine blk_put (cs := #[.int .i64 a0_0, .int .i64 a0_1, .int .i64 0, .int .i64 0, .int .i64 0, .int .i64 0]) ?_ 4 _ rfl; (with_reducible repeat (first | refine blk_drewN ?_ _ | refine blk_drew ?_ | refine blk_alloc ?_ _)); refine blk_put (cs := #[.int .i64 a0_0, .int .i64 a0_1, .int .i64 0, .int .i64 0, .int .i64 0, .int .i64 0]) ?_ 3 _ rfl; (with_reducible repeat (first | refine blk_drewN ?_ _ | refine blk_drew ?_ | refine blk_alloc ?_ _)); refine blk_put (cs := #[.int .i64 a0_0, .int .i64 a0_1, .int .i64 0, .int .i64 0, .int .i64 0, .int .i64 0]) ?_ 2 _ rfl; (with_reducible repeat (first | refine blk_drewN ?_ _ | refine blk_drew ?_ | refine blk_alloc ?_ _)); refine blk_put (cs := #[.int .i64 a0_0, .int .i64 0, .int .i64 0, .int .i64 0, .int .i64 0, .int .i64 0]) ?_ 1 _ rfl; (with_reducible repeat (first | refine blk_drewN ?_ _ | refine blk_drew ?_ | refine blk_alloc ?_ _)); refine blk_put (cs := #[.int .i64 0, .int .i64 0, .int .i64 0, .int .i64 0, .int .i64 0, .int .i64 0]) ?_ 0 _ rfl; exact sB <| BK328.out) hb); have n3_ := am (below_step (by exact bW) hb); clear BK327; clear BK328; clear HB; have HO331 := n0_; have BK327 := n1_; have BK328 := n2_; have HB := n3_; clear n0_ n1_ n2_ n3_; obtain ⟨Ao11, co11, eo11⟩ := Kd.R_slice HO331.out; subst eo11)); clear hb ho0
 (try simp only [Act.put, List.setIfInBounds_toArray, List.set_cons_zero, List.set_cons_succ])
 go_cut [13] (fun v13 wc => ∃ (kq : Nat) (x13_2 : Bool), v13 = .bool x13_2 ∧ Aside0 (impl_usesOnly.j0 kq (t329.length : Int) x13_2 a0_0 a0_1 a0_2 a0_3 a0_4 a0_5 a0_0 a0_1 0 0 0 0 = some r) ∧ Aside0 (kq ≤ k) ∧ Aside0 (wc.heap[gb327]? = some (.cells #[.int .i64 a0_0, .int .i64 a0_1, .int .i64 a0_2, .int .i64 a0_3, .int .i64 a0_4, .int .i64 a0_5] 31 (0, 0))) ∧ Aside0 (wc.heap[gb328]? = some (.cells #[.int .i64 a0_0, .int .i64 a0_1, .int .i64 0, .int .i64 0, .int .i64 0, .int .i64 0] 31 (0, 0))) ∧ Aside0 (Below w.heap.size w wc))
 case first =>
  have H := HC3.out
  clear HC3
  replace H := iE H; rcases H with ⟨c12b0, c12b1, H⟩ | ⟨c12b0, c12b1, H⟩
  ·have H' := am H
   clear H
   have hnb13 := NB327_328.out
   have hnc13 := NB328_327.out
   obtain ⟨hcz14_0, hcz14_1, hcz14_2, hcz14_3, hcz14_4, hcz14_5⟩ := cz6 BK327.out
   obtain ⟨hfz14_0, hfz14_1, hfz14_2, hfz14_3, hfz14_4, hfz14_5⟩ := fz6 BK327.out
   go_wp2
   go_meet
   case rel => exact ⟨_, (true), (by rfl), H', ⟨by omega⟩, ⟨by exact sB <| BK327.out⟩, ⟨by exact sB <| BK328.out⟩, ⟨by exact bW⟩⟩
  ·have H' := am H
   clear H
   have hnb15 := NB327_328.out
   have hnc15 := NB328_327.out
   obtain ⟨hcz16_0, hcz16_1, hcz16_2, hcz16_3, hcz16_4, hcz16_5⟩ := cz6 BK327.out
   obtain ⟨hfz16_0, hfz16_1, hfz16_2, hfz16_3, hfz16_4, hfz16_5⟩ := fz6 BK327.out
   go_wp2
   go_meet
   case rel => exact ⟨_, ((a0_0 == 1)), (by rfl), H', ⟨by omega⟩, ⟨by exact sB <| BK327.out⟩, ⟨by exact sB <| BK328.out⟩, ⟨by exact bW⟩⟩
 case rest =>
  clear HC3
  clear hcz5_0 hcz5_1 hcz5_2 hcz5_3 hcz5_4 hcz5_5 hcz8_0 hcz8_1 hcz8_2 hcz8_3 hcz8_4 hcz8_5 hcz9_0 hcz9_1 hcz9_2 hcz9_3 hcz9_4 hcz9_5 hfz5_0 hfz5_1 hfz5_2 hfz5_3 hfz5_4 hfz5_5 hfz8_0 hfz8_1 hfz8_2 hfz8_3 hfz8_4 hfz8_5 hfz9_0 hfz9_1 hfz9_2 hfz9_3 hfz9_4 hfz9_5
  obtain ⟨kq, x13_2, rfl, HA, HJ2, BK327, BK328, HB⟩ := hcut
  cases kq with
  | zero => exact absurd HA.out (by simp [impl_usesOnly.j0])
  | succ kj2 =>
   have H := HA.out
   clear HA
   simp only [impl_usesOnly.j0] at H
   replace H := iB H; rcases H with ⟨rfl, H⟩ | ⟨rfl, H⟩
   ·obtain rfl := oI H
    have hnb18 := NB327_328.out
    have hnc18 := NB328_327.out
    obtain ⟨hcz19_0, hcz19_1, hcz19_2, hcz19_3, hcz19_4, hcz19_5⟩ := cz6 BK327.out
    obtain ⟨hfz19_0, hfz19_1, hfz19_2, hfz19_3, hfz19_4, hfz19_5⟩ := fz6 BK327.out
    obtain ⟨hcz20_0, hcz20_1, hcz20_2, hcz20_3, hcz20_4, hcz20_5⟩ := cz6 BK328.out
    obtain ⟨hfz20_0, hfz20_1, hfz20_2, hfz20_3, hfz20_4, hfz20_5⟩ := fz6 BK328.out
    go_wp2
    go_ret
    exact ⟨by rfl, by exact bW⟩
   ·replace H := iE H; rcases H with ⟨c21b0, c21b1, H⟩ | ⟨c21b0, c21b1, H⟩
    ·obtain rfl := oI H
     have hnb22 := NB327_328.out
     have hnc22 := NB328_327.out
     obtain ⟨hcz23_0, hcz23_1, hcz23_2, hcz23_3, hcz23_4, hcz23_5⟩ := cz6 BK327.out
     obtain ⟨hfz23_0, hfz23_1, hfz23_2, hfz23_3, hfz23_4, hfz23_5⟩ := fz6 BK327.out
     try go_wp2
     have n0_ := am (blk_drew BK327.out)
     have n1_ := am (blk_drew BK328.out)
     have n2_ := am (below_drew1 HB.out)
     clear BK327
     clear BK328
     clear HB
     have BK327 := n0_
     have BK328 := n1_
     have HB := n2_
     clear n0_ n1_ n2_
     refine start_ (n := 8) (S := fun w' => w'.cell? ⟨gb327, 0, none⟩ = some (.int .i64 a0_0) ∧ w'.cell? ⟨gb327, 1, none⟩ = some (.int .i64 a0_1) ∧ w'.cell? ⟨gb327, 2, none⟩ = some (.int .i64 a0_2) ∧ w'.cell? ⟨gb327, 3, none⟩ = some (.int .i64 a0_3) ∧ w'.cell? ⟨gb327, 4, none⟩ = some (.int .i64 a0_4) ∧ w'.cell? ⟨gb327, 5, none⟩ = some (.int .i64 a0_5)) (ds := []) zA0x17 (by kernel_rfl) rfl rfl ⟨(blk_cell BK327.out 0).trans rfl, (blk_cell BK327.out 1).trans rfl, (blk_cell BK327.out 2).trans rfl, (blk_cell BK327.out 3).trans rfl, (blk_cell BK327.out 4).trans rfl, (blk_cell BK327.out 5).trans rfl⟩ (fun hHeld => ?_); refine with_tabW impl_usesOnly.tab6 impl_usesOnly.bits6 (fun HT_ HW_ => ?_)
     generalize wc.drew = w24 at BK327 BK328 HB hHeld ⊢
     refine pT (i := 0) (N := some 29) zA1x17 ?_
     refine pT (i := 2) (N := some 31) zA2x17 ?_
     refine take_ (i := 1) (N := some 30) (v := ?_) (a' := ?_) zA3x17 rfl rfl (take_ofW HT_.out HW_.out (by kernel_rfl)) (fun _ _ _ h => h) (Or.inl ⟨by rfl, ?_⟩) hHeld ?_ ?_
     rotate_left
     ·rintro w' ⟨s0, s1, s2, s3, s4, s5⟩
      go_simp
      with_reducible rfl
     rotate_left
     ·simp only [Act.put, List.setIfInBounds_toArray, List.set_cons_zero, List.set_cons_succ, i64_w, i32_w]
      rfl
     refine pT (i := 4) (N := some 33) zA4x17 ?_
     refine take_ (i := 3) (N := some 32) (v := ?_) (a' := ?_) zA5x17 rfl rfl (take_ofW HT_.out HW_.out (by kernel_rfl)) (fun _ _ _ h => h) (Or.inl ⟨by rfl, ?_⟩) hHeld ?_ ?_
     rotate_left
     ·rintro w' ⟨s0, s1, s2, s3, s4, s5⟩
      go_simp
      with_reducible rfl
     rotate_left
     ·simp only [Act.put, List.setIfInBounds_toArray, List.set_cons_zero, List.set_cons_succ, i64_w, i32_w]
      rfl
     refine one_ (i := 5) (N := none) zA6x17 rfl rfl (one_of HT_.out (by kernel_rfl)) (by decide) (fun K hK => ?_)
     have hs25 : w24.cell? ⟨gb328, 2, none⟩ = some (.int .i64 0) := (blk_cell BK328.out 2).trans rfl
     have hfs25 := blk_frozen BK328.out 2
     have hns25_0 := NB327_328.out
     have hms25_0 := NB328_327.out
     refine skip_ (w1 := ?_) (by rfl) rfl ?_ ?_
     rotate_left
     ·go_simp
      rfl
     refine hK.out _ _ ⟨((cell_far (p := ⟨gb328, _, none⟩) NB327_328.out _).trans (hHeld.1)), ((cell_far (p := ⟨gb328, _, none⟩) NB327_328.out _).trans (hHeld.2.1)), ((cell_far (p := ⟨gb328, _, none⟩) NB327_328.out _).trans (hHeld.2.2.1)), ((cell_far (p := ⟨gb328, _, none⟩) NB327_328.out _).trans (hHeld.2.2.2.1)), ((cell_far (p := ⟨gb328, _, none⟩) NB327_328.out _).trans (hHeld.2.2.2.2.1)), ((cell_far (p := ⟨gb328, _, none⟩) NB327_328.out _).trans (hHeld.2.2.2.2.2))⟩ (fun hHeld => ?_)
     clear hK K
     refine pT (i := 6) (N := some 34) zA7x17 ?_
     refine one_ (i := 7) (N := none) zA8x17 rfl rfl (one_of HT_.out (by kernel_rfl)) (by decide) (fun K hK => ?_)
     have hs26 : w24.cell? ⟨gb328, 3, none⟩ = some (.int .i64 0) := (blk_cell BK328.out 3).trans rfl
     have hfs26 := blk_frozen BK328.out 3
     have hns26_0 := NB327_328.out
     have hms26_0 := NB328_327.out
     refine skip_ (w1 := ?_) (by rfl) rfl ?_ ?_
     rotate_left
     ·go_simp
      rfl
     refine hK.out _ _ ⟨((cell_far (p := ⟨gb328, _, none⟩) NB327_328.out _).trans (hHeld.1)), ((cell_far (p := ⟨gb328, _, none⟩) NB327_328.out _).trans (hHeld.2.1)), ((cell_far (p := ⟨gb328, _, none⟩) NB327_328.out _).trans (hHeld.2.2.1)), ((cell_far (p := ⟨gb328, _, none⟩) NB327_328.out _).trans (hHeld.2.2.2.1)), ((cell_far (p := ⟨gb328, _, none⟩) NB327_328.out _).trans (hHeld.2.2.2.2.1)), ((cell_far (p := ⟨gb328, _, none⟩) NB327_328.out _).trans (hHeld.2.2.2.2.2))⟩ (fun hHeld => ?_)
     clear hK K
     refine done_ (done_of HT_.out (by kernel_rfl)) ?_
     obtain ⟨hcz27_0, hcz27_1, hcz27_2, hcz27_3, hcz27_4, hcz27_5⟩ := cz6 BK327.out
     obtain ⟨hfz27_0, hfz27_1, hfz27_2, hfz27_3, hfz27_4, hfz27_5⟩ := fz6 BK327.out
     obtain ⟨hcz28_0, hcz28_1, hcz28_2, hcz28_3, hcz28_4, hcz28_5⟩ := cz6 BK328.out
     obtain ⟨hfz28_0, hfz28_1, hfz28_2, hfz28_3, hfz28_4, hfz28_5⟩ := fz6 BK328.out
     try go_wp2
     go_ret
     exact ⟨by (simp [errW_none, errW_some] <;> rfl), by exact bW⟩
    ·replace H := oA H; obtain ⟨t332, A29, H⟩ := H
     replace H := iB H; rcases H with ⟨rfl, H⟩ | ⟨rfl, H⟩
     ·obtain rfl := oI H
      have hnb31 := NB327_328.out
      have hnc31 := NB328_327.out
      obtain ⟨hcz32_0, hcz32_1, hcz32_2, hcz32_3, hcz32_4, hcz32_5⟩ := cz6 BK327.out
      obtain ⟨hfz32_0, hfz32_1, hfz32_2, hfz32_3, hfz32_4, hfz32_5⟩ := fz6 BK327.out
      try go_wp2_with (first | ((with_reducible refine gate_callee (f := 53) rfl ?_); refine goesL_ (some 37) rfl rfl Try.func53 (by kernel_rfl) rfl #[.agg #[.int .i64 a0_0, .int .i64 a0_1, .int .i64 a0_2, .int .i64 a0_3, .int .i64 a0_4, .int .i64 a0_5]] rfl tm ?_; (with_reducible refine (impl_isQuant.calls _ _ _ _ _ _ _ _ A29.out).mono ?_); rintro e w33 ⟨rfl, hb⟩; refine ⟨_, rfl, ?_⟩; have n0_ := am (blk_below (g := gb327) (o := .cells #[.int .i64 a0_0, .int .i64 a0_1, .int .i64 a0_2, .int .i64 a0_3, .int .i64 a0_4, .int .i64 a0_5] 31 (0, 0)) (by exact sB <| BK327.out) hb); have n1_ := am (blk_below (g := gb328) (o := .cells #[.int .i64 a0_0, .int .i64 a0_1, .int .i64 0, .int .i64 0, .int .i64 0, .int .i64 0] 31 (0, 0)) (by exact sB <| BK328.out) hb); have n2_ := am (below_step (by exact bW) hb); clear BK327; clear BK328; clear HB; have BK327 := n0_; have BK328 := n1_; have HB := n2_; clear n0_ n1_ n2_; (try clear hb); (try clear hb2); (try clear hk); (try clear hi)))
      have n0_ := am (blk_drew BK327.out)
      have n1_ := am (blk_drew BK328.out)
      have n2_ := am (below_drew1 HB.out)
      clear BK327
      clear BK328
      clear HB
      have BK327 := n0_
      have BK328 := n1_
      have HB := n2_
      clear n0_ n1_ n2_
      refine start_ (n := 12) (S := fun w' => w'.cell? ⟨gb327, 0, none⟩ = some (.int .i64 a0_0) ∧ w'.cell? ⟨gb327, 1, none⟩ = some (.int .i64 a0_1) ∧ w'.cell? ⟨gb327, 2, none⟩ = some (.int .i64 a0_2) ∧ w'.cell? ⟨gb327, 3, none⟩ = some (.int .i64 a0_3) ∧ w'.cell? ⟨gb327, 4, none⟩ = some (.int .i64 a0_4) ∧ w'.cell? ⟨gb327, 5, none⟩ = some (.int .i64 a0_5)) (ds := []) zA9x17 (by kernel_rfl) rfl rfl ⟨(blk_cell BK327.out 0).trans rfl, (blk_cell BK327.out 1).trans rfl, (blk_cell BK327.out 2).trans rfl, (blk_cell BK327.out 3).trans rfl, (blk_cell BK327.out 4).trans rfl, (blk_cell BK327.out 5).trans rfl⟩ (fun hHeld => ?_); refine with_tabW impl_usesOnly.tab8 impl_usesOnly.bits8 (fun HT_ HW_ => ?_)
      generalize w33.drew = w34 at BK327 BK328 HB hHeld ⊢
      refine pT (i := 0) (N := some 38) zA10x17 ?_
      refine pT (i := 2) (N := some 40) zA11x17 ?_
      refine pT (i := 4) (N := some 42) zA12x17 ?_
      refine take_ (i := 1) (N := some 39) (v := ?_) (a' := ?_) zA13x17 rfl rfl (take_ofW HT_.out HW_.out (by kernel_rfl)) (fun _ _ _ h => h) (Or.inl ⟨by rfl, ?_⟩) hHeld ?_ ?_
      rotate_left
      ·rintro w' ⟨s0, s1, s2, s3, s4, s5⟩
       go_simp
       with_reducible rfl
      rotate_left
      ·simp only [Act.put, List.setIfInBounds_toArray, List.set_cons_zero, List.set_cons_succ, i64_w, i32_w]
       rfl
      refine pT (i := 6) (N := some 44) zA14x17 ?_
      refine take_ (i := 3) (N := some 41) (v := ?_) (a' := ?_) zA15x17 rfl rfl (take_ofW HT_.out HW_.out (by kernel_rfl)) (fun _ _ _ h => h) (Or.inl ⟨by rfl, ?_⟩) hHeld ?_ ?_
      rotate_left
      ·rintro w' ⟨s0, s1, s2, s3, s4, s5⟩
       go_simp
       with_reducible rfl
      rotate_left
      ·simp only [Act.put, List.setIfInBounds_toArray, List.set_cons_zero, List.set_cons_succ, i64_w, i32_w]
       rfl
      refine take_ (i := 5) (N := some 43) (v := ?_) (a' := ?_) zA16x17 rfl rfl (take_ofW HT_.out HW_.out (by kernel_rfl)) (fun _ _ _ h => h) (Or.inl ⟨by rfl, ?_⟩) hHeld ?_ ?_
      rotate_left
      ·rintro w' ⟨s0, s1, s2, s3, s4, s5⟩
       go_simp
       with_reducible rfl
      rotate_left
      ·simp only [Act.put, List.setIfInBounds_toArray, List.set_cons_zero, List.set_cons_succ, i64_w, i32_w]
       rfl
      refine one_ (i := 7) (N := none) zA17x17 rfl rfl (one_of HT_.out (by kernel_rfl)) (by decide) (fun K hK => ?_)
      have hs35 : w34.cell? ⟨gb328, 2, none⟩ = some (.int .i64 0) := (blk_cell BK328.out 2).trans rfl
      have hfs35 := blk_frozen BK328.out 2
      have hns35_0 := NB327_328.out
      have hms35_0 := NB328_327.out
      refine skip_ (w1 := ?_) (by rfl) rfl ?_ ?_
      rotate_left
      ·go_simp
       rfl
      refine hK.out _ _ ⟨((cell_far (p := ⟨gb328, _, none⟩) NB327_328.out _).trans (hHeld.1)), ((cell_far (p := ⟨gb328, _, none⟩) NB327_328.out _).trans (hHeld.2.1)), ((cell_far (p := ⟨gb328, _, none⟩) NB327_328.out _).trans (hHeld.2.2.1)), ((cell_far (p := ⟨gb328, _, none⟩) NB327_328.out _).trans (hHeld.2.2.2.1)), ((cell_far (p := ⟨gb328, _, none⟩) NB327_328.out _).trans (hHeld.2.2.2.2.1)), ((cell_far (p := ⟨gb328, _, none⟩) NB327_328.out _).trans (hHeld.2.2.2.2.2))⟩ (fun hHeld => ?_)
      clear hK K
      refine pT (i := 8) (N := some 45) zA18x17 ?_
      refine one_ (i := 9) (N := none) zA19x17 rfl rfl (one_of HT_.out (by kernel_rfl)) (by decide) (fun K hK => ?_)
      have hs36 : w34.cell? ⟨gb328, 3, none⟩ = some (.int .i64 0) := (blk_cell BK328.out 3).trans rfl
      have hfs36 := blk_frozen BK328.out 3
      have hns36_0 := NB327_328.out
      have hms36_0 := NB328_327.out
      refine skip_ (w1 := ?_) (by rfl) rfl ?_ ?_
      rotate_left
      ·go_simp
       rfl
      refine hK.out _ _ ⟨((cell_far (p := ⟨gb328, _, none⟩) NB327_328.out _).trans (hHeld.1)), ((cell_far (p := ⟨gb328, _, none⟩) NB327_328.out _).trans (hHeld.2.1)), ((cell_far (p := ⟨gb328, _, none⟩) NB327_328.out _).trans (hHeld.2.2.1)), ((cell_far (p := ⟨gb328, _, none⟩) NB327_328.out _).trans (hHeld.2.2.2.1)), ((cell_far (p := ⟨gb328, _, none⟩) NB327_328.out _).trans (hHeld.2.2.2.2.1)), ((cell_far (p := ⟨gb328, _, none⟩) NB327_328.out _).trans (hHeld.2.2.2.2.2))⟩ (fun hHeld => ?_)
      clear hK K
      refine pT (i := 10) (N := some 46) zA20x17 ?_
      refine one_ (i := 11) (N := none) zA21x17 rfl rfl (one_of HT_.out (by kernel_rfl)) (by decide) (fun K hK => ?_)
      have hs37 : w34.cell? ⟨gb328, 4, none⟩ = some (.int .i64 0) := (blk_cell BK328.out 4).trans rfl
      have hfs37 := blk_frozen BK328.out 4
      have hns37_0 := NB327_328.out
      have hms37_0 := NB328_327.out
      refine skip_ (w1 := ?_) (by rfl) rfl ?_ ?_
      rotate_left
      ·go_simp
       rfl
      refine hK.out _ _ ⟨((cell_far (p := ⟨gb328, _, none⟩) NB327_328.out _).trans (hHeld.1)), ((cell_far (p := ⟨gb328, _, none⟩) NB327_328.out _).trans (hHeld.2.1)), ((cell_far (p := ⟨gb328, _, none⟩) NB327_328.out _).trans (hHeld.2.2.1)), ((cell_far (p := ⟨gb328, _, none⟩) NB327_328.out _).trans (hHeld.2.2.2.1)), ((cell_far (p := ⟨gb328, _, none⟩) NB327_328.out _).trans (hHeld.2.2.2.2.1)), ((cell_far (p := ⟨gb328, _, none⟩) NB327_328.out _).trans (hHeld.2.2.2.2.2))⟩ (fun hHeld => ?_)
      clear hK K
      refine done_ (done_of HT_.out (by kernel_rfl)) ?_
      obtain ⟨hcz38_0, hcz38_1, hcz38_2, hcz38_3, hcz38_4, hcz38_5⟩ := cz6 BK327.out
      obtain ⟨hfz38_0, hfz38_1, hfz38_2, hfz38_3, hfz38_4, hfz38_5⟩ := fz6 BK327.out
      obtain ⟨hcz39_0, hcz39_1, hcz39_2, hcz39_3, hcz39_4, hcz39_5⟩ := cz6 BK328.out
      obtain ⟨hfz39_0, hfz39_1, hfz39_2, hfz39_3, hfz39_4, hfz39_5⟩ := fz6 BK328.out
      try go_wp2
      go_ret
      exact ⟨by (simp [errW_none, errW_some] <;> rfl), by exact bW⟩
     ·by_cases c40 : (t329.length : Int) > 0
      ·rw [if_pos c40] at H
       have c40b0 : decide (0 < (t329.length : Int)) = true := decide_eq_true c40
       have c40b1 : decide (0 < t329.length) = true := decide_eq_true (by omega)
       have c40p : 0 < t329.length := by omega
       clear c40
       by_cases c41 : (t329.length : Int) > 1
       ·rw [if_pos c41] at H
        have c41b0 : decide (1 < (t329.length : Int)) = true := decide_eq_true c41
        have c41b1 : decide (1 < t329.length) = true := decide_eq_true (by omega)
        clear c41
        by_cases c42 : (t329.length : Int) > 2
        ·rw [if_pos c42] at H
         have c42b0 : decide (2 < (t329.length : Int)) = true := decide_eq_true c42
         have c42b1 : decide (2 < t329.length) = true := decide_eq_true (by omega)
         clear c42
         obtain rfl := oI H
         have hnb43 := NB327_328.out
         have hnc43 := NB328_327.out
         obtain ⟨hcz44_0, hcz44_1, hcz44_2, hcz44_3, hcz44_4, hcz44_5⟩ := cz6 BK327.out
         obtain ⟨hfz44_0, hfz44_1, hfz44_2, hfz44_3, hfz44_4, hfz44_5⟩ := fz6 BK327.out
         go_wp2_with (first | ((with_reducible refine gate_callee (f := 53) rfl ?_); refine goesL_ (some 37) rfl rfl Try.func53 (by kernel_rfl) rfl #[.agg #[.int .i64 a0_0, .int .i64 a0_1, .int .i64 a0_2, .int .i64 a0_3, .int .i64 a0_4, .int .i64 a0_5]] rfl tm ?_; (with_reducible refine (impl_isQuant.calls _ _ _ _ _ _ _ _ A29.out).mono ?_); rintro e w45 ⟨rfl, hb⟩; refine ⟨_, rfl, ?_⟩; have n0_ := am (blk_below (g := gb327) (o := .cells #[.int .i64 a0_0, .int .i64 a0_1, .int .i64 a0_2, .int .i64 a0_3, .int .i64 a0_4, .int .i64 a0_5] 31 (0, 0)) (by exact sB <| BK327.out) hb); have n1_ := am (blk_below (g := gb328) (o := .cells #[.int .i64 a0_0, .int .i64 a0_1, .int .i64 0, .int .i64 0, .int .i64 0, .int .i64 0] 31 (0, 0)) (by exact sB <| BK328.out) hb); have n2_ := am (below_step (by exact bW) hb); clear BK327; clear BK328; clear HB; have BK327 := n0_; have BK328 := n1_; have HB := n2_; clear n0_ n1_ n2_; (try clear hb); (try clear hb2); (try clear hk); (try clear hi); obtain ⟨hcz46_0, hcz46_1, hcz46_2, hcz46_3, hcz46_4, hcz46_5⟩ := cz6 BK327.out; obtain ⟨hfz46_0, hfz46_1, hfz46_2, hfz46_3, hfz46_4, hfz46_5⟩ := fz6 BK327.out; obtain ⟨hcz47_0, hcz47_1, hcz47_2, hcz47_3, hcz47_4, hcz47_5⟩ := cz6 BK328.out; obtain ⟨hfz47_0, hfz47_1, hfz47_2, hfz47_3, hfz47_4, hfz47_5⟩ := fz6 BK328.out))
         go_ret
         exact ⟨by rfl, by exact bW⟩
        ·rw [if_neg c42] at H
         have c42b0 : decide (2 < (t329.length : Int)) = false := decide_eq_false c42
         have c42b1 : decide (2 < t329.length) = false := decide_eq_false (by omega)
         clear c42
         obtain rfl := oI H
         have hnb48 := NB327_328.out
         have hnc48 := NB328_327.out
         obtain ⟨hcz49_0, hcz49_1, hcz49_2, hcz49_3, hcz49_4, hcz49_5⟩ := cz6 BK327.out
         obtain ⟨hfz49_0, hfz49_1, hfz49_2, hfz49_3, hfz49_4, hfz49_5⟩ := fz6 BK327.out
         go_wp2_with (first | ((with_reducible refine gate_callee (f := 53) rfl ?_); refine goesL_ (some 37) rfl rfl Try.func53 (by kernel_rfl) rfl #[.agg #[.int .i64 a0_0, .int .i64 a0_1, .int .i64 a0_2, .int .i64 a0_3, .int .i64 a0_4, .int .i64 a0_5]] rfl tm ?_; (with_reducible refine (impl_isQuant.calls _ _ _ _ _ _ _ _ A29.out).mono ?_); rintro e w50 ⟨rfl, hb⟩; refine ⟨_, rfl, ?_⟩; have n0_ := am (blk_below (g := gb327) (o := .cells #[.int .i64 a0_0, .int .i64 a0_1, .int .i64 a0_2, .int .i64 a0_3, .int .i64 a0_4, .int .i64 a0_5] 31 (0, 0)) (by exact sB <| BK327.out) hb); have n1_ := am (blk_below (g := gb328) (o := .cells #[.int .i64 a0_0, .int .i64 a0_1, .int .i64 0, .int .i64 0, .int .i64 0, .int .i64 0] 31 (0, 0)) (by exact sB <| BK328.out) hb); have n2_ := am (below_step (by exact bW) hb); clear BK327; clear BK328; clear HB; have BK327 := n0_; have BK328 := n1_; have HB := n2_; clear n0_ n1_ n2_; (try clear hb); (try clear hb2); (try clear hk); (try clear hi); obtain ⟨hcz51_0, hcz51_1, hcz51_2, hcz51_3, hcz51_4, hcz51_5⟩ := cz6 BK327.out; obtain ⟨hfz51_0, hfz51_1, hfz51_2, hfz51_3, hfz51_4, hfz51_5⟩ := fz6 BK327.out; obtain ⟨hcz52_0, hcz52_1, hcz52_2, hcz52_3, hcz52_4, hcz52_5⟩ := cz6 BK328.out; obtain ⟨hfz52_0, hfz52_1, hfz52_2, hfz52_3, hfz52_4, hfz52_5⟩ := fz6 BK328.out))
         go_ret
         exact ⟨by rfl, by exact bW⟩
       ·rw [if_neg c41] at H
        have c41b0 : decide (1 < (t329.length : Int)) = false := decide_eq_false c41
        have c41b1 : decide (1 < t329.length) = false := decide_eq_false (by omega)
        clear c41
        by_cases c53 : (t329.length : Int) > 2
        ·rw [if_pos c53] at H
         have c53b0 : decide (2 < (t329.length : Int)) = true := decide_eq_true c53
         have c53b1 : decide (2 < t329.length) = true := decide_eq_true (by omega)
         clear c53
         obtain rfl := oI H
         have hnb54 := NB327_328.out
         have hnc54 := NB328_327.out
         obtain ⟨hcz55_0, hcz55_1, hcz55_2, hcz55_3, hcz55_4, hcz55_5⟩ := cz6 BK327.out
         obtain ⟨hfz55_0, hfz55_1, hfz55_2, hfz55_3, hfz55_4, hfz55_5⟩ := fz6 BK327.out
         go_wp2_with (first | ((with_reducible refine gate_callee (f := 53) rfl ?_); refine goesL_ (some 37) rfl rfl Try.func53 (by kernel_rfl) rfl #[.agg #[.int .i64 a0_0, .int .i64 a0_1, .int .i64 a0_2, .int .i64 a0_3, .int .i64 a0_4, .int .i64 a0_5]] rfl tm ?_; (with_reducible refine (impl_isQuant.calls _ _ _ _ _ _ _ _ A29.out).mono ?_); rintro e w56 ⟨rfl, hb⟩; refine ⟨_, rfl, ?_⟩; have n0_ := am (blk_below (g := gb327) (o := .cells #[.int .i64 a0_0, .int .i64 a0_1, .int .i64 a0_2, .int .i64 a0_3, .int .i64 a0_4, .int .i64 a0_5] 31 (0, 0)) (by exact sB <| BK327.out) hb); have n1_ := am (blk_below (g := gb328) (o := .cells #[.int .i64 a0_0, .int .i64 a0_1, .int .i64 0, .int .i64 0, .int .i64 0, .int .i64 0] 31 (0, 0)) (by exact sB <| BK328.out) hb); have n2_ := am (below_step (by exact bW) hb); clear BK327; clear BK328; clear HB; have BK327 := n0_; have BK328 := n1_; have HB := n2_; clear n0_ n1_ n2_; (try clear hb); (try clear hb2); (try clear hk); (try clear hi); obtain ⟨hcz57_0, hcz57_1, hcz57_2, hcz57_3, hcz57_4, hcz57_5⟩ := cz6 BK327.out; obtain ⟨hfz57_0, hfz57_1, hfz57_2, hfz57_3, hfz57_4, hfz57_5⟩ := fz6 BK327.out; obtain ⟨hcz58_0, hcz58_1, hcz58_2, hcz58_3, hcz58_4, hcz58_5⟩ := cz6 BK328.out; obtain ⟨hfz58_0, hfz58_1, hfz58_2, hfz58_3, hfz58_4, hfz58_5⟩ := fz6 BK328.out))
         go_ret
         exact ⟨by rfl, by exact bW⟩
        ·rw [if_neg c53] at H
         have c53b0 : decide (2 < (t329.length : Int)) = false := decide_eq_false c53
         have c53b1 : decide (2 < t329.length) = false := decide_eq_false (by omega)
         clear c53
         obtain rfl := oI H
         have hnb59 := NB327_328.out
         have hnc59 := NB328_327.out
         obtain ⟨hcz60_0, hcz60_1, hcz60_2, hcz60_3, hcz60_4, hcz60_5⟩ := cz6 BK327.out
         obtain ⟨hfz60_0, hfz60_1, hfz60_2, hfz60_3, hfz60_4, hfz60_5⟩ := fz6 BK327.out
         go_wp2_with (first | ((with_reducible refine gate_callee (f := 53) rfl ?_); refine goesL_ (some 37) rfl rfl Try.func53 (by kernel_rfl) rfl #[.agg #[.int .i64 a0_0, .int .i64 a0_1, .int .i64 a0_2, .int .i64 a0_3, .int .i64 a0_4, .int .i64 a0_5]] rfl tm ?_; (with_reducible refine (impl_isQuant.calls _ _ _ _ _ _ _ _ A29.out).mono ?_); rintro e w61 ⟨rfl, hb⟩; refine ⟨_, rfl, ?_⟩; have n0_ := am (blk_below (g := gb327) (o := .cells #[.int .i64 a0_0, .int .i64 a0_1, .int .i64 a0_2, .int .i64 a0_3, .int .i64 a0_4, .int .i64 a0_5] 31 (0, 0)) (by exact sB <| BK327.out) hb); have n1_ := am (blk_below (g := gb328) (o := .cells #[.int .i64 a0_0, .int .i64 a0_1, .int .i64 0, .int .i64 0, .int .i64 0, .int .i64 0] 31 (0, 0)) (by exact sB <| BK328.out) hb); have n2_ := am (below_step (by exact bW) hb); clear BK327; clear BK328; clear HB; have BK327 := n0_; have BK328 := n1_; have HB := n2_; clear n0_ n1_ n2_; (try clear hb); (try clear hb2); (try clear hk); (try clear hi); obtain ⟨hcz62_0, hcz62_1, hcz62_2, hcz62_3, hcz62_4, hcz62_5⟩ := cz6 BK327.out; obtain ⟨hfz62_0, hfz62_1, hfz62_2, hfz62_3, hfz62_4, hfz62_5⟩ := fz6 BK327.out; obtain ⟨hcz63_0, hcz63_1, hcz63_2, hcz63_3, hcz63_4, hcz63_5⟩ := cz6 BK328.out; obtain ⟨hfz63_0, hfz63_1, hfz63_2, hfz63_3, hfz63_4, hfz63_5⟩ := fz6 BK328.out))
         go_ret
         exact ⟨by rfl, by exact bW⟩
      ·rw [if_neg c40] at H
       have c40b0 : decide (0 < (t329.length : Int)) = false := decide_eq_false c40
       have c40b1 : decide (0 < t329.length) = false := decide_eq_false (by omega)
       have c40p : ¬ 0 < t329.length := by omega
       clear c40
       obtain rfl := oI H
       have hnb64 := NB327_328.out
       have hnc64 := NB328_327.out
       obtain ⟨hcz65_0, hcz65_1, hcz65_2, hcz65_3, hcz65_4, hcz65_5⟩ := cz6 BK327.out
       obtain ⟨hfz65_0, hfz65_1, hfz65_2, hfz65_3, hfz65_4, hfz65_5⟩ := fz6 BK327.out
       go_wp2_with (first | ((with_reducible refine gate_callee (f := 53) rfl ?_); refine goesL_ (some 37) rfl rfl Try.func53 (by kernel_rfl) rfl #[.agg #[.int .i64 a0_0, .int .i64 a0_1, .int .i64 a0_2, .int .i64 a0_3, .int .i64 a0_4, .int .i64 a0_5]] rfl tm ?_; (with_reducible refine (impl_isQuant.calls _ _ _ _ _ _ _ _ A29.out).mono ?_); rintro e w66 ⟨rfl, hb⟩; refine ⟨_, rfl, ?_⟩; have n0_ := am (blk_below (g := gb327) (o := .cells #[.int .i64 a0_0, .int .i64 a0_1, .int .i64 a0_2, .int .i64 a0_3, .int .i64 a0_4, .int .i64 a0_5] 31 (0, 0)) (by exact sB <| BK327.out) hb); have n1_ := am (blk_below (g := gb328) (o := .cells #[.int .i64 a0_0, .int .i64 a0_1, .int .i64 0, .int .i64 0, .int .i64 0, .int .i64 0] 31 (0, 0)) (by exact sB <| BK328.out) hb); have n2_ := am (below_step (by exact bW) hb); clear BK327; clear BK328; clear HB; have BK327 := n0_; have BK328 := n1_; have HB := n2_; clear n0_ n1_ n2_; (try clear hb); (try clear hb2); (try clear hk); (try clear hi); obtain ⟨hcz67_0, hcz67_1, hcz67_2, hcz67_3, hcz67_4, hcz67_5⟩ := cz6 BK327.out; obtain ⟨hfz67_0, hfz67_1, hfz67_2, hfz67_3, hfz67_4, hfz67_5⟩ := fz6 BK327.out; obtain ⟨hcz68_0, hcz68_1, hcz68_2, hcz68_3, hcz68_4, hcz68_5⟩ := cz6 BK328.out; obtain ⟨hfz68_0, hfz68_1, hfz68_2, hfz68_3, hfz68_4, hfz68_5⟩ := fz6 BK328.out))
       go_ret
       exact ⟨by rfl, by exact bW⟩
end
/-! ### impl_isVar: function 110 -/
def impl_isVar.f (a0 : Int) : Option (Bool) := (impl_within.f a0 0 7).bind fun t333 => (some t333)
set_option maxHeartbeats 8000000 in
set_option maxRecDepth 100000 in
theorem impl_isVar.calls (a0 : Int) (r : Bool) (w : World) (h : impl_isVar.f a0 = some r) :
  Calls Try.prog 110 #[.int .i64 a0] w fun e w' => e = .returned (.bool r) ∧ Drawn0 w w' := by
 have H : ((impl_within.f a0 0 7).bind fun t333 => (some t333)) = some r := h
 clear h
 replace H := oA H; obtain ⟨t333, A2, H⟩ := H
 obtain rfl := oI H
 go_enter Try.func110, Try.ntmps110
 go_wp2_with (first | ((with_reducible refine gate_callee (f := 72) rfl ?_); refine goesL_ (some 4) rfl rfl Try.func72 (by kernel_rfl) rfl #[.int .i64 a0, .int .i64 0, .int .i64 7] rfl tm ?_; refine cD (impl_within.calls _ _ _ _ _ A2.out) fun nd => ?_; refine ⟨_, rfl, ?_⟩))
 go_ret
 exact ⟨by rfl, by repeat (first | exact Drawn0.refl _ | apply Drawn0.step)⟩
/-! ### impl_isRight: by hand -/
def inB (x a b : Int) : Bool := decide (a ≤ x ∧ x ≤ b)
theorem withinI (x a b : Int) : impl_within.f x a b = some (inB x a b) := by
 unfold impl_within.f inB
 by_cases h : x ≥ a
 ·rw [if_pos h]; simp [h]
 ·rw [if_neg h]; simp [h]
theorem widthI (x : Int) : impl_isWidth.f x = some (inB x 1 8) := by
 unfold impl_isWidth.f; rw [withinI]; rfl
theorem varI (x : Int) : impl_isVar.f x = some (inB x 0 7) := by
 unfold impl_isVar.f; rw [withinI]; rfl
open Go.Proofs.Ytkpipmojkhikaaa.Base in
theorem wordOkI (w a : Int) : impl_WordOk.f w a = some (wok w a) := by
 unfold impl_WordOk.f wok
 rw [widthI]; simp only [Option.bind_some]
 by_cases h : 1 ≤ w ∧ w ≤ 8
 ·have hp := P2_pos (by omega : 0 ≤ w) h.2
  rw [if_pos (by simp [inB, h]), if_pos (u64_nonneg w), u64_id (by omega) (by omega), shl_one (by omega) h.2, withinI, wrap_id (by omega) (by omega)]
  simp [inB, h]
 ·rw [if_neg (by simp [inB]; omega)]; simp; omega
/-- The places of a node's parts. -/
def partsL (op a b c : Int) : List Int := if op = 2 ∨ op = 17 ∨ op = 19 ∨ op = 20 then [a] else if 3 ≤ op ∧ op ≤ 16 then [a, b] else if op = 18 then [a, b, c] else []
theorem partsL_len (op a b c : Int) : (partsL op a b c).length ≤ 3 := by
 unfold partsL; split <;> (try split) <;> (try split) <;> simp
theorem partsI (op w q a b c : Int) {k : Nat} (hk : 1 ≤ k) : impl_Parts.f k op w q a b c = some (partsL op a b c) := by
 obtain ⟨k, rfl⟩ : ∃ m, k = m + 1 := ⟨k - 1, by omega⟩
 unfold impl_Parts.f partsL impl_isQuant.f
 simp only [impl_Parts.j0, withinI, inB]
 by_cases h2 : op = 2
 ·subst h2; simp
 ·by_cases h17 : op = 17
  ·subst h17; simp
  ·by_cases h19 : op = 19
   ·subst h19; simp
   ·by_cases h20 : op = 20
    ·subst h20; simp
    ·have hq : ¬ (op = 2 ∨ op = 17 ∨ op = 19 ∨ op = 20) := by omega
     rw [if_neg h2, if_neg h17, if_neg h19, if_neg hq]
     simp only [Option.bind_some, decide_eq_true_eq]
     rw [if_neg (by simpa using h20)]
     by_cases h3 : 3 ≤ op ∧ op ≤ 16
     ·rw [if_pos h3, if_pos h3]
     ·rw [if_neg h3, if_neg h3]
      by_cases h18 : op = 18
      ·rw [if_pos h18, if_pos h18]
      ·rw [if_neg h18, if_neg h18]
/-- What a node has no use for is 0. -/
def usesB (op K A B C : Int) : Bool :=
 if op = 0 ∨ op = 1 then A == 0 && B == 0 && C == 0 else if op = 17 then B == 0 && C == 0 else if op = 19 ∨ op = 20 then C == 0
 else if op = 2 then K == 0 && B == 0 && C == 0 else if 3 ≤ op ∧ op ≤ 16 then K == 0 && C == 0 else if op = 18 then K == 0 else K == 0 && A == 0 && B == 0 && C == 0
theorem usesI (op W K A B C : Int) {k : Nat} (hk : 3 ≤ k) : impl_usesOnly.f k op W K A B C = some (usesB op K A B C) := by
 obtain ⟨k, rfl⟩ : ∃ m, k = m + 1 := ⟨k - 1, by omega⟩
 unfold impl_usesOnly.f usesB
 rw [partsI op W K A B C (by omega)]
 simp only [Option.bind_some, impl_usesOnly.j0]
 unfold impl_isQuant.f partsL
 by_cases h0 : op = 0
 ·subst h0; simp [Bool.and_assoc]
 by_cases h1 : op = 1
 ·subst h1; simp [Bool.and_assoc]
 by_cases h17 : op = 17
 ·subst h17; simp
 by_cases h19 : op = 19
 ·subst h19; simp
 by_cases h20 : op = 20
 ·subst h20; simp
 by_cases h2 : op = 2
 ·subst h2; simp [Bool.and_assoc]
 by_cases h3 : 3 ≤ op ∧ op ≤ 16
 ·have e : ¬ (op = 2 ∨ op = 17 ∨ op = 19 ∨ op = 20) := by omega
  simp [h0, h1, h17, h19, h20, h2, h3]
 by_cases h18 : op = 18
 ·subst h18; simp
 ·simp [h0, h1, h17, h19, h20, h2, h3, h18, Bool.and_assoc]
theorem blk6 {w : World} {g T : Nat} {a b c d e f : Int} (h : w.heap[g]? = some (.cells #[.int .i64 a, .int .i64 b, .int .i64 c, .int .i64 d, .int .i64 e, .int .i64 f] T (0, 0))) :
  w.cell? ⟨g, 0, none⟩ = some (.int .i64 a) ∧ w.cell? ⟨g, 1, none⟩ = some (.int .i64 b) ∧ w.cell? ⟨g, 2, none⟩ = some (.int .i64 c) ∧ w.cell? ⟨g, 3, none⟩ = some (.int .i64 d) ∧ w.cell? ⟨g, 4, none⟩ = some (.int .i64 e) ∧ w.cell? ⟨g, 5, none⟩ = some (.int .i64 f) :=
 ⟨(blk_cell h 0).trans rfl, (blk_cell h 1).trans rfl, (blk_cell h 2).trans rfl, (blk_cell h 3).trans rfl, (blk_cell h 4).trans rfl, (blk_cell h 5).trans rfl⟩
theorem blk_new {w w1 : World} {o : Obj} {n : Nat} (hb : Below ((w.alloc o).drewN n).heap.size ((w.alloc o).drewN n) w1) : w1.heap[w.heap.size]? = some o :=
 (hb.block _ (by simp)).trans (heap_alloc_new w o)
theorem blk_new0 {w w1 : World} {o : Obj} (hb : Below (w.alloc o).heap.size (w.alloc o) w1) : w1.heap[w.heap.size]? = some o :=
 (hb.block _ (by simp)).trans (heap_alloc_new w o)
theorem blk_past0 {w w1 : World} {o o' : Obj} {g : Nat} (h : w.heap[g]? = some o) (hb : Below (w.alloc o').heap.size (w.alloc o') w1) : w1.heap[g]? = some o :=
 (hb.block _ (by have := (Array.getElem?_eq_some_iff.1 h).1; simp; omega)).trans ((Below.heap_alloc w o' g (Array.getElem?_eq_some_iff.1 h).1).trans h)
theorem blk3 {w : World} {g T : Nat} {a b c : Int} (h : w.heap[g]? = some (.cells #[.int .i64 a, .int .i64 b, .int .i64 c] T (0, 0))) :
  w.cell? ⟨g, 0, none⟩ = some (.int .i64 a) ∧ w.cell? ⟨g, 1, none⟩ = some (.int .i64 b) ∧ w.cell? ⟨g, 2, none⟩ = some (.int .i64 c) :=
 ⟨(blk_cell h 0).trans rfl, (blk_cell h 1).trans rfl, (blk_cell h 2).trans rfl⟩
/-- Cell t of the array of widths when j parts are looked at. -/
def wv (l : List (S31)) (ps : List Int) (j t : Nat) : Int := if t < j then (rd_T31 l (rd ps (t : Int))).f1 else 0
/-- What a node's Op asks of the widths of its parts. -/
def rightSw (op W K B : Int) (u v x : Int) : Bool :=
 if op = 0 then Go.Proofs.Ytkpipmojkhikaaa.Base.wok W K else if op = 1 then inB K 0 7 else if op = 2 then u == W
 else if 3 ≤ op ∧ op ≤ 12 then u == W && v == W else if 13 ≤ op ∧ op ≤ 15 then u == v && W == 1
 else if op = 16 then wrap64 (u + v) == W else if op = 17 then inB K 0 (wrap64 (u - W))
 else if op = 18 then u == 1 && v == W && x == W else inB K 0 7 && inB B 1 8 && u == 1 && W == 1
def rightB (l : List (S31)) (op W K A B C : Int) : Bool :=
 inB W 1 8 && inB op 0 20 && usesB op K A B C && (partsL op A B C).all (fun p => inB p 0 ((l.length : Int) - 1)) &&
  rightSw op W K B (wv l (partsL op A B C) (partsL op A B C).length 0) (wv l (partsL op A B C) (partsL op A B C).length 1) (wv l (partsL op A B C) (partsL op A B C).length 2)
def impl_isRight.f (l0 : List (S31)) (a1_0 : Int) (a1_1 : Int) (a1_2 : Int) (a1_3 : Int) (a1_4 : Int) (a1_5 : Int) : Option Bool := some (rightB l0 a1_0 a1_1 a1_2 a1_3 a1_4 a1_5)
set_option maxHeartbeats 2000000 in
set_option maxRecDepth 100000 in
theorem isRight_no1 (A0 : Option Addr) (c0 : Nat) (l0 : List (S31)) (a1_0 : Int) (a1_1 : Int) (a1_2 : Int) (a1_3 : Int) (a1_4 : Int) (a1_5 : Int) (w : World) (hr0 : Kd.C k31 w A0 l0.length l0) (hc0 : l0.length ≤ c0) (b1 : inB a1_1 1 8 = false) :
  Calls Try.prog 73 #[.slice A0 l0.length c0, .agg #[.int .i64 a1_0, .int .i64 a1_1, .int .i64 a1_2, .int .i64 a1_3, .int .i64 a1_4, .int .i64 a1_5]] w fun e w' => e = .returned (.bool (false)) ∧ Below w.heap.size w w' := by
 go_enter Try.func73, Try.ntmps73
 go_wp2_with (first | (go_at_call 83; (with_reducible refine (impl_isWidth.calls _ _ _ (widthI _)).mono ?_); rintro e w' ⟨rfl, ⟨nd, rfl⟩⟩) | (go_at_call 72; (with_reducible refine (impl_within.calls _ _ _ _ _ (withinI _ _ _)).mono ?_); rintro e w' ⟨rfl, ⟨nd, rfl⟩⟩) | (go_at_call 110; (with_reducible refine (impl_isVar.calls _ _ _ (varI _)).mono ?_); rintro e w' ⟨rfl, ⟨nd, rfl⟩⟩) | (go_at_call 54; (with_reducible refine (impl_WordOk.calls _ _ _ _ (wordOkI _ _)).mono ?_); rintro e w' ⟨rfl, ⟨nd, rfl⟩⟩))
 go_ret
 exact ⟨rfl, pw_below_drewN (below_alloc (Below.refl _ _) _) _⟩
set_option maxHeartbeats 2000000 in
set_option maxRecDepth 100000 in
theorem isRight_no2 (A0 : Option Addr) (c0 : Nat) (l0 : List (S31)) (a1_0 : Int) (a1_1 : Int) (a1_2 : Int) (a1_3 : Int) (a1_4 : Int) (a1_5 : Int) (w : World) (hr0 : Kd.C k31 w A0 l0.length l0) (hc0 : l0.length ≤ c0) (b1 : inB a1_1 1 8 = true) (b2 : inB a1_0 0 20 = false) :
  Calls Try.prog 73 #[.slice A0 l0.length c0, .agg #[.int .i64 a1_0, .int .i64 a1_1, .int .i64 a1_2, .int .i64 a1_3, .int .i64 a1_4, .int .i64 a1_5]] w fun e w' => e = .returned (.bool (false)) ∧ Below w.heap.size w w' := by
 go_enter Try.func73, Try.ntmps73
 go_wp2_with (first | (go_at_call 83; (with_reducible refine (impl_isWidth.calls _ _ _ (widthI _)).mono ?_); rintro e w' ⟨rfl, ⟨nd, rfl⟩⟩) | (go_at_call 72; (with_reducible refine (impl_within.calls _ _ _ _ _ (withinI _ _ _)).mono ?_); rintro e w' ⟨rfl, ⟨nd, rfl⟩⟩) | (go_at_call 110; (with_reducible refine (impl_isVar.calls _ _ _ (varI _)).mono ?_); rintro e w' ⟨rfl, ⟨nd, rfl⟩⟩) | (go_at_call 54; (with_reducible refine (impl_WordOk.calls _ _ _ _ (wordOkI _ _)).mono ?_); rintro e w' ⟨rfl, ⟨nd, rfl⟩⟩))
 go_ret
 exact ⟨rfl, pw_below_drewN (below_alloc (Below.refl _ _) _) _⟩
set_option maxHeartbeats 2000000 in
set_option maxRecDepth 100000 in
theorem isRight_no3 (A0 : Option Addr) (c0 : Nat) (l0 : List (S31)) (a1_0 : Int) (a1_1 : Int) (a1_2 : Int) (a1_3 : Int) (a1_4 : Int) (a1_5 : Int) (w : World) (hr0 : Kd.C k31 w A0 l0.length l0) (hc0 : l0.length ≤ c0) (b1 : inB a1_1 1 8 = true) (b2 : inB a1_0 0 20 = true) (b3 : usesB a1_0 a1_2 a1_3 a1_4 a1_5 = false) :
  Calls Try.prog 73 #[.slice A0 l0.length c0, .agg #[.int .i64 a1_0, .int .i64 a1_1, .int .i64 a1_2, .int .i64 a1_3, .int .i64 a1_4, .int .i64 a1_5]] w fun e w' => e = .returned (.bool (false)) ∧ Below w.heap.size w w' := by
 go_enter Try.func73, Try.ntmps73
 go_wp2_with (first | (go_at_call 83; (with_reducible refine (impl_isWidth.calls _ _ _ (widthI _)).mono ?_); rintro e w' ⟨rfl, ⟨nd, rfl⟩⟩) | (go_at_call 72; (with_reducible refine (impl_within.calls _ _ _ _ _ (withinI _ _ _)).mono ?_); rintro e w' ⟨rfl, ⟨nd, rfl⟩⟩) | (go_at_call 110; (with_reducible refine (impl_isVar.calls _ _ _ (varI _)).mono ?_); rintro e w' ⟨rfl, ⟨nd, rfl⟩⟩) | (go_at_call 54; (with_reducible refine (impl_WordOk.calls _ _ _ _ (wordOkI _ _)).mono ?_); rintro e w' ⟨rfl, ⟨nd, rfl⟩⟩) | (go_at_call 109; (with_reducible refine (impl_usesOnly.calls 3 _ _ _ _ _ _ _ _ (usesI _ _ _ _ _ _ (by omega))).mono ?_); rintro e w1 ⟨rfl, hb⟩; have BK := am (blk_new hb); have HB := am (show Below w.heap.size w w1 from (pw_below_drewN (below_alloc (Below.refl _ _) _) _).trans (hb.mono (by simp))); have hlt := (Array.getElem?_eq_some_iff.1 BK.out).1; clear hb; obtain ⟨q0, q1, q2, q3, q4, q5⟩ := blk6 BK.out))
 go_ret
 exact ⟨rfl, HB.out⟩
set_option maxHeartbeats 2000000 in
set_option maxRecDepth 100000 in
theorem isRight_go (A0 : Option Addr) (c0 : Nat) (l0 : List (S31)) (a1_0 : Int) (a1_1 : Int) (a1_2 : Int) (a1_3 : Int) (a1_4 : Int) (a1_5 : Int) (w : World) (hr0 : Kd.C k31 w A0 l0.length l0) (hc0 : l0.length ≤ c0) (b1 : inB a1_1 1 8 = true) (b2 : inB a1_0 0 20 = true) (b3 : usesB a1_0 a1_2 a1_3 a1_4 a1_5 = true) (r : Bool)
  (hno : ¬ (∀ t : Nat, t < (partsL a1_0 a1_3 a1_4 a1_5).length → inB (rd (partsL a1_0 a1_3 a1_4 a1_5) (t : Int)) 0 ((l0.length : Int) - 1) = true) → r = false)
  (hyes : (∀ t : Nat, t < (partsL a1_0 a1_3 a1_4 a1_5).length → inB (rd (partsL a1_0 a1_3 a1_4 a1_5) (t : Int)) 0 ((l0.length : Int) - 1) = true) → r = rightSw a1_0 a1_1 a1_2 a1_4 (wv l0 (partsL a1_0 a1_3 a1_4 a1_5) (partsL a1_0 a1_3 a1_4 a1_5).length 0) (wv l0 (partsL a1_0 a1_3 a1_4 a1_5) (partsL a1_0 a1_3 a1_4 a1_5).length 1) (wv l0 (partsL a1_0 a1_3 a1_4 a1_5) (partsL a1_0 a1_3 a1_4 a1_5).length 2)) :
  Calls Try.prog 73 #[.slice A0 l0.length c0, .agg #[.int .i64 a1_0, .int .i64 a1_1, .int .i64 a1_2, .int .i64 a1_3, .int .i64 a1_4, .int .i64 a1_5]] w fun e w' => e = .returned (.bool (r)) ∧ Below w.heap.size w w' := by
 have HR0 := am hr0
 have HC0 := am hc0
 clear hr0 hc0
 have hl0 : (l0.length : Int) ≤ 9223372036854775807 := by have := HR0.out.2.1; omega
 have HNO := am hno
 have HYES := am hyes
 clear hno hyes
 go_enter Try.func73, Try.ntmps73
 go_wp2_with (first | (go_at_call 83; (with_reducible refine (impl_isWidth.calls _ _ _ (widthI _)).mono ?_); rintro e w' ⟨rfl, ⟨nd, rfl⟩⟩) | (go_at_call 72; (with_reducible refine (impl_within.calls _ _ _ _ _ (withinI _ _ _)).mono ?_); rintro e w' ⟨rfl, ⟨nd, rfl⟩⟩) | (go_at_call 110; (with_reducible refine (impl_isVar.calls _ _ _ (varI _)).mono ?_); rintro e w' ⟨rfl, ⟨nd, rfl⟩⟩) | (go_at_call 54; (with_reducible refine (impl_WordOk.calls _ _ _ _ (wordOkI _ _)).mono ?_); rintro e w' ⟨rfl, ⟨nd, rfl⟩⟩) | (go_at_call 109; (with_reducible refine (impl_usesOnly.calls 3 _ _ _ _ _ _ _ _ (usesI _ _ _ _ _ _ (by omega))).mono ?_); rintro e w1 ⟨rfl, hb⟩; have BK := am (blk_new hb); have HB := am (show Below w.heap.size w w1 from (pw_below_drewN (below_alloc (Below.refl _ _) _) _).trans (hb.mono (by simp))); have hlt := (Array.getElem?_eq_some_iff.1 BK.out).1; clear hb; obtain ⟨q0, q1, q2, q3, q4, q5⟩ := blk6 BK.out))
 refine (impl_Parts.calls 1 _ _ _ _ _ _ _ _ (partsI _ _ _ _ _ _ (by omega))).mono ?_
 rintro e w2 ⟨v0, rfl, HO, hb⟩
 have BK2 := am (blk_past0 BK.out hb)
 have AR := am (blk_new0 hb)
 have HB2 := am ((HB.out.alloc HB.out.size _).trans (hb.mono (by have := HB.out.size; simp; omega)))
 have hw1 := am HB.out.size
 clear q0 q1 q2 q3 q4 q5 hb HB BK
 obtain ⟨A5, c5, rfl, _, _⟩ := Kd.R_reads HO
 have HO2 := am (show Kd.R (Kd.int .i64) 3 w2 (w1.heap.size + 1) (fun k => w1.heap.size + 1 ≤ k) (.slice A5 (partsL a1_0 a1_3 a1_4 a1_5).length c5) (partsL a1_0 a1_3 a1_4 a1_5) from
  Kd.R_mono (Kd.R_bound (Kd.R_lower HO (by simp))) (fun k hk => hk.2.1))
 clear HO
 have hps3 := partsL_len a1_0 a1_3 a1_4 a1_5
 obtain ⟨ps, hps⟩ : ∃ ps, partsL a1_0 a1_3 a1_4 a1_5 = ps := ⟨_, rfl⟩
 rw [hps] at HNO HYES HO2 hps3 ⊢
 clear hps
 have HP3 := am hps3
 clear hps3
 go_wp2
 go_loopg [27] ps.length (fun g v27 w' => ∃ j : Nat, v27 = .int .i64 (j : Int) ∧ Aside0 (g + j = ps.length) ∧ Aside0 (∀ t : Nat, t < j → inB (rd ps (t : Int)) 0 ((l0.length : Int) - 1) = true) ∧
  Aside0 (w'.heap[w1.heap.size]? = some (.cells #[.int .i64 (wv l0 ps j 0), .int .i64 (wv l0 ps j 1), .int .i64 (wv l0 ps j 2)] 101 (0, 0))) ∧
  Aside0 (w'.heap[w.heap.size]? = some (.cells #[.int .i64 a1_0, .int .i64 a1_1, .int .i64 a1_2, .int .i64 a1_3, .int .i64 a1_4, .int .i64 a1_5] 31 (0, 0))) ∧
  Aside0 (Kd.R (Kd.int .i64) 3 w' (w1.heap.size + 1) (fun k => w1.heap.size + 1 ≤ k) (.slice A5 ps.length c5) ps) ∧ Aside0 (Below w.heap.size w w'))
 case atStart => exact ⟨0, rfl, ⟨rfl⟩, ⟨fun t ht => absurd ht (by omega)⟩, AR, BK2, HO2, HB2⟩
 case round =>
  clear AR BK2 HO2 HB2
  obtain ⟨j, rfl, HG, HA, AR, BK, HO, HB⟩ := hrel
  by_cases hj : j < ps.length
  ·have hj3 : j < 3 := by have := HP3.out; omega
   have p1 : (0 : Int) ≤ (j : Int) := by omega
   have p2 : (j : Int) < (ps.length : Int) := by omega
   have t1 : decide ((j : Int) < (ps.length : Int)) = true := decide_eq_true p2
   obtain ⟨A6, c6, e6, _, hr6⟩ := Kd.R_reads HO.out
   cases e6
   obtain ⟨ad5, e5, hx5⟩ := Kd.at_int hr6 (j : Int) p1 p2
   cases e5
   rw [Int.toNat_natCast] at hx5
   clear hr6
   by_cases hin : inB (rd ps (j : Int)) 0 ((l0.length : Int) - 1) = true
   ·have hi2 : 0 ≤ rd ps (j : Int) ∧ rd ps (j : Int) ≤ (l0.length : Int) - 1 := by simpa [inB] using hin
    have p3 : 0 ≤ rd ps (j : Int) := hi2.1
    have p4 : rd ps (j : Int) < (l0.length : Int) := by omega
    clear hi2
    obtain ⟨ad0, e0, y0, y1, y2, y3, y4, y5⟩ := at_T31 HR0.out (rd ps (j : Int)) p3 p4
    cases e0
    replace y1 := pw_cell_below HB.out y1
    clear y0 y2 y3 y4 y5
    have fz : wr.frozen? ⟨w1.heap.size, j, none⟩ = false := by have h := AR.out; simp [World.frozen?, h]
    have old : ∃ v, wr.cell? ⟨w1.heap.size, j, none⟩ = some v := by
     have h := blk_cell AR.out j
     have : j = 0 ∨ j = 1 ∨ j = 2 := by omega
     rcases this with rfl | rfl | rfl <;> exact ⟨_, h.trans rfl⟩
    obtain ⟨ov, old⟩ := old
    go_wp2_with (first | (go_at_call 83; (with_reducible refine (impl_isWidth.calls _ _ _ (widthI _)).mono ?_); rintro e w' ⟨rfl, ⟨nd, rfl⟩⟩) | (go_at_call 72; (with_reducible refine (impl_within.calls _ _ _ _ _ (withinI _ _ _)).mono ?_); rintro e w' ⟨rfl, ⟨nd, rfl⟩⟩) | (go_at_call 110; (with_reducible refine (impl_isVar.calls _ _ _ (varI _)).mono ?_); rintro e w' ⟨rfl, ⟨nd, rfl⟩⟩) | (go_at_call 54; (with_reducible refine (impl_WordOk.calls _ _ _ _ (wordOkI _ _)).mono ?_); rintro e w' ⟨rfl, ⟨nd, rfl⟩⟩))
    obtain ⟨g1, rfl⟩ : ∃ g1, gk = g1 + 1 := ⟨gk - 1, by have := HG.out; omega⟩
    go_roundg g1
    case measure => omega
    case rel =>
     refine ⟨j + 1, by go_num, ⟨by have := HG.out; omega⟩, ⟨fun t ht => ?_⟩, ⟨?_⟩, ⟨?_⟩, ⟨?_⟩, ⟨?_⟩⟩
     ·rcases Nat.lt_or_ge t j with h | h
      ·exact HA.out t h
      ·obtain rfl : t = j := by omega
       exact hin
     ·have h := blk_set (show (wr.drewN nd).heap[w1.heap.size]? = some (.cells _ _ (0, 0)) from AR.out) j (.int .i64 (rd_T31 l0 (rd ps (j : Int))).f1)
      refine h.trans ?_
      have : j = 0 ∨ j = 1 ∨ j = 2 := by omega
      rcases this with rfl | rfl | rfl <;> simp [wv]
     ·exact blk_far (show (wr.drewN nd).heap[w.heap.size]? = some (.cells _ _ (0, 0)) from BK.out) (by simp; omega) _
     ·exact Kd.R_far (Kd.R_drewN HO.out _) (fun k hk => by simp; omega) _
     ·exact below_set (pw_below_drewN HB.out _) hw1.out
   ·have hin' : inB (rd ps (j : Int)) 0 ((l0.length : Int) - 1) = false := by simpa using hin
    go_wp2_with (first | (go_at_call 83; (with_reducible refine (impl_isWidth.calls _ _ _ (widthI _)).mono ?_); rintro e w' ⟨rfl, ⟨nd, rfl⟩⟩) | (go_at_call 72; (with_reducible refine (impl_within.calls _ _ _ _ _ (withinI _ _ _)).mono ?_); rintro e w' ⟨rfl, ⟨nd, rfl⟩⟩) | (go_at_call 110; (with_reducible refine (impl_isVar.calls _ _ _ (varI _)).mono ?_); rintro e w' ⟨rfl, ⟨nd, rfl⟩⟩) | (go_at_call 54; (with_reducible refine (impl_WordOk.calls _ _ _ _ (wordOkI _ _)).mono ?_); rintro e w' ⟨rfl, ⟨nd, rfl⟩⟩))
    go_ret
    exact ⟨by rw [HNO.out (fun h => hin (h j hj))] <;> rfl, pw_below_drewN HB.out _⟩
  ·have t1 : decide ((j : Int) < (ps.length : Int)) = false := decide_eq_false (by omega)
   obtain rfl : j = ps.length := by have := HG.out; omega
   obtain ⟨q0, q1, q2, q3, q4, q5⟩ := blk6 BK.out
   obtain ⟨z0, z1, z2⟩ := blk3 AR.out
   have HR := am (HYES.out HA.out)
   clear HYES HNO HA hj
   generalize wv l0 ps ps.length 0 = u at *
   generalize wv l0 ps ps.length 1 = v at *
   generalize wv l0 ps ps.length 2 = x at *
   have hop : (a1_0 = 0) ∨ (a1_0 = 1) ∨ (a1_0 = 2) ∨ (3 ≤ a1_0 ∧ a1_0 ≤ 12) ∨ (13 ≤ a1_0 ∧ a1_0 ≤ 15) ∨ (a1_0 = 16) ∨ (a1_0 = 17) ∨ (a1_0 = 18) ∨ (a1_0 = 19 ∨ a1_0 = 20) := by
    have h : 0 ≤ a1_0 ∧ a1_0 ≤ 20 := by simpa [inB] using b2
    omega
   clear b1 b2 b3
   have tc := fun (b : Bool) => (Bool.eq_false_or_eq_true b).symm
   rcases hop with h | h | h | h | h | h | h | h | h
   ·have E : rightSw a1_0 a1_1 a1_2 a1_4 u v x = Go.Proofs.Ytkpipmojkhikaaa.Base.wok a1_1 a1_2 := by unfold rightSw; rw [if_pos h]
    have k0 : (a1_0 == 0) = true := by simp [h]
    (go_wp2_with (first | (go_at_call 83; (with_reducible refine (impl_isWidth.calls _ _ _ (widthI _)).mono ?_); rintro e w' ⟨rfl, ⟨nd, rfl⟩⟩) | (go_at_call 72; (with_reducible refine (impl_within.calls _ _ _ _ _ (withinI _ _ _)).mono ?_); rintro e w' ⟨rfl, ⟨nd, rfl⟩⟩) | (go_at_call 110; (with_reducible refine (impl_isVar.calls _ _ _ (varI _)).mono ?_); rintro e w' ⟨rfl, ⟨nd, rfl⟩⟩) | (go_at_call 54; (with_reducible refine (impl_WordOk.calls _ _ _ _ (wordOkI _ _)).mono ?_); rintro e w' ⟨rfl, ⟨nd, rfl⟩⟩)); go_ret; exact ⟨by rw [HR.out, E]; (rfl), by exact pw_below_drewN HB.out _⟩)
   ·have E : rightSw a1_0 a1_1 a1_2 a1_4 u v x = inB a1_2 0 7 := by unfold rightSw; rw [if_neg (by omega), if_pos h]
    have k0 : (a1_0 == 0) = false := by simp [inB]; omega
    have k1 : (a1_0 == 1) = true := by simp [h]
    (go_wp2_with (first | (go_at_call 83; (with_reducible refine (impl_isWidth.calls _ _ _ (widthI _)).mono ?_); rintro e w' ⟨rfl, ⟨nd, rfl⟩⟩) | (go_at_call 72; (with_reducible refine (impl_within.calls _ _ _ _ _ (withinI _ _ _)).mono ?_); rintro e w' ⟨rfl, ⟨nd, rfl⟩⟩) | (go_at_call 110; (with_reducible refine (impl_isVar.calls _ _ _ (varI _)).mono ?_); rintro e w' ⟨rfl, ⟨nd, rfl⟩⟩) | (go_at_call 54; (with_reducible refine (impl_WordOk.calls _ _ _ _ (wordOkI _ _)).mono ?_); rintro e w' ⟨rfl, ⟨nd, rfl⟩⟩)); go_ret; exact ⟨by rw [HR.out, E]; (rfl), by exact pw_below_drewN HB.out _⟩)
   ·have E : rightSw a1_0 a1_1 a1_2 a1_4 u v x = (u == a1_1) := by unfold rightSw; rw [if_neg (by omega), if_neg (by omega), if_pos h]
    have k0 : (a1_0 == 0) = false := by simp [inB]; omega
    have k1 : (a1_0 == 1) = false := by simp [inB]; omega
    have k2 : (a1_0 == 2) = true := by simp [h]
    (go_wp2_with (first | (go_at_call 83; (with_reducible refine (impl_isWidth.calls _ _ _ (widthI _)).mono ?_); rintro e w' ⟨rfl, ⟨nd, rfl⟩⟩) | (go_at_call 72; (with_reducible refine (impl_within.calls _ _ _ _ _ (withinI _ _ _)).mono ?_); rintro e w' ⟨rfl, ⟨nd, rfl⟩⟩) | (go_at_call 110; (with_reducible refine (impl_isVar.calls _ _ _ (varI _)).mono ?_); rintro e w' ⟨rfl, ⟨nd, rfl⟩⟩) | (go_at_call 54; (with_reducible refine (impl_WordOk.calls _ _ _ _ (wordOkI _ _)).mono ?_); rintro e w' ⟨rfl, ⟨nd, rfl⟩⟩)); go_ret; exact ⟨by rw [HR.out, E]; (rfl), by exact HB.out⟩)
   ·have E : rightSw a1_0 a1_1 a1_2 a1_4 u v x = ((u == a1_1) && (v == a1_1)) := by unfold rightSw; rw [if_neg (by omega), if_neg (by omega), if_neg (by omega), if_pos h]
    have k0 : (a1_0 == 0) = false := by simp [inB]; omega
    have k1 : (a1_0 == 1) = false := by simp [inB]; omega
    have k2 : (a1_0 == 2) = false := by simp [inB]; omega
    have k3 : (inB a1_0 3 12) = true := by simp [inB]; omega
    rcases tc (u == a1_1) with g1 | g1
    ·(go_wp2_with (first | (go_at_call 83; (with_reducible refine (impl_isWidth.calls _ _ _ (widthI _)).mono ?_); rintro e w' ⟨rfl, ⟨nd, rfl⟩⟩) | (go_at_call 72; (with_reducible refine (impl_within.calls _ _ _ _ _ (withinI _ _ _)).mono ?_); rintro e w' ⟨rfl, ⟨nd, rfl⟩⟩) | (go_at_call 110; (with_reducible refine (impl_isVar.calls _ _ _ (varI _)).mono ?_); rintro e w' ⟨rfl, ⟨nd, rfl⟩⟩) | (go_at_call 54; (with_reducible refine (impl_WordOk.calls _ _ _ _ (wordOkI _ _)).mono ?_); rintro e w' ⟨rfl, ⟨nd, rfl⟩⟩)); go_ret; exact ⟨by rw [HR.out, E]; ((simp only [g1, Bool.true_and, Bool.false_and, Bool.and_true, Bool.and_false]; rfl)), by exact pw_below_drewN HB.out _⟩)
    ·(go_wp2_with (first | (go_at_call 83; (with_reducible refine (impl_isWidth.calls _ _ _ (widthI _)).mono ?_); rintro e w' ⟨rfl, ⟨nd, rfl⟩⟩) | (go_at_call 72; (with_reducible refine (impl_within.calls _ _ _ _ _ (withinI _ _ _)).mono ?_); rintro e w' ⟨rfl, ⟨nd, rfl⟩⟩) | (go_at_call 110; (with_reducible refine (impl_isVar.calls _ _ _ (varI _)).mono ?_); rintro e w' ⟨rfl, ⟨nd, rfl⟩⟩) | (go_at_call 54; (with_reducible refine (impl_WordOk.calls _ _ _ _ (wordOkI _ _)).mono ?_); rintro e w' ⟨rfl, ⟨nd, rfl⟩⟩)); go_ret; exact ⟨by rw [HR.out, E]; ((simp only [g1, Bool.true_and, Bool.false_and, Bool.and_true, Bool.and_false]; rfl)), by exact pw_below_drewN HB.out _⟩)
   ·have E : rightSw a1_0 a1_1 a1_2 a1_4 u v x = ((u == v) && (a1_1 == 1)) := by unfold rightSw; rw [if_neg (by omega), if_neg (by omega), if_neg (by omega), if_neg (by omega), if_pos h]
    have k0 : (a1_0 == 0) = false := by simp [inB]; omega
    have k1 : (a1_0 == 1) = false := by simp [inB]; omega
    have k2 : (a1_0 == 2) = false := by simp [inB]; omega
    have k3 : (inB a1_0 3 12) = false := by simp [inB]; omega
    have k4 : (inB a1_0 13 15) = true := by simp [inB]; omega
    rcases tc (u == v) with g1 | g1
    ·(go_wp2_with (first | (go_at_call 83; (with_reducible refine (impl_isWidth.calls _ _ _ (widthI _)).mono ?_); rintro e w' ⟨rfl, ⟨nd, rfl⟩⟩) | (go_at_call 72; (with_reducible refine (impl_within.calls _ _ _ _ _ (withinI _ _ _)).mono ?_); rintro e w' ⟨rfl, ⟨nd, rfl⟩⟩) | (go_at_call 110; (with_reducible refine (impl_isVar.calls _ _ _ (varI _)).mono ?_); rintro e w' ⟨rfl, ⟨nd, rfl⟩⟩) | (go_at_call 54; (with_reducible refine (impl_WordOk.calls _ _ _ _ (wordOkI _ _)).mono ?_); rintro e w' ⟨rfl, ⟨nd, rfl⟩⟩)); go_ret; exact ⟨by rw [HR.out, E]; ((simp only [g1, Bool.true_and, Bool.false_and, Bool.and_true, Bool.and_false]; rfl)), by exact pw_below_drewN HB.out _⟩)
    ·(go_wp2_with (first | (go_at_call 83; (with_reducible refine (impl_isWidth.calls _ _ _ (widthI _)).mono ?_); rintro e w' ⟨rfl, ⟨nd, rfl⟩⟩) | (go_at_call 72; (with_reducible refine (impl_within.calls _ _ _ _ _ (withinI _ _ _)).mono ?_); rintro e w' ⟨rfl, ⟨nd, rfl⟩⟩) | (go_at_call 110; (with_reducible refine (impl_isVar.calls _ _ _ (varI _)).mono ?_); rintro e w' ⟨rfl, ⟨nd, rfl⟩⟩) | (go_at_call 54; (with_reducible refine (impl_WordOk.calls _ _ _ _ (wordOkI _ _)).mono ?_); rintro e w' ⟨rfl, ⟨nd, rfl⟩⟩)); go_ret; exact ⟨by rw [HR.out, E]; ((simp only [g1, Bool.true_and, Bool.false_and, Bool.and_true, Bool.and_false]; rfl)), by exact pw_below_drewN HB.out _⟩)
   ·have E : rightSw a1_0 a1_1 a1_2 a1_4 u v x = (wrap64 (u + v) == a1_1) := by unfold rightSw; rw [if_neg (by omega), if_neg (by omega), if_neg (by omega), if_neg (by omega), if_neg (by omega), if_pos h]
    have k0 : (a1_0 == 0) = false := by simp [inB]; omega
    have k1 : (a1_0 == 1) = false := by simp [inB]; omega
    have k2 : (a1_0 == 2) = false := by simp [inB]; omega
    have k3 : (inB a1_0 3 12) = false := by simp [inB]; omega
    have k4 : (inB a1_0 13 15) = false := by simp [inB]; omega
    have k5 : (a1_0 == 16) = true := by simp [h]
    (go_wp2_with (first | (go_at_call 83; (with_reducible refine (impl_isWidth.calls _ _ _ (widthI _)).mono ?_); rintro e w' ⟨rfl, ⟨nd, rfl⟩⟩) | (go_at_call 72; (with_reducible refine (impl_within.calls _ _ _ _ _ (withinI _ _ _)).mono ?_); rintro e w' ⟨rfl, ⟨nd, rfl⟩⟩) | (go_at_call 110; (with_reducible refine (impl_isVar.calls _ _ _ (varI _)).mono ?_); rintro e w' ⟨rfl, ⟨nd, rfl⟩⟩) | (go_at_call 54; (with_reducible refine (impl_WordOk.calls _ _ _ _ (wordOkI _ _)).mono ?_); rintro e w' ⟨rfl, ⟨nd, rfl⟩⟩)); go_ret; exact ⟨by rw [HR.out, E]; (rfl), by exact pw_below_drewN HB.out _⟩)
   ·have E : rightSw a1_0 a1_1 a1_2 a1_4 u v x = inB a1_2 0 (wrap64 (u - a1_1)) := by unfold rightSw; rw [if_neg (by omega), if_neg (by omega), if_neg (by omega), if_neg (by omega), if_neg (by omega), if_neg (by omega), if_pos h]
    have k0 : (a1_0 == 0) = false := by simp [inB]; omega
    have k1 : (a1_0 == 1) = false := by simp [inB]; omega
    have k2 : (a1_0 == 2) = false := by simp [inB]; omega
    have k3 : (inB a1_0 3 12) = false := by simp [inB]; omega
    have k4 : (inB a1_0 13 15) = false := by simp [inB]; omega
    have k5 : (a1_0 == 16) = false := by simp [inB]; omega
    have k6 : (a1_0 == 17) = true := by simp [h]
    (go_wp2_with (first | (go_at_call 83; (with_reducible refine (impl_isWidth.calls _ _ _ (widthI _)).mono ?_); rintro e w' ⟨rfl, ⟨nd, rfl⟩⟩) | (go_at_call 72; (with_reducible refine (impl_within.calls _ _ _ _ _ (withinI _ _ _)).mono ?_); rintro e w' ⟨rfl, ⟨nd, rfl⟩⟩) | (go_at_call 110; (with_reducible refine (impl_isVar.calls _ _ _ (varI _)).mono ?_); rintro e w' ⟨rfl, ⟨nd, rfl⟩⟩) | (go_at_call 54; (with_reducible refine (impl_WordOk.calls _ _ _ _ (wordOkI _ _)).mono ?_); rintro e w' ⟨rfl, ⟨nd, rfl⟩⟩)); go_ret; exact ⟨by rw [HR.out, E]; (rfl), by exact pw_below_drewN HB.out _⟩)
   ·have E : rightSw a1_0 a1_1 a1_2 a1_4 u v x = ((u == 1) && (v == a1_1) && (x == a1_1)) := by unfold rightSw; rw [if_neg (by omega), if_neg (by omega), if_neg (by omega), if_neg (by omega), if_neg (by omega), if_neg (by omega), if_neg (by omega), if_pos h]
    have k0 : (a1_0 == 0) = false := by simp [inB]; omega
    have k1 : (a1_0 == 1) = false := by simp [inB]; omega
    have k2 : (a1_0 == 2) = false := by simp [inB]; omega
    have k3 : (inB a1_0 3 12) = false := by simp [inB]; omega
    have k4 : (inB a1_0 13 15) = false := by simp [inB]; omega
    have k5 : (a1_0 == 16) = false := by simp [inB]; omega
    have k6 : (a1_0 == 17) = false := by simp [inB]; omega
    have k7 : (a1_0 == 18) = true := by simp [h]
    rcases tc (u == 1) with g2 | g2
    ·(go_wp2_with (first | (go_at_call 83; (with_reducible refine (impl_isWidth.calls _ _ _ (widthI _)).mono ?_); rintro e w' ⟨rfl, ⟨nd, rfl⟩⟩) | (go_at_call 72; (with_reducible refine (impl_within.calls _ _ _ _ _ (withinI _ _ _)).mono ?_); rintro e w' ⟨rfl, ⟨nd, rfl⟩⟩) | (go_at_call 110; (with_reducible refine (impl_isVar.calls _ _ _ (varI _)).mono ?_); rintro e w' ⟨rfl, ⟨nd, rfl⟩⟩) | (go_at_call 54; (with_reducible refine (impl_WordOk.calls _ _ _ _ (wordOkI _ _)).mono ?_); rintro e w' ⟨rfl, ⟨nd, rfl⟩⟩)); go_ret; exact ⟨by rw [HR.out, E]; ((simp only [g2, Bool.true_and, Bool.false_and, Bool.and_true, Bool.and_false]; rfl)), by exact pw_below_drewN HB.out _⟩)
    ·rcases tc (v == a1_1) with g1 | g1
     ·(go_wp2_with (first | (go_at_call 83; (with_reducible refine (impl_isWidth.calls _ _ _ (widthI _)).mono ?_); rintro e w' ⟨rfl, ⟨nd, rfl⟩⟩) | (go_at_call 72; (with_reducible refine (impl_within.calls _ _ _ _ _ (withinI _ _ _)).mono ?_); rintro e w' ⟨rfl, ⟨nd, rfl⟩⟩) | (go_at_call 110; (with_reducible refine (impl_isVar.calls _ _ _ (varI _)).mono ?_); rintro e w' ⟨rfl, ⟨nd, rfl⟩⟩) | (go_at_call 54; (with_reducible refine (impl_WordOk.calls _ _ _ _ (wordOkI _ _)).mono ?_); rintro e w' ⟨rfl, ⟨nd, rfl⟩⟩)); go_ret; exact ⟨by rw [HR.out, E]; ((simp only [g2, g1, Bool.true_and, Bool.false_and, Bool.and_true, Bool.and_false]; rfl)), by exact pw_below_drewN HB.out _⟩)
     ·(go_wp2_with (first | (go_at_call 83; (with_reducible refine (impl_isWidth.calls _ _ _ (widthI _)).mono ?_); rintro e w' ⟨rfl, ⟨nd, rfl⟩⟩) | (go_at_call 72; (with_reducible refine (impl_within.calls _ _ _ _ _ (withinI _ _ _)).mono ?_); rintro e w' ⟨rfl, ⟨nd, rfl⟩⟩) | (go_at_call 110; (with_reducible refine (impl_isVar.calls _ _ _ (varI _)).mono ?_); rintro e w' ⟨rfl, ⟨nd, rfl⟩⟩) | (go_at_call 54; (with_reducible refine (impl_WordOk.calls _ _ _ _ (wordOkI _ _)).mono ?_); rintro e w' ⟨rfl, ⟨nd, rfl⟩⟩)); go_ret; exact ⟨by rw [HR.out, E]; ((simp only [g2, g1, Bool.true_and, Bool.false_and, Bool.and_true, Bool.and_false]; rfl)), by exact pw_below_drewN HB.out _⟩)
   ·have E : rightSw a1_0 a1_1 a1_2 a1_4 u v x = (inB a1_2 0 7 && inB a1_4 1 8 && (u == 1) && (a1_1 == 1)) := by unfold rightSw; rw [if_neg (by omega), if_neg (by omega), if_neg (by omega), if_neg (by omega), if_neg (by omega), if_neg (by omega), if_neg (by omega), if_neg (by omega)]
    have k0 : (a1_0 == 0) = false := by rcases h with rfl | rfl <;> rfl
    have k1 : (a1_0 == 1) = false := by rcases h with rfl | rfl <;> rfl
    have k2 : (a1_0 == 2) = false := by rcases h with rfl | rfl <;> rfl
    have k3 : (inB a1_0 3 12) = false := by simp [inB]; omega
    have k4 : (inB a1_0 13 15) = false := by simp [inB]; omega
    have k5 : (a1_0 == 16) = false := by rcases h with rfl | rfl <;> rfl
    have k6 : (a1_0 == 17) = false := by rcases h with rfl | rfl <;> rfl
    have k7 : (a1_0 == 18) = false := by rcases h with rfl | rfl <;> rfl
    rcases tc (inB a1_2 0 7) with g3 | g3
    ·(go_wp2_with (first | (go_at_call 83; (with_reducible refine (impl_isWidth.calls _ _ _ (widthI _)).mono ?_); rintro e w' ⟨rfl, ⟨nd, rfl⟩⟩) | (go_at_call 72; (with_reducible refine (impl_within.calls _ _ _ _ _ (withinI _ _ _)).mono ?_); rintro e w' ⟨rfl, ⟨nd, rfl⟩⟩) | (go_at_call 110; (with_reducible refine (impl_isVar.calls _ _ _ (varI _)).mono ?_); rintro e w' ⟨rfl, ⟨nd, rfl⟩⟩) | (go_at_call 54; (with_reducible refine (impl_WordOk.calls _ _ _ _ (wordOkI _ _)).mono ?_); rintro e w' ⟨rfl, ⟨nd, rfl⟩⟩)); go_ret; exact ⟨by rw [HR.out, E]; ((simp only [g3, Bool.true_and, Bool.false_and, Bool.and_true, Bool.and_false]; rfl)), by exact pw_below_drewN HB.out _⟩)
    ·rcases tc (inB a1_4 1 8) with g2 | g2
     ·(go_wp2_with (first | (go_at_call 83; (with_reducible refine (impl_isWidth.calls _ _ _ (widthI _)).mono ?_); rintro e w' ⟨rfl, ⟨nd, rfl⟩⟩) | (go_at_call 72; (with_reducible refine (impl_within.calls _ _ _ _ _ (withinI _ _ _)).mono ?_); rintro e w' ⟨rfl, ⟨nd, rfl⟩⟩) | (go_at_call 110; (with_reducible refine (impl_isVar.calls _ _ _ (varI _)).mono ?_); rintro e w' ⟨rfl, ⟨nd, rfl⟩⟩) | (go_at_call 54; (with_reducible refine (impl_WordOk.calls _ _ _ _ (wordOkI _ _)).mono ?_); rintro e w' ⟨rfl, ⟨nd, rfl⟩⟩)); go_ret; exact ⟨by rw [HR.out, E]; ((simp only [g3, g2, Bool.true_and, Bool.false_and, Bool.and_true, Bool.and_false]; rfl)), by exact pw_below_drewN HB.out _⟩)
     ·rcases tc (u == 1) with g1 | g1
      ·(go_wp2_with (first | (go_at_call 83; (with_reducible refine (impl_isWidth.calls _ _ _ (widthI _)).mono ?_); rintro e w' ⟨rfl, ⟨nd, rfl⟩⟩) | (go_at_call 72; (with_reducible refine (impl_within.calls _ _ _ _ _ (withinI _ _ _)).mono ?_); rintro e w' ⟨rfl, ⟨nd, rfl⟩⟩) | (go_at_call 110; (with_reducible refine (impl_isVar.calls _ _ _ (varI _)).mono ?_); rintro e w' ⟨rfl, ⟨nd, rfl⟩⟩) | (go_at_call 54; (with_reducible refine (impl_WordOk.calls _ _ _ _ (wordOkI _ _)).mono ?_); rintro e w' ⟨rfl, ⟨nd, rfl⟩⟩)); go_ret; exact ⟨by rw [HR.out, E]; ((simp only [g3, g2, g1, Bool.true_and, Bool.false_and, Bool.and_true, Bool.and_false]; rfl)), by exact pw_below_drewN HB.out _⟩)
      ·(go_wp2_with (first | (go_at_call 83; (with_reducible refine (impl_isWidth.calls _ _ _ (widthI _)).mono ?_); rintro e w' ⟨rfl, ⟨nd, rfl⟩⟩) | (go_at_call 72; (with_reducible refine (impl_within.calls _ _ _ _ _ (withinI _ _ _)).mono ?_); rintro e w' ⟨rfl, ⟨nd, rfl⟩⟩) | (go_at_call 110; (with_reducible refine (impl_isVar.calls _ _ _ (varI _)).mono ?_); rintro e w' ⟨rfl, ⟨nd, rfl⟩⟩) | (go_at_call 54; (with_reducible refine (impl_WordOk.calls _ _ _ _ (wordOkI _ _)).mono ?_); rintro e w' ⟨rfl, ⟨nd, rfl⟩⟩)); go_ret; exact ⟨by rw [HR.out, E]; ((simp only [g3, g2, g1, Bool.true_and, Bool.false_and, Bool.and_true, Bool.and_false]; rfl)), by exact pw_below_drewN HB.out _⟩)
theorem partsAll (l : List Int) (P : Int → Bool) : (∀ t : Nat, t < l.length → P (rd l (t : Int)) = true) ↔ l.all P = true := by
 rw [List.all_eq_true]
 constructor
 ·intro h x hx
  obtain ⟨t, ht, rfl⟩ := List.getElem_of_mem hx
  have := h t ht
  rwa [show rd l (t : Int) = l[t] from by simp [rd, ht]] at this
 ·intro h t ht
  rw [show rd l (t : Int) = l[t] from by simp [rd, ht]]
  exact h _ (List.getElem_mem ht)
theorem impl_isRight.calls (A0 : Option Addr) (c0 : Nat) (l0 : List (S31)) (a1_0 : Int) (a1_1 : Int) (a1_2 : Int) (a1_3 : Int) (a1_4 : Int) (a1_5 : Int) (r : Bool) (w : World) (hr0 : Kd.C k31 w A0 l0.length l0) (hc0 : l0.length ≤ c0) (h : impl_isRight.f l0 a1_0 a1_1 a1_2 a1_3 a1_4 a1_5 = some r) :
  Calls Try.prog 73 #[.slice A0 l0.length c0, .agg #[.int .i64 a1_0, .int .i64 a1_1, .int .i64 a1_2, .int .i64 a1_3, .int .i64 a1_4, .int .i64 a1_5]] w fun e w' => e = .returned (.bool (r)) ∧ Below w.heap.size w w' := by
 obtain rfl : rightB l0 a1_0 a1_1 a1_2 a1_3 a1_4 a1_5 = r := oI h
 cases b1 : inB a1_1 1 8 with
 | false => simpa [rightB, b1] using isRight_no1 A0 c0 l0 a1_0 a1_1 a1_2 a1_3 a1_4 a1_5 w hr0 hc0 b1
 | true =>
  cases b2 : inB a1_0 0 20 with
  | false => simpa [rightB, b1, b2] using isRight_no2 A0 c0 l0 a1_0 a1_1 a1_2 a1_3 a1_4 a1_5 w hr0 hc0 b1 b2
  | true =>
   cases b3 : usesB a1_0 a1_2 a1_3 a1_4 a1_5 with
   | false => simpa [rightB, b1, b2, b3] using isRight_no3 A0 c0 l0 a1_0 a1_1 a1_2 a1_3 a1_4 a1_5 w hr0 hc0 b1 b2 b3
   | true =>
    refine isRight_go A0 c0 l0 a1_0 a1_1 a1_2 a1_3 a1_4 a1_5 w hr0 hc0 b1 b2 b3 _ (fun hn => ?_) (fun hy => ?_)
    ·rw [partsAll _ (fun p => inB p 0 ((l0.length : Int) - 1))] at hn
     simp only [Bool.not_eq_true] at hn
     unfold rightB
     rw [hn]; simp
    ·rw [partsAll _ (fun p => inB p 0 ((l0.length : Int) - 1))] at hy
     unfold rightB
     rw [b1, b2, b3, hy]; simp only [Bool.true_and]
end Go.Proofs.Ytkpipmojkhikaaa.PAll
