/- Written by a program of this session over the loaded program: Go functions as plain Lean functions, and that a call comes to what they say. -/
import Derived.Test.YtdebihfmceclkaaPFnExactFrontOkx0
import Derived.Test.YtdebihfmceclkaaPFnExactFrontOkx2
import Derived.Test.YtdebihfmceclkaaPFnExactFrontOkx3
namespace Go.Proofs.Ytdebihfmceclkaa.PFnExactFrontOk
open Go.RowKit Go.Proofs.YtdebihfmceclkaaW.PrintWords Go.Proofs.YtdebihfmceclkaaW.PrintLast Go.Proofs.YtdebihfmceclkaaW.PrintMore
attribute [local go_sem] max2_int min2_int max_two min_two max_three min_three max_four min_four   -- for this text's walks alone
set_option linter.unusedVariables false
set_option linter.unusedSimpArgs false

/-! ### spec_l02Node: function 47 -/
mutual
def spec_l02Node.l0 : Nat → List (S36) → Int → List Int → Int → Int → Int → Int → Int → Int → Int → Option (Bool)
 | 0, _, _, _, _, _, _, _, _, _, _ => none
 | k + 1, x0, x1, x6, x7, x139000, x139001, x139002, x139003, x139004, x139005 => if x7 < (x6.length : Int) then (if 0 ≤ x7 then ((spec_l01In.f (rd x6 x7) 0 (wrap64 (x1 - 1))).bind fun t143 => (if t143 = true then (spec_l02Node.l0 k x0 x1 x6 (wrap64 (x7 + 1)) x139000 x139001 x139002 x139003 x139004 x139005) else (some false))) else (none)) else ((spec_l01In.f x139001 1 8).bind fun t144 => (if t144 = true then (spec_l02Node.l1 k x0 x6 (([] : List Int)) 0 x139000 x139001 x139002 x139003 x139004 x139005) else (some false)))
def spec_l02Node.l1 : Nat → List (S36) → List Int → List Int → Int → Int → Int → Int → Int → Int → Int → Option (Bool)
 | 0, _, _, _, _, _, _, _, _, _, _ => none
 | k + 1, x0, x6, x8, x9, x139000, x139001, x139002, x139003, x139004, x139005 => if x9 < (x6.length : Int) then (if 0 ≤ x9 then (if 0 ≤ (rd x6 x9) then (if (rd x6 x9) < (x0.length : Int) then (if x8.length < 17592186044416 then (spec_l02Node.l1 k x0 x6 (x8 ++ [(rd_T36 x0 (rd x6 x9)).f1]) (wrap64 (x9 + 1)) x139000 x139001 x139002 x139003 x139004 x139005) else (none)) else (none)) else (none)) else (none)) else (if x139000 = 0 then ((spec_WordOk.f k x139001 x139002).bind fun t153 => (if t153 = true then (if x139003 = 0 then (if x139004 = 0 then (some (x139005 == 0)) else (some false)) else (some false)) else (some false))) else (if x139000 = 1 then ((spec_l01In.f x139002 0 7).bind fun t154 => (if t154 = true then (if x139003 = 0 then (if x139004 = 0 then (some (x139005 == 0)) else (some false)) else (some false)) else (some false))) else (if x139000 = 2 then (if 0 < (x8.length : Int) then (if (rd x8 0) = x139001 then (if x139002 = 0 then (if x139004 = 0 then (some (x139005 == 0)) else (some false)) else (some false)) else (some false)) else (none)) else ((spec_l01In.f x139000 3 12).bind fun t156 => (if t156 = true then (if 0 < (x8.length : Int) then (if (rd x8 0) = x139001 then (if 1 < (x8.length : Int) then (if (rd x8 1) = x139001 then (if x139002 = 0 then (some (x139005 == 0)) else (some false)) else (some false)) else (none)) else (some false)) else (none)) else ((spec_l01In.f x139000 13 15).bind fun t159 => (if t159 = true then (if 0 < (x8.length : Int) then (if 1 < (x8.length : Int) then (if (rd x8 0) = (rd x8 1) then (if x139001 = 1 then (if x139002 = 0 then (some (x139005 == 0)) else (some false)) else (some false)) else (some false)) else (none)) else (none)) else (if x139000 = 16 then (if 0 < (x8.length : Int) then (if 1 < (x8.length : Int) then (if (wrap64 ((rd x8 0) + (rd x8 1))) = x139001 then (if x139002 = 0 then (some (x139005 == 0)) else (some false)) else (some false)) else (none)) else (none)) else (if x139000 = 17 then (if x139002 ≥ 0 then (if 0 < (x8.length : Int) then (if x139002 ≤ (wrap64 ((rd x8 0) - x139001)) then (if x139004 = 0 then (some (x139005 == 0)) else (some false)) else (some false)) else (none)) else (some false)) else (if x139000 = 18 then (if 0 < (x8.length : Int) then (if (rd x8 0) = 1 then (if 1 < (x8.length : Int) then (if (rd x8 1) = x139001 then (if 2 < (x8.length : Int) then (if (rd x8 2) = x139001 then (some (x139002 == 0)) else (some false)) else (none)) else (some false)) else (none)) else (some false)) else (none)) else (if x139000 = 19 then (spec_l02Node.j2 k x8 true x139000 x139001 x139002 x139003 x139004 x139005) else (spec_l02Node.j2 k x8 (x139000 == 20) x139000 x139001 x139002 x139003 x139004 x139005))))))))))))
def spec_l02Node.j2 : Nat → List Int → Bool → Int → Int → Int → Int → Int → Int → Option (Bool)
 | 0, _, _, _, _, _, _, _, _ => none
 | k + 1, x8, x258, x139000, x139001, x139002, x139003, x139004, x139005 => if x258 = true then ((spec_l01In.f x139002 0 7).bind fun t168 => (if t168 = true then ((spec_l01In.f x139004 1 8).bind fun t169 => (if t169 = true then (if 0 < (x8.length : Int) then (if (rd x8 0) = 1 then (if x139001 = 1 then (some (x139005 == 0)) else (some false)) else (some false)) else (none)) else (some false))) else (some false))) else (some false)
end
def spec_l02Node.f (k : Nat) (l0 : List (S36)) (a1 : Int) : Option (Bool) := if 0 ≤ a1 then (if a1 < (l0.length : Int) then ((spec_Parts.f k ((rd_T36 l0 a1).f0) ((rd_T36 l0 a1).f1) ((rd_T36 l0 a1).f2) ((rd_T36 l0 a1).f3) ((rd_T36 l0 a1).f4) ((rd_T36 l0 a1).f5)).bind fun t139 => (spec_l02Node.l0 k l0 a1 t139 0 ((rd_T36 l0 a1).f0) ((rd_T36 l0 a1).f1) ((rd_T36 l0 a1).f2) ((rd_T36 l0 a1).f3) ((rd_T36 l0 a1).f4) ((rd_T36 l0 a1).f5))) else (none)) else (none)
theorem spec_l02Node.mono_l : ∀ k, (∀ y0 y1 y2 y3 y4 y5 y6 y7 y8 y9, LeO (spec_l02Node.l0 k y0 y1 y2 y3 y4 y5 y6 y7 y8 y9) (spec_l02Node.l0 (k + 1) y0 y1 y2 y3 y4 y5 y6 y7 y8 y9)) ∧ (∀ y0 y1 y2 y3 y4 y5 y6 y7 y8 y9, LeO (spec_l02Node.l1 k y0 y1 y2 y3 y4 y5 y6 y7 y8 y9) (spec_l02Node.l1 (k + 1) y0 y1 y2 y3 y4 y5 y6 y7 y8 y9)) ∧ (∀ y0 y1 y2 y3 y4 y5 y6 y7, LeO (spec_l02Node.j2 k y0 y1 y2 y3 y4 y5 y6 y7) (spec_l02Node.j2 (k + 1) y0 y1 y2 y3 y4 y5 y6 y7))
 | 0 => ⟨fun _ _ _ _ _ _ _ _ _ _ r h => by simp [spec_l02Node.l0] at h, fun _ _ _ _ _ _ _ _ _ _ r h => by simp [spec_l02Node.l1] at h, fun _ _ _ _ _ _ _ _ r h => by simp [spec_l02Node.j2] at h⟩
 | k + 1 => by
  obtain ⟨ih0, ih1, ih2⟩ := spec_l02Node.mono_l k
  refine ⟨?_, ?_, ?_⟩
  ·intro y0 y1 y2 y3 y4 y5 y6 y7 y8 y9
   unfold spec_l02Node.l0
   repeat' first
   | (with_reducible exact ih0 _ _ _ _ _ _ _ _ _ _)
   | (with_reducible exact ih1 _ _ _ _ _ _ _ _ _ _)
   | (with_reducible exact ih2 _ _ _ _ _ _ _ _)
   | (with_reducible exact spec_Parts.mono _ _ _ _ _ _ _)
   | (with_reducible exact spec_WordOk.mono _ _ _)
   | (with_reducible exact LeO.refl _)
   | (with_reducible exact LeO.none _)
   | (with_reducible refine LeO.ite ?_ ?_)
   | (with_reducible refine LeO.bind ?_ (fun _ => ?_))
   | exact ih0 _ _ _ _ _ _ _ _ _ _
   | exact ih1 _ _ _ _ _ _ _ _ _ _
   | exact ih2 _ _ _ _ _ _ _ _
   | exact spec_Parts.mono _ _ _ _ _ _ _
   | exact spec_WordOk.mono _ _ _
   | exact LeO.none _
   | refine LeO.ite ?_ ?_
   | refine LeO.bind ?_ (fun _ => ?_)
  ·intro y0 y1 y2 y3 y4 y5 y6 y7 y8 y9
   unfold spec_l02Node.l1
   repeat' first
   | (with_reducible exact ih0 _ _ _ _ _ _ _ _ _ _)
   | (with_reducible exact ih1 _ _ _ _ _ _ _ _ _ _)
   | (with_reducible exact ih2 _ _ _ _ _ _ _ _)
   | (with_reducible exact spec_Parts.mono _ _ _ _ _ _ _)
   | (with_reducible exact spec_WordOk.mono _ _ _)
   | (with_reducible exact LeO.refl _)
   | (with_reducible exact LeO.none _)
   | (with_reducible refine LeO.ite ?_ ?_)
   | (with_reducible refine LeO.bind ?_ (fun _ => ?_))
   | exact ih0 _ _ _ _ _ _ _ _ _ _
   | exact ih1 _ _ _ _ _ _ _ _ _ _
   | exact ih2 _ _ _ _ _ _ _ _
   | exact spec_Parts.mono _ _ _ _ _ _ _
   | exact spec_WordOk.mono _ _ _
   | exact LeO.none _
   | refine LeO.ite ?_ ?_
   | refine LeO.bind ?_ (fun _ => ?_)
  ·intro y0 y1 y2 y3 y4 y5 y6 y7
   unfold spec_l02Node.j2
   repeat' first
   | (with_reducible exact ih0 _ _ _ _ _ _ _ _ _ _)
   | (with_reducible exact ih1 _ _ _ _ _ _ _ _ _ _)
   | (with_reducible exact ih2 _ _ _ _ _ _ _ _)
   | (with_reducible exact spec_Parts.mono _ _ _ _ _ _ _)
   | (with_reducible exact spec_WordOk.mono _ _ _)
   | (with_reducible exact LeO.refl _)
   | (with_reducible exact LeO.none _)
   | (with_reducible refine LeO.ite ?_ ?_)
   | (with_reducible refine LeO.bind ?_ (fun _ => ?_))
   | exact ih0 _ _ _ _ _ _ _ _ _ _
   | exact ih1 _ _ _ _ _ _ _ _ _ _
   | exact ih2 _ _ _ _ _ _ _ _
   | exact spec_Parts.mono _ _ _ _ _ _ _
   | exact spec_WordOk.mono _ _ _
   | exact LeO.none _
   | refine LeO.ite ?_ ?_
   | refine LeO.bind ?_ (fun _ => ?_)
theorem spec_l02Node.mono : ∀ a0 a1 k, LeO (spec_l02Node.f k a0 a1) (spec_l02Node.f (k + 1) a0 a1) := by
 intro a0 a1 k
 obtain ⟨ih0, ih1, ih2⟩ := spec_l02Node.mono_l k
 unfold spec_l02Node.f
 repeat' first
   | (with_reducible exact ih0 _ _ _ _ _ _ _ _ _ _)
   | (with_reducible exact ih1 _ _ _ _ _ _ _ _ _ _)
   | (with_reducible exact ih2 _ _ _ _ _ _ _ _)
   | (with_reducible exact spec_Parts.mono _ _ _ _ _ _ _)
   | (with_reducible exact spec_WordOk.mono _ _ _)
   | (with_reducible exact LeO.refl _)
   | (with_reducible exact LeO.none _)
   | (with_reducible refine LeO.ite ?_ ?_)
   | (with_reducible refine LeO.bind ?_ (fun _ => ?_))
   | exact ih0 _ _ _ _ _ _ _ _ _ _
   | exact ih1 _ _ _ _ _ _ _ _ _ _
   | exact ih2 _ _ _ _ _ _ _ _
   | exact spec_Parts.mono _ _ _ _ _ _ _
   | exact spec_WordOk.mono _ _ _
   | exact LeO.none _
   | refine LeO.ite ?_ ?_
   | refine LeO.bind ?_ (fun _ => ?_)
set_option maxHeartbeats 8000000 in
set_option maxRecDepth 100000 in
theorem spec_l02Node.calls (k : Nat) (A0 : Option Addr) (c0 : Nat) (l0 : List (S36)) (a1 : Int) (r : Bool) (w : World) (hr0 : Kd.C k36 w A0 l0.length l0) (hc0 : l0.length ≤ c0) (h : spec_l02Node.f k l0 a1 = some r) :
  Calls Try.prog 47 #[.slice A0 l0.length c0, .int .i64 a1] w fun e w' => e = .returned (.bool r) ∧ Below w.heap.size w w' := by
 have hu36 := Try.underlying36
 have HR0 := Aside0.mk hr0
 have HC0 := Aside0.mk hc0
 clear hr0 hc0
 have HB := Aside0.mk (Below.refl w.heap.size w)
 have H : (if 0 ≤ a1 then (if a1 < (l0.length : Int) then ((spec_Parts.f k ((rd_T36 l0 a1).f0) ((rd_T36 l0 a1).f1) ((rd_T36 l0 a1).f2) ((rd_T36 l0 a1).f3) ((rd_T36 l0 a1).f4) ((rd_T36 l0 a1).f5)).bind fun t139 => (spec_l02Node.l0 k l0 a1 t139 0 ((rd_T36 l0 a1).f0) ((rd_T36 l0 a1).f1) ((rd_T36 l0 a1).f2) ((rd_T36 l0 a1).f3) ((rd_T36 l0 a1).f4) ((rd_T36 l0 a1).f5))) else (none)) else (none)) = some r := h
 clear h
 by_cases c3 : 0 ≤ a1
 ·rw [if_pos c3] at H
  have c3b0 : decide (0 ≤ a1) = true := decide_eq_true c3
  clear c3
  by_cases c4 : a1 < (l0.length : Int)
  ·rw [if_pos c4] at H
   have c4b0 : decide (a1 < (l0.length : Int)) = true := decide_eq_true c4
   clear c4
   replace H := Option.bind_eq_some_iff.mp H
   obtain ⟨t139, A50, H⟩ := H
   replace H : (spec_l02Node.l0 k l0 a1 t139 0 ((rd_T36 l0 a1).f0) ((rd_T36 l0 a1).f1) ((rd_T36 l0 a1).f2) ((rd_T36 l0 a1).f3) ((rd_T36 l0 a1).f4) ((rd_T36 l0 a1).f5)) = some r := H
   have A5 := Aside0.mk A50
   clear A50
   have H' := Aside0.mk H
   clear H
   have p137 : 0 ≤ (a1 : Int) := of_decide_eq_true (by first | (with_reducible assumption) | assumption)
   have q137 : a1 < (l0.length : Int) := of_decide_eq_true (by first | (with_reducible assumption) | assumption)
   obtain ⟨ad137, e137, hx137_0, hx137_1, hx137_2, hx137_3, hx137_4, hx137_5⟩ := at_T36 HR0.out a1 p137 q137
   cases e137
   replace p137 := eq_true p137
   replace q137 := eq_true q137
   go_enter Try.func47, Try.ntmps47
   go_wp2_with (first | ((with_reducible refine gate_dst (N := 5) rfl ?_); refine box_event ?hg (N := 5) ?hd (cs := #[.int .i64 0, .int .i64 0, .int .i64 0, .int .i64 0, .int .i64 0, .int .i64 0]) (t := 36) ?hr ?_; (case hd => rfl); (case hg => rfl); (case hr => first | (go_simp; done) | (go_simp; rfl)); intro gb138 hg w6 hbox hb; have n0_ := Aside0.mk (below_step (by repeat (first | (with_reducible first | exact HB.out | apply below_alloc | apply pw_below_drewN | apply below_drew1) | exact HB.out)) hb); have n1_ := Aside0.mk (hbox); have n2_ := Aside0.mk ((by rw [hg]; exact (below_size (by repeat (first | (with_reducible first | exact HB.out | apply below_alloc | apply pw_below_drewN | apply below_drew1) | exact HB.out))) : w.heap.size ≤ gb138)); have n3_ := Aside0.mk ((by rw [hg]; exact (below_size (by repeat (first | (with_reducible first | exact HB.out | apply below_alloc | apply pw_below_drewN | apply below_drew1) | exact HB.out))) : w.heap.size ≤ gb138)); clear HB; have HB := n0_; have BK138 := n1_; have GW138 := n2_; have GE138 := n3_; clear n0_ n1_ n2_ n3_; clear hb hbox hg; have hcz7_0 : w6.cell? ⟨gb138, 0, none⟩ = some (.int .i64 0) := (blk_cell BK138.out 0).trans rfl; have hcz7_1 : w6.cell? ⟨gb138, 1, none⟩ = some (.int .i64 0) := (blk_cell BK138.out 1).trans rfl; have hcz7_2 : w6.cell? ⟨gb138, 2, none⟩ = some (.int .i64 0) := (blk_cell BK138.out 2).trans rfl; have hcz7_3 : w6.cell? ⟨gb138, 3, none⟩ = some (.int .i64 0) := (blk_cell BK138.out 3).trans rfl; have hcz7_4 : w6.cell? ⟨gb138, 4, none⟩ = some (.int .i64 0) := (blk_cell BK138.out 4).trans rfl; have hcz7_5 : w6.cell? ⟨gb138, 5, none⟩ = some (.int .i64 0) := (blk_cell BK138.out 5).trans rfl; have hfz7_0 := blk_frozen BK138.out 0; have hfz7_1 := blk_frozen BK138.out 1; have hfz7_2 := blk_frozen BK138.out 2; have hfz7_3 := blk_frozen BK138.out 3; have hfz7_4 := blk_frozen BK138.out 4; have hfz7_5 := blk_frozen BK138.out 5) | (go_at_call 84; (with_reducible refine (spec_Parts.calls k ((rd_T36 l0 a1).f0) ((rd_T36 l0 a1).f1) ((rd_T36 l0 a1).f2) ((rd_T36 l0 a1).f3) ((rd_T36 l0 a1).f4) ((rd_T36 l0 a1).f5) t139 _ A5.out).mono ?_); rintro e w8 ⟨v140, rfl, ho0, hb⟩; have n0_ := Aside0.mk (Kd.R_lower ho0 (below_size (by repeat (first | (with_reducible first | exact HB.out | apply below_alloc | apply pw_below_drewN | apply below_drew1 | refine below_set ?_ GE138.out) | exact HB.out)))); have n1_ := Aside0.mk (blk_below (g := gb138) (o := .cells #[.int .i64 ((rd_T36 l0 a1).f0), .int .i64 ((rd_T36 l0 a1).f1), .int .i64 ((rd_T36 l0 a1).f2), .int .i64 ((rd_T36 l0 a1).f3), .int .i64 ((rd_T36 l0 a1).f4), .int .i64 ((rd_T36 l0 a1).f5)] 36 (0, 0)) (by (with_reducible repeat (first | refine blk_drewN ?_ _ | refine blk_drew ?_ | refine blk_alloc ?_ _)); refine blk_put (cs := #[.int .i64 ((rd_T36 l0 a1).f0), .int .i64 ((rd_T36 l0 a1).f1), .int .i64 ((rd_T36 l0 a1).f2), .int .i64 ((rd_T36 l0 a1).f3), .int .i64 ((rd_T36 l0 a1).f4), .int .i64 0]) ?_ 5 _ rfl; (with_reducible repeat (first | refine blk_drewN ?_ _ | refine blk_drew ?_ | refine blk_alloc ?_ _)); refine blk_put (cs := #[.int .i64 ((rd_T36 l0 a1).f0), .int .i64 ((rd_T36 l0 a1).f1), .int .i64 ((rd_T36 l0 a1).f2), .int .i64 ((rd_T36 l0 a1).f3), .int .i64 0, .int .i64 0]) ?_ 4 _ rfl; (with_reducible repeat (first | refine blk_drewN ?_ _ | refine blk_drew ?_ | refine blk_alloc ?_ _)); refine blk_put (cs := #[.int .i64 ((rd_T36 l0 a1).f0), .int .i64 ((rd_T36 l0 a1).f1), .int .i64 ((rd_T36 l0 a1).f2), .int .i64 0, .int .i64 0, .int .i64 0]) ?_ 3 _ rfl; (with_reducible repeat (first | refine blk_drewN ?_ _ | refine blk_drew ?_ | refine blk_alloc ?_ _)); refine blk_put (cs := #[.int .i64 ((rd_T36 l0 a1).f0), .int .i64 ((rd_T36 l0 a1).f1), .int .i64 0, .int .i64 0, .int .i64 0, .int .i64 0]) ?_ 2 _ rfl; (with_reducible repeat (first | refine blk_drewN ?_ _ | refine blk_drew ?_ | refine blk_alloc ?_ _)); refine blk_put (cs := #[.int .i64 ((rd_T36 l0 a1).f0), .int .i64 0, .int .i64 0, .int .i64 0, .int .i64 0, .int .i64 0]) ?_ 1 _ rfl; (with_reducible repeat (first | refine blk_drewN ?_ _ | refine blk_drew ?_ | refine blk_alloc ?_ _)); refine blk_put (cs := #[.int .i64 0, .int .i64 0, .int .i64 0, .int .i64 0, .int .i64 0, .int .i64 0]) ?_ 0 _ rfl; (with_reducible repeat (first | refine blk_drewN ?_ _ | refine blk_drew ?_ | refine blk_alloc ?_ _)); exact BK138.out) hb); have n2_ := Aside0.mk (below_step (by repeat (first | (with_reducible first | exact HB.out | apply below_alloc | apply pw_below_drewN | apply below_drew1 | refine below_set ?_ GE138.out) | exact HB.out)) hb); clear BK138; clear HB; have HO141 := n0_; have BK138 := n1_; have HB := n2_; clear n0_ n1_ n2_; (try clear hb); (try clear hb2); (try clear hk); (try clear hi); (try clear ho0)))
   repeat (go_quiet (first | ((with_reducible refine gate_dst (N := 5) rfl ?_); refine box_event ?hg (N := 5) ?hd (cs := #[.int .i64 0, .int .i64 0, .int .i64 0, .int .i64 0, .int .i64 0, .int .i64 0]) (t := 36) ?hr ?_; (case hd => rfl); (case hg => rfl); (case hr => first | (go_simp; done) | (go_simp; rfl)); intro gb138 hg w6 hbox hb; have n0_ := Aside0.mk (below_step (by repeat (first | (with_reducible first | exact HB.out | apply below_alloc | apply pw_below_drewN | apply below_drew1) | exact HB.out)) hb); have n1_ := Aside0.mk (hbox); have n2_ := Aside0.mk ((by rw [hg]; exact (below_size (by repeat (first | (with_reducible first | exact HB.out | apply below_alloc | apply pw_below_drewN | apply below_drew1) | exact HB.out))) : w.heap.size ≤ gb138)); have n3_ := Aside0.mk ((by rw [hg]; exact (below_size (by repeat (first | (with_reducible first | exact HB.out | apply below_alloc | apply pw_below_drewN | apply below_drew1) | exact HB.out))) : w.heap.size ≤ gb138)); clear HB; have HB := n0_; have BK138 := n1_; have GW138 := n2_; have GE138 := n3_; clear n0_ n1_ n2_ n3_; clear hb hbox hg; have hcz7_0 : w6.cell? ⟨gb138, 0, none⟩ = some (.int .i64 0) := (blk_cell BK138.out 0).trans rfl; have hcz7_1 : w6.cell? ⟨gb138, 1, none⟩ = some (.int .i64 0) := (blk_cell BK138.out 1).trans rfl; have hcz7_2 : w6.cell? ⟨gb138, 2, none⟩ = some (.int .i64 0) := (blk_cell BK138.out 2).trans rfl; have hcz7_3 : w6.cell? ⟨gb138, 3, none⟩ = some (.int .i64 0) := (blk_cell BK138.out 3).trans rfl; have hcz7_4 : w6.cell? ⟨gb138, 4, none⟩ = some (.int .i64 0) := (blk_cell BK138.out 4).trans rfl; have hcz7_5 : w6.cell? ⟨gb138, 5, none⟩ = some (.int .i64 0) := (blk_cell BK138.out 5).trans rfl; have hfz7_0 := blk_frozen BK138.out 0; have hfz7_1 := blk_frozen BK138.out 1; have hfz7_2 := blk_frozen BK138.out 2; have hfz7_3 := blk_frozen BK138.out 3; have hfz7_4 := blk_frozen BK138.out 4; have hfz7_5 := blk_frozen BK138.out 5) | (go_at_call 84; (with_reducible refine (spec_Parts.calls k ((rd_T36 l0 a1).f0) ((rd_T36 l0 a1).f1) ((rd_T36 l0 a1).f2) ((rd_T36 l0 a1).f3) ((rd_T36 l0 a1).f4) ((rd_T36 l0 a1).f5) t139 _ A5.out).mono ?_); rintro e w8 ⟨v140, rfl, ho0, hb⟩; have n0_ := Aside0.mk (Kd.R_lower ho0 (below_size (by repeat (first | (with_reducible first | exact HB.out | apply below_alloc | apply pw_below_drewN | apply below_drew1 | refine below_set ?_ GE138.out) | exact HB.out)))); have n1_ := Aside0.mk (blk_below (g := gb138) (o := .cells #[.int .i64 ((rd_T36 l0 a1).f0), .int .i64 ((rd_T36 l0 a1).f1), .int .i64 ((rd_T36 l0 a1).f2), .int .i64 ((rd_T36 l0 a1).f3), .int .i64 ((rd_T36 l0 a1).f4), .int .i64 ((rd_T36 l0 a1).f5)] 36 (0, 0)) (by (with_reducible repeat (first | refine blk_drewN ?_ _ | refine blk_drew ?_ | refine blk_alloc ?_ _)); refine blk_put (cs := #[.int .i64 ((rd_T36 l0 a1).f0), .int .i64 ((rd_T36 l0 a1).f1), .int .i64 ((rd_T36 l0 a1).f2), .int .i64 ((rd_T36 l0 a1).f3), .int .i64 ((rd_T36 l0 a1).f4), .int .i64 0]) ?_ 5 _ rfl; (with_reducible repeat (first | refine blk_drewN ?_ _ | refine blk_drew ?_ | refine blk_alloc ?_ _)); refine blk_put (cs := #[.int .i64 ((rd_T36 l0 a1).f0), .int .i64 ((rd_T36 l0 a1).f1), .int .i64 ((rd_T36 l0 a1).f2), .int .i64 ((rd_T36 l0 a1).f3), .int .i64 0, .int .i64 0]) ?_ 4 _ rfl; (with_reducible repeat (first | refine blk_drewN ?_ _ | refine blk_drew ?_ | refine blk_alloc ?_ _)); refine blk_put (cs := #[.int .i64 ((rd_T36 l0 a1).f0), .int .i64 ((rd_T36 l0 a1).f1), .int .i64 ((rd_T36 l0 a1).f2), .int .i64 0, .int .i64 0, .int .i64 0]) ?_ 3 _ rfl; (with_reducible repeat (first | refine blk_drewN ?_ _ | refine blk_drew ?_ | refine blk_alloc ?_ _)); refine blk_put (cs := #[.int .i64 ((rd_T36 l0 a1).f0), .int .i64 ((rd_T36 l0 a1).f1), .int .i64 0, .int .i64 0, .int .i64 0, .int .i64 0]) ?_ 2 _ rfl; (with_reducible repeat (first | refine blk_drewN ?_ _ | refine blk_drew ?_ | refine blk_alloc ?_ _)); refine blk_put (cs := #[.int .i64 ((rd_T36 l0 a1).f0), .int .i64 0, .int .i64 0, .int .i64 0, .int .i64 0, .int .i64 0]) ?_ 1 _ rfl; (with_reducible repeat (first | refine blk_drewN ?_ _ | refine blk_drew ?_ | refine blk_alloc ?_ _)); refine blk_put (cs := #[.int .i64 0, .int .i64 0, .int .i64 0, .int .i64 0, .int .i64 0, .int .i64 0]) ?_ 0 _ rfl; (with_reducible repeat (first | refine blk_drewN ?_ _ | refine blk_drew ?_ | refine blk_alloc ?_ _)); exact BK138.out) hb); have n2_ := Aside0.mk (below_step (by repeat (first | (with_reducible first | exact HB.out | apply below_alloc | apply pw_below_drewN | apply below_drew1 | refine below_set ?_ GE138.out) | exact HB.out)) hb); clear BK138; clear HB; have HO141 := n0_; have BK138 := n1_; have HB := n2_; clear n0_ n1_ n2_; (try clear hb); (try clear hb2); (try clear hk); (try clear hi); (try clear ho0))); try go_wp2_with (first | ((with_reducible refine gate_dst (N := 5) rfl ?_); refine box_event ?hg (N := 5) ?hd (cs := #[.int .i64 0, .int .i64 0, .int .i64 0, .int .i64 0, .int .i64 0, .int .i64 0]) (t := 36) ?hr ?_; (case hd => rfl); (case hg => rfl); (case hr => first | (go_simp; done) | (go_simp; rfl)); intro gb138 hg w6 hbox hb; have n0_ := Aside0.mk (below_step (by repeat (first | (with_reducible first | exact HB.out | apply below_alloc | apply pw_below_drewN | apply below_drew1) | exact HB.out)) hb); have n1_ := Aside0.mk (hbox); have n2_ := Aside0.mk ((by rw [hg]; exact (below_size (by repeat (first | (with_reducible first | exact HB.out | apply below_alloc | apply pw_below_drewN | apply below_drew1) | exact HB.out))) : w.heap.size ≤ gb138)); have n3_ := Aside0.mk ((by rw [hg]; exact (below_size (by repeat (first | (with_reducible first | exact HB.out | apply below_alloc | apply pw_below_drewN | apply below_drew1) | exact HB.out))) : w.heap.size ≤ gb138)); clear HB; have HB := n0_; have BK138 := n1_; have GW138 := n2_; have GE138 := n3_; clear n0_ n1_ n2_ n3_; clear hb hbox hg; have hcz7_0 : w6.cell? ⟨gb138, 0, none⟩ = some (.int .i64 0) := (blk_cell BK138.out 0).trans rfl; have hcz7_1 : w6.cell? ⟨gb138, 1, none⟩ = some (.int .i64 0) := (blk_cell BK138.out 1).trans rfl; have hcz7_2 : w6.cell? ⟨gb138, 2, none⟩ = some (.int .i64 0) := (blk_cell BK138.out 2).trans rfl; have hcz7_3 : w6.cell? ⟨gb138, 3, none⟩ = some (.int .i64 0) := (blk_cell BK138.out 3).trans rfl; have hcz7_4 : w6.cell? ⟨gb138, 4, none⟩ = some (.int .i64 0) := (blk_cell BK138.out 4).trans rfl; have hcz7_5 : w6.cell? ⟨gb138, 5, none⟩ = some (.int .i64 0) := (blk_cell BK138.out 5).trans rfl; have hfz7_0 := blk_frozen BK138.out 0; have hfz7_1 := blk_frozen BK138.out 1; have hfz7_2 := blk_frozen BK138.out 2; have hfz7_3 := blk_frozen BK138.out 3; have hfz7_4 := blk_frozen BK138.out 4; have hfz7_5 := blk_frozen BK138.out 5) | (go_at_call 84; (with_reducible refine (spec_Parts.calls k ((rd_T36 l0 a1).f0) ((rd_T36 l0 a1).f1) ((rd_T36 l0 a1).f2) ((rd_T36 l0 a1).f3) ((rd_T36 l0 a1).f4) ((rd_T36 l0 a1).f5) t139 _ A5.out).mono ?_); rintro e w8 ⟨v140, rfl, ho0, hb⟩; have n0_ := Aside0.mk (Kd.R_lower ho0 (below_size (by repeat (first | (with_reducible first | exact HB.out | apply below_alloc | apply pw_below_drewN | apply below_drew1 | refine below_set ?_ GE138.out) | exact HB.out)))); have n1_ := Aside0.mk (blk_below (g := gb138) (o := .cells #[.int .i64 ((rd_T36 l0 a1).f0), .int .i64 ((rd_T36 l0 a1).f1), .int .i64 ((rd_T36 l0 a1).f2), .int .i64 ((rd_T36 l0 a1).f3), .int .i64 ((rd_T36 l0 a1).f4), .int .i64 ((rd_T36 l0 a1).f5)] 36 (0, 0)) (by (with_reducible repeat (first | refine blk_drewN ?_ _ | refine blk_drew ?_ | refine blk_alloc ?_ _)); refine blk_put (cs := #[.int .i64 ((rd_T36 l0 a1).f0), .int .i64 ((rd_T36 l0 a1).f1), .int .i64 ((rd_T36 l0 a1).f2), .int .i64 ((rd_T36 l0 a1).f3), .int .i64 ((rd_T36 l0 a1).f4), .int .i64 0]) ?_ 5 _ rfl; (with_reducible repeat (first | refine blk_drewN ?_ _ | refine blk_drew ?_ | refine blk_alloc ?_ _)); refine blk_put (cs := #[.int .i64 ((rd_T36 l0 a1).f0), .int .i64 ((rd_T36 l0 a1).f1), .int .i64 ((rd_T36 l0 a1).f2), .int .i64 ((rd_T36 l0 a1).f3), .int .i64 0, .int .i64 0]) ?_ 4 _ rfl; (with_reducible repeat (first | refine blk_drewN ?_ _ | refine blk_drew ?_ | refine blk_alloc ?_ _)); refine blk_put (cs := #[.int .i64 ((rd_T36 l0 a1).f0), .int .i64 ((rd_T36 l0 a1).f1), .int .i64 ((rd_T36 l0 a1).f2), .int .i64 0, .int .i64 0, .int .i64 0]) ?_ 3 _ rfl; (with_reducible repeat (first | refine blk_drewN ?_ _ | refine blk_drew ?_ | refine blk_alloc ?_ _)); refine blk_put (cs := #[.int .i64 ((rd_T36 l0 a1).f0), .int .i64 ((rd_T36 l0 a1).f1), .int .i64 0, .int .i64 0, .int .i64 0, .int .i64 0]) ?_ 2 _ rfl; (with_reducible repeat (first | refine blk_drewN ?_ _ | refine blk_drew ?_ | refine blk_alloc ?_ _)); refine blk_put (cs := #[.int .i64 ((rd_T36 l0 a1).f0), .int .i64 0, .int .i64 0, .int .i64 0, .int .i64 0, .int .i64 0]) ?_ 1 _ rfl; (with_reducible repeat (first | refine blk_drewN ?_ _ | refine blk_drew ?_ | refine blk_alloc ?_ _)); refine blk_put (cs := #[.int .i64 0, .int .i64 0, .int .i64 0, .int .i64 0, .int .i64 0, .int .i64 0]) ?_ 0 _ rfl; (with_reducible repeat (first | refine blk_drewN ?_ _ | refine blk_drew ?_ | refine blk_alloc ?_ _)); exact BK138.out) hb); have n2_ := Aside0.mk (below_step (by repeat (first | (with_reducible first | exact HB.out | apply below_alloc | apply pw_below_drewN | apply below_drew1 | refine below_set ?_ GE138.out) | exact HB.out)) hb); clear BK138; clear HB; have HO141 := n0_; have BK138 := n1_; have HB := n2_; clear n0_ n1_ n2_; (try clear hb); (try clear hb2); (try clear hk); (try clear hi); (try clear ho0))))
   go_loopg [7] k (fun kq v7 w' => ∃ (x7_1 : Int), v7 = .int .i64 x7_1 ∧ Aside0 (spec_l02Node.l0 kq l0 a1 t139 x7_1 ((rd_T36 l0 a1).f0) ((rd_T36 l0 a1).f1) ((rd_T36 l0 a1).f2) ((rd_T36 l0 a1).f3) ((rd_T36 l0 a1).f4) ((rd_T36 l0 a1).f5) = some r) ∧ Aside0 (kq ≤ k) ∧ Aside0 (Kd.R (Kd.int .i64) 3 w' w.heap.size (fun _ => True) v140 t139) ∧ Aside0 (w'.heap[gb138]? = some (.cells #[.int .i64 ((rd_T36 l0 a1).f0), .int .i64 ((rd_T36 l0 a1).f1), .int .i64 ((rd_T36 l0 a1).f2), .int .i64 ((rd_T36 l0 a1).f3), .int .i64 ((rd_T36 l0 a1).f4), .int .i64 ((rd_T36 l0 a1).f5)] 36 (0, 0))) ∧ Aside0 (Below w.heap.size w w'))
   case atStart => exact ⟨(0), (by first | rfl | (simp; done) | (simp [*]; done)), H', ⟨Nat.le_refl _⟩, ⟨by (with_reducible repeat (first | apply Kd.R_alloc | apply Kd.R_drewN | apply Kd.R_drew)); exact HO141.out⟩, ⟨by (with_reducible repeat (first | refine blk_drewN ?_ _ | refine blk_drew ?_ | refine blk_alloc ?_ _)); exact BK138.out⟩, ⟨by repeat (first | (with_reducible first | exact HB.out | apply below_alloc | apply pw_below_drewN | apply below_drew1 | refine below_set ?_ GE138.out) | exact HB.out)⟩⟩
   case round =>
    clear H'
    try clear p1; try clear q1; try clear hx1; try clear p2; try clear c3; try clear c3b0; try clear c4; try clear c4b0; try clear hcz7_0; try clear hcz7_1; try clear hcz7_2; try clear hcz7_3; try clear hcz7_4; try clear hcz7_5; try clear hfz7_0; try clear hfz7_1; try clear hfz7_2; try clear hfz7_3; try clear hfz7_4; try clear hfz7_5; try clear hx137_0; try clear hx137_1; try clear hx137_2; try clear hx137_3; try clear hx137_4; try clear hx137_5; try clear p137; try clear q137
    obtain ⟨x7_1, rfl, HA, HK1, HO_6, BK138, HB⟩ := hrel
    cases gk with
    | zero => exact absurd HA.out (by simp [spec_l02Node.l0])
    | succ k1 =>
     have H := HA.out
     clear HA
     simp only [spec_l02Node.l0] at H
     by_cases c9 : x7_1 < (t139.length : Int)
     ·rw [if_pos c9] at H
      have c9b0 : decide (x7_1 < (t139.length : Int)) = true := decide_eq_true c9
      clear c9
      by_cases c10 : 0 ≤ x7_1
      ·rw [if_pos c10] at H
       have c10b0 : decide (0 ≤ x7_1) = true := decide_eq_true c10
       clear c10
       replace H := Option.bind_eq_some_iff.mp H
       obtain ⟨t143, A110, H⟩ := H
       replace H : (if t143 = true then (spec_l02Node.l0 k1 l0 a1 t139 (wrap64 (x7_1 + 1)) ((rd_T36 l0 a1).f0) ((rd_T36 l0 a1).f1) ((rd_T36 l0 a1).f2) ((rd_T36 l0 a1).f3) ((rd_T36 l0 a1).f4) ((rd_T36 l0 a1).f5)) else (some false)) = some r := H
       have A11 := Aside0.mk A110
       clear A110
       by_cases c12 : t143 = true
       ·subst c12
        have H1 : (spec_l02Node.l0 k1 l0 a1 t139 (wrap64 (x7_1 + 1)) ((rd_T36 l0 a1).f0) ((rd_T36 l0 a1).f1) ((rd_T36 l0 a1).f2) ((rd_T36 l0 a1).f3) ((rd_T36 l0 a1).f4) ((rd_T36 l0 a1).f5)) = some r := by rw [if_pos rfl] at H; exact H
        clear H
        have H := H1
        clear H1
        have H' := Aside0.mk H
        clear H
        obtain ⟨Ao13, co13, eo13⟩ := Kd.R_slice HO_6.out
        subst eo13
        have p142 : 0 ≤ (x7_1 : Int) := of_decide_eq_true (by first | (with_reducible assumption) | assumption)
        have q142 : x7_1 < (t139.length : Int) := of_decide_eq_true (by first | (with_reducible assumption) | assumption)
        obtain ⟨ad142, e142, hx142_0⟩ := Kd.at_int (Kd.R_reads' HO_6.out).2.2 x7_1 p142 q142
        cases e142
        replace p142 := eq_true p142
        replace q142 := eq_true q142
        go_wp2_with (first | (go_at_call 46; (with_reducible refine (spec_l01In.calls (rd t139 x7_1) 0 (wrap64 (a1 - 1)) true _ A11.out).mono ?_); rintro e w' ⟨rfl, ⟨nd, rfl⟩⟩; (try first | exact ⟨rfl, _, World.drewN_drewN _ _ _⟩ | exact ⟨rfl, _, Eq.trans (World.drewN_drewN _ _ _) (congrArg (World.drewN _) (Nat.add_assoc _ _ _))⟩)))
        repeat (go_quiet (first | (go_at_call 46; (with_reducible refine (spec_l01In.calls (rd t139 x7_1) 0 (wrap64 (a1 - 1)) true _ A11.out).mono ?_); rintro e w' ⟨rfl, ⟨nd, rfl⟩⟩; (try first | exact ⟨rfl, _, World.drewN_drewN _ _ _⟩ | exact ⟨rfl, _, Eq.trans (World.drewN_drewN _ _ _) (congrArg (World.drewN _) (Nat.add_assoc _ _ _))⟩))); try go_wp2_with (first | (go_at_call 46; (with_reducible refine (spec_l01In.calls (rd t139 x7_1) 0 (wrap64 (a1 - 1)) true _ A11.out).mono ?_); rintro e w' ⟨rfl, ⟨nd, rfl⟩⟩; (try first | exact ⟨rfl, _, World.drewN_drewN _ _ _⟩ | exact ⟨rfl, _, Eq.trans (World.drewN_drewN _ _ _) (congrArg (World.drewN _) (Nat.add_assoc _ _ _))⟩))))
        go_roundg k1
        case measure => have := HK1.out; omega
        case rel => exact ⟨(wrap64 (x7_1 + 1)), (by first | rfl | (simp; done) | (simp [*]; done)), H', ⟨by have := HK1.out; omega⟩, ⟨by (with_reducible repeat (first | apply Kd.R_alloc | apply Kd.R_drewN | apply Kd.R_drew)); exact HO_6.out⟩, ⟨by (with_reducible repeat (first | refine blk_drewN ?_ _ | refine blk_drew ?_ | refine blk_alloc ?_ _)); exact BK138.out⟩, ⟨by repeat (first | (with_reducible first | exact HB.out | apply below_alloc | apply pw_below_drewN | apply below_drew1 | refine below_set ?_ GE138.out) | exact HB.out)⟩⟩
       ·replace c12 := Bool.eq_false_iff.mpr c12
        subst c12
        have H1 : (some false) = some r := by rw [if_neg (show ¬ (false = true) by decide)] at H; exact H
        clear H
        have H := H1
        clear H1
        obtain rfl := Option.some.inj H
        obtain ⟨Ao14, co14, eo14⟩ := Kd.R_slice HO_6.out
        subst eo14
        have p142 : 0 ≤ (x7_1 : Int) := of_decide_eq_true (by first | (with_reducible assumption) | assumption)
        have q142 : x7_1 < (t139.length : Int) := of_decide_eq_true (by first | (with_reducible assumption) | assumption)
        obtain ⟨ad142, e142, hx142_0⟩ := Kd.at_int (Kd.R_reads' HO_6.out).2.2 x7_1 p142 q142
        cases e142
        replace p142 := eq_true p142
        replace q142 := eq_true q142
        go_wp2_with (first | (go_at_call 46; (with_reducible refine (spec_l01In.calls (rd t139 x7_1) 0 (wrap64 (a1 - 1)) false _ A11.out).mono ?_); rintro e w' ⟨rfl, ⟨nd, rfl⟩⟩; (try first | exact ⟨rfl, _, World.drewN_drewN _ _ _⟩ | exact ⟨rfl, _, Eq.trans (World.drewN_drewN _ _ _) (congrArg (World.drewN _) (Nat.add_assoc _ _ _))⟩)))
        repeat (go_quiet (first | (go_at_call 46; (with_reducible refine (spec_l01In.calls (rd t139 x7_1) 0 (wrap64 (a1 - 1)) false _ A11.out).mono ?_); rintro e w' ⟨rfl, ⟨nd, rfl⟩⟩; (try first | exact ⟨rfl, _, World.drewN_drewN _ _ _⟩ | exact ⟨rfl, _, Eq.trans (World.drewN_drewN _ _ _) (congrArg (World.drewN _) (Nat.add_assoc _ _ _))⟩))); try go_wp2_with (first | (go_at_call 46; (with_reducible refine (spec_l01In.calls (rd t139 x7_1) 0 (wrap64 (a1 - 1)) false _ A11.out).mono ?_); rintro e w' ⟨rfl, ⟨nd, rfl⟩⟩; (try first | exact ⟨rfl, _, World.drewN_drewN _ _ _⟩ | exact ⟨rfl, _, Eq.trans (World.drewN_drewN _ _ _) (congrArg (World.drewN _) (Nat.add_assoc _ _ _))⟩))))
        go_ret
        exact ⟨by first | rfl | (simp [errW_none, errW_some] <;> rfl) | (simp [*, errW_none, errW_some] <;> rfl), by repeat (first | (with_reducible first | exact HB.out | apply below_alloc | apply pw_below_drewN | apply below_drew1 | refine below_set ?_ GE138.out) | exact HB.out)⟩
      ·rw [if_neg c10] at H
       exact absurd H (by simp)
     ·rw [if_neg c9] at H
      have c9b0 : decide (x7_1 < (t139.length : Int)) = false := decide_eq_false c9
      clear c9
      replace H := Option.bind_eq_some_iff.mp H
      obtain ⟨t144, A150, H⟩ := H
      replace H : (if t144 = true then (spec_l02Node.l1 k1 l0 t139 (([] : List Int)) 0 ((rd_T36 l0 a1).f0) ((rd_T36 l0 a1).f1) ((rd_T36 l0 a1).f2) ((rd_T36 l0 a1).f3) ((rd_T36 l0 a1).f4) ((rd_T36 l0 a1).f5)) else (some false)) = some r := H
      have A15 := Aside0.mk A150
      clear A150
      by_cases c16 : t144 = true
      ·subst c16
       have H1 : (spec_l02Node.l1 k1 l0 t139 (([] : List Int)) 0 ((rd_T36 l0 a1).f0) ((rd_T36 l0 a1).f1) ((rd_T36 l0 a1).f2) ((rd_T36 l0 a1).f3) ((rd_T36 l0 a1).f4) ((rd_T36 l0 a1).f5)) = some r := by rw [if_pos rfl] at H; exact H
       clear H
       have H := H1
       clear H1
       obtain ⟨y145, hy145⟩ : ∃ y_ : List Int, y_ = (([] : List Int)) := ⟨_, rfl⟩
       replace H : (spec_l02Node.l1 k1 l0 t139 y145 0 ((rd_T36 l0 a1).f0) ((rd_T36 l0 a1).f1) ((rd_T36 l0 a1).f2) ((rd_T36 l0 a1).f3) ((rd_T36 l0 a1).f4) ((rd_T36 l0 a1).f5)) = some r := by first | (rw [hy145]; with_reducible exact H) | (have H2_ := (Option.bind_some _ _).symm.trans H; rw [hy145]; with_reducible exact H2_) | (have H2_ := (Option.bind_some _ _).symm.trans H; with_reducible exact H2_) | with_reducible exact H | (rw [hy145]; exact H) | exact H
       have Ny145 := Aside0.mk hy145
       clear hy145
       have H' := Aside0.mk H
       clear H
       obtain ⟨Ao17, co17, eo17⟩ := Kd.R_slice HO_6.out
       subst eo17
       have hcz18_0 : wr.cell? ⟨gb138, 0, none⟩ = some (.int .i64 ((rd_T36 l0 a1).f0)) := (blk_cell BK138.out 0).trans rfl
       have hcz18_1 : wr.cell? ⟨gb138, 1, none⟩ = some (.int .i64 ((rd_T36 l0 a1).f1)) := (blk_cell BK138.out 1).trans rfl
       have hcz18_2 : wr.cell? ⟨gb138, 2, none⟩ = some (.int .i64 ((rd_T36 l0 a1).f2)) := (blk_cell BK138.out 2).trans rfl
       have hcz18_3 : wr.cell? ⟨gb138, 3, none⟩ = some (.int .i64 ((rd_T36 l0 a1).f3)) := (blk_cell BK138.out 3).trans rfl
       have hcz18_4 : wr.cell? ⟨gb138, 4, none⟩ = some (.int .i64 ((rd_T36 l0 a1).f4)) := (blk_cell BK138.out 4).trans rfl
       have hcz18_5 : wr.cell? ⟨gb138, 5, none⟩ = some (.int .i64 ((rd_T36 l0 a1).f5)) := (blk_cell BK138.out 5).trans rfl
       have hfz18_0 := blk_frozen BK138.out 0
       have hfz18_1 := blk_frozen BK138.out 1
       have hfz18_2 := blk_frozen BK138.out 2
       have hfz18_3 := blk_frozen BK138.out 3
       have hfz18_4 := blk_frozen BK138.out 4
       have hfz18_5 := blk_frozen BK138.out 5
       go_wp2_with (first | (go_at_call 46; (with_reducible refine (spec_l01In.calls ((rd_T36 l0 a1).f1) 1 8 true _ A15.out).mono ?_); rintro e w' ⟨rfl, ⟨nd, rfl⟩⟩; (try first | exact ⟨rfl, _, World.drewN_drewN _ _ _⟩ | exact ⟨rfl, _, Eq.trans (World.drewN_drewN _ _ _) (congrArg (World.drewN _) (Nat.add_assoc _ _ _))⟩)) | ((with_reducible refine gate_dst (N := 34) rfl ?_); refine Kd.R_lit (Kd.int .i64) _ 3 ?hg (N := 34) ?hd (xs := ([] : List Int)) (inner := []) (ok := fun _ => True) (okp := fun _ => True) ?hr ?hp (fun _ hk => hk) trivial (Below.refl _ _) (Nat.le_refl _) (by simp) ?_; (case hd => rfl); (case hg => rfl); (case hr => first | (go_simp; done) | (go_simp; rfl)); (case hp => exact (Reps.none _ _)); intro v146 w19 ho20 hb hg_ hnew_; clear hg_ hnew_; (first | rw [← Ny145.out] at ho20 | (simp only [Int.reduceToNat] at ho20; rw [← Ny145.out] at ho20)); have n0_ := Aside0.mk (Kd.R_elder' (by (with_reducible repeat (first | apply Kd.R_alloc | apply Kd.R_drewN | apply Kd.R_drew)); exact HO_6.out) (Kd.R_base ho20) hb); have n1_ := Aside0.mk (Kd.R_lower (Kd.R_new' ho20 (Kd.R_lt (by (with_reducible repeat (first | apply Kd.R_alloc | apply Kd.R_drewN | apply Kd.R_drew)); exact HO_6.out))) (below_size (by repeat (first | (with_reducible first | exact HB.out | apply below_alloc | apply pw_below_drewN | apply below_drew1 | refine below_set ?_ GE138.out) | exact HB.out)))); have n2_ := Aside0.mk (blk_below (g := gb138) (o := .cells #[.int .i64 ((rd_T36 l0 a1).f0), .int .i64 ((rd_T36 l0 a1).f1), .int .i64 ((rd_T36 l0 a1).f2), .int .i64 ((rd_T36 l0 a1).f3), .int .i64 ((rd_T36 l0 a1).f4), .int .i64 ((rd_T36 l0 a1).f5)] 36 (0, 0)) (by (with_reducible repeat (first | refine blk_drewN ?_ _ | refine blk_drew ?_ | refine blk_alloc ?_ _)); exact BK138.out) hb); have n3_ := Aside0.mk (below_step (by repeat (first | (with_reducible first | exact HB.out | apply below_alloc | apply pw_below_drewN | apply below_drew1 | refine below_set ?_ GE138.out) | exact HB.out)) hb); clear HO_6; clear BK138; clear HB; have HO_6 := n0_; have HO147 := n1_; have BK138 := n2_; have HB := n3_; clear n0_ n1_ n2_ n3_; clear hb ho20))
       repeat (go_quiet (first | (go_at_call 46; (with_reducible refine (spec_l01In.calls ((rd_T36 l0 a1).f1) 1 8 true _ A15.out).mono ?_); rintro e w' ⟨rfl, ⟨nd, rfl⟩⟩; (try first | exact ⟨rfl, _, World.drewN_drewN _ _ _⟩ | exact ⟨rfl, _, Eq.trans (World.drewN_drewN _ _ _) (congrArg (World.drewN _) (Nat.add_assoc _ _ _))⟩)) | ((with_reducible refine gate_dst (N := 34) rfl ?_); refine Kd.R_lit (Kd.int .i64) _ 3 ?hg (N := 34) ?hd (xs := ([] : List Int)) (inner := []) (ok := fun _ => True) (okp := fun _ => True) ?hr ?hp (fun _ hk => hk) trivial (Below.refl _ _) (Nat.le_refl _) (by simp) ?_; (case hd => rfl); (case hg => rfl); (case hr => first | (go_simp; done) | (go_simp; rfl)); (case hp => exact (Reps.none _ _)); intro v146 w19 ho20 hb hg_ hnew_; clear hg_ hnew_; (first | rw [← Ny145.out] at ho20 | (simp only [Int.reduceToNat] at ho20; rw [← Ny145.out] at ho20)); have n0_ := Aside0.mk (Kd.R_elder' (by (with_reducible repeat (first | apply Kd.R_alloc | apply Kd.R_drewN | apply Kd.R_drew)); exact HO_6.out) (Kd.R_base ho20) hb); have n1_ := Aside0.mk (Kd.R_lower (Kd.R_new' ho20 (Kd.R_lt (by (with_reducible repeat (first | apply Kd.R_alloc | apply Kd.R_drewN | apply Kd.R_drew)); exact HO_6.out))) (below_size (by repeat (first | (with_reducible first | exact HB.out | apply below_alloc | apply pw_below_drewN | apply below_drew1 | refine below_set ?_ GE138.out) | exact HB.out)))); have n2_ := Aside0.mk (blk_below (g := gb138) (o := .cells #[.int .i64 ((rd_T36 l0 a1).f0), .int .i64 ((rd_T36 l0 a1).f1), .int .i64 ((rd_T36 l0 a1).f2), .int .i64 ((rd_T36 l0 a1).f3), .int .i64 ((rd_T36 l0 a1).f4), .int .i64 ((rd_T36 l0 a1).f5)] 36 (0, 0)) (by (with_reducible repeat (first | refine blk_drewN ?_ _ | refine blk_drew ?_ | refine blk_alloc ?_ _)); exact BK138.out) hb); have n3_ := Aside0.mk (below_step (by repeat (first | (with_reducible first | exact HB.out | apply below_alloc | apply pw_below_drewN | apply below_drew1 | refine below_set ?_ GE138.out) | exact HB.out)) hb); clear HO_6; clear BK138; clear HB; have HO_6 := n0_; have HO147 := n1_; have BK138 := n2_; have HB := n3_; clear n0_ n1_ n2_ n3_; clear hb ho20)); try go_wp2_with (first | (go_at_call 46; (with_reducible refine (spec_l01In.calls ((rd_T36 l0 a1).f1) 1 8 true _ A15.out).mono ?_); rintro e w' ⟨rfl, ⟨nd, rfl⟩⟩; (try first | exact ⟨rfl, _, World.drewN_drewN _ _ _⟩ | exact ⟨rfl, _, Eq.trans (World.drewN_drewN _ _ _) (congrArg (World.drewN _) (Nat.add_assoc _ _ _))⟩)) | ((with_reducible refine gate_dst (N := 34) rfl ?_); refine Kd.R_lit (Kd.int .i64) _ 3 ?hg (N := 34) ?hd (xs := ([] : List Int)) (inner := []) (ok := fun _ => True) (okp := fun _ => True) ?hr ?hp (fun _ hk => hk) trivial (Below.refl _ _) (Nat.le_refl _) (by simp) ?_; (case hd => rfl); (case hg => rfl); (case hr => first | (go_simp; done) | (go_simp; rfl)); (case hp => exact (Reps.none _ _)); intro v146 w19 ho20 hb hg_ hnew_; clear hg_ hnew_; (first | rw [← Ny145.out] at ho20 | (simp only [Int.reduceToNat] at ho20; rw [← Ny145.out] at ho20)); have n0_ := Aside0.mk (Kd.R_elder' (by (with_reducible repeat (first | apply Kd.R_alloc | apply Kd.R_drewN | apply Kd.R_drew)); exact HO_6.out) (Kd.R_base ho20) hb); have n1_ := Aside0.mk (Kd.R_lower (Kd.R_new' ho20 (Kd.R_lt (by (with_reducible repeat (first | apply Kd.R_alloc | apply Kd.R_drewN | apply Kd.R_drew)); exact HO_6.out))) (below_size (by repeat (first | (with_reducible first | exact HB.out | apply below_alloc | apply pw_below_drewN | apply below_drew1 | refine below_set ?_ GE138.out) | exact HB.out)))); have n2_ := Aside0.mk (blk_below (g := gb138) (o := .cells #[.int .i64 ((rd_T36 l0 a1).f0), .int .i64 ((rd_T36 l0 a1).f1), .int .i64 ((rd_T36 l0 a1).f2), .int .i64 ((rd_T36 l0 a1).f3), .int .i64 ((rd_T36 l0 a1).f4), .int .i64 ((rd_T36 l0 a1).f5)] 36 (0, 0)) (by (with_reducible repeat (first | refine blk_drewN ?_ _ | refine blk_drew ?_ | refine blk_alloc ?_ _)); exact BK138.out) hb); have n3_ := Aside0.mk (below_step (by repeat (first | (with_reducible first | exact HB.out | apply below_alloc | apply pw_below_drewN | apply below_drew1 | refine below_set ?_ GE138.out) | exact HB.out)) hb); clear HO_6; clear BK138; clear HB; have HO_6 := n0_; have HO147 := n1_; have BK138 := n2_; have HB := n3_; clear n0_ n1_ n2_ n3_; clear hb ho20)))
       go_loopg [8, 9] k1 (fun kq v8 v9 w' => ∃ (x8_2 : List Int) (x9_2 : Int), v9 = .int .i64 x9_2 ∧ Aside0 (spec_l02Node.l1 kq l0 t139 x8_2 x9_2 ((rd_T36 l0 a1).f0) ((rd_T36 l0 a1).f1) ((rd_T36 l0 a1).f2) ((rd_T36 l0 a1).f3) ((rd_T36 l0 a1).f4) ((rd_T36 l0 a1).f5) = some r) ∧ Aside0 (kq ≤ k1) ∧ Aside0 (Kd.R (Kd.int .i64) 3 w' w.heap.size (fun k_ => some k_ ≠ (v8 : Value).ownBlock) (.slice Ao17 t139.length co17) t139) ∧ Aside0 (Kd.R (Kd.int .i64) 3 w' w.heap.size (fun k_ => some k_ ≠ ((.slice Ao17 t139.length co17) : Value).ownBlock) v8 x8_2) ∧ Aside0 (w'.heap[gb138]? = some (.cells #[.int .i64 ((rd_T36 l0 a1).f0), .int .i64 ((rd_T36 l0 a1).f1), .int .i64 ((rd_T36 l0 a1).f2), .int .i64 ((rd_T36 l0 a1).f3), .int .i64 ((rd_T36 l0 a1).f4), .int .i64 ((rd_T36 l0 a1).f5)] 36 (0, 0))) ∧ Aside0 (Below w.heap.size w w'))
       case atStart => exact ⟨(y145), (0), (by first | rfl | (simp; done) | (simp [*]; done)), H', ⟨Nat.le_refl _⟩, ⟨by (with_reducible repeat (first | apply Kd.R_alloc | apply Kd.R_drewN | apply Kd.R_drew)); exact Kd.R_mono HO_6.out (fun _ hk => hk.2)⟩, ⟨by (with_reducible repeat (first | apply Kd.R_alloc | apply Kd.R_drewN | apply Kd.R_drew)); exact Kd.R_mono HO147.out (fun _ hk => hk.2)⟩, ⟨by (with_reducible repeat (first | refine blk_drewN ?_ _ | refine blk_drew ?_ | refine blk_alloc ?_ _)); exact BK138.out⟩, ⟨by repeat (first | (with_reducible first | exact HB.out | apply below_alloc | apply pw_below_drewN | apply below_drew1 | refine below_set ?_ GE138.out) | exact HB.out)⟩⟩
       case round =>
        clear H'
        try clear c1; try clear p1; try clear q1; try clear hx1; try clear p2; try clear c3; try clear c3b0; try clear c4; try clear c4b0; try clear p6; try clear c9; try clear c9b0; try clear c10; try clear c10b0; try clear c12; try clear p13; try clear q13; try clear hx13; try clear p14; try clear q14; try clear hx14; try clear c16; try clear hcz18_0; try clear hcz18_1; try clear hcz18_2; try clear hcz18_3; try clear hcz18_4; try clear hcz18_5; try clear hcz7_0; try clear hcz7_1; try clear hcz7_2; try clear hcz7_3; try clear hcz7_4; try clear hcz7_5; try clear hfz18_0; try clear hfz18_1; try clear hfz18_2; try clear hfz18_3; try clear hfz18_4; try clear hfz18_5; try clear hfz7_0; try clear hfz7_1; try clear hfz7_2; try clear hfz7_3; try clear hfz7_4; try clear hfz7_5; try clear hx137_0; try clear hx137_1; try clear hx137_2; try clear hx137_3; try clear hx137_4; try clear hx137_5; try clear hx142_0; try clear p1; try clear p137; try clear p142; try clear p2; try clear q1; try clear q137; try clear q142
        obtain ⟨x8_2, x9_2, rfl, HA, HK2, HO_6, HO_8, BK138, HB⟩ := hrel
        cases gk with
        | zero => exact absurd HA.out (by simp [spec_l02Node.l1])
        | succ k2 =>
         have H := HA.out
         clear HA
         simp only [spec_l02Node.l1] at H
         by_cases c21 : x9_2 < (t139.length : Int)
         ·rw [if_pos c21] at H
          have c21b0 : decide (x9_2 < (t139.length : Int)) = true := decide_eq_true c21
          clear c21
          by_cases c22 : 0 ≤ x9_2
          ·rw [if_pos c22] at H
           have c22b0 : decide (0 ≤ x9_2) = true := decide_eq_true c22
           clear c22
           by_cases c23 : 0 ≤ (rd t139 x9_2)
           ·rw [if_pos c23] at H
            have c23b0 : decide (0 ≤ (rd t139 x9_2)) = true := decide_eq_true c23
            clear c23
            by_cases c24 : (rd t139 x9_2) < (l0.length : Int)
            ·rw [if_pos c24] at H
             have c24b0 : decide ((rd t139 x9_2) < (l0.length : Int)) = true := decide_eq_true c24
             clear c24
             by_cases c25 : x8_2.length < 17592186044416
             ·rw [if_pos c25] at H
              have LMc25 := Aside0.mk c25
              clear c25
              obtain ⟨y150, hy150⟩ : ∃ y_ : List Int, y_ = (x8_2 ++ [(rd_T36 l0 (rd t139 x9_2)).f1]) := ⟨_, rfl⟩
              replace H : (spec_l02Node.l1 k2 l0 t139 y150 (wrap64 (x9_2 + 1)) ((rd_T36 l0 a1).f0) ((rd_T36 l0 a1).f1) ((rd_T36 l0 a1).f2) ((rd_T36 l0 a1).f3) ((rd_T36 l0 a1).f4) ((rd_T36 l0 a1).f5)) = some r := by first | (rw [hy150]; with_reducible exact H) | (have H2_ := (Option.bind_some _ _).symm.trans H; rw [hy150]; with_reducible exact H2_) | (have H2_ := (Option.bind_some _ _).symm.trans H; with_reducible exact H2_) | with_reducible exact H | (rw [hy150]; exact H) | exact H
              have Ny150 := Aside0.mk hy150
              clear hy150
              have H' := Aside0.mk H
              clear H
              have p148 : 0 ≤ (x9_2 : Int) := of_decide_eq_true (by first | (with_reducible assumption) | assumption)
              have q148 : x9_2 < (t139.length : Int) := of_decide_eq_true (by first | (with_reducible assumption) | assumption)
              obtain ⟨ad148, e148, hx148_0⟩ := Kd.at_int (Kd.R_reads' HO_6.out).2.2 x9_2 p148 q148
              cases e148
              replace p148 := eq_true p148
              replace q148 := eq_true q148
              have p149 : 0 ≤ ((rd t139 x9_2) : Int) := of_decide_eq_true (by first | (with_reducible assumption) | assumption)
              have q149 : (rd t139 x9_2) < (l0.length : Int) := of_decide_eq_true (by first | (with_reducible assumption) | assumption)
              obtain ⟨ad149, e149, hx149_0, hx149_1, hx149_2, hx149_3, hx149_4, hx149_5⟩ := at_T36 HR0.out (rd t139 x9_2) p149 q149
              obtain rfl : ad137 = ad149 := (by injection e149)
              replace hx149_0 := (HB.out.cell (World.block_lt_of_cell? w _ hx149_0)).trans hx149_0
              replace hx149_1 := (HB.out.cell (World.block_lt_of_cell? w _ hx149_1)).trans hx149_1
              replace hx149_2 := (HB.out.cell (World.block_lt_of_cell? w _ hx149_2)).trans hx149_2
              replace hx149_3 := (HB.out.cell (World.block_lt_of_cell? w _ hx149_3)).trans hx149_3
              replace hx149_4 := (HB.out.cell (World.block_lt_of_cell? w _ hx149_4)).trans hx149_4
              replace hx149_5 := (HB.out.cell (World.block_lt_of_cell? w _ hx149_5)).trans hx149_5
              replace p149 := eq_true p149
              replace q149 := eq_true q149
              go_wp2_with (first | ((with_reducible refine gate_builtin (b := .append) (xs := #[.tmp 41, .tmp 50]) rfl ?_); at_builtin; refine Kd.R_append (Kd.int .i64) (w0 := w) w.heap.size rfl (.tmp 41) (.tmp 50) 39 3 (.int .i64 0) 8 rfl Try.underlying39 info3 rfl (by decide) (by omega) u8 x8_2 ((rd_T36 l0 (rd t139 x9_2)).f1) [.int .i64 ((rd_T36 l0 (rd t139 x9_2)).f1)] (fun k_ => some k_ ≠ (.slice (some ad148) t139.length co17 : Value).ownBlock) (fun _ => False) rfl rfl ?aP (fun _ hk => hk.elim) ?aF ?aO ?aB ?aS ?aL ?_; (case aP => exact rfl); (case aB => exact (by repeat (first | (with_reducible first | exact HB.out | apply below_alloc | apply pw_below_drewN | apply below_drew1 | refine below_set ?_ GE138.out) | exact HB.out))); (case aF => exact (fun k_ hk => Kd.fresh' (Kd.R_lt (by (with_reducible repeat (first | apply Kd.R_alloc | apply Kd.R_drewN | apply Kd.R_drew)); exact HO_6.out)) k_ hk)); (case aO => exact (by (with_reducible repeat (first | apply Kd.R_alloc | apply Kd.R_drewN | apply Kd.R_drew)); exact HO_8.out)); (case aS => exact (below_size (by repeat (first | (with_reducible first | exact HB.out | apply below_alloc | apply pw_below_drewN | apply below_drew1 | refine below_set ?_ GE138.out) | exact HB.out)))); (case aL => have := LMc25.out; omega); intro v151 w26 ho hb hg hat; rw [← Ny150.out] at ho; have n0_ := Aside0.mk (Kd.R_after (ok := (fun _ => True)) (by (with_reducible repeat (first | apply Kd.R_alloc | apply Kd.R_drewN | apply Kd.R_drew)); exact Kd.R_mono HO_6.out (fun _ hk => ⟨trivial, hk⟩)) hg hat); have n1_ := Aside0.mk (blk_grown (g := gb138) (o := .cells #[.int .i64 ((rd_T36 l0 a1).f0), .int .i64 ((rd_T36 l0 a1).f1), .int .i64 ((rd_T36 l0 a1).f2), .int .i64 ((rd_T36 l0 a1).f3), .int .i64 ((rd_T36 l0 a1).f4), .int .i64 ((rd_T36 l0 a1).f5)] 36 (0, 0)) (by (with_reducible repeat (first | refine blk_drewN ?_ _ | refine blk_drew ?_ | refine blk_alloc ?_ _)); exact BK138.out) hg (Kd.R_ne HO_8.out BK138.out (by decide))); have n2_ := Aside0.mk (hb); have n3_ := Aside0.mk (ho); clear HO_6; clear BK138; clear HB; clear HO_8; have HO_6 := n0_; have BK138 := n1_; have HB := n2_; have HO152 := n3_; clear n0_ n1_ n2_ n3_; clear ho hb hg hat))
              repeat (go_quiet (first | ((with_reducible refine gate_builtin (b := .append) (xs := #[.tmp 41, .tmp 50]) rfl ?_); at_builtin; refine Kd.R_append (Kd.int .i64) (w0 := w) w.heap.size rfl (.tmp 41) (.tmp 50) 39 3 (.int .i64 0) 8 rfl Try.underlying39 info3 rfl (by decide) (by omega) u8 x8_2 ((rd_T36 l0 (rd t139 x9_2)).f1) [.int .i64 ((rd_T36 l0 (rd t139 x9_2)).f1)] (fun k_ => some k_ ≠ (.slice (some ad148) t139.length co17 : Value).ownBlock) (fun _ => False) rfl rfl ?aP (fun _ hk => hk.elim) ?aF ?aO ?aB ?aS ?aL ?_; (case aP => exact rfl); (case aB => exact (by repeat (first | (with_reducible first | exact HB.out | apply below_alloc | apply pw_below_drewN | apply below_drew1 | refine below_set ?_ GE138.out) | exact HB.out))); (case aF => exact (fun k_ hk => Kd.fresh' (Kd.R_lt (by (with_reducible repeat (first | apply Kd.R_alloc | apply Kd.R_drewN | apply Kd.R_drew)); exact HO_6.out)) k_ hk)); (case aO => exact (by (with_reducible repeat (first | apply Kd.R_alloc | apply Kd.R_drewN | apply Kd.R_drew)); exact HO_8.out)); (case aS => exact (below_size (by repeat (first | (with_reducible first | exact HB.out | apply below_alloc | apply pw_below_drewN | apply below_drew1 | refine below_set ?_ GE138.out) | exact HB.out)))); (case aL => have := LMc25.out; omega); intro v151 w26 ho hb hg hat; rw [← Ny150.out] at ho; have n0_ := Aside0.mk (Kd.R_after (ok := (fun _ => True)) (by (with_reducible repeat (first | apply Kd.R_alloc | apply Kd.R_drewN | apply Kd.R_drew)); exact Kd.R_mono HO_6.out (fun _ hk => ⟨trivial, hk⟩)) hg hat); have n1_ := Aside0.mk (blk_grown (g := gb138) (o := .cells #[.int .i64 ((rd_T36 l0 a1).f0), .int .i64 ((rd_T36 l0 a1).f1), .int .i64 ((rd_T36 l0 a1).f2), .int .i64 ((rd_T36 l0 a1).f3), .int .i64 ((rd_T36 l0 a1).f4), .int .i64 ((rd_T36 l0 a1).f5)] 36 (0, 0)) (by (with_reducible repeat (first | refine blk_drewN ?_ _ | refine blk_drew ?_ | refine blk_alloc ?_ _)); exact BK138.out) hg (Kd.R_ne HO_8.out BK138.out (by decide))); have n2_ := Aside0.mk (hb); have n3_ := Aside0.mk (ho); clear HO_6; clear BK138; clear HB; clear HO_8; have HO_6 := n0_; have BK138 := n1_; have HB := n2_; have HO152 := n3_; clear n0_ n1_ n2_ n3_; clear ho hb hg hat)); try go_wp2_with (first | ((with_reducible refine gate_builtin (b := .append) (xs := #[.tmp 41, .tmp 50]) rfl ?_); at_builtin; refine Kd.R_append (Kd.int .i64) (w0 := w) w.heap.size rfl (.tmp 41) (.tmp 50) 39 3 (.int .i64 0) 8 rfl Try.underlying39 info3 rfl (by decide) (by omega) u8 x8_2 ((rd_T36 l0 (rd t139 x9_2)).f1) [.int .i64 ((rd_T36 l0 (rd t139 x9_2)).f1)] (fun k_ => some k_ ≠ (.slice (some ad148) t139.length co17 : Value).ownBlock) (fun _ => False) rfl rfl ?aP (fun _ hk => hk.elim) ?aF ?aO ?aB ?aS ?aL ?_; (case aP => exact rfl); (case aB => exact (by repeat (first | (with_reducible first | exact HB.out | apply below_alloc | apply pw_below_drewN | apply below_drew1 | refine below_set ?_ GE138.out) | exact HB.out))); (case aF => exact (fun k_ hk => Kd.fresh' (Kd.R_lt (by (with_reducible repeat (first | apply Kd.R_alloc | apply Kd.R_drewN | apply Kd.R_drew)); exact HO_6.out)) k_ hk)); (case aO => exact (by (with_reducible repeat (first | apply Kd.R_alloc | apply Kd.R_drewN | apply Kd.R_drew)); exact HO_8.out)); (case aS => exact (below_size (by repeat (first | (with_reducible first | exact HB.out | apply below_alloc | apply pw_below_drewN | apply below_drew1 | refine below_set ?_ GE138.out) | exact HB.out)))); (case aL => have := LMc25.out; omega); intro v151 w26 ho hb hg hat; rw [← Ny150.out] at ho; have n0_ := Aside0.mk (Kd.R_after (ok := (fun _ => True)) (by (with_reducible repeat (first | apply Kd.R_alloc | apply Kd.R_drewN | apply Kd.R_drew)); exact Kd.R_mono HO_6.out (fun _ hk => ⟨trivial, hk⟩)) hg hat); have n1_ := Aside0.mk (blk_grown (g := gb138) (o := .cells #[.int .i64 ((rd_T36 l0 a1).f0), .int .i64 ((rd_T36 l0 a1).f1), .int .i64 ((rd_T36 l0 a1).f2), .int .i64 ((rd_T36 l0 a1).f3), .int .i64 ((rd_T36 l0 a1).f4), .int .i64 ((rd_T36 l0 a1).f5)] 36 (0, 0)) (by (with_reducible repeat (first | refine blk_drewN ?_ _ | refine blk_drew ?_ | refine blk_alloc ?_ _)); exact BK138.out) hg (Kd.R_ne HO_8.out BK138.out (by decide))); have n2_ := Aside0.mk (hb); have n3_ := Aside0.mk (ho); clear HO_6; clear BK138; clear HB; clear HO_8; have HO_6 := n0_; have BK138 := n1_; have HB := n2_; have HO152 := n3_; clear n0_ n1_ n2_ n3_; clear ho hb hg hat)))
              go_roundg k2
              case measure => have := HK1.out; have := HK2.out; omega
              case rel => exact ⟨(y150), (wrap64 (x9_2 + 1)), (by first | rfl | (simp; done) | (simp [*]; done)), H', ⟨by have := HK1.out; have := HK2.out; omega⟩, ⟨by (with_reducible repeat (first | apply Kd.R_alloc | apply Kd.R_drewN | apply Kd.R_drew)); exact Kd.R_mono HO_6.out (fun _ hk => hk.2)⟩, ⟨by (with_reducible repeat (first | apply Kd.R_alloc | apply Kd.R_drewN | apply Kd.R_drew)); exact HO152.out⟩, ⟨by (with_reducible repeat (first | refine blk_drewN ?_ _ | refine blk_drew ?_ | refine blk_alloc ?_ _)); exact BK138.out⟩, ⟨by repeat (first | (with_reducible first | exact HB.out | apply below_alloc | apply pw_below_drewN | apply below_drew1 | refine below_set ?_ GE138.out) | exact HB.out)⟩⟩
             ·rw [if_neg c25] at H
              exact absurd H (by simp)
            ·rw [if_neg c24] at H
             exact absurd H (by simp)
           ·rw [if_neg c23] at H
            exact absurd H (by simp)
          ·rw [if_neg c22] at H
           exact absurd H (by simp)
         ·rw [if_neg c21] at H
          have c21b0 : decide (x9_2 < (t139.length : Int)) = false := decide_eq_false c21
          clear c21
          by_cases c27 : ((rd_T36 l0 a1).f0) = 0
          ·rw [if_pos c27] at H
           have c27b0 : (((rd_T36 l0 a1).f0) == 0) = true := beq_iff_eq.mpr c27
           have c27b1 : (((rd_T36 l0 a1).f0) != 0) = false := bne_eq_false_iff_eq.mpr c27
           clear c27
           replace H := Option.bind_eq_some_iff.mp H
           obtain ⟨t153, A280, H⟩ := H
           replace H : (if t153 = true then (if ((rd_T36 l0 a1).f3) = 0 then (if ((rd_T36 l0 a1).f4) = 0 then (some (((rd_T36 l0 a1).f5) == 0)) else (some false)) else (some false)) else (some false)) = some r := H
           have A28 := Aside0.mk A280
           clear A280
           by_cases c29 : t153 = true
           ·subst c29
            have H1 : (if ((rd_T36 l0 a1).f3) = 0 then (if ((rd_T36 l0 a1).f4) = 0 then (some (((rd_T36 l0 a1).f5) == 0)) else (some false)) else (some false)) = some r := by rw [if_pos rfl] at H; exact H
            clear H
            have H := H1
            clear H1
            by_cases c30 : ((rd_T36 l0 a1).f3) = 0
            ·rw [if_pos c30] at H
             have c30b0 : (((rd_T36 l0 a1).f3) == 0) = true := beq_iff_eq.mpr c30
             have c30b1 : (((rd_T36 l0 a1).f3) != 0) = false := bne_eq_false_iff_eq.mpr c30
             clear c30
             by_cases c31 : ((rd_T36 l0 a1).f4) = 0
             ·rw [if_pos c31] at H
              have c31b0 : (((rd_T36 l0 a1).f4) == 0) = true := beq_iff_eq.mpr c31
              have c31b1 : (((rd_T36 l0 a1).f4) != 0) = false := bne_eq_false_iff_eq.mpr c31
              clear c31
              obtain rfl := Option.some.inj H
              have hcz32_0 : wr.cell? ⟨gb138, 0, none⟩ = some (.int .i64 ((rd_T36 l0 a1).f0)) := (blk_cell BK138.out 0).trans rfl
              have hcz32_1 : wr.cell? ⟨gb138, 1, none⟩ = some (.int .i64 ((rd_T36 l0 a1).f1)) := (blk_cell BK138.out 1).trans rfl
              have hcz32_2 : wr.cell? ⟨gb138, 2, none⟩ = some (.int .i64 ((rd_T36 l0 a1).f2)) := (blk_cell BK138.out 2).trans rfl
              have hcz32_3 : wr.cell? ⟨gb138, 3, none⟩ = some (.int .i64 ((rd_T36 l0 a1).f3)) := (blk_cell BK138.out 3).trans rfl
              have hcz32_4 : wr.cell? ⟨gb138, 4, none⟩ = some (.int .i64 ((rd_T36 l0 a1).f4)) := (blk_cell BK138.out 4).trans rfl
              have hcz32_5 : wr.cell? ⟨gb138, 5, none⟩ = some (.int .i64 ((rd_T36 l0 a1).f5)) := (blk_cell BK138.out 5).trans rfl
              have hfz32_0 := blk_frozen BK138.out 0
              have hfz32_1 := blk_frozen BK138.out 1
              have hfz32_2 := blk_frozen BK138.out 2
              have hfz32_3 := blk_frozen BK138.out 3
              have hfz32_4 := blk_frozen BK138.out 4
              have hfz32_5 := blk_frozen BK138.out 5
              go_wp2_with (first | (go_at_call 52; (with_reducible refine (spec_WordOk.calls k2 ((rd_T36 l0 a1).f1) ((rd_T36 l0 a1).f2) true _ A28.out).mono ?_); rintro e w' ⟨rfl, ⟨nd, rfl⟩⟩; (try first | exact ⟨rfl, _, World.drewN_drewN _ _ _⟩ | exact ⟨rfl, _, Eq.trans (World.drewN_drewN _ _ _) (congrArg (World.drewN _) (Nat.add_assoc _ _ _))⟩)))
              repeat (go_quiet (first | (go_at_call 52; (with_reducible refine (spec_WordOk.calls k2 ((rd_T36 l0 a1).f1) ((rd_T36 l0 a1).f2) true _ A28.out).mono ?_); rintro e w' ⟨rfl, ⟨nd, rfl⟩⟩; (try first | exact ⟨rfl, _, World.drewN_drewN _ _ _⟩ | exact ⟨rfl, _, Eq.trans (World.drewN_drewN _ _ _) (congrArg (World.drewN _) (Nat.add_assoc _ _ _))⟩))); try go_wp2_with (first | (go_at_call 52; (with_reducible refine (spec_WordOk.calls k2 ((rd_T36 l0 a1).f1) ((rd_T36 l0 a1).f2) true _ A28.out).mono ?_); rintro e w' ⟨rfl, ⟨nd, rfl⟩⟩; (try first | exact ⟨rfl, _, World.drewN_drewN _ _ _⟩ | exact ⟨rfl, _, Eq.trans (World.drewN_drewN _ _ _) (congrArg (World.drewN _) (Nat.add_assoc _ _ _))⟩))))
              go_ret
              exact ⟨by first | rfl | (simp [errW_none, errW_some] <;> rfl) | (simp [*, errW_none, errW_some] <;> rfl), by repeat (first | (with_reducible first | exact HB.out | apply below_alloc | apply pw_below_drewN | apply below_drew1 | refine below_set ?_ GE138.out) | exact HB.out)⟩
             ·rw [if_neg c31] at H
              have c31b0 : (((rd_T36 l0 a1).f4) == 0) = false := beq_eq_false_iff_ne.mpr c31
              have c31b1 : (((rd_T36 l0 a1).f4) != 0) = true := bne_iff_ne.mpr c31
              obtain rfl := Option.some.inj H
              have hcz33_0 : wr.cell? ⟨gb138, 0, none⟩ = some (.int .i64 ((rd_T36 l0 a1).f0)) := (blk_cell BK138.out 0).trans rfl
              have hcz33_1 : wr.cell? ⟨gb138, 1, none⟩ = some (.int .i64 ((rd_T36 l0 a1).f1)) := (blk_cell BK138.out 1).trans rfl
              have hcz33_2 : wr.cell? ⟨gb138, 2, none⟩ = some (.int .i64 ((rd_T36 l0 a1).f2)) := (blk_cell BK138.out 2).trans rfl
              have hcz33_3 : wr.cell? ⟨gb138, 3, none⟩ = some (.int .i64 ((rd_T36 l0 a1).f3)) := (blk_cell BK138.out 3).trans rfl
              have hcz33_4 : wr.cell? ⟨gb138, 4, none⟩ = some (.int .i64 ((rd_T36 l0 a1).f4)) := (blk_cell BK138.out 4).trans rfl
              have hcz33_5 : wr.cell? ⟨gb138, 5, none⟩ = some (.int .i64 ((rd_T36 l0 a1).f5)) := (blk_cell BK138.out 5).trans rfl
              have hfz33_0 := blk_frozen BK138.out 0
              have hfz33_1 := blk_frozen BK138.out 1
              have hfz33_2 := blk_frozen BK138.out 2
              have hfz33_3 := blk_frozen BK138.out 3
              have hfz33_4 := blk_frozen BK138.out 4
              have hfz33_5 := blk_frozen BK138.out 5
              go_wp2_with (first | (go_at_call 52; (with_reducible refine (spec_WordOk.calls k2 ((rd_T36 l0 a1).f1) ((rd_T36 l0 a1).f2) true _ A28.out).mono ?_); rintro e w' ⟨rfl, ⟨nd, rfl⟩⟩; (try first | exact ⟨rfl, _, World.drewN_drewN _ _ _⟩ | exact ⟨rfl, _, Eq.trans (World.drewN_drewN _ _ _) (congrArg (World.drewN _) (Nat.add_assoc _ _ _))⟩)))
              repeat (go_quiet (first | (go_at_call 52; (with_reducible refine (spec_WordOk.calls k2 ((rd_T36 l0 a1).f1) ((rd_T36 l0 a1).f2) true _ A28.out).mono ?_); rintro e w' ⟨rfl, ⟨nd, rfl⟩⟩; (try first | exact ⟨rfl, _, World.drewN_drewN _ _ _⟩ | exact ⟨rfl, _, Eq.trans (World.drewN_drewN _ _ _) (congrArg (World.drewN _) (Nat.add_assoc _ _ _))⟩))); try go_wp2_with (first | (go_at_call 52; (with_reducible refine (spec_WordOk.calls k2 ((rd_T36 l0 a1).f1) ((rd_T36 l0 a1).f2) true _ A28.out).mono ?_); rintro e w' ⟨rfl, ⟨nd, rfl⟩⟩; (try first | exact ⟨rfl, _, World.drewN_drewN _ _ _⟩ | exact ⟨rfl, _, Eq.trans (World.drewN_drewN _ _ _) (congrArg (World.drewN _) (Nat.add_assoc _ _ _))⟩))))
              go_ret
              exact ⟨by first | rfl | (simp [errW_none, errW_some] <;> rfl) | (simp [*, errW_none, errW_some] <;> rfl), by repeat (first | (with_reducible first | exact HB.out | apply below_alloc | apply pw_below_drewN | apply below_drew1 | refine below_set ?_ GE138.out) | exact HB.out)⟩
            ·rw [if_neg c30] at H
             have c30b0 : (((rd_T36 l0 a1).f3) == 0) = false := beq_eq_false_iff_ne.mpr c30
             have c30b1 : (((rd_T36 l0 a1).f3) != 0) = true := bne_iff_ne.mpr c30
             obtain rfl := Option.some.inj H
             have hcz34_0 : wr.cell? ⟨gb138, 0, none⟩ = some (.int .i64 ((rd_T36 l0 a1).f0)) := (blk_cell BK138.out 0).trans rfl
             have hcz34_1 : wr.cell? ⟨gb138, 1, none⟩ = some (.int .i64 ((rd_T36 l0 a1).f1)) := (blk_cell BK138.out 1).trans rfl
             have hcz34_2 : wr.cell? ⟨gb138, 2, none⟩ = some (.int .i64 ((rd_T36 l0 a1).f2)) := (blk_cell BK138.out 2).trans rfl
             have hcz34_3 : wr.cell? ⟨gb138, 3, none⟩ = some (.int .i64 ((rd_T36 l0 a1).f3)) := (blk_cell BK138.out 3).trans rfl
             have hcz34_4 : wr.cell? ⟨gb138, 4, none⟩ = some (.int .i64 ((rd_T36 l0 a1).f4)) := (blk_cell BK138.out 4).trans rfl
             have hcz34_5 : wr.cell? ⟨gb138, 5, none⟩ = some (.int .i64 ((rd_T36 l0 a1).f5)) := (blk_cell BK138.out 5).trans rfl
             have hfz34_0 := blk_frozen BK138.out 0
             have hfz34_1 := blk_frozen BK138.out 1
             have hfz34_2 := blk_frozen BK138.out 2
             have hfz34_3 := blk_frozen BK138.out 3
             have hfz34_4 := blk_frozen BK138.out 4
             have hfz34_5 := blk_frozen BK138.out 5
             go_wp2_with (first | (go_at_call 52; (with_reducible refine (spec_WordOk.calls k2 ((rd_T36 l0 a1).f1) ((rd_T36 l0 a1).f2) true _ A28.out).mono ?_); rintro e w' ⟨rfl, ⟨nd, rfl⟩⟩; (try first | exact ⟨rfl, _, World.drewN_drewN _ _ _⟩ | exact ⟨rfl, _, Eq.trans (World.drewN_drewN _ _ _) (congrArg (World.drewN _) (Nat.add_assoc _ _ _))⟩)))
             repeat (go_quiet (first | (go_at_call 52; (with_reducible refine (spec_WordOk.calls k2 ((rd_T36 l0 a1).f1) ((rd_T36 l0 a1).f2) true _ A28.out).mono ?_); rintro e w' ⟨rfl, ⟨nd, rfl⟩⟩; (try first | exact ⟨rfl, _, World.drewN_drewN _ _ _⟩ | exact ⟨rfl, _, Eq.trans (World.drewN_drewN _ _ _) (congrArg (World.drewN _) (Nat.add_assoc _ _ _))⟩))); try go_wp2_with (first | (go_at_call 52; (with_reducible refine (spec_WordOk.calls k2 ((rd_T36 l0 a1).f1) ((rd_T36 l0 a1).f2) true _ A28.out).mono ?_); rintro e w' ⟨rfl, ⟨nd, rfl⟩⟩; (try first | exact ⟨rfl, _, World.drewN_drewN _ _ _⟩ | exact ⟨rfl, _, Eq.trans (World.drewN_drewN _ _ _) (congrArg (World.drewN _) (Nat.add_assoc _ _ _))⟩))))
             go_ret
             exact ⟨by first | rfl | (simp [errW_none, errW_some] <;> rfl) | (simp [*, errW_none, errW_some] <;> rfl), by repeat (first | (with_reducible first | exact HB.out | apply below_alloc | apply pw_below_drewN | apply below_drew1 | refine below_set ?_ GE138.out) | exact HB.out)⟩
           ·replace c29 := Bool.eq_false_iff.mpr c29
            subst c29
            have H1 : (some false) = some r := by rw [if_neg (show ¬ (false = true) by decide)] at H; exact H
            clear H
            have H := H1
            clear H1
            obtain rfl := Option.some.inj H
            have hcz35_0 : wr.cell? ⟨gb138, 0, none⟩ = some (.int .i64 ((rd_T36 l0 a1).f0)) := (blk_cell BK138.out 0).trans rfl
            have hcz35_1 : wr.cell? ⟨gb138, 1, none⟩ = some (.int .i64 ((rd_T36 l0 a1).f1)) := (blk_cell BK138.out 1).trans rfl
            have hcz35_2 : wr.cell? ⟨gb138, 2, none⟩ = some (.int .i64 ((rd_T36 l0 a1).f2)) := (blk_cell BK138.out 2).trans rfl
            have hcz35_3 : wr.cell? ⟨gb138, 3, none⟩ = some (.int .i64 ((rd_T36 l0 a1).f3)) := (blk_cell BK138.out 3).trans rfl
            have hcz35_4 : wr.cell? ⟨gb138, 4, none⟩ = some (.int .i64 ((rd_T36 l0 a1).f4)) := (blk_cell BK138.out 4).trans rfl
            have hcz35_5 : wr.cell? ⟨gb138, 5, none⟩ = some (.int .i64 ((rd_T36 l0 a1).f5)) := (blk_cell BK138.out 5).trans rfl
            have hfz35_0 := blk_frozen BK138.out 0
            have hfz35_1 := blk_frozen BK138.out 1
            have hfz35_2 := blk_frozen BK138.out 2
            have hfz35_3 := blk_frozen BK138.out 3
            have hfz35_4 := blk_frozen BK138.out 4
            have hfz35_5 := blk_frozen BK138.out 5
            go_wp2_with (first | (go_at_call 52; (with_reducible refine (spec_WordOk.calls k2 ((rd_T36 l0 a1).f1) ((rd_T36 l0 a1).f2) false _ A28.out).mono ?_); rintro e w' ⟨rfl, ⟨nd, rfl⟩⟩; (try first | exact ⟨rfl, _, World.drewN_drewN _ _ _⟩ | exact ⟨rfl, _, Eq.trans (World.drewN_drewN _ _ _) (congrArg (World.drewN _) (Nat.add_assoc _ _ _))⟩)))
            repeat (go_quiet (first | (go_at_call 52; (with_reducible refine (spec_WordOk.calls k2 ((rd_T36 l0 a1).f1) ((rd_T36 l0 a1).f2) false _ A28.out).mono ?_); rintro e w' ⟨rfl, ⟨nd, rfl⟩⟩; (try first | exact ⟨rfl, _, World.drewN_drewN _ _ _⟩ | exact ⟨rfl, _, Eq.trans (World.drewN_drewN _ _ _) (congrArg (World.drewN _) (Nat.add_assoc _ _ _))⟩))); try go_wp2_with (first | (go_at_call 52; (with_reducible refine (spec_WordOk.calls k2 ((rd_T36 l0 a1).f1) ((rd_T36 l0 a1).f2) false _ A28.out).mono ?_); rintro e w' ⟨rfl, ⟨nd, rfl⟩⟩; (try first | exact ⟨rfl, _, World.drewN_drewN _ _ _⟩ | exact ⟨rfl, _, Eq.trans (World.drewN_drewN _ _ _) (congrArg (World.drewN _) (Nat.add_assoc _ _ _))⟩))))
            go_ret
            exact ⟨by first | rfl | (simp [errW_none, errW_some] <;> rfl) | (simp [*, errW_none, errW_some] <;> rfl), by repeat (first | (with_reducible first | exact HB.out | apply below_alloc | apply pw_below_drewN | apply below_drew1 | refine below_set ?_ GE138.out) | exact HB.out)⟩
          ·rw [if_neg c27] at H
           have c27b0 : (((rd_T36 l0 a1).f0) == 0) = false := beq_eq_false_iff_ne.mpr c27
           have c27b1 : (((rd_T36 l0 a1).f0) != 0) = true := bne_iff_ne.mpr c27
           by_cases c36 : ((rd_T36 l0 a1).f0) = 1
           ·rw [if_pos c36] at H
            have c36b0 : (((rd_T36 l0 a1).f0) == 1) = true := beq_iff_eq.mpr c36
            have c36b1 : (((rd_T36 l0 a1).f0) != 1) = false := bne_eq_false_iff_eq.mpr c36
            clear c36
            replace H := Option.bind_eq_some_iff.mp H
            obtain ⟨t154, A370, H⟩ := H
            replace H : (if t154 = true then (if ((rd_T36 l0 a1).f3) = 0 then (if ((rd_T36 l0 a1).f4) = 0 then (some (((rd_T36 l0 a1).f5) == 0)) else (some false)) else (some false)) else (some false)) = some r := H
            have A37 := Aside0.mk A370
            clear A370
            by_cases c38 : t154 = true
            ·subst c38
             have H1 : (if ((rd_T36 l0 a1).f3) = 0 then (if ((rd_T36 l0 a1).f4) = 0 then (some (((rd_T36 l0 a1).f5) == 0)) else (some false)) else (some false)) = some r := by rw [if_pos rfl] at H; exact H
             clear H
             have H := H1
             clear H1
             by_cases c39 : ((rd_T36 l0 a1).f3) = 0
             ·rw [if_pos c39] at H
              have c39b0 : (((rd_T36 l0 a1).f3) == 0) = true := beq_iff_eq.mpr c39
              have c39b1 : (((rd_T36 l0 a1).f3) != 0) = false := bne_eq_false_iff_eq.mpr c39
              clear c39
              by_cases c40 : ((rd_T36 l0 a1).f4) = 0
              ·rw [if_pos c40] at H
               have c40b0 : (((rd_T36 l0 a1).f4) == 0) = true := beq_iff_eq.mpr c40
               have c40b1 : (((rd_T36 l0 a1).f4) != 0) = false := bne_eq_false_iff_eq.mpr c40
               clear c40
               obtain rfl := Option.some.inj H
               have hcz41_0 : wr.cell? ⟨gb138, 0, none⟩ = some (.int .i64 ((rd_T36 l0 a1).f0)) := (blk_cell BK138.out 0).trans rfl
               have hcz41_1 : wr.cell? ⟨gb138, 1, none⟩ = some (.int .i64 ((rd_T36 l0 a1).f1)) := (blk_cell BK138.out 1).trans rfl
               have hcz41_2 : wr.cell? ⟨gb138, 2, none⟩ = some (.int .i64 ((rd_T36 l0 a1).f2)) := (blk_cell BK138.out 2).trans rfl
               have hcz41_3 : wr.cell? ⟨gb138, 3, none⟩ = some (.int .i64 ((rd_T36 l0 a1).f3)) := (blk_cell BK138.out 3).trans rfl
               have hcz41_4 : wr.cell? ⟨gb138, 4, none⟩ = some (.int .i64 ((rd_T36 l0 a1).f4)) := (blk_cell BK138.out 4).trans rfl
               have hcz41_5 : wr.cell? ⟨gb138, 5, none⟩ = some (.int .i64 ((rd_T36 l0 a1).f5)) := (blk_cell BK138.out 5).trans rfl
               have hfz41_0 := blk_frozen BK138.out 0
               have hfz41_1 := blk_frozen BK138.out 1
               have hfz41_2 := blk_frozen BK138.out 2
               have hfz41_3 := blk_frozen BK138.out 3
               have hfz41_4 := blk_frozen BK138.out 4
               have hfz41_5 := blk_frozen BK138.out 5
               go_wp2_with (first | (go_at_call 46; (with_reducible refine (spec_l01In.calls ((rd_T36 l0 a1).f2) 0 7 true _ A37.out).mono ?_); rintro e w' ⟨rfl, ⟨nd, rfl⟩⟩; (try first | exact ⟨rfl, _, World.drewN_drewN _ _ _⟩ | exact ⟨rfl, _, Eq.trans (World.drewN_drewN _ _ _) (congrArg (World.drewN _) (Nat.add_assoc _ _ _))⟩)))
               repeat (go_quiet (first | (go_at_call 46; (with_reducible refine (spec_l01In.calls ((rd_T36 l0 a1).f2) 0 7 true _ A37.out).mono ?_); rintro e w' ⟨rfl, ⟨nd, rfl⟩⟩; (try first | exact ⟨rfl, _, World.drewN_drewN _ _ _⟩ | exact ⟨rfl, _, Eq.trans (World.drewN_drewN _ _ _) (congrArg (World.drewN _) (Nat.add_assoc _ _ _))⟩))); try go_wp2_with (first | (go_at_call 46; (with_reducible refine (spec_l01In.calls ((rd_T36 l0 a1).f2) 0 7 true _ A37.out).mono ?_); rintro e w' ⟨rfl, ⟨nd, rfl⟩⟩; (try first | exact ⟨rfl, _, World.drewN_drewN _ _ _⟩ | exact ⟨rfl, _, Eq.trans (World.drewN_drewN _ _ _) (congrArg (World.drewN _) (Nat.add_assoc _ _ _))⟩))))
               go_ret
               exact ⟨by first | rfl | (simp [errW_none, errW_some] <;> rfl) | (simp [*, errW_none, errW_some] <;> rfl), by repeat (first | (with_reducible first | exact HB.out | apply below_alloc | apply pw_below_drewN | apply below_drew1 | refine below_set ?_ GE138.out) | exact HB.out)⟩
              ·rw [if_neg c40] at H
               have c40b0 : (((rd_T36 l0 a1).f4) == 0) = false := beq_eq_false_iff_ne.mpr c40
               have c40b1 : (((rd_T36 l0 a1).f4) != 0) = true := bne_iff_ne.mpr c40
               obtain rfl := Option.some.inj H
               have hcz42_0 : wr.cell? ⟨gb138, 0, none⟩ = some (.int .i64 ((rd_T36 l0 a1).f0)) := (blk_cell BK138.out 0).trans rfl
               have hcz42_1 : wr.cell? ⟨gb138, 1, none⟩ = some (.int .i64 ((rd_T36 l0 a1).f1)) := (blk_cell BK138.out 1).trans rfl
               have hcz42_2 : wr.cell? ⟨gb138, 2, none⟩ = some (.int .i64 ((rd_T36 l0 a1).f2)) := (blk_cell BK138.out 2).trans rfl
               have hcz42_3 : wr.cell? ⟨gb138, 3, none⟩ = some (.int .i64 ((rd_T36 l0 a1).f3)) := (blk_cell BK138.out 3).trans rfl
               have hcz42_4 : wr.cell? ⟨gb138, 4, none⟩ = some (.int .i64 ((rd_T36 l0 a1).f4)) := (blk_cell BK138.out 4).trans rfl
               have hcz42_5 : wr.cell? ⟨gb138, 5, none⟩ = some (.int .i64 ((rd_T36 l0 a1).f5)) := (blk_cell BK138.out 5).trans rfl
               have hfz42_0 := blk_frozen BK138.out 0
               have hfz42_1 := blk_frozen BK138.out 1
               have hfz42_2 := blk_frozen BK138.out 2
               have hfz42_3 := blk_frozen BK138.out 3
               have hfz42_4 := blk_frozen BK138.out 4
               have hfz42_5 := blk_frozen BK138.out 5
               go_wp2_with (first | (go_at_call 46; (with_reducible refine (spec_l01In.calls ((rd_T36 l0 a1).f2) 0 7 true _ A37.out).mono ?_); rintro e w' ⟨rfl, ⟨nd, rfl⟩⟩; (try first | exact ⟨rfl, _, World.drewN_drewN _ _ _⟩ | exact ⟨rfl, _, Eq.trans (World.drewN_drewN _ _ _) (congrArg (World.drewN _) (Nat.add_assoc _ _ _))⟩)))
               repeat (go_quiet (first | (go_at_call 46; (with_reducible refine (spec_l01In.calls ((rd_T36 l0 a1).f2) 0 7 true _ A37.out).mono ?_); rintro e w' ⟨rfl, ⟨nd, rfl⟩⟩; (try first | exact ⟨rfl, _, World.drewN_drewN _ _ _⟩ | exact ⟨rfl, _, Eq.trans (World.drewN_drewN _ _ _) (congrArg (World.drewN _) (Nat.add_assoc _ _ _))⟩))); try go_wp2_with (first | (go_at_call 46; (with_reducible refine (spec_l01In.calls ((rd_T36 l0 a1).f2) 0 7 true _ A37.out).mono ?_); rintro e w' ⟨rfl, ⟨nd, rfl⟩⟩; (try first | exact ⟨rfl, _, World.drewN_drewN _ _ _⟩ | exact ⟨rfl, _, Eq.trans (World.drewN_drewN _ _ _) (congrArg (World.drewN _) (Nat.add_assoc _ _ _))⟩))))
               go_ret
               exact ⟨by first | rfl | (simp [errW_none, errW_some] <;> rfl) | (simp [*, errW_none, errW_some] <;> rfl), by repeat (first | (with_reducible first | exact HB.out | apply below_alloc | apply pw_below_drewN | apply below_drew1 | refine below_set ?_ GE138.out) | exact HB.out)⟩
             ·rw [if_neg c39] at H
              have c39b0 : (((rd_T36 l0 a1).f3) == 0) = false := beq_eq_false_iff_ne.mpr c39
              have c39b1 : (((rd_T36 l0 a1).f3) != 0) = true := bne_iff_ne.mpr c39
              obtain rfl := Option.some.inj H
              have hcz43_0 : wr.cell? ⟨gb138, 0, none⟩ = some (.int .i64 ((rd_T36 l0 a1).f0)) := (blk_cell BK138.out 0).trans rfl
              have hcz43_1 : wr.cell? ⟨gb138, 1, none⟩ = some (.int .i64 ((rd_T36 l0 a1).f1)) := (blk_cell BK138.out 1).trans rfl
              have hcz43_2 : wr.cell? ⟨gb138, 2, none⟩ = some (.int .i64 ((rd_T36 l0 a1).f2)) := (blk_cell BK138.out 2).trans rfl
              have hcz43_3 : wr.cell? ⟨gb138, 3, none⟩ = some (.int .i64 ((rd_T36 l0 a1).f3)) := (blk_cell BK138.out 3).trans rfl
              have hcz43_4 : wr.cell? ⟨gb138, 4, none⟩ = some (.int .i64 ((rd_T36 l0 a1).f4)) := (blk_cell BK138.out 4).trans rfl
              have hcz43_5 : wr.cell? ⟨gb138, 5, none⟩ = some (.int .i64 ((rd_T36 l0 a1).f5)) := (blk_cell BK138.out 5).trans rfl
              have hfz43_0 := blk_frozen BK138.out 0
              have hfz43_1 := blk_frozen BK138.out 1
              have hfz43_2 := blk_frozen BK138.out 2
              have hfz43_3 := blk_frozen BK138.out 3
              have hfz43_4 := blk_frozen BK138.out 4
              have hfz43_5 := blk_frozen BK138.out 5
              go_wp2_with (first | (go_at_call 46; (with_reducible refine (spec_l01In.calls ((rd_T36 l0 a1).f2) 0 7 true _ A37.out).mono ?_); rintro e w' ⟨rfl, ⟨nd, rfl⟩⟩; (try first | exact ⟨rfl, _, World.drewN_drewN _ _ _⟩ | exact ⟨rfl, _, Eq.trans (World.drewN_drewN _ _ _) (congrArg (World.drewN _) (Nat.add_assoc _ _ _))⟩)))
              repeat (go_quiet (first | (go_at_call 46; (with_reducible refine (spec_l01In.calls ((rd_T36 l0 a1).f2) 0 7 true _ A37.out).mono ?_); rintro e w' ⟨rfl, ⟨nd, rfl⟩⟩; (try first | exact ⟨rfl, _, World.drewN_drewN _ _ _⟩ | exact ⟨rfl, _, Eq.trans (World.drewN_drewN _ _ _) (congrArg (World.drewN _) (Nat.add_assoc _ _ _))⟩))); try go_wp2_with (first | (go_at_call 46; (with_reducible refine (spec_l01In.calls ((rd_T36 l0 a1).f2) 0 7 true _ A37.out).mono ?_); rintro e w' ⟨rfl, ⟨nd, rfl⟩⟩; (try first | exact ⟨rfl, _, World.drewN_drewN _ _ _⟩ | exact ⟨rfl, _, Eq.trans (World.drewN_drewN _ _ _) (congrArg (World.drewN _) (Nat.add_assoc _ _ _))⟩))))
              go_ret
              exact ⟨by first | rfl | (simp [errW_none, errW_some] <;> rfl) | (simp [*, errW_none, errW_some] <;> rfl), by repeat (first | (with_reducible first | exact HB.out | apply below_alloc | apply pw_below_drewN | apply below_drew1 | refine below_set ?_ GE138.out) | exact HB.out)⟩
            ·replace c38 := Bool.eq_false_iff.mpr c38
             subst c38
             have H1 : (some false) = some r := by rw [if_neg (show ¬ (false = true) by decide)] at H; exact H
             clear H
             have H := H1
             clear H1
             obtain rfl := Option.some.inj H
             have hcz44_0 : wr.cell? ⟨gb138, 0, none⟩ = some (.int .i64 ((rd_T36 l0 a1).f0)) := (blk_cell BK138.out 0).trans rfl
             have hcz44_1 : wr.cell? ⟨gb138, 1, none⟩ = some (.int .i64 ((rd_T36 l0 a1).f1)) := (blk_cell BK138.out 1).trans rfl
             have hcz44_2 : wr.cell? ⟨gb138, 2, none⟩ = some (.int .i64 ((rd_T36 l0 a1).f2)) := (blk_cell BK138.out 2).trans rfl
             have hcz44_3 : wr.cell? ⟨gb138, 3, none⟩ = some (.int .i64 ((rd_T36 l0 a1).f3)) := (blk_cell BK138.out 3).trans rfl
             have hcz44_4 : wr.cell? ⟨gb138, 4, none⟩ = some (.int .i64 ((rd_T36 l0 a1).f4)) := (blk_cell BK138.out 4).trans rfl
             have hcz44_5 : wr.cell? ⟨gb138, 5, none⟩ = some (.int .i64 ((rd_T36 l0 a1).f5)) := (blk_cell BK138.out 5).trans rfl
             have hfz44_0 := blk_frozen BK138.out 0
             have hfz44_1 := blk_frozen BK138.out 1
             have hfz44_2 := blk_frozen BK138.out 2
             have hfz44_3 := blk_frozen BK138.out 3
             have hfz44_4 := blk_frozen BK138.out 4
             have hfz44_5 := blk_frozen BK138.out 5
             go_wp2_with (first | (go_at_call 46; (with_reducible refine (spec_l01In.calls ((rd_T36 l0 a1).f2) 0 7 false _ A37.out).mono ?_); rintro e w' ⟨rfl, ⟨nd, rfl⟩⟩; (try first | exact ⟨rfl, _, World.drewN_drewN _ _ _⟩ | exact ⟨rfl, _, Eq.trans (World.drewN_drewN _ _ _) (congrArg (World.drewN _) (Nat.add_assoc _ _ _))⟩)))
             repeat (go_quiet (first | (go_at_call 46; (with_reducible refine (spec_l01In.calls ((rd_T36 l0 a1).f2) 0 7 false _ A37.out).mono ?_); rintro e w' ⟨rfl, ⟨nd, rfl⟩⟩; (try first | exact ⟨rfl, _, World.drewN_drewN _ _ _⟩ | exact ⟨rfl, _, Eq.trans (World.drewN_drewN _ _ _) (congrArg (World.drewN _) (Nat.add_assoc _ _ _))⟩))); try go_wp2_with (first | (go_at_call 46; (with_reducible refine (spec_l01In.calls ((rd_T36 l0 a1).f2) 0 7 false _ A37.out).mono ?_); rintro e w' ⟨rfl, ⟨nd, rfl⟩⟩; (try first | exact ⟨rfl, _, World.drewN_drewN _ _ _⟩ | exact ⟨rfl, _, Eq.trans (World.drewN_drewN _ _ _) (congrArg (World.drewN _) (Nat.add_assoc _ _ _))⟩))))
             go_ret
             exact ⟨by first | rfl | (simp [errW_none, errW_some] <;> rfl) | (simp [*, errW_none, errW_some] <;> rfl), by repeat (first | (with_reducible first | exact HB.out | apply below_alloc | apply pw_below_drewN | apply below_drew1 | refine below_set ?_ GE138.out) | exact HB.out)⟩
           ·rw [if_neg c36] at H
            have c36b0 : (((rd_T36 l0 a1).f0) == 1) = false := beq_eq_false_iff_ne.mpr c36
            have c36b1 : (((rd_T36 l0 a1).f0) != 1) = true := bne_iff_ne.mpr c36
            by_cases c45 : ((rd_T36 l0 a1).f0) = 2
            ·rw [if_pos c45] at H
             have c45b0 : (((rd_T36 l0 a1).f0) == 2) = true := beq_iff_eq.mpr c45
             have c45b1 : (((rd_T36 l0 a1).f0) != 2) = false := bne_eq_false_iff_eq.mpr c45
             clear c45
             by_cases c46 : 0 < (x8_2.length : Int)
             ·rw [if_pos c46] at H
              have c46b0 : decide (0 < (x8_2.length : Int)) = true := decide_eq_true c46
              have c46b1 : decide (0 < x8_2.length) = true := decide_eq_true (by omega)
              clear c46
              by_cases c47 : (rd x8_2 0) = ((rd_T36 l0 a1).f1)
              ·rw [if_pos c47] at H
               have c47b0 : ((rd x8_2 0) == ((rd_T36 l0 a1).f1)) = true := beq_iff_eq.mpr c47
               have c47b1 : ((rd x8_2 0) != ((rd_T36 l0 a1).f1)) = false := bne_eq_false_iff_eq.mpr c47
               clear c47
               by_cases c48 : ((rd_T36 l0 a1).f2) = 0
               ·rw [if_pos c48] at H
                have c48b0 : (((rd_T36 l0 a1).f2) == 0) = true := beq_iff_eq.mpr c48
                have c48b1 : (((rd_T36 l0 a1).f2) != 0) = false := bne_eq_false_iff_eq.mpr c48
                clear c48
                by_cases c49 : ((rd_T36 l0 a1).f4) = 0
                ·rw [if_pos c49] at H
                 have c49b0 : (((rd_T36 l0 a1).f4) == 0) = true := beq_iff_eq.mpr c49
                 have c49b1 : (((rd_T36 l0 a1).f4) != 0) = false := bne_eq_false_iff_eq.mpr c49
                 clear c49
                 obtain rfl := Option.some.inj H
                 have hcz50_0 : wr.cell? ⟨gb138, 0, none⟩ = some (.int .i64 ((rd_T36 l0 a1).f0)) := (blk_cell BK138.out 0).trans rfl
                 have hcz50_1 : wr.cell? ⟨gb138, 1, none⟩ = some (.int .i64 ((rd_T36 l0 a1).f1)) := (blk_cell BK138.out 1).trans rfl
                 have hcz50_2 : wr.cell? ⟨gb138, 2, none⟩ = some (.int .i64 ((rd_T36 l0 a1).f2)) := (blk_cell BK138.out 2).trans rfl
                 have hcz50_3 : wr.cell? ⟨gb138, 3, none⟩ = some (.int .i64 ((rd_T36 l0 a1).f3)) := (blk_cell BK138.out 3).trans rfl
                 have hcz50_4 : wr.cell? ⟨gb138, 4, none⟩ = some (.int .i64 ((rd_T36 l0 a1).f4)) := (blk_cell BK138.out 4).trans rfl
                 have hcz50_5 : wr.cell? ⟨gb138, 5, none⟩ = some (.int .i64 ((rd_T36 l0 a1).f5)) := (blk_cell BK138.out 5).trans rfl
                 have hfz50_0 := blk_frozen BK138.out 0
                 have hfz50_1 := blk_frozen BK138.out 1
                 have hfz50_2 := blk_frozen BK138.out 2
                 have hfz50_3 := blk_frozen BK138.out 3
                 have hfz50_4 := blk_frozen BK138.out 4
                 have hfz50_5 := blk_frozen BK138.out 5
                 obtain ⟨Ao51, co51, eo51⟩ := Kd.R_slice HO_8.out
                 subst eo51
                 have p155 : 0 ≤ (0 : Int) := (by omega)
                 have q155 : 0 < (x8_2.length : Int) := of_decide_eq_true (by first | (with_reducible assumption) | assumption)
                 obtain ⟨ad155, e155, hx155_0⟩ := Kd.at_int (Kd.R_reads' HO_8.out).2.2 0 p155 q155
                 cases e155
                 have qi155 : (0 < x8_2.length) = True := eq_true (by omega)
                 (try rw [show ((0 : Int)).toNat = 0 from rfl] at hx155_0)
                 (try rw [Addr.add_zero'] at hx155_0)
                 replace p155 := eq_true p155
                 replace q155 := eq_true q155
                 go_wp2
                 repeat (go_quiet (fail); try go_wp2)
                 go_ret
                 exact ⟨by first | rfl | (simp [errW_none, errW_some] <;> rfl) | (simp [*, errW_none, errW_some] <;> rfl), by repeat (first | (with_reducible first | exact HB.out | apply below_alloc | apply pw_below_drewN | apply below_drew1 | refine below_set ?_ GE138.out) | exact HB.out)⟩
                ·rw [if_neg c49] at H
                 have c49b0 : (((rd_T36 l0 a1).f4) == 0) = false := beq_eq_false_iff_ne.mpr c49
                 have c49b1 : (((rd_T36 l0 a1).f4) != 0) = true := bne_iff_ne.mpr c49
                 obtain rfl := Option.some.inj H
                 have hcz52_0 : wr.cell? ⟨gb138, 0, none⟩ = some (.int .i64 ((rd_T36 l0 a1).f0)) := (blk_cell BK138.out 0).trans rfl
                 have hcz52_1 : wr.cell? ⟨gb138, 1, none⟩ = some (.int .i64 ((rd_T36 l0 a1).f1)) := (blk_cell BK138.out 1).trans rfl
                 have hcz52_2 : wr.cell? ⟨gb138, 2, none⟩ = some (.int .i64 ((rd_T36 l0 a1).f2)) := (blk_cell BK138.out 2).trans rfl
                 have hcz52_3 : wr.cell? ⟨gb138, 3, none⟩ = some (.int .i64 ((rd_T36 l0 a1).f3)) := (blk_cell BK138.out 3).trans rfl
                 have hcz52_4 : wr.cell? ⟨gb138, 4, none⟩ = some (.int .i64 ((rd_T36 l0 a1).f4)) := (blk_cell BK138.out 4).trans rfl
                 have hcz52_5 : wr.cell? ⟨gb138, 5, none⟩ = some (.int .i64 ((rd_T36 l0 a1).f5)) := (blk_cell BK138.out 5).trans rfl
                 have hfz52_0 := blk_frozen BK138.out 0
                 have hfz52_1 := blk_frozen BK138.out 1
                 have hfz52_2 := blk_frozen BK138.out 2
                 have hfz52_3 := blk_frozen BK138.out 3
                 have hfz52_4 := blk_frozen BK138.out 4
                 have hfz52_5 := blk_frozen BK138.out 5
                 obtain ⟨Ao53, co53, eo53⟩ := Kd.R_slice HO_8.out
                 subst eo53
                 have p155 : 0 ≤ (0 : Int) := (by omega)
                 have q155 : 0 < (x8_2.length : Int) := of_decide_eq_true (by first | (with_reducible assumption) | assumption)
                 obtain ⟨ad155, e155, hx155_0⟩ := Kd.at_int (Kd.R_reads' HO_8.out).2.2 0 p155 q155
                 cases e155
                 have qi155 : (0 < x8_2.length) = True := eq_true (by omega)
                 (try rw [show ((0 : Int)).toNat = 0 from rfl] at hx155_0)
                 (try rw [Addr.add_zero'] at hx155_0)
                 replace p155 := eq_true p155
                 replace q155 := eq_true q155
                 go_wp2
                 repeat (go_quiet (fail); try go_wp2)
                 go_ret
                 exact ⟨by first | rfl | (simp [errW_none, errW_some] <;> rfl) | (simp [*, errW_none, errW_some] <;> rfl), by repeat (first | (with_reducible first | exact HB.out | apply below_alloc | apply pw_below_drewN | apply below_drew1 | refine below_set ?_ GE138.out) | exact HB.out)⟩
               ·rw [if_neg c48] at H
                have c48b0 : (((rd_T36 l0 a1).f2) == 0) = false := beq_eq_false_iff_ne.mpr c48
                have c48b1 : (((rd_T36 l0 a1).f2) != 0) = true := bne_iff_ne.mpr c48
                obtain rfl := Option.some.inj H
                have hcz54_0 : wr.cell? ⟨gb138, 0, none⟩ = some (.int .i64 ((rd_T36 l0 a1).f0)) := (blk_cell BK138.out 0).trans rfl
                have hcz54_1 : wr.cell? ⟨gb138, 1, none⟩ = some (.int .i64 ((rd_T36 l0 a1).f1)) := (blk_cell BK138.out 1).trans rfl
                have hcz54_2 : wr.cell? ⟨gb138, 2, none⟩ = some (.int .i64 ((rd_T36 l0 a1).f2)) := (blk_cell BK138.out 2).trans rfl
                have hcz54_3 : wr.cell? ⟨gb138, 3, none⟩ = some (.int .i64 ((rd_T36 l0 a1).f3)) := (blk_cell BK138.out 3).trans rfl
                have hcz54_4 : wr.cell? ⟨gb138, 4, none⟩ = some (.int .i64 ((rd_T36 l0 a1).f4)) := (blk_cell BK138.out 4).trans rfl
                have hcz54_5 : wr.cell? ⟨gb138, 5, none⟩ = some (.int .i64 ((rd_T36 l0 a1).f5)) := (blk_cell BK138.out 5).trans rfl
                have hfz54_0 := blk_frozen BK138.out 0
                have hfz54_1 := blk_frozen BK138.out 1
                have hfz54_2 := blk_frozen BK138.out 2
                have hfz54_3 := blk_frozen BK138.out 3
                have hfz54_4 := blk_frozen BK138.out 4
                have hfz54_5 := blk_frozen BK138.out 5
                obtain ⟨Ao55, co55, eo55⟩ := Kd.R_slice HO_8.out
                subst eo55
                have p155 : 0 ≤ (0 : Int) := (by omega)
                have q155 : 0 < (x8_2.length : Int) := of_decide_eq_true (by first | (with_reducible assumption) | assumption)
                obtain ⟨ad155, e155, hx155_0⟩ := Kd.at_int (Kd.R_reads' HO_8.out).2.2 0 p155 q155
                cases e155
                have qi155 : (0 < x8_2.length) = True := eq_true (by omega)
                (try rw [show ((0 : Int)).toNat = 0 from rfl] at hx155_0)
                (try rw [Addr.add_zero'] at hx155_0)
                replace p155 := eq_true p155
                replace q155 := eq_true q155
                go_wp2
                repeat (go_quiet (fail); try go_wp2)
                go_ret
                exact ⟨by first | rfl | (simp [errW_none, errW_some] <;> rfl) | (simp [*, errW_none, errW_some] <;> rfl), by repeat (first | (with_reducible first | exact HB.out | apply below_alloc | apply pw_below_drewN | apply below_drew1 | refine below_set ?_ GE138.out) | exact HB.out)⟩
              ·rw [if_neg c47] at H
               have c47b0 : ((rd x8_2 0) == ((rd_T36 l0 a1).f1)) = false := beq_eq_false_iff_ne.mpr c47
               have c47b1 : ((rd x8_2 0) != ((rd_T36 l0 a1).f1)) = true := bne_iff_ne.mpr c47
               obtain rfl := Option.some.inj H
               have hcz56_0 : wr.cell? ⟨gb138, 0, none⟩ = some (.int .i64 ((rd_T36 l0 a1).f0)) := (blk_cell BK138.out 0).trans rfl
               have hcz56_1 : wr.cell? ⟨gb138, 1, none⟩ = some (.int .i64 ((rd_T36 l0 a1).f1)) := (blk_cell BK138.out 1).trans rfl
               have hcz56_2 : wr.cell? ⟨gb138, 2, none⟩ = some (.int .i64 ((rd_T36 l0 a1).f2)) := (blk_cell BK138.out 2).trans rfl
               have hcz56_3 : wr.cell? ⟨gb138, 3, none⟩ = some (.int .i64 ((rd_T36 l0 a1).f3)) := (blk_cell BK138.out 3).trans rfl
               have hcz56_4 : wr.cell? ⟨gb138, 4, none⟩ = some (.int .i64 ((rd_T36 l0 a1).f4)) := (blk_cell BK138.out 4).trans rfl
               have hcz56_5 : wr.cell? ⟨gb138, 5, none⟩ = some (.int .i64 ((rd_T36 l0 a1).f5)) := (blk_cell BK138.out 5).trans rfl
               have hfz56_0 := blk_frozen BK138.out 0
               have hfz56_1 := blk_frozen BK138.out 1
               have hfz56_2 := blk_frozen BK138.out 2
               have hfz56_3 := blk_frozen BK138.out 3
               have hfz56_4 := blk_frozen BK138.out 4
               have hfz56_5 := blk_frozen BK138.out 5
               obtain ⟨Ao57, co57, eo57⟩ := Kd.R_slice HO_8.out
               subst eo57
               have p155 : 0 ≤ (0 : Int) := (by omega)
               have q155 : 0 < (x8_2.length : Int) := of_decide_eq_true (by first | (with_reducible assumption) | assumption)
               obtain ⟨ad155, e155, hx155_0⟩ := Kd.at_int (Kd.R_reads' HO_8.out).2.2 0 p155 q155
               cases e155
               have qi155 : (0 < x8_2.length) = True := eq_true (by omega)
               (try rw [show ((0 : Int)).toNat = 0 from rfl] at hx155_0)
               (try rw [Addr.add_zero'] at hx155_0)
               replace p155 := eq_true p155
               replace q155 := eq_true q155
               go_wp2
               repeat (go_quiet (fail); try go_wp2)
               go_ret
               exact ⟨by first | rfl | (simp [errW_none, errW_some] <;> rfl) | (simp [*, errW_none, errW_some] <;> rfl), by repeat (first | (with_reducible first | exact HB.out | apply below_alloc | apply pw_below_drewN | apply below_drew1 | refine below_set ?_ GE138.out) | exact HB.out)⟩
             ·rw [if_neg c46] at H
              exact absurd H (by simp)
            ·rw [if_neg c45] at H
             have c45b0 : (((rd_T36 l0 a1).f0) == 2) = false := beq_eq_false_iff_ne.mpr c45
             have c45b1 : (((rd_T36 l0 a1).f0) != 2) = true := bne_iff_ne.mpr c45
             replace H := Option.bind_eq_some_iff.mp H
             obtain ⟨t156, A580, H⟩ := H
             replace H : (if t156 = true then (if 0 < (x8_2.length : Int) then (if (rd x8_2 0) = ((rd_T36 l0 a1).f1) then (if 1 < (x8_2.length : Int) then (if (rd x8_2 1) = ((rd_T36 l0 a1).f1) then (if ((rd_T36 l0 a1).f2) = 0 then (some (((rd_T36 l0 a1).f5) == 0)) else (some false)) else (some false)) else (none)) else (some false)) else (none)) else ((spec_l01In.f ((rd_T36 l0 a1).f0) 13 15).bind fun t159 => (if t159 = true then (if 0 < (x8_2.length : Int) then (if 1 < (x8_2.length : Int) then (if (rd x8_2 0) = (rd x8_2 1) then (if ((rd_T36 l0 a1).f1) = 1 then (if ((rd_T36 l0 a1).f2) = 0 then (some (((rd_T36 l0 a1).f5) == 0)) else (some false)) else (some false)) else (some false)) else (none)) else (none)) else (if ((rd_T36 l0 a1).f0) = 16 then (if 0 < (x8_2.length : Int) then (if 1 < (x8_2.length : Int) then (if (wrap64 ((rd x8_2 0) + (rd x8_2 1))) = ((rd_T36 l0 a1).f1) then (if ((rd_T36 l0 a1).f2) = 0 then (some (((rd_T36 l0 a1).f5) == 0)) else (some false)) else (some false)) else (none)) else (none)) else (if ((rd_T36 l0 a1).f0) = 17 then (if ((rd_T36 l0 a1).f2) ≥ 0 then (if 0 < (x8_2.length : Int) then (if ((rd_T36 l0 a1).f2) ≤ (wrap64 ((rd x8_2 0) - ((rd_T36 l0 a1).f1))) then (if ((rd_T36 l0 a1).f4) = 0 then (some (((rd_T36 l0 a1).f5) == 0)) else (some false)) else (some false)) else (none)) else (some false)) else (if ((rd_T36 l0 a1).f0) = 18 then (if 0 < (x8_2.length : Int) then (if (rd x8_2 0) = 1 then (if 1 < (x8_2.length : Int) then (if (rd x8_2 1) = ((rd_T36 l0 a1).f1) then (if 2 < (x8_2.length : Int) then (if (rd x8_2 2) = ((rd_T36 l0 a1).f1) then (some (((rd_T36 l0 a1).f2) == 0)) else (some false)) else (none)) else (some false)) else (none)) else (some false)) else (none)) else (if ((rd_T36 l0 a1).f0) = 19 then (spec_l02Node.j2 k2 x8_2 true ((rd_T36 l0 a1).f0) ((rd_T36 l0 a1).f1) ((rd_T36 l0 a1).f2) ((rd_T36 l0 a1).f3) ((rd_T36 l0 a1).f4) ((rd_T36 l0 a1).f5)) else (spec_l02Node.j2 k2 x8_2 (((rd_T36 l0 a1).f0) == 20) ((rd_T36 l0 a1).f0) ((rd_T36 l0 a1).f1) ((rd_T36 l0 a1).f2) ((rd_T36 l0 a1).f3) ((rd_T36 l0 a1).f4) ((rd_T36 l0 a1).f5))))))))) = some r := H
             have A58 := Aside0.mk A580
             clear A580
             by_cases c59 : t156 = true
             ·subst c59
              have H1 : (if 0 < (x8_2.length : Int) then (if (rd x8_2 0) = ((rd_T36 l0 a1).f1) then (if 1 < (x8_2.length : Int) then (if (rd x8_2 1) = ((rd_T36 l0 a1).f1) then (if ((rd_T36 l0 a1).f2) = 0 then (some (((rd_T36 l0 a1).f5) == 0)) else (some false)) else (some false)) else (none)) else (some false)) else (none)) = some r := by rw [if_pos rfl] at H; exact H
              clear H
              have H := H1
              clear H1
              by_cases c60 : 0 < (x8_2.length : Int)
              ·rw [if_pos c60] at H
               have c60b0 : decide (0 < (x8_2.length : Int)) = true := decide_eq_true c60
               have c60b1 : decide (0 < x8_2.length) = true := decide_eq_true (by omega)
               clear c60
               by_cases c61 : (rd x8_2 0) = ((rd_T36 l0 a1).f1)
               ·rw [if_pos c61] at H
                have c61b0 : ((rd x8_2 0) == ((rd_T36 l0 a1).f1)) = true := beq_iff_eq.mpr c61
                have c61b1 : ((rd x8_2 0) != ((rd_T36 l0 a1).f1)) = false := bne_eq_false_iff_eq.mpr c61
                clear c61
                by_cases c62 : 1 < (x8_2.length : Int)
                ·rw [if_pos c62] at H
                 have c62b0 : decide (1 < (x8_2.length : Int)) = true := decide_eq_true c62
                 have c62b1 : decide (1 < x8_2.length) = true := decide_eq_true (by omega)
                 clear c62
                 by_cases c63 : (rd x8_2 1) = ((rd_T36 l0 a1).f1)
                 ·rw [if_pos c63] at H
                  have c63b0 : ((rd x8_2 1) == ((rd_T36 l0 a1).f1)) = true := beq_iff_eq.mpr c63
                  have c63b1 : ((rd x8_2 1) != ((rd_T36 l0 a1).f1)) = false := bne_eq_false_iff_eq.mpr c63
                  clear c63
                  by_cases c64 : ((rd_T36 l0 a1).f2) = 0
                  ·rw [if_pos c64] at H
                   have c64b0 : (((rd_T36 l0 a1).f2) == 0) = true := beq_iff_eq.mpr c64
                   have c64b1 : (((rd_T36 l0 a1).f2) != 0) = false := bne_eq_false_iff_eq.mpr c64
                   clear c64
                   obtain rfl := Option.some.inj H
                   have hcz65_0 : wr.cell? ⟨gb138, 0, none⟩ = some (.int .i64 ((rd_T36 l0 a1).f0)) := (blk_cell BK138.out 0).trans rfl
                   have hcz65_1 : wr.cell? ⟨gb138, 1, none⟩ = some (.int .i64 ((rd_T36 l0 a1).f1)) := (blk_cell BK138.out 1).trans rfl
                   have hcz65_2 : wr.cell? ⟨gb138, 2, none⟩ = some (.int .i64 ((rd_T36 l0 a1).f2)) := (blk_cell BK138.out 2).trans rfl
                   have hcz65_3 : wr.cell? ⟨gb138, 3, none⟩ = some (.int .i64 ((rd_T36 l0 a1).f3)) := (blk_cell BK138.out 3).trans rfl
                   have hcz65_4 : wr.cell? ⟨gb138, 4, none⟩ = some (.int .i64 ((rd_T36 l0 a1).f4)) := (blk_cell BK138.out 4).trans rfl
                   have hcz65_5 : wr.cell? ⟨gb138, 5, none⟩ = some (.int .i64 ((rd_T36 l0 a1).f5)) := (blk_cell BK138.out 5).trans rfl
                   have hfz65_0 := blk_frozen BK138.out 0
                   have hfz65_1 := blk_frozen BK138.out 1
                   have hfz65_2 := blk_frozen BK138.out 2
                   have hfz65_3 := blk_frozen BK138.out 3
                   have hfz65_4 := blk_frozen BK138.out 4
                   have hfz65_5 := blk_frozen BK138.out 5
                   go_wp2_with (first | (go_at_call 46; (with_reducible refine (spec_l01In.calls ((rd_T36 l0 a1).f0) 3 12 true _ A58.out).mono ?_); rintro e w' ⟨rfl, ⟨nd, rfl⟩⟩; (try first | exact ⟨rfl, _, World.drewN_drewN _ _ _⟩ | exact ⟨rfl, _, Eq.trans (World.drewN_drewN _ _ _) (congrArg (World.drewN _) (Nat.add_assoc _ _ _))⟩); obtain ⟨Ao66, co66, eo66⟩ := Kd.R_slice HO_8.out; subst eo66; have p157 : 0 ≤ (0 : Int) := (by omega); have q157 : 0 < (x8_2.length : Int) := of_decide_eq_true (by first | (with_reducible assumption) | assumption); obtain ⟨ad157, e157, hx157_0⟩ := Kd.at_int (Kd.R_reads' HO_8.out).2.2 0 p157 q157; cases e157; have qi157 : (0 < x8_2.length) = True := eq_true (by omega); (try rw [show ((0 : Int)).toNat = 0 from rfl] at hx157_0); (try rw [Addr.add_zero'] at hx157_0); replace p157 := eq_true p157; replace q157 := eq_true q157; have p158 : 0 ≤ (1 : Int) := (by omega); have q158 : 1 < (x8_2.length : Int) := of_decide_eq_true (by first | (with_reducible assumption) | assumption); obtain ⟨ad158, e158, hx158_0⟩ := Kd.at_int (Kd.R_reads' HO_8.out).2.2 1 p158 q158; obtain rfl : ad157 = ad158 := (by injection e158); (try simp only [show (1 : Int).toNat = 1 from rfl, Nat.reduceMul, Nat.reduceEqDiff, Go.Addr.add, ↓reduceIte] at hx158_0); have qi158 : (1 < x8_2.length) = True := eq_true (by omega); (try rw [show ((1 : Int)).toNat = 1 from rfl] at hx158_0); replace p158 := eq_true p158; replace q158 := eq_true q158))
                   repeat (go_quiet (first | (go_at_call 46; (with_reducible refine (spec_l01In.calls ((rd_T36 l0 a1).f0) 3 12 true _ A58.out).mono ?_); rintro e w' ⟨rfl, ⟨nd, rfl⟩⟩; (try first | exact ⟨rfl, _, World.drewN_drewN _ _ _⟩ | exact ⟨rfl, _, Eq.trans (World.drewN_drewN _ _ _) (congrArg (World.drewN _) (Nat.add_assoc _ _ _))⟩); obtain ⟨Ao66, co66, eo66⟩ := Kd.R_slice HO_8.out; subst eo66; have p157 : 0 ≤ (0 : Int) := (by omega); have q157 : 0 < (x8_2.length : Int) := of_decide_eq_true (by first | (with_reducible assumption) | assumption); obtain ⟨ad157, e157, hx157_0⟩ := Kd.at_int (Kd.R_reads' HO_8.out).2.2 0 p157 q157; cases e157; have qi157 : (0 < x8_2.length) = True := eq_true (by omega); (try rw [show ((0 : Int)).toNat = 0 from rfl] at hx157_0); (try rw [Addr.add_zero'] at hx157_0); replace p157 := eq_true p157; replace q157 := eq_true q157; have p158 : 0 ≤ (1 : Int) := (by omega); have q158 : 1 < (x8_2.length : Int) := of_decide_eq_true (by first | (with_reducible assumption) | assumption); obtain ⟨ad158, e158, hx158_0⟩ := Kd.at_int (Kd.R_reads' HO_8.out).2.2 1 p158 q158; obtain rfl : ad157 = ad158 := (by injection e158); (try simp only [show (1 : Int).toNat = 1 from rfl, Nat.reduceMul, Nat.reduceEqDiff, Go.Addr.add, ↓reduceIte] at hx158_0); have qi158 : (1 < x8_2.length) = True := eq_true (by omega); (try rw [show ((1 : Int)).toNat = 1 from rfl] at hx158_0); replace p158 := eq_true p158; replace q158 := eq_true q158)); try go_wp2_with (first | (go_at_call 46; (with_reducible refine (spec_l01In.calls ((rd_T36 l0 a1).f0) 3 12 true _ A58.out).mono ?_); rintro e w' ⟨rfl, ⟨nd, rfl⟩⟩; (try first | exact ⟨rfl, _, World.drewN_drewN _ _ _⟩ | exact ⟨rfl, _, Eq.trans (World.drewN_drewN _ _ _) (congrArg (World.drewN _) (Nat.add_assoc _ _ _))⟩); obtain ⟨Ao66, co66, eo66⟩ := Kd.R_slice HO_8.out; subst eo66; have p157 : 0 ≤ (0 : Int) := (by omega); have q157 : 0 < (x8_2.length : Int) := of_decide_eq_true (by first | (with_reducible assumption) | assumption); obtain ⟨ad157, e157, hx157_0⟩ := Kd.at_int (Kd.R_reads' HO_8.out).2.2 0 p157 q157; cases e157; have qi157 : (0 < x8_2.length) = True := eq_true (by omega); (try rw [show ((0 : Int)).toNat = 0 from rfl] at hx157_0); (try rw [Addr.add_zero'] at hx157_0); replace p157 := eq_true p157; replace q157 := eq_true q157; have p158 : 0 ≤ (1 : Int) := (by omega); have q158 : 1 < (x8_2.length : Int) := of_decide_eq_true (by first | (with_reducible assumption) | assumption); obtain ⟨ad158, e158, hx158_0⟩ := Kd.at_int (Kd.R_reads' HO_8.out).2.2 1 p158 q158; obtain rfl : ad157 = ad158 := (by injection e158); (try simp only [show (1 : Int).toNat = 1 from rfl, Nat.reduceMul, Nat.reduceEqDiff, Go.Addr.add, ↓reduceIte] at hx158_0); have qi158 : (1 < x8_2.length) = True := eq_true (by omega); (try rw [show ((1 : Int)).toNat = 1 from rfl] at hx158_0); replace p158 := eq_true p158; replace q158 := eq_true q158)))
                   go_ret
                   exact ⟨by first | rfl | (simp [errW_none, errW_some] <;> rfl) | (simp [*, errW_none, errW_some] <;> rfl), by repeat (first | (with_reducible first | exact HB.out | apply below_alloc | apply pw_below_drewN | apply below_drew1 | refine below_set ?_ GE138.out) | exact HB.out)⟩
                  ·rw [if_neg c64] at H
                   have c64b0 : (((rd_T36 l0 a1).f2) == 0) = false := beq_eq_false_iff_ne.mpr c64
                   have c64b1 : (((rd_T36 l0 a1).f2) != 0) = true := bne_iff_ne.mpr c64
                   obtain rfl := Option.some.inj H
                   have hcz67_0 : wr.cell? ⟨gb138, 0, none⟩ = some (.int .i64 ((rd_T36 l0 a1).f0)) := (blk_cell BK138.out 0).trans rfl
                   have hcz67_1 : wr.cell? ⟨gb138, 1, none⟩ = some (.int .i64 ((rd_T36 l0 a1).f1)) := (blk_cell BK138.out 1).trans rfl
                   have hcz67_2 : wr.cell? ⟨gb138, 2, none⟩ = some (.int .i64 ((rd_T36 l0 a1).f2)) := (blk_cell BK138.out 2).trans rfl
                   have hcz67_3 : wr.cell? ⟨gb138, 3, none⟩ = some (.int .i64 ((rd_T36 l0 a1).f3)) := (blk_cell BK138.out 3).trans rfl
                   have hcz67_4 : wr.cell? ⟨gb138, 4, none⟩ = some (.int .i64 ((rd_T36 l0 a1).f4)) := (blk_cell BK138.out 4).trans rfl
                   have hcz67_5 : wr.cell? ⟨gb138, 5, none⟩ = some (.int .i64 ((rd_T36 l0 a1).f5)) := (blk_cell BK138.out 5).trans rfl
                   have hfz67_0 := blk_frozen BK138.out 0
                   have hfz67_1 := blk_frozen BK138.out 1
                   have hfz67_2 := blk_frozen BK138.out 2
                   have hfz67_3 := blk_frozen BK138.out 3
                   have hfz67_4 := blk_frozen BK138.out 4
                   have hfz67_5 := blk_frozen BK138.out 5
                   go_wp2_with (first | (go_at_call 46; (with_reducible refine (spec_l01In.calls ((rd_T36 l0 a1).f0) 3 12 true _ A58.out).mono ?_); rintro e w' ⟨rfl, ⟨nd, rfl⟩⟩; (try first | exact ⟨rfl, _, World.drewN_drewN _ _ _⟩ | exact ⟨rfl, _, Eq.trans (World.drewN_drewN _ _ _) (congrArg (World.drewN _) (Nat.add_assoc _ _ _))⟩); obtain ⟨Ao68, co68, eo68⟩ := Kd.R_slice HO_8.out; subst eo68; have p157 : 0 ≤ (0 : Int) := (by omega); have q157 : 0 < (x8_2.length : Int) := of_decide_eq_true (by first | (with_reducible assumption) | assumption); obtain ⟨ad157, e157, hx157_0⟩ := Kd.at_int (Kd.R_reads' HO_8.out).2.2 0 p157 q157; cases e157; have qi157 : (0 < x8_2.length) = True := eq_true (by omega); (try rw [show ((0 : Int)).toNat = 0 from rfl] at hx157_0); (try rw [Addr.add_zero'] at hx157_0); replace p157 := eq_true p157; replace q157 := eq_true q157; have p158 : 0 ≤ (1 : Int) := (by omega); have q158 : 1 < (x8_2.length : Int) := of_decide_eq_true (by first | (with_reducible assumption) | assumption); obtain ⟨ad158, e158, hx158_0⟩ := Kd.at_int (Kd.R_reads' HO_8.out).2.2 1 p158 q158; obtain rfl : ad157 = ad158 := (by injection e158); (try simp only [show (1 : Int).toNat = 1 from rfl, Nat.reduceMul, Nat.reduceEqDiff, Go.Addr.add, ↓reduceIte] at hx158_0); have qi158 : (1 < x8_2.length) = True := eq_true (by omega); (try rw [show ((1 : Int)).toNat = 1 from rfl] at hx158_0); replace p158 := eq_true p158; replace q158 := eq_true q158))
                   repeat (go_quiet (first | (go_at_call 46; (with_reducible refine (spec_l01In.calls ((rd_T36 l0 a1).f0) 3 12 true _ A58.out).mono ?_); rintro e w' ⟨rfl, ⟨nd, rfl⟩⟩; (try first | exact ⟨rfl, _, World.drewN_drewN _ _ _⟩ | exact ⟨rfl, _, Eq.trans (World.drewN_drewN _ _ _) (congrArg (World.drewN _) (Nat.add_assoc _ _ _))⟩); obtain ⟨Ao68, co68, eo68⟩ := Kd.R_slice HO_8.out; subst eo68; have p157 : 0 ≤ (0 : Int) := (by omega); have q157 : 0 < (x8_2.length : Int) := of_decide_eq_true (by first | (with_reducible assumption) | assumption); obtain ⟨ad157, e157, hx157_0⟩ := Kd.at_int (Kd.R_reads' HO_8.out).2.2 0 p157 q157; cases e157; have qi157 : (0 < x8_2.length) = True := eq_true (by omega); (try rw [show ((0 : Int)).toNat = 0 from rfl] at hx157_0); (try rw [Addr.add_zero'] at hx157_0); replace p157 := eq_true p157; replace q157 := eq_true q157; have p158 : 0 ≤ (1 : Int) := (by omega); have q158 : 1 < (x8_2.length : Int) := of_decide_eq_true (by first | (with_reducible assumption) | assumption); obtain ⟨ad158, e158, hx158_0⟩ := Kd.at_int (Kd.R_reads' HO_8.out).2.2 1 p158 q158; obtain rfl : ad157 = ad158 := (by injection e158); (try simp only [show (1 : Int).toNat = 1 from rfl, Nat.reduceMul, Nat.reduceEqDiff, Go.Addr.add, ↓reduceIte] at hx158_0); have qi158 : (1 < x8_2.length) = True := eq_true (by omega); (try rw [show ((1 : Int)).toNat = 1 from rfl] at hx158_0); replace p158 := eq_true p158; replace q158 := eq_true q158)); try go_wp2_with (first | (go_at_call 46; (with_reducible refine (spec_l01In.calls ((rd_T36 l0 a1).f0) 3 12 true _ A58.out).mono ?_); rintro e w' ⟨rfl, ⟨nd, rfl⟩⟩; (try first | exact ⟨rfl, _, World.drewN_drewN _ _ _⟩ | exact ⟨rfl, _, Eq.trans (World.drewN_drewN _ _ _) (congrArg (World.drewN _) (Nat.add_assoc _ _ _))⟩); obtain ⟨Ao68, co68, eo68⟩ := Kd.R_slice HO_8.out; subst eo68; have p157 : 0 ≤ (0 : Int) := (by omega); have q157 : 0 < (x8_2.length : Int) := of_decide_eq_true (by first | (with_reducible assumption) | assumption); obtain ⟨ad157, e157, hx157_0⟩ := Kd.at_int (Kd.R_reads' HO_8.out).2.2 0 p157 q157; cases e157; have qi157 : (0 < x8_2.length) = True := eq_true (by omega); (try rw [show ((0 : Int)).toNat = 0 from rfl] at hx157_0); (try rw [Addr.add_zero'] at hx157_0); replace p157 := eq_true p157; replace q157 := eq_true q157; have p158 : 0 ≤ (1 : Int) := (by omega); have q158 : 1 < (x8_2.length : Int) := of_decide_eq_true (by first | (with_reducible assumption) | assumption); obtain ⟨ad158, e158, hx158_0⟩ := Kd.at_int (Kd.R_reads' HO_8.out).2.2 1 p158 q158; obtain rfl : ad157 = ad158 := (by injection e158); (try simp only [show (1 : Int).toNat = 1 from rfl, Nat.reduceMul, Nat.reduceEqDiff, Go.Addr.add, ↓reduceIte] at hx158_0); have qi158 : (1 < x8_2.length) = True := eq_true (by omega); (try rw [show ((1 : Int)).toNat = 1 from rfl] at hx158_0); replace p158 := eq_true p158; replace q158 := eq_true q158)))
                   go_ret
                   exact ⟨by first | rfl | (simp [errW_none, errW_some] <;> rfl) | (simp [*, errW_none, errW_some] <;> rfl), by repeat (first | (with_reducible first | exact HB.out | apply below_alloc | apply pw_below_drewN | apply below_drew1 | refine below_set ?_ GE138.out) | exact HB.out)⟩
                 ·rw [if_neg c63] at H
                  have c63b0 : ((rd x8_2 1) == ((rd_T36 l0 a1).f1)) = false := beq_eq_false_iff_ne.mpr c63
                  have c63b1 : ((rd x8_2 1) != ((rd_T36 l0 a1).f1)) = true := bne_iff_ne.mpr c63
                  obtain rfl := Option.some.inj H
                  have hcz69_0 : wr.cell? ⟨gb138, 0, none⟩ = some (.int .i64 ((rd_T36 l0 a1).f0)) := (blk_cell BK138.out 0).trans rfl
                  have hcz69_1 : wr.cell? ⟨gb138, 1, none⟩ = some (.int .i64 ((rd_T36 l0 a1).f1)) := (blk_cell BK138.out 1).trans rfl
                  have hcz69_2 : wr.cell? ⟨gb138, 2, none⟩ = some (.int .i64 ((rd_T36 l0 a1).f2)) := (blk_cell BK138.out 2).trans rfl
                  have hcz69_3 : wr.cell? ⟨gb138, 3, none⟩ = some (.int .i64 ((rd_T36 l0 a1).f3)) := (blk_cell BK138.out 3).trans rfl
                  have hcz69_4 : wr.cell? ⟨gb138, 4, none⟩ = some (.int .i64 ((rd_T36 l0 a1).f4)) := (blk_cell BK138.out 4).trans rfl
                  have hcz69_5 : wr.cell? ⟨gb138, 5, none⟩ = some (.int .i64 ((rd_T36 l0 a1).f5)) := (blk_cell BK138.out 5).trans rfl
                  have hfz69_0 := blk_frozen BK138.out 0
                  have hfz69_1 := blk_frozen BK138.out 1
                  have hfz69_2 := blk_frozen BK138.out 2
                  have hfz69_3 := blk_frozen BK138.out 3
                  have hfz69_4 := blk_frozen BK138.out 4
                  have hfz69_5 := blk_frozen BK138.out 5
                  go_wp2_with (first | (go_at_call 46; (with_reducible refine (spec_l01In.calls ((rd_T36 l0 a1).f0) 3 12 true _ A58.out).mono ?_); rintro e w' ⟨rfl, ⟨nd, rfl⟩⟩; (try first | exact ⟨rfl, _, World.drewN_drewN _ _ _⟩ | exact ⟨rfl, _, Eq.trans (World.drewN_drewN _ _ _) (congrArg (World.drewN _) (Nat.add_assoc _ _ _))⟩); obtain ⟨Ao70, co70, eo70⟩ := Kd.R_slice HO_8.out; subst eo70; have p157 : 0 ≤ (0 : Int) := (by omega); have q157 : 0 < (x8_2.length : Int) := of_decide_eq_true (by first | (with_reducible assumption) | assumption); obtain ⟨ad157, e157, hx157_0⟩ := Kd.at_int (Kd.R_reads' HO_8.out).2.2 0 p157 q157; cases e157; have qi157 : (0 < x8_2.length) = True := eq_true (by omega); (try rw [show ((0 : Int)).toNat = 0 from rfl] at hx157_0); (try rw [Addr.add_zero'] at hx157_0); replace p157 := eq_true p157; replace q157 := eq_true q157; have p158 : 0 ≤ (1 : Int) := (by omega); have q158 : 1 < (x8_2.length : Int) := of_decide_eq_true (by first | (with_reducible assumption) | assumption); obtain ⟨ad158, e158, hx158_0⟩ := Kd.at_int (Kd.R_reads' HO_8.out).2.2 1 p158 q158; obtain rfl : ad157 = ad158 := (by injection e158); (try simp only [show (1 : Int).toNat = 1 from rfl, Nat.reduceMul, Nat.reduceEqDiff, Go.Addr.add, ↓reduceIte] at hx158_0); have qi158 : (1 < x8_2.length) = True := eq_true (by omega); (try rw [show ((1 : Int)).toNat = 1 from rfl] at hx158_0); replace p158 := eq_true p158; replace q158 := eq_true q158))
                  repeat (go_quiet (first | (go_at_call 46; (with_reducible refine (spec_l01In.calls ((rd_T36 l0 a1).f0) 3 12 true _ A58.out).mono ?_); rintro e w' ⟨rfl, ⟨nd, rfl⟩⟩; (try first | exact ⟨rfl, _, World.drewN_drewN _ _ _⟩ | exact ⟨rfl, _, Eq.trans (World.drewN_drewN _ _ _) (congrArg (World.drewN _) (Nat.add_assoc _ _ _))⟩); obtain ⟨Ao70, co70, eo70⟩ := Kd.R_slice HO_8.out; subst eo70; have p157 : 0 ≤ (0 : Int) := (by omega); have q157 : 0 < (x8_2.length : Int) := of_decide_eq_true (by first | (with_reducible assumption) | assumption); obtain ⟨ad157, e157, hx157_0⟩ := Kd.at_int (Kd.R_reads' HO_8.out).2.2 0 p157 q157; cases e157; have qi157 : (0 < x8_2.length) = True := eq_true (by omega); (try rw [show ((0 : Int)).toNat = 0 from rfl] at hx157_0); (try rw [Addr.add_zero'] at hx157_0); replace p157 := eq_true p157; replace q157 := eq_true q157; have p158 : 0 ≤ (1 : Int) := (by omega); have q158 : 1 < (x8_2.length : Int) := of_decide_eq_true (by first | (with_reducible assumption) | assumption); obtain ⟨ad158, e158, hx158_0⟩ := Kd.at_int (Kd.R_reads' HO_8.out).2.2 1 p158 q158; obtain rfl : ad157 = ad158 := (by injection e158); (try simp only [show (1 : Int).toNat = 1 from rfl, Nat.reduceMul, Nat.reduceEqDiff, Go.Addr.add, ↓reduceIte] at hx158_0); have qi158 : (1 < x8_2.length) = True := eq_true (by omega); (try rw [show ((1 : Int)).toNat = 1 from rfl] at hx158_0); replace p158 := eq_true p158; replace q158 := eq_true q158)); try go_wp2_with (first | (go_at_call 46; (with_reducible refine (spec_l01In.calls ((rd_T36 l0 a1).f0) 3 12 true _ A58.out).mono ?_); rintro e w' ⟨rfl, ⟨nd, rfl⟩⟩; (try first | exact ⟨rfl, _, World.drewN_drewN _ _ _⟩ | exact ⟨rfl, _, Eq.trans (World.drewN_drewN _ _ _) (congrArg (World.drewN _) (Nat.add_assoc _ _ _))⟩); obtain ⟨Ao70, co70, eo70⟩ := Kd.R_slice HO_8.out; subst eo70; have p157 : 0 ≤ (0 : Int) := (by omega); have q157 : 0 < (x8_2.length : Int) := of_decide_eq_true (by first | (with_reducible assumption) | assumption); obtain ⟨ad157, e157, hx157_0⟩ := Kd.at_int (Kd.R_reads' HO_8.out).2.2 0 p157 q157; cases e157; have qi157 : (0 < x8_2.length) = True := eq_true (by omega); (try rw [show ((0 : Int)).toNat = 0 from rfl] at hx157_0); (try rw [Addr.add_zero'] at hx157_0); replace p157 := eq_true p157; replace q157 := eq_true q157; have p158 : 0 ≤ (1 : Int) := (by omega); have q158 : 1 < (x8_2.length : Int) := of_decide_eq_true (by first | (with_reducible assumption) | assumption); obtain ⟨ad158, e158, hx158_0⟩ := Kd.at_int (Kd.R_reads' HO_8.out).2.2 1 p158 q158; obtain rfl : ad157 = ad158 := (by injection e158); (try simp only [show (1 : Int).toNat = 1 from rfl, Nat.reduceMul, Nat.reduceEqDiff, Go.Addr.add, ↓reduceIte] at hx158_0); have qi158 : (1 < x8_2.length) = True := eq_true (by omega); (try rw [show ((1 : Int)).toNat = 1 from rfl] at hx158_0); replace p158 := eq_true p158; replace q158 := eq_true q158)))
                  go_ret
                  exact ⟨by first | rfl | (simp [errW_none, errW_some] <;> rfl) | (simp [*, errW_none, errW_some] <;> rfl), by repeat (first | (with_reducible first | exact HB.out | apply below_alloc | apply pw_below_drewN | apply below_drew1 | refine below_set ?_ GE138.out) | exact HB.out)⟩
                ·rw [if_neg c62] at H
                 exact absurd H (by simp)
               ·rw [if_neg c61] at H
                have c61b0 : ((rd x8_2 0) == ((rd_T36 l0 a1).f1)) = false := beq_eq_false_iff_ne.mpr c61
                have c61b1 : ((rd x8_2 0) != ((rd_T36 l0 a1).f1)) = true := bne_iff_ne.mpr c61
                obtain rfl := Option.some.inj H
                have hcz71_0 : wr.cell? ⟨gb138, 0, none⟩ = some (.int .i64 ((rd_T36 l0 a1).f0)) := (blk_cell BK138.out 0).trans rfl
                have hcz71_1 : wr.cell? ⟨gb138, 1, none⟩ = some (.int .i64 ((rd_T36 l0 a1).f1)) := (blk_cell BK138.out 1).trans rfl
                have hcz71_2 : wr.cell? ⟨gb138, 2, none⟩ = some (.int .i64 ((rd_T36 l0 a1).f2)) := (blk_cell BK138.out 2).trans rfl
                have hcz71_3 : wr.cell? ⟨gb138, 3, none⟩ = some (.int .i64 ((rd_T36 l0 a1).f3)) := (blk_cell BK138.out 3).trans rfl
                have hcz71_4 : wr.cell? ⟨gb138, 4, none⟩ = some (.int .i64 ((rd_T36 l0 a1).f4)) := (blk_cell BK138.out 4).trans rfl
                have hcz71_5 : wr.cell? ⟨gb138, 5, none⟩ = some (.int .i64 ((rd_T36 l0 a1).f5)) := (blk_cell BK138.out 5).trans rfl
                have hfz71_0 := blk_frozen BK138.out 0
                have hfz71_1 := blk_frozen BK138.out 1
                have hfz71_2 := blk_frozen BK138.out 2
                have hfz71_3 := blk_frozen BK138.out 3
                have hfz71_4 := blk_frozen BK138.out 4
                have hfz71_5 := blk_frozen BK138.out 5
                go_wp2_with (first | (go_at_call 46; (with_reducible refine (spec_l01In.calls ((rd_T36 l0 a1).f0) 3 12 true _ A58.out).mono ?_); rintro e w' ⟨rfl, ⟨nd, rfl⟩⟩; (try first | exact ⟨rfl, _, World.drewN_drewN _ _ _⟩ | exact ⟨rfl, _, Eq.trans (World.drewN_drewN _ _ _) (congrArg (World.drewN _) (Nat.add_assoc _ _ _))⟩); obtain ⟨Ao72, co72, eo72⟩ := Kd.R_slice HO_8.out; subst eo72; have p157 : 0 ≤ (0 : Int) := (by omega); have q157 : 0 < (x8_2.length : Int) := of_decide_eq_true (by first | (with_reducible assumption) | assumption); obtain ⟨ad157, e157, hx157_0⟩ := Kd.at_int (Kd.R_reads' HO_8.out).2.2 0 p157 q157; cases e157; have qi157 : (0 < x8_2.length) = True := eq_true (by omega); (try rw [show ((0 : Int)).toNat = 0 from rfl] at hx157_0); (try rw [Addr.add_zero'] at hx157_0); replace p157 := eq_true p157; replace q157 := eq_true q157))
                repeat (go_quiet (first | (go_at_call 46; (with_reducible refine (spec_l01In.calls ((rd_T36 l0 a1).f0) 3 12 true _ A58.out).mono ?_); rintro e w' ⟨rfl, ⟨nd, rfl⟩⟩; (try first | exact ⟨rfl, _, World.drewN_drewN _ _ _⟩ | exact ⟨rfl, _, Eq.trans (World.drewN_drewN _ _ _) (congrArg (World.drewN _) (Nat.add_assoc _ _ _))⟩); obtain ⟨Ao72, co72, eo72⟩ := Kd.R_slice HO_8.out; subst eo72; have p157 : 0 ≤ (0 : Int) := (by omega); have q157 : 0 < (x8_2.length : Int) := of_decide_eq_true (by first | (with_reducible assumption) | assumption); obtain ⟨ad157, e157, hx157_0⟩ := Kd.at_int (Kd.R_reads' HO_8.out).2.2 0 p157 q157; cases e157; have qi157 : (0 < x8_2.length) = True := eq_true (by omega); (try rw [show ((0 : Int)).toNat = 0 from rfl] at hx157_0); (try rw [Addr.add_zero'] at hx157_0); replace p157 := eq_true p157; replace q157 := eq_true q157)); try go_wp2_with (first | (go_at_call 46; (with_reducible refine (spec_l01In.calls ((rd_T36 l0 a1).f0) 3 12 true _ A58.out).mono ?_); rintro e w' ⟨rfl, ⟨nd, rfl⟩⟩; (try first | exact ⟨rfl, _, World.drewN_drewN _ _ _⟩ | exact ⟨rfl, _, Eq.trans (World.drewN_drewN _ _ _) (congrArg (World.drewN _) (Nat.add_assoc _ _ _))⟩); obtain ⟨Ao72, co72, eo72⟩ := Kd.R_slice HO_8.out; subst eo72; have p157 : 0 ≤ (0 : Int) := (by omega); have q157 : 0 < (x8_2.length : Int) := of_decide_eq_true (by first | (with_reducible assumption) | assumption); obtain ⟨ad157, e157, hx157_0⟩ := Kd.at_int (Kd.R_reads' HO_8.out).2.2 0 p157 q157; cases e157; have qi157 : (0 < x8_2.length) = True := eq_true (by omega); (try rw [show ((0 : Int)).toNat = 0 from rfl] at hx157_0); (try rw [Addr.add_zero'] at hx157_0); replace p157 := eq_true p157; replace q157 := eq_true q157)))
                go_ret
                exact ⟨by first | rfl | (simp [errW_none, errW_some] <;> rfl) | (simp [*, errW_none, errW_some] <;> rfl), by repeat (first | (with_reducible first | exact HB.out | apply below_alloc | apply pw_below_drewN | apply below_drew1 | refine below_set ?_ GE138.out) | exact HB.out)⟩
              ·rw [if_neg c60] at H
               exact absurd H (by simp)
             ·replace c59 := Bool.eq_false_iff.mpr c59
              subst c59
              have H1 : ((spec_l01In.f ((rd_T36 l0 a1).f0) 13 15).bind fun t159 => (if t159 = true then (if 0 < (x8_2.length : Int) then (if 1 < (x8_2.length : Int) then (if (rd x8_2 0) = (rd x8_2 1) then (if ((rd_T36 l0 a1).f1) = 1 then (if ((rd_T36 l0 a1).f2) = 0 then (some (((rd_T36 l0 a1).f5) == 0)) else (some false)) else (some false)) else (some false)) else (none)) else (none)) else (if ((rd_T36 l0 a1).f0) = 16 then (if 0 < (x8_2.length : Int) then (if 1 < (x8_2.length : Int) then (if (wrap64 ((rd x8_2 0) + (rd x8_2 1))) = ((rd_T36 l0 a1).f1) then (if ((rd_T36 l0 a1).f2) = 0 then (some (((rd_T36 l0 a1).f5) == 0)) else (some false)) else (some false)) else (none)) else (none)) else (if ((rd_T36 l0 a1).f0) = 17 then (if ((rd_T36 l0 a1).f2) ≥ 0 then (if 0 < (x8_2.length : Int) then (if ((rd_T36 l0 a1).f2) ≤ (wrap64 ((rd x8_2 0) - ((rd_T36 l0 a1).f1))) then (if ((rd_T36 l0 a1).f4) = 0 then (some (((rd_T36 l0 a1).f5) == 0)) else (some false)) else (some false)) else (none)) else (some false)) else (if ((rd_T36 l0 a1).f0) = 18 then (if 0 < (x8_2.length : Int) then (if (rd x8_2 0) = 1 then (if 1 < (x8_2.length : Int) then (if (rd x8_2 1) = ((rd_T36 l0 a1).f1) then (if 2 < (x8_2.length : Int) then (if (rd x8_2 2) = ((rd_T36 l0 a1).f1) then (some (((rd_T36 l0 a1).f2) == 0)) else (some false)) else (none)) else (some false)) else (none)) else (some false)) else (none)) else (if ((rd_T36 l0 a1).f0) = 19 then (spec_l02Node.j2 k2 x8_2 true ((rd_T36 l0 a1).f0) ((rd_T36 l0 a1).f1) ((rd_T36 l0 a1).f2) ((rd_T36 l0 a1).f3) ((rd_T36 l0 a1).f4) ((rd_T36 l0 a1).f5)) else (spec_l02Node.j2 k2 x8_2 (((rd_T36 l0 a1).f0) == 20) ((rd_T36 l0 a1).f0) ((rd_T36 l0 a1).f1) ((rd_T36 l0 a1).f2) ((rd_T36 l0 a1).f3) ((rd_T36 l0 a1).f4) ((rd_T36 l0 a1).f5)))))))) = some r := by rw [if_neg (show ¬ (false = true) by decide)] at H; exact H
              clear H
              have H := H1
              clear H1
              replace H := Option.bind_eq_some_iff.mp H
              obtain ⟨t159, A730, H⟩ := H
              replace H : (if t159 = true then (if 0 < (x8_2.length : Int) then (if 1 < (x8_2.length : Int) then (if (rd x8_2 0) = (rd x8_2 1) then (if ((rd_T36 l0 a1).f1) = 1 then (if ((rd_T36 l0 a1).f2) = 0 then (some (((rd_T36 l0 a1).f5) == 0)) else (some false)) else (some false)) else (some false)) else (none)) else (none)) else (if ((rd_T36 l0 a1).f0) = 16 then (if 0 < (x8_2.length : Int) then (if 1 < (x8_2.length : Int) then (if (wrap64 ((rd x8_2 0) + (rd x8_2 1))) = ((rd_T36 l0 a1).f1) then (if ((rd_T36 l0 a1).f2) = 0 then (some (((rd_T36 l0 a1).f5) == 0)) else (some false)) else (some false)) else (none)) else (none)) else (if ((rd_T36 l0 a1).f0) = 17 then (if ((rd_T36 l0 a1).f2) ≥ 0 then (if 0 < (x8_2.length : Int) then (if ((rd_T36 l0 a1).f2) ≤ (wrap64 ((rd x8_2 0) - ((rd_T36 l0 a1).f1))) then (if ((rd_T36 l0 a1).f4) = 0 then (some (((rd_T36 l0 a1).f5) == 0)) else (some false)) else (some false)) else (none)) else (some false)) else (if ((rd_T36 l0 a1).f0) = 18 then (if 0 < (x8_2.length : Int) then (if (rd x8_2 0) = 1 then (if 1 < (x8_2.length : Int) then (if (rd x8_2 1) = ((rd_T36 l0 a1).f1) then (if 2 < (x8_2.length : Int) then (if (rd x8_2 2) = ((rd_T36 l0 a1).f1) then (some (((rd_T36 l0 a1).f2) == 0)) else (some false)) else (none)) else (some false)) else (none)) else (some false)) else (none)) else (if ((rd_T36 l0 a1).f0) = 19 then (spec_l02Node.j2 k2 x8_2 true ((rd_T36 l0 a1).f0) ((rd_T36 l0 a1).f1) ((rd_T36 l0 a1).f2) ((rd_T36 l0 a1).f3) ((rd_T36 l0 a1).f4) ((rd_T36 l0 a1).f5)) else (spec_l02Node.j2 k2 x8_2 (((rd_T36 l0 a1).f0) == 20) ((rd_T36 l0 a1).f0) ((rd_T36 l0 a1).f1) ((rd_T36 l0 a1).f2) ((rd_T36 l0 a1).f3) ((rd_T36 l0 a1).f4) ((rd_T36 l0 a1).f5))))))) = some r := H
              have A73 := Aside0.mk A730
              clear A730
              by_cases c74 : t159 = true
              ·subst c74
               have H1 : (if 0 < (x8_2.length : Int) then (if 1 < (x8_2.length : Int) then (if (rd x8_2 0) = (rd x8_2 1) then (if ((rd_T36 l0 a1).f1) = 1 then (if ((rd_T36 l0 a1).f2) = 0 then (some (((rd_T36 l0 a1).f5) == 0)) else (some false)) else (some false)) else (some false)) else (none)) else (none)) = some r := by rw [if_pos rfl] at H; exact H
               clear H
               have H := H1
               clear H1
               by_cases c75 : 0 < (x8_2.length : Int)
               ·rw [if_pos c75] at H
                have c75b0 : decide (0 < (x8_2.length : Int)) = true := decide_eq_true c75
                have c75b1 : decide (0 < x8_2.length) = true := decide_eq_true (by omega)
                clear c75
                by_cases c76 : 1 < (x8_2.length : Int)
                ·rw [if_pos c76] at H
                 have c76b0 : decide (1 < (x8_2.length : Int)) = true := decide_eq_true c76
                 have c76b1 : decide (1 < x8_2.length) = true := decide_eq_true (by omega)
                 clear c76
                 by_cases c77 : (rd x8_2 0) = (rd x8_2 1)
                 ·rw [if_pos c77] at H
                  have c77b0 : ((rd x8_2 0) == (rd x8_2 1)) = true := beq_iff_eq.mpr c77
                  have c77b1 : ((rd x8_2 0) != (rd x8_2 1)) = false := bne_eq_false_iff_eq.mpr c77
                  clear c77
                  by_cases c78 : ((rd_T36 l0 a1).f1) = 1
                  ·rw [if_pos c78] at H
                   have c78b0 : (((rd_T36 l0 a1).f1) == 1) = true := beq_iff_eq.mpr c78
                   have c78b1 : (((rd_T36 l0 a1).f1) != 1) = false := bne_eq_false_iff_eq.mpr c78
                   clear c78
                   by_cases c79 : ((rd_T36 l0 a1).f2) = 0
                   ·rw [if_pos c79] at H
                    have c79b0 : (((rd_T36 l0 a1).f2) == 0) = true := beq_iff_eq.mpr c79
                    have c79b1 : (((rd_T36 l0 a1).f2) != 0) = false := bne_eq_false_iff_eq.mpr c79
                    clear c79
                    obtain rfl := Option.some.inj H
                    have hcz80_0 : wr.cell? ⟨gb138, 0, none⟩ = some (.int .i64 ((rd_T36 l0 a1).f0)) := (blk_cell BK138.out 0).trans rfl
                    have hcz80_1 : wr.cell? ⟨gb138, 1, none⟩ = some (.int .i64 ((rd_T36 l0 a1).f1)) := (blk_cell BK138.out 1).trans rfl
                    have hcz80_2 : wr.cell? ⟨gb138, 2, none⟩ = some (.int .i64 ((rd_T36 l0 a1).f2)) := (blk_cell BK138.out 2).trans rfl
                    have hcz80_3 : wr.cell? ⟨gb138, 3, none⟩ = some (.int .i64 ((rd_T36 l0 a1).f3)) := (blk_cell BK138.out 3).trans rfl
                    have hcz80_4 : wr.cell? ⟨gb138, 4, none⟩ = some (.int .i64 ((rd_T36 l0 a1).f4)) := (blk_cell BK138.out 4).trans rfl
                    have hcz80_5 : wr.cell? ⟨gb138, 5, none⟩ = some (.int .i64 ((rd_T36 l0 a1).f5)) := (blk_cell BK138.out 5).trans rfl
                    have hfz80_0 := blk_frozen BK138.out 0
                    have hfz80_1 := blk_frozen BK138.out 1
                    have hfz80_2 := blk_frozen BK138.out 2
                    have hfz80_3 := blk_frozen BK138.out 3
                    have hfz80_4 := blk_frozen BK138.out 4
                    have hfz80_5 := blk_frozen BK138.out 5
                    go_wp2_with (first | (go_at_call 46; (with_reducible refine (spec_l01In.calls ((rd_T36 l0 a1).f0) 3 12 false _ A58.out).mono ?_); rintro e w' ⟨rfl, ⟨nd, rfl⟩⟩; (try first | exact ⟨rfl, _, World.drewN_drewN _ _ _⟩ | exact ⟨rfl, _, Eq.trans (World.drewN_drewN _ _ _) (congrArg (World.drewN _) (Nat.add_assoc _ _ _))⟩)) | (go_at_call 46; (with_reducible refine (spec_l01In.calls ((rd_T36 l0 a1).f0) 13 15 true _ A73.out).mono ?_); rintro e w' ⟨rfl, ⟨nd, rfl⟩⟩; (try first | exact ⟨rfl, _, World.drewN_drewN _ _ _⟩ | exact ⟨rfl, _, Eq.trans (World.drewN_drewN _ _ _) (congrArg (World.drewN _) (Nat.add_assoc _ _ _))⟩); obtain ⟨Ao81, co81, eo81⟩ := Kd.R_slice HO_8.out; subst eo81; have p160 : 0 ≤ (0 : Int) := (by omega); have q160 : 0 < (x8_2.length : Int) := of_decide_eq_true (by first | (with_reducible assumption) | assumption); obtain ⟨ad160, e160, hx160_0⟩ := Kd.at_int (Kd.R_reads' HO_8.out).2.2 0 p160 q160; cases e160; have qi160 : (0 < x8_2.length) = True := eq_true (by omega); (try rw [show ((0 : Int)).toNat = 0 from rfl] at hx160_0); (try rw [Addr.add_zero'] at hx160_0); replace p160 := eq_true p160; replace q160 := eq_true q160; have p161 : 0 ≤ (1 : Int) := (by omega); have q161 : 1 < (x8_2.length : Int) := of_decide_eq_true (by first | (with_reducible assumption) | assumption); obtain ⟨ad161, e161, hx161_0⟩ := Kd.at_int (Kd.R_reads' HO_8.out).2.2 1 p161 q161; obtain rfl : ad160 = ad161 := (by injection e161); (try simp only [show (1 : Int).toNat = 1 from rfl, Nat.reduceMul, Nat.reduceEqDiff, Go.Addr.add, ↓reduceIte] at hx161_0); have qi161 : (1 < x8_2.length) = True := eq_true (by omega); (try rw [show ((1 : Int)).toNat = 1 from rfl] at hx161_0); replace p161 := eq_true p161; replace q161 := eq_true q161))
                    repeat (go_quiet (first | (go_at_call 46; (with_reducible refine (spec_l01In.calls ((rd_T36 l0 a1).f0) 3 12 false _ A58.out).mono ?_); rintro e w' ⟨rfl, ⟨nd, rfl⟩⟩; (try first | exact ⟨rfl, _, World.drewN_drewN _ _ _⟩ | exact ⟨rfl, _, Eq.trans (World.drewN_drewN _ _ _) (congrArg (World.drewN _) (Nat.add_assoc _ _ _))⟩)) | (go_at_call 46; (with_reducible refine (spec_l01In.calls ((rd_T36 l0 a1).f0) 13 15 true _ A73.out).mono ?_); rintro e w' ⟨rfl, ⟨nd, rfl⟩⟩; (try first | exact ⟨rfl, _, World.drewN_drewN _ _ _⟩ | exact ⟨rfl, _, Eq.trans (World.drewN_drewN _ _ _) (congrArg (World.drewN _) (Nat.add_assoc _ _ _))⟩); obtain ⟨Ao81, co81, eo81⟩ := Kd.R_slice HO_8.out; subst eo81; have p160 : 0 ≤ (0 : Int) := (by omega); have q160 : 0 < (x8_2.length : Int) := of_decide_eq_true (by first | (with_reducible assumption) | assumption); obtain ⟨ad160, e160, hx160_0⟩ := Kd.at_int (Kd.R_reads' HO_8.out).2.2 0 p160 q160; cases e160; have qi160 : (0 < x8_2.length) = True := eq_true (by omega); (try rw [show ((0 : Int)).toNat = 0 from rfl] at hx160_0); (try rw [Addr.add_zero'] at hx160_0); replace p160 := eq_true p160; replace q160 := eq_true q160; have p161 : 0 ≤ (1 : Int) := (by omega); have q161 : 1 < (x8_2.length : Int) := of_decide_eq_true (by first | (with_reducible assumption) | assumption); obtain ⟨ad161, e161, hx161_0⟩ := Kd.at_int (Kd.R_reads' HO_8.out).2.2 1 p161 q161; obtain rfl : ad160 = ad161 := (by injection e161); (try simp only [show (1 : Int).toNat = 1 from rfl, Nat.reduceMul, Nat.reduceEqDiff, Go.Addr.add, ↓reduceIte] at hx161_0); have qi161 : (1 < x8_2.length) = True := eq_true (by omega); (try rw [show ((1 : Int)).toNat = 1 from rfl] at hx161_0); replace p161 := eq_true p161; replace q161 := eq_true q161)); try go_wp2_with (first | (go_at_call 46; (with_reducible refine (spec_l01In.calls ((rd_T36 l0 a1).f0) 3 12 false _ A58.out).mono ?_); rintro e w' ⟨rfl, ⟨nd, rfl⟩⟩; (try first | exact ⟨rfl, _, World.drewN_drewN _ _ _⟩ | exact ⟨rfl, _, Eq.trans (World.drewN_drewN _ _ _) (congrArg (World.drewN _) (Nat.add_assoc _ _ _))⟩)) | (go_at_call 46; (with_reducible refine (spec_l01In.calls ((rd_T36 l0 a1).f0) 13 15 true _ A73.out).mono ?_); rintro e w' ⟨rfl, ⟨nd, rfl⟩⟩; (try first | exact ⟨rfl, _, World.drewN_drewN _ _ _⟩ | exact ⟨rfl, _, Eq.trans (World.drewN_drewN _ _ _) (congrArg (World.drewN _) (Nat.add_assoc _ _ _))⟩); obtain ⟨Ao81, co81, eo81⟩ := Kd.R_slice HO_8.out; subst eo81; have p160 : 0 ≤ (0 : Int) := (by omega); have q160 : 0 < (x8_2.length : Int) := of_decide_eq_true (by first | (with_reducible assumption) | assumption); obtain ⟨ad160, e160, hx160_0⟩ := Kd.at_int (Kd.R_reads' HO_8.out).2.2 0 p160 q160; cases e160; have qi160 : (0 < x8_2.length) = True := eq_true (by omega); (try rw [show ((0 : Int)).toNat = 0 from rfl] at hx160_0); (try rw [Addr.add_zero'] at hx160_0); replace p160 := eq_true p160; replace q160 := eq_true q160; have p161 : 0 ≤ (1 : Int) := (by omega); have q161 : 1 < (x8_2.length : Int) := of_decide_eq_true (by first | (with_reducible assumption) | assumption); obtain ⟨ad161, e161, hx161_0⟩ := Kd.at_int (Kd.R_reads' HO_8.out).2.2 1 p161 q161; obtain rfl : ad160 = ad161 := (by injection e161); (try simp only [show (1 : Int).toNat = 1 from rfl, Nat.reduceMul, Nat.reduceEqDiff, Go.Addr.add, ↓reduceIte] at hx161_0); have qi161 : (1 < x8_2.length) = True := eq_true (by omega); (try rw [show ((1 : Int)).toNat = 1 from rfl] at hx161_0); replace p161 := eq_true p161; replace q161 := eq_true q161)))
                    go_ret
                    exact ⟨by first | rfl | (simp [errW_none, errW_some] <;> rfl) | (simp [*, errW_none, errW_some] <;> rfl), by repeat (first | (with_reducible first | exact HB.out | apply below_alloc | apply pw_below_drewN | apply below_drew1 | refine below_set ?_ GE138.out) | exact HB.out)⟩
                   ·rw [if_neg c79] at H
                    have c79b0 : (((rd_T36 l0 a1).f2) == 0) = false := beq_eq_false_iff_ne.mpr c79
                    have c79b1 : (((rd_T36 l0 a1).f2) != 0) = true := bne_iff_ne.mpr c79
                    obtain rfl := Option.some.inj H
                    have hcz82_0 : wr.cell? ⟨gb138, 0, none⟩ = some (.int .i64 ((rd_T36 l0 a1).f0)) := (blk_cell BK138.out 0).trans rfl
                    have hcz82_1 : wr.cell? ⟨gb138, 1, none⟩ = some (.int .i64 ((rd_T36 l0 a1).f1)) := (blk_cell BK138.out 1).trans rfl
                    have hcz82_2 : wr.cell? ⟨gb138, 2, none⟩ = some (.int .i64 ((rd_T36 l0 a1).f2)) := (blk_cell BK138.out 2).trans rfl
                    have hcz82_3 : wr.cell? ⟨gb138, 3, none⟩ = some (.int .i64 ((rd_T36 l0 a1).f3)) := (blk_cell BK138.out 3).trans rfl
                    have hcz82_4 : wr.cell? ⟨gb138, 4, none⟩ = some (.int .i64 ((rd_T36 l0 a1).f4)) := (blk_cell BK138.out 4).trans rfl
                    have hcz82_5 : wr.cell? ⟨gb138, 5, none⟩ = some (.int .i64 ((rd_T36 l0 a1).f5)) := (blk_cell BK138.out 5).trans rfl
                    have hfz82_0 := blk_frozen BK138.out 0
                    have hfz82_1 := blk_frozen BK138.out 1
                    have hfz82_2 := blk_frozen BK138.out 2
                    have hfz82_3 := blk_frozen BK138.out 3
                    have hfz82_4 := blk_frozen BK138.out 4
                    have hfz82_5 := blk_frozen BK138.out 5
                    go_wp2_with (first | (go_at_call 46; (with_reducible refine (spec_l01In.calls ((rd_T36 l0 a1).f0) 3 12 false _ A58.out).mono ?_); rintro e w' ⟨rfl, ⟨nd, rfl⟩⟩; (try first | exact ⟨rfl, _, World.drewN_drewN _ _ _⟩ | exact ⟨rfl, _, Eq.trans (World.drewN_drewN _ _ _) (congrArg (World.drewN _) (Nat.add_assoc _ _ _))⟩)) | (go_at_call 46; (with_reducible refine (spec_l01In.calls ((rd_T36 l0 a1).f0) 13 15 true _ A73.out).mono ?_); rintro e w' ⟨rfl, ⟨nd, rfl⟩⟩; (try first | exact ⟨rfl, _, World.drewN_drewN _ _ _⟩ | exact ⟨rfl, _, Eq.trans (World.drewN_drewN _ _ _) (congrArg (World.drewN _) (Nat.add_assoc _ _ _))⟩); obtain ⟨Ao83, co83, eo83⟩ := Kd.R_slice HO_8.out; subst eo83; have p160 : 0 ≤ (0 : Int) := (by omega); have q160 : 0 < (x8_2.length : Int) := of_decide_eq_true (by first | (with_reducible assumption) | assumption); obtain ⟨ad160, e160, hx160_0⟩ := Kd.at_int (Kd.R_reads' HO_8.out).2.2 0 p160 q160; cases e160; have qi160 : (0 < x8_2.length) = True := eq_true (by omega); (try rw [show ((0 : Int)).toNat = 0 from rfl] at hx160_0); (try rw [Addr.add_zero'] at hx160_0); replace p160 := eq_true p160; replace q160 := eq_true q160; have p161 : 0 ≤ (1 : Int) := (by omega); have q161 : 1 < (x8_2.length : Int) := of_decide_eq_true (by first | (with_reducible assumption) | assumption); obtain ⟨ad161, e161, hx161_0⟩ := Kd.at_int (Kd.R_reads' HO_8.out).2.2 1 p161 q161; obtain rfl : ad160 = ad161 := (by injection e161); (try simp only [show (1 : Int).toNat = 1 from rfl, Nat.reduceMul, Nat.reduceEqDiff, Go.Addr.add, ↓reduceIte] at hx161_0); have qi161 : (1 < x8_2.length) = True := eq_true (by omega); (try rw [show ((1 : Int)).toNat = 1 from rfl] at hx161_0); replace p161 := eq_true p161; replace q161 := eq_true q161))
                    repeat (go_quiet (first | (go_at_call 46; (with_reducible refine (spec_l01In.calls ((rd_T36 l0 a1).f0) 3 12 false _ A58.out).mono ?_); rintro e w' ⟨rfl, ⟨nd, rfl⟩⟩; (try first | exact ⟨rfl, _, World.drewN_drewN _ _ _⟩ | exact ⟨rfl, _, Eq.trans (World.drewN_drewN _ _ _) (congrArg (World.drewN _) (Nat.add_assoc _ _ _))⟩)) | (go_at_call 46; (with_reducible refine (spec_l01In.calls ((rd_T36 l0 a1).f0) 13 15 true _ A73.out).mono ?_); rintro e w' ⟨rfl, ⟨nd, rfl⟩⟩; (try first | exact ⟨rfl, _, World.drewN_drewN _ _ _⟩ | exact ⟨rfl, _, Eq.trans (World.drewN_drewN _ _ _) (congrArg (World.drewN _) (Nat.add_assoc _ _ _))⟩); obtain ⟨Ao83, co83, eo83⟩ := Kd.R_slice HO_8.out; subst eo83; have p160 : 0 ≤ (0 : Int) := (by omega); have q160 : 0 < (x8_2.length : Int) := of_decide_eq_true (by first | (with_reducible assumption) | assumption); obtain ⟨ad160, e160, hx160_0⟩ := Kd.at_int (Kd.R_reads' HO_8.out).2.2 0 p160 q160; cases e160; have qi160 : (0 < x8_2.length) = True := eq_true (by omega); (try rw [show ((0 : Int)).toNat = 0 from rfl] at hx160_0); (try rw [Addr.add_zero'] at hx160_0); replace p160 := eq_true p160; replace q160 := eq_true q160; have p161 : 0 ≤ (1 : Int) := (by omega); have q161 : 1 < (x8_2.length : Int) := of_decide_eq_true (by first | (with_reducible assumption) | assumption); obtain ⟨ad161, e161, hx161_0⟩ := Kd.at_int (Kd.R_reads' HO_8.out).2.2 1 p161 q161; obtain rfl : ad160 = ad161 := (by injection e161); (try simp only [show (1 : Int).toNat = 1 from rfl, Nat.reduceMul, Nat.reduceEqDiff, Go.Addr.add, ↓reduceIte] at hx161_0); have qi161 : (1 < x8_2.length) = True := eq_true (by omega); (try rw [show ((1 : Int)).toNat = 1 from rfl] at hx161_0); replace p161 := eq_true p161; replace q161 := eq_true q161)); try go_wp2_with (first | (go_at_call 46; (with_reducible refine (spec_l01In.calls ((rd_T36 l0 a1).f0) 3 12 false _ A58.out).mono ?_); rintro e w' ⟨rfl, ⟨nd, rfl⟩⟩; (try first | exact ⟨rfl, _, World.drewN_drewN _ _ _⟩ | exact ⟨rfl, _, Eq.trans (World.drewN_drewN _ _ _) (congrArg (World.drewN _) (Nat.add_assoc _ _ _))⟩)) | (go_at_call 46; (with_reducible refine (spec_l01In.calls ((rd_T36 l0 a1).f0) 13 15 true _ A73.out).mono ?_); rintro e w' ⟨rfl, ⟨nd, rfl⟩⟩; (try first | exact ⟨rfl, _, World.drewN_drewN _ _ _⟩ | exact ⟨rfl, _, Eq.trans (World.drewN_drewN _ _ _) (congrArg (World.drewN _) (Nat.add_assoc _ _ _))⟩); obtain ⟨Ao83, co83, eo83⟩ := Kd.R_slice HO_8.out; subst eo83; have p160 : 0 ≤ (0 : Int) := (by omega); have q160 : 0 < (x8_2.length : Int) := of_decide_eq_true (by first | (with_reducible assumption) | assumption); obtain ⟨ad160, e160, hx160_0⟩ := Kd.at_int (Kd.R_reads' HO_8.out).2.2 0 p160 q160; cases e160; have qi160 : (0 < x8_2.length) = True := eq_true (by omega); (try rw [show ((0 : Int)).toNat = 0 from rfl] at hx160_0); (try rw [Addr.add_zero'] at hx160_0); replace p160 := eq_true p160; replace q160 := eq_true q160; have p161 : 0 ≤ (1 : Int) := (by omega); have q161 : 1 < (x8_2.length : Int) := of_decide_eq_true (by first | (with_reducible assumption) | assumption); obtain ⟨ad161, e161, hx161_0⟩ := Kd.at_int (Kd.R_reads' HO_8.out).2.2 1 p161 q161; obtain rfl : ad160 = ad161 := (by injection e161); (try simp only [show (1 : Int).toNat = 1 from rfl, Nat.reduceMul, Nat.reduceEqDiff, Go.Addr.add, ↓reduceIte] at hx161_0); have qi161 : (1 < x8_2.length) = True := eq_true (by omega); (try rw [show ((1 : Int)).toNat = 1 from rfl] at hx161_0); replace p161 := eq_true p161; replace q161 := eq_true q161)))
                    go_ret
                    exact ⟨by first | rfl | (simp [errW_none, errW_some] <;> rfl) | (simp [*, errW_none, errW_some] <;> rfl), by repeat (first | (with_reducible first | exact HB.out | apply below_alloc | apply pw_below_drewN | apply below_drew1 | refine below_set ?_ GE138.out) | exact HB.out)⟩
                  ·rw [if_neg c78] at H
                   have c78b0 : (((rd_T36 l0 a1).f1) == 1) = false := beq_eq_false_iff_ne.mpr c78
                   have c78b1 : (((rd_T36 l0 a1).f1) != 1) = true := bne_iff_ne.mpr c78
                   obtain rfl := Option.some.inj H
                   have hcz84_0 : wr.cell? ⟨gb138, 0, none⟩ = some (.int .i64 ((rd_T36 l0 a1).f0)) := (blk_cell BK138.out 0).trans rfl
                   have hcz84_1 : wr.cell? ⟨gb138, 1, none⟩ = some (.int .i64 ((rd_T36 l0 a1).f1)) := (blk_cell BK138.out 1).trans rfl
                   have hcz84_2 : wr.cell? ⟨gb138, 2, none⟩ = some (.int .i64 ((rd_T36 l0 a1).f2)) := (blk_cell BK138.out 2).trans rfl
                   have hcz84_3 : wr.cell? ⟨gb138, 3, none⟩ = some (.int .i64 ((rd_T36 l0 a1).f3)) := (blk_cell BK138.out 3).trans rfl
                   have hcz84_4 : wr.cell? ⟨gb138, 4, none⟩ = some (.int .i64 ((rd_T36 l0 a1).f4)) := (blk_cell BK138.out 4).trans rfl
                   have hcz84_5 : wr.cell? ⟨gb138, 5, none⟩ = some (.int .i64 ((rd_T36 l0 a1).f5)) := (blk_cell BK138.out 5).trans rfl
                   have hfz84_0 := blk_frozen BK138.out 0
                   have hfz84_1 := blk_frozen BK138.out 1
                   have hfz84_2 := blk_frozen BK138.out 2
                   have hfz84_3 := blk_frozen BK138.out 3
                   have hfz84_4 := blk_frozen BK138.out 4
                   have hfz84_5 := blk_frozen BK138.out 5
                   go_wp2_with (first | (go_at_call 46; (with_reducible refine (spec_l01In.calls ((rd_T36 l0 a1).f0) 3 12 false _ A58.out).mono ?_); rintro e w' ⟨rfl, ⟨nd, rfl⟩⟩; (try first | exact ⟨rfl, _, World.drewN_drewN _ _ _⟩ | exact ⟨rfl, _, Eq.trans (World.drewN_drewN _ _ _) (congrArg (World.drewN _) (Nat.add_assoc _ _ _))⟩)) | (go_at_call 46; (with_reducible refine (spec_l01In.calls ((rd_T36 l0 a1).f0) 13 15 true _ A73.out).mono ?_); rintro e w' ⟨rfl, ⟨nd, rfl⟩⟩; (try first | exact ⟨rfl, _, World.drewN_drewN _ _ _⟩ | exact ⟨rfl, _, Eq.trans (World.drewN_drewN _ _ _) (congrArg (World.drewN _) (Nat.add_assoc _ _ _))⟩); obtain ⟨Ao85, co85, eo85⟩ := Kd.R_slice HO_8.out; subst eo85; have p160 : 0 ≤ (0 : Int) := (by omega); have q160 : 0 < (x8_2.length : Int) := of_decide_eq_true (by first | (with_reducible assumption) | assumption); obtain ⟨ad160, e160, hx160_0⟩ := Kd.at_int (Kd.R_reads' HO_8.out).2.2 0 p160 q160; cases e160; have qi160 : (0 < x8_2.length) = True := eq_true (by omega); (try rw [show ((0 : Int)).toNat = 0 from rfl] at hx160_0); (try rw [Addr.add_zero'] at hx160_0); replace p160 := eq_true p160; replace q160 := eq_true q160; have p161 : 0 ≤ (1 : Int) := (by omega); have q161 : 1 < (x8_2.length : Int) := of_decide_eq_true (by first | (with_reducible assumption) | assumption); obtain ⟨ad161, e161, hx161_0⟩ := Kd.at_int (Kd.R_reads' HO_8.out).2.2 1 p161 q161; obtain rfl : ad160 = ad161 := (by injection e161); (try simp only [show (1 : Int).toNat = 1 from rfl, Nat.reduceMul, Nat.reduceEqDiff, Go.Addr.add, ↓reduceIte] at hx161_0); have qi161 : (1 < x8_2.length) = True := eq_true (by omega); (try rw [show ((1 : Int)).toNat = 1 from rfl] at hx161_0); replace p161 := eq_true p161; replace q161 := eq_true q161))
                   repeat (go_quiet (first | (go_at_call 46; (with_reducible refine (spec_l01In.calls ((rd_T36 l0 a1).f0) 3 12 false _ A58.out).mono ?_); rintro e w' ⟨rfl, ⟨nd, rfl⟩⟩; (try first | exact ⟨rfl, _, World.drewN_drewN _ _ _⟩ | exact ⟨rfl, _, Eq.trans (World.drewN_drewN _ _ _) (congrArg (World.drewN _) (Nat.add_assoc _ _ _))⟩)) | (go_at_call 46; (with_reducible refine (spec_l01In.calls ((rd_T36 l0 a1).f0) 13 15 true _ A73.out).mono ?_); rintro e w' ⟨rfl, ⟨nd, rfl⟩⟩; (try first | exact ⟨rfl, _, World.drewN_drewN _ _ _⟩ | exact ⟨rfl, _, Eq.trans (World.drewN_drewN _ _ _) (congrArg (World.drewN _) (Nat.add_assoc _ _ _))⟩); obtain ⟨Ao85, co85, eo85⟩ := Kd.R_slice HO_8.out; subst eo85; have p160 : 0 ≤ (0 : Int) := (by omega); have q160 : 0 < (x8_2.length : Int) := of_decide_eq_true (by first | (with_reducible assumption) | assumption); obtain ⟨ad160, e160, hx160_0⟩ := Kd.at_int (Kd.R_reads' HO_8.out).2.2 0 p160 q160; cases e160; have qi160 : (0 < x8_2.length) = True := eq_true (by omega); (try rw [show ((0 : Int)).toNat = 0 from rfl] at hx160_0); (try rw [Addr.add_zero'] at hx160_0); replace p160 := eq_true p160; replace q160 := eq_true q160; have p161 : 0 ≤ (1 : Int) := (by omega); have q161 : 1 < (x8_2.length : Int) := of_decide_eq_true (by first | (with_reducible assumption) | assumption); obtain ⟨ad161, e161, hx161_0⟩ := Kd.at_int (Kd.R_reads' HO_8.out).2.2 1 p161 q161; obtain rfl : ad160 = ad161 := (by injection e161); (try simp only [show (1 : Int).toNat = 1 from rfl, Nat.reduceMul, Nat.reduceEqDiff, Go.Addr.add, ↓reduceIte] at hx161_0); have qi161 : (1 < x8_2.length) = True := eq_true (by omega); (try rw [show ((1 : Int)).toNat = 1 from rfl] at hx161_0); replace p161 := eq_true p161; replace q161 := eq_true q161)); try go_wp2_with (first | (go_at_call 46; (with_reducible refine (spec_l01In.calls ((rd_T36 l0 a1).f0) 3 12 false _ A58.out).mono ?_); rintro e w' ⟨rfl, ⟨nd, rfl⟩⟩; (try first | exact ⟨rfl, _, World.drewN_drewN _ _ _⟩ | exact ⟨rfl, _, Eq.trans (World.drewN_drewN _ _ _) (congrArg (World.drewN _) (Nat.add_assoc _ _ _))⟩)) | (go_at_call 46; (with_reducible refine (spec_l01In.calls ((rd_T36 l0 a1).f0) 13 15 true _ A73.out).mono ?_); rintro e w' ⟨rfl, ⟨nd, rfl⟩⟩; (try first | exact ⟨rfl, _, World.drewN_drewN _ _ _⟩ | exact ⟨rfl, _, Eq.trans (World.drewN_drewN _ _ _) (congrArg (World.drewN _) (Nat.add_assoc _ _ _))⟩); obtain ⟨Ao85, co85, eo85⟩ := Kd.R_slice HO_8.out; subst eo85; have p160 : 0 ≤ (0 : Int) := (by omega); have q160 : 0 < (x8_2.length : Int) := of_decide_eq_true (by first | (with_reducible assumption) | assumption); obtain ⟨ad160, e160, hx160_0⟩ := Kd.at_int (Kd.R_reads' HO_8.out).2.2 0 p160 q160; cases e160; have qi160 : (0 < x8_2.length) = True := eq_true (by omega); (try rw [show ((0 : Int)).toNat = 0 from rfl] at hx160_0); (try rw [Addr.add_zero'] at hx160_0); replace p160 := eq_true p160; replace q160 := eq_true q160; have p161 : 0 ≤ (1 : Int) := (by omega); have q161 : 1 < (x8_2.length : Int) := of_decide_eq_true (by first | (with_reducible assumption) | assumption); obtain ⟨ad161, e161, hx161_0⟩ := Kd.at_int (Kd.R_reads' HO_8.out).2.2 1 p161 q161; obtain rfl : ad160 = ad161 := (by injection e161); (try simp only [show (1 : Int).toNat = 1 from rfl, Nat.reduceMul, Nat.reduceEqDiff, Go.Addr.add, ↓reduceIte] at hx161_0); have qi161 : (1 < x8_2.length) = True := eq_true (by omega); (try rw [show ((1 : Int)).toNat = 1 from rfl] at hx161_0); replace p161 := eq_true p161; replace q161 := eq_true q161)))
                   go_ret
                   exact ⟨by first | rfl | (simp [errW_none, errW_some] <;> rfl) | (simp [*, errW_none, errW_some] <;> rfl), by repeat (first | (with_reducible first | exact HB.out | apply below_alloc | apply pw_below_drewN | apply below_drew1 | refine below_set ?_ GE138.out) | exact HB.out)⟩
                 ·rw [if_neg c77] at H
                  have c77b0 : ((rd x8_2 0) == (rd x8_2 1)) = false := beq_eq_false_iff_ne.mpr c77
                  have c77b1 : ((rd x8_2 0) != (rd x8_2 1)) = true := bne_iff_ne.mpr c77
                  obtain rfl := Option.some.inj H
                  have hcz86_0 : wr.cell? ⟨gb138, 0, none⟩ = some (.int .i64 ((rd_T36 l0 a1).f0)) := (blk_cell BK138.out 0).trans rfl
                  have hcz86_1 : wr.cell? ⟨gb138, 1, none⟩ = some (.int .i64 ((rd_T36 l0 a1).f1)) := (blk_cell BK138.out 1).trans rfl
                  have hcz86_2 : wr.cell? ⟨gb138, 2, none⟩ = some (.int .i64 ((rd_T36 l0 a1).f2)) := (blk_cell BK138.out 2).trans rfl
                  have hcz86_3 : wr.cell? ⟨gb138, 3, none⟩ = some (.int .i64 ((rd_T36 l0 a1).f3)) := (blk_cell BK138.out 3).trans rfl
                  have hcz86_4 : wr.cell? ⟨gb138, 4, none⟩ = some (.int .i64 ((rd_T36 l0 a1).f4)) := (blk_cell BK138.out 4).trans rfl
                  have hcz86_5 : wr.cell? ⟨gb138, 5, none⟩ = some (.int .i64 ((rd_T36 l0 a1).f5)) := (blk_cell BK138.out 5).trans rfl
                  have hfz86_0 := blk_frozen BK138.out 0
                  have hfz86_1 := blk_frozen BK138.out 1
                  have hfz86_2 := blk_frozen BK138.out 2
                  have hfz86_3 := blk_frozen BK138.out 3
                  have hfz86_4 := blk_frozen BK138.out 4
                  have hfz86_5 := blk_frozen BK138.out 5
                  go_wp2_with (first | (go_at_call 46; (with_reducible refine (spec_l01In.calls ((rd_T36 l0 a1).f0) 3 12 false _ A58.out).mono ?_); rintro e w' ⟨rfl, ⟨nd, rfl⟩⟩; (try first | exact ⟨rfl, _, World.drewN_drewN _ _ _⟩ | exact ⟨rfl, _, Eq.trans (World.drewN_drewN _ _ _) (congrArg (World.drewN _) (Nat.add_assoc _ _ _))⟩)) | (go_at_call 46; (with_reducible refine (spec_l01In.calls ((rd_T36 l0 a1).f0) 13 15 true _ A73.out).mono ?_); rintro e w' ⟨rfl, ⟨nd, rfl⟩⟩; (try first | exact ⟨rfl, _, World.drewN_drewN _ _ _⟩ | exact ⟨rfl, _, Eq.trans (World.drewN_drewN _ _ _) (congrArg (World.drewN _) (Nat.add_assoc _ _ _))⟩); obtain ⟨Ao87, co87, eo87⟩ := Kd.R_slice HO_8.out; subst eo87; have p160 : 0 ≤ (0 : Int) := (by omega); have q160 : 0 < (x8_2.length : Int) := of_decide_eq_true (by first | (with_reducible assumption) | assumption); obtain ⟨ad160, e160, hx160_0⟩ := Kd.at_int (Kd.R_reads' HO_8.out).2.2 0 p160 q160; cases e160; have qi160 : (0 < x8_2.length) = True := eq_true (by omega); (try rw [show ((0 : Int)).toNat = 0 from rfl] at hx160_0); (try rw [Addr.add_zero'] at hx160_0); replace p160 := eq_true p160; replace q160 := eq_true q160; have p161 : 0 ≤ (1 : Int) := (by omega); have q161 : 1 < (x8_2.length : Int) := of_decide_eq_true (by first | (with_reducible assumption) | assumption); obtain ⟨ad161, e161, hx161_0⟩ := Kd.at_int (Kd.R_reads' HO_8.out).2.2 1 p161 q161; obtain rfl : ad160 = ad161 := (by injection e161); (try simp only [show (1 : Int).toNat = 1 from rfl, Nat.reduceMul, Nat.reduceEqDiff, Go.Addr.add, ↓reduceIte] at hx161_0); have qi161 : (1 < x8_2.length) = True := eq_true (by omega); (try rw [show ((1 : Int)).toNat = 1 from rfl] at hx161_0); replace p161 := eq_true p161; replace q161 := eq_true q161))
                  repeat (go_quiet (first | (go_at_call 46; (with_reducible refine (spec_l01In.calls ((rd_T36 l0 a1).f0) 3 12 false _ A58.out).mono ?_); rintro e w' ⟨rfl, ⟨nd, rfl⟩⟩; (try first | exact ⟨rfl, _, World.drewN_drewN _ _ _⟩ | exact ⟨rfl, _, Eq.trans (World.drewN_drewN _ _ _) (congrArg (World.drewN _) (Nat.add_assoc _ _ _))⟩)) | (go_at_call 46; (with_reducible refine (spec_l01In.calls ((rd_T36 l0 a1).f0) 13 15 true _ A73.out).mono ?_); rintro e w' ⟨rfl, ⟨nd, rfl⟩⟩; (try first | exact ⟨rfl, _, World.drewN_drewN _ _ _⟩ | exact ⟨rfl, _, Eq.trans (World.drewN_drewN _ _ _) (congrArg (World.drewN _) (Nat.add_assoc _ _ _))⟩); obtain ⟨Ao87, co87, eo87⟩ := Kd.R_slice HO_8.out; subst eo87; have p160 : 0 ≤ (0 : Int) := (by omega); have q160 : 0 < (x8_2.length : Int) := of_decide_eq_true (by first | (with_reducible assumption) | assumption); obtain ⟨ad160, e160, hx160_0⟩ := Kd.at_int (Kd.R_reads' HO_8.out).2.2 0 p160 q160; cases e160; have qi160 : (0 < x8_2.length) = True := eq_true (by omega); (try rw [show ((0 : Int)).toNat = 0 from rfl] at hx160_0); (try rw [Addr.add_zero'] at hx160_0); replace p160 := eq_true p160; replace q160 := eq_true q160; have p161 : 0 ≤ (1 : Int) := (by omega); have q161 : 1 < (x8_2.length : Int) := of_decide_eq_true (by first | (with_reducible assumption) | assumption); obtain ⟨ad161, e161, hx161_0⟩ := Kd.at_int (Kd.R_reads' HO_8.out).2.2 1 p161 q161; obtain rfl : ad160 = ad161 := (by injection e161); (try simp only [show (1 : Int).toNat = 1 from rfl, Nat.reduceMul, Nat.reduceEqDiff, Go.Addr.add, ↓reduceIte] at hx161_0); have qi161 : (1 < x8_2.length) = True := eq_true (by omega); (try rw [show ((1 : Int)).toNat = 1 from rfl] at hx161_0); replace p161 := eq_true p161; replace q161 := eq_true q161)); try go_wp2_with (first | (go_at_call 46; (with_reducible refine (spec_l01In.calls ((rd_T36 l0 a1).f0) 3 12 false _ A58.out).mono ?_); rintro e w' ⟨rfl, ⟨nd, rfl⟩⟩; (try first | exact ⟨rfl, _, World.drewN_drewN _ _ _⟩ | exact ⟨rfl, _, Eq.trans (World.drewN_drewN _ _ _) (congrArg (World.drewN _) (Nat.add_assoc _ _ _))⟩)) | (go_at_call 46; (with_reducible refine (spec_l01In.calls ((rd_T36 l0 a1).f0) 13 15 true _ A73.out).mono ?_); rintro e w' ⟨rfl, ⟨nd, rfl⟩⟩; (try first | exact ⟨rfl, _, World.drewN_drewN _ _ _⟩ | exact ⟨rfl, _, Eq.trans (World.drewN_drewN _ _ _) (congrArg (World.drewN _) (Nat.add_assoc _ _ _))⟩); obtain ⟨Ao87, co87, eo87⟩ := Kd.R_slice HO_8.out; subst eo87; have p160 : 0 ≤ (0 : Int) := (by omega); have q160 : 0 < (x8_2.length : Int) := of_decide_eq_true (by first | (with_reducible assumption) | assumption); obtain ⟨ad160, e160, hx160_0⟩ := Kd.at_int (Kd.R_reads' HO_8.out).2.2 0 p160 q160; cases e160; have qi160 : (0 < x8_2.length) = True := eq_true (by omega); (try rw [show ((0 : Int)).toNat = 0 from rfl] at hx160_0); (try rw [Addr.add_zero'] at hx160_0); replace p160 := eq_true p160; replace q160 := eq_true q160; have p161 : 0 ≤ (1 : Int) := (by omega); have q161 : 1 < (x8_2.length : Int) := of_decide_eq_true (by first | (with_reducible assumption) | assumption); obtain ⟨ad161, e161, hx161_0⟩ := Kd.at_int (Kd.R_reads' HO_8.out).2.2 1 p161 q161; obtain rfl : ad160 = ad161 := (by injection e161); (try simp only [show (1 : Int).toNat = 1 from rfl, Nat.reduceMul, Nat.reduceEqDiff, Go.Addr.add, ↓reduceIte] at hx161_0); have qi161 : (1 < x8_2.length) = True := eq_true (by omega); (try rw [show ((1 : Int)).toNat = 1 from rfl] at hx161_0); replace p161 := eq_true p161; replace q161 := eq_true q161)))
                  go_ret
                  exact ⟨by first | rfl | (simp [errW_none, errW_some] <;> rfl) | (simp [*, errW_none, errW_some] <;> rfl), by repeat (first | (with_reducible first | exact HB.out | apply below_alloc | apply pw_below_drewN | apply below_drew1 | refine below_set ?_ GE138.out) | exact HB.out)⟩
                ·rw [if_neg c76] at H
                 exact absurd H (by simp)
               ·rw [if_neg c75] at H
                exact absurd H (by simp)
              ·replace c74 := Bool.eq_false_iff.mpr c74
               subst c74
               have H1 : (if ((rd_T36 l0 a1).f0) = 16 then (if 0 < (x8_2.length : Int) then (if 1 < (x8_2.length : Int) then (if (wrap64 ((rd x8_2 0) + (rd x8_2 1))) = ((rd_T36 l0 a1).f1) then (if ((rd_T36 l0 a1).f2) = 0 then (some (((rd_T36 l0 a1).f5) == 0)) else (some false)) else (some false)) else (none)) else (none)) else (if ((rd_T36 l0 a1).f0) = 17 then (if ((rd_T36 l0 a1).f2) ≥ 0 then (if 0 < (x8_2.length : Int) then (if ((rd_T36 l0 a1).f2) ≤ (wrap64 ((rd x8_2 0) - ((rd_T36 l0 a1).f1))) then (if ((rd_T36 l0 a1).f4) = 0 then (some (((rd_T36 l0 a1).f5) == 0)) else (some false)) else (some false)) else (none)) else (some false)) else (if ((rd_T36 l0 a1).f0) = 18 then (if 0 < (x8_2.length : Int) then (if (rd x8_2 0) = 1 then (if 1 < (x8_2.length : Int) then (if (rd x8_2 1) = ((rd_T36 l0 a1).f1) then (if 2 < (x8_2.length : Int) then (if (rd x8_2 2) = ((rd_T36 l0 a1).f1) then (some (((rd_T36 l0 a1).f2) == 0)) else (some false)) else (none)) else (some false)) else (none)) else (some false)) else (none)) else (if ((rd_T36 l0 a1).f0) = 19 then (spec_l02Node.j2 k2 x8_2 true ((rd_T36 l0 a1).f0) ((rd_T36 l0 a1).f1) ((rd_T36 l0 a1).f2) ((rd_T36 l0 a1).f3) ((rd_T36 l0 a1).f4) ((rd_T36 l0 a1).f5)) else (spec_l02Node.j2 k2 x8_2 (((rd_T36 l0 a1).f0) == 20) ((rd_T36 l0 a1).f0) ((rd_T36 l0 a1).f1) ((rd_T36 l0 a1).f2) ((rd_T36 l0 a1).f3) ((rd_T36 l0 a1).f4) ((rd_T36 l0 a1).f5)))))) = some r := by rw [if_neg (show ¬ (false = true) by decide)] at H; exact H
               clear H
               have H := H1
               clear H1
               by_cases c88 : ((rd_T36 l0 a1).f0) = 16
               ·rw [if_pos c88] at H
                have c88b0 : (((rd_T36 l0 a1).f0) == 16) = true := beq_iff_eq.mpr c88
                have c88b1 : (((rd_T36 l0 a1).f0) != 16) = false := bne_eq_false_iff_eq.mpr c88
                clear c88
                by_cases c89 : 0 < (x8_2.length : Int)
                ·rw [if_pos c89] at H
                 have c89b0 : decide (0 < (x8_2.length : Int)) = true := decide_eq_true c89
                 have c89b1 : decide (0 < x8_2.length) = true := decide_eq_true (by omega)
                 clear c89
                 by_cases c90 : 1 < (x8_2.length : Int)
                 ·rw [if_pos c90] at H
                  have c90b0 : decide (1 < (x8_2.length : Int)) = true := decide_eq_true c90
                  have c90b1 : decide (1 < x8_2.length) = true := decide_eq_true (by omega)
                  clear c90
                  by_cases c91 : (wrap64 ((rd x8_2 0) + (rd x8_2 1))) = ((rd_T36 l0 a1).f1)
                  ·rw [if_pos c91] at H
                   have c91b0 : ((wrap64 ((rd x8_2 0) + (rd x8_2 1))) == ((rd_T36 l0 a1).f1)) = true := beq_iff_eq.mpr c91
                   have c91b1 : ((wrap64 ((rd x8_2 0) + (rd x8_2 1))) != ((rd_T36 l0 a1).f1)) = false := bne_eq_false_iff_eq.mpr c91
                   clear c91
                   by_cases c92 : ((rd_T36 l0 a1).f2) = 0
                   ·rw [if_pos c92] at H
                    have c92b0 : (((rd_T36 l0 a1).f2) == 0) = true := beq_iff_eq.mpr c92
                    have c92b1 : (((rd_T36 l0 a1).f2) != 0) = false := bne_eq_false_iff_eq.mpr c92
                    clear c92
                    obtain rfl := Option.some.inj H
                    have hcz93_0 : wr.cell? ⟨gb138, 0, none⟩ = some (.int .i64 ((rd_T36 l0 a1).f0)) := (blk_cell BK138.out 0).trans rfl
                    have hcz93_1 : wr.cell? ⟨gb138, 1, none⟩ = some (.int .i64 ((rd_T36 l0 a1).f1)) := (blk_cell BK138.out 1).trans rfl
                    have hcz93_2 : wr.cell? ⟨gb138, 2, none⟩ = some (.int .i64 ((rd_T36 l0 a1).f2)) := (blk_cell BK138.out 2).trans rfl
                    have hcz93_3 : wr.cell? ⟨gb138, 3, none⟩ = some (.int .i64 ((rd_T36 l0 a1).f3)) := (blk_cell BK138.out 3).trans rfl
                    have hcz93_4 : wr.cell? ⟨gb138, 4, none⟩ = some (.int .i64 ((rd_T36 l0 a1).f4)) := (blk_cell BK138.out 4).trans rfl
                    have hcz93_5 : wr.cell? ⟨gb138, 5, none⟩ = some (.int .i64 ((rd_T36 l0 a1).f5)) := (blk_cell BK138.out 5).trans rfl
                    have hfz93_0 := blk_frozen BK138.out 0
                    have hfz93_1 := blk_frozen BK138.out 1
                    have hfz93_2 := blk_frozen BK138.out 2
                    have hfz93_3 := blk_frozen BK138.out 3
                    have hfz93_4 := blk_frozen BK138.out 4
                    have hfz93_5 := blk_frozen BK138.out 5
                    go_wp2_with (first | (go_at_call 46; (with_reducible refine (spec_l01In.calls ((rd_T36 l0 a1).f0) 3 12 false _ A58.out).mono ?_); rintro e w' ⟨rfl, ⟨nd, rfl⟩⟩; (try first | exact ⟨rfl, _, World.drewN_drewN _ _ _⟩ | exact ⟨rfl, _, Eq.trans (World.drewN_drewN _ _ _) (congrArg (World.drewN _) (Nat.add_assoc _ _ _))⟩)) | (go_at_call 46; (with_reducible refine (spec_l01In.calls ((rd_T36 l0 a1).f0) 13 15 false _ A73.out).mono ?_); rintro e w' ⟨rfl, ⟨nd, rfl⟩⟩; (try first | exact ⟨rfl, _, World.drewN_drewN _ _ _⟩ | exact ⟨rfl, _, Eq.trans (World.drewN_drewN _ _ _) (congrArg (World.drewN _) (Nat.add_assoc _ _ _))⟩); obtain ⟨Ao94, co94, eo94⟩ := Kd.R_slice HO_8.out; subst eo94; have p162 : 0 ≤ (0 : Int) := (by omega); have q162 : 0 < (x8_2.length : Int) := of_decide_eq_true (by first | (with_reducible assumption) | assumption); obtain ⟨ad162, e162, hx162_0⟩ := Kd.at_int (Kd.R_reads' HO_8.out).2.2 0 p162 q162; cases e162; have qi162 : (0 < x8_2.length) = True := eq_true (by omega); (try rw [show ((0 : Int)).toNat = 0 from rfl] at hx162_0); (try rw [Addr.add_zero'] at hx162_0); replace p162 := eq_true p162; replace q162 := eq_true q162; have p163 : 0 ≤ (1 : Int) := (by omega); have q163 : 1 < (x8_2.length : Int) := of_decide_eq_true (by first | (with_reducible assumption) | assumption); obtain ⟨ad163, e163, hx163_0⟩ := Kd.at_int (Kd.R_reads' HO_8.out).2.2 1 p163 q163; obtain rfl : ad162 = ad163 := (by injection e163); (try simp only [show (1 : Int).toNat = 1 from rfl, Nat.reduceMul, Nat.reduceEqDiff, Go.Addr.add, ↓reduceIte] at hx163_0); have qi163 : (1 < x8_2.length) = True := eq_true (by omega); (try rw [show ((1 : Int)).toNat = 1 from rfl] at hx163_0); replace p163 := eq_true p163; replace q163 := eq_true q163))
                    repeat (go_quiet (first | (go_at_call 46; (with_reducible refine (spec_l01In.calls ((rd_T36 l0 a1).f0) 3 12 false _ A58.out).mono ?_); rintro e w' ⟨rfl, ⟨nd, rfl⟩⟩; (try first | exact ⟨rfl, _, World.drewN_drewN _ _ _⟩ | exact ⟨rfl, _, Eq.trans (World.drewN_drewN _ _ _) (congrArg (World.drewN _) (Nat.add_assoc _ _ _))⟩)) | (go_at_call 46; (with_reducible refine (spec_l01In.calls ((rd_T36 l0 a1).f0) 13 15 false _ A73.out).mono ?_); rintro e w' ⟨rfl, ⟨nd, rfl⟩⟩; (try first | exact ⟨rfl, _, World.drewN_drewN _ _ _⟩ | exact ⟨rfl, _, Eq.trans (World.drewN_drewN _ _ _) (congrArg (World.drewN _) (Nat.add_assoc _ _ _))⟩); obtain ⟨Ao94, co94, eo94⟩ := Kd.R_slice HO_8.out; subst eo94; have p162 : 0 ≤ (0 : Int) := (by omega); have q162 : 0 < (x8_2.length : Int) := of_decide_eq_true (by first | (with_reducible assumption) | assumption); obtain ⟨ad162, e162, hx162_0⟩ := Kd.at_int (Kd.R_reads' HO_8.out).2.2 0 p162 q162; cases e162; have qi162 : (0 < x8_2.length) = True := eq_true (by omega); (try rw [show ((0 : Int)).toNat = 0 from rfl] at hx162_0); (try rw [Addr.add_zero'] at hx162_0); replace p162 := eq_true p162; replace q162 := eq_true q162; have p163 : 0 ≤ (1 : Int) := (by omega); have q163 : 1 < (x8_2.length : Int) := of_decide_eq_true (by first | (with_reducible assumption) | assumption); obtain ⟨ad163, e163, hx163_0⟩ := Kd.at_int (Kd.R_reads' HO_8.out).2.2 1 p163 q163; obtain rfl : ad162 = ad163 := (by injection e163); (try simp only [show (1 : Int).toNat = 1 from rfl, Nat.reduceMul, Nat.reduceEqDiff, Go.Addr.add, ↓reduceIte] at hx163_0); have qi163 : (1 < x8_2.length) = True := eq_true (by omega); (try rw [show ((1 : Int)).toNat = 1 from rfl] at hx163_0); replace p163 := eq_true p163; replace q163 := eq_true q163)); try go_wp2_with (first | (go_at_call 46; (with_reducible refine (spec_l01In.calls ((rd_T36 l0 a1).f0) 3 12 false _ A58.out).mono ?_); rintro e w' ⟨rfl, ⟨nd, rfl⟩⟩; (try first | exact ⟨rfl, _, World.drewN_drewN _ _ _⟩ | exact ⟨rfl, _, Eq.trans (World.drewN_drewN _ _ _) (congrArg (World.drewN _) (Nat.add_assoc _ _ _))⟩)) | (go_at_call 46; (with_reducible refine (spec_l01In.calls ((rd_T36 l0 a1).f0) 13 15 false _ A73.out).mono ?_); rintro e w' ⟨rfl, ⟨nd, rfl⟩⟩; (try first | exact ⟨rfl, _, World.drewN_drewN _ _ _⟩ | exact ⟨rfl, _, Eq.trans (World.drewN_drewN _ _ _) (congrArg (World.drewN _) (Nat.add_assoc _ _ _))⟩); obtain ⟨Ao94, co94, eo94⟩ := Kd.R_slice HO_8.out; subst eo94; have p162 : 0 ≤ (0 : Int) := (by omega); have q162 : 0 < (x8_2.length : Int) := of_decide_eq_true (by first | (with_reducible assumption) | assumption); obtain ⟨ad162, e162, hx162_0⟩ := Kd.at_int (Kd.R_reads' HO_8.out).2.2 0 p162 q162; cases e162; have qi162 : (0 < x8_2.length) = True := eq_true (by omega); (try rw [show ((0 : Int)).toNat = 0 from rfl] at hx162_0); (try rw [Addr.add_zero'] at hx162_0); replace p162 := eq_true p162; replace q162 := eq_true q162; have p163 : 0 ≤ (1 : Int) := (by omega); have q163 : 1 < (x8_2.length : Int) := of_decide_eq_true (by first | (with_reducible assumption) | assumption); obtain ⟨ad163, e163, hx163_0⟩ := Kd.at_int (Kd.R_reads' HO_8.out).2.2 1 p163 q163; obtain rfl : ad162 = ad163 := (by injection e163); (try simp only [show (1 : Int).toNat = 1 from rfl, Nat.reduceMul, Nat.reduceEqDiff, Go.Addr.add, ↓reduceIte] at hx163_0); have qi163 : (1 < x8_2.length) = True := eq_true (by omega); (try rw [show ((1 : Int)).toNat = 1 from rfl] at hx163_0); replace p163 := eq_true p163; replace q163 := eq_true q163)))
                    go_ret
                    exact ⟨by first | rfl | (simp [errW_none, errW_some] <;> rfl) | (simp [*, errW_none, errW_some] <;> rfl), by repeat (first | (with_reducible first | exact HB.out | apply below_alloc | apply pw_below_drewN | apply below_drew1 | refine below_set ?_ GE138.out) | exact HB.out)⟩
                   ·rw [if_neg c92] at H
                    have c92b0 : (((rd_T36 l0 a1).f2) == 0) = false := beq_eq_false_iff_ne.mpr c92
                    have c92b1 : (((rd_T36 l0 a1).f2) != 0) = true := bne_iff_ne.mpr c92
                    obtain rfl := Option.some.inj H
                    have hcz95_0 : wr.cell? ⟨gb138, 0, none⟩ = some (.int .i64 ((rd_T36 l0 a1).f0)) := (blk_cell BK138.out 0).trans rfl
                    have hcz95_1 : wr.cell? ⟨gb138, 1, none⟩ = some (.int .i64 ((rd_T36 l0 a1).f1)) := (blk_cell BK138.out 1).trans rfl
                    have hcz95_2 : wr.cell? ⟨gb138, 2, none⟩ = some (.int .i64 ((rd_T36 l0 a1).f2)) := (blk_cell BK138.out 2).trans rfl
                    have hcz95_3 : wr.cell? ⟨gb138, 3, none⟩ = some (.int .i64 ((rd_T36 l0 a1).f3)) := (blk_cell BK138.out 3).trans rfl
                    have hcz95_4 : wr.cell? ⟨gb138, 4, none⟩ = some (.int .i64 ((rd_T36 l0 a1).f4)) := (blk_cell BK138.out 4).trans rfl
                    have hcz95_5 : wr.cell? ⟨gb138, 5, none⟩ = some (.int .i64 ((rd_T36 l0 a1).f5)) := (blk_cell BK138.out 5).trans rfl
                    have hfz95_0 := blk_frozen BK138.out 0
                    have hfz95_1 := blk_frozen BK138.out 1
                    have hfz95_2 := blk_frozen BK138.out 2
                    have hfz95_3 := blk_frozen BK138.out 3
                    have hfz95_4 := blk_frozen BK138.out 4
                    have hfz95_5 := blk_frozen BK138.out 5
                    go_wp2_with (first | (go_at_call 46; (with_reducible refine (spec_l01In.calls ((rd_T36 l0 a1).f0) 3 12 false _ A58.out).mono ?_); rintro e w' ⟨rfl, ⟨nd, rfl⟩⟩; (try first | exact ⟨rfl, _, World.drewN_drewN _ _ _⟩ | exact ⟨rfl, _, Eq.trans (World.drewN_drewN _ _ _) (congrArg (World.drewN _) (Nat.add_assoc _ _ _))⟩)) | (go_at_call 46; (with_reducible refine (spec_l01In.calls ((rd_T36 l0 a1).f0) 13 15 false _ A73.out).mono ?_); rintro e w' ⟨rfl, ⟨nd, rfl⟩⟩; (try first | exact ⟨rfl, _, World.drewN_drewN _ _ _⟩ | exact ⟨rfl, _, Eq.trans (World.drewN_drewN _ _ _) (congrArg (World.drewN _) (Nat.add_assoc _ _ _))⟩); obtain ⟨Ao96, co96, eo96⟩ := Kd.R_slice HO_8.out; subst eo96; have p162 : 0 ≤ (0 : Int) := (by omega); have q162 : 0 < (x8_2.length : Int) := of_decide_eq_true (by first | (with_reducible assumption) | assumption); obtain ⟨ad162, e162, hx162_0⟩ := Kd.at_int (Kd.R_reads' HO_8.out).2.2 0 p162 q162; cases e162; have qi162 : (0 < x8_2.length) = True := eq_true (by omega); (try rw [show ((0 : Int)).toNat = 0 from rfl] at hx162_0); (try rw [Addr.add_zero'] at hx162_0); replace p162 := eq_true p162; replace q162 := eq_true q162; have p163 : 0 ≤ (1 : Int) := (by omega); have q163 : 1 < (x8_2.length : Int) := of_decide_eq_true (by first | (with_reducible assumption) | assumption); obtain ⟨ad163, e163, hx163_0⟩ := Kd.at_int (Kd.R_reads' HO_8.out).2.2 1 p163 q163; obtain rfl : ad162 = ad163 := (by injection e163); (try simp only [show (1 : Int).toNat = 1 from rfl, Nat.reduceMul, Nat.reduceEqDiff, Go.Addr.add, ↓reduceIte] at hx163_0); have qi163 : (1 < x8_2.length) = True := eq_true (by omega); (try rw [show ((1 : Int)).toNat = 1 from rfl] at hx163_0); replace p163 := eq_true p163; replace q163 := eq_true q163))
                    repeat (go_quiet (first | (go_at_call 46; (with_reducible refine (spec_l01In.calls ((rd_T36 l0 a1).f0) 3 12 false _ A58.out).mono ?_); rintro e w' ⟨rfl, ⟨nd, rfl⟩⟩; (try first | exact ⟨rfl, _, World.drewN_drewN _ _ _⟩ | exact ⟨rfl, _, Eq.trans (World.drewN_drewN _ _ _) (congrArg (World.drewN _) (Nat.add_assoc _ _ _))⟩)) | (go_at_call 46; (with_reducible refine (spec_l01In.calls ((rd_T36 l0 a1).f0) 13 15 false _ A73.out).mono ?_); rintro e w' ⟨rfl, ⟨nd, rfl⟩⟩; (try first | exact ⟨rfl, _, World.drewN_drewN _ _ _⟩ | exact ⟨rfl, _, Eq.trans (World.drewN_drewN _ _ _) (congrArg (World.drewN _) (Nat.add_assoc _ _ _))⟩); obtain ⟨Ao96, co96, eo96⟩ := Kd.R_slice HO_8.out; subst eo96; have p162 : 0 ≤ (0 : Int) := (by omega); have q162 : 0 < (x8_2.length : Int) := of_decide_eq_true (by first | (with_reducible assumption) | assumption); obtain ⟨ad162, e162, hx162_0⟩ := Kd.at_int (Kd.R_reads' HO_8.out).2.2 0 p162 q162; cases e162; have qi162 : (0 < x8_2.length) = True := eq_true (by omega); (try rw [show ((0 : Int)).toNat = 0 from rfl] at hx162_0); (try rw [Addr.add_zero'] at hx162_0); replace p162 := eq_true p162; replace q162 := eq_true q162; have p163 : 0 ≤ (1 : Int) := (by omega); have q163 : 1 < (x8_2.length : Int) := of_decide_eq_true (by first | (with_reducible assumption) | assumption); obtain ⟨ad163, e163, hx163_0⟩ := Kd.at_int (Kd.R_reads' HO_8.out).2.2 1 p163 q163; obtain rfl : ad162 = ad163 := (by injection e163); (try simp only [show (1 : Int).toNat = 1 from rfl, Nat.reduceMul, Nat.reduceEqDiff, Go.Addr.add, ↓reduceIte] at hx163_0); have qi163 : (1 < x8_2.length) = True := eq_true (by omega); (try rw [show ((1 : Int)).toNat = 1 from rfl] at hx163_0); replace p163 := eq_true p163; replace q163 := eq_true q163)); try go_wp2_with (first | (go_at_call 46; (with_reducible refine (spec_l01In.calls ((rd_T36 l0 a1).f0) 3 12 false _ A58.out).mono ?_); rintro e w' ⟨rfl, ⟨nd, rfl⟩⟩; (try first | exact ⟨rfl, _, World.drewN_drewN _ _ _⟩ | exact ⟨rfl, _, Eq.trans (World.drewN_drewN _ _ _) (congrArg (World.drewN _) (Nat.add_assoc _ _ _))⟩)) | (go_at_call 46; (with_reducible refine (spec_l01In.calls ((rd_T36 l0 a1).f0) 13 15 false _ A73.out).mono ?_); rintro e w' ⟨rfl, ⟨nd, rfl⟩⟩; (try first | exact ⟨rfl, _, World.drewN_drewN _ _ _⟩ | exact ⟨rfl, _, Eq.trans (World.drewN_drewN _ _ _) (congrArg (World.drewN _) (Nat.add_assoc _ _ _))⟩); obtain ⟨Ao96, co96, eo96⟩ := Kd.R_slice HO_8.out; subst eo96; have p162 : 0 ≤ (0 : Int) := (by omega); have q162 : 0 < (x8_2.length : Int) := of_decide_eq_true (by first | (with_reducible assumption) | assumption); obtain ⟨ad162, e162, hx162_0⟩ := Kd.at_int (Kd.R_reads' HO_8.out).2.2 0 p162 q162; cases e162; have qi162 : (0 < x8_2.length) = True := eq_true (by omega); (try rw [show ((0 : Int)).toNat = 0 from rfl] at hx162_0); (try rw [Addr.add_zero'] at hx162_0); replace p162 := eq_true p162; replace q162 := eq_true q162; have p163 : 0 ≤ (1 : Int) := (by omega); have q163 : 1 < (x8_2.length : Int) := of_decide_eq_true (by first | (with_reducible assumption) | assumption); obtain ⟨ad163, e163, hx163_0⟩ := Kd.at_int (Kd.R_reads' HO_8.out).2.2 1 p163 q163; obtain rfl : ad162 = ad163 := (by injection e163); (try simp only [show (1 : Int).toNat = 1 from rfl, Nat.reduceMul, Nat.reduceEqDiff, Go.Addr.add, ↓reduceIte] at hx163_0); have qi163 : (1 < x8_2.length) = True := eq_true (by omega); (try rw [show ((1 : Int)).toNat = 1 from rfl] at hx163_0); replace p163 := eq_true p163; replace q163 := eq_true q163)))
                    go_ret
                    exact ⟨by first | rfl | (simp [errW_none, errW_some] <;> rfl) | (simp [*, errW_none, errW_some] <;> rfl), by repeat (first | (with_reducible first | exact HB.out | apply below_alloc | apply pw_below_drewN | apply below_drew1 | refine below_set ?_ GE138.out) | exact HB.out)⟩
                  ·rw [if_neg c91] at H
                   have c91b0 : ((wrap64 ((rd x8_2 0) + (rd x8_2 1))) == ((rd_T36 l0 a1).f1)) = false := beq_eq_false_iff_ne.mpr c91
                   have c91b1 : ((wrap64 ((rd x8_2 0) + (rd x8_2 1))) != ((rd_T36 l0 a1).f1)) = true := bne_iff_ne.mpr c91
                   obtain rfl := Option.some.inj H
                   have hcz97_0 : wr.cell? ⟨gb138, 0, none⟩ = some (.int .i64 ((rd_T36 l0 a1).f0)) := (blk_cell BK138.out 0).trans rfl
                   have hcz97_1 : wr.cell? ⟨gb138, 1, none⟩ = some (.int .i64 ((rd_T36 l0 a1).f1)) := (blk_cell BK138.out 1).trans rfl
                   have hcz97_2 : wr.cell? ⟨gb138, 2, none⟩ = some (.int .i64 ((rd_T36 l0 a1).f2)) := (blk_cell BK138.out 2).trans rfl
                   have hcz97_3 : wr.cell? ⟨gb138, 3, none⟩ = some (.int .i64 ((rd_T36 l0 a1).f3)) := (blk_cell BK138.out 3).trans rfl
                   have hcz97_4 : wr.cell? ⟨gb138, 4, none⟩ = some (.int .i64 ((rd_T36 l0 a1).f4)) := (blk_cell BK138.out 4).trans rfl
                   have hcz97_5 : wr.cell? ⟨gb138, 5, none⟩ = some (.int .i64 ((rd_T36 l0 a1).f5)) := (blk_cell BK138.out 5).trans rfl
                   have hfz97_0 := blk_frozen BK138.out 0
                   have hfz97_1 := blk_frozen BK138.out 1
                   have hfz97_2 := blk_frozen BK138.out 2
                   have hfz97_3 := blk_frozen BK138.out 3
                   have hfz97_4 := blk_frozen BK138.out 4
                   have hfz97_5 := blk_frozen BK138.out 5
                   go_wp2_with (first | (go_at_call 46; (with_reducible refine (spec_l01In.calls ((rd_T36 l0 a1).f0) 3 12 false _ A58.out).mono ?_); rintro e w' ⟨rfl, ⟨nd, rfl⟩⟩; (try first | exact ⟨rfl, _, World.drewN_drewN _ _ _⟩ | exact ⟨rfl, _, Eq.trans (World.drewN_drewN _ _ _) (congrArg (World.drewN _) (Nat.add_assoc _ _ _))⟩)) | (go_at_call 46; (with_reducible refine (spec_l01In.calls ((rd_T36 l0 a1).f0) 13 15 false _ A73.out).mono ?_); rintro e w' ⟨rfl, ⟨nd, rfl⟩⟩; (try first | exact ⟨rfl, _, World.drewN_drewN _ _ _⟩ | exact ⟨rfl, _, Eq.trans (World.drewN_drewN _ _ _) (congrArg (World.drewN _) (Nat.add_assoc _ _ _))⟩); obtain ⟨Ao98, co98, eo98⟩ := Kd.R_slice HO_8.out; subst eo98; have p162 : 0 ≤ (0 : Int) := (by omega); have q162 : 0 < (x8_2.length : Int) := of_decide_eq_true (by first | (with_reducible assumption) | assumption); obtain ⟨ad162, e162, hx162_0⟩ := Kd.at_int (Kd.R_reads' HO_8.out).2.2 0 p162 q162; cases e162; have qi162 : (0 < x8_2.length) = True := eq_true (by omega); (try rw [show ((0 : Int)).toNat = 0 from rfl] at hx162_0); (try rw [Addr.add_zero'] at hx162_0); replace p162 := eq_true p162; replace q162 := eq_true q162; have p163 : 0 ≤ (1 : Int) := (by omega); have q163 : 1 < (x8_2.length : Int) := of_decide_eq_true (by first | (with_reducible assumption) | assumption); obtain ⟨ad163, e163, hx163_0⟩ := Kd.at_int (Kd.R_reads' HO_8.out).2.2 1 p163 q163; obtain rfl : ad162 = ad163 := (by injection e163); (try simp only [show (1 : Int).toNat = 1 from rfl, Nat.reduceMul, Nat.reduceEqDiff, Go.Addr.add, ↓reduceIte] at hx163_0); have qi163 : (1 < x8_2.length) = True := eq_true (by omega); (try rw [show ((1 : Int)).toNat = 1 from rfl] at hx163_0); replace p163 := eq_true p163; replace q163 := eq_true q163))
                   repeat (go_quiet (first | (go_at_call 46; (with_reducible refine (spec_l01In.calls ((rd_T36 l0 a1).f0) 3 12 false _ A58.out).mono ?_); rintro e w' ⟨rfl, ⟨nd, rfl⟩⟩; (try first | exact ⟨rfl, _, World.drewN_drewN _ _ _⟩ | exact ⟨rfl, _, Eq.trans (World.drewN_drewN _ _ _) (congrArg (World.drewN _) (Nat.add_assoc _ _ _))⟩)) | (go_at_call 46; (with_reducible refine (spec_l01In.calls ((rd_T36 l0 a1).f0) 13 15 false _ A73.out).mono ?_); rintro e w' ⟨rfl, ⟨nd, rfl⟩⟩; (try first | exact ⟨rfl, _, World.drewN_drewN _ _ _⟩ | exact ⟨rfl, _, Eq.trans (World.drewN_drewN _ _ _) (congrArg (World.drewN _) (Nat.add_assoc _ _ _))⟩); obtain ⟨Ao98, co98, eo98⟩ := Kd.R_slice HO_8.out; subst eo98; have p162 : 0 ≤ (0 : Int) := (by omega); have q162 : 0 < (x8_2.length : Int) := of_decide_eq_true (by first | (with_reducible assumption) | assumption); obtain ⟨ad162, e162, hx162_0⟩ := Kd.at_int (Kd.R_reads' HO_8.out).2.2 0 p162 q162; cases e162; have qi162 : (0 < x8_2.length) = True := eq_true (by omega); (try rw [show ((0 : Int)).toNat = 0 from rfl] at hx162_0); (try rw [Addr.add_zero'] at hx162_0); replace p162 := eq_true p162; replace q162 := eq_true q162; have p163 : 0 ≤ (1 : Int) := (by omega); have q163 : 1 < (x8_2.length : Int) := of_decide_eq_true (by first | (with_reducible assumption) | assumption); obtain ⟨ad163, e163, hx163_0⟩ := Kd.at_int (Kd.R_reads' HO_8.out).2.2 1 p163 q163; obtain rfl : ad162 = ad163 := (by injection e163); (try simp only [show (1 : Int).toNat = 1 from rfl, Nat.reduceMul, Nat.reduceEqDiff, Go.Addr.add, ↓reduceIte] at hx163_0); have qi163 : (1 < x8_2.length) = True := eq_true (by omega); (try rw [show ((1 : Int)).toNat = 1 from rfl] at hx163_0); replace p163 := eq_true p163; replace q163 := eq_true q163)); try go_wp2_with (first | (go_at_call 46; (with_reducible refine (spec_l01In.calls ((rd_T36 l0 a1).f0) 3 12 false _ A58.out).mono ?_); rintro e w' ⟨rfl, ⟨nd, rfl⟩⟩; (try first | exact ⟨rfl, _, World.drewN_drewN _ _ _⟩ | exact ⟨rfl, _, Eq.trans (World.drewN_drewN _ _ _) (congrArg (World.drewN _) (Nat.add_assoc _ _ _))⟩)) | (go_at_call 46; (with_reducible refine (spec_l01In.calls ((rd_T36 l0 a1).f0) 13 15 false _ A73.out).mono ?_); rintro e w' ⟨rfl, ⟨nd, rfl⟩⟩; (try first | exact ⟨rfl, _, World.drewN_drewN _ _ _⟩ | exact ⟨rfl, _, Eq.trans (World.drewN_drewN _ _ _) (congrArg (World.drewN _) (Nat.add_assoc _ _ _))⟩); obtain ⟨Ao98, co98, eo98⟩ := Kd.R_slice HO_8.out; subst eo98; have p162 : 0 ≤ (0 : Int) := (by omega); have q162 : 0 < (x8_2.length : Int) := of_decide_eq_true (by first | (with_reducible assumption) | assumption); obtain ⟨ad162, e162, hx162_0⟩ := Kd.at_int (Kd.R_reads' HO_8.out).2.2 0 p162 q162; cases e162; have qi162 : (0 < x8_2.length) = True := eq_true (by omega); (try rw [show ((0 : Int)).toNat = 0 from rfl] at hx162_0); (try rw [Addr.add_zero'] at hx162_0); replace p162 := eq_true p162; replace q162 := eq_true q162; have p163 : 0 ≤ (1 : Int) := (by omega); have q163 : 1 < (x8_2.length : Int) := of_decide_eq_true (by first | (with_reducible assumption) | assumption); obtain ⟨ad163, e163, hx163_0⟩ := Kd.at_int (Kd.R_reads' HO_8.out).2.2 1 p163 q163; obtain rfl : ad162 = ad163 := (by injection e163); (try simp only [show (1 : Int).toNat = 1 from rfl, Nat.reduceMul, Nat.reduceEqDiff, Go.Addr.add, ↓reduceIte] at hx163_0); have qi163 : (1 < x8_2.length) = True := eq_true (by omega); (try rw [show ((1 : Int)).toNat = 1 from rfl] at hx163_0); replace p163 := eq_true p163; replace q163 := eq_true q163)))
                   go_ret
                   exact ⟨by first | rfl | (simp [errW_none, errW_some] <;> rfl) | (simp [*, errW_none, errW_some] <;> rfl), by repeat (first | (with_reducible first | exact HB.out | apply below_alloc | apply pw_below_drewN | apply below_drew1 | refine below_set ?_ GE138.out) | exact HB.out)⟩
                 ·rw [if_neg c90] at H
                  exact absurd H (by simp)
                ·rw [if_neg c89] at H
                 exact absurd H (by simp)
               ·rw [if_neg c88] at H
                have c88b0 : (((rd_T36 l0 a1).f0) == 16) = false := beq_eq_false_iff_ne.mpr c88
                have c88b1 : (((rd_T36 l0 a1).f0) != 16) = true := bne_iff_ne.mpr c88
                by_cases c99 : ((rd_T36 l0 a1).f0) = 17
                ·rw [if_pos c99] at H
                 have c99b0 : (((rd_T36 l0 a1).f0) == 17) = true := beq_iff_eq.mpr c99
                 have c99b1 : (((rd_T36 l0 a1).f0) != 17) = false := bne_eq_false_iff_eq.mpr c99
                 clear c99
                 by_cases c100 : ((rd_T36 l0 a1).f2) ≥ 0
                 ·rw [if_pos c100] at H
                  have c100b0 : decide (0 ≤ ((rd_T36 l0 a1).f2)) = true := decide_eq_true c100
                  clear c100
                  by_cases c101 : 0 < (x8_2.length : Int)
                  ·rw [if_pos c101] at H
                   have c101b0 : decide (0 < (x8_2.length : Int)) = true := decide_eq_true c101
                   have c101b1 : decide (0 < x8_2.length) = true := decide_eq_true (by omega)
                   clear c101
                   by_cases c102 : ((rd_T36 l0 a1).f2) ≤ (wrap64 ((rd x8_2 0) - ((rd_T36 l0 a1).f1)))
                   ·rw [if_pos c102] at H
                    have c102b0 : decide (((rd_T36 l0 a1).f2) ≤ (wrap64 ((rd x8_2 0) - ((rd_T36 l0 a1).f1)))) = true := decide_eq_true c102
                    clear c102
                    by_cases c103 : ((rd_T36 l0 a1).f4) = 0
                    ·rw [if_pos c103] at H
                     have c103b0 : (((rd_T36 l0 a1).f4) == 0) = true := beq_iff_eq.mpr c103
                     have c103b1 : (((rd_T36 l0 a1).f4) != 0) = false := bne_eq_false_iff_eq.mpr c103
                     clear c103
                     obtain rfl := Option.some.inj H
                     have hcz104_0 : wr.cell? ⟨gb138, 0, none⟩ = some (.int .i64 ((rd_T36 l0 a1).f0)) := (blk_cell BK138.out 0).trans rfl
                     have hcz104_1 : wr.cell? ⟨gb138, 1, none⟩ = some (.int .i64 ((rd_T36 l0 a1).f1)) := (blk_cell BK138.out 1).trans rfl
                     have hcz104_2 : wr.cell? ⟨gb138, 2, none⟩ = some (.int .i64 ((rd_T36 l0 a1).f2)) := (blk_cell BK138.out 2).trans rfl
                     have hcz104_3 : wr.cell? ⟨gb138, 3, none⟩ = some (.int .i64 ((rd_T36 l0 a1).f3)) := (blk_cell BK138.out 3).trans rfl
                     have hcz104_4 : wr.cell? ⟨gb138, 4, none⟩ = some (.int .i64 ((rd_T36 l0 a1).f4)) := (blk_cell BK138.out 4).trans rfl
                     have hcz104_5 : wr.cell? ⟨gb138, 5, none⟩ = some (.int .i64 ((rd_T36 l0 a1).f5)) := (blk_cell BK138.out 5).trans rfl
                     have hfz104_0 := blk_frozen BK138.out 0
                     have hfz104_1 := blk_frozen BK138.out 1
                     have hfz104_2 := blk_frozen BK138.out 2
                     have hfz104_3 := blk_frozen BK138.out 3
                     have hfz104_4 := blk_frozen BK138.out 4
                     have hfz104_5 := blk_frozen BK138.out 5
                     go_wp2_with (first | (go_at_call 46; (with_reducible refine (spec_l01In.calls ((rd_T36 l0 a1).f0) 3 12 false _ A58.out).mono ?_); rintro e w' ⟨rfl, ⟨nd, rfl⟩⟩; (try first | exact ⟨rfl, _, World.drewN_drewN _ _ _⟩ | exact ⟨rfl, _, Eq.trans (World.drewN_drewN _ _ _) (congrArg (World.drewN _) (Nat.add_assoc _ _ _))⟩)) | (go_at_call 46; (with_reducible refine (spec_l01In.calls ((rd_T36 l0 a1).f0) 13 15 false _ A73.out).mono ?_); rintro e w' ⟨rfl, ⟨nd, rfl⟩⟩; (try first | exact ⟨rfl, _, World.drewN_drewN _ _ _⟩ | exact ⟨rfl, _, Eq.trans (World.drewN_drewN _ _ _) (congrArg (World.drewN _) (Nat.add_assoc _ _ _))⟩); obtain ⟨Ao105, co105, eo105⟩ := Kd.R_slice HO_8.out; subst eo105; have p164 : 0 ≤ (0 : Int) := (by omega); have q164 : 0 < (x8_2.length : Int) := of_decide_eq_true (by first | (with_reducible assumption) | assumption); obtain ⟨ad164, e164, hx164_0⟩ := Kd.at_int (Kd.R_reads' HO_8.out).2.2 0 p164 q164; cases e164; have qi164 : (0 < x8_2.length) = True := eq_true (by omega); (try rw [show ((0 : Int)).toNat = 0 from rfl] at hx164_0); (try rw [Addr.add_zero'] at hx164_0); replace p164 := eq_true p164; replace q164 := eq_true q164))
                     repeat (go_quiet (first | (go_at_call 46; (with_reducible refine (spec_l01In.calls ((rd_T36 l0 a1).f0) 3 12 false _ A58.out).mono ?_); rintro e w' ⟨rfl, ⟨nd, rfl⟩⟩; (try first | exact ⟨rfl, _, World.drewN_drewN _ _ _⟩ | exact ⟨rfl, _, Eq.trans (World.drewN_drewN _ _ _) (congrArg (World.drewN _) (Nat.add_assoc _ _ _))⟩)) | (go_at_call 46; (with_reducible refine (spec_l01In.calls ((rd_T36 l0 a1).f0) 13 15 false _ A73.out).mono ?_); rintro e w' ⟨rfl, ⟨nd, rfl⟩⟩; (try first | exact ⟨rfl, _, World.drewN_drewN _ _ _⟩ | exact ⟨rfl, _, Eq.trans (World.drewN_drewN _ _ _) (congrArg (World.drewN _) (Nat.add_assoc _ _ _))⟩); obtain ⟨Ao105, co105, eo105⟩ := Kd.R_slice HO_8.out; subst eo105; have p164 : 0 ≤ (0 : Int) := (by omega); have q164 : 0 < (x8_2.length : Int) := of_decide_eq_true (by first | (with_reducible assumption) | assumption); obtain ⟨ad164, e164, hx164_0⟩ := Kd.at_int (Kd.R_reads' HO_8.out).2.2 0 p164 q164; cases e164; have qi164 : (0 < x8_2.length) = True := eq_true (by omega); (try rw [show ((0 : Int)).toNat = 0 from rfl] at hx164_0); (try rw [Addr.add_zero'] at hx164_0); replace p164 := eq_true p164; replace q164 := eq_true q164)); try go_wp2_with (first | (go_at_call 46; (with_reducible refine (spec_l01In.calls ((rd_T36 l0 a1).f0) 3 12 false _ A58.out).mono ?_); rintro e w' ⟨rfl, ⟨nd, rfl⟩⟩; (try first | exact ⟨rfl, _, World.drewN_drewN _ _ _⟩ | exact ⟨rfl, _, Eq.trans (World.drewN_drewN _ _ _) (congrArg (World.drewN _) (Nat.add_assoc _ _ _))⟩)) | (go_at_call 46; (with_reducible refine (spec_l01In.calls ((rd_T36 l0 a1).f0) 13 15 false _ A73.out).mono ?_); rintro e w' ⟨rfl, ⟨nd, rfl⟩⟩; (try first | exact ⟨rfl, _, World.drewN_drewN _ _ _⟩ | exact ⟨rfl, _, Eq.trans (World.drewN_drewN _ _ _) (congrArg (World.drewN _) (Nat.add_assoc _ _ _))⟩); obtain ⟨Ao105, co105, eo105⟩ := Kd.R_slice HO_8.out; subst eo105; have p164 : 0 ≤ (0 : Int) := (by omega); have q164 : 0 < (x8_2.length : Int) := of_decide_eq_true (by first | (with_reducible assumption) | assumption); obtain ⟨ad164, e164, hx164_0⟩ := Kd.at_int (Kd.R_reads' HO_8.out).2.2 0 p164 q164; cases e164; have qi164 : (0 < x8_2.length) = True := eq_true (by omega); (try rw [show ((0 : Int)).toNat = 0 from rfl] at hx164_0); (try rw [Addr.add_zero'] at hx164_0); replace p164 := eq_true p164; replace q164 := eq_true q164)))
                     go_ret
                     exact ⟨by first | rfl | (simp [errW_none, errW_some] <;> rfl) | (simp [*, errW_none, errW_some] <;> rfl), by repeat (first | (with_reducible first | exact HB.out | apply below_alloc | apply pw_below_drewN | apply below_drew1 | refine below_set ?_ GE138.out) | exact HB.out)⟩
                    ·rw [if_neg c103] at H
                     have c103b0 : (((rd_T36 l0 a1).f4) == 0) = false := beq_eq_false_iff_ne.mpr c103
                     have c103b1 : (((rd_T36 l0 a1).f4) != 0) = true := bne_iff_ne.mpr c103
                     obtain rfl := Option.some.inj H
                     have hcz106_0 : wr.cell? ⟨gb138, 0, none⟩ = some (.int .i64 ((rd_T36 l0 a1).f0)) := (blk_cell BK138.out 0).trans rfl
                     have hcz106_1 : wr.cell? ⟨gb138, 1, none⟩ = some (.int .i64 ((rd_T36 l0 a1).f1)) := (blk_cell BK138.out 1).trans rfl
                     have hcz106_2 : wr.cell? ⟨gb138, 2, none⟩ = some (.int .i64 ((rd_T36 l0 a1).f2)) := (blk_cell BK138.out 2).trans rfl
                     have hcz106_3 : wr.cell? ⟨gb138, 3, none⟩ = some (.int .i64 ((rd_T36 l0 a1).f3)) := (blk_cell BK138.out 3).trans rfl
                     have hcz106_4 : wr.cell? ⟨gb138, 4, none⟩ = some (.int .i64 ((rd_T36 l0 a1).f4)) := (blk_cell BK138.out 4).trans rfl
                     have hcz106_5 : wr.cell? ⟨gb138, 5, none⟩ = some (.int .i64 ((rd_T36 l0 a1).f5)) := (blk_cell BK138.out 5).trans rfl
                     have hfz106_0 := blk_frozen BK138.out 0
                     have hfz106_1 := blk_frozen BK138.out 1
                     have hfz106_2 := blk_frozen BK138.out 2
                     have hfz106_3 := blk_frozen BK138.out 3
                     have hfz106_4 := blk_frozen BK138.out 4
                     have hfz106_5 := blk_frozen BK138.out 5
                     go_wp2_with (first | (go_at_call 46; (with_reducible refine (spec_l01In.calls ((rd_T36 l0 a1).f0) 3 12 false _ A58.out).mono ?_); rintro e w' ⟨rfl, ⟨nd, rfl⟩⟩; (try first | exact ⟨rfl, _, World.drewN_drewN _ _ _⟩ | exact ⟨rfl, _, Eq.trans (World.drewN_drewN _ _ _) (congrArg (World.drewN _) (Nat.add_assoc _ _ _))⟩)) | (go_at_call 46; (with_reducible refine (spec_l01In.calls ((rd_T36 l0 a1).f0) 13 15 false _ A73.out).mono ?_); rintro e w' ⟨rfl, ⟨nd, rfl⟩⟩; (try first | exact ⟨rfl, _, World.drewN_drewN _ _ _⟩ | exact ⟨rfl, _, Eq.trans (World.drewN_drewN _ _ _) (congrArg (World.drewN _) (Nat.add_assoc _ _ _))⟩); obtain ⟨Ao107, co107, eo107⟩ := Kd.R_slice HO_8.out; subst eo107; have p164 : 0 ≤ (0 : Int) := (by omega); have q164 : 0 < (x8_2.length : Int) := of_decide_eq_true (by first | (with_reducible assumption) | assumption); obtain ⟨ad164, e164, hx164_0⟩ := Kd.at_int (Kd.R_reads' HO_8.out).2.2 0 p164 q164; cases e164; have qi164 : (0 < x8_2.length) = True := eq_true (by omega); (try rw [show ((0 : Int)).toNat = 0 from rfl] at hx164_0); (try rw [Addr.add_zero'] at hx164_0); replace p164 := eq_true p164; replace q164 := eq_true q164))
                     repeat (go_quiet (first | (go_at_call 46; (with_reducible refine (spec_l01In.calls ((rd_T36 l0 a1).f0) 3 12 false _ A58.out).mono ?_); rintro e w' ⟨rfl, ⟨nd, rfl⟩⟩; (try first | exact ⟨rfl, _, World.drewN_drewN _ _ _⟩ | exact ⟨rfl, _, Eq.trans (World.drewN_drewN _ _ _) (congrArg (World.drewN _) (Nat.add_assoc _ _ _))⟩)) | (go_at_call 46; (with_reducible refine (spec_l01In.calls ((rd_T36 l0 a1).f0) 13 15 false _ A73.out).mono ?_); rintro e w' ⟨rfl, ⟨nd, rfl⟩⟩; (try first | exact ⟨rfl, _, World.drewN_drewN _ _ _⟩ | exact ⟨rfl, _, Eq.trans (World.drewN_drewN _ _ _) (congrArg (World.drewN _) (Nat.add_assoc _ _ _))⟩); obtain ⟨Ao107, co107, eo107⟩ := Kd.R_slice HO_8.out; subst eo107; have p164 : 0 ≤ (0 : Int) := (by omega); have q164 : 0 < (x8_2.length : Int) := of_decide_eq_true (by first | (with_reducible assumption) | assumption); obtain ⟨ad164, e164, hx164_0⟩ := Kd.at_int (Kd.R_reads' HO_8.out).2.2 0 p164 q164; cases e164; have qi164 : (0 < x8_2.length) = True := eq_true (by omega); (try rw [show ((0 : Int)).toNat = 0 from rfl] at hx164_0); (try rw [Addr.add_zero'] at hx164_0); replace p164 := eq_true p164; replace q164 := eq_true q164)); try go_wp2_with (first | (go_at_call 46; (with_reducible refine (spec_l01In.calls ((rd_T36 l0 a1).f0) 3 12 false _ A58.out).mono ?_); rintro e w' ⟨rfl, ⟨nd, rfl⟩⟩; (try first | exact ⟨rfl, _, World.drewN_drewN _ _ _⟩ | exact ⟨rfl, _, Eq.trans (World.drewN_drewN _ _ _) (congrArg (World.drewN _) (Nat.add_assoc _ _ _))⟩)) | (go_at_call 46; (with_reducible refine (spec_l01In.calls ((rd_T36 l0 a1).f0) 13 15 false _ A73.out).mono ?_); rintro e w' ⟨rfl, ⟨nd, rfl⟩⟩; (try first | exact ⟨rfl, _, World.drewN_drewN _ _ _⟩ | exact ⟨rfl, _, Eq.trans (World.drewN_drewN _ _ _) (congrArg (World.drewN _) (Nat.add_assoc _ _ _))⟩); obtain ⟨Ao107, co107, eo107⟩ := Kd.R_slice HO_8.out; subst eo107; have p164 : 0 ≤ (0 : Int) := (by omega); have q164 : 0 < (x8_2.length : Int) := of_decide_eq_true (by first | (with_reducible assumption) | assumption); obtain ⟨ad164, e164, hx164_0⟩ := Kd.at_int (Kd.R_reads' HO_8.out).2.2 0 p164 q164; cases e164; have qi164 : (0 < x8_2.length) = True := eq_true (by omega); (try rw [show ((0 : Int)).toNat = 0 from rfl] at hx164_0); (try rw [Addr.add_zero'] at hx164_0); replace p164 := eq_true p164; replace q164 := eq_true q164)))
                     go_ret
                     exact ⟨by first | rfl | (simp [errW_none, errW_some] <;> rfl) | (simp [*, errW_none, errW_some] <;> rfl), by repeat (first | (with_reducible first | exact HB.out | apply below_alloc | apply pw_below_drewN | apply below_drew1 | refine below_set ?_ GE138.out) | exact HB.out)⟩
                   ·rw [if_neg c102] at H
                    have c102b0 : decide (((rd_T36 l0 a1).f2) ≤ (wrap64 ((rd x8_2 0) - ((rd_T36 l0 a1).f1)))) = false := decide_eq_false c102
                    clear c102
                    obtain rfl := Option.some.inj H
                    have hcz108_0 : wr.cell? ⟨gb138, 0, none⟩ = some (.int .i64 ((rd_T36 l0 a1).f0)) := (blk_cell BK138.out 0).trans rfl
                    have hcz108_1 : wr.cell? ⟨gb138, 1, none⟩ = some (.int .i64 ((rd_T36 l0 a1).f1)) := (blk_cell BK138.out 1).trans rfl
                    have hcz108_2 : wr.cell? ⟨gb138, 2, none⟩ = some (.int .i64 ((rd_T36 l0 a1).f2)) := (blk_cell BK138.out 2).trans rfl
                    have hcz108_3 : wr.cell? ⟨gb138, 3, none⟩ = some (.int .i64 ((rd_T36 l0 a1).f3)) := (blk_cell BK138.out 3).trans rfl
                    have hcz108_4 : wr.cell? ⟨gb138, 4, none⟩ = some (.int .i64 ((rd_T36 l0 a1).f4)) := (blk_cell BK138.out 4).trans rfl
                    have hcz108_5 : wr.cell? ⟨gb138, 5, none⟩ = some (.int .i64 ((rd_T36 l0 a1).f5)) := (blk_cell BK138.out 5).trans rfl
                    have hfz108_0 := blk_frozen BK138.out 0
                    have hfz108_1 := blk_frozen BK138.out 1
                    have hfz108_2 := blk_frozen BK138.out 2
                    have hfz108_3 := blk_frozen BK138.out 3
                    have hfz108_4 := blk_frozen BK138.out 4
                    have hfz108_5 := blk_frozen BK138.out 5
                    go_wp2_with (first | (go_at_call 46; (with_reducible refine (spec_l01In.calls ((rd_T36 l0 a1).f0) 3 12 false _ A58.out).mono ?_); rintro e w' ⟨rfl, ⟨nd, rfl⟩⟩; (try first | exact ⟨rfl, _, World.drewN_drewN _ _ _⟩ | exact ⟨rfl, _, Eq.trans (World.drewN_drewN _ _ _) (congrArg (World.drewN _) (Nat.add_assoc _ _ _))⟩)) | (go_at_call 46; (with_reducible refine (spec_l01In.calls ((rd_T36 l0 a1).f0) 13 15 false _ A73.out).mono ?_); rintro e w' ⟨rfl, ⟨nd, rfl⟩⟩; (try first | exact ⟨rfl, _, World.drewN_drewN _ _ _⟩ | exact ⟨rfl, _, Eq.trans (World.drewN_drewN _ _ _) (congrArg (World.drewN _) (Nat.add_assoc _ _ _))⟩); obtain ⟨Ao109, co109, eo109⟩ := Kd.R_slice HO_8.out; subst eo109; have p164 : 0 ≤ (0 : Int) := (by omega); have q164 : 0 < (x8_2.length : Int) := of_decide_eq_true (by first | (with_reducible assumption) | assumption); obtain ⟨ad164, e164, hx164_0⟩ := Kd.at_int (Kd.R_reads' HO_8.out).2.2 0 p164 q164; cases e164; have qi164 : (0 < x8_2.length) = True := eq_true (by omega); (try rw [show ((0 : Int)).toNat = 0 from rfl] at hx164_0); (try rw [Addr.add_zero'] at hx164_0); replace p164 := eq_true p164; replace q164 := eq_true q164))
                    repeat (go_quiet (first | (go_at_call 46; (with_reducible refine (spec_l01In.calls ((rd_T36 l0 a1).f0) 3 12 false _ A58.out).mono ?_); rintro e w' ⟨rfl, ⟨nd, rfl⟩⟩; (try first | exact ⟨rfl, _, World.drewN_drewN _ _ _⟩ | exact ⟨rfl, _, Eq.trans (World.drewN_drewN _ _ _) (congrArg (World.drewN _) (Nat.add_assoc _ _ _))⟩)) | (go_at_call 46; (with_reducible refine (spec_l01In.calls ((rd_T36 l0 a1).f0) 13 15 false _ A73.out).mono ?_); rintro e w' ⟨rfl, ⟨nd, rfl⟩⟩; (try first | exact ⟨rfl, _, World.drewN_drewN _ _ _⟩ | exact ⟨rfl, _, Eq.trans (World.drewN_drewN _ _ _) (congrArg (World.drewN _) (Nat.add_assoc _ _ _))⟩); obtain ⟨Ao109, co109, eo109⟩ := Kd.R_slice HO_8.out; subst eo109; have p164 : 0 ≤ (0 : Int) := (by omega); have q164 : 0 < (x8_2.length : Int) := of_decide_eq_true (by first | (with_reducible assumption) | assumption); obtain ⟨ad164, e164, hx164_0⟩ := Kd.at_int (Kd.R_reads' HO_8.out).2.2 0 p164 q164; cases e164; have qi164 : (0 < x8_2.length) = True := eq_true (by omega); (try rw [show ((0 : Int)).toNat = 0 from rfl] at hx164_0); (try rw [Addr.add_zero'] at hx164_0); replace p164 := eq_true p164; replace q164 := eq_true q164)); try go_wp2_with (first | (go_at_call 46; (with_reducible refine (spec_l01In.calls ((rd_T36 l0 a1).f0) 3 12 false _ A58.out).mono ?_); rintro e w' ⟨rfl, ⟨nd, rfl⟩⟩; (try first | exact ⟨rfl, _, World.drewN_drewN _ _ _⟩ | exact ⟨rfl, _, Eq.trans (World.drewN_drewN _ _ _) (congrArg (World.drewN _) (Nat.add_assoc _ _ _))⟩)) | (go_at_call 46; (with_reducible refine (spec_l01In.calls ((rd_T36 l0 a1).f0) 13 15 false _ A73.out).mono ?_); rintro e w' ⟨rfl, ⟨nd, rfl⟩⟩; (try first | exact ⟨rfl, _, World.drewN_drewN _ _ _⟩ | exact ⟨rfl, _, Eq.trans (World.drewN_drewN _ _ _) (congrArg (World.drewN _) (Nat.add_assoc _ _ _))⟩); obtain ⟨Ao109, co109, eo109⟩ := Kd.R_slice HO_8.out; subst eo109; have p164 : 0 ≤ (0 : Int) := (by omega); have q164 : 0 < (x8_2.length : Int) := of_decide_eq_true (by first | (with_reducible assumption) | assumption); obtain ⟨ad164, e164, hx164_0⟩ := Kd.at_int (Kd.R_reads' HO_8.out).2.2 0 p164 q164; cases e164; have qi164 : (0 < x8_2.length) = True := eq_true (by omega); (try rw [show ((0 : Int)).toNat = 0 from rfl] at hx164_0); (try rw [Addr.add_zero'] at hx164_0); replace p164 := eq_true p164; replace q164 := eq_true q164)))
                    go_ret
                    exact ⟨by first | rfl | (simp [errW_none, errW_some] <;> rfl) | (simp [*, errW_none, errW_some] <;> rfl), by repeat (first | (with_reducible first | exact HB.out | apply below_alloc | apply pw_below_drewN | apply below_drew1 | refine below_set ?_ GE138.out) | exact HB.out)⟩
                  ·rw [if_neg c101] at H
                   exact absurd H (by simp)
                 ·rw [if_neg c100] at H
                  have c100b0 : decide (0 ≤ ((rd_T36 l0 a1).f2)) = false := decide_eq_false c100
                  clear c100
                  obtain rfl := Option.some.inj H
                  have hcz110_0 : wr.cell? ⟨gb138, 0, none⟩ = some (.int .i64 ((rd_T36 l0 a1).f0)) := (blk_cell BK138.out 0).trans rfl
                  have hcz110_1 : wr.cell? ⟨gb138, 1, none⟩ = some (.int .i64 ((rd_T36 l0 a1).f1)) := (blk_cell BK138.out 1).trans rfl
                  have hcz110_2 : wr.cell? ⟨gb138, 2, none⟩ = some (.int .i64 ((rd_T36 l0 a1).f2)) := (blk_cell BK138.out 2).trans rfl
                  have hcz110_3 : wr.cell? ⟨gb138, 3, none⟩ = some (.int .i64 ((rd_T36 l0 a1).f3)) := (blk_cell BK138.out 3).trans rfl
                  have hcz110_4 : wr.cell? ⟨gb138, 4, none⟩ = some (.int .i64 ((rd_T36 l0 a1).f4)) := (blk_cell BK138.out 4).trans rfl
                  have hcz110_5 : wr.cell? ⟨gb138, 5, none⟩ = some (.int .i64 ((rd_T36 l0 a1).f5)) := (blk_cell BK138.out 5).trans rfl
                  have hfz110_0 := blk_frozen BK138.out 0
                  have hfz110_1 := blk_frozen BK138.out 1
                  have hfz110_2 := blk_frozen BK138.out 2
                  have hfz110_3 := blk_frozen BK138.out 3
                  have hfz110_4 := blk_frozen BK138.out 4
                  have hfz110_5 := blk_frozen BK138.out 5
                  go_wp2_with (first | (go_at_call 46; (with_reducible refine (spec_l01In.calls ((rd_T36 l0 a1).f0) 3 12 false _ A58.out).mono ?_); rintro e w' ⟨rfl, ⟨nd, rfl⟩⟩; (try first | exact ⟨rfl, _, World.drewN_drewN _ _ _⟩ | exact ⟨rfl, _, Eq.trans (World.drewN_drewN _ _ _) (congrArg (World.drewN _) (Nat.add_assoc _ _ _))⟩)) | (go_at_call 46; (with_reducible refine (spec_l01In.calls ((rd_T36 l0 a1).f0) 13 15 false _ A73.out).mono ?_); rintro e w' ⟨rfl, ⟨nd, rfl⟩⟩; (try first | exact ⟨rfl, _, World.drewN_drewN _ _ _⟩ | exact ⟨rfl, _, Eq.trans (World.drewN_drewN _ _ _) (congrArg (World.drewN _) (Nat.add_assoc _ _ _))⟩)))
                  repeat (go_quiet (first | (go_at_call 46; (with_reducible refine (spec_l01In.calls ((rd_T36 l0 a1).f0) 3 12 false _ A58.out).mono ?_); rintro e w' ⟨rfl, ⟨nd, rfl⟩⟩; (try first | exact ⟨rfl, _, World.drewN_drewN _ _ _⟩ | exact ⟨rfl, _, Eq.trans (World.drewN_drewN _ _ _) (congrArg (World.drewN _) (Nat.add_assoc _ _ _))⟩)) | (go_at_call 46; (with_reducible refine (spec_l01In.calls ((rd_T36 l0 a1).f0) 13 15 false _ A73.out).mono ?_); rintro e w' ⟨rfl, ⟨nd, rfl⟩⟩; (try first | exact ⟨rfl, _, World.drewN_drewN _ _ _⟩ | exact ⟨rfl, _, Eq.trans (World.drewN_drewN _ _ _) (congrArg (World.drewN _) (Nat.add_assoc _ _ _))⟩))); try go_wp2_with (first | (go_at_call 46; (with_reducible refine (spec_l01In.calls ((rd_T36 l0 a1).f0) 3 12 false _ A58.out).mono ?_); rintro e w' ⟨rfl, ⟨nd, rfl⟩⟩; (try first | exact ⟨rfl, _, World.drewN_drewN _ _ _⟩ | exact ⟨rfl, _, Eq.trans (World.drewN_drewN _ _ _) (congrArg (World.drewN _) (Nat.add_assoc _ _ _))⟩)) | (go_at_call 46; (with_reducible refine (spec_l01In.calls ((rd_T36 l0 a1).f0) 13 15 false _ A73.out).mono ?_); rintro e w' ⟨rfl, ⟨nd, rfl⟩⟩; (try first | exact ⟨rfl, _, World.drewN_drewN _ _ _⟩ | exact ⟨rfl, _, Eq.trans (World.drewN_drewN _ _ _) (congrArg (World.drewN _) (Nat.add_assoc _ _ _))⟩))))
                  go_ret
                  exact ⟨by first | rfl | (simp [errW_none, errW_some] <;> rfl) | (simp [*, errW_none, errW_some] <;> rfl), by repeat (first | (with_reducible first | exact HB.out | apply below_alloc | apply pw_below_drewN | apply below_drew1 | refine below_set ?_ GE138.out) | exact HB.out)⟩
                ·rw [if_neg c99] at H
                 have c99b0 : (((rd_T36 l0 a1).f0) == 17) = false := beq_eq_false_iff_ne.mpr c99
                 have c99b1 : (((rd_T36 l0 a1).f0) != 17) = true := bne_iff_ne.mpr c99
                 by_cases c111 : ((rd_T36 l0 a1).f0) = 18
                 ·rw [if_pos c111] at H
                  have c111b0 : (((rd_T36 l0 a1).f0) == 18) = true := beq_iff_eq.mpr c111
                  have c111b1 : (((rd_T36 l0 a1).f0) != 18) = false := bne_eq_false_iff_eq.mpr c111
                  clear c111
                  by_cases c112 : 0 < (x8_2.length : Int)
                  ·rw [if_pos c112] at H
                   have c112b0 : decide (0 < (x8_2.length : Int)) = true := decide_eq_true c112
                   have c112b1 : decide (0 < x8_2.length) = true := decide_eq_true (by omega)
                   clear c112
                   by_cases c113 : (rd x8_2 0) = 1
                   ·rw [if_pos c113] at H
                    have c113b0 : ((rd x8_2 0) == 1) = true := beq_iff_eq.mpr c113
                    have c113b1 : ((rd x8_2 0) != 1) = false := bne_eq_false_iff_eq.mpr c113
                    clear c113
                    by_cases c114 : 1 < (x8_2.length : Int)
                    ·rw [if_pos c114] at H
                     have c114b0 : decide (1 < (x8_2.length : Int)) = true := decide_eq_true c114
                     have c114b1 : decide (1 < x8_2.length) = true := decide_eq_true (by omega)
                     clear c114
                     by_cases c115 : (rd x8_2 1) = ((rd_T36 l0 a1).f1)
                     ·rw [if_pos c115] at H
                      have c115b0 : ((rd x8_2 1) == ((rd_T36 l0 a1).f1)) = true := beq_iff_eq.mpr c115
                      have c115b1 : ((rd x8_2 1) != ((rd_T36 l0 a1).f1)) = false := bne_eq_false_iff_eq.mpr c115
                      clear c115
                      by_cases c116 : 2 < (x8_2.length : Int)
                      ·rw [if_pos c116] at H
                       have c116b0 : decide (2 < (x8_2.length : Int)) = true := decide_eq_true c116
                       have c116b1 : decide (2 < x8_2.length) = true := decide_eq_true (by omega)
                       clear c116
                       by_cases c117 : (rd x8_2 2) = ((rd_T36 l0 a1).f1)
                       ·rw [if_pos c117] at H
                        have c117b0 : ((rd x8_2 2) == ((rd_T36 l0 a1).f1)) = true := beq_iff_eq.mpr c117
                        have c117b1 : ((rd x8_2 2) != ((rd_T36 l0 a1).f1)) = false := bne_eq_false_iff_eq.mpr c117
                        clear c117
                        obtain rfl := Option.some.inj H
                        have hcz118_0 : wr.cell? ⟨gb138, 0, none⟩ = some (.int .i64 ((rd_T36 l0 a1).f0)) := (blk_cell BK138.out 0).trans rfl
                        have hcz118_1 : wr.cell? ⟨gb138, 1, none⟩ = some (.int .i64 ((rd_T36 l0 a1).f1)) := (blk_cell BK138.out 1).trans rfl
                        have hcz118_2 : wr.cell? ⟨gb138, 2, none⟩ = some (.int .i64 ((rd_T36 l0 a1).f2)) := (blk_cell BK138.out 2).trans rfl
                        have hcz118_3 : wr.cell? ⟨gb138, 3, none⟩ = some (.int .i64 ((rd_T36 l0 a1).f3)) := (blk_cell BK138.out 3).trans rfl
                        have hcz118_4 : wr.cell? ⟨gb138, 4, none⟩ = some (.int .i64 ((rd_T36 l0 a1).f4)) := (blk_cell BK138.out 4).trans rfl
                        have hcz118_5 : wr.cell? ⟨gb138, 5, none⟩ = some (.int .i64 ((rd_T36 l0 a1).f5)) := (blk_cell BK138.out 5).trans rfl
                        have hfz118_0 := blk_frozen BK138.out 0
                        have hfz118_1 := blk_frozen BK138.out 1
                        have hfz118_2 := blk_frozen BK138.out 2
                        have hfz118_3 := blk_frozen BK138.out 3
                        have hfz118_4 := blk_frozen BK138.out 4
                        have hfz118_5 := blk_frozen BK138.out 5
                        go_wp2_with (first | (go_at_call 46; (with_reducible refine (spec_l01In.calls ((rd_T36 l0 a1).f0) 3 12 false _ A58.out).mono ?_); rintro e w' ⟨rfl, ⟨nd, rfl⟩⟩; (try first | exact ⟨rfl, _, World.drewN_drewN _ _ _⟩ | exact ⟨rfl, _, Eq.trans (World.drewN_drewN _ _ _) (congrArg (World.drewN _) (Nat.add_assoc _ _ _))⟩)) | (go_at_call 46; (with_reducible refine (spec_l01In.calls ((rd_T36 l0 a1).f0) 13 15 false _ A73.out).mono ?_); rintro e w' ⟨rfl, ⟨nd, rfl⟩⟩; (try first | exact ⟨rfl, _, World.drewN_drewN _ _ _⟩ | exact ⟨rfl, _, Eq.trans (World.drewN_drewN _ _ _) (congrArg (World.drewN _) (Nat.add_assoc _ _ _))⟩); obtain ⟨Ao119, co119, eo119⟩ := Kd.R_slice HO_8.out; subst eo119; have p165 : 0 ≤ (0 : Int) := (by omega); have q165 : 0 < (x8_2.length : Int) := of_decide_eq_true (by first | (with_reducible assumption) | assumption); obtain ⟨ad165, e165, hx165_0⟩ := Kd.at_int (Kd.R_reads' HO_8.out).2.2 0 p165 q165; cases e165; have qi165 : (0 < x8_2.length) = True := eq_true (by omega); (try rw [show ((0 : Int)).toNat = 0 from rfl] at hx165_0); (try rw [Addr.add_zero'] at hx165_0); replace p165 := eq_true p165; replace q165 := eq_true q165; have p166 : 0 ≤ (1 : Int) := (by omega); have q166 : 1 < (x8_2.length : Int) := of_decide_eq_true (by first | (with_reducible assumption) | assumption); obtain ⟨ad166, e166, hx166_0⟩ := Kd.at_int (Kd.R_reads' HO_8.out).2.2 1 p166 q166; obtain rfl : ad165 = ad166 := (by injection e166); (try simp only [show (1 : Int).toNat = 1 from rfl, Nat.reduceMul, Nat.reduceEqDiff, Go.Addr.add, ↓reduceIte] at hx166_0); have qi166 : (1 < x8_2.length) = True := eq_true (by omega); (try rw [show ((1 : Int)).toNat = 1 from rfl] at hx166_0); replace p166 := eq_true p166; replace q166 := eq_true q166; have p167 : 0 ≤ (2 : Int) := (by omega); have q167 : 2 < (x8_2.length : Int) := of_decide_eq_true (by first | (with_reducible assumption) | assumption); obtain ⟨ad167, e167, hx167_0⟩ := Kd.at_int (Kd.R_reads' HO_8.out).2.2 2 p167 q167; obtain rfl : ad165 = ad167 := (by injection e167); (try simp only [show (2 : Int).toNat = 2 from rfl, Nat.reduceMul, Nat.reduceEqDiff, Go.Addr.add, ↓reduceIte] at hx167_0); have qi167 : (2 < x8_2.length) = True := eq_true (by omega); (try rw [show ((2 : Int)).toNat = 2 from rfl] at hx167_0); replace p167 := eq_true p167; replace q167 := eq_true q167))
                        repeat (go_quiet (first | (go_at_call 46; (with_reducible refine (spec_l01In.calls ((rd_T36 l0 a1).f0) 3 12 false _ A58.out).mono ?_); rintro e w' ⟨rfl, ⟨nd, rfl⟩⟩; (try first | exact ⟨rfl, _, World.drewN_drewN _ _ _⟩ | exact ⟨rfl, _, Eq.trans (World.drewN_drewN _ _ _) (congrArg (World.drewN _) (Nat.add_assoc _ _ _))⟩)) | (go_at_call 46; (with_reducible refine (spec_l01In.calls ((rd_T36 l0 a1).f0) 13 15 false _ A73.out).mono ?_); rintro e w' ⟨rfl, ⟨nd, rfl⟩⟩; (try first | exact ⟨rfl, _, World.drewN_drewN _ _ _⟩ | exact ⟨rfl, _, Eq.trans (World.drewN_drewN _ _ _) (congrArg (World.drewN _) (Nat.add_assoc _ _ _))⟩); obtain ⟨Ao119, co119, eo119⟩ := Kd.R_slice HO_8.out; subst eo119; have p165 : 0 ≤ (0 : Int) := (by omega); have q165 : 0 < (x8_2.length : Int) := of_decide_eq_true (by first | (with_reducible assumption) | assumption); obtain ⟨ad165, e165, hx165_0⟩ := Kd.at_int (Kd.R_reads' HO_8.out).2.2 0 p165 q165; cases e165; have qi165 : (0 < x8_2.length) = True := eq_true (by omega); (try rw [show ((0 : Int)).toNat = 0 from rfl] at hx165_0); (try rw [Addr.add_zero'] at hx165_0); replace p165 := eq_true p165; replace q165 := eq_true q165; have p166 : 0 ≤ (1 : Int) := (by omega); have q166 : 1 < (x8_2.length : Int) := of_decide_eq_true (by first | (with_reducible assumption) | assumption); obtain ⟨ad166, e166, hx166_0⟩ := Kd.at_int (Kd.R_reads' HO_8.out).2.2 1 p166 q166; obtain rfl : ad165 = ad166 := (by injection e166); (try simp only [show (1 : Int).toNat = 1 from rfl, Nat.reduceMul, Nat.reduceEqDiff, Go.Addr.add, ↓reduceIte] at hx166_0); have qi166 : (1 < x8_2.length) = True := eq_true (by omega); (try rw [show ((1 : Int)).toNat = 1 from rfl] at hx166_0); replace p166 := eq_true p166; replace q166 := eq_true q166; have p167 : 0 ≤ (2 : Int) := (by omega); have q167 : 2 < (x8_2.length : Int) := of_decide_eq_true (by first | (with_reducible assumption) | assumption); obtain ⟨ad167, e167, hx167_0⟩ := Kd.at_int (Kd.R_reads' HO_8.out).2.2 2 p167 q167; obtain rfl : ad165 = ad167 := (by injection e167); (try simp only [show (2 : Int).toNat = 2 from rfl, Nat.reduceMul, Nat.reduceEqDiff, Go.Addr.add, ↓reduceIte] at hx167_0); have qi167 : (2 < x8_2.length) = True := eq_true (by omega); (try rw [show ((2 : Int)).toNat = 2 from rfl] at hx167_0); replace p167 := eq_true p167; replace q167 := eq_true q167)); try go_wp2_with (first | (go_at_call 46; (with_reducible refine (spec_l01In.calls ((rd_T36 l0 a1).f0) 3 12 false _ A58.out).mono ?_); rintro e w' ⟨rfl, ⟨nd, rfl⟩⟩; (try first | exact ⟨rfl, _, World.drewN_drewN _ _ _⟩ | exact ⟨rfl, _, Eq.trans (World.drewN_drewN _ _ _) (congrArg (World.drewN _) (Nat.add_assoc _ _ _))⟩)) | (go_at_call 46; (with_reducible refine (spec_l01In.calls ((rd_T36 l0 a1).f0) 13 15 false _ A73.out).mono ?_); rintro e w' ⟨rfl, ⟨nd, rfl⟩⟩; (try first | exact ⟨rfl, _, World.drewN_drewN _ _ _⟩ | exact ⟨rfl, _, Eq.trans (World.drewN_drewN _ _ _) (congrArg (World.drewN _) (Nat.add_assoc _ _ _))⟩); obtain ⟨Ao119, co119, eo119⟩ := Kd.R_slice HO_8.out; subst eo119; have p165 : 0 ≤ (0 : Int) := (by omega); have q165 : 0 < (x8_2.length : Int) := of_decide_eq_true (by first | (with_reducible assumption) | assumption); obtain ⟨ad165, e165, hx165_0⟩ := Kd.at_int (Kd.R_reads' HO_8.out).2.2 0 p165 q165; cases e165; have qi165 : (0 < x8_2.length) = True := eq_true (by omega); (try rw [show ((0 : Int)).toNat = 0 from rfl] at hx165_0); (try rw [Addr.add_zero'] at hx165_0); replace p165 := eq_true p165; replace q165 := eq_true q165; have p166 : 0 ≤ (1 : Int) := (by omega); have q166 : 1 < (x8_2.length : Int) := of_decide_eq_true (by first | (with_reducible assumption) | assumption); obtain ⟨ad166, e166, hx166_0⟩ := Kd.at_int (Kd.R_reads' HO_8.out).2.2 1 p166 q166; obtain rfl : ad165 = ad166 := (by injection e166); (try simp only [show (1 : Int).toNat = 1 from rfl, Nat.reduceMul, Nat.reduceEqDiff, Go.Addr.add, ↓reduceIte] at hx166_0); have qi166 : (1 < x8_2.length) = True := eq_true (by omega); (try rw [show ((1 : Int)).toNat = 1 from rfl] at hx166_0); replace p166 := eq_true p166; replace q166 := eq_true q166; have p167 : 0 ≤ (2 : Int) := (by omega); have q167 : 2 < (x8_2.length : Int) := of_decide_eq_true (by first | (with_reducible assumption) | assumption); obtain ⟨ad167, e167, hx167_0⟩ := Kd.at_int (Kd.R_reads' HO_8.out).2.2 2 p167 q167; obtain rfl : ad165 = ad167 := (by injection e167); (try simp only [show (2 : Int).toNat = 2 from rfl, Nat.reduceMul, Nat.reduceEqDiff, Go.Addr.add, ↓reduceIte] at hx167_0); have qi167 : (2 < x8_2.length) = True := eq_true (by omega); (try rw [show ((2 : Int)).toNat = 2 from rfl] at hx167_0); replace p167 := eq_true p167; replace q167 := eq_true q167)))
                        go_ret
                        exact ⟨by first | rfl | (simp [errW_none, errW_some] <;> rfl) | (simp [*, errW_none, errW_some] <;> rfl), by repeat (first | (with_reducible first | exact HB.out | apply below_alloc | apply pw_below_drewN | apply below_drew1 | refine below_set ?_ GE138.out) | exact HB.out)⟩
                       ·rw [if_neg c117] at H
                        have c117b0 : ((rd x8_2 2) == ((rd_T36 l0 a1).f1)) = false := beq_eq_false_iff_ne.mpr c117
                        have c117b1 : ((rd x8_2 2) != ((rd_T36 l0 a1).f1)) = true := bne_iff_ne.mpr c117
                        obtain rfl := Option.some.inj H
                        have hcz120_0 : wr.cell? ⟨gb138, 0, none⟩ = some (.int .i64 ((rd_T36 l0 a1).f0)) := (blk_cell BK138.out 0).trans rfl
                        have hcz120_1 : wr.cell? ⟨gb138, 1, none⟩ = some (.int .i64 ((rd_T36 l0 a1).f1)) := (blk_cell BK138.out 1).trans rfl
                        have hcz120_2 : wr.cell? ⟨gb138, 2, none⟩ = some (.int .i64 ((rd_T36 l0 a1).f2)) := (blk_cell BK138.out 2).trans rfl
                        have hcz120_3 : wr.cell? ⟨gb138, 3, none⟩ = some (.int .i64 ((rd_T36 l0 a1).f3)) := (blk_cell BK138.out 3).trans rfl
                        have hcz120_4 : wr.cell? ⟨gb138, 4, none⟩ = some (.int .i64 ((rd_T36 l0 a1).f4)) := (blk_cell BK138.out 4).trans rfl
                        have hcz120_5 : wr.cell? ⟨gb138, 5, none⟩ = some (.int .i64 ((rd_T36 l0 a1).f5)) := (blk_cell BK138.out 5).trans rfl
                        have hfz120_0 := blk_frozen BK138.out 0
                        have hfz120_1 := blk_frozen BK138.out 1
                        have hfz120_2 := blk_frozen BK138.out 2
                        have hfz120_3 := blk_frozen BK138.out 3
                        have hfz120_4 := blk_frozen BK138.out 4
                        have hfz120_5 := blk_frozen BK138.out 5
                        go_wp2_with (first | (go_at_call 46; (with_reducible refine (spec_l01In.calls ((rd_T36 l0 a1).f0) 3 12 false _ A58.out).mono ?_); rintro e w' ⟨rfl, ⟨nd, rfl⟩⟩; (try first | exact ⟨rfl, _, World.drewN_drewN _ _ _⟩ | exact ⟨rfl, _, Eq.trans (World.drewN_drewN _ _ _) (congrArg (World.drewN _) (Nat.add_assoc _ _ _))⟩)) | (go_at_call 46; (with_reducible refine (spec_l01In.calls ((rd_T36 l0 a1).f0) 13 15 false _ A73.out).mono ?_); rintro e w' ⟨rfl, ⟨nd, rfl⟩⟩; (try first | exact ⟨rfl, _, World.drewN_drewN _ _ _⟩ | exact ⟨rfl, _, Eq.trans (World.drewN_drewN _ _ _) (congrArg (World.drewN _) (Nat.add_assoc _ _ _))⟩); obtain ⟨Ao121, co121, eo121⟩ := Kd.R_slice HO_8.out; subst eo121; have p165 : 0 ≤ (0 : Int) := (by omega); have q165 : 0 < (x8_2.length : Int) := of_decide_eq_true (by first | (with_reducible assumption) | assumption); obtain ⟨ad165, e165, hx165_0⟩ := Kd.at_int (Kd.R_reads' HO_8.out).2.2 0 p165 q165; cases e165; have qi165 : (0 < x8_2.length) = True := eq_true (by omega); (try rw [show ((0 : Int)).toNat = 0 from rfl] at hx165_0); (try rw [Addr.add_zero'] at hx165_0); replace p165 := eq_true p165; replace q165 := eq_true q165; have p166 : 0 ≤ (1 : Int) := (by omega); have q166 : 1 < (x8_2.length : Int) := of_decide_eq_true (by first | (with_reducible assumption) | assumption); obtain ⟨ad166, e166, hx166_0⟩ := Kd.at_int (Kd.R_reads' HO_8.out).2.2 1 p166 q166; obtain rfl : ad165 = ad166 := (by injection e166); (try simp only [show (1 : Int).toNat = 1 from rfl, Nat.reduceMul, Nat.reduceEqDiff, Go.Addr.add, ↓reduceIte] at hx166_0); have qi166 : (1 < x8_2.length) = True := eq_true (by omega); (try rw [show ((1 : Int)).toNat = 1 from rfl] at hx166_0); replace p166 := eq_true p166; replace q166 := eq_true q166; have p167 : 0 ≤ (2 : Int) := (by omega); have q167 : 2 < (x8_2.length : Int) := of_decide_eq_true (by first | (with_reducible assumption) | assumption); obtain ⟨ad167, e167, hx167_0⟩ := Kd.at_int (Kd.R_reads' HO_8.out).2.2 2 p167 q167; obtain rfl : ad165 = ad167 := (by injection e167); (try simp only [show (2 : Int).toNat = 2 from rfl, Nat.reduceMul, Nat.reduceEqDiff, Go.Addr.add, ↓reduceIte] at hx167_0); have qi167 : (2 < x8_2.length) = True := eq_true (by omega); (try rw [show ((2 : Int)).toNat = 2 from rfl] at hx167_0); replace p167 := eq_true p167; replace q167 := eq_true q167))
                        repeat (go_quiet (first | (go_at_call 46; (with_reducible refine (spec_l01In.calls ((rd_T36 l0 a1).f0) 3 12 false _ A58.out).mono ?_); rintro e w' ⟨rfl, ⟨nd, rfl⟩⟩; (try first | exact ⟨rfl, _, World.drewN_drewN _ _ _⟩ | exact ⟨rfl, _, Eq.trans (World.drewN_drewN _ _ _) (congrArg (World.drewN _) (Nat.add_assoc _ _ _))⟩)) | (go_at_call 46; (with_reducible refine (spec_l01In.calls ((rd_T36 l0 a1).f0) 13 15 false _ A73.out).mono ?_); rintro e w' ⟨rfl, ⟨nd, rfl⟩⟩; (try first | exact ⟨rfl, _, World.drewN_drewN _ _ _⟩ | exact ⟨rfl, _, Eq.trans (World.drewN_drewN _ _ _) (congrArg (World.drewN _) (Nat.add_assoc _ _ _))⟩); obtain ⟨Ao121, co121, eo121⟩ := Kd.R_slice HO_8.out; subst eo121; have p165 : 0 ≤ (0 : Int) := (by omega); have q165 : 0 < (x8_2.length : Int) := of_decide_eq_true (by first | (with_reducible assumption) | assumption); obtain ⟨ad165, e165, hx165_0⟩ := Kd.at_int (Kd.R_reads' HO_8.out).2.2 0 p165 q165; cases e165; have qi165 : (0 < x8_2.length) = True := eq_true (by omega); (try rw [show ((0 : Int)).toNat = 0 from rfl] at hx165_0); (try rw [Addr.add_zero'] at hx165_0); replace p165 := eq_true p165; replace q165 := eq_true q165; have p166 : 0 ≤ (1 : Int) := (by omega); have q166 : 1 < (x8_2.length : Int) := of_decide_eq_true (by first | (with_reducible assumption) | assumption); obtain ⟨ad166, e166, hx166_0⟩ := Kd.at_int (Kd.R_reads' HO_8.out).2.2 1 p166 q166; obtain rfl : ad165 = ad166 := (by injection e166); (try simp only [show (1 : Int).toNat = 1 from rfl, Nat.reduceMul, Nat.reduceEqDiff, Go.Addr.add, ↓reduceIte] at hx166_0); have qi166 : (1 < x8_2.length) = True := eq_true (by omega); (try rw [show ((1 : Int)).toNat = 1 from rfl] at hx166_0); replace p166 := eq_true p166; replace q166 := eq_true q166; have p167 : 0 ≤ (2 : Int) := (by omega); have q167 : 2 < (x8_2.length : Int) := of_decide_eq_true (by first | (with_reducible assumption) | assumption); obtain ⟨ad167, e167, hx167_0⟩ := Kd.at_int (Kd.R_reads' HO_8.out).2.2 2 p167 q167; obtain rfl : ad165 = ad167 := (by injection e167); (try simp only [show (2 : Int).toNat = 2 from rfl, Nat.reduceMul, Nat.reduceEqDiff, Go.Addr.add, ↓reduceIte] at hx167_0); have qi167 : (2 < x8_2.length) = True := eq_true (by omega); (try rw [show ((2 : Int)).toNat = 2 from rfl] at hx167_0); replace p167 := eq_true p167; replace q167 := eq_true q167)); try go_wp2_with (first | (go_at_call 46; (with_reducible refine (spec_l01In.calls ((rd_T36 l0 a1).f0) 3 12 false _ A58.out).mono ?_); rintro e w' ⟨rfl, ⟨nd, rfl⟩⟩; (try first | exact ⟨rfl, _, World.drewN_drewN _ _ _⟩ | exact ⟨rfl, _, Eq.trans (World.drewN_drewN _ _ _) (congrArg (World.drewN _) (Nat.add_assoc _ _ _))⟩)) | (go_at_call 46; (with_reducible refine (spec_l01In.calls ((rd_T36 l0 a1).f0) 13 15 false _ A73.out).mono ?_); rintro e w' ⟨rfl, ⟨nd, rfl⟩⟩; (try first | exact ⟨rfl, _, World.drewN_drewN _ _ _⟩ | exact ⟨rfl, _, Eq.trans (World.drewN_drewN _ _ _) (congrArg (World.drewN _) (Nat.add_assoc _ _ _))⟩); obtain ⟨Ao121, co121, eo121⟩ := Kd.R_slice HO_8.out; subst eo121; have p165 : 0 ≤ (0 : Int) := (by omega); have q165 : 0 < (x8_2.length : Int) := of_decide_eq_true (by first | (with_reducible assumption) | assumption); obtain ⟨ad165, e165, hx165_0⟩ := Kd.at_int (Kd.R_reads' HO_8.out).2.2 0 p165 q165; cases e165; have qi165 : (0 < x8_2.length) = True := eq_true (by omega); (try rw [show ((0 : Int)).toNat = 0 from rfl] at hx165_0); (try rw [Addr.add_zero'] at hx165_0); replace p165 := eq_true p165; replace q165 := eq_true q165; have p166 : 0 ≤ (1 : Int) := (by omega); have q166 : 1 < (x8_2.length : Int) := of_decide_eq_true (by first | (with_reducible assumption) | assumption); obtain ⟨ad166, e166, hx166_0⟩ := Kd.at_int (Kd.R_reads' HO_8.out).2.2 1 p166 q166; obtain rfl : ad165 = ad166 := (by injection e166); (try simp only [show (1 : Int).toNat = 1 from rfl, Nat.reduceMul, Nat.reduceEqDiff, Go.Addr.add, ↓reduceIte] at hx166_0); have qi166 : (1 < x8_2.length) = True := eq_true (by omega); (try rw [show ((1 : Int)).toNat = 1 from rfl] at hx166_0); replace p166 := eq_true p166; replace q166 := eq_true q166; have p167 : 0 ≤ (2 : Int) := (by omega); have q167 : 2 < (x8_2.length : Int) := of_decide_eq_true (by first | (with_reducible assumption) | assumption); obtain ⟨ad167, e167, hx167_0⟩ := Kd.at_int (Kd.R_reads' HO_8.out).2.2 2 p167 q167; obtain rfl : ad165 = ad167 := (by injection e167); (try simp only [show (2 : Int).toNat = 2 from rfl, Nat.reduceMul, Nat.reduceEqDiff, Go.Addr.add, ↓reduceIte] at hx167_0); have qi167 : (2 < x8_2.length) = True := eq_true (by omega); (try rw [show ((2 : Int)).toNat = 2 from rfl] at hx167_0); replace p167 := eq_true p167; replace q167 := eq_true q167)))
                        go_ret
                        exact ⟨by first | rfl | (simp [errW_none, errW_some] <;> rfl) | (simp [*, errW_none, errW_some] <;> rfl), by repeat (first | (with_reducible first | exact HB.out | apply below_alloc | apply pw_below_drewN | apply below_drew1 | refine below_set ?_ GE138.out) | exact HB.out)⟩
                      ·rw [if_neg c116] at H
                       exact absurd H (by simp)
                     ·rw [if_neg c115] at H
                      have c115b0 : ((rd x8_2 1) == ((rd_T36 l0 a1).f1)) = false := beq_eq_false_iff_ne.mpr c115
                      have c115b1 : ((rd x8_2 1) != ((rd_T36 l0 a1).f1)) = true := bne_iff_ne.mpr c115
                      obtain rfl := Option.some.inj H
                      have hcz122_0 : wr.cell? ⟨gb138, 0, none⟩ = some (.int .i64 ((rd_T36 l0 a1).f0)) := (blk_cell BK138.out 0).trans rfl
                      have hcz122_1 : wr.cell? ⟨gb138, 1, none⟩ = some (.int .i64 ((rd_T36 l0 a1).f1)) := (blk_cell BK138.out 1).trans rfl
                      have hcz122_2 : wr.cell? ⟨gb138, 2, none⟩ = some (.int .i64 ((rd_T36 l0 a1).f2)) := (blk_cell BK138.out 2).trans rfl
                      have hcz122_3 : wr.cell? ⟨gb138, 3, none⟩ = some (.int .i64 ((rd_T36 l0 a1).f3)) := (blk_cell BK138.out 3).trans rfl
                      have hcz122_4 : wr.cell? ⟨gb138, 4, none⟩ = some (.int .i64 ((rd_T36 l0 a1).f4)) := (blk_cell BK138.out 4).trans rfl
                      have hcz122_5 : wr.cell? ⟨gb138, 5, none⟩ = some (.int .i64 ((rd_T36 l0 a1).f5)) := (blk_cell BK138.out 5).trans rfl
                      have hfz122_0 := blk_frozen BK138.out 0
                      have hfz122_1 := blk_frozen BK138.out 1
                      have hfz122_2 := blk_frozen BK138.out 2
                      have hfz122_3 := blk_frozen BK138.out 3
                      have hfz122_4 := blk_frozen BK138.out 4
                      have hfz122_5 := blk_frozen BK138.out 5
                      go_wp2_with (first | (go_at_call 46; (with_reducible refine (spec_l01In.calls ((rd_T36 l0 a1).f0) 3 12 false _ A58.out).mono ?_); rintro e w' ⟨rfl, ⟨nd, rfl⟩⟩; (try first | exact ⟨rfl, _, World.drewN_drewN _ _ _⟩ | exact ⟨rfl, _, Eq.trans (World.drewN_drewN _ _ _) (congrArg (World.drewN _) (Nat.add_assoc _ _ _))⟩)) | (go_at_call 46; (with_reducible refine (spec_l01In.calls ((rd_T36 l0 a1).f0) 13 15 false _ A73.out).mono ?_); rintro e w' ⟨rfl, ⟨nd, rfl⟩⟩; (try first | exact ⟨rfl, _, World.drewN_drewN _ _ _⟩ | exact ⟨rfl, _, Eq.trans (World.drewN_drewN _ _ _) (congrArg (World.drewN _) (Nat.add_assoc _ _ _))⟩); obtain ⟨Ao123, co123, eo123⟩ := Kd.R_slice HO_8.out; subst eo123; have p165 : 0 ≤ (0 : Int) := (by omega); have q165 : 0 < (x8_2.length : Int) := of_decide_eq_true (by first | (with_reducible assumption) | assumption); obtain ⟨ad165, e165, hx165_0⟩ := Kd.at_int (Kd.R_reads' HO_8.out).2.2 0 p165 q165; cases e165; have qi165 : (0 < x8_2.length) = True := eq_true (by omega); (try rw [show ((0 : Int)).toNat = 0 from rfl] at hx165_0); (try rw [Addr.add_zero'] at hx165_0); replace p165 := eq_true p165; replace q165 := eq_true q165; have p166 : 0 ≤ (1 : Int) := (by omega); have q166 : 1 < (x8_2.length : Int) := of_decide_eq_true (by first | (with_reducible assumption) | assumption); obtain ⟨ad166, e166, hx166_0⟩ := Kd.at_int (Kd.R_reads' HO_8.out).2.2 1 p166 q166; obtain rfl : ad165 = ad166 := (by injection e166); (try simp only [show (1 : Int).toNat = 1 from rfl, Nat.reduceMul, Nat.reduceEqDiff, Go.Addr.add, ↓reduceIte] at hx166_0); have qi166 : (1 < x8_2.length) = True := eq_true (by omega); (try rw [show ((1 : Int)).toNat = 1 from rfl] at hx166_0); replace p166 := eq_true p166; replace q166 := eq_true q166))
                      repeat (go_quiet (first | (go_at_call 46; (with_reducible refine (spec_l01In.calls ((rd_T36 l0 a1).f0) 3 12 false _ A58.out).mono ?_); rintro e w' ⟨rfl, ⟨nd, rfl⟩⟩; (try first | exact ⟨rfl, _, World.drewN_drewN _ _ _⟩ | exact ⟨rfl, _, Eq.trans (World.drewN_drewN _ _ _) (congrArg (World.drewN _) (Nat.add_assoc _ _ _))⟩)) | (go_at_call 46; (with_reducible refine (spec_l01In.calls ((rd_T36 l0 a1).f0) 13 15 false _ A73.out).mono ?_); rintro e w' ⟨rfl, ⟨nd, rfl⟩⟩; (try first | exact ⟨rfl, _, World.drewN_drewN _ _ _⟩ | exact ⟨rfl, _, Eq.trans (World.drewN_drewN _ _ _) (congrArg (World.drewN _) (Nat.add_assoc _ _ _))⟩); obtain ⟨Ao123, co123, eo123⟩ := Kd.R_slice HO_8.out; subst eo123; have p165 : 0 ≤ (0 : Int) := (by omega); have q165 : 0 < (x8_2.length : Int) := of_decide_eq_true (by first | (with_reducible assumption) | assumption); obtain ⟨ad165, e165, hx165_0⟩ := Kd.at_int (Kd.R_reads' HO_8.out).2.2 0 p165 q165; cases e165; have qi165 : (0 < x8_2.length) = True := eq_true (by omega); (try rw [show ((0 : Int)).toNat = 0 from rfl] at hx165_0); (try rw [Addr.add_zero'] at hx165_0); replace p165 := eq_true p165; replace q165 := eq_true q165; have p166 : 0 ≤ (1 : Int) := (by omega); have q166 : 1 < (x8_2.length : Int) := of_decide_eq_true (by first | (with_reducible assumption) | assumption); obtain ⟨ad166, e166, hx166_0⟩ := Kd.at_int (Kd.R_reads' HO_8.out).2.2 1 p166 q166; obtain rfl : ad165 = ad166 := (by injection e166); (try simp only [show (1 : Int).toNat = 1 from rfl, Nat.reduceMul, Nat.reduceEqDiff, Go.Addr.add, ↓reduceIte] at hx166_0); have qi166 : (1 < x8_2.length) = True := eq_true (by omega); (try rw [show ((1 : Int)).toNat = 1 from rfl] at hx166_0); replace p166 := eq_true p166; replace q166 := eq_true q166)); try go_wp2_with (first | (go_at_call 46; (with_reducible refine (spec_l01In.calls ((rd_T36 l0 a1).f0) 3 12 false _ A58.out).mono ?_); rintro e w' ⟨rfl, ⟨nd, rfl⟩⟩; (try first | exact ⟨rfl, _, World.drewN_drewN _ _ _⟩ | exact ⟨rfl, _, Eq.trans (World.drewN_drewN _ _ _) (congrArg (World.drewN _) (Nat.add_assoc _ _ _))⟩)) | (go_at_call 46; (with_reducible refine (spec_l01In.calls ((rd_T36 l0 a1).f0) 13 15 false _ A73.out).mono ?_); rintro e w' ⟨rfl, ⟨nd, rfl⟩⟩; (try first | exact ⟨rfl, _, World.drewN_drewN _ _ _⟩ | exact ⟨rfl, _, Eq.trans (World.drewN_drewN _ _ _) (congrArg (World.drewN _) (Nat.add_assoc _ _ _))⟩); obtain ⟨Ao123, co123, eo123⟩ := Kd.R_slice HO_8.out; subst eo123; have p165 : 0 ≤ (0 : Int) := (by omega); have q165 : 0 < (x8_2.length : Int) := of_decide_eq_true (by first | (with_reducible assumption) | assumption); obtain ⟨ad165, e165, hx165_0⟩ := Kd.at_int (Kd.R_reads' HO_8.out).2.2 0 p165 q165; cases e165; have qi165 : (0 < x8_2.length) = True := eq_true (by omega); (try rw [show ((0 : Int)).toNat = 0 from rfl] at hx165_0); (try rw [Addr.add_zero'] at hx165_0); replace p165 := eq_true p165; replace q165 := eq_true q165; have p166 : 0 ≤ (1 : Int) := (by omega); have q166 : 1 < (x8_2.length : Int) := of_decide_eq_true (by first | (with_reducible assumption) | assumption); obtain ⟨ad166, e166, hx166_0⟩ := Kd.at_int (Kd.R_reads' HO_8.out).2.2 1 p166 q166; obtain rfl : ad165 = ad166 := (by injection e166); (try simp only [show (1 : Int).toNat = 1 from rfl, Nat.reduceMul, Nat.reduceEqDiff, Go.Addr.add, ↓reduceIte] at hx166_0); have qi166 : (1 < x8_2.length) = True := eq_true (by omega); (try rw [show ((1 : Int)).toNat = 1 from rfl] at hx166_0); replace p166 := eq_true p166; replace q166 := eq_true q166)))
                      go_ret
                      exact ⟨by first | rfl | (simp [errW_none, errW_some] <;> rfl) | (simp [*, errW_none, errW_some] <;> rfl), by repeat (first | (with_reducible first | exact HB.out | apply below_alloc | apply pw_below_drewN | apply below_drew1 | refine below_set ?_ GE138.out) | exact HB.out)⟩
                    ·rw [if_neg c114] at H
                     exact absurd H (by simp)
                   ·rw [if_neg c113] at H
                    have c113b0 : ((rd x8_2 0) == 1) = false := beq_eq_false_iff_ne.mpr c113
                    have c113b1 : ((rd x8_2 0) != 1) = true := bne_iff_ne.mpr c113
                    obtain rfl := Option.some.inj H
                    have hcz124_0 : wr.cell? ⟨gb138, 0, none⟩ = some (.int .i64 ((rd_T36 l0 a1).f0)) := (blk_cell BK138.out 0).trans rfl
                    have hcz124_1 : wr.cell? ⟨gb138, 1, none⟩ = some (.int .i64 ((rd_T36 l0 a1).f1)) := (blk_cell BK138.out 1).trans rfl
                    have hcz124_2 : wr.cell? ⟨gb138, 2, none⟩ = some (.int .i64 ((rd_T36 l0 a1).f2)) := (blk_cell BK138.out 2).trans rfl
                    have hcz124_3 : wr.cell? ⟨gb138, 3, none⟩ = some (.int .i64 ((rd_T36 l0 a1).f3)) := (blk_cell BK138.out 3).trans rfl
                    have hcz124_4 : wr.cell? ⟨gb138, 4, none⟩ = some (.int .i64 ((rd_T36 l0 a1).f4)) := (blk_cell BK138.out 4).trans rfl
                    have hcz124_5 : wr.cell? ⟨gb138, 5, none⟩ = some (.int .i64 ((rd_T36 l0 a1).f5)) := (blk_cell BK138.out 5).trans rfl
                    have hfz124_0 := blk_frozen BK138.out 0
                    have hfz124_1 := blk_frozen BK138.out 1
                    have hfz124_2 := blk_frozen BK138.out 2
                    have hfz124_3 := blk_frozen BK138.out 3
                    have hfz124_4 := blk_frozen BK138.out 4
                    have hfz124_5 := blk_frozen BK138.out 5
                    go_wp2_with (first | (go_at_call 46; (with_reducible refine (spec_l01In.calls ((rd_T36 l0 a1).f0) 3 12 false _ A58.out).mono ?_); rintro e w' ⟨rfl, ⟨nd, rfl⟩⟩; (try first | exact ⟨rfl, _, World.drewN_drewN _ _ _⟩ | exact ⟨rfl, _, Eq.trans (World.drewN_drewN _ _ _) (congrArg (World.drewN _) (Nat.add_assoc _ _ _))⟩)) | (go_at_call 46; (with_reducible refine (spec_l01In.calls ((rd_T36 l0 a1).f0) 13 15 false _ A73.out).mono ?_); rintro e w' ⟨rfl, ⟨nd, rfl⟩⟩; (try first | exact ⟨rfl, _, World.drewN_drewN _ _ _⟩ | exact ⟨rfl, _, Eq.trans (World.drewN_drewN _ _ _) (congrArg (World.drewN _) (Nat.add_assoc _ _ _))⟩); obtain ⟨Ao125, co125, eo125⟩ := Kd.R_slice HO_8.out; subst eo125; have p165 : 0 ≤ (0 : Int) := (by omega); have q165 : 0 < (x8_2.length : Int) := of_decide_eq_true (by first | (with_reducible assumption) | assumption); obtain ⟨ad165, e165, hx165_0⟩ := Kd.at_int (Kd.R_reads' HO_8.out).2.2 0 p165 q165; cases e165; have qi165 : (0 < x8_2.length) = True := eq_true (by omega); (try rw [show ((0 : Int)).toNat = 0 from rfl] at hx165_0); (try rw [Addr.add_zero'] at hx165_0); replace p165 := eq_true p165; replace q165 := eq_true q165))
                    repeat (go_quiet (first | (go_at_call 46; (with_reducible refine (spec_l01In.calls ((rd_T36 l0 a1).f0) 3 12 false _ A58.out).mono ?_); rintro e w' ⟨rfl, ⟨nd, rfl⟩⟩; (try first | exact ⟨rfl, _, World.drewN_drewN _ _ _⟩ | exact ⟨rfl, _, Eq.trans (World.drewN_drewN _ _ _) (congrArg (World.drewN _) (Nat.add_assoc _ _ _))⟩)) | (go_at_call 46; (with_reducible refine (spec_l01In.calls ((rd_T36 l0 a1).f0) 13 15 false _ A73.out).mono ?_); rintro e w' ⟨rfl, ⟨nd, rfl⟩⟩; (try first | exact ⟨rfl, _, World.drewN_drewN _ _ _⟩ | exact ⟨rfl, _, Eq.trans (World.drewN_drewN _ _ _) (congrArg (World.drewN _) (Nat.add_assoc _ _ _))⟩); obtain ⟨Ao125, co125, eo125⟩ := Kd.R_slice HO_8.out; subst eo125; have p165 : 0 ≤ (0 : Int) := (by omega); have q165 : 0 < (x8_2.length : Int) := of_decide_eq_true (by first | (with_reducible assumption) | assumption); obtain ⟨ad165, e165, hx165_0⟩ := Kd.at_int (Kd.R_reads' HO_8.out).2.2 0 p165 q165; cases e165; have qi165 : (0 < x8_2.length) = True := eq_true (by omega); (try rw [show ((0 : Int)).toNat = 0 from rfl] at hx165_0); (try rw [Addr.add_zero'] at hx165_0); replace p165 := eq_true p165; replace q165 := eq_true q165)); try go_wp2_with (first | (go_at_call 46; (with_reducible refine (spec_l01In.calls ((rd_T36 l0 a1).f0) 3 12 false _ A58.out).mono ?_); rintro e w' ⟨rfl, ⟨nd, rfl⟩⟩; (try first | exact ⟨rfl, _, World.drewN_drewN _ _ _⟩ | exact ⟨rfl, _, Eq.trans (World.drewN_drewN _ _ _) (congrArg (World.drewN _) (Nat.add_assoc _ _ _))⟩)) | (go_at_call 46; (with_reducible refine (spec_l01In.calls ((rd_T36 l0 a1).f0) 13 15 false _ A73.out).mono ?_); rintro e w' ⟨rfl, ⟨nd, rfl⟩⟩; (try first | exact ⟨rfl, _, World.drewN_drewN _ _ _⟩ | exact ⟨rfl, _, Eq.trans (World.drewN_drewN _ _ _) (congrArg (World.drewN _) (Nat.add_assoc _ _ _))⟩); obtain ⟨Ao125, co125, eo125⟩ := Kd.R_slice HO_8.out; subst eo125; have p165 : 0 ≤ (0 : Int) := (by omega); have q165 : 0 < (x8_2.length : Int) := of_decide_eq_true (by first | (with_reducible assumption) | assumption); obtain ⟨ad165, e165, hx165_0⟩ := Kd.at_int (Kd.R_reads' HO_8.out).2.2 0 p165 q165; cases e165; have qi165 : (0 < x8_2.length) = True := eq_true (by omega); (try rw [show ((0 : Int)).toNat = 0 from rfl] at hx165_0); (try rw [Addr.add_zero'] at hx165_0); replace p165 := eq_true p165; replace q165 := eq_true q165)))
                    go_ret
                    exact ⟨by first | rfl | (simp [errW_none, errW_some] <;> rfl) | (simp [*, errW_none, errW_some] <;> rfl), by repeat (first | (with_reducible first | exact HB.out | apply below_alloc | apply pw_below_drewN | apply below_drew1 | refine below_set ?_ GE138.out) | exact HB.out)⟩
                  ·rw [if_neg c112] at H
                   exact absurd H (by simp)
                 ·rw [if_neg c111] at H
                  have c111b0 : (((rd_T36 l0 a1).f0) == 18) = false := beq_eq_false_iff_ne.mpr c111
                  have c111b1 : (((rd_T36 l0 a1).f0) != 18) = true := bne_iff_ne.mpr c111
                  have HC126 := Aside0.mk H
                  clear H
                  have hcz127_0 : wr.cell? ⟨gb138, 0, none⟩ = some (.int .i64 ((rd_T36 l0 a1).f0)) := (blk_cell BK138.out 0).trans rfl
                  have hcz127_1 : wr.cell? ⟨gb138, 1, none⟩ = some (.int .i64 ((rd_T36 l0 a1).f1)) := (blk_cell BK138.out 1).trans rfl
                  have hcz127_2 : wr.cell? ⟨gb138, 2, none⟩ = some (.int .i64 ((rd_T36 l0 a1).f2)) := (blk_cell BK138.out 2).trans rfl
                  have hcz127_3 : wr.cell? ⟨gb138, 3, none⟩ = some (.int .i64 ((rd_T36 l0 a1).f3)) := (blk_cell BK138.out 3).trans rfl
                  have hcz127_4 : wr.cell? ⟨gb138, 4, none⟩ = some (.int .i64 ((rd_T36 l0 a1).f4)) := (blk_cell BK138.out 4).trans rfl
                  have hcz127_5 : wr.cell? ⟨gb138, 5, none⟩ = some (.int .i64 ((rd_T36 l0 a1).f5)) := (blk_cell BK138.out 5).trans rfl
                  have hfz127_0 := blk_frozen BK138.out 0
                  have hfz127_1 := blk_frozen BK138.out 1
                  have hfz127_2 := blk_frozen BK138.out 2
                  have hfz127_3 := blk_frozen BK138.out 3
                  have hfz127_4 := blk_frozen BK138.out 4
                  have hfz127_5 := blk_frozen BK138.out 5
                  go_upto_region 31 with (first | (go_at_call 46; (with_reducible refine (spec_l01In.calls ((rd_T36 l0 a1).f0) 3 12 false _ A58.out).mono ?_); rintro e w' ⟨rfl, ⟨nd, rfl⟩⟩; (try first | exact ⟨rfl, _, World.drewN_drewN _ _ _⟩ | exact ⟨rfl, _, Eq.trans (World.drewN_drewN _ _ _) (congrArg (World.drewN _) (Nat.add_assoc _ _ _))⟩)) | (go_at_call 46; (with_reducible refine (spec_l01In.calls ((rd_T36 l0 a1).f0) 13 15 false _ A73.out).mono ?_); rintro e w' ⟨rfl, ⟨nd, rfl⟩⟩; (try first | exact ⟨rfl, _, World.drewN_drewN _ _ _⟩ | exact ⟨rfl, _, Eq.trans (World.drewN_drewN _ _ _) (congrArg (World.drewN _) (Nat.add_assoc _ _ _))⟩)))
                  repeat (go_quiet (first | (go_at_call 46; (with_reducible refine (spec_l01In.calls ((rd_T36 l0 a1).f0) 3 12 false _ A58.out).mono ?_); rintro e w' ⟨rfl, ⟨nd, rfl⟩⟩; (try first | exact ⟨rfl, _, World.drewN_drewN _ _ _⟩ | exact ⟨rfl, _, Eq.trans (World.drewN_drewN _ _ _) (congrArg (World.drewN _) (Nat.add_assoc _ _ _))⟩)) | (go_at_call 46; (with_reducible refine (spec_l01In.calls ((rd_T36 l0 a1).f0) 13 15 false _ A73.out).mono ?_); rintro e w' ⟨rfl, ⟨nd, rfl⟩⟩; (try first | exact ⟨rfl, _, World.drewN_drewN _ _ _⟩ | exact ⟨rfl, _, Eq.trans (World.drewN_drewN _ _ _) (congrArg (World.drewN _) (Nat.add_assoc _ _ _))⟩))); go_upto_region 31 with (first | (go_at_call 46; (with_reducible refine (spec_l01In.calls ((rd_T36 l0 a1).f0) 3 12 false _ A58.out).mono ?_); rintro e w' ⟨rfl, ⟨nd, rfl⟩⟩; (try first | exact ⟨rfl, _, World.drewN_drewN _ _ _⟩ | exact ⟨rfl, _, Eq.trans (World.drewN_drewN _ _ _) (congrArg (World.drewN _) (Nat.add_assoc _ _ _))⟩)) | (go_at_call 46; (with_reducible refine (spec_l01In.calls ((rd_T36 l0 a1).f0) 13 15 false _ A73.out).mono ?_); rintro e w' ⟨rfl, ⟨nd, rfl⟩⟩; (try first | exact ⟨rfl, _, World.drewN_drewN _ _ _⟩ | exact ⟨rfl, _, Eq.trans (World.drewN_drewN _ _ _) (congrArg (World.drewN _) (Nat.add_assoc _ _ _))⟩))))
                  (try simp only [Act.put, List.setIfInBounds_toArray, List.set_cons_zero, List.set_cons_succ])
                  go_cut [258] (fun v258 wc => ∃ (kq : Nat) (x258_125 : Bool), v258 = .bool x258_125 ∧ Aside0 (spec_l02Node.j2 kq x8_2 x258_125 ((rd_T36 l0 a1).f0) ((rd_T36 l0 a1).f1) ((rd_T36 l0 a1).f2) ((rd_T36 l0 a1).f3) ((rd_T36 l0 a1).f4) ((rd_T36 l0 a1).f5) = some r) ∧ Aside0 (kq ≤ k2) ∧ Aside0 (Kd.R (Kd.int .i64) 3 wc w.heap.size (fun _ => True) u8 x8_2) ∧ Aside0 (wc.heap[gb138]? = some (.cells #[.int .i64 ((rd_T36 l0 a1).f0), .int .i64 ((rd_T36 l0 a1).f1), .int .i64 ((rd_T36 l0 a1).f2), .int .i64 ((rd_T36 l0 a1).f3), .int .i64 ((rd_T36 l0 a1).f4), .int .i64 ((rd_T36 l0 a1).f5)] 36 (0, 0))) ∧ Aside0 (Below w.heap.size w wc))
                  case first =>
                   have H := HC126.out
                   clear HC126
                   by_cases c128 : ((rd_T36 l0 a1).f0) = 19
                   ·rw [if_pos c128] at H
                    have c128b0 : (((rd_T36 l0 a1).f0) == 19) = true := beq_iff_eq.mpr c128
                    have c128b1 : (((rd_T36 l0 a1).f0) != 19) = false := bne_eq_false_iff_eq.mpr c128
                    clear c128
                    (first | rw [c128b0] | (simp only [i64_w, i32_w]; rw [c128b0]) | skip)
                    have H' := Aside0.mk H
                    clear H
                    have hcz129_0 : wr.cell? ⟨gb138, 0, none⟩ = some (.int .i64 ((rd_T36 l0 a1).f0)) := (blk_cell BK138.out 0).trans rfl
                    have hcz129_1 : wr.cell? ⟨gb138, 1, none⟩ = some (.int .i64 ((rd_T36 l0 a1).f1)) := (blk_cell BK138.out 1).trans rfl
                    have hcz129_2 : wr.cell? ⟨gb138, 2, none⟩ = some (.int .i64 ((rd_T36 l0 a1).f2)) := (blk_cell BK138.out 2).trans rfl
                    have hcz129_3 : wr.cell? ⟨gb138, 3, none⟩ = some (.int .i64 ((rd_T36 l0 a1).f3)) := (blk_cell BK138.out 3).trans rfl
                    have hcz129_4 : wr.cell? ⟨gb138, 4, none⟩ = some (.int .i64 ((rd_T36 l0 a1).f4)) := (blk_cell BK138.out 4).trans rfl
                    have hcz129_5 : wr.cell? ⟨gb138, 5, none⟩ = some (.int .i64 ((rd_T36 l0 a1).f5)) := (blk_cell BK138.out 5).trans rfl
                    have hfz129_0 := blk_frozen BK138.out 0
                    have hfz129_1 := blk_frozen BK138.out 1
                    have hfz129_2 := blk_frozen BK138.out 2
                    have hfz129_3 := blk_frozen BK138.out 3
                    have hfz129_4 := blk_frozen BK138.out 4
                    have hfz129_5 := blk_frozen BK138.out 5
                    go_wp2
                    repeat (go_quiet (fail); try go_wp2)
                    go_meet
                    case rel => exact ⟨_, (true), (by first | rfl | (simp; done) | (simp [*]; done)), H', ⟨by have := HK1.out; have := HK2.out; first | omega | exact Nat.le_refl _⟩, ⟨by (with_reducible repeat (first | apply Kd.R_alloc | apply Kd.R_drewN | apply Kd.R_drew)); exact Kd.R_mono HO_8.out (fun _ hk => trivial)⟩, ⟨by (with_reducible repeat (first | refine blk_drewN ?_ _ | refine blk_drew ?_ | refine blk_alloc ?_ _)); exact BK138.out⟩, ⟨by repeat (first | (with_reducible first | exact HB.out | apply below_alloc | apply pw_below_drewN | apply below_drew1 | refine below_set ?_ GE138.out) | exact HB.out)⟩⟩
                   ·rw [if_neg c128] at H
                    have c128b0 : (((rd_T36 l0 a1).f0) == 19) = false := beq_eq_false_iff_ne.mpr c128
                    have c128b1 : (((rd_T36 l0 a1).f0) != 19) = true := bne_iff_ne.mpr c128
                    (first | rw [c128b0] | (simp only [i64_w, i32_w]; rw [c128b0]) | skip)
                    have H' := Aside0.mk H
                    clear H
                    have hcz130_0 : wr.cell? ⟨gb138, 0, none⟩ = some (.int .i64 ((rd_T36 l0 a1).f0)) := (blk_cell BK138.out 0).trans rfl
                    have hcz130_1 : wr.cell? ⟨gb138, 1, none⟩ = some (.int .i64 ((rd_T36 l0 a1).f1)) := (blk_cell BK138.out 1).trans rfl
                    have hcz130_2 : wr.cell? ⟨gb138, 2, none⟩ = some (.int .i64 ((rd_T36 l0 a1).f2)) := (blk_cell BK138.out 2).trans rfl
                    have hcz130_3 : wr.cell? ⟨gb138, 3, none⟩ = some (.int .i64 ((rd_T36 l0 a1).f3)) := (blk_cell BK138.out 3).trans rfl
                    have hcz130_4 : wr.cell? ⟨gb138, 4, none⟩ = some (.int .i64 ((rd_T36 l0 a1).f4)) := (blk_cell BK138.out 4).trans rfl
                    have hcz130_5 : wr.cell? ⟨gb138, 5, none⟩ = some (.int .i64 ((rd_T36 l0 a1).f5)) := (blk_cell BK138.out 5).trans rfl
                    have hfz130_0 := blk_frozen BK138.out 0
                    have hfz130_1 := blk_frozen BK138.out 1
                    have hfz130_2 := blk_frozen BK138.out 2
                    have hfz130_3 := blk_frozen BK138.out 3
                    have hfz130_4 := blk_frozen BK138.out 4
                    have hfz130_5 := blk_frozen BK138.out 5
                    go_wp2
                    repeat (go_quiet (fail); try go_wp2)
                    go_meet
                    case rel => exact ⟨_, ((((rd_T36 l0 a1).f0) == 20)), (by first | rfl | (simp; done) | (simp [*]; done)), H', ⟨by have := HK1.out; have := HK2.out; first | omega | exact Nat.le_refl _⟩, ⟨by (with_reducible repeat (first | apply Kd.R_alloc | apply Kd.R_drewN | apply Kd.R_drew)); exact Kd.R_mono HO_8.out (fun _ hk => trivial)⟩, ⟨by (with_reducible repeat (first | refine blk_drewN ?_ _ | refine blk_drew ?_ | refine blk_alloc ?_ _)); exact BK138.out⟩, ⟨by repeat (first | (with_reducible first | exact HB.out | apply below_alloc | apply pw_below_drewN | apply below_drew1 | refine below_set ?_ GE138.out) | exact HB.out)⟩⟩
                  case rest =>
                   clear HC126
                   try clear c1; try clear p1; try clear q1; try clear hx1; try clear qi1; try clear p2; try clear c5; try clear c6; try clear p6; try clear c7; try clear c8; try clear c9; try clear c10; try clear c11; try clear c12; try clear p15; try clear q15; try clear hx15; try clear qi15; try clear p16; try clear q16; try clear hx16; try clear qi16; try clear c59; try clear c60; try clear c61; try clear c61b0; try clear c61b1; try clear c62; try clear c63; try clear c63b0; try clear c63b1; try clear c64; try clear c64b0; try clear c64b1; try clear p64; try clear c74; try clear c75; try clear c75b0; try clear c75b1; try clear c76; try clear c76b0; try clear c76b1; try clear c77; try clear c77b0; try clear c77b1; try clear c78; try clear c78b0; try clear c78b1; try clear c79; try clear c79b0; try clear c79b1; try clear c88; try clear c88b0; try clear c88b1; try clear c89; try clear c89b0; try clear c89b1; try clear c90; try clear c90b0; try clear c90b1; try clear c91; try clear c91b0; try clear c91b1; try clear c92; try clear c92b0; try clear c92b1; try clear c99; try clear c99b0; try clear c99b1; try clear c100; try clear c100b0; try clear c101; try clear c101b0; try clear c101b1; try clear c102; try clear c102b0; try clear c103; try clear c103b0; try clear c103b1; try clear c111; try clear c111b0; try clear c111b1; try clear c112; try clear c112b0; try clear c112b1; try clear c113; try clear c113b0; try clear c113b1; try clear c114; try clear c114b0; try clear c114b1; try clear c115; try clear c115b0; try clear c115b1; try clear c116; try clear c116b0; try clear c116b1; try clear c117; try clear c117b0; try clear c117b1; try clear c128; try clear c128b0; try clear c128b1; try clear hcz104_0; try clear hcz104_1; try clear hcz104_2; try clear hcz104_3; try clear hcz104_4; try clear hcz104_5; try clear hcz106_0; try clear hcz106_1; try clear hcz106_2; try clear hcz106_3; try clear hcz106_4; try clear hcz106_5; try clear hcz108_0; try clear hcz108_1; try clear hcz108_2; try clear hcz108_3; try clear hcz108_4; try clear hcz108_5; try clear hcz110_0; try clear hcz110_1; try clear hcz110_2; try clear hcz110_3; try clear hcz110_4; try clear hcz110_5; try clear hcz118_0; try clear hcz118_1; try clear hcz118_2; try clear hcz118_3; try clear hcz118_4; try clear hcz118_5; try clear hcz120_0; try clear hcz120_1; try clear hcz120_2; try clear hcz120_3; try clear hcz120_4; try clear hcz120_5; try clear hcz122_0; try clear hcz122_1; try clear hcz122_2; try clear hcz122_3; try clear hcz122_4; try clear hcz122_5; try clear hcz124_0; try clear hcz124_1; try clear hcz124_2; try clear hcz124_3; try clear hcz124_4; try clear hcz124_5; try clear hcz127_0; try clear hcz127_1; try clear hcz127_2; try clear hcz127_3; try clear hcz127_4; try clear hcz127_5; try clear hcz129_0; try clear hcz129_1; try clear hcz129_2; try clear hcz129_3; try clear hcz129_4; try clear hcz129_5; try clear hcz130_0; try clear hcz130_1; try clear hcz130_2; try clear hcz130_3; try clear hcz130_4; try clear hcz130_5; try clear hcz65_0; try clear hcz65_1; try clear hcz65_2; try clear hcz65_3; try clear hcz65_4; try clear hcz65_5; try clear hcz67_0; try clear hcz67_1; try clear hcz67_2; try clear hcz67_3; try clear hcz67_4; try clear hcz67_5; try clear hcz69_0; try clear hcz69_1; try clear hcz69_2; try clear hcz69_3; try clear hcz69_4; try clear hcz69_5; try clear hcz71_0; try clear hcz71_1; try clear hcz71_2; try clear hcz71_3; try clear hcz71_4; try clear hcz71_5; try clear hcz80_0; try clear hcz80_1; try clear hcz80_2; try clear hcz80_3; try clear hcz80_4; try clear hcz80_5; try clear hcz82_0; try clear hcz82_1; try clear hcz82_2; try clear hcz82_3; try clear hcz82_4; try clear hcz82_5; try clear hcz84_0; try clear hcz84_1; try clear hcz84_2; try clear hcz84_3; try clear hcz84_4; try clear hcz84_5; try clear hcz86_0; try clear hcz86_1; try clear hcz86_2; try clear hcz86_3; try clear hcz86_4; try clear hcz86_5; try clear hcz93_0; try clear hcz93_1; try clear hcz93_2; try clear hcz93_3; try clear hcz93_4; try clear hcz93_5; try clear hcz95_0; try clear hcz95_1; try clear hcz95_2; try clear hcz95_3; try clear hcz95_4; try clear hcz95_5; try clear hcz97_0; try clear hcz97_1; try clear hcz97_2; try clear hcz97_3; try clear hcz97_4; try clear hcz97_5; try clear hfz104_0; try clear hfz104_1; try clear hfz104_2; try clear hfz104_3; try clear hfz104_4; try clear hfz104_5; try clear hfz106_0; try clear hfz106_1; try clear hfz106_2; try clear hfz106_3; try clear hfz106_4; try clear hfz106_5; try clear hfz108_0; try clear hfz108_1; try clear hfz108_2; try clear hfz108_3; try clear hfz108_4; try clear hfz108_5; try clear hfz110_0; try clear hfz110_1; try clear hfz110_2; try clear hfz110_3; try clear hfz110_4; try clear hfz110_5; try clear hfz118_0; try clear hfz118_1; try clear hfz118_2; try clear hfz118_3; try clear hfz118_4; try clear hfz118_5; try clear hfz120_0; try clear hfz120_1; try clear hfz120_2; try clear hfz120_3; try clear hfz120_4; try clear hfz120_5; try clear hfz122_0; try clear hfz122_1; try clear hfz122_2; try clear hfz122_3; try clear hfz122_4; try clear hfz122_5; try clear hfz124_0; try clear hfz124_1; try clear hfz124_2; try clear hfz124_3; try clear hfz124_4; try clear hfz124_5; try clear hfz127_0; try clear hfz127_1; try clear hfz127_2; try clear hfz127_3; try clear hfz127_4; try clear hfz127_5; try clear hfz129_0; try clear hfz129_1; try clear hfz129_2; try clear hfz129_3; try clear hfz129_4; try clear hfz129_5; try clear hfz130_0; try clear hfz130_1; try clear hfz130_2; try clear hfz130_3; try clear hfz130_4; try clear hfz130_5; try clear hfz65_0; try clear hfz65_1; try clear hfz65_2; try clear hfz65_3; try clear hfz65_4; try clear hfz65_5; try clear hfz67_0; try clear hfz67_1; try clear hfz67_2; try clear hfz67_3; try clear hfz67_4; try clear hfz67_5; try clear hfz69_0; try clear hfz69_1; try clear hfz69_2; try clear hfz69_3; try clear hfz69_4; try clear hfz69_5; try clear hfz71_0; try clear hfz71_1; try clear hfz71_2; try clear hfz71_3; try clear hfz71_4; try clear hfz71_5; try clear hfz80_0; try clear hfz80_1; try clear hfz80_2; try clear hfz80_3; try clear hfz80_4; try clear hfz80_5; try clear hfz82_0; try clear hfz82_1; try clear hfz82_2; try clear hfz82_3; try clear hfz82_4; try clear hfz82_5; try clear hfz84_0; try clear hfz84_1; try clear hfz84_2; try clear hfz84_3; try clear hfz84_4; try clear hfz84_5; try clear hfz86_0; try clear hfz86_1; try clear hfz86_2; try clear hfz86_3; try clear hfz86_4; try clear hfz86_5; try clear hfz93_0; try clear hfz93_1; try clear hfz93_2; try clear hfz93_3; try clear hfz93_4; try clear hfz93_5; try clear hfz95_0; try clear hfz95_1; try clear hfz95_2; try clear hfz95_3; try clear hfz95_4; try clear hfz95_5; try clear hfz97_0; try clear hfz97_1; try clear hfz97_2; try clear hfz97_3; try clear hfz97_4; try clear hfz97_5; try clear hx157_0; try clear hx158_0; try clear hx160_0; try clear hx161_0; try clear hx162_0; try clear hx163_0; try clear hx164_0; try clear hx165_0; try clear hx166_0; try clear hx167_0; try clear p157; try clear p158; try clear p160; try clear p161; try clear p162; try clear p163; try clear p164; try clear p165; try clear p166; try clear p167; try clear q157; try clear q158; try clear q160; try clear q161; try clear q162; try clear q163; try clear q164; try clear q165; try clear q166; try clear q167
                   obtain ⟨kq, x258_125, rfl, HA, HJ125, HO_8, BK138, HB⟩ := hcut
                   cases kq with
                   | zero => exact absurd HA.out (by simp [spec_l02Node.j2])
                   | succ kj125 =>
                    have H := HA.out
                    clear HA
                    simp only [spec_l02Node.j2] at H
                    by_cases c131 : x258_125 = true
                    ·subst c131
                     have H1 : ((spec_l01In.f ((rd_T36 l0 a1).f2) 0 7).bind fun t168 => (if t168 = true then ((spec_l01In.f ((rd_T36 l0 a1).f4) 1 8).bind fun t169 => (if t169 = true then (if 0 < (x8_2.length : Int) then (if (rd x8_2 0) = 1 then (if ((rd_T36 l0 a1).f1) = 1 then (some (((rd_T36 l0 a1).f5) == 0)) else (some false)) else (some false)) else (none)) else (some false))) else (some false))) = some r := by rw [if_pos rfl] at H; exact H
                     clear H
                     have H := H1
                     clear H1
                     replace H := Option.bind_eq_some_iff.mp H
                     obtain ⟨t168, A1320, H⟩ := H
                     replace H : (if t168 = true then ((spec_l01In.f ((rd_T36 l0 a1).f4) 1 8).bind fun t169 => (if t169 = true then (if 0 < (x8_2.length : Int) then (if (rd x8_2 0) = 1 then (if ((rd_T36 l0 a1).f1) = 1 then (some (((rd_T36 l0 a1).f5) == 0)) else (some false)) else (some false)) else (none)) else (some false))) else (some false)) = some r := H
                     have A132 := Aside0.mk A1320
                     clear A1320
                     by_cases c133 : t168 = true
                     ·subst c133
                      have H1 : ((spec_l01In.f ((rd_T36 l0 a1).f4) 1 8).bind fun t169 => (if t169 = true then (if 0 < (x8_2.length : Int) then (if (rd x8_2 0) = 1 then (if ((rd_T36 l0 a1).f1) = 1 then (some (((rd_T36 l0 a1).f5) == 0)) else (some false)) else (some false)) else (none)) else (some false))) = some r := by rw [if_pos rfl] at H; exact H
                      clear H
                      have H := H1
                      clear H1
                      replace H := Option.bind_eq_some_iff.mp H
                      obtain ⟨t169, A1340, H⟩ := H
                      replace H : (if t169 = true then (if 0 < (x8_2.length : Int) then (if (rd x8_2 0) = 1 then (if ((rd_T36 l0 a1).f1) = 1 then (some (((rd_T36 l0 a1).f5) == 0)) else (some false)) else (some false)) else (none)) else (some false)) = some r := H
                      have A134 := Aside0.mk A1340
                      clear A1340
                      by_cases c135 : t169 = true
                      ·subst c135
                       have H1 : (if 0 < (x8_2.length : Int) then (if (rd x8_2 0) = 1 then (if ((rd_T36 l0 a1).f1) = 1 then (some (((rd_T36 l0 a1).f5) == 0)) else (some false)) else (some false)) else (none)) = some r := by rw [if_pos rfl] at H; exact H
                       clear H
                       have H := H1
                       clear H1
                       by_cases c136 : 0 < (x8_2.length : Int)
                       ·rw [if_pos c136] at H
                        have c136b0 : decide (0 < (x8_2.length : Int)) = true := decide_eq_true c136
                        have c136b1 : decide (0 < x8_2.length) = true := decide_eq_true (by omega)
                        clear c136
                        by_cases c137 : (rd x8_2 0) = 1
                        ·rw [if_pos c137] at H
                         have c137b0 : ((rd x8_2 0) == 1) = true := beq_iff_eq.mpr c137
                         have c137b1 : ((rd x8_2 0) != 1) = false := bne_eq_false_iff_eq.mpr c137
                         clear c137
                         by_cases c138 : ((rd_T36 l0 a1).f1) = 1
                         ·rw [if_pos c138] at H
                          have c138b0 : (((rd_T36 l0 a1).f1) == 1) = true := beq_iff_eq.mpr c138
                          have c138b1 : (((rd_T36 l0 a1).f1) != 1) = false := bne_eq_false_iff_eq.mpr c138
                          clear c138
                          obtain rfl := Option.some.inj H
                          have hcz139_0 : wc.cell? ⟨gb138, 0, none⟩ = some (.int .i64 ((rd_T36 l0 a1).f0)) := (blk_cell BK138.out 0).trans rfl
                          have hcz139_1 : wc.cell? ⟨gb138, 1, none⟩ = some (.int .i64 ((rd_T36 l0 a1).f1)) := (blk_cell BK138.out 1).trans rfl
                          have hcz139_2 : wc.cell? ⟨gb138, 2, none⟩ = some (.int .i64 ((rd_T36 l0 a1).f2)) := (blk_cell BK138.out 2).trans rfl
                          have hcz139_3 : wc.cell? ⟨gb138, 3, none⟩ = some (.int .i64 ((rd_T36 l0 a1).f3)) := (blk_cell BK138.out 3).trans rfl
                          have hcz139_4 : wc.cell? ⟨gb138, 4, none⟩ = some (.int .i64 ((rd_T36 l0 a1).f4)) := (blk_cell BK138.out 4).trans rfl
                          have hcz139_5 : wc.cell? ⟨gb138, 5, none⟩ = some (.int .i64 ((rd_T36 l0 a1).f5)) := (blk_cell BK138.out 5).trans rfl
                          have hfz139_0 := blk_frozen BK138.out 0
                          have hfz139_1 := blk_frozen BK138.out 1
                          have hfz139_2 := blk_frozen BK138.out 2
                          have hfz139_3 := blk_frozen BK138.out 3
                          have hfz139_4 := blk_frozen BK138.out 4
                          have hfz139_5 := blk_frozen BK138.out 5
                          go_wp2_with (first | (go_at_call 46; (with_reducible refine (spec_l01In.calls ((rd_T36 l0 a1).f2) 0 7 true _ A132.out).mono ?_); rintro e w' ⟨rfl, ⟨nd, rfl⟩⟩; (try first | exact ⟨rfl, _, World.drewN_drewN _ _ _⟩ | exact ⟨rfl, _, Eq.trans (World.drewN_drewN _ _ _) (congrArg (World.drewN _) (Nat.add_assoc _ _ _))⟩)) | (go_at_call 46; (with_reducible refine (spec_l01In.calls ((rd_T36 l0 a1).f4) 1 8 true _ A134.out).mono ?_); rintro e w' ⟨rfl, ⟨nd, rfl⟩⟩; (try first | exact ⟨rfl, _, World.drewN_drewN _ _ _⟩ | exact ⟨rfl, _, Eq.trans (World.drewN_drewN _ _ _) (congrArg (World.drewN _) (Nat.add_assoc _ _ _))⟩); obtain ⟨Ao140, co140, eo140⟩ := Kd.R_slice HO_8.out; subst eo140; have p170 : 0 ≤ (0 : Int) := (by omega); have q170 : 0 < (x8_2.length : Int) := of_decide_eq_true (by first | (with_reducible assumption) | assumption); obtain ⟨ad170, e170, hx170_0⟩ := Kd.at_int (Kd.R_reads' HO_8.out).2.2 0 p170 q170; cases e170; have qi170 : (0 < x8_2.length) = True := eq_true (by omega); (try rw [show ((0 : Int)).toNat = 0 from rfl] at hx170_0); (try rw [Addr.add_zero'] at hx170_0); replace p170 := eq_true p170; replace q170 := eq_true q170))
                          repeat (go_quiet (first | (go_at_call 46; (with_reducible refine (spec_l01In.calls ((rd_T36 l0 a1).f2) 0 7 true _ A132.out).mono ?_); rintro e w' ⟨rfl, ⟨nd, rfl⟩⟩; (try first | exact ⟨rfl, _, World.drewN_drewN _ _ _⟩ | exact ⟨rfl, _, Eq.trans (World.drewN_drewN _ _ _) (congrArg (World.drewN _) (Nat.add_assoc _ _ _))⟩)) | (go_at_call 46; (with_reducible refine (spec_l01In.calls ((rd_T36 l0 a1).f4) 1 8 true _ A134.out).mono ?_); rintro e w' ⟨rfl, ⟨nd, rfl⟩⟩; (try first | exact ⟨rfl, _, World.drewN_drewN _ _ _⟩ | exact ⟨rfl, _, Eq.trans (World.drewN_drewN _ _ _) (congrArg (World.drewN _) (Nat.add_assoc _ _ _))⟩); obtain ⟨Ao140, co140, eo140⟩ := Kd.R_slice HO_8.out; subst eo140; have p170 : 0 ≤ (0 : Int) := (by omega); have q170 : 0 < (x8_2.length : Int) := of_decide_eq_true (by first | (with_reducible assumption) | assumption); obtain ⟨ad170, e170, hx170_0⟩ := Kd.at_int (Kd.R_reads' HO_8.out).2.2 0 p170 q170; cases e170; have qi170 : (0 < x8_2.length) = True := eq_true (by omega); (try rw [show ((0 : Int)).toNat = 0 from rfl] at hx170_0); (try rw [Addr.add_zero'] at hx170_0); replace p170 := eq_true p170; replace q170 := eq_true q170)); try go_wp2_with (first | (go_at_call 46; (with_reducible refine (spec_l01In.calls ((rd_T36 l0 a1).f2) 0 7 true _ A132.out).mono ?_); rintro e w' ⟨rfl, ⟨nd, rfl⟩⟩; (try first | exact ⟨rfl, _, World.drewN_drewN _ _ _⟩ | exact ⟨rfl, _, Eq.trans (World.drewN_drewN _ _ _) (congrArg (World.drewN _) (Nat.add_assoc _ _ _))⟩)) | (go_at_call 46; (with_reducible refine (spec_l01In.calls ((rd_T36 l0 a1).f4) 1 8 true _ A134.out).mono ?_); rintro e w' ⟨rfl, ⟨nd, rfl⟩⟩; (try first | exact ⟨rfl, _, World.drewN_drewN _ _ _⟩ | exact ⟨rfl, _, Eq.trans (World.drewN_drewN _ _ _) (congrArg (World.drewN _) (Nat.add_assoc _ _ _))⟩); obtain ⟨Ao140, co140, eo140⟩ := Kd.R_slice HO_8.out; subst eo140; have p170 : 0 ≤ (0 : Int) := (by omega); have q170 : 0 < (x8_2.length : Int) := of_decide_eq_true (by first | (with_reducible assumption) | assumption); obtain ⟨ad170, e170, hx170_0⟩ := Kd.at_int (Kd.R_reads' HO_8.out).2.2 0 p170 q170; cases e170; have qi170 : (0 < x8_2.length) = True := eq_true (by omega); (try rw [show ((0 : Int)).toNat = 0 from rfl] at hx170_0); (try rw [Addr.add_zero'] at hx170_0); replace p170 := eq_true p170; replace q170 := eq_true q170)))
                          go_ret
                          exact ⟨by first | rfl | (simp [errW_none, errW_some] <;> rfl) | (simp [*, errW_none, errW_some] <;> rfl), by repeat (first | (with_reducible first | exact HB.out | apply below_alloc | apply pw_below_drewN | apply below_drew1 | refine below_set ?_ GE138.out) | exact HB.out)⟩
                         ·rw [if_neg c138] at H
                          have c138b0 : (((rd_T36 l0 a1).f1) == 1) = false := beq_eq_false_iff_ne.mpr c138
                          have c138b1 : (((rd_T36 l0 a1).f1) != 1) = true := bne_iff_ne.mpr c138
                          obtain rfl := Option.some.inj H
                          have hcz141_0 : wc.cell? ⟨gb138, 0, none⟩ = some (.int .i64 ((rd_T36 l0 a1).f0)) := (blk_cell BK138.out 0).trans rfl
                          have hcz141_1 : wc.cell? ⟨gb138, 1, none⟩ = some (.int .i64 ((rd_T36 l0 a1).f1)) := (blk_cell BK138.out 1).trans rfl
                          have hcz141_2 : wc.cell? ⟨gb138, 2, none⟩ = some (.int .i64 ((rd_T36 l0 a1).f2)) := (blk_cell BK138.out 2).trans rfl
                          have hcz141_3 : wc.cell? ⟨gb138, 3, none⟩ = some (.int .i64 ((rd_T36 l0 a1).f3)) := (blk_cell BK138.out 3).trans rfl
                          have hcz141_4 : wc.cell? ⟨gb138, 4, none⟩ = some (.int .i64 ((rd_T36 l0 a1).f4)) := (blk_cell BK138.out 4).trans rfl
                          have hcz141_5 : wc.cell? ⟨gb138, 5, none⟩ = some (.int .i64 ((rd_T36 l0 a1).f5)) := (blk_cell BK138.out 5).trans rfl
                          have hfz141_0 := blk_frozen BK138.out 0
                          have hfz141_1 := blk_frozen BK138.out 1
                          have hfz141_2 := blk_frozen BK138.out 2
                          have hfz141_3 := blk_frozen BK138.out 3
                          have hfz141_4 := blk_frozen BK138.out 4
                          have hfz141_5 := blk_frozen BK138.out 5
                          go_wp2_with (first | (go_at_call 46; (with_reducible refine (spec_l01In.calls ((rd_T36 l0 a1).f2) 0 7 true _ A132.out).mono ?_); rintro e w' ⟨rfl, ⟨nd, rfl⟩⟩; (try first | exact ⟨rfl, _, World.drewN_drewN _ _ _⟩ | exact ⟨rfl, _, Eq.trans (World.drewN_drewN _ _ _) (congrArg (World.drewN _) (Nat.add_assoc _ _ _))⟩)) | (go_at_call 46; (with_reducible refine (spec_l01In.calls ((rd_T36 l0 a1).f4) 1 8 true _ A134.out).mono ?_); rintro e w' ⟨rfl, ⟨nd, rfl⟩⟩; (try first | exact ⟨rfl, _, World.drewN_drewN _ _ _⟩ | exact ⟨rfl, _, Eq.trans (World.drewN_drewN _ _ _) (congrArg (World.drewN _) (Nat.add_assoc _ _ _))⟩); obtain ⟨Ao142, co142, eo142⟩ := Kd.R_slice HO_8.out; subst eo142; have p170 : 0 ≤ (0 : Int) := (by omega); have q170 : 0 < (x8_2.length : Int) := of_decide_eq_true (by first | (with_reducible assumption) | assumption); obtain ⟨ad170, e170, hx170_0⟩ := Kd.at_int (Kd.R_reads' HO_8.out).2.2 0 p170 q170; cases e170; have qi170 : (0 < x8_2.length) = True := eq_true (by omega); (try rw [show ((0 : Int)).toNat = 0 from rfl] at hx170_0); (try rw [Addr.add_zero'] at hx170_0); replace p170 := eq_true p170; replace q170 := eq_true q170))
                          repeat (go_quiet (first | (go_at_call 46; (with_reducible refine (spec_l01In.calls ((rd_T36 l0 a1).f2) 0 7 true _ A132.out).mono ?_); rintro e w' ⟨rfl, ⟨nd, rfl⟩⟩; (try first | exact ⟨rfl, _, World.drewN_drewN _ _ _⟩ | exact ⟨rfl, _, Eq.trans (World.drewN_drewN _ _ _) (congrArg (World.drewN _) (Nat.add_assoc _ _ _))⟩)) | (go_at_call 46; (with_reducible refine (spec_l01In.calls ((rd_T36 l0 a1).f4) 1 8 true _ A134.out).mono ?_); rintro e w' ⟨rfl, ⟨nd, rfl⟩⟩; (try first | exact ⟨rfl, _, World.drewN_drewN _ _ _⟩ | exact ⟨rfl, _, Eq.trans (World.drewN_drewN _ _ _) (congrArg (World.drewN _) (Nat.add_assoc _ _ _))⟩); obtain ⟨Ao142, co142, eo142⟩ := Kd.R_slice HO_8.out; subst eo142; have p170 : 0 ≤ (0 : Int) := (by omega); have q170 : 0 < (x8_2.length : Int) := of_decide_eq_true (by first | (with_reducible assumption) | assumption); obtain ⟨ad170, e170, hx170_0⟩ := Kd.at_int (Kd.R_reads' HO_8.out).2.2 0 p170 q170; cases e170; have qi170 : (0 < x8_2.length) = True := eq_true (by omega); (try rw [show ((0 : Int)).toNat = 0 from rfl] at hx170_0); (try rw [Addr.add_zero'] at hx170_0); replace p170 := eq_true p170; replace q170 := eq_true q170)); try go_wp2_with (first | (go_at_call 46; (with_reducible refine (spec_l01In.calls ((rd_T36 l0 a1).f2) 0 7 true _ A132.out).mono ?_); rintro e w' ⟨rfl, ⟨nd, rfl⟩⟩; (try first | exact ⟨rfl, _, World.drewN_drewN _ _ _⟩ | exact ⟨rfl, _, Eq.trans (World.drewN_drewN _ _ _) (congrArg (World.drewN _) (Nat.add_assoc _ _ _))⟩)) | (go_at_call 46; (with_reducible refine (spec_l01In.calls ((rd_T36 l0 a1).f4) 1 8 true _ A134.out).mono ?_); rintro e w' ⟨rfl, ⟨nd, rfl⟩⟩; (try first | exact ⟨rfl, _, World.drewN_drewN _ _ _⟩ | exact ⟨rfl, _, Eq.trans (World.drewN_drewN _ _ _) (congrArg (World.drewN _) (Nat.add_assoc _ _ _))⟩); obtain ⟨Ao142, co142, eo142⟩ := Kd.R_slice HO_8.out; subst eo142; have p170 : 0 ≤ (0 : Int) := (by omega); have q170 : 0 < (x8_2.length : Int) := of_decide_eq_true (by first | (with_reducible assumption) | assumption); obtain ⟨ad170, e170, hx170_0⟩ := Kd.at_int (Kd.R_reads' HO_8.out).2.2 0 p170 q170; cases e170; have qi170 : (0 < x8_2.length) = True := eq_true (by omega); (try rw [show ((0 : Int)).toNat = 0 from rfl] at hx170_0); (try rw [Addr.add_zero'] at hx170_0); replace p170 := eq_true p170; replace q170 := eq_true q170)))
                          go_ret
                          exact ⟨by first | rfl | (simp [errW_none, errW_some] <;> rfl) | (simp [*, errW_none, errW_some] <;> rfl), by repeat (first | (with_reducible first | exact HB.out | apply below_alloc | apply pw_below_drewN | apply below_drew1 | refine below_set ?_ GE138.out) | exact HB.out)⟩
                        ·rw [if_neg c137] at H
                         have c137b0 : ((rd x8_2 0) == 1) = false := beq_eq_false_iff_ne.mpr c137
                         have c137b1 : ((rd x8_2 0) != 1) = true := bne_iff_ne.mpr c137
                         obtain rfl := Option.some.inj H
                         have hcz143_0 : wc.cell? ⟨gb138, 0, none⟩ = some (.int .i64 ((rd_T36 l0 a1).f0)) := (blk_cell BK138.out 0).trans rfl
                         have hcz143_1 : wc.cell? ⟨gb138, 1, none⟩ = some (.int .i64 ((rd_T36 l0 a1).f1)) := (blk_cell BK138.out 1).trans rfl
                         have hcz143_2 : wc.cell? ⟨gb138, 2, none⟩ = some (.int .i64 ((rd_T36 l0 a1).f2)) := (blk_cell BK138.out 2).trans rfl
                         have hcz143_3 : wc.cell? ⟨gb138, 3, none⟩ = some (.int .i64 ((rd_T36 l0 a1).f3)) := (blk_cell BK138.out 3).trans rfl
                         have hcz143_4 : wc.cell? ⟨gb138, 4, none⟩ = some (.int .i64 ((rd_T36 l0 a1).f4)) := (blk_cell BK138.out 4).trans rfl
                         have hcz143_5 : wc.cell? ⟨gb138, 5, none⟩ = some (.int .i64 ((rd_T36 l0 a1).f5)) := (blk_cell BK138.out 5).trans rfl
                         have hfz143_0 := blk_frozen BK138.out 0
                         have hfz143_1 := blk_frozen BK138.out 1
                         have hfz143_2 := blk_frozen BK138.out 2
                         have hfz143_3 := blk_frozen BK138.out 3
                         have hfz143_4 := blk_frozen BK138.out 4
                         have hfz143_5 := blk_frozen BK138.out 5
                         go_wp2_with (first | (go_at_call 46; (with_reducible refine (spec_l01In.calls ((rd_T36 l0 a1).f2) 0 7 true _ A132.out).mono ?_); rintro e w' ⟨rfl, ⟨nd, rfl⟩⟩; (try first | exact ⟨rfl, _, World.drewN_drewN _ _ _⟩ | exact ⟨rfl, _, Eq.trans (World.drewN_drewN _ _ _) (congrArg (World.drewN _) (Nat.add_assoc _ _ _))⟩)) | (go_at_call 46; (with_reducible refine (spec_l01In.calls ((rd_T36 l0 a1).f4) 1 8 true _ A134.out).mono ?_); rintro e w' ⟨rfl, ⟨nd, rfl⟩⟩; (try first | exact ⟨rfl, _, World.drewN_drewN _ _ _⟩ | exact ⟨rfl, _, Eq.trans (World.drewN_drewN _ _ _) (congrArg (World.drewN _) (Nat.add_assoc _ _ _))⟩); obtain ⟨Ao144, co144, eo144⟩ := Kd.R_slice HO_8.out; subst eo144; have p170 : 0 ≤ (0 : Int) := (by omega); have q170 : 0 < (x8_2.length : Int) := of_decide_eq_true (by first | (with_reducible assumption) | assumption); obtain ⟨ad170, e170, hx170_0⟩ := Kd.at_int (Kd.R_reads' HO_8.out).2.2 0 p170 q170; cases e170; have qi170 : (0 < x8_2.length) = True := eq_true (by omega); (try rw [show ((0 : Int)).toNat = 0 from rfl] at hx170_0); (try rw [Addr.add_zero'] at hx170_0); replace p170 := eq_true p170; replace q170 := eq_true q170))
                         repeat (go_quiet (first | (go_at_call 46; (with_reducible refine (spec_l01In.calls ((rd_T36 l0 a1).f2) 0 7 true _ A132.out).mono ?_); rintro e w' ⟨rfl, ⟨nd, rfl⟩⟩; (try first | exact ⟨rfl, _, World.drewN_drewN _ _ _⟩ | exact ⟨rfl, _, Eq.trans (World.drewN_drewN _ _ _) (congrArg (World.drewN _) (Nat.add_assoc _ _ _))⟩)) | (go_at_call 46; (with_reducible refine (spec_l01In.calls ((rd_T36 l0 a1).f4) 1 8 true _ A134.out).mono ?_); rintro e w' ⟨rfl, ⟨nd, rfl⟩⟩; (try first | exact ⟨rfl, _, World.drewN_drewN _ _ _⟩ | exact ⟨rfl, _, Eq.trans (World.drewN_drewN _ _ _) (congrArg (World.drewN _) (Nat.add_assoc _ _ _))⟩); obtain ⟨Ao144, co144, eo144⟩ := Kd.R_slice HO_8.out; subst eo144; have p170 : 0 ≤ (0 : Int) := (by omega); have q170 : 0 < (x8_2.length : Int) := of_decide_eq_true (by first | (with_reducible assumption) | assumption); obtain ⟨ad170, e170, hx170_0⟩ := Kd.at_int (Kd.R_reads' HO_8.out).2.2 0 p170 q170; cases e170; have qi170 : (0 < x8_2.length) = True := eq_true (by omega); (try rw [show ((0 : Int)).toNat = 0 from rfl] at hx170_0); (try rw [Addr.add_zero'] at hx170_0); replace p170 := eq_true p170; replace q170 := eq_true q170)); try go_wp2_with (first | (go_at_call 46; (with_reducible refine (spec_l01In.calls ((rd_T36 l0 a1).f2) 0 7 true _ A132.out).mono ?_); rintro e w' ⟨rfl, ⟨nd, rfl⟩⟩; (try first | exact ⟨rfl, _, World.drewN_drewN _ _ _⟩ | exact ⟨rfl, _, Eq.trans (World.drewN_drewN _ _ _) (congrArg (World.drewN _) (Nat.add_assoc _ _ _))⟩)) | (go_at_call 46; (with_reducible refine (spec_l01In.calls ((rd_T36 l0 a1).f4) 1 8 true _ A134.out).mono ?_); rintro e w' ⟨rfl, ⟨nd, rfl⟩⟩; (try first | exact ⟨rfl, _, World.drewN_drewN _ _ _⟩ | exact ⟨rfl, _, Eq.trans (World.drewN_drewN _ _ _) (congrArg (World.drewN _) (Nat.add_assoc _ _ _))⟩); obtain ⟨Ao144, co144, eo144⟩ := Kd.R_slice HO_8.out; subst eo144; have p170 : 0 ≤ (0 : Int) := (by omega); have q170 : 0 < (x8_2.length : Int) := of_decide_eq_true (by first | (with_reducible assumption) | assumption); obtain ⟨ad170, e170, hx170_0⟩ := Kd.at_int (Kd.R_reads' HO_8.out).2.2 0 p170 q170; cases e170; have qi170 : (0 < x8_2.length) = True := eq_true (by omega); (try rw [show ((0 : Int)).toNat = 0 from rfl] at hx170_0); (try rw [Addr.add_zero'] at hx170_0); replace p170 := eq_true p170; replace q170 := eq_true q170)))
                         go_ret
                         exact ⟨by first | rfl | (simp [errW_none, errW_some] <;> rfl) | (simp [*, errW_none, errW_some] <;> rfl), by repeat (first | (with_reducible first | exact HB.out | apply below_alloc | apply pw_below_drewN | apply below_drew1 | refine below_set ?_ GE138.out) | exact HB.out)⟩
                       ·rw [if_neg c136] at H
                        exact absurd H (by simp)
                      ·replace c135 := Bool.eq_false_iff.mpr c135
                       subst c135
                       have H1 : (some false) = some r := by rw [if_neg (show ¬ (false = true) by decide)] at H; exact H
                       clear H
                       have H := H1
                       clear H1
                       obtain rfl := Option.some.inj H
                       have hcz145_0 : wc.cell? ⟨gb138, 0, none⟩ = some (.int .i64 ((rd_T36 l0 a1).f0)) := (blk_cell BK138.out 0).trans rfl
                       have hcz145_1 : wc.cell? ⟨gb138, 1, none⟩ = some (.int .i64 ((rd_T36 l0 a1).f1)) := (blk_cell BK138.out 1).trans rfl
                       have hcz145_2 : wc.cell? ⟨gb138, 2, none⟩ = some (.int .i64 ((rd_T36 l0 a1).f2)) := (blk_cell BK138.out 2).trans rfl
                       have hcz145_3 : wc.cell? ⟨gb138, 3, none⟩ = some (.int .i64 ((rd_T36 l0 a1).f3)) := (blk_cell BK138.out 3).trans rfl
                       have hcz145_4 : wc.cell? ⟨gb138, 4, none⟩ = some (.int .i64 ((rd_T36 l0 a1).f4)) := (blk_cell BK138.out 4).trans rfl
                       have hcz145_5 : wc.cell? ⟨gb138, 5, none⟩ = some (.int .i64 ((rd_T36 l0 a1).f5)) := (blk_cell BK138.out 5).trans rfl
                       have hfz145_0 := blk_frozen BK138.out 0
                       have hfz145_1 := blk_frozen BK138.out 1
                       have hfz145_2 := blk_frozen BK138.out 2
                       have hfz145_3 := blk_frozen BK138.out 3
                       have hfz145_4 := blk_frozen BK138.out 4
                       have hfz145_5 := blk_frozen BK138.out 5
                       go_wp2_with (first | (go_at_call 46; (with_reducible refine (spec_l01In.calls ((rd_T36 l0 a1).f2) 0 7 true _ A132.out).mono ?_); rintro e w' ⟨rfl, ⟨nd, rfl⟩⟩; (try first | exact ⟨rfl, _, World.drewN_drewN _ _ _⟩ | exact ⟨rfl, _, Eq.trans (World.drewN_drewN _ _ _) (congrArg (World.drewN _) (Nat.add_assoc _ _ _))⟩)) | (go_at_call 46; (with_reducible refine (spec_l01In.calls ((rd_T36 l0 a1).f4) 1 8 false _ A134.out).mono ?_); rintro e w' ⟨rfl, ⟨nd, rfl⟩⟩; (try first | exact ⟨rfl, _, World.drewN_drewN _ _ _⟩ | exact ⟨rfl, _, Eq.trans (World.drewN_drewN _ _ _) (congrArg (World.drewN _) (Nat.add_assoc _ _ _))⟩)))
                       repeat (go_quiet (first | (go_at_call 46; (with_reducible refine (spec_l01In.calls ((rd_T36 l0 a1).f2) 0 7 true _ A132.out).mono ?_); rintro e w' ⟨rfl, ⟨nd, rfl⟩⟩; (try first | exact ⟨rfl, _, World.drewN_drewN _ _ _⟩ | exact ⟨rfl, _, Eq.trans (World.drewN_drewN _ _ _) (congrArg (World.drewN _) (Nat.add_assoc _ _ _))⟩)) | (go_at_call 46; (with_reducible refine (spec_l01In.calls ((rd_T36 l0 a1).f4) 1 8 false _ A134.out).mono ?_); rintro e w' ⟨rfl, ⟨nd, rfl⟩⟩; (try first | exact ⟨rfl, _, World.drewN_drewN _ _ _⟩ | exact ⟨rfl, _, Eq.trans (World.drewN_drewN _ _ _) (congrArg (World.drewN _) (Nat.add_assoc _ _ _))⟩))); try go_wp2_with (first | (go_at_call 46; (with_reducible refine (spec_l01In.calls ((rd_T36 l0 a1).f2) 0 7 true _ A132.out).mono ?_); rintro e w' ⟨rfl, ⟨nd, rfl⟩⟩; (try first | exact ⟨rfl, _, World.drewN_drewN _ _ _⟩ | exact ⟨rfl, _, Eq.trans (World.drewN_drewN _ _ _) (congrArg (World.drewN _) (Nat.add_assoc _ _ _))⟩)) | (go_at_call 46; (with_reducible refine (spec_l01In.calls ((rd_T36 l0 a1).f4) 1 8 false _ A134.out).mono ?_); rintro e w' ⟨rfl, ⟨nd, rfl⟩⟩; (try first | exact ⟨rfl, _, World.drewN_drewN _ _ _⟩ | exact ⟨rfl, _, Eq.trans (World.drewN_drewN _ _ _) (congrArg (World.drewN _) (Nat.add_assoc _ _ _))⟩))))
                       go_ret
                       exact ⟨by first | rfl | (simp [errW_none, errW_some] <;> rfl) | (simp [*, errW_none, errW_some] <;> rfl), by repeat (first | (with_reducible first | exact HB.out | apply below_alloc | apply pw_below_drewN | apply below_drew1 | refine below_set ?_ GE138.out) | exact HB.out)⟩
                     ·replace c133 := Bool.eq_false_iff.mpr c133
                      subst c133
                      have H1 : (some false) = some r := by rw [if_neg (show ¬ (false = true) by decide)] at H; exact H
                      clear H
                      have H := H1
                      clear H1
                      obtain rfl := Option.some.inj H
                      have hcz146_0 : wc.cell? ⟨gb138, 0, none⟩ = some (.int .i64 ((rd_T36 l0 a1).f0)) := (blk_cell BK138.out 0).trans rfl
                      have hcz146_1 : wc.cell? ⟨gb138, 1, none⟩ = some (.int .i64 ((rd_T36 l0 a1).f1)) := (blk_cell BK138.out 1).trans rfl
                      have hcz146_2 : wc.cell? ⟨gb138, 2, none⟩ = some (.int .i64 ((rd_T36 l0 a1).f2)) := (blk_cell BK138.out 2).trans rfl
                      have hcz146_3 : wc.cell? ⟨gb138, 3, none⟩ = some (.int .i64 ((rd_T36 l0 a1).f3)) := (blk_cell BK138.out 3).trans rfl
                      have hcz146_4 : wc.cell? ⟨gb138, 4, none⟩ = some (.int .i64 ((rd_T36 l0 a1).f4)) := (blk_cell BK138.out 4).trans rfl
                      have hcz146_5 : wc.cell? ⟨gb138, 5, none⟩ = some (.int .i64 ((rd_T36 l0 a1).f5)) := (blk_cell BK138.out 5).trans rfl
                      have hfz146_0 := blk_frozen BK138.out 0
                      have hfz146_1 := blk_frozen BK138.out 1
                      have hfz146_2 := blk_frozen BK138.out 2
                      have hfz146_3 := blk_frozen BK138.out 3
                      have hfz146_4 := blk_frozen BK138.out 4
                      have hfz146_5 := blk_frozen BK138.out 5
                      go_wp2_with (first | (go_at_call 46; (with_reducible refine (spec_l01In.calls ((rd_T36 l0 a1).f2) 0 7 false _ A132.out).mono ?_); rintro e w' ⟨rfl, ⟨nd, rfl⟩⟩; (try first | exact ⟨rfl, _, World.drewN_drewN _ _ _⟩ | exact ⟨rfl, _, Eq.trans (World.drewN_drewN _ _ _) (congrArg (World.drewN _) (Nat.add_assoc _ _ _))⟩)))
                      repeat (go_quiet (first | (go_at_call 46; (with_reducible refine (spec_l01In.calls ((rd_T36 l0 a1).f2) 0 7 false _ A132.out).mono ?_); rintro e w' ⟨rfl, ⟨nd, rfl⟩⟩; (try first | exact ⟨rfl, _, World.drewN_drewN _ _ _⟩ | exact ⟨rfl, _, Eq.trans (World.drewN_drewN _ _ _) (congrArg (World.drewN _) (Nat.add_assoc _ _ _))⟩))); try go_wp2_with (first | (go_at_call 46; (with_reducible refine (spec_l01In.calls ((rd_T36 l0 a1).f2) 0 7 false _ A132.out).mono ?_); rintro e w' ⟨rfl, ⟨nd, rfl⟩⟩; (try first | exact ⟨rfl, _, World.drewN_drewN _ _ _⟩ | exact ⟨rfl, _, Eq.trans (World.drewN_drewN _ _ _) (congrArg (World.drewN _) (Nat.add_assoc _ _ _))⟩))))
                      go_ret
                      exact ⟨by first | rfl | (simp [errW_none, errW_some] <;> rfl) | (simp [*, errW_none, errW_some] <;> rfl), by repeat (first | (with_reducible first | exact HB.out | apply below_alloc | apply pw_below_drewN | apply below_drew1 | refine below_set ?_ GE138.out) | exact HB.out)⟩
                    ·replace c131 := Bool.eq_false_iff.mpr c131
                     subst c131
                     have H1 : (some false) = some r := by rw [if_neg (show ¬ (false = true) by decide)] at H; exact H
                     clear H
                     have H := H1
                     clear H1
                     obtain rfl := Option.some.inj H
                     go_wp2
                     repeat (go_quiet (fail); try go_wp2)
                     go_ret
                     exact ⟨by first | rfl | (simp [errW_none, errW_some] <;> rfl) | (simp [*, errW_none, errW_some] <;> rfl), by repeat (first | (with_reducible first | exact HB.out | apply below_alloc | apply pw_below_drewN | apply below_drew1 | refine below_set ?_ GE138.out) | exact HB.out)⟩
      ·replace c16 := Bool.eq_false_iff.mpr c16
       subst c16
       have H1 : (some false) = some r := by rw [if_neg (show ¬ (false = true) by decide)] at H; exact H
       clear H
       have H := H1
       clear H1
       obtain rfl := Option.some.inj H
       obtain ⟨Ao147, co147, eo147⟩ := Kd.R_slice HO_6.out
       subst eo147
       have hcz148_0 : wr.cell? ⟨gb138, 0, none⟩ = some (.int .i64 ((rd_T36 l0 a1).f0)) := (blk_cell BK138.out 0).trans rfl
       have hcz148_1 : wr.cell? ⟨gb138, 1, none⟩ = some (.int .i64 ((rd_T36 l0 a1).f1)) := (blk_cell BK138.out 1).trans rfl
       have hcz148_2 : wr.cell? ⟨gb138, 2, none⟩ = some (.int .i64 ((rd_T36 l0 a1).f2)) := (blk_cell BK138.out 2).trans rfl
       have hcz148_3 : wr.cell? ⟨gb138, 3, none⟩ = some (.int .i64 ((rd_T36 l0 a1).f3)) := (blk_cell BK138.out 3).trans rfl
       have hcz148_4 : wr.cell? ⟨gb138, 4, none⟩ = some (.int .i64 ((rd_T36 l0 a1).f4)) := (blk_cell BK138.out 4).trans rfl
       have hcz148_5 : wr.cell? ⟨gb138, 5, none⟩ = some (.int .i64 ((rd_T36 l0 a1).f5)) := (blk_cell BK138.out 5).trans rfl
       have hfz148_0 := blk_frozen BK138.out 0
       have hfz148_1 := blk_frozen BK138.out 1
       have hfz148_2 := blk_frozen BK138.out 2
       have hfz148_3 := blk_frozen BK138.out 3
       have hfz148_4 := blk_frozen BK138.out 4
       have hfz148_5 := blk_frozen BK138.out 5
       go_wp2_with (first | (go_at_call 46; (with_reducible refine (spec_l01In.calls ((rd_T36 l0 a1).f1) 1 8 false _ A15.out).mono ?_); rintro e w' ⟨rfl, ⟨nd, rfl⟩⟩; (try first | exact ⟨rfl, _, World.drewN_drewN _ _ _⟩ | exact ⟨rfl, _, Eq.trans (World.drewN_drewN _ _ _) (congrArg (World.drewN _) (Nat.add_assoc _ _ _))⟩)))
       repeat (go_quiet (first | (go_at_call 46; (with_reducible refine (spec_l01In.calls ((rd_T36 l0 a1).f1) 1 8 false _ A15.out).mono ?_); rintro e w' ⟨rfl, ⟨nd, rfl⟩⟩; (try first | exact ⟨rfl, _, World.drewN_drewN _ _ _⟩ | exact ⟨rfl, _, Eq.trans (World.drewN_drewN _ _ _) (congrArg (World.drewN _) (Nat.add_assoc _ _ _))⟩))); try go_wp2_with (first | (go_at_call 46; (with_reducible refine (spec_l01In.calls ((rd_T36 l0 a1).f1) 1 8 false _ A15.out).mono ?_); rintro e w' ⟨rfl, ⟨nd, rfl⟩⟩; (try first | exact ⟨rfl, _, World.drewN_drewN _ _ _⟩ | exact ⟨rfl, _, Eq.trans (World.drewN_drewN _ _ _) (congrArg (World.drewN _) (Nat.add_assoc _ _ _))⟩))))
       go_ret
       exact ⟨by first | rfl | (simp [errW_none, errW_some] <;> rfl) | (simp [*, errW_none, errW_some] <;> rfl), by repeat (first | (with_reducible first | exact HB.out | apply below_alloc | apply pw_below_drewN | apply below_drew1 | refine below_set ?_ GE138.out) | exact HB.out)⟩
  ·rw [if_neg c4] at H
   exact absurd H (by simp)
 ·rw [if_neg c3] at H
  exact absurd H (by simp)

end Go.Proofs.Ytdebihfmceclkaa.PFnExactFrontOk
