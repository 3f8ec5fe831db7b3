/- Written by a program of this session over the loaded program, and by hand: Go functions as plain Lean functions, and that a call comes to what they say. -/
import Derived.Test.YtkpipmojkhikaaaVExactValue0
import Derived.Test.YtkpipmojkhikaaaVExactValue2
import Derived.Test.YtkpipmojkhikaaaBase
import Derived.Test.YtkpipmojkhikaaaSq
namespace Go.Proofs.Ytkpipmojkhikaaa.PAll
open Go.RowKit Go.Proofs.YtkpipmojkhikaaaW.PrintWords Go.Proofs.YtkpipmojkhikaaaW.PrintLast Go.Proofs.YtkpipmojkhikaaaW.PrintMore Go.Proofs.YtkpipmojkhikaaaW.Sq
attribute [local go_sem] max2_int min2_int max_two min_two max_three min_three max_four min_four   -- for this text's walks alone
set_option linter.unusedVariables false
set_option linter.unusedSimpArgs false

/-! ### spec_l02Node: function 43 -/
mutual
def spec_l02Node.l0 : Nat → List (S31) → Int → List Int → Int → Int → Int → Int → Int → Int → Int → Option (Bool)
 | 0, _, _, _, _, _, _, _, _, _, _ => none
 | k + 1, x0, x1, x6, x7, x120000, x120001, x120002, x120003, x120004, x120005 => if x7 < (x6.length : Int) then (if 0 ≤ x7 then ((spec_l01In.f (rd x6 x7) 0 (wrap64 (x1 - 1))).bind fun t124 => (if t124 = true then (spec_l02Node.l0 k x0 x1 x6 (wrap64 (x7 + 1)) x120000 x120001 x120002 x120003 x120004 x120005) else (some false))) else (none)) else ((spec_l01In.f x120001 1 8).bind fun t125 => (if t125 = true then (spec_l02Node.l1 k x0 x6 (([] : List Int)) 0 x120000 x120001 x120002 x120003 x120004 x120005) else (some false)))
def spec_l02Node.l1 : Nat → List (S31) → List Int → List Int → Int → Int → Int → Int → Int → Int → Int → Option (Bool)
 | 0, _, _, _, _, _, _, _, _, _, _ => none
 | k + 1, x0, x6, x8, x9, x120000, x120001, x120002, x120003, x120004, x120005 => if x9 < (x6.length : Int) then (if 0 ≤ x9 then (if 0 ≤ (rd x6 x9) then (if (rd x6 x9) < (x0.length : Int) then (if x8.length < 17592186044416 then (spec_l02Node.l1 k x0 x6 (x8 ++ [(rd_T31 x0 (rd x6 x9)).f1]) (wrap64 (x9 + 1)) x120000 x120001 x120002 x120003 x120004 x120005) else (none)) else (none)) else (none)) else (none)) else (if x120000 = 0 then ((spec_WordOk.f k x120001 x120002).bind fun t134 => (if t134 = true then (if x120003 = 0 then (if x120004 = 0 then (some (x120005 == 0)) else (some false)) else (some false)) else (some false))) else (if x120000 = 1 then ((spec_l01In.f x120002 0 7).bind fun t135 => (if t135 = true then (if x120003 = 0 then (if x120004 = 0 then (some (x120005 == 0)) else (some false)) else (some false)) else (some false))) else (if x120000 = 2 then (if 0 < (x8.length : Int) then (if (rd x8 0) = x120001 then (if x120002 = 0 then (if x120004 = 0 then (some (x120005 == 0)) else (some false)) else (some false)) else (some false)) else (none)) else ((spec_l01In.f x120000 3 12).bind fun t137 => (if t137 = true then (if 0 < (x8.length : Int) then (if (rd x8 0) = x120001 then (if 1 < (x8.length : Int) then (if (rd x8 1) = x120001 then (if x120002 = 0 then (some (x120005 == 0)) else (some false)) else (some false)) else (none)) else (some false)) else (none)) else ((spec_l01In.f x120000 13 15).bind fun t140 => (if t140 = true then (if 0 < (x8.length : Int) then (if 1 < (x8.length : Int) then (if (rd x8 0) = (rd x8 1) then (if x120001 = 1 then (if x120002 = 0 then (some (x120005 == 0)) else (some false)) else (some false)) else (some false)) else (none)) else (none)) else (if x120000 = 16 then (if 0 < (x8.length : Int) then (if 1 < (x8.length : Int) then (if (wrap64 ((rd x8 0) + (rd x8 1))) = x120001 then (if x120002 = 0 then (some (x120005 == 0)) else (some false)) else (some false)) else (none)) else (none)) else (if x120000 = 17 then (if x120002 ≥ 0 then (if 0 < (x8.length : Int) then (if x120002 ≤ (wrap64 ((rd x8 0) - x120001)) then (if x120004 = 0 then (some (x120005 == 0)) else (some false)) else (some false)) else (none)) else (some false)) else (if x120000 = 18 then (if 0 < (x8.length : Int) then (if (rd x8 0) = 1 then (if 1 < (x8.length : Int) then (if (rd x8 1) = x120001 then (if 2 < (x8.length : Int) then (if (rd x8 2) = x120001 then (some (x120002 == 0)) else (some false)) else (none)) else (some false)) else (none)) else (some false)) else (none)) else (if x120000 = 19 then (spec_l02Node.j2 k x8 true x120000 x120001 x120002 x120003 x120004 x120005) else (spec_l02Node.j2 k x8 (x120000 == 20) x120000 x120001 x120002 x120003 x120004 x120005))))))))))))
def spec_l02Node.j2 : Nat → List Int → Bool → Int → Int → Int → Int → Int → Int → Option (Bool)
 | 0, _, _, _, _, _, _, _, _ => none
 | k + 1, x8, x258, x120000, x120001, x120002, x120003, x120004, x120005 => if x258 = true then ((spec_l01In.f x120002 0 7).bind fun t149 => (if t149 = true then ((spec_l01In.f x120004 1 8).bind fun t150 => (if t150 = true then (if 0 < (x8.length : Int) then (if (rd x8 0) = 1 then (if x120001 = 1 then (some (x120005 == 0)) else (some false)) else (some false)) else (none)) else (some false))) else (some false))) else (some false)
end
def spec_l02Node.f (k : Nat) (l0 : List (S31)) (a1 : Int) : Option (Bool) := if 0 ≤ a1 then (if a1 < (l0.length : Int) then ((spec_Parts.f k ((rd_T31 l0 a1).f0) ((rd_T31 l0 a1).f1) ((rd_T31 l0 a1).f2) ((rd_T31 l0 a1).f3) ((rd_T31 l0 a1).f4) ((rd_T31 l0 a1).f5)).bind fun t120 => (spec_l02Node.l0 k l0 a1 t120 0 ((rd_T31 l0 a1).f0) ((rd_T31 l0 a1).f1) ((rd_T31 l0 a1).f2) ((rd_T31 l0 a1).f3) ((rd_T31 l0 a1).f4) ((rd_T31 l0 a1).f5))) else (none)) else (none)
set_option maxHeartbeats 8000000 in
set_option maxRecDepth 100000 in
theorem spec_l02Node.calls (k : Nat) (A0 : Option Addr) (c0 : Nat) (l0 : List (S31)) (a1 : Int) (r : Bool) (w : World) (hr0 : Kd.C k31 w A0 l0.length l0) (hc0 : l0.length ≤ c0) (h : spec_l02Node.f k l0 a1 = some r) :
  Calls Try.prog 43 #[.slice A0 l0.length c0, .int .i64 a1] w fun e w' => e = .returned (.bool r) ∧ Below w.heap.size w w' := by
 have hu31 := Try.underlying31
 have HR0 := am hr0
 have HC0 := am hc0
 clear hr0 hc0
 have HB := am (Below.refl w.heap.size w)
 have H : (if 0 ≤ a1 then (if a1 < (l0.length : Int) then ((spec_Parts.f k ((rd_T31 l0 a1).f0) ((rd_T31 l0 a1).f1) ((rd_T31 l0 a1).f2) ((rd_T31 l0 a1).f3) ((rd_T31 l0 a1).f4) ((rd_T31 l0 a1).f5)).bind fun t120 => (spec_l02Node.l0 k l0 a1 t120 0 ((rd_T31 l0 a1).f0) ((rd_T31 l0 a1).f1) ((rd_T31 l0 a1).f2) ((rd_T31 l0 a1).f3) ((rd_T31 l0 a1).f4) ((rd_T31 l0 a1).f5))) else (none)) else (none)) = some r := h
 clear h
 by_cases c3 : 0 ≤ a1
 ·rw [if_pos c3] at H
  have c3b0 : decide (0 ≤ a1) = true := decide_eq_true c3
  clear c3
  by_cases c4 : a1 < (l0.length : Int)
  ·rw [if_pos c4] at H
   have c4b0 : decide (a1 < (l0.length : Int)) = true := decide_eq_true c4
   clear c4
   replace H := oB H
   obtain ⟨t120, A50, H⟩ := H
   have A5 := am A50
   clear A50
   have H' := am H
   clear H
   have p118 : 0 ≤ (a1 : Int) := oD (by assumption)
   have q118 : a1 < (l0.length : Int) := oD (by assumption)
   obtain ⟨ad118, e118, hx118_0, hx118_1, hx118_2, hx118_3, hx118_4, hx118_5⟩ := at_T31 HR0.out a1 p118 q118
   cases e118
   replace p118 := eq_true p118
   replace q118 := eq_true q118
   go_enter Try.func43, Try.ntmps43
   go_wp2_with (first | ((with_reducible refine gate_dst (N := 5) rfl ?_); refine box_event ?hg (N := 5) ?hd (cs := #[.int .i64 0, .int .i64 0, .int .i64 0, .int .i64 0, .int .i64 0, .int .i64 0]) (t := 31) ?hr ?_; (case hd => rfl); (case hg => rfl); (case hr => (go_simp; done)); intro gb119 hg w6 hbox hb; have n0_ := am (below_step (by exact sW HB.out) hb); have n1_ := am (hbox); have n2_ := am ((by rw [hg]; exact (below_size (by exact sW HB.out)) : w.heap.size ≤ gb119)); have n3_ := am ((by rw [hg]; exact (below_size (by exact sW HB.out)) : w.heap.size ≤ gb119)); clear HB; have HB := n0_; have BK119 := n1_; have GW119 := n2_; have GE119 := n3_; clear n0_ n1_ n2_ n3_; clear hb hbox hg; obtain ⟨hcz7_0, hcz7_1, hcz7_2, hcz7_3, hcz7_4, hcz7_5⟩ := cz6 BK119.out; obtain ⟨hfz7_0, hfz7_1, hfz7_2, hfz7_3, hfz7_4, hfz7_5⟩ := fz6 BK119.out) | (go_at_call 70; (with_reducible refine (spec_Parts.calls k ((rd_T31 l0 a1).f0) ((rd_T31 l0 a1).f1) ((rd_T31 l0 a1).f2) ((rd_T31 l0 a1).f3) ((rd_T31 l0 a1).f4) ((rd_T31 l0 a1).f5) t120 _ A5.out).mono ?_); rintro e w8 ⟨v121, rfl, ho0, hb⟩; have n0_ := am (Kd.R_lower ho0 (below_size (by exact bW))); have n1_ := am (blk_below (g := gb119) (o := .cells #[.int .i64 ((rd_T31 l0 a1).f0), .int .i64 ((rd_T31 l0 a1).f1), .int .i64 ((rd_T31 l0 a1).f2), .int .i64 ((rd_T31 l0 a1).f3), .int .i64 ((rd_T31 l0 a1).f4), .int .i64 ((rd_T31 l0 a1).f5)] 31 (0, 0)) (by (with_reducible repeat (first | refine blk_drewN ?_ _ | refine blk_drew ?_ | refine blk_alloc ?_ _)); refine blk_put (cs := #[.int .i64 ((rd_T31 l0 a1).f0), .int .i64 ((rd_T31 l0 a1).f1), .int .i64 ((rd_T31 l0 a1).f2), .int .i64 ((rd_T31 l0 a1).f3), .int .i64 ((rd_T31 l0 a1).f4), .int .i64 0]) ?_ 5 _ rfl; (with_reducible repeat (first | refine blk_drewN ?_ _ | refine blk_drew ?_ | refine blk_alloc ?_ _)); refine blk_put (cs := #[.int .i64 ((rd_T31 l0 a1).f0), .int .i64 ((rd_T31 l0 a1).f1), .int .i64 ((rd_T31 l0 a1).f2), .int .i64 ((rd_T31 l0 a1).f3), .int .i64 0, .int .i64 0]) ?_ 4 _ rfl; (with_reducible repeat (first | refine blk_drewN ?_ _ | refine blk_drew ?_ | refine blk_alloc ?_ _)); refine blk_put (cs := #[.int .i64 ((rd_T31 l0 a1).f0), .int .i64 ((rd_T31 l0 a1).f1), .int .i64 ((rd_T31 l0 a1).f2), .int .i64 0, .int .i64 0, .int .i64 0]) ?_ 3 _ rfl; (with_reducible repeat (first | refine blk_drewN ?_ _ | refine blk_drew ?_ | refine blk_alloc ?_ _)); refine blk_put (cs := #[.int .i64 ((rd_T31 l0 a1).f0), .int .i64 ((rd_T31 l0 a1).f1), .int .i64 0, .int .i64 0, .int .i64 0, .int .i64 0]) ?_ 2 _ rfl; (with_reducible repeat (first | refine blk_drewN ?_ _ | refine blk_drew ?_ | refine blk_alloc ?_ _)); refine blk_put (cs := #[.int .i64 ((rd_T31 l0 a1).f0), .int .i64 0, .int .i64 0, .int .i64 0, .int .i64 0, .int .i64 0]) ?_ 1 _ rfl; (with_reducible repeat (first | refine blk_drewN ?_ _ | refine blk_drew ?_ | refine blk_alloc ?_ _)); refine blk_put (cs := #[.int .i64 0, .int .i64 0, .int .i64 0, .int .i64 0, .int .i64 0, .int .i64 0]) ?_ 0 _ rfl; exact sB <| BK119.out) hb); have n2_ := am (below_step (by exact bW) hb); clear BK119; clear HB; have HO122 := n0_; have BK119 := n1_; have HB := n2_; clear n0_ n1_ n2_; (try clear hb); (try clear hb2); (try clear hk); (try clear hi); (try clear ho0)))
   go_loopg [7] k (fun kq v7 w' => ∃ (x7_1 : Int), v7 = .int .i64 x7_1 ∧ Aside0 (spec_l02Node.l0 kq l0 a1 t120 x7_1 ((rd_T31 l0 a1).f0) ((rd_T31 l0 a1).f1) ((rd_T31 l0 a1).f2) ((rd_T31 l0 a1).f3) ((rd_T31 l0 a1).f4) ((rd_T31 l0 a1).f5) = some r) ∧ Aside0 (kq ≤ k) ∧ Aside0 (Kd.R (Kd.int .i64) 3 w' w.heap.size (fun _ => True) v121 t120) ∧ Aside0 (w'.heap[gb119]? = some (.cells #[.int .i64 ((rd_T31 l0 a1).f0), .int .i64 ((rd_T31 l0 a1).f1), .int .i64 ((rd_T31 l0 a1).f2), .int .i64 ((rd_T31 l0 a1).f3), .int .i64 ((rd_T31 l0 a1).f4), .int .i64 ((rd_T31 l0 a1).f5)] 31 (0, 0))) ∧ Aside0 (Below w.heap.size w w'))
   case atStart => exact ⟨(0), (by rfl), H', ⟨Nat.le_refl _⟩, ⟨by exact sR <| HO122.out⟩, ⟨by exact sB <| BK119.out⟩, ⟨by exact bW⟩⟩
   case round =>
    clear H'
    clear c3b0 c4b0 hcz7_0 hcz7_1 hcz7_2 hcz7_3 hcz7_4 hcz7_5 hfz7_0 hfz7_1 hfz7_2 hfz7_3 hfz7_4 hfz7_5 hx118_0 hx118_1 hx118_2 hx118_3 hx118_4 hx118_5 p118 q118
    obtain ⟨x7_1, rfl, HA, HK1, HO_6, BK119, HB⟩ := hrel
    cases gk with
    | zero => exact absurd HA.out (by simp [spec_l02Node.l0])
    | succ k1 =>
     have H := HA.out
     clear HA
     simp only [spec_l02Node.l0] at H
     by_cases c9 : x7_1 < (t120.length : Int)
     ·rw [if_pos c9] at H
      have c9b0 : decide (x7_1 < (t120.length : Int)) = true := decide_eq_true c9
      clear c9
      by_cases c10 : 0 ≤ x7_1
      ·rw [if_pos c10] at H
       have c10b0 : decide (0 ≤ x7_1) = true := decide_eq_true c10
       clear c10
       replace H := oB H
       obtain ⟨t124, A110, H⟩ := H
       have A11 := am A110
       clear A110
       by_cases c12 : t124 = true
       ·subst c12
        rw [if_pos rfl] at H
        have H' := am H
        clear H
        obtain ⟨Ao13, co13, eo13⟩ := Kd.R_slice HO_6.out
        subst eo13
        have p123 : 0 ≤ (x7_1 : Int) := oD (by assumption)
        have q123 : x7_1 < (t120.length : Int) := oD (by assumption)
        obtain ⟨ad123, e123, hx123_0⟩ := Kd.at_int (Kd.R_reads' HO_6.out).2.2 x7_1 p123 q123
        cases e123
        replace p123 := eq_true p123
        replace q123 := eq_true q123
        go_wp2_with (first | (go_at_call 42; (with_reducible refine (spec_l01In.calls (rd t120 x7_1) 0 (wrap64 (a1 - 1)) true _ A11.out).mono ?_); rintro e w' ⟨rfl, ⟨nd, rfl⟩⟩; (try first | exact dq1 | exact dq2)))
        go_roundg k1
        case measure => have := HK1.out; omega
        case rel => exact ⟨(wrap64 (x7_1 + 1)), (by rfl), H', ⟨by have := HK1.out; omega⟩, ⟨by exact sR <| HO_6.out⟩, ⟨by exact sB <| BK119.out⟩, ⟨by exact bW⟩⟩
       ·replace c12 := Bool.eq_false_iff.mpr c12
        subst c12
        rw [if_neg (show ¬ (false = true) by decide)] at H
        obtain rfl := oI H
        obtain ⟨Ao14, co14, eo14⟩ := Kd.R_slice HO_6.out
        subst eo14
        have p123 : 0 ≤ (x7_1 : Int) := oD (by assumption)
        have q123 : x7_1 < (t120.length : Int) := oD (by assumption)
        obtain ⟨ad123, e123, hx123_0⟩ := Kd.at_int (Kd.R_reads' HO_6.out).2.2 x7_1 p123 q123
        cases e123
        replace p123 := eq_true p123
        replace q123 := eq_true q123
        go_wp2_with (first | (go_at_call 42; (with_reducible refine (spec_l01In.calls (rd t120 x7_1) 0 (wrap64 (a1 - 1)) false _ A11.out).mono ?_); rintro e w' ⟨rfl, ⟨nd, rfl⟩⟩; (try first | exact dq1 | exact dq2)))
        go_ret
        exact ⟨by rfl, by exact bW⟩
      ·rw [if_neg c10] at H
       exact absurd H (by simp)
     ·rw [if_neg c9] at H
      have c9b0 : decide (x7_1 < (t120.length : Int)) = false := decide_eq_false c9
      clear c9
      replace H := oB H
      obtain ⟨t125, A150, H⟩ := H
      have A15 := am A150
      clear A150
      by_cases c16 : t125 = true
      ·subst c16
       rw [if_pos rfl] at H
       obtain ⟨y126, hy126⟩ : ∃ y_ : List Int, y_ = (([] : List Int)) := ⟨_, rfl⟩
       replace H : (spec_l02Node.l1 k1 l0 t120 y126 0 ((rd_T31 l0 a1).f0) ((rd_T31 l0 a1).f1) ((rd_T31 l0 a1).f2) ((rd_T31 l0 a1).f3) ((rd_T31 l0 a1).f4) ((rd_T31 l0 a1).f5)) = some r := by (rw [hy126]; with_reducible exact H)
       have Ny126 := am hy126
       clear hy126
       have H' := am H
       clear H
       obtain ⟨Ao17, co17, eo17⟩ := Kd.R_slice HO_6.out
       subst eo17
       obtain ⟨hcz18_0, hcz18_1, hcz18_2, hcz18_3, hcz18_4, hcz18_5⟩ := cz6 BK119.out
       obtain ⟨hfz18_0, hfz18_1, hfz18_2, hfz18_3, hfz18_4, hfz18_5⟩ := fz6 BK119.out
       go_wp2_with (first | (go_at_call 42; (with_reducible refine (spec_l01In.calls ((rd_T31 l0 a1).f1) 1 8 true _ A15.out).mono ?_); rintro e w' ⟨rfl, ⟨nd, rfl⟩⟩; (try first | exact dq1 | exact dq2)) | ((with_reducible refine gate_dst (N := 34) rfl ?_); refine Kd.R_lit (Kd.int .i64) _ 3 ?hg (N := 34) ?hd (xs := ([] : List Int)) (inner := []) (ok := fun _ => True) (okp := fun _ => True) ?hr ?hp (fun _ hk => hk) trivial (Below.refl _ _) (Nat.le_refl _) (by simp) ?_; (case hd => rfl); (case hg => rfl); (case hr => (go_simp; done)); (case hp => exact (Reps.none _ _)); intro v127 w19 ho20 hb hg_ hnew_; clear hg_ hnew_; (rw [← Ny126.out] at ho20); have n0_ := am (Kd.R_elder' (by exact sR <| HO_6.out) (Kd.R_base ho20) hb); have n1_ := am (Kd.R_lower (Kd.R_new' ho20 (Kd.R_lt (by exact sR <| HO_6.out))) (below_size (by exact bW))); have n2_ := am (blk_below (g := gb119) (o := .cells #[.int .i64 ((rd_T31 l0 a1).f0), .int .i64 ((rd_T31 l0 a1).f1), .int .i64 ((rd_T31 l0 a1).f2), .int .i64 ((rd_T31 l0 a1).f3), .int .i64 ((rd_T31 l0 a1).f4), .int .i64 ((rd_T31 l0 a1).f5)] 31 (0, 0)) (by exact sB <| BK119.out) hb); have n3_ := am (below_step (by exact bW) hb); clear HO_6; clear BK119; clear HB; have HO_6 := n0_; have HO128 := n1_; have BK119 := n2_; have HB := n3_; clear n0_ n1_ n2_ n3_; clear hb ho20))
       go_loopg [8, 9] k1 (fun kq v8 v9 w' => ∃ (x8_2 : List Int) (x9_2 : Int), v9 = .int .i64 x9_2 ∧ Aside0 (spec_l02Node.l1 kq l0 t120 x8_2 x9_2 ((rd_T31 l0 a1).f0) ((rd_T31 l0 a1).f1) ((rd_T31 l0 a1).f2) ((rd_T31 l0 a1).f3) ((rd_T31 l0 a1).f4) ((rd_T31 l0 a1).f5) = some r) ∧ Aside0 (kq ≤ k1) ∧ Aside0 (Kd.R (Kd.int .i64) 3 w' w.heap.size (fun k_ => some k_ ≠ (v8 : Value).ownBlock) (.slice Ao17 t120.length co17) t120) ∧ Aside0 (Kd.R (Kd.int .i64) 3 w' w.heap.size (fun k_ => some k_ ≠ ((.slice Ao17 t120.length co17) : Value).ownBlock) v8 x8_2) ∧ Aside0 (w'.heap[gb119]? = some (.cells #[.int .i64 ((rd_T31 l0 a1).f0), .int .i64 ((rd_T31 l0 a1).f1), .int .i64 ((rd_T31 l0 a1).f2), .int .i64 ((rd_T31 l0 a1).f3), .int .i64 ((rd_T31 l0 a1).f4), .int .i64 ((rd_T31 l0 a1).f5)] 31 (0, 0))) ∧ Aside0 (Below w.heap.size w w'))
       case atStart => exact ⟨(y126), (0), (by rfl), H', ⟨Nat.le_refl _⟩, ⟨by exact sR <| Kd.R_mono HO_6.out (fun _ hk => hk.2)⟩, ⟨by exact sR <| Kd.R_mono HO128.out (fun _ hk => hk.2)⟩, ⟨by exact sB <| BK119.out⟩, ⟨by exact bW⟩⟩
       case round =>
        clear H'
        clear c9b0 hcz18_0 hcz18_1 hcz18_2 hcz18_3 hcz18_4 hcz18_5 hfz18_0 hfz18_1 hfz18_2 hfz18_3 hfz18_4 hfz18_5
        obtain ⟨x8_2, x9_2, rfl, HA, HK2, HO_6, HO_8, BK119, HB⟩ := hrel
        cases gk with
        | zero => exact absurd HA.out (by simp [spec_l02Node.l1])
        | succ k2 =>
         have H := HA.out
         clear HA
         simp only [spec_l02Node.l1] at H
         by_cases c21 : x9_2 < (t120.length : Int)
         ·rw [if_pos c21] at H
          have c21b0 : decide (x9_2 < (t120.length : Int)) = true := decide_eq_true c21
          clear c21
          by_cases c22 : 0 ≤ x9_2
          ·rw [if_pos c22] at H
           have c22b0 : decide (0 ≤ x9_2) = true := decide_eq_true c22
           clear c22
           by_cases c23 : 0 ≤ (rd t120 x9_2)
           ·rw [if_pos c23] at H
            have c23b0 : decide (0 ≤ (rd t120 x9_2)) = true := decide_eq_true c23
            clear c23
            by_cases c24 : (rd t120 x9_2) < (l0.length : Int)
            ·rw [if_pos c24] at H
             have c24b0 : decide ((rd t120 x9_2) < (l0.length : Int)) = true := decide_eq_true c24
             clear c24
             by_cases c25 : x8_2.length < 17592186044416
             ·rw [if_pos c25] at H
              have LMc25 := am c25
              clear c25
              obtain ⟨y131, hy131⟩ : ∃ y_ : List Int, y_ = (x8_2 ++ [(rd_T31 l0 (rd t120 x9_2)).f1]) := ⟨_, rfl⟩
              replace H : (spec_l02Node.l1 k2 l0 t120 y131 (wrap64 (x9_2 + 1)) ((rd_T31 l0 a1).f0) ((rd_T31 l0 a1).f1) ((rd_T31 l0 a1).f2) ((rd_T31 l0 a1).f3) ((rd_T31 l0 a1).f4) ((rd_T31 l0 a1).f5)) = some r := by (rw [hy131]; with_reducible exact H)
              have Ny131 := am hy131
              clear hy131
              have H' := am H
              clear H
              have p129 : 0 ≤ (x9_2 : Int) := oD (by assumption)
              have q129 : x9_2 < (t120.length : Int) := oD (by assumption)
              obtain ⟨ad129, e129, hx129_0⟩ := Kd.at_int (Kd.R_reads' HO_6.out).2.2 x9_2 p129 q129
              cases e129
              replace p129 := eq_true p129
              replace q129 := eq_true q129
              have p130 : 0 ≤ ((rd t120 x9_2) : Int) := oD (by assumption)
              have q130 : (rd t120 x9_2) < (l0.length : Int) := oD (by assumption)
              obtain ⟨ad130, e130, hx130_0, hx130_1, hx130_2, hx130_3, hx130_4, hx130_5⟩ := at_T31 HR0.out (rd t120 x9_2) p130 q130
              obtain rfl : ad118 = ad130 := (by injection e130)
              replace hx130_0 := pw_cell_below HB.out hx130_0
              replace hx130_1 := pw_cell_below HB.out hx130_1
              replace hx130_2 := pw_cell_below HB.out hx130_2
              replace hx130_3 := pw_cell_below HB.out hx130_3
              replace hx130_4 := pw_cell_below HB.out hx130_4
              replace hx130_5 := pw_cell_below HB.out hx130_5
              replace p130 := eq_true p130
              replace q130 := eq_true q130
              go_wp2_with (first | ((with_reducible refine gate_builtin (b := .append) (xs := #[.tmp 41, .tmp 50]) rfl ?_); at_builtin; refine Kd.R_append (Kd.int .i64) (w0 := w) w.heap.size rfl (.tmp 41) (.tmp 50) 25 3 (.int .i64 0) 8 rfl Try.underlying25 info3 rfl (by decide) (by omega) u8 x8_2 ((rd_T31 l0 (rd t120 x9_2)).f1) [.int .i64 ((rd_T31 l0 (rd t120 x9_2)).f1)] (fun k_ => some k_ ≠ (.slice (some ad129) t120.length co17 : Value).ownBlock) (fun _ => False) rfl rfl ?aP (fun _ hk => hk.elim) ?aF ?aO ?aB ?aS ?aL ?_; (case aP => exact rfl); (case aB => exact (by exact bW)); (case aF => exact (fun k_ hk => Kd.fresh' (Kd.R_lt (by exact sR <| HO_6.out)) k_ hk)); (case aO => exact (by exact sR <| HO_8.out)); (case aS => exact (below_size (by exact bW))); (case aL => have := LMc25.out; omega); intro v132 w26 ho hb hg hat; rw [← Ny131.out] at ho; have n0_ := am (Kd.R_after (ok := (fun _ => True)) (by exact sR <| Kd.R_mono HO_6.out (fun _ hk => ⟨trivial, hk⟩)) hg hat); have n1_ := am (blk_grown (g := gb119) (o := .cells #[.int .i64 ((rd_T31 l0 a1).f0), .int .i64 ((rd_T31 l0 a1).f1), .int .i64 ((rd_T31 l0 a1).f2), .int .i64 ((rd_T31 l0 a1).f3), .int .i64 ((rd_T31 l0 a1).f4), .int .i64 ((rd_T31 l0 a1).f5)] 31 (0, 0)) (by exact sB <| BK119.out) hg (Kd.R_ne HO_8.out BK119.out (by decide))); have n2_ := am (hb); have n3_ := am (ho); clear HO_6; clear BK119; clear HB; clear HO_8; have HO_6 := n0_; have BK119 := n1_; have HB := n2_; have HO133 := n3_; clear n0_ n1_ n2_ n3_; clear ho hb hg hat))
              go_roundg k2
              case measure => have := HK1.out; have := HK2.out; omega
              case rel => exact ⟨(y131), (wrap64 (x9_2 + 1)), (by rfl), H', ⟨by have := HK1.out; have := HK2.out; omega⟩, ⟨by exact sR <| Kd.R_mono HO_6.out (fun _ hk => hk.2)⟩, ⟨by exact sR <| HO133.out⟩, ⟨by exact sB <| BK119.out⟩, ⟨by exact bW⟩⟩
             ·rw [if_neg c25] at H
              exact absurd H (by simp)
            ·rw [if_neg c24] at H
             exact absurd H (by simp)
           ·rw [if_neg c23] at H
            exact absurd H (by simp)
          ·rw [if_neg c22] at H
           exact absurd H (by simp)
         ·rw [if_neg c21] at H
          have c21b0 : decide (x9_2 < (t120.length : Int)) = false := decide_eq_false c21
          clear c21
          by_cases c27 : ((rd_T31 l0 a1).f0) = 0
          ·rw [if_pos c27] at H
           have c27b0 : (((rd_T31 l0 a1).f0) == 0) = true := beq_iff_eq.mpr c27
           have c27b1 : (((rd_T31 l0 a1).f0) != 0) = false := bne_eq_false_iff_eq.mpr c27
           clear c27
           replace H := oB H
           obtain ⟨t134, A280, H⟩ := H
           have A28 := am A280
           clear A280
           by_cases c29 : t134 = true
           ·subst c29
            rw [if_pos rfl] at H
            by_cases c30 : ((rd_T31 l0 a1).f3) = 0
            ·rw [if_pos c30] at H
             have c30b0 : (((rd_T31 l0 a1).f3) == 0) = true := beq_iff_eq.mpr c30
             have c30b1 : (((rd_T31 l0 a1).f3) != 0) = false := bne_eq_false_iff_eq.mpr c30
             clear c30
             by_cases c31 : ((rd_T31 l0 a1).f4) = 0
             ·rw [if_pos c31] at H
              have c31b0 : (((rd_T31 l0 a1).f4) == 0) = true := beq_iff_eq.mpr c31
              have c31b1 : (((rd_T31 l0 a1).f4) != 0) = false := bne_eq_false_iff_eq.mpr c31
              clear c31
              obtain rfl := oI H
              obtain ⟨hcz32_0, hcz32_1, hcz32_2, hcz32_3, hcz32_4, hcz32_5⟩ := cz6 BK119.out
              obtain ⟨hfz32_0, hfz32_1, hfz32_2, hfz32_3, hfz32_4, hfz32_5⟩ := fz6 BK119.out
              go_wp2_with (first | (go_at_call 71; (with_reducible refine (spec_WordOk.calls k2 ((rd_T31 l0 a1).f1) ((rd_T31 l0 a1).f2) true _ A28.out).mono ?_); rintro e w' ⟨rfl, ⟨nd, rfl⟩⟩; (try first | exact dq1 | exact dq2)))
              go_ret
              exact ⟨by rfl, by exact bW⟩
             ·rw [if_neg c31] at H
              have c31b0 : (((rd_T31 l0 a1).f4) == 0) = false := beq_eq_false_iff_ne.mpr c31
              have c31b1 : (((rd_T31 l0 a1).f4) != 0) = true := bne_iff_ne.mpr c31
              obtain rfl := oI H
              obtain ⟨hcz33_0, hcz33_1, hcz33_2, hcz33_3, hcz33_4, hcz33_5⟩ := cz6 BK119.out
              obtain ⟨hfz33_0, hfz33_1, hfz33_2, hfz33_3, hfz33_4, hfz33_5⟩ := fz6 BK119.out
              go_wp2_with (first | (go_at_call 71; (with_reducible refine (spec_WordOk.calls k2 ((rd_T31 l0 a1).f1) ((rd_T31 l0 a1).f2) true _ A28.out).mono ?_); rintro e w' ⟨rfl, ⟨nd, rfl⟩⟩; (try first | exact dq1 | exact dq2)))
              go_ret
              exact ⟨by rfl, by exact bW⟩
            ·rw [if_neg c30] at H
             have c30b0 : (((rd_T31 l0 a1).f3) == 0) = false := beq_eq_false_iff_ne.mpr c30
             have c30b1 : (((rd_T31 l0 a1).f3) != 0) = true := bne_iff_ne.mpr c30
             obtain rfl := oI H
             obtain ⟨hcz34_0, hcz34_1, hcz34_2, hcz34_3, hcz34_4, hcz34_5⟩ := cz6 BK119.out
             obtain ⟨hfz34_0, hfz34_1, hfz34_2, hfz34_3, hfz34_4, hfz34_5⟩ := fz6 BK119.out
             go_wp2_with (first | (go_at_call 71; (with_reducible refine (spec_WordOk.calls k2 ((rd_T31 l0 a1).f1) ((rd_T31 l0 a1).f2) true _ A28.out).mono ?_); rintro e w' ⟨rfl, ⟨nd, rfl⟩⟩; (try first | exact dq1 | exact dq2)))
             go_ret
             exact ⟨by rfl, by exact bW⟩
           ·replace c29 := Bool.eq_false_iff.mpr c29
            subst c29
            rw [if_neg (show ¬ (false = true) by decide)] at H
            obtain rfl := oI H
            obtain ⟨hcz35_0, hcz35_1, hcz35_2, hcz35_3, hcz35_4, hcz35_5⟩ := cz6 BK119.out
            obtain ⟨hfz35_0, hfz35_1, hfz35_2, hfz35_3, hfz35_4, hfz35_5⟩ := fz6 BK119.out
            go_wp2_with (first | (go_at_call 71; (with_reducible refine (spec_WordOk.calls k2 ((rd_T31 l0 a1).f1) ((rd_T31 l0 a1).f2) false _ A28.out).mono ?_); rintro e w' ⟨rfl, ⟨nd, rfl⟩⟩; (try first | exact dq1 | exact dq2)))
            go_ret
            exact ⟨by rfl, by exact bW⟩
          ·rw [if_neg c27] at H
           have c27b0 : (((rd_T31 l0 a1).f0) == 0) = false := beq_eq_false_iff_ne.mpr c27
           have c27b1 : (((rd_T31 l0 a1).f0) != 0) = true := bne_iff_ne.mpr c27
           by_cases c36 : ((rd_T31 l0 a1).f0) = 1
           ·rw [if_pos c36] at H
            have c36b0 : (((rd_T31 l0 a1).f0) == 1) = true := beq_iff_eq.mpr c36
            have c36b1 : (((rd_T31 l0 a1).f0) != 1) = false := bne_eq_false_iff_eq.mpr c36
            clear c36
            replace H := oB H
            obtain ⟨t135, A370, H⟩ := H
            have A37 := am A370
            clear A370
            by_cases c38 : t135 = true
            ·subst c38
             rw [if_pos rfl] at H
             by_cases c39 : ((rd_T31 l0 a1).f3) = 0
             ·rw [if_pos c39] at H
              have c39b0 : (((rd_T31 l0 a1).f3) == 0) = true := beq_iff_eq.mpr c39
              have c39b1 : (((rd_T31 l0 a1).f3) != 0) = false := bne_eq_false_iff_eq.mpr c39
              clear c39
              by_cases c40 : ((rd_T31 l0 a1).f4) = 0
              ·rw [if_pos c40] at H
               have c40b0 : (((rd_T31 l0 a1).f4) == 0) = true := beq_iff_eq.mpr c40
               have c40b1 : (((rd_T31 l0 a1).f4) != 0) = false := bne_eq_false_iff_eq.mpr c40
               clear c40
               obtain rfl := oI H
               obtain ⟨hcz41_0, hcz41_1, hcz41_2, hcz41_3, hcz41_4, hcz41_5⟩ := cz6 BK119.out
               obtain ⟨hfz41_0, hfz41_1, hfz41_2, hfz41_3, hfz41_4, hfz41_5⟩ := fz6 BK119.out
               go_wp2_with (first | (go_at_call 42; (with_reducible refine (spec_l01In.calls ((rd_T31 l0 a1).f2) 0 7 true _ A37.out).mono ?_); rintro e w' ⟨rfl, ⟨nd, rfl⟩⟩; (try first | exact dq1 | exact dq2)))
               go_ret
               exact ⟨by rfl, by exact bW⟩
              ·rw [if_neg c40] at H
               have c40b0 : (((rd_T31 l0 a1).f4) == 0) = false := beq_eq_false_iff_ne.mpr c40
               have c40b1 : (((rd_T31 l0 a1).f4) != 0) = true := bne_iff_ne.mpr c40
               obtain rfl := oI H
               obtain ⟨hcz42_0, hcz42_1, hcz42_2, hcz42_3, hcz42_4, hcz42_5⟩ := cz6 BK119.out
               obtain ⟨hfz42_0, hfz42_1, hfz42_2, hfz42_3, hfz42_4, hfz42_5⟩ := fz6 BK119.out
               go_wp2_with (first | (go_at_call 42; (with_reducible refine (spec_l01In.calls ((rd_T31 l0 a1).f2) 0 7 true _ A37.out).mono ?_); rintro e w' ⟨rfl, ⟨nd, rfl⟩⟩; (try first | exact dq1 | exact dq2)))
               go_ret
               exact ⟨by rfl, by exact bW⟩
             ·rw [if_neg c39] at H
              have c39b0 : (((rd_T31 l0 a1).f3) == 0) = false := beq_eq_false_iff_ne.mpr c39
              have c39b1 : (((rd_T31 l0 a1).f3) != 0) = true := bne_iff_ne.mpr c39
              obtain rfl := oI H
              obtain ⟨hcz43_0, hcz43_1, hcz43_2, hcz43_3, hcz43_4, hcz43_5⟩ := cz6 BK119.out
              obtain ⟨hfz43_0, hfz43_1, hfz43_2, hfz43_3, hfz43_4, hfz43_5⟩ := fz6 BK119.out
              go_wp2_with (first | (go_at_call 42; (with_reducible refine (spec_l01In.calls ((rd_T31 l0 a1).f2) 0 7 true _ A37.out).mono ?_); rintro e w' ⟨rfl, ⟨nd, rfl⟩⟩; (try first | exact dq1 | exact dq2)))
              go_ret
              exact ⟨by rfl, by exact bW⟩
            ·replace c38 := Bool.eq_false_iff.mpr c38
             subst c38
             rw [if_neg (show ¬ (false = true) by decide)] at H
             obtain rfl := oI H
             obtain ⟨hcz44_0, hcz44_1, hcz44_2, hcz44_3, hcz44_4, hcz44_5⟩ := cz6 BK119.out
             obtain ⟨hfz44_0, hfz44_1, hfz44_2, hfz44_3, hfz44_4, hfz44_5⟩ := fz6 BK119.out
             go_wp2_with (first | (go_at_call 42; (with_reducible refine (spec_l01In.calls ((rd_T31 l0 a1).f2) 0 7 false _ A37.out).mono ?_); rintro e w' ⟨rfl, ⟨nd, rfl⟩⟩; (try first | exact dq1 | exact dq2)))
             go_ret
             exact ⟨by rfl, by exact bW⟩
           ·rw [if_neg c36] at H
            have c36b0 : (((rd_T31 l0 a1).f0) == 1) = false := beq_eq_false_iff_ne.mpr c36
            have c36b1 : (((rd_T31 l0 a1).f0) != 1) = true := bne_iff_ne.mpr c36
            by_cases c45 : ((rd_T31 l0 a1).f0) = 2
            ·rw [if_pos c45] at H
             have c45b0 : (((rd_T31 l0 a1).f0) == 2) = true := beq_iff_eq.mpr c45
             have c45b1 : (((rd_T31 l0 a1).f0) != 2) = false := bne_eq_false_iff_eq.mpr c45
             clear c45
             by_cases c46 : 0 < (x8_2.length : Int)
             ·rw [if_pos c46] at H
              have c46b0 : decide (0 < (x8_2.length : Int)) = true := decide_eq_true c46
              have c46b1 : decide (0 < x8_2.length) = true := decide_eq_true (by omega)
              have c46p : 0 < x8_2.length := by omega
              clear c46
              by_cases c47 : (rd x8_2 0) = ((rd_T31 l0 a1).f1)
              ·rw [if_pos c47] at H
               have c47b0 : ((rd x8_2 0) == ((rd_T31 l0 a1).f1)) = true := beq_iff_eq.mpr c47
               have c47b1 : ((rd x8_2 0) != ((rd_T31 l0 a1).f1)) = false := bne_eq_false_iff_eq.mpr c47
               clear c47
               by_cases c48 : ((rd_T31 l0 a1).f2) = 0
               ·rw [if_pos c48] at H
                have c48b0 : (((rd_T31 l0 a1).f2) == 0) = true := beq_iff_eq.mpr c48
                have c48b1 : (((rd_T31 l0 a1).f2) != 0) = false := bne_eq_false_iff_eq.mpr c48
                clear c48
                by_cases c49 : ((rd_T31 l0 a1).f4) = 0
                ·rw [if_pos c49] at H
                 have c49b0 : (((rd_T31 l0 a1).f4) == 0) = true := beq_iff_eq.mpr c49
                 have c49b1 : (((rd_T31 l0 a1).f4) != 0) = false := bne_eq_false_iff_eq.mpr c49
                 clear c49
                 obtain rfl := oI H
                 obtain ⟨hcz50_0, hcz50_1, hcz50_2, hcz50_3, hcz50_4, hcz50_5⟩ := cz6 BK119.out
                 obtain ⟨hfz50_0, hfz50_1, hfz50_2, hfz50_3, hfz50_4, hfz50_5⟩ := fz6 BK119.out
                 obtain ⟨Ao51, co51, eo51⟩ := Kd.R_slice HO_8.out
                 subst eo51
                 have p136 : 0 ≤ (0 : Int) := (by omega)
                 have q136 : 0 < (x8_2.length : Int) := oD (by assumption)
                 obtain ⟨ad136, e136, hx136_0⟩ := Kd.at_int (Kd.R_reads' HO_8.out).2.2 0 p136 q136
                 cases e136
                 have qi136 : (0 < x8_2.length) = True := eq_true (by omega)
                 (try rw [tn0] at hx136_0)
                 (try rw [Addr.add_zero'] at hx136_0)
                 replace p136 := eq_true p136
                 replace q136 := eq_true q136
                 go_wp2
                 repeat (go_quiet (fail); try go_wp2)
                 go_ret
                 exact ⟨by rfl, by exact bW⟩
                ·rw [if_neg c49] at H
                 have c49b0 : (((rd_T31 l0 a1).f4) == 0) = false := beq_eq_false_iff_ne.mpr c49
                 have c49b1 : (((rd_T31 l0 a1).f4) != 0) = true := bne_iff_ne.mpr c49
                 obtain rfl := oI H
                 obtain ⟨hcz52_0, hcz52_1, hcz52_2, hcz52_3, hcz52_4, hcz52_5⟩ := cz6 BK119.out
                 obtain ⟨hfz52_0, hfz52_1, hfz52_2, hfz52_3, hfz52_4, hfz52_5⟩ := fz6 BK119.out
                 obtain ⟨Ao53, co53, eo53⟩ := Kd.R_slice HO_8.out
                 subst eo53
                 have p136 : 0 ≤ (0 : Int) := (by omega)
                 have q136 : 0 < (x8_2.length : Int) := oD (by assumption)
                 obtain ⟨ad136, e136, hx136_0⟩ := Kd.at_int (Kd.R_reads' HO_8.out).2.2 0 p136 q136
                 cases e136
                 have qi136 : (0 < x8_2.length) = True := eq_true (by omega)
                 (try rw [tn0] at hx136_0)
                 (try rw [Addr.add_zero'] at hx136_0)
                 replace p136 := eq_true p136
                 replace q136 := eq_true q136
                 go_wp2
                 repeat (go_quiet (fail); try go_wp2)
                 go_ret
                 exact ⟨by rfl, by exact bW⟩
               ·rw [if_neg c48] at H
                have c48b0 : (((rd_T31 l0 a1).f2) == 0) = false := beq_eq_false_iff_ne.mpr c48
                have c48b1 : (((rd_T31 l0 a1).f2) != 0) = true := bne_iff_ne.mpr c48
                obtain rfl := oI H
                obtain ⟨hcz54_0, hcz54_1, hcz54_2, hcz54_3, hcz54_4, hcz54_5⟩ := cz6 BK119.out
                obtain ⟨hfz54_0, hfz54_1, hfz54_2, hfz54_3, hfz54_4, hfz54_5⟩ := fz6 BK119.out
                obtain ⟨Ao55, co55, eo55⟩ := Kd.R_slice HO_8.out
                subst eo55
                have p136 : 0 ≤ (0 : Int) := (by omega)
                have q136 : 0 < (x8_2.length : Int) := oD (by assumption)
                obtain ⟨ad136, e136, hx136_0⟩ := Kd.at_int (Kd.R_reads' HO_8.out).2.2 0 p136 q136
                cases e136
                have qi136 : (0 < x8_2.length) = True := eq_true (by omega)
                (try rw [tn0] at hx136_0)
                (try rw [Addr.add_zero'] at hx136_0)
                replace p136 := eq_true p136
                replace q136 := eq_true q136
                go_wp2
                repeat (go_quiet (fail); try go_wp2)
                go_ret
                exact ⟨by rfl, by exact bW⟩
              ·rw [if_neg c47] at H
               have c47b0 : ((rd x8_2 0) == ((rd_T31 l0 a1).f1)) = false := beq_eq_false_iff_ne.mpr c47
               have c47b1 : ((rd x8_2 0) != ((rd_T31 l0 a1).f1)) = true := bne_iff_ne.mpr c47
               obtain rfl := oI H
               obtain ⟨hcz56_0, hcz56_1, hcz56_2, hcz56_3, hcz56_4, hcz56_5⟩ := cz6 BK119.out
               obtain ⟨hfz56_0, hfz56_1, hfz56_2, hfz56_3, hfz56_4, hfz56_5⟩ := fz6 BK119.out
               obtain ⟨Ao57, co57, eo57⟩ := Kd.R_slice HO_8.out
               subst eo57
               have p136 : 0 ≤ (0 : Int) := (by omega)
               have q136 : 0 < (x8_2.length : Int) := oD (by assumption)
               obtain ⟨ad136, e136, hx136_0⟩ := Kd.at_int (Kd.R_reads' HO_8.out).2.2 0 p136 q136
               cases e136
               have qi136 : (0 < x8_2.length) = True := eq_true (by omega)
               (try rw [tn0] at hx136_0)
               (try rw [Addr.add_zero'] at hx136_0)
               replace p136 := eq_true p136
               replace q136 := eq_true q136
               go_wp2
               repeat (go_quiet (fail); try go_wp2)
               go_ret
               exact ⟨by rfl, by exact bW⟩
             ·rw [if_neg c46] at H
              exact absurd H (by simp)
            ·rw [if_neg c45] at H
             have c45b0 : (((rd_T31 l0 a1).f0) == 2) = false := beq_eq_false_iff_ne.mpr c45
             have c45b1 : (((rd_T31 l0 a1).f0) != 2) = true := bne_iff_ne.mpr c45
             replace H := oB H
             obtain ⟨t137, A580, H⟩ := H
             have A58 := am A580
             clear A580
             by_cases c59 : t137 = true
             ·subst c59
              rw [if_pos rfl] at H
              by_cases c60 : 0 < (x8_2.length : Int)
              ·rw [if_pos c60] at H
               have c60b0 : decide (0 < (x8_2.length : Int)) = true := decide_eq_true c60
               have c60b1 : decide (0 < x8_2.length) = true := decide_eq_true (by omega)
               have c60p : 0 < x8_2.length := by omega
               clear c60
               by_cases c61 : (rd x8_2 0) = ((rd_T31 l0 a1).f1)
               ·rw [if_pos c61] at H
                have c61b0 : ((rd x8_2 0) == ((rd_T31 l0 a1).f1)) = true := beq_iff_eq.mpr c61
                have c61b1 : ((rd x8_2 0) != ((rd_T31 l0 a1).f1)) = false := bne_eq_false_iff_eq.mpr c61
                clear c61
                by_cases c62 : 1 < (x8_2.length : Int)
                ·rw [if_pos c62] at H
                 have c62b0 : decide (1 < (x8_2.length : Int)) = true := decide_eq_true c62
                 have c62b1 : decide (1 < x8_2.length) = true := decide_eq_true (by omega)
                 clear c62
                 by_cases c63 : (rd x8_2 1) = ((rd_T31 l0 a1).f1)
                 ·rw [if_pos c63] at H
                  have c63b0 : ((rd x8_2 1) == ((rd_T31 l0 a1).f1)) = true := beq_iff_eq.mpr c63
                  have c63b1 : ((rd x8_2 1) != ((rd_T31 l0 a1).f1)) = false := bne_eq_false_iff_eq.mpr c63
                  clear c63
                  by_cases c64 : ((rd_T31 l0 a1).f2) = 0
                  ·rw [if_pos c64] at H
                   have c64b0 : (((rd_T31 l0 a1).f2) == 0) = true := beq_iff_eq.mpr c64
                   have c64b1 : (((rd_T31 l0 a1).f2) != 0) = false := bne_eq_false_iff_eq.mpr c64
                   clear c64
                   obtain rfl := oI H
                   obtain ⟨hcz65_0, hcz65_1, hcz65_2, hcz65_3, hcz65_4, hcz65_5⟩ := cz6 BK119.out
                   obtain ⟨hfz65_0, hfz65_1, hfz65_2, hfz65_3, hfz65_4, hfz65_5⟩ := fz6 BK119.out
                   go_wp2_with (first | (go_at_call 42; (with_reducible refine (spec_l01In.calls ((rd_T31 l0 a1).f0) 3 12 true _ A58.out).mono ?_); rintro e w' ⟨rfl, ⟨nd, rfl⟩⟩; (try first | exact dq1 | exact dq2); obtain ⟨Ao66, co66, eo66⟩ := Kd.R_slice HO_8.out; subst eo66; have p138 : 0 ≤ (0 : Int) := (by omega); have q138 : 0 < (x8_2.length : Int) := oD (by assumption); obtain ⟨ad138, e138, hx138_0⟩ := Kd.at_int (Kd.R_reads' HO_8.out).2.2 0 p138 q138; cases e138; have qi138 : (0 < x8_2.length) = True := eq_true (by omega); (try rw [tn0] at hx138_0); (try rw [Addr.add_zero'] at hx138_0); replace p138 := eq_true p138; replace q138 := eq_true q138; have p139 : 0 ≤ (1 : Int) := (by omega); have q139 : 1 < (x8_2.length : Int) := oD (by assumption); obtain ⟨ad139, e139, hx139_0⟩ := Kd.at_int (Kd.R_reads' HO_8.out).2.2 1 p139 q139; obtain rfl : ad138 = ad139 := (by injection e139); (try simp only [show (1 : Int).toNat = 1 from rfl, Nat.reduceMul, Nat.reduceEqDiff, Go.Addr.add, ↓reduceIte] at hx139_0); have qi139 : (1 < x8_2.length) = True := eq_true (by omega); (try rw [show ((1 : Int)).toNat = 1 from rfl] at hx139_0); replace p139 := eq_true p139; replace q139 := eq_true q139))
                   repeat (go_quiet (first | (go_at_call 42; (with_reducible refine (spec_l01In.calls ((rd_T31 l0 a1).f0) 3 12 true _ A58.out).mono ?_); rintro e w' ⟨rfl, ⟨nd, rfl⟩⟩; (try first | exact dq1 | exact dq2); obtain ⟨Ao66, co66, eo66⟩ := Kd.R_slice HO_8.out; subst eo66; have p138 : 0 ≤ (0 : Int) := (by omega); have q138 : 0 < (x8_2.length : Int) := oD (by assumption); obtain ⟨ad138, e138, hx138_0⟩ := Kd.at_int (Kd.R_reads' HO_8.out).2.2 0 p138 q138; cases e138; have qi138 : (0 < x8_2.length) = True := eq_true (by omega); (try rw [tn0] at hx138_0); (try rw [Addr.add_zero'] at hx138_0); replace p138 := eq_true p138; replace q138 := eq_true q138; have p139 : 0 ≤ (1 : Int) := (by omega); have q139 : 1 < (x8_2.length : Int) := oD (by assumption); obtain ⟨ad139, e139, hx139_0⟩ := Kd.at_int (Kd.R_reads' HO_8.out).2.2 1 p139 q139; obtain rfl : ad138 = ad139 := (by injection e139); (try simp only [show (1 : Int).toNat = 1 from rfl, Nat.reduceMul, Nat.reduceEqDiff, Go.Addr.add, ↓reduceIte] at hx139_0); have qi139 : (1 < x8_2.length) = True := eq_true (by omega); (try rw [show ((1 : Int)).toNat = 1 from rfl] at hx139_0); replace p139 := eq_true p139; replace q139 := eq_true q139)); try go_wp2_with (first | (go_at_call 42; (with_reducible refine (spec_l01In.calls ((rd_T31 l0 a1).f0) 3 12 true _ A58.out).mono ?_); rintro e w' ⟨rfl, ⟨nd, rfl⟩⟩; (try first | exact dq1 | exact dq2); obtain ⟨Ao66, co66, eo66⟩ := Kd.R_slice HO_8.out; subst eo66; have p138 : 0 ≤ (0 : Int) := (by omega); have q138 : 0 < (x8_2.length : Int) := oD (by assumption); obtain ⟨ad138, e138, hx138_0⟩ := Kd.at_int (Kd.R_reads' HO_8.out).2.2 0 p138 q138; cases e138; have qi138 : (0 < x8_2.length) = True := eq_true (by omega); (try rw [tn0] at hx138_0); (try rw [Addr.add_zero'] at hx138_0); replace p138 := eq_true p138; replace q138 := eq_true q138; have p139 : 0 ≤ (1 : Int) := (by omega); have q139 : 1 < (x8_2.length : Int) := oD (by assumption); obtain ⟨ad139, e139, hx139_0⟩ := Kd.at_int (Kd.R_reads' HO_8.out).2.2 1 p139 q139; obtain rfl : ad138 = ad139 := (by injection e139); (try simp only [show (1 : Int).toNat = 1 from rfl, Nat.reduceMul, Nat.reduceEqDiff, Go.Addr.add, ↓reduceIte] at hx139_0); have qi139 : (1 < x8_2.length) = True := eq_true (by omega); (try rw [show ((1 : Int)).toNat = 1 from rfl] at hx139_0); replace p139 := eq_true p139; replace q139 := eq_true q139)))
                   go_ret
                   exact ⟨by rfl, by exact bW⟩
                  ·rw [if_neg c64] at H
                   have c64b0 : (((rd_T31 l0 a1).f2) == 0) = false := beq_eq_false_iff_ne.mpr c64
                   have c64b1 : (((rd_T31 l0 a1).f2) != 0) = true := bne_iff_ne.mpr c64
                   obtain rfl := oI H
                   obtain ⟨hcz67_0, hcz67_1, hcz67_2, hcz67_3, hcz67_4, hcz67_5⟩ := cz6 BK119.out
                   obtain ⟨hfz67_0, hfz67_1, hfz67_2, hfz67_3, hfz67_4, hfz67_5⟩ := fz6 BK119.out
                   go_wp2_with (first | (go_at_call 42; (with_reducible refine (spec_l01In.calls ((rd_T31 l0 a1).f0) 3 12 true _ A58.out).mono ?_); rintro e w' ⟨rfl, ⟨nd, rfl⟩⟩; (try first | exact dq1 | exact dq2); obtain ⟨Ao68, co68, eo68⟩ := Kd.R_slice HO_8.out; subst eo68; have p138 : 0 ≤ (0 : Int) := (by omega); have q138 : 0 < (x8_2.length : Int) := oD (by assumption); obtain ⟨ad138, e138, hx138_0⟩ := Kd.at_int (Kd.R_reads' HO_8.out).2.2 0 p138 q138; cases e138; have qi138 : (0 < x8_2.length) = True := eq_true (by omega); (try rw [tn0] at hx138_0); (try rw [Addr.add_zero'] at hx138_0); replace p138 := eq_true p138; replace q138 := eq_true q138; have p139 : 0 ≤ (1 : Int) := (by omega); have q139 : 1 < (x8_2.length : Int) := oD (by assumption); obtain ⟨ad139, e139, hx139_0⟩ := Kd.at_int (Kd.R_reads' HO_8.out).2.2 1 p139 q139; obtain rfl : ad138 = ad139 := (by injection e139); (try simp only [show (1 : Int).toNat = 1 from rfl, Nat.reduceMul, Nat.reduceEqDiff, Go.Addr.add, ↓reduceIte] at hx139_0); have qi139 : (1 < x8_2.length) = True := eq_true (by omega); (try rw [show ((1 : Int)).toNat = 1 from rfl] at hx139_0); replace p139 := eq_true p139; replace q139 := eq_true q139))
                   repeat (go_quiet (first | (go_at_call 42; (with_reducible refine (spec_l01In.calls ((rd_T31 l0 a1).f0) 3 12 true _ A58.out).mono ?_); rintro e w' ⟨rfl, ⟨nd, rfl⟩⟩; (try first | exact dq1 | exact dq2); obtain ⟨Ao68, co68, eo68⟩ := Kd.R_slice HO_8.out; subst eo68; have p138 : 0 ≤ (0 : Int) := (by omega); have q138 : 0 < (x8_2.length : Int) := oD (by assumption); obtain ⟨ad138, e138, hx138_0⟩ := Kd.at_int (Kd.R_reads' HO_8.out).2.2 0 p138 q138; cases e138; have qi138 : (0 < x8_2.length) = True := eq_true (by omega); (try rw [tn0] at hx138_0); (try rw [Addr.add_zero'] at hx138_0); replace p138 := eq_true p138; replace q138 := eq_true q138; have p139 : 0 ≤ (1 : Int) := (by omega); have q139 : 1 < (x8_2.length : Int) := oD (by assumption); obtain ⟨ad139, e139, hx139_0⟩ := Kd.at_int (Kd.R_reads' HO_8.out).2.2 1 p139 q139; obtain rfl : ad138 = ad139 := (by injection e139); (try simp only [show (1 : Int).toNat = 1 from rfl, Nat.reduceMul, Nat.reduceEqDiff, Go.Addr.add, ↓reduceIte] at hx139_0); have qi139 : (1 < x8_2.length) = True := eq_true (by omega); (try rw [show ((1 : Int)).toNat = 1 from rfl] at hx139_0); replace p139 := eq_true p139; replace q139 := eq_true q139)); try go_wp2_with (first | (go_at_call 42; (with_reducible refine (spec_l01In.calls ((rd_T31 l0 a1).f0) 3 12 true _ A58.out).mono ?_); rintro e w' ⟨rfl, ⟨nd, rfl⟩⟩; (try first | exact dq1 | exact dq2); obtain ⟨Ao68, co68, eo68⟩ := Kd.R_slice HO_8.out; subst eo68; have p138 : 0 ≤ (0 : Int) := (by omega); have q138 : 0 < (x8_2.length : Int) := oD (by assumption); obtain ⟨ad138, e138, hx138_0⟩ := Kd.at_int (Kd.R_reads' HO_8.out).2.2 0 p138 q138; cases e138; have qi138 : (0 < x8_2.length) = True := eq_true (by omega); (try rw [tn0] at hx138_0); (try rw [Addr.add_zero'] at hx138_0); replace p138 := eq_true p138; replace q138 := eq_true q138; have p139 : 0 ≤ (1 : Int) := (by omega); have q139 : 1 < (x8_2.length : Int) := oD (by assumption); obtain ⟨ad139, e139, hx139_0⟩ := Kd.at_int (Kd.R_reads' HO_8.out).2.2 1 p139 q139; obtain rfl : ad138 = ad139 := (by injection e139); (try simp only [show (1 : Int).toNat = 1 from rfl, Nat.reduceMul, Nat.reduceEqDiff, Go.Addr.add, ↓reduceIte] at hx139_0); have qi139 : (1 < x8_2.length) = True := eq_true (by omega); (try rw [show ((1 : Int)).toNat = 1 from rfl] at hx139_0); replace p139 := eq_true p139; replace q139 := eq_true q139)))
                   go_ret
                   exact ⟨by rfl, by exact bW⟩
                 ·rw [if_neg c63] at H
                  have c63b0 : ((rd x8_2 1) == ((rd_T31 l0 a1).f1)) = false := beq_eq_false_iff_ne.mpr c63
                  have c63b1 : ((rd x8_2 1) != ((rd_T31 l0 a1).f1)) = true := bne_iff_ne.mpr c63
                  obtain rfl := oI H
                  obtain ⟨hcz69_0, hcz69_1, hcz69_2, hcz69_3, hcz69_4, hcz69_5⟩ := cz6 BK119.out
                  obtain ⟨hfz69_0, hfz69_1, hfz69_2, hfz69_3, hfz69_4, hfz69_5⟩ := fz6 BK119.out
                  go_wp2_with (first | (go_at_call 42; (with_reducible refine (spec_l01In.calls ((rd_T31 l0 a1).f0) 3 12 true _ A58.out).mono ?_); rintro e w' ⟨rfl, ⟨nd, rfl⟩⟩; (try first | exact dq1 | exact dq2); obtain ⟨Ao70, co70, eo70⟩ := Kd.R_slice HO_8.out; subst eo70; have p138 : 0 ≤ (0 : Int) := (by omega); have q138 : 0 < (x8_2.length : Int) := oD (by assumption); obtain ⟨ad138, e138, hx138_0⟩ := Kd.at_int (Kd.R_reads' HO_8.out).2.2 0 p138 q138; cases e138; have qi138 : (0 < x8_2.length) = True := eq_true (by omega); (try rw [tn0] at hx138_0); (try rw [Addr.add_zero'] at hx138_0); replace p138 := eq_true p138; replace q138 := eq_true q138; have p139 : 0 ≤ (1 : Int) := (by omega); have q139 : 1 < (x8_2.length : Int) := oD (by assumption); obtain ⟨ad139, e139, hx139_0⟩ := Kd.at_int (Kd.R_reads' HO_8.out).2.2 1 p139 q139; obtain rfl : ad138 = ad139 := (by injection e139); (try simp only [show (1 : Int).toNat = 1 from rfl, Nat.reduceMul, Nat.reduceEqDiff, Go.Addr.add, ↓reduceIte] at hx139_0); have qi139 : (1 < x8_2.length) = True := eq_true (by omega); (try rw [show ((1 : Int)).toNat = 1 from rfl] at hx139_0); replace p139 := eq_true p139; replace q139 := eq_true q139))
                  repeat (go_quiet (first | (go_at_call 42; (with_reducible refine (spec_l01In.calls ((rd_T31 l0 a1).f0) 3 12 true _ A58.out).mono ?_); rintro e w' ⟨rfl, ⟨nd, rfl⟩⟩; (try first | exact dq1 | exact dq2); obtain ⟨Ao70, co70, eo70⟩ := Kd.R_slice HO_8.out; subst eo70; have p138 : 0 ≤ (0 : Int) := (by omega); have q138 : 0 < (x8_2.length : Int) := oD (by assumption); obtain ⟨ad138, e138, hx138_0⟩ := Kd.at_int (Kd.R_reads' HO_8.out).2.2 0 p138 q138; cases e138; have qi138 : (0 < x8_2.length) = True := eq_true (by omega); (try rw [tn0] at hx138_0); (try rw [Addr.add_zero'] at hx138_0); replace p138 := eq_true p138; replace q138 := eq_true q138; have p139 : 0 ≤ (1 : Int) := (by omega); have q139 : 1 < (x8_2.length : Int) := oD (by assumption); obtain ⟨ad139, e139, hx139_0⟩ := Kd.at_int (Kd.R_reads' HO_8.out).2.2 1 p139 q139; obtain rfl : ad138 = ad139 := (by injection e139); (try simp only [show (1 : Int).toNat = 1 from rfl, Nat.reduceMul, Nat.reduceEqDiff, Go.Addr.add, ↓reduceIte] at hx139_0); have qi139 : (1 < x8_2.length) = True := eq_true (by omega); (try rw [show ((1 : Int)).toNat = 1 from rfl] at hx139_0); replace p139 := eq_true p139; replace q139 := eq_true q139)); try go_wp2_with (first | (go_at_call 42; (with_reducible refine (spec_l01In.calls ((rd_T31 l0 a1).f0) 3 12 true _ A58.out).mono ?_); rintro e w' ⟨rfl, ⟨nd, rfl⟩⟩; (try first | exact dq1 | exact dq2); obtain ⟨Ao70, co70, eo70⟩ := Kd.R_slice HO_8.out; subst eo70; have p138 : 0 ≤ (0 : Int) := (by omega); have q138 : 0 < (x8_2.length : Int) := oD (by assumption); obtain ⟨ad138, e138, hx138_0⟩ := Kd.at_int (Kd.R_reads' HO_8.out).2.2 0 p138 q138; cases e138; have qi138 : (0 < x8_2.length) = True := eq_true (by omega); (try rw [tn0] at hx138_0); (try rw [Addr.add_zero'] at hx138_0); replace p138 := eq_true p138; replace q138 := eq_true q138; have p139 : 0 ≤ (1 : Int) := (by omega); have q139 : 1 < (x8_2.length : Int) := oD (by assumption); obtain ⟨ad139, e139, hx139_0⟩ := Kd.at_int (Kd.R_reads' HO_8.out).2.2 1 p139 q139; obtain rfl : ad138 = ad139 := (by injection e139); (try simp only [show (1 : Int).toNat = 1 from rfl, Nat.reduceMul, Nat.reduceEqDiff, Go.Addr.add, ↓reduceIte] at hx139_0); have qi139 : (1 < x8_2.length) = True := eq_true (by omega); (try rw [show ((1 : Int)).toNat = 1 from rfl] at hx139_0); replace p139 := eq_true p139; replace q139 := eq_true q139)))
                  go_ret
                  exact ⟨by rfl, by exact bW⟩
                ·rw [if_neg c62] at H
                 exact absurd H (by simp)
               ·rw [if_neg c61] at H
                have c61b0 : ((rd x8_2 0) == ((rd_T31 l0 a1).f1)) = false := beq_eq_false_iff_ne.mpr c61
                have c61b1 : ((rd x8_2 0) != ((rd_T31 l0 a1).f1)) = true := bne_iff_ne.mpr c61
                obtain rfl := oI H
                obtain ⟨hcz71_0, hcz71_1, hcz71_2, hcz71_3, hcz71_4, hcz71_5⟩ := cz6 BK119.out
                obtain ⟨hfz71_0, hfz71_1, hfz71_2, hfz71_3, hfz71_4, hfz71_5⟩ := fz6 BK119.out
                go_wp2_with (first | (go_at_call 42; (with_reducible refine (spec_l01In.calls ((rd_T31 l0 a1).f0) 3 12 true _ A58.out).mono ?_); rintro e w' ⟨rfl, ⟨nd, rfl⟩⟩; (try first | exact dq1 | exact dq2); obtain ⟨Ao72, co72, eo72⟩ := Kd.R_slice HO_8.out; subst eo72; have p138 : 0 ≤ (0 : Int) := (by omega); have q138 : 0 < (x8_2.length : Int) := oD (by assumption); obtain ⟨ad138, e138, hx138_0⟩ := Kd.at_int (Kd.R_reads' HO_8.out).2.2 0 p138 q138; cases e138; have qi138 : (0 < x8_2.length) = True := eq_true (by omega); (try rw [tn0] at hx138_0); (try rw [Addr.add_zero'] at hx138_0); replace p138 := eq_true p138; replace q138 := eq_true q138))
                repeat (go_quiet (first | (go_at_call 42; (with_reducible refine (spec_l01In.calls ((rd_T31 l0 a1).f0) 3 12 true _ A58.out).mono ?_); rintro e w' ⟨rfl, ⟨nd, rfl⟩⟩; (try first | exact dq1 | exact dq2); obtain ⟨Ao72, co72, eo72⟩ := Kd.R_slice HO_8.out; subst eo72; have p138 : 0 ≤ (0 : Int) := (by omega); have q138 : 0 < (x8_2.length : Int) := oD (by assumption); obtain ⟨ad138, e138, hx138_0⟩ := Kd.at_int (Kd.R_reads' HO_8.out).2.2 0 p138 q138; cases e138; have qi138 : (0 < x8_2.length) = True := eq_true (by omega); (try rw [tn0] at hx138_0); (try rw [Addr.add_zero'] at hx138_0); replace p138 := eq_true p138; replace q138 := eq_true q138)); try go_wp2_with (first | (go_at_call 42; (with_reducible refine (spec_l01In.calls ((rd_T31 l0 a1).f0) 3 12 true _ A58.out).mono ?_); rintro e w' ⟨rfl, ⟨nd, rfl⟩⟩; (try first | exact dq1 | exact dq2); obtain ⟨Ao72, co72, eo72⟩ := Kd.R_slice HO_8.out; subst eo72; have p138 : 0 ≤ (0 : Int) := (by omega); have q138 : 0 < (x8_2.length : Int) := oD (by assumption); obtain ⟨ad138, e138, hx138_0⟩ := Kd.at_int (Kd.R_reads' HO_8.out).2.2 0 p138 q138; cases e138; have qi138 : (0 < x8_2.length) = True := eq_true (by omega); (try rw [tn0] at hx138_0); (try rw [Addr.add_zero'] at hx138_0); replace p138 := eq_true p138; replace q138 := eq_true q138)))
                go_ret
                exact ⟨by rfl, by exact bW⟩
              ·rw [if_neg c60] at H
               exact absurd H (by simp)
             ·replace c59 := Bool.eq_false_iff.mpr c59
              subst c59
              rw [if_neg (show ¬ (false = true) by decide)] at H
              replace H := oB H
              obtain ⟨t140, A730, H⟩ := H
              have A73 := am A730
              clear A730
              by_cases c74 : t140 = true
              ·subst c74
               rw [if_pos rfl] at H
               by_cases c75 : 0 < (x8_2.length : Int)
               ·rw [if_pos c75] at H
                have c75b0 : decide (0 < (x8_2.length : Int)) = true := decide_eq_true c75
                have c75b1 : decide (0 < x8_2.length) = true := decide_eq_true (by omega)
                have c75p : 0 < x8_2.length := by omega
                clear c75
                by_cases c76 : 1 < (x8_2.length : Int)
                ·rw [if_pos c76] at H
                 have c76b0 : decide (1 < (x8_2.length : Int)) = true := decide_eq_true c76
                 have c76b1 : decide (1 < x8_2.length) = true := decide_eq_true (by omega)
                 clear c76
                 by_cases c77 : (rd x8_2 0) = (rd x8_2 1)
                 ·rw [if_pos c77] at H
                  have c77b0 : ((rd x8_2 0) == (rd x8_2 1)) = true := beq_iff_eq.mpr c77
                  have c77b1 : ((rd x8_2 0) != (rd x8_2 1)) = false := bne_eq_false_iff_eq.mpr c77
                  clear c77
                  by_cases c78 : ((rd_T31 l0 a1).f1) = 1
                  ·rw [if_pos c78] at H
                   have c78b0 : (((rd_T31 l0 a1).f1) == 1) = true := beq_iff_eq.mpr c78
                   have c78b1 : (((rd_T31 l0 a1).f1) != 1) = false := bne_eq_false_iff_eq.mpr c78
                   clear c78
                   by_cases c79 : ((rd_T31 l0 a1).f2) = 0
                   ·rw [if_pos c79] at H
                    have c79b0 : (((rd_T31 l0 a1).f2) == 0) = true := beq_iff_eq.mpr c79
                    have c79b1 : (((rd_T31 l0 a1).f2) != 0) = false := bne_eq_false_iff_eq.mpr c79
                    clear c79
                    obtain rfl := oI H
                    obtain ⟨hcz80_0, hcz80_1, hcz80_2, hcz80_3, hcz80_4, hcz80_5⟩ := cz6 BK119.out
                    obtain ⟨hfz80_0, hfz80_1, hfz80_2, hfz80_3, hfz80_4, hfz80_5⟩ := fz6 BK119.out
                    go_wp2_with (first | (go_at_call 42; (with_reducible refine (spec_l01In.calls ((rd_T31 l0 a1).f0) 3 12 false _ A58.out).mono ?_); rintro e w' ⟨rfl, ⟨nd, rfl⟩⟩; (try first | exact dq1 | exact dq2)) | (go_at_call 42; (with_reducible refine (spec_l01In.calls ((rd_T31 l0 a1).f0) 13 15 true _ A73.out).mono ?_); rintro e w' ⟨rfl, ⟨nd, rfl⟩⟩; (try first | exact dq1 | exact dq2); obtain ⟨Ao81, co81, eo81⟩ := Kd.R_slice HO_8.out; subst eo81; have p141 : 0 ≤ (0 : Int) := (by omega); have q141 : 0 < (x8_2.length : Int) := oD (by assumption); obtain ⟨ad141, e141, hx141_0⟩ := Kd.at_int (Kd.R_reads' HO_8.out).2.2 0 p141 q141; cases e141; have qi141 : (0 < x8_2.length) = True := eq_true (by omega); (try rw [tn0] at hx141_0); (try rw [Addr.add_zero'] at hx141_0); replace p141 := eq_true p141; replace q141 := eq_true q141; have p142 : 0 ≤ (1 : Int) := (by omega); have q142 : 1 < (x8_2.length : Int) := oD (by assumption); obtain ⟨ad142, e142, hx142_0⟩ := Kd.at_int (Kd.R_reads' HO_8.out).2.2 1 p142 q142; obtain rfl : ad141 = ad142 := (by injection e142); (try simp only [show (1 : Int).toNat = 1 from rfl, Nat.reduceMul, Nat.reduceEqDiff, Go.Addr.add, ↓reduceIte] at hx142_0); have qi142 : (1 < x8_2.length) = True := eq_true (by omega); (try rw [show ((1 : Int)).toNat = 1 from rfl] at hx142_0); replace p142 := eq_true p142; replace q142 := eq_true q142))
                    repeat (go_quiet (first | (go_at_call 42; (with_reducible refine (spec_l01In.calls ((rd_T31 l0 a1).f0) 3 12 false _ A58.out).mono ?_); rintro e w' ⟨rfl, ⟨nd, rfl⟩⟩; (try first | exact dq1 | exact dq2)) | (go_at_call 42; (with_reducible refine (spec_l01In.calls ((rd_T31 l0 a1).f0) 13 15 true _ A73.out).mono ?_); rintro e w' ⟨rfl, ⟨nd, rfl⟩⟩; (try first | exact dq1 | exact dq2); obtain ⟨Ao81, co81, eo81⟩ := Kd.R_slice HO_8.out; subst eo81; have p141 : 0 ≤ (0 : Int) := (by omega); have q141 : 0 < (x8_2.length : Int) := oD (by assumption); obtain ⟨ad141, e141, hx141_0⟩ := Kd.at_int (Kd.R_reads' HO_8.out).2.2 0 p141 q141; cases e141; have qi141 : (0 < x8_2.length) = True := eq_true (by omega); (try rw [tn0] at hx141_0); (try rw [Addr.add_zero'] at hx141_0); replace p141 := eq_true p141; replace q141 := eq_true q141; have p142 : 0 ≤ (1 : Int) := (by omega); have q142 : 1 < (x8_2.length : Int) := oD (by assumption); obtain ⟨ad142, e142, hx142_0⟩ := Kd.at_int (Kd.R_reads' HO_8.out).2.2 1 p142 q142; obtain rfl : ad141 = ad142 := (by injection e142); (try simp only [show (1 : Int).toNat = 1 from rfl, Nat.reduceMul, Nat.reduceEqDiff, Go.Addr.add, ↓reduceIte] at hx142_0); have qi142 : (1 < x8_2.length) = True := eq_true (by omega); (try rw [show ((1 : Int)).toNat = 1 from rfl] at hx142_0); replace p142 := eq_true p142; replace q142 := eq_true q142)); try go_wp2_with (first | (go_at_call 42; (with_reducible refine (spec_l01In.calls ((rd_T31 l0 a1).f0) 3 12 false _ A58.out).mono ?_); rintro e w' ⟨rfl, ⟨nd, rfl⟩⟩; (try first | exact dq1 | exact dq2)) | (go_at_call 42; (with_reducible refine (spec_l01In.calls ((rd_T31 l0 a1).f0) 13 15 true _ A73.out).mono ?_); rintro e w' ⟨rfl, ⟨nd, rfl⟩⟩; (try first | exact dq1 | exact dq2); obtain ⟨Ao81, co81, eo81⟩ := Kd.R_slice HO_8.out; subst eo81; have p141 : 0 ≤ (0 : Int) := (by omega); have q141 : 0 < (x8_2.length : Int) := oD (by assumption); obtain ⟨ad141, e141, hx141_0⟩ := Kd.at_int (Kd.R_reads' HO_8.out).2.2 0 p141 q141; cases e141; have qi141 : (0 < x8_2.length) = True := eq_true (by omega); (try rw [tn0] at hx141_0); (try rw [Addr.add_zero'] at hx141_0); replace p141 := eq_true p141; replace q141 := eq_true q141; have p142 : 0 ≤ (1 : Int) := (by omega); have q142 : 1 < (x8_2.length : Int) := oD (by assumption); obtain ⟨ad142, e142, hx142_0⟩ := Kd.at_int (Kd.R_reads' HO_8.out).2.2 1 p142 q142; obtain rfl : ad141 = ad142 := (by injection e142); (try simp only [show (1 : Int).toNat = 1 from rfl, Nat.reduceMul, Nat.reduceEqDiff, Go.Addr.add, ↓reduceIte] at hx142_0); have qi142 : (1 < x8_2.length) = True := eq_true (by omega); (try rw [show ((1 : Int)).toNat = 1 from rfl] at hx142_0); replace p142 := eq_true p142; replace q142 := eq_true q142)))
                    go_ret
                    exact ⟨by rfl, by exact bW⟩
                   ·rw [if_neg c79] at H
                    have c79b0 : (((rd_T31 l0 a1).f2) == 0) = false := beq_eq_false_iff_ne.mpr c79
                    have c79b1 : (((rd_T31 l0 a1).f2) != 0) = true := bne_iff_ne.mpr c79
                    obtain rfl := oI H
                    obtain ⟨hcz82_0, hcz82_1, hcz82_2, hcz82_3, hcz82_4, hcz82_5⟩ := cz6 BK119.out
                    obtain ⟨hfz82_0, hfz82_1, hfz82_2, hfz82_3, hfz82_4, hfz82_5⟩ := fz6 BK119.out
                    go_wp2_with (first | (go_at_call 42; (with_reducible refine (spec_l01In.calls ((rd_T31 l0 a1).f0) 3 12 false _ A58.out).mono ?_); rintro e w' ⟨rfl, ⟨nd, rfl⟩⟩; (try first | exact dq1 | exact dq2)) | (go_at_call 42; (with_reducible refine (spec_l01In.calls ((rd_T31 l0 a1).f0) 13 15 true _ A73.out).mono ?_); rintro e w' ⟨rfl, ⟨nd, rfl⟩⟩; (try first | exact dq1 | exact dq2); obtain ⟨Ao83, co83, eo83⟩ := Kd.R_slice HO_8.out; subst eo83; have p141 : 0 ≤ (0 : Int) := (by omega); have q141 : 0 < (x8_2.length : Int) := oD (by assumption); obtain ⟨ad141, e141, hx141_0⟩ := Kd.at_int (Kd.R_reads' HO_8.out).2.2 0 p141 q141; cases e141; have qi141 : (0 < x8_2.length) = True := eq_true (by omega); (try rw [tn0] at hx141_0); (try rw [Addr.add_zero'] at hx141_0); replace p141 := eq_true p141; replace q141 := eq_true q141; have p142 : 0 ≤ (1 : Int) := (by omega); have q142 : 1 < (x8_2.length : Int) := oD (by assumption); obtain ⟨ad142, e142, hx142_0⟩ := Kd.at_int (Kd.R_reads' HO_8.out).2.2 1 p142 q142; obtain rfl : ad141 = ad142 := (by injection e142); (try simp only [show (1 : Int).toNat = 1 from rfl, Nat.reduceMul, Nat.reduceEqDiff, Go.Addr.add, ↓reduceIte] at hx142_0); have qi142 : (1 < x8_2.length) = True := eq_true (by omega); (try rw [show ((1 : Int)).toNat = 1 from rfl] at hx142_0); replace p142 := eq_true p142; replace q142 := eq_true q142))
                    repeat (go_quiet (first | (go_at_call 42; (with_reducible refine (spec_l01In.calls ((rd_T31 l0 a1).f0) 3 12 false _ A58.out).mono ?_); rintro e w' ⟨rfl, ⟨nd, rfl⟩⟩; (try first | exact dq1 | exact dq2)) | (go_at_call 42; (with_reducible refine (spec_l01In.calls ((rd_T31 l0 a1).f0) 13 15 true _ A73.out).mono ?_); rintro e w' ⟨rfl, ⟨nd, rfl⟩⟩; (try first | exact dq1 | exact dq2); obtain ⟨Ao83, co83, eo83⟩ := Kd.R_slice HO_8.out; subst eo83; have p141 : 0 ≤ (0 : Int) := (by omega); have q141 : 0 < (x8_2.length : Int) := oD (by assumption); obtain ⟨ad141, e141, hx141_0⟩ := Kd.at_int (Kd.R_reads' HO_8.out).2.2 0 p141 q141; cases e141; have qi141 : (0 < x8_2.length) = True := eq_true (by omega); (try rw [tn0] at hx141_0); (try rw [Addr.add_zero'] at hx141_0); replace p141 := eq_true p141; replace q141 := eq_true q141; have p142 : 0 ≤ (1 : Int) := (by omega); have q142 : 1 < (x8_2.length : Int) := oD (by assumption); obtain ⟨ad142, e142, hx142_0⟩ := Kd.at_int (Kd.R_reads' HO_8.out).2.2 1 p142 q142; obtain rfl : ad141 = ad142 := (by injection e142); (try simp only [show (1 : Int).toNat = 1 from rfl, Nat.reduceMul, Nat.reduceEqDiff, Go.Addr.add, ↓reduceIte] at hx142_0); have qi142 : (1 < x8_2.length) = True := eq_true (by omega); (try rw [show ((1 : Int)).toNat = 1 from rfl] at hx142_0); replace p142 := eq_true p142; replace q142 := eq_true q142)); try go_wp2_with (first | (go_at_call 42; (with_reducible refine (spec_l01In.calls ((rd_T31 l0 a1).f0) 3 12 false _ A58.out).mono ?_); rintro e w' ⟨rfl, ⟨nd, rfl⟩⟩; (try first | exact dq1 | exact dq2)) | (go_at_call 42; (with_reducible refine (spec_l01In.calls ((rd_T31 l0 a1).f0) 13 15 true _ A73.out).mono ?_); rintro e w' ⟨rfl, ⟨nd, rfl⟩⟩; (try first | exact dq1 | exact dq2); obtain ⟨Ao83, co83, eo83⟩ := Kd.R_slice HO_8.out; subst eo83; have p141 : 0 ≤ (0 : Int) := (by omega); have q141 : 0 < (x8_2.length : Int) := oD (by assumption); obtain ⟨ad141, e141, hx141_0⟩ := Kd.at_int (Kd.R_reads' HO_8.out).2.2 0 p141 q141; cases e141; have qi141 : (0 < x8_2.length) = True := eq_true (by omega); (try rw [tn0] at hx141_0); (try rw [Addr.add_zero'] at hx141_0); replace p141 := eq_true p141; replace q141 := eq_true q141; have p142 : 0 ≤ (1 : Int) := (by omega); have q142 : 1 < (x8_2.length : Int) := oD (by assumption); obtain ⟨ad142, e142, hx142_0⟩ := Kd.at_int (Kd.R_reads' HO_8.out).2.2 1 p142 q142; obtain rfl : ad141 = ad142 := (by injection e142); (try simp only [show (1 : Int).toNat = 1 from rfl, Nat.reduceMul, Nat.reduceEqDiff, Go.Addr.add, ↓reduceIte] at hx142_0); have qi142 : (1 < x8_2.length) = True := eq_true (by omega); (try rw [show ((1 : Int)).toNat = 1 from rfl] at hx142_0); replace p142 := eq_true p142; replace q142 := eq_true q142)))
                    go_ret
                    exact ⟨by rfl, by exact bW⟩
                  ·rw [if_neg c78] at H
                   have c78b0 : (((rd_T31 l0 a1).f1) == 1) = false := beq_eq_false_iff_ne.mpr c78
                   have c78b1 : (((rd_T31 l0 a1).f1) != 1) = true := bne_iff_ne.mpr c78
                   obtain rfl := oI H
                   obtain ⟨hcz84_0, hcz84_1, hcz84_2, hcz84_3, hcz84_4, hcz84_5⟩ := cz6 BK119.out
                   obtain ⟨hfz84_0, hfz84_1, hfz84_2, hfz84_3, hfz84_4, hfz84_5⟩ := fz6 BK119.out
                   go_wp2_with (first | (go_at_call 42; (with_reducible refine (spec_l01In.calls ((rd_T31 l0 a1).f0) 3 12 false _ A58.out).mono ?_); rintro e w' ⟨rfl, ⟨nd, rfl⟩⟩; (try first | exact dq1 | exact dq2)) | (go_at_call 42; (with_reducible refine (spec_l01In.calls ((rd_T31 l0 a1).f0) 13 15 true _ A73.out).mono ?_); rintro e w' ⟨rfl, ⟨nd, rfl⟩⟩; (try first | exact dq1 | exact dq2); obtain ⟨Ao85, co85, eo85⟩ := Kd.R_slice HO_8.out; subst eo85; have p141 : 0 ≤ (0 : Int) := (by omega); have q141 : 0 < (x8_2.length : Int) := oD (by assumption); obtain ⟨ad141, e141, hx141_0⟩ := Kd.at_int (Kd.R_reads' HO_8.out).2.2 0 p141 q141; cases e141; have qi141 : (0 < x8_2.length) = True := eq_true (by omega); (try rw [tn0] at hx141_0); (try rw [Addr.add_zero'] at hx141_0); replace p141 := eq_true p141; replace q141 := eq_true q141; have p142 : 0 ≤ (1 : Int) := (by omega); have q142 : 1 < (x8_2.length : Int) := oD (by assumption); obtain ⟨ad142, e142, hx142_0⟩ := Kd.at_int (Kd.R_reads' HO_8.out).2.2 1 p142 q142; obtain rfl : ad141 = ad142 := (by injection e142); (try simp only [show (1 : Int).toNat = 1 from rfl, Nat.reduceMul, Nat.reduceEqDiff, Go.Addr.add, ↓reduceIte] at hx142_0); have qi142 : (1 < x8_2.length) = True := eq_true (by omega); (try rw [show ((1 : Int)).toNat = 1 from rfl] at hx142_0); replace p142 := eq_true p142; replace q142 := eq_true q142))
                   repeat (go_quiet (first | (go_at_call 42; (with_reducible refine (spec_l01In.calls ((rd_T31 l0 a1).f0) 3 12 false _ A58.out).mono ?_); rintro e w' ⟨rfl, ⟨nd, rfl⟩⟩; (try first | exact dq1 | exact dq2)) | (go_at_call 42; (with_reducible refine (spec_l01In.calls ((rd_T31 l0 a1).f0) 13 15 true _ A73.out).mono ?_); rintro e w' ⟨rfl, ⟨nd, rfl⟩⟩; (try first | exact dq1 | exact dq2); obtain ⟨Ao85, co85, eo85⟩ := Kd.R_slice HO_8.out; subst eo85; have p141 : 0 ≤ (0 : Int) := (by omega); have q141 : 0 < (x8_2.length : Int) := oD (by assumption); obtain ⟨ad141, e141, hx141_0⟩ := Kd.at_int (Kd.R_reads' HO_8.out).2.2 0 p141 q141; cases e141; have qi141 : (0 < x8_2.length) = True := eq_true (by omega); (try rw [tn0] at hx141_0); (try rw [Addr.add_zero'] at hx141_0); replace p141 := eq_true p141; replace q141 := eq_true q141; have p142 : 0 ≤ (1 : Int) := (by omega); have q142 : 1 < (x8_2.length : Int) := oD (by assumption); obtain ⟨ad142, e142, hx142_0⟩ := Kd.at_int (Kd.R_reads' HO_8.out).2.2 1 p142 q142; obtain rfl : ad141 = ad142 := (by injection e142); (try simp only [show (1 : Int).toNat = 1 from rfl, Nat.reduceMul, Nat.reduceEqDiff, Go.Addr.add, ↓reduceIte] at hx142_0); have qi142 : (1 < x8_2.length) = True := eq_true (by omega); (try rw [show ((1 : Int)).toNat = 1 from rfl] at hx142_0); replace p142 := eq_true p142; replace q142 := eq_true q142)); try go_wp2_with (first | (go_at_call 42; (with_reducible refine (spec_l01In.calls ((rd_T31 l0 a1).f0) 3 12 false _ A58.out).mono ?_); rintro e w' ⟨rfl, ⟨nd, rfl⟩⟩; (try first | exact dq1 | exact dq2)) | (go_at_call 42; (with_reducible refine (spec_l01In.calls ((rd_T31 l0 a1).f0) 13 15 true _ A73.out).mono ?_); rintro e w' ⟨rfl, ⟨nd, rfl⟩⟩; (try first | exact dq1 | exact dq2); obtain ⟨Ao85, co85, eo85⟩ := Kd.R_slice HO_8.out; subst eo85; have p141 : 0 ≤ (0 : Int) := (by omega); have q141 : 0 < (x8_2.length : Int) := oD (by assumption); obtain ⟨ad141, e141, hx141_0⟩ := Kd.at_int (Kd.R_reads' HO_8.out).2.2 0 p141 q141; cases e141; have qi141 : (0 < x8_2.length) = True := eq_true (by omega); (try rw [tn0] at hx141_0); (try rw [Addr.add_zero'] at hx141_0); replace p141 := eq_true p141; replace q141 := eq_true q141; have p142 : 0 ≤ (1 : Int) := (by omega); have q142 : 1 < (x8_2.length : Int) := oD (by assumption); obtain ⟨ad142, e142, hx142_0⟩ := Kd.at_int (Kd.R_reads' HO_8.out).2.2 1 p142 q142; obtain rfl : ad141 = ad142 := (by injection e142); (try simp only [show (1 : Int).toNat = 1 from rfl, Nat.reduceMul, Nat.reduceEqDiff, Go.Addr.add, ↓reduceIte] at hx142_0); have qi142 : (1 < x8_2.length) = True := eq_true (by omega); (try rw [show ((1 : Int)).toNat = 1 from rfl] at hx142_0); replace p142 := eq_true p142; replace q142 := eq_true q142)))
                   go_ret
                   exact ⟨by rfl, by exact bW⟩
                 ·rw [if_neg c77] at H
                  have c77b0 : ((rd x8_2 0) == (rd x8_2 1)) = false := beq_eq_false_iff_ne.mpr c77
                  have c77b1 : ((rd x8_2 0) != (rd x8_2 1)) = true := bne_iff_ne.mpr c77
                  obtain rfl := oI H
                  obtain ⟨hcz86_0, hcz86_1, hcz86_2, hcz86_3, hcz86_4, hcz86_5⟩ := cz6 BK119.out
                  obtain ⟨hfz86_0, hfz86_1, hfz86_2, hfz86_3, hfz86_4, hfz86_5⟩ := fz6 BK119.out
                  go_wp2_with (first | (go_at_call 42; (with_reducible refine (spec_l01In.calls ((rd_T31 l0 a1).f0) 3 12 false _ A58.out).mono ?_); rintro e w' ⟨rfl, ⟨nd, rfl⟩⟩; (try first | exact dq1 | exact dq2)) | (go_at_call 42; (with_reducible refine (spec_l01In.calls ((rd_T31 l0 a1).f0) 13 15 true _ A73.out).mono ?_); rintro e w' ⟨rfl, ⟨nd, rfl⟩⟩; (try first | exact dq1 | exact dq2); obtain ⟨Ao87, co87, eo87⟩ := Kd.R_slice HO_8.out; subst eo87; have p141 : 0 ≤ (0 : Int) := (by omega); have q141 : 0 < (x8_2.length : Int) := oD (by assumption); obtain ⟨ad141, e141, hx141_0⟩ := Kd.at_int (Kd.R_reads' HO_8.out).2.2 0 p141 q141; cases e141; have qi141 : (0 < x8_2.length) = True := eq_true (by omega); (try rw [tn0] at hx141_0); (try rw [Addr.add_zero'] at hx141_0); replace p141 := eq_true p141; replace q141 := eq_true q141; have p142 : 0 ≤ (1 : Int) := (by omega); have q142 : 1 < (x8_2.length : Int) := oD (by assumption); obtain ⟨ad142, e142, hx142_0⟩ := Kd.at_int (Kd.R_reads' HO_8.out).2.2 1 p142 q142; obtain rfl : ad141 = ad142 := (by injection e142); (try simp only [show (1 : Int).toNat = 1 from rfl, Nat.reduceMul, Nat.reduceEqDiff, Go.Addr.add, ↓reduceIte] at hx142_0); have qi142 : (1 < x8_2.length) = True := eq_true (by omega); (try rw [show ((1 : Int)).toNat = 1 from rfl] at hx142_0); replace p142 := eq_true p142; replace q142 := eq_true q142))
                  repeat (go_quiet (first | (go_at_call 42; (with_reducible refine (spec_l01In.calls ((rd_T31 l0 a1).f0) 3 12 false _ A58.out).mono ?_); rintro e w' ⟨rfl, ⟨nd, rfl⟩⟩; (try first | exact dq1 | exact dq2)) | (go_at_call 42; (with_reducible refine (spec_l01In.calls ((rd_T31 l0 a1).f0) 13 15 true _ A73.out).mono ?_); rintro e w' ⟨rfl, ⟨nd, rfl⟩⟩; (try first | exact dq1 | exact dq2); obtain ⟨Ao87, co87, eo87⟩ := Kd.R_slice HO_8.out; subst eo87; have p141 : 0 ≤ (0 : Int) := (by omega); have q141 : 0 < (x8_2.length : Int) := oD (by assumption); obtain ⟨ad141, e141, hx141_0⟩ := Kd.at_int (Kd.R_reads' HO_8.out).2.2 0 p141 q141; cases e141; have qi141 : (0 < x8_2.length) = True := eq_true (by omega); (try rw [tn0] at hx141_0); (try rw [Addr.add_zero'] at hx141_0); replace p141 := eq_true p141; replace q141 := eq_true q141; have p142 : 0 ≤ (1 : Int) := (by omega); have q142 : 1 < (x8_2.length : Int) := oD (by assumption); obtain ⟨ad142, e142, hx142_0⟩ := Kd.at_int (Kd.R_reads' HO_8.out).2.2 1 p142 q142; obtain rfl : ad141 = ad142 := (by injection e142); (try simp only [show (1 : Int).toNat = 1 from rfl, Nat.reduceMul, Nat.reduceEqDiff, Go.Addr.add, ↓reduceIte] at hx142_0); have qi142 : (1 < x8_2.length) = True := eq_true (by omega); (try rw [show ((1 : Int)).toNat = 1 from rfl] at hx142_0); replace p142 := eq_true p142; replace q142 := eq_true q142)); try go_wp2_with (first | (go_at_call 42; (with_reducible refine (spec_l01In.calls ((rd_T31 l0 a1).f0) 3 12 false _ A58.out).mono ?_); rintro e w' ⟨rfl, ⟨nd, rfl⟩⟩; (try first | exact dq1 | exact dq2)) | (go_at_call 42; (with_reducible refine (spec_l01In.calls ((rd_T31 l0 a1).f0) 13 15 true _ A73.out).mono ?_); rintro e w' ⟨rfl, ⟨nd, rfl⟩⟩; (try first | exact dq1 | exact dq2); obtain ⟨Ao87, co87, eo87⟩ := Kd.R_slice HO_8.out; subst eo87; have p141 : 0 ≤ (0 : Int) := (by omega); have q141 : 0 < (x8_2.length : Int) := oD (by assumption); obtain ⟨ad141, e141, hx141_0⟩ := Kd.at_int (Kd.R_reads' HO_8.out).2.2 0 p141 q141; cases e141; have qi141 : (0 < x8_2.length) = True := eq_true (by omega); (try rw [tn0] at hx141_0); (try rw [Addr.add_zero'] at hx141_0); replace p141 := eq_true p141; replace q141 := eq_true q141; have p142 : 0 ≤ (1 : Int) := (by omega); have q142 : 1 < (x8_2.length : Int) := oD (by assumption); obtain ⟨ad142, e142, hx142_0⟩ := Kd.at_int (Kd.R_reads' HO_8.out).2.2 1 p142 q142; obtain rfl : ad141 = ad142 := (by injection e142); (try simp only [show (1 : Int).toNat = 1 from rfl, Nat.reduceMul, Nat.reduceEqDiff, Go.Addr.add, ↓reduceIte] at hx142_0); have qi142 : (1 < x8_2.length) = True := eq_true (by omega); (try rw [show ((1 : Int)).toNat = 1 from rfl] at hx142_0); replace p142 := eq_true p142; replace q142 := eq_true q142)))
                  go_ret
                  exact ⟨by rfl, by exact bW⟩
                ·rw [if_neg c76] at H
                 exact absurd H (by simp)
               ·rw [if_neg c75] at H
                exact absurd H (by simp)
              ·replace c74 := Bool.eq_false_iff.mpr c74
               subst c74
               rw [if_neg (show ¬ (false = true) by decide)] at H
               by_cases c88 : ((rd_T31 l0 a1).f0) = 16
               ·rw [if_pos c88] at H
                have c88b0 : (((rd_T31 l0 a1).f0) == 16) = true := beq_iff_eq.mpr c88
                have c88b1 : (((rd_T31 l0 a1).f0) != 16) = false := bne_eq_false_iff_eq.mpr c88
                clear c88
                by_cases c89 : 0 < (x8_2.length : Int)
                ·rw [if_pos c89] at H
                 have c89b0 : decide (0 < (x8_2.length : Int)) = true := decide_eq_true c89
                 have c89b1 : decide (0 < x8_2.length) = true := decide_eq_true (by omega)
                 have c89p : 0 < x8_2.length := by omega
                 clear c89
                 by_cases c90 : 1 < (x8_2.length : Int)
                 ·rw [if_pos c90] at H
                  have c90b0 : decide (1 < (x8_2.length : Int)) = true := decide_eq_true c90
                  have c90b1 : decide (1 < x8_2.length) = true := decide_eq_true (by omega)
                  clear c90
                  by_cases c91 : (wrap64 ((rd x8_2 0) + (rd x8_2 1))) = ((rd_T31 l0 a1).f1)
                  ·rw [if_pos c91] at H
                   have c91b0 : ((wrap64 ((rd x8_2 0) + (rd x8_2 1))) == ((rd_T31 l0 a1).f1)) = true := beq_iff_eq.mpr c91
                   have c91b1 : ((wrap64 ((rd x8_2 0) + (rd x8_2 1))) != ((rd_T31 l0 a1).f1)) = false := bne_eq_false_iff_eq.mpr c91
                   clear c91
                   by_cases c92 : ((rd_T31 l0 a1).f2) = 0
                   ·rw [if_pos c92] at H
                    have c92b0 : (((rd_T31 l0 a1).f2) == 0) = true := beq_iff_eq.mpr c92
                    have c92b1 : (((rd_T31 l0 a1).f2) != 0) = false := bne_eq_false_iff_eq.mpr c92
                    clear c92
                    obtain rfl := oI H
                    obtain ⟨hcz93_0, hcz93_1, hcz93_2, hcz93_3, hcz93_4, hcz93_5⟩ := cz6 BK119.out
                    obtain ⟨hfz93_0, hfz93_1, hfz93_2, hfz93_3, hfz93_4, hfz93_5⟩ := fz6 BK119.out
                    go_wp2_with (first | (go_at_call 42; (with_reducible refine (spec_l01In.calls ((rd_T31 l0 a1).f0) 3 12 false _ A58.out).mono ?_); rintro e w' ⟨rfl, ⟨nd, rfl⟩⟩; (try first | exact dq1 | exact dq2)) | (go_at_call 42; (with_reducible refine (spec_l01In.calls ((rd_T31 l0 a1).f0) 13 15 false _ A73.out).mono ?_); rintro e w' ⟨rfl, ⟨nd, rfl⟩⟩; (try first | exact dq1 | exact dq2); obtain ⟨Ao94, co94, eo94⟩ := Kd.R_slice HO_8.out; subst eo94; have p143 : 0 ≤ (0 : Int) := (by omega); have q143 : 0 < (x8_2.length : Int) := oD (by assumption); obtain ⟨ad143, e143, hx143_0⟩ := Kd.at_int (Kd.R_reads' HO_8.out).2.2 0 p143 q143; cases e143; have qi143 : (0 < x8_2.length) = True := eq_true (by omega); (try rw [tn0] at hx143_0); (try rw [Addr.add_zero'] at hx143_0); replace p143 := eq_true p143; replace q143 := eq_true q143; have p144 : 0 ≤ (1 : Int) := (by omega); have q144 : 1 < (x8_2.length : Int) := oD (by assumption); obtain ⟨ad144, e144, hx144_0⟩ := Kd.at_int (Kd.R_reads' HO_8.out).2.2 1 p144 q144; obtain rfl : ad143 = ad144 := (by injection e144); (try simp only [show (1 : Int).toNat = 1 from rfl, Nat.reduceMul, Nat.reduceEqDiff, Go.Addr.add, ↓reduceIte] at hx144_0); have qi144 : (1 < x8_2.length) = True := eq_true (by omega); (try rw [show ((1 : Int)).toNat = 1 from rfl] at hx144_0); replace p144 := eq_true p144; replace q144 := eq_true q144))
                    repeat (go_quiet (first | (go_at_call 42; (with_reducible refine (spec_l01In.calls ((rd_T31 l0 a1).f0) 3 12 false _ A58.out).mono ?_); rintro e w' ⟨rfl, ⟨nd, rfl⟩⟩; (try first | exact dq1 | exact dq2)) | (go_at_call 42; (with_reducible refine (spec_l01In.calls ((rd_T31 l0 a1).f0) 13 15 false _ A73.out).mono ?_); rintro e w' ⟨rfl, ⟨nd, rfl⟩⟩; (try first | exact dq1 | exact dq2); obtain ⟨Ao94, co94, eo94⟩ := Kd.R_slice HO_8.out; subst eo94; have p143 : 0 ≤ (0 : Int) := (by omega); have q143 : 0 < (x8_2.length : Int) := oD (by assumption); obtain ⟨ad143, e143, hx143_0⟩ := Kd.at_int (Kd.R_reads' HO_8.out).2.2 0 p143 q143; cases e143; have qi143 : (0 < x8_2.length) = True := eq_true (by omega); (try rw [tn0] at hx143_0); (try rw [Addr.add_zero'] at hx143_0); replace p143 := eq_true p143; replace q143 := eq_true q143; have p144 : 0 ≤ (1 : Int) := (by omega); have q144 : 1 < (x8_2.length : Int) := oD (by assumption); obtain ⟨ad144, e144, hx144_0⟩ := Kd.at_int (Kd.R_reads' HO_8.out).2.2 1 p144 q144; obtain rfl : ad143 = ad144 := (by injection e144); (try simp only [show (1 : Int).toNat = 1 from rfl, Nat.reduceMul, Nat.reduceEqDiff, Go.Addr.add, ↓reduceIte] at hx144_0); have qi144 : (1 < x8_2.length) = True := eq_true (by omega); (try rw [show ((1 : Int)).toNat = 1 from rfl] at hx144_0); replace p144 := eq_true p144; replace q144 := eq_true q144)); try go_wp2_with (first | (go_at_call 42; (with_reducible refine (spec_l01In.calls ((rd_T31 l0 a1).f0) 3 12 false _ A58.out).mono ?_); rintro e w' ⟨rfl, ⟨nd, rfl⟩⟩; (try first | exact dq1 | exact dq2)) | (go_at_call 42; (with_reducible refine (spec_l01In.calls ((rd_T31 l0 a1).f0) 13 15 false _ A73.out).mono ?_); rintro e w' ⟨rfl, ⟨nd, rfl⟩⟩; (try first | exact dq1 | exact dq2); obtain ⟨Ao94, co94, eo94⟩ := Kd.R_slice HO_8.out; subst eo94; have p143 : 0 ≤ (0 : Int) := (by omega); have q143 : 0 < (x8_2.length : Int) := oD (by assumption); obtain ⟨ad143, e143, hx143_0⟩ := Kd.at_int (Kd.R_reads' HO_8.out).2.2 0 p143 q143; cases e143; have qi143 : (0 < x8_2.length) = True := eq_true (by omega); (try rw [tn0] at hx143_0); (try rw [Addr.add_zero'] at hx143_0); replace p143 := eq_true p143; replace q143 := eq_true q143; have p144 : 0 ≤ (1 : Int) := (by omega); have q144 : 1 < (x8_2.length : Int) := oD (by assumption); obtain ⟨ad144, e144, hx144_0⟩ := Kd.at_int (Kd.R_reads' HO_8.out).2.2 1 p144 q144; obtain rfl : ad143 = ad144 := (by injection e144); (try simp only [show (1 : Int).toNat = 1 from rfl, Nat.reduceMul, Nat.reduceEqDiff, Go.Addr.add, ↓reduceIte] at hx144_0); have qi144 : (1 < x8_2.length) = True := eq_true (by omega); (try rw [show ((1 : Int)).toNat = 1 from rfl] at hx144_0); replace p144 := eq_true p144; replace q144 := eq_true q144)))
                    go_ret
                    exact ⟨by rfl, by exact bW⟩
                   ·rw [if_neg c92] at H
                    have c92b0 : (((rd_T31 l0 a1).f2) == 0) = false := beq_eq_false_iff_ne.mpr c92
                    have c92b1 : (((rd_T31 l0 a1).f2) != 0) = true := bne_iff_ne.mpr c92
                    obtain rfl := oI H
                    obtain ⟨hcz95_0, hcz95_1, hcz95_2, hcz95_3, hcz95_4, hcz95_5⟩ := cz6 BK119.out
                    obtain ⟨hfz95_0, hfz95_1, hfz95_2, hfz95_3, hfz95_4, hfz95_5⟩ := fz6 BK119.out
                    go_wp2_with (first | (go_at_call 42; (with_reducible refine (spec_l01In.calls ((rd_T31 l0 a1).f0) 3 12 false _ A58.out).mono ?_); rintro e w' ⟨rfl, ⟨nd, rfl⟩⟩; (try first | exact dq1 | exact dq2)) | (go_at_call 42; (with_reducible refine (spec_l01In.calls ((rd_T31 l0 a1).f0) 13 15 false _ A73.out).mono ?_); rintro e w' ⟨rfl, ⟨nd, rfl⟩⟩; (try first | exact dq1 | exact dq2); obtain ⟨Ao96, co96, eo96⟩ := Kd.R_slice HO_8.out; subst eo96; have p143 : 0 ≤ (0 : Int) := (by omega); have q143 : 0 < (x8_2.length : Int) := oD (by assumption); obtain ⟨ad143, e143, hx143_0⟩ := Kd.at_int (Kd.R_reads' HO_8.out).2.2 0 p143 q143; cases e143; have qi143 : (0 < x8_2.length) = True := eq_true (by omega); (try rw [tn0] at hx143_0); (try rw [Addr.add_zero'] at hx143_0); replace p143 := eq_true p143; replace q143 := eq_true q143; have p144 : 0 ≤ (1 : Int) := (by omega); have q144 : 1 < (x8_2.length : Int) := oD (by assumption); obtain ⟨ad144, e144, hx144_0⟩ := Kd.at_int (Kd.R_reads' HO_8.out).2.2 1 p144 q144; obtain rfl : ad143 = ad144 := (by injection e144); (try simp only [show (1 : Int).toNat = 1 from rfl, Nat.reduceMul, Nat.reduceEqDiff, Go.Addr.add, ↓reduceIte] at hx144_0); have qi144 : (1 < x8_2.length) = True := eq_true (by omega); (try rw [show ((1 : Int)).toNat = 1 from rfl] at hx144_0); replace p144 := eq_true p144; replace q144 := eq_true q144))
                    repeat (go_quiet (first | (go_at_call 42; (with_reducible refine (spec_l01In.calls ((rd_T31 l0 a1).f0) 3 12 false _ A58.out).mono ?_); rintro e w' ⟨rfl, ⟨nd, rfl⟩⟩; (try first | exact dq1 | exact dq2)) | (go_at_call 42; (with_reducible refine (spec_l01In.calls ((rd_T31 l0 a1).f0) 13 15 false _ A73.out).mono ?_); rintro e w' ⟨rfl, ⟨nd, rfl⟩⟩; (try first | exact dq1 | exact dq2); obtain ⟨Ao96, co96, eo96⟩ := Kd.R_slice HO_8.out; subst eo96; have p143 : 0 ≤ (0 : Int) := (by omega); have q143 : 0 < (x8_2.length : Int) := oD (by assumption); obtain ⟨ad143, e143, hx143_0⟩ := Kd.at_int (Kd.R_reads' HO_8.out).2.2 0 p143 q143; cases e143; have qi143 : (0 < x8_2.length) = True := eq_true (by omega); (try rw [tn0] at hx143_0); (try rw [Addr.add_zero'] at hx143_0); replace p143 := eq_true p143; replace q143 := eq_true q143; have p144 : 0 ≤ (1 : Int) := (by omega); have q144 : 1 < (x8_2.length : Int) := oD (by assumption); obtain ⟨ad144, e144, hx144_0⟩ := Kd.at_int (Kd.R_reads' HO_8.out).2.2 1 p144 q144; obtain rfl : ad143 = ad144 := (by injection e144); (try simp only [show (1 : Int).toNat = 1 from rfl, Nat.reduceMul, Nat.reduceEqDiff, Go.Addr.add, ↓reduceIte] at hx144_0); have qi144 : (1 < x8_2.length) = True := eq_true (by omega); (try rw [show ((1 : Int)).toNat = 1 from rfl] at hx144_0); replace p144 := eq_true p144; replace q144 := eq_true q144)); try go_wp2_with (first | (go_at_call 42; (with_reducible refine (spec_l01In.calls ((rd_T31 l0 a1).f0) 3 12 false _ A58.out).mono ?_); rintro e w' ⟨rfl, ⟨nd, rfl⟩⟩; (try first | exact dq1 | exact dq2)) | (go_at_call 42; (with_reducible refine (spec_l01In.calls ((rd_T31 l0 a1).f0) 13 15 false _ A73.out).mono ?_); rintro e w' ⟨rfl, ⟨nd, rfl⟩⟩; (try first | exact dq1 | exact dq2); obtain ⟨Ao96, co96, eo96⟩ := Kd.R_slice HO_8.out; subst eo96; have p143 : 0 ≤ (0 : Int) := (by omega); have q143 : 0 < (x8_2.length : Int) := oD (by assumption); obtain ⟨ad143, e143, hx143_0⟩ := Kd.at_int (Kd.R_reads' HO_8.out).2.2 0 p143 q143; cases e143; have qi143 : (0 < x8_2.length) = True := eq_true (by omega); (try rw [tn0] at hx143_0); (try rw [Addr.add_zero'] at hx143_0); replace p143 := eq_true p143; replace q143 := eq_true q143; have p144 : 0 ≤ (1 : Int) := (by omega); have q144 : 1 < (x8_2.length : Int) := oD (by assumption); obtain ⟨ad144, e144, hx144_0⟩ := Kd.at_int (Kd.R_reads' HO_8.out).2.2 1 p144 q144; obtain rfl : ad143 = ad144 := (by injection e144); (try simp only [show (1 : Int).toNat = 1 from rfl, Nat.reduceMul, Nat.reduceEqDiff, Go.Addr.add, ↓reduceIte] at hx144_0); have qi144 : (1 < x8_2.length) = True := eq_true (by omega); (try rw [show ((1 : Int)).toNat = 1 from rfl] at hx144_0); replace p144 := eq_true p144; replace q144 := eq_true q144)))
                    go_ret
                    exact ⟨by rfl, by exact bW⟩
                  ·rw [if_neg c91] at H
                   have c91b0 : ((wrap64 ((rd x8_2 0) + (rd x8_2 1))) == ((rd_T31 l0 a1).f1)) = false := beq_eq_false_iff_ne.mpr c91
                   have c91b1 : ((wrap64 ((rd x8_2 0) + (rd x8_2 1))) != ((rd_T31 l0 a1).f1)) = true := bne_iff_ne.mpr c91
                   obtain rfl := oI H
                   obtain ⟨hcz97_0, hcz97_1, hcz97_2, hcz97_3, hcz97_4, hcz97_5⟩ := cz6 BK119.out
                   obtain ⟨hfz97_0, hfz97_1, hfz97_2, hfz97_3, hfz97_4, hfz97_5⟩ := fz6 BK119.out
                   go_wp2_with (first | (go_at_call 42; (with_reducible refine (spec_l01In.calls ((rd_T31 l0 a1).f0) 3 12 false _ A58.out).mono ?_); rintro e w' ⟨rfl, ⟨nd, rfl⟩⟩; (try first | exact dq1 | exact dq2)) | (go_at_call 42; (with_reducible refine (spec_l01In.calls ((rd_T31 l0 a1).f0) 13 15 false _ A73.out).mono ?_); rintro e w' ⟨rfl, ⟨nd, rfl⟩⟩; (try first | exact dq1 | exact dq2); obtain ⟨Ao98, co98, eo98⟩ := Kd.R_slice HO_8.out; subst eo98; have p143 : 0 ≤ (0 : Int) := (by omega); have q143 : 0 < (x8_2.length : Int) := oD (by assumption); obtain ⟨ad143, e143, hx143_0⟩ := Kd.at_int (Kd.R_reads' HO_8.out).2.2 0 p143 q143; cases e143; have qi143 : (0 < x8_2.length) = True := eq_true (by omega); (try rw [tn0] at hx143_0); (try rw [Addr.add_zero'] at hx143_0); replace p143 := eq_true p143; replace q143 := eq_true q143; have p144 : 0 ≤ (1 : Int) := (by omega); have q144 : 1 < (x8_2.length : Int) := oD (by assumption); obtain ⟨ad144, e144, hx144_0⟩ := Kd.at_int (Kd.R_reads' HO_8.out).2.2 1 p144 q144; obtain rfl : ad143 = ad144 := (by injection e144); (try simp only [show (1 : Int).toNat = 1 from rfl, Nat.reduceMul, Nat.reduceEqDiff, Go.Addr.add, ↓reduceIte] at hx144_0); have qi144 : (1 < x8_2.length) = True := eq_true (by omega); (try rw [show ((1 : Int)).toNat = 1 from rfl] at hx144_0); replace p144 := eq_true p144; replace q144 := eq_true q144))
                   repeat (go_quiet (first | (go_at_call 42; (with_reducible refine (spec_l01In.calls ((rd_T31 l0 a1).f0) 3 12 false _ A58.out).mono ?_); rintro e w' ⟨rfl, ⟨nd, rfl⟩⟩; (try first | exact dq1 | exact dq2)) | (go_at_call 42; (with_reducible refine (spec_l01In.calls ((rd_T31 l0 a1).f0) 13 15 false _ A73.out).mono ?_); rintro e w' ⟨rfl, ⟨nd, rfl⟩⟩; (try first | exact dq1 | exact dq2); obtain ⟨Ao98, co98, eo98⟩ := Kd.R_slice HO_8.out; subst eo98; have p143 : 0 ≤ (0 : Int) := (by omega); have q143 : 0 < (x8_2.length : Int) := oD (by assumption); obtain ⟨ad143, e143, hx143_0⟩ := Kd.at_int (Kd.R_reads' HO_8.out).2.2 0 p143 q143; cases e143; have qi143 : (0 < x8_2.length) = True := eq_true (by omega); (try rw [tn0] at hx143_0); (try rw [Addr.add_zero'] at hx143_0); replace p143 := eq_true p143; replace q143 := eq_true q143; have p144 : 0 ≤ (1 : Int) := (by omega); have q144 : 1 < (x8_2.length : Int) := oD (by assumption); obtain ⟨ad144, e144, hx144_0⟩ := Kd.at_int (Kd.R_reads' HO_8.out).2.2 1 p144 q144; obtain rfl : ad143 = ad144 := (by injection e144); (try simp only [show (1 : Int).toNat = 1 from rfl, Nat.reduceMul, Nat.reduceEqDiff, Go.Addr.add, ↓reduceIte] at hx144_0); have qi144 : (1 < x8_2.length) = True := eq_true (by omega); (try rw [show ((1 : Int)).toNat = 1 from rfl] at hx144_0); replace p144 := eq_true p144; replace q144 := eq_true q144)); try go_wp2_with (first | (go_at_call 42; (with_reducible refine (spec_l01In.calls ((rd_T31 l0 a1).f0) 3 12 false _ A58.out).mono ?_); rintro e w' ⟨rfl, ⟨nd, rfl⟩⟩; (try first | exact dq1 | exact dq2)) | (go_at_call 42; (with_reducible refine (spec_l01In.calls ((rd_T31 l0 a1).f0) 13 15 false _ A73.out).mono ?_); rintro e w' ⟨rfl, ⟨nd, rfl⟩⟩; (try first | exact dq1 | exact dq2); obtain ⟨Ao98, co98, eo98⟩ := Kd.R_slice HO_8.out; subst eo98; have p143 : 0 ≤ (0 : Int) := (by omega); have q143 : 0 < (x8_2.length : Int) := oD (by assumption); obtain ⟨ad143, e143, hx143_0⟩ := Kd.at_int (Kd.R_reads' HO_8.out).2.2 0 p143 q143; cases e143; have qi143 : (0 < x8_2.length) = True := eq_true (by omega); (try rw [tn0] at hx143_0); (try rw [Addr.add_zero'] at hx143_0); replace p143 := eq_true p143; replace q143 := eq_true q143; have p144 : 0 ≤ (1 : Int) := (by omega); have q144 : 1 < (x8_2.length : Int) := oD (by assumption); obtain ⟨ad144, e144, hx144_0⟩ := Kd.at_int (Kd.R_reads' HO_8.out).2.2 1 p144 q144; obtain rfl : ad143 = ad144 := (by injection e144); (try simp only [show (1 : Int).toNat = 1 from rfl, Nat.reduceMul, Nat.reduceEqDiff, Go.Addr.add, ↓reduceIte] at hx144_0); have qi144 : (1 < x8_2.length) = True := eq_true (by omega); (try rw [show ((1 : Int)).toNat = 1 from rfl] at hx144_0); replace p144 := eq_true p144; replace q144 := eq_true q144)))
                   go_ret
                   exact ⟨by rfl, by exact bW⟩
                 ·rw [if_neg c90] at H
                  exact absurd H (by simp)
                ·rw [if_neg c89] at H
                 exact absurd H (by simp)
               ·rw [if_neg c88] at H
                have c88b0 : (((rd_T31 l0 a1).f0) == 16) = false := beq_eq_false_iff_ne.mpr c88
                have c88b1 : (((rd_T31 l0 a1).f0) != 16) = true := bne_iff_ne.mpr c88
                by_cases c99 : ((rd_T31 l0 a1).f0) = 17
                ·rw [if_pos c99] at H
                 have c99b0 : (((rd_T31 l0 a1).f0) == 17) = true := beq_iff_eq.mpr c99
                 have c99b1 : (((rd_T31 l0 a1).f0) != 17) = false := bne_eq_false_iff_eq.mpr c99
                 clear c99
                 by_cases c100 : ((rd_T31 l0 a1).f2) ≥ 0
                 ·rw [if_pos c100] at H
                  have c100b0 : decide (0 ≤ ((rd_T31 l0 a1).f2)) = true := decide_eq_true c100
                  clear c100
                  by_cases c101 : 0 < (x8_2.length : Int)
                  ·rw [if_pos c101] at H
                   have c101b0 : decide (0 < (x8_2.length : Int)) = true := decide_eq_true c101
                   have c101b1 : decide (0 < x8_2.length) = true := decide_eq_true (by omega)
                   have c101p : 0 < x8_2.length := by omega
                   clear c101
                   by_cases c102 : ((rd_T31 l0 a1).f2) ≤ (wrap64 ((rd x8_2 0) - ((rd_T31 l0 a1).f1)))
                   ·rw [if_pos c102] at H
                    have c102b0 : decide (((rd_T31 l0 a1).f2) ≤ (wrap64 ((rd x8_2 0) - ((rd_T31 l0 a1).f1)))) = true := decide_eq_true c102
                    clear c102
                    by_cases c103 : ((rd_T31 l0 a1).f4) = 0
                    ·rw [if_pos c103] at H
                     have c103b0 : (((rd_T31 l0 a1).f4) == 0) = true := beq_iff_eq.mpr c103
                     have c103b1 : (((rd_T31 l0 a1).f4) != 0) = false := bne_eq_false_iff_eq.mpr c103
                     clear c103
                     obtain rfl := oI H
                     obtain ⟨hcz104_0, hcz104_1, hcz104_2, hcz104_3, hcz104_4, hcz104_5⟩ := cz6 BK119.out
                     obtain ⟨hfz104_0, hfz104_1, hfz104_2, hfz104_3, hfz104_4, hfz104_5⟩ := fz6 BK119.out
                     go_wp2_with (first | (go_at_call 42; (with_reducible refine (spec_l01In.calls ((rd_T31 l0 a1).f0) 3 12 false _ A58.out).mono ?_); rintro e w' ⟨rfl, ⟨nd, rfl⟩⟩; (try first | exact dq1 | exact dq2)) | (go_at_call 42; (with_reducible refine (spec_l01In.calls ((rd_T31 l0 a1).f0) 13 15 false _ A73.out).mono ?_); rintro e w' ⟨rfl, ⟨nd, rfl⟩⟩; (try first | exact dq1 | exact dq2); obtain ⟨Ao105, co105, eo105⟩ := Kd.R_slice HO_8.out; subst eo105; have p145 : 0 ≤ (0 : Int) := (by omega); have q145 : 0 < (x8_2.length : Int) := oD (by assumption); obtain ⟨ad145, e145, hx145_0⟩ := Kd.at_int (Kd.R_reads' HO_8.out).2.2 0 p145 q145; cases e145; have qi145 : (0 < x8_2.length) = True := eq_true (by omega); (try rw [tn0] at hx145_0); (try rw [Addr.add_zero'] at hx145_0); replace p145 := eq_true p145; replace q145 := eq_true q145))
                     repeat (go_quiet (first | (go_at_call 42; (with_reducible refine (spec_l01In.calls ((rd_T31 l0 a1).f0) 3 12 false _ A58.out).mono ?_); rintro e w' ⟨rfl, ⟨nd, rfl⟩⟩; (try first | exact dq1 | exact dq2)) | (go_at_call 42; (with_reducible refine (spec_l01In.calls ((rd_T31 l0 a1).f0) 13 15 false _ A73.out).mono ?_); rintro e w' ⟨rfl, ⟨nd, rfl⟩⟩; (try first | exact dq1 | exact dq2); obtain ⟨Ao105, co105, eo105⟩ := Kd.R_slice HO_8.out; subst eo105; have p145 : 0 ≤ (0 : Int) := (by omega); have q145 : 0 < (x8_2.length : Int) := oD (by assumption); obtain ⟨ad145, e145, hx145_0⟩ := Kd.at_int (Kd.R_reads' HO_8.out).2.2 0 p145 q145; cases e145; have qi145 : (0 < x8_2.length) = True := eq_true (by omega); (try rw [tn0] at hx145_0); (try rw [Addr.add_zero'] at hx145_0); replace p145 := eq_true p145; replace q145 := eq_true q145)); try go_wp2_with (first | (go_at_call 42; (with_reducible refine (spec_l01In.calls ((rd_T31 l0 a1).f0) 3 12 false _ A58.out).mono ?_); rintro e w' ⟨rfl, ⟨nd, rfl⟩⟩; (try first | exact dq1 | exact dq2)) | (go_at_call 42; (with_reducible refine (spec_l01In.calls ((rd_T31 l0 a1).f0) 13 15 false _ A73.out).mono ?_); rintro e w' ⟨rfl, ⟨nd, rfl⟩⟩; (try first | exact dq1 | exact dq2); obtain ⟨Ao105, co105, eo105⟩ := Kd.R_slice HO_8.out; subst eo105; have p145 : 0 ≤ (0 : Int) := (by omega); have q145 : 0 < (x8_2.length : Int) := oD (by assumption); obtain ⟨ad145, e145, hx145_0⟩ := Kd.at_int (Kd.R_reads' HO_8.out).2.2 0 p145 q145; cases e145; have qi145 : (0 < x8_2.length) = True := eq_true (by omega); (try rw [tn0] at hx145_0); (try rw [Addr.add_zero'] at hx145_0); replace p145 := eq_true p145; replace q145 := eq_true q145)))
                     go_ret
                     exact ⟨by rfl, by exact bW⟩
                    ·rw [if_neg c103] at H
                     have c103b0 : (((rd_T31 l0 a1).f4) == 0) = false := beq_eq_false_iff_ne.mpr c103
                     have c103b1 : (((rd_T31 l0 a1).f4) != 0) = true := bne_iff_ne.mpr c103
                     obtain rfl := oI H
                     obtain ⟨hcz106_0, hcz106_1, hcz106_2, hcz106_3, hcz106_4, hcz106_5⟩ := cz6 BK119.out
                     obtain ⟨hfz106_0, hfz106_1, hfz106_2, hfz106_3, hfz106_4, hfz106_5⟩ := fz6 BK119.out
                     go_wp2_with (first | (go_at_call 42; (with_reducible refine (spec_l01In.calls ((rd_T31 l0 a1).f0) 3 12 false _ A58.out).mono ?_); rintro e w' ⟨rfl, ⟨nd, rfl⟩⟩; (try first | exact dq1 | exact dq2)) | (go_at_call 42; (with_reducible refine (spec_l01In.calls ((rd_T31 l0 a1).f0) 13 15 false _ A73.out).mono ?_); rintro e w' ⟨rfl, ⟨nd, rfl⟩⟩; (try first | exact dq1 | exact dq2); obtain ⟨Ao107, co107, eo107⟩ := Kd.R_slice HO_8.out; subst eo107; have p145 : 0 ≤ (0 : Int) := (by omega); have q145 : 0 < (x8_2.length : Int) := oD (by assumption); obtain ⟨ad145, e145, hx145_0⟩ := Kd.at_int (Kd.R_reads' HO_8.out).2.2 0 p145 q145; cases e145; have qi145 : (0 < x8_2.length) = True := eq_true (by omega); (try rw [tn0] at hx145_0); (try rw [Addr.add_zero'] at hx145_0); replace p145 := eq_true p145; replace q145 := eq_true q145))
                     repeat (go_quiet (first | (go_at_call 42; (with_reducible refine (spec_l01In.calls ((rd_T31 l0 a1).f0) 3 12 false _ A58.out).mono ?_); rintro e w' ⟨rfl, ⟨nd, rfl⟩⟩; (try first | exact dq1 | exact dq2)) | (go_at_call 42; (with_reducible refine (spec_l01In.calls ((rd_T31 l0 a1).f0) 13 15 false _ A73.out).mono ?_); rintro e w' ⟨rfl, ⟨nd, rfl⟩⟩; (try first | exact dq1 | exact dq2); obtain ⟨Ao107, co107, eo107⟩ := Kd.R_slice HO_8.out; subst eo107; have p145 : 0 ≤ (0 : Int) := (by omega); have q145 : 0 < (x8_2.length : Int) := oD (by assumption); obtain ⟨ad145, e145, hx145_0⟩ := Kd.at_int (Kd.R_reads' HO_8.out).2.2 0 p145 q145; cases e145; have qi145 : (0 < x8_2.length) = True := eq_true (by omega); (try rw [tn0] at hx145_0); (try rw [Addr.add_zero'] at hx145_0); replace p145 := eq_true p145; replace q145 := eq_true q145)); try go_wp2_with (first | (go_at_call 42; (with_reducible refine (spec_l01In.calls ((rd_T31 l0 a1).f0) 3 12 false _ A58.out).mono ?_); rintro e w' ⟨rfl, ⟨nd, rfl⟩⟩; (try first | exact dq1 | exact dq2)) | (go_at_call 42; (with_reducible refine (spec_l01In.calls ((rd_T31 l0 a1).f0) 13 15 false _ A73.out).mono ?_); rintro e w' ⟨rfl, ⟨nd, rfl⟩⟩; (try first | exact dq1 | exact dq2); obtain ⟨Ao107, co107, eo107⟩ := Kd.R_slice HO_8.out; subst eo107; have p145 : 0 ≤ (0 : Int) := (by omega); have q145 : 0 < (x8_2.length : Int) := oD (by assumption); obtain ⟨ad145, e145, hx145_0⟩ := Kd.at_int (Kd.R_reads' HO_8.out).2.2 0 p145 q145; cases e145; have qi145 : (0 < x8_2.length) = True := eq_true (by omega); (try rw [tn0] at hx145_0); (try rw [Addr.add_zero'] at hx145_0); replace p145 := eq_true p145; replace q145 := eq_true q145)))
                     go_ret
                     exact ⟨by rfl, by exact bW⟩
                   ·rw [if_neg c102] at H
                    have c102b0 : decide (((rd_T31 l0 a1).f2) ≤ (wrap64 ((rd x8_2 0) - ((rd_T31 l0 a1).f1)))) = false := decide_eq_false c102
                    clear c102
                    obtain rfl := oI H
                    obtain ⟨hcz108_0, hcz108_1, hcz108_2, hcz108_3, hcz108_4, hcz108_5⟩ := cz6 BK119.out
                    obtain ⟨hfz108_0, hfz108_1, hfz108_2, hfz108_3, hfz108_4, hfz108_5⟩ := fz6 BK119.out
                    go_wp2_with (first | (go_at_call 42; (with_reducible refine (spec_l01In.calls ((rd_T31 l0 a1).f0) 3 12 false _ A58.out).mono ?_); rintro e w' ⟨rfl, ⟨nd, rfl⟩⟩; (try first | exact dq1 | exact dq2)) | (go_at_call 42; (with_reducible refine (spec_l01In.calls ((rd_T31 l0 a1).f0) 13 15 false _ A73.out).mono ?_); rintro e w' ⟨rfl, ⟨nd, rfl⟩⟩; (try first | exact dq1 | exact dq2); obtain ⟨Ao109, co109, eo109⟩ := Kd.R_slice HO_8.out; subst eo109; have p145 : 0 ≤ (0 : Int) := (by omega); have q145 : 0 < (x8_2.length : Int) := oD (by assumption); obtain ⟨ad145, e145, hx145_0⟩ := Kd.at_int (Kd.R_reads' HO_8.out).2.2 0 p145 q145; cases e145; have qi145 : (0 < x8_2.length) = True := eq_true (by omega); (try rw [tn0] at hx145_0); (try rw [Addr.add_zero'] at hx145_0); replace p145 := eq_true p145; replace q145 := eq_true q145))
                    repeat (go_quiet (first | (go_at_call 42; (with_reducible refine (spec_l01In.calls ((rd_T31 l0 a1).f0) 3 12 false _ A58.out).mono ?_); rintro e w' ⟨rfl, ⟨nd, rfl⟩⟩; (try first | exact dq1 | exact dq2)) | (go_at_call 42; (with_reducible refine (spec_l01In.calls ((rd_T31 l0 a1).f0) 13 15 false _ A73.out).mono ?_); rintro e w' ⟨rfl, ⟨nd, rfl⟩⟩; (try first | exact dq1 | exact dq2); obtain ⟨Ao109, co109, eo109⟩ := Kd.R_slice HO_8.out; subst eo109; have p145 : 0 ≤ (0 : Int) := (by omega); have q145 : 0 < (x8_2.length : Int) := oD (by assumption); obtain ⟨ad145, e145, hx145_0⟩ := Kd.at_int (Kd.R_reads' HO_8.out).2.2 0 p145 q145; cases e145; have qi145 : (0 < x8_2.length) = True := eq_true (by omega); (try rw [tn0] at hx145_0); (try rw [Addr.add_zero'] at hx145_0); replace p145 := eq_true p145; replace q145 := eq_true q145)); try go_wp2_with (first | (go_at_call 42; (with_reducible refine (spec_l01In.calls ((rd_T31 l0 a1).f0) 3 12 false _ A58.out).mono ?_); rintro e w' ⟨rfl, ⟨nd, rfl⟩⟩; (try first | exact dq1 | exact dq2)) | (go_at_call 42; (with_reducible refine (spec_l01In.calls ((rd_T31 l0 a1).f0) 13 15 false _ A73.out).mono ?_); rintro e w' ⟨rfl, ⟨nd, rfl⟩⟩; (try first | exact dq1 | exact dq2); obtain ⟨Ao109, co109, eo109⟩ := Kd.R_slice HO_8.out; subst eo109; have p145 : 0 ≤ (0 : Int) := (by omega); have q145 : 0 < (x8_2.length : Int) := oD (by assumption); obtain ⟨ad145, e145, hx145_0⟩ := Kd.at_int (Kd.R_reads' HO_8.out).2.2 0 p145 q145; cases e145; have qi145 : (0 < x8_2.length) = True := eq_true (by omega); (try rw [tn0] at hx145_0); (try rw [Addr.add_zero'] at hx145_0); replace p145 := eq_true p145; replace q145 := eq_true q145)))
                    go_ret
                    exact ⟨by rfl, by exact bW⟩
                  ·rw [if_neg c101] at H
                   exact absurd H (by simp)
                 ·rw [if_neg c100] at H
                  have c100b0 : decide (0 ≤ ((rd_T31 l0 a1).f2)) = false := decide_eq_false c100
                  clear c100
                  obtain rfl := oI H
                  obtain ⟨hcz110_0, hcz110_1, hcz110_2, hcz110_3, hcz110_4, hcz110_5⟩ := cz6 BK119.out
                  obtain ⟨hfz110_0, hfz110_1, hfz110_2, hfz110_3, hfz110_4, hfz110_5⟩ := fz6 BK119.out
                  go_wp2_with (first | (go_at_call 42; (with_reducible refine (spec_l01In.calls ((rd_T31 l0 a1).f0) 3 12 false _ A58.out).mono ?_); rintro e w' ⟨rfl, ⟨nd, rfl⟩⟩; (try first | exact dq1 | exact dq2)) | (go_at_call 42; (with_reducible refine (spec_l01In.calls ((rd_T31 l0 a1).f0) 13 15 false _ A73.out).mono ?_); rintro e w' ⟨rfl, ⟨nd, rfl⟩⟩; (try first | exact dq1 | exact dq2)))
                  repeat (go_quiet (first | (go_at_call 42; (with_reducible refine (spec_l01In.calls ((rd_T31 l0 a1).f0) 3 12 false _ A58.out).mono ?_); rintro e w' ⟨rfl, ⟨nd, rfl⟩⟩; (try first | exact dq1 | exact dq2)) | (go_at_call 42; (with_reducible refine (spec_l01In.calls ((rd_T31 l0 a1).f0) 13 15 false _ A73.out).mono ?_); rintro e w' ⟨rfl, ⟨nd, rfl⟩⟩; (try first | exact dq1 | exact dq2))); try go_wp2_with (first | (go_at_call 42; (with_reducible refine (spec_l01In.calls ((rd_T31 l0 a1).f0) 3 12 false _ A58.out).mono ?_); rintro e w' ⟨rfl, ⟨nd, rfl⟩⟩; (try first | exact dq1 | exact dq2)) | (go_at_call 42; (with_reducible refine (spec_l01In.calls ((rd_T31 l0 a1).f0) 13 15 false _ A73.out).mono ?_); rintro e w' ⟨rfl, ⟨nd, rfl⟩⟩; (try first | exact dq1 | exact dq2))))
                  go_ret
                  exact ⟨by rfl, by exact bW⟩
                ·rw [if_neg c99] at H
                 have c99b0 : (((rd_T31 l0 a1).f0) == 17) = false := beq_eq_false_iff_ne.mpr c99
                 have c99b1 : (((rd_T31 l0 a1).f0) != 17) = true := bne_iff_ne.mpr c99
                 by_cases c111 : ((rd_T31 l0 a1).f0) = 18
                 ·rw [if_pos c111] at H
                  have c111b0 : (((rd_T31 l0 a1).f0) == 18) = true := beq_iff_eq.mpr c111
                  have c111b1 : (((rd_T31 l0 a1).f0) != 18) = false := bne_eq_false_iff_eq.mpr c111
                  clear c111
                  by_cases c112 : 0 < (x8_2.length : Int)
                  ·rw [if_pos c112] at H
                   have c112b0 : decide (0 < (x8_2.length : Int)) = true := decide_eq_true c112
                   have c112b1 : decide (0 < x8_2.length) = true := decide_eq_true (by omega)
                   have c112p : 0 < x8_2.length := by omega
                   clear c112
                   by_cases c113 : (rd x8_2 0) = 1
                   ·rw [if_pos c113] at H
                    have c113b0 : ((rd x8_2 0) == 1) = true := beq_iff_eq.mpr c113
                    have c113b1 : ((rd x8_2 0) != 1) = false := bne_eq_false_iff_eq.mpr c113
                    clear c113
                    by_cases c114 : 1 < (x8_2.length : Int)
                    ·rw [if_pos c114] at H
                     have c114b0 : decide (1 < (x8_2.length : Int)) = true := decide_eq_true c114
                     have c114b1 : decide (1 < x8_2.length) = true := decide_eq_true (by omega)
                     clear c114
                     by_cases c115 : (rd x8_2 1) = ((rd_T31 l0 a1).f1)
                     ·rw [if_pos c115] at H
                      have c115b0 : ((rd x8_2 1) == ((rd_T31 l0 a1).f1)) = true := beq_iff_eq.mpr c115
                      have c115b1 : ((rd x8_2 1) != ((rd_T31 l0 a1).f1)) = false := bne_eq_false_iff_eq.mpr c115
                      clear c115
                      by_cases c116 : 2 < (x8_2.length : Int)
                      ·rw [if_pos c116] at H
                       have c116b0 : decide (2 < (x8_2.length : Int)) = true := decide_eq_true c116
                       have c116b1 : decide (2 < x8_2.length) = true := decide_eq_true (by omega)
                       clear c116
                       by_cases c117 : (rd x8_2 2) = ((rd_T31 l0 a1).f1)
                       ·rw [if_pos c117] at H
                        have c117b0 : ((rd x8_2 2) == ((rd_T31 l0 a1).f1)) = true := beq_iff_eq.mpr c117
                        have c117b1 : ((rd x8_2 2) != ((rd_T31 l0 a1).f1)) = false := bne_eq_false_iff_eq.mpr c117
                        clear c117
                        obtain rfl := oI H
                        obtain ⟨hcz118_0, hcz118_1, hcz118_2, hcz118_3, hcz118_4, hcz118_5⟩ := cz6 BK119.out
                        obtain ⟨hfz118_0, hfz118_1, hfz118_2, hfz118_3, hfz118_4, hfz118_5⟩ := fz6 BK119.out
                        go_wp2_with (first | (go_at_call 42; (with_reducible refine (spec_l01In.calls ((rd_T31 l0 a1).f0) 3 12 false _ A58.out).mono ?_); rintro e w' ⟨rfl, ⟨nd, rfl⟩⟩; (try first | exact dq1 | exact dq2)) | (go_at_call 42; (with_reducible refine (spec_l01In.calls ((rd_T31 l0 a1).f0) 13 15 false _ A73.out).mono ?_); rintro e w' ⟨rfl, ⟨nd, rfl⟩⟩; (try first | exact dq1 | exact dq2); obtain ⟨Ao119, co119, eo119⟩ := Kd.R_slice HO_8.out; subst eo119; have p146 : 0 ≤ (0 : Int) := (by omega); have q146 : 0 < (x8_2.length : Int) := oD (by assumption); obtain ⟨ad146, e146, hx146_0⟩ := Kd.at_int (Kd.R_reads' HO_8.out).2.2 0 p146 q146; cases e146; have qi146 : (0 < x8_2.length) = True := eq_true (by omega); (try rw [tn0] at hx146_0); (try rw [Addr.add_zero'] at hx146_0); replace p146 := eq_true p146; replace q146 := eq_true q146; have p147 : 0 ≤ (1 : Int) := (by omega); have q147 : 1 < (x8_2.length : Int) := oD (by assumption); obtain ⟨ad147, e147, hx147_0⟩ := Kd.at_int (Kd.R_reads' HO_8.out).2.2 1 p147 q147; obtain rfl : ad146 = ad147 := (by injection e147); (try simp only [show (1 : Int).toNat = 1 from rfl, Nat.reduceMul, Nat.reduceEqDiff, Go.Addr.add, ↓reduceIte] at hx147_0); have qi147 : (1 < x8_2.length) = True := eq_true (by omega); (try rw [show ((1 : Int)).toNat = 1 from rfl] at hx147_0); replace p147 := eq_true p147; replace q147 := eq_true q147; have p148 : 0 ≤ (2 : Int) := (by omega); have q148 : 2 < (x8_2.length : Int) := oD (by assumption); obtain ⟨ad148, e148, hx148_0⟩ := Kd.at_int (Kd.R_reads' HO_8.out).2.2 2 p148 q148; obtain rfl : ad146 = ad148 := (by injection e148); (try simp only [show (2 : Int).toNat = 2 from rfl, Nat.reduceMul, Nat.reduceEqDiff, Go.Addr.add, ↓reduceIte] at hx148_0); have qi148 : (2 < x8_2.length) = True := eq_true (by omega); (try rw [show ((2 : Int)).toNat = 2 from rfl] at hx148_0); replace p148 := eq_true p148; replace q148 := eq_true q148))
                        repeat (go_quiet (first | (go_at_call 42; (with_reducible refine (spec_l01In.calls ((rd_T31 l0 a1).f0) 3 12 false _ A58.out).mono ?_); rintro e w' ⟨rfl, ⟨nd, rfl⟩⟩; (try first | exact dq1 | exact dq2)) | (go_at_call 42; (with_reducible refine (spec_l01In.calls ((rd_T31 l0 a1).f0) 13 15 false _ A73.out).mono ?_); rintro e w' ⟨rfl, ⟨nd, rfl⟩⟩; (try first | exact dq1 | exact dq2); obtain ⟨Ao119, co119, eo119⟩ := Kd.R_slice HO_8.out; subst eo119; have p146 : 0 ≤ (0 : Int) := (by omega); have q146 : 0 < (x8_2.length : Int) := oD (by assumption); obtain ⟨ad146, e146, hx146_0⟩ := Kd.at_int (Kd.R_reads' HO_8.out).2.2 0 p146 q146; cases e146; have qi146 : (0 < x8_2.length) = True := eq_true (by omega); (try rw [tn0] at hx146_0); (try rw [Addr.add_zero'] at hx146_0); replace p146 := eq_true p146; replace q146 := eq_true q146; have p147 : 0 ≤ (1 : Int) := (by omega); have q147 : 1 < (x8_2.length : Int) := oD (by assumption); obtain ⟨ad147, e147, hx147_0⟩ := Kd.at_int (Kd.R_reads' HO_8.out).2.2 1 p147 q147; obtain rfl : ad146 = ad147 := (by injection e147); (try simp only [show (1 : Int).toNat = 1 from rfl, Nat.reduceMul, Nat.reduceEqDiff, Go.Addr.add, ↓reduceIte] at hx147_0); have qi147 : (1 < x8_2.length) = True := eq_true (by omega); (try rw [show ((1 : Int)).toNat = 1 from rfl] at hx147_0); replace p147 := eq_true p147; replace q147 := eq_true q147; have p148 : 0 ≤ (2 : Int) := (by omega); have q148 : 2 < (x8_2.length : Int) := oD (by assumption); obtain ⟨ad148, e148, hx148_0⟩ := Kd.at_int (Kd.R_reads' HO_8.out).2.2 2 p148 q148; obtain rfl : ad146 = ad148 := (by injection e148); (try simp only [show (2 : Int).toNat = 2 from rfl, Nat.reduceMul, Nat.reduceEqDiff, Go.Addr.add, ↓reduceIte] at hx148_0); have qi148 : (2 < x8_2.length) = True := eq_true (by omega); (try rw [show ((2 : Int)).toNat = 2 from rfl] at hx148_0); replace p148 := eq_true p148; replace q148 := eq_true q148)); try go_wp2_with (first | (go_at_call 42; (with_reducible refine (spec_l01In.calls ((rd_T31 l0 a1).f0) 3 12 false _ A58.out).mono ?_); rintro e w' ⟨rfl, ⟨nd, rfl⟩⟩; (try first | exact dq1 | exact dq2)) | (go_at_call 42; (with_reducible refine (spec_l01In.calls ((rd_T31 l0 a1).f0) 13 15 false _ A73.out).mono ?_); rintro e w' ⟨rfl, ⟨nd, rfl⟩⟩; (try first | exact dq1 | exact dq2); obtain ⟨Ao119, co119, eo119⟩ := Kd.R_slice HO_8.out; subst eo119; have p146 : 0 ≤ (0 : Int) := (by omega); have q146 : 0 < (x8_2.length : Int) := oD (by assumption); obtain ⟨ad146, e146, hx146_0⟩ := Kd.at_int (Kd.R_reads' HO_8.out).2.2 0 p146 q146; cases e146; have qi146 : (0 < x8_2.length) = True := eq_true (by omega); (try rw [tn0] at hx146_0); (try rw [Addr.add_zero'] at hx146_0); replace p146 := eq_true p146; replace q146 := eq_true q146; have p147 : 0 ≤ (1 : Int) := (by omega); have q147 : 1 < (x8_2.length : Int) := oD (by assumption); obtain ⟨ad147, e147, hx147_0⟩ := Kd.at_int (Kd.R_reads' HO_8.out).2.2 1 p147 q147; obtain rfl : ad146 = ad147 := (by injection e147); (try simp only [show (1 : Int).toNat = 1 from rfl, Nat.reduceMul, Nat.reduceEqDiff, Go.Addr.add, ↓reduceIte] at hx147_0); have qi147 : (1 < x8_2.length) = True := eq_true (by omega); (try rw [show ((1 : Int)).toNat = 1 from rfl] at hx147_0); replace p147 := eq_true p147; replace q147 := eq_true q147; have p148 : 0 ≤ (2 : Int) := (by omega); have q148 : 2 < (x8_2.length : Int) := oD (by assumption); obtain ⟨ad148, e148, hx148_0⟩ := Kd.at_int (Kd.R_reads' HO_8.out).2.2 2 p148 q148; obtain rfl : ad146 = ad148 := (by injection e148); (try simp only [show (2 : Int).toNat = 2 from rfl, Nat.reduceMul, Nat.reduceEqDiff, Go.Addr.add, ↓reduceIte] at hx148_0); have qi148 : (2 < x8_2.length) = True := eq_true (by omega); (try rw [show ((2 : Int)).toNat = 2 from rfl] at hx148_0); replace p148 := eq_true p148; replace q148 := eq_true q148)))
                        go_ret
                        exact ⟨by rfl, by exact bW⟩
                       ·rw [if_neg c117] at H
                        have c117b0 : ((rd x8_2 2) == ((rd_T31 l0 a1).f1)) = false := beq_eq_false_iff_ne.mpr c117
                        have c117b1 : ((rd x8_2 2) != ((rd_T31 l0 a1).f1)) = true := bne_iff_ne.mpr c117
                        obtain rfl := oI H
                        obtain ⟨hcz120_0, hcz120_1, hcz120_2, hcz120_3, hcz120_4, hcz120_5⟩ := cz6 BK119.out
                        obtain ⟨hfz120_0, hfz120_1, hfz120_2, hfz120_3, hfz120_4, hfz120_5⟩ := fz6 BK119.out
                        go_wp2_with (first | (go_at_call 42; (with_reducible refine (spec_l01In.calls ((rd_T31 l0 a1).f0) 3 12 false _ A58.out).mono ?_); rintro e w' ⟨rfl, ⟨nd, rfl⟩⟩; (try first | exact dq1 | exact dq2)) | (go_at_call 42; (with_reducible refine (spec_l01In.calls ((rd_T31 l0 a1).f0) 13 15 false _ A73.out).mono ?_); rintro e w' ⟨rfl, ⟨nd, rfl⟩⟩; (try first | exact dq1 | exact dq2); obtain ⟨Ao121, co121, eo121⟩ := Kd.R_slice HO_8.out; subst eo121; have p146 : 0 ≤ (0 : Int) := (by omega); have q146 : 0 < (x8_2.length : Int) := oD (by assumption); obtain ⟨ad146, e146, hx146_0⟩ := Kd.at_int (Kd.R_reads' HO_8.out).2.2 0 p146 q146; cases e146; have qi146 : (0 < x8_2.length) = True := eq_true (by omega); (try rw [tn0] at hx146_0); (try rw [Addr.add_zero'] at hx146_0); replace p146 := eq_true p146; replace q146 := eq_true q146; have p147 : 0 ≤ (1 : Int) := (by omega); have q147 : 1 < (x8_2.length : Int) := oD (by assumption); obtain ⟨ad147, e147, hx147_0⟩ := Kd.at_int (Kd.R_reads' HO_8.out).2.2 1 p147 q147; obtain rfl : ad146 = ad147 := (by injection e147); (try simp only [show (1 : Int).toNat = 1 from rfl, Nat.reduceMul, Nat.reduceEqDiff, Go.Addr.add, ↓reduceIte] at hx147_0); have qi147 : (1 < x8_2.length) = True := eq_true (by omega); (try rw [show ((1 : Int)).toNat = 1 from rfl] at hx147_0); replace p147 := eq_true p147; replace q147 := eq_true q147; have p148 : 0 ≤ (2 : Int) := (by omega); have q148 : 2 < (x8_2.length : Int) := oD (by assumption); obtain ⟨ad148, e148, hx148_0⟩ := Kd.at_int (Kd.R_reads' HO_8.out).2.2 2 p148 q148; obtain rfl : ad146 = ad148 := (by injection e148); (try simp only [show (2 : Int).toNat = 2 from rfl, Nat.reduceMul, Nat.reduceEqDiff, Go.Addr.add, ↓reduceIte] at hx148_0); have qi148 : (2 < x8_2.length) = True := eq_true (by omega); (try rw [show ((2 : Int)).toNat = 2 from rfl] at hx148_0); replace p148 := eq_true p148; replace q148 := eq_true q148))
                        repeat (go_quiet (first | (go_at_call 42; (with_reducible refine (spec_l01In.calls ((rd_T31 l0 a1).f0) 3 12 false _ A58.out).mono ?_); rintro e w' ⟨rfl, ⟨nd, rfl⟩⟩; (try first | exact dq1 | exact dq2)) | (go_at_call 42; (with_reducible refine (spec_l01In.calls ((rd_T31 l0 a1).f0) 13 15 false _ A73.out).mono ?_); rintro e w' ⟨rfl, ⟨nd, rfl⟩⟩; (try first | exact dq1 | exact dq2); obtain ⟨Ao121, co121, eo121⟩ := Kd.R_slice HO_8.out; subst eo121; have p146 : 0 ≤ (0 : Int) := (by omega); have q146 : 0 < (x8_2.length : Int) := oD (by assumption); obtain ⟨ad146, e146, hx146_0⟩ := Kd.at_int (Kd.R_reads' HO_8.out).2.2 0 p146 q146; cases e146; have qi146 : (0 < x8_2.length) = True := eq_true (by omega); (try rw [tn0] at hx146_0); (try rw [Addr.add_zero'] at hx146_0); replace p146 := eq_true p146; replace q146 := eq_true q146; have p147 : 0 ≤ (1 : Int) := (by omega); have q147 : 1 < (x8_2.length : Int) := oD (by assumption); obtain ⟨ad147, e147, hx147_0⟩ := Kd.at_int (Kd.R_reads' HO_8.out).2.2 1 p147 q147; obtain rfl : ad146 = ad147 := (by injection e147); (try simp only [show (1 : Int).toNat = 1 from rfl, Nat.reduceMul, Nat.reduceEqDiff, Go.Addr.add, ↓reduceIte] at hx147_0); have qi147 : (1 < x8_2.length) = True := eq_true (by omega); (try rw [show ((1 : Int)).toNat = 1 from rfl] at hx147_0); replace p147 := eq_true p147; replace q147 := eq_true q147; have p148 : 0 ≤ (2 : Int) := (by omega); have q148 : 2 < (x8_2.length : Int) := oD (by assumption); obtain ⟨ad148, e148, hx148_0⟩ := Kd.at_int (Kd.R_reads' HO_8.out).2.2 2 p148 q148; obtain rfl : ad146 = ad148 := (by injection e148); (try simp only [show (2 : Int).toNat = 2 from rfl, Nat.reduceMul, Nat.reduceEqDiff, Go.Addr.add, ↓reduceIte] at hx148_0); have qi148 : (2 < x8_2.length) = True := eq_true (by omega); (try rw [show ((2 : Int)).toNat = 2 from rfl] at hx148_0); replace p148 := eq_true p148; replace q148 := eq_true q148)); try go_wp2_with (first | (go_at_call 42; (with_reducible refine (spec_l01In.calls ((rd_T31 l0 a1).f0) 3 12 false _ A58.out).mono ?_); rintro e w' ⟨rfl, ⟨nd, rfl⟩⟩; (try first | exact dq1 | exact dq2)) | (go_at_call 42; (with_reducible refine (spec_l01In.calls ((rd_T31 l0 a1).f0) 13 15 false _ A73.out).mono ?_); rintro e w' ⟨rfl, ⟨nd, rfl⟩⟩; (try first | exact dq1 | exact dq2); obtain ⟨Ao121, co121, eo121⟩ := Kd.R_slice HO_8.out; subst eo121; have p146 : 0 ≤ (0 : Int) := (by omega); have q146 : 0 < (x8_2.length : Int) := oD (by assumption); obtain ⟨ad146, e146, hx146_0⟩ := Kd.at_int (Kd.R_reads' HO_8.out).2.2 0 p146 q146; cases e146; have qi146 : (0 < x8_2.length) = True := eq_true (by omega); (try rw [tn0] at hx146_0); (try rw [Addr.add_zero'] at hx146_0); replace p146 := eq_true p146; replace q146 := eq_true q146; have p147 : 0 ≤ (1 : Int) := (by omega); have q147 : 1 < (x8_2.length : Int) := oD (by assumption); obtain ⟨ad147, e147, hx147_0⟩ := Kd.at_int (Kd.R_reads' HO_8.out).2.2 1 p147 q147; obtain rfl : ad146 = ad147 := (by injection e147); (try simp only [show (1 : Int).toNat = 1 from rfl, Nat.reduceMul, Nat.reduceEqDiff, Go.Addr.add, ↓reduceIte] at hx147_0); have qi147 : (1 < x8_2.length) = True := eq_true (by omega); (try rw [show ((1 : Int)).toNat = 1 from rfl] at hx147_0); replace p147 := eq_true p147; replace q147 := eq_true q147; have p148 : 0 ≤ (2 : Int) := (by omega); have q148 : 2 < (x8_2.length : Int) := oD (by assumption); obtain ⟨ad148, e148, hx148_0⟩ := Kd.at_int (Kd.R_reads' HO_8.out).2.2 2 p148 q148; obtain rfl : ad146 = ad148 := (by injection e148); (try simp only [show (2 : Int).toNat = 2 from rfl, Nat.reduceMul, Nat.reduceEqDiff, Go.Addr.add, ↓reduceIte] at hx148_0); have qi148 : (2 < x8_2.length) = True := eq_true (by omega); (try rw [show ((2 : Int)).toNat = 2 from rfl] at hx148_0); replace p148 := eq_true p148; replace q148 := eq_true q148)))
                        go_ret
                        exact ⟨by rfl, by exact bW⟩
                      ·rw [if_neg c116] at H
                       exact absurd H (by simp)
                     ·rw [if_neg c115] at H
                      have c115b0 : ((rd x8_2 1) == ((rd_T31 l0 a1).f1)) = false := beq_eq_false_iff_ne.mpr c115
                      have c115b1 : ((rd x8_2 1) != ((rd_T31 l0 a1).f1)) = true := bne_iff_ne.mpr c115
                      obtain rfl := oI H
                      obtain ⟨hcz122_0, hcz122_1, hcz122_2, hcz122_3, hcz122_4, hcz122_5⟩ := cz6 BK119.out
                      obtain ⟨hfz122_0, hfz122_1, hfz122_2, hfz122_3, hfz122_4, hfz122_5⟩ := fz6 BK119.out
                      go_wp2_with (first | (go_at_call 42; (with_reducible refine (spec_l01In.calls ((rd_T31 l0 a1).f0) 3 12 false _ A58.out).mono ?_); rintro e w' ⟨rfl, ⟨nd, rfl⟩⟩; (try first | exact dq1 | exact dq2)) | (go_at_call 42; (with_reducible refine (spec_l01In.calls ((rd_T31 l0 a1).f0) 13 15 false _ A73.out).mono ?_); rintro e w' ⟨rfl, ⟨nd, rfl⟩⟩; (try first | exact dq1 | exact dq2); obtain ⟨Ao123, co123, eo123⟩ := Kd.R_slice HO_8.out; subst eo123; have p146 : 0 ≤ (0 : Int) := (by omega); have q146 : 0 < (x8_2.length : Int) := oD (by assumption); obtain ⟨ad146, e146, hx146_0⟩ := Kd.at_int (Kd.R_reads' HO_8.out).2.2 0 p146 q146; cases e146; have qi146 : (0 < x8_2.length) = True := eq_true (by omega); (try rw [tn0] at hx146_0); (try rw [Addr.add_zero'] at hx146_0); replace p146 := eq_true p146; replace q146 := eq_true q146; have p147 : 0 ≤ (1 : Int) := (by omega); have q147 : 1 < (x8_2.length : Int) := oD (by assumption); obtain ⟨ad147, e147, hx147_0⟩ := Kd.at_int (Kd.R_reads' HO_8.out).2.2 1 p147 q147; obtain rfl : ad146 = ad147 := (by injection e147); (try simp only [show (1 : Int).toNat = 1 from rfl, Nat.reduceMul, Nat.reduceEqDiff, Go.Addr.add, ↓reduceIte] at hx147_0); have qi147 : (1 < x8_2.length) = True := eq_true (by omega); (try rw [show ((1 : Int)).toNat = 1 from rfl] at hx147_0); replace p147 := eq_true p147; replace q147 := eq_true q147))
                      repeat (go_quiet (first | (go_at_call 42; (with_reducible refine (spec_l01In.calls ((rd_T31 l0 a1).f0) 3 12 false _ A58.out).mono ?_); rintro e w' ⟨rfl, ⟨nd, rfl⟩⟩; (try first | exact dq1 | exact dq2)) | (go_at_call 42; (with_reducible refine (spec_l01In.calls ((rd_T31 l0 a1).f0) 13 15 false _ A73.out).mono ?_); rintro e w' ⟨rfl, ⟨nd, rfl⟩⟩; (try first | exact dq1 | exact dq2); obtain ⟨Ao123, co123, eo123⟩ := Kd.R_slice HO_8.out; subst eo123; have p146 : 0 ≤ (0 : Int) := (by omega); have q146 : 0 < (x8_2.length : Int) := oD (by assumption); obtain ⟨ad146, e146, hx146_0⟩ := Kd.at_int (Kd.R_reads' HO_8.out).2.2 0 p146 q146; cases e146; have qi146 : (0 < x8_2.length) = True := eq_true (by omega); (try rw [tn0] at hx146_0); (try rw [Addr.add_zero'] at hx146_0); replace p146 := eq_true p146; replace q146 := eq_true q146; have p147 : 0 ≤ (1 : Int) := (by omega); have q147 : 1 < (x8_2.length : Int) := oD (by assumption); obtain ⟨ad147, e147, hx147_0⟩ := Kd.at_int (Kd.R_reads' HO_8.out).2.2 1 p147 q147; obtain rfl : ad146 = ad147 := (by injection e147); (try simp only [show (1 : Int).toNat = 1 from rfl, Nat.reduceMul, Nat.reduceEqDiff, Go.Addr.add, ↓reduceIte] at hx147_0); have qi147 : (1 < x8_2.length) = True := eq_true (by omega); (try rw [show ((1 : Int)).toNat = 1 from rfl] at hx147_0); replace p147 := eq_true p147; replace q147 := eq_true q147)); try go_wp2_with (first | (go_at_call 42; (with_reducible refine (spec_l01In.calls ((rd_T31 l0 a1).f0) 3 12 false _ A58.out).mono ?_); rintro e w' ⟨rfl, ⟨nd, rfl⟩⟩; (try first | exact dq1 | exact dq2)) | (go_at_call 42; (with_reducible refine (spec_l01In.calls ((rd_T31 l0 a1).f0) 13 15 false _ A73.out).mono ?_); rintro e w' ⟨rfl, ⟨nd, rfl⟩⟩; (try first | exact dq1 | exact dq2); obtain ⟨Ao123, co123, eo123⟩ := Kd.R_slice HO_8.out; subst eo123; have p146 : 0 ≤ (0 : Int) := (by omega); have q146 : 0 < (x8_2.length : Int) := oD (by assumption); obtain ⟨ad146, e146, hx146_0⟩ := Kd.at_int (Kd.R_reads' HO_8.out).2.2 0 p146 q146; cases e146; have qi146 : (0 < x8_2.length) = True := eq_true (by omega); (try rw [tn0] at hx146_0); (try rw [Addr.add_zero'] at hx146_0); replace p146 := eq_true p146; replace q146 := eq_true q146; have p147 : 0 ≤ (1 : Int) := (by omega); have q147 : 1 < (x8_2.length : Int) := oD (by assumption); obtain ⟨ad147, e147, hx147_0⟩ := Kd.at_int (Kd.R_reads' HO_8.out).2.2 1 p147 q147; obtain rfl : ad146 = ad147 := (by injection e147); (try simp only [show (1 : Int).toNat = 1 from rfl, Nat.reduceMul, Nat.reduceEqDiff, Go.Addr.add, ↓reduceIte] at hx147_0); have qi147 : (1 < x8_2.length) = True := eq_true (by omega); (try rw [show ((1 : Int)).toNat = 1 from rfl] at hx147_0); replace p147 := eq_true p147; replace q147 := eq_true q147)))
                      go_ret
                      exact ⟨by rfl, by exact bW⟩
                    ·rw [if_neg c114] at H
                     exact absurd H (by simp)
                   ·rw [if_neg c113] at H
                    have c113b0 : ((rd x8_2 0) == 1) = false := beq_eq_false_iff_ne.mpr c113
                    have c113b1 : ((rd x8_2 0) != 1) = true := bne_iff_ne.mpr c113
                    obtain rfl := oI H
                    obtain ⟨hcz124_0, hcz124_1, hcz124_2, hcz124_3, hcz124_4, hcz124_5⟩ := cz6 BK119.out
                    obtain ⟨hfz124_0, hfz124_1, hfz124_2, hfz124_3, hfz124_4, hfz124_5⟩ := fz6 BK119.out
                    go_wp2_with (first | (go_at_call 42; (with_reducible refine (spec_l01In.calls ((rd_T31 l0 a1).f0) 3 12 false _ A58.out).mono ?_); rintro e w' ⟨rfl, ⟨nd, rfl⟩⟩; (try first | exact dq1 | exact dq2)) | (go_at_call 42; (with_reducible refine (spec_l01In.calls ((rd_T31 l0 a1).f0) 13 15 false _ A73.out).mono ?_); rintro e w' ⟨rfl, ⟨nd, rfl⟩⟩; (try first | exact dq1 | exact dq2); obtain ⟨Ao125, co125, eo125⟩ := Kd.R_slice HO_8.out; subst eo125; have p146 : 0 ≤ (0 : Int) := (by omega); have q146 : 0 < (x8_2.length : Int) := oD (by assumption); obtain ⟨ad146, e146, hx146_0⟩ := Kd.at_int (Kd.R_reads' HO_8.out).2.2 0 p146 q146; cases e146; have qi146 : (0 < x8_2.length) = True := eq_true (by omega); (try rw [tn0] at hx146_0); (try rw [Addr.add_zero'] at hx146_0); replace p146 := eq_true p146; replace q146 := eq_true q146))
                    repeat (go_quiet (first | (go_at_call 42; (with_reducible refine (spec_l01In.calls ((rd_T31 l0 a1).f0) 3 12 false _ A58.out).mono ?_); rintro e w' ⟨rfl, ⟨nd, rfl⟩⟩; (try first | exact dq1 | exact dq2)) | (go_at_call 42; (with_reducible refine (spec_l01In.calls ((rd_T31 l0 a1).f0) 13 15 false _ A73.out).mono ?_); rintro e w' ⟨rfl, ⟨nd, rfl⟩⟩; (try first | exact dq1 | exact dq2); obtain ⟨Ao125, co125, eo125⟩ := Kd.R_slice HO_8.out; subst eo125; have p146 : 0 ≤ (0 : Int) := (by omega); have q146 : 0 < (x8_2.length : Int) := oD (by assumption); obtain ⟨ad146, e146, hx146_0⟩ := Kd.at_int (Kd.R_reads' HO_8.out).2.2 0 p146 q146; cases e146; have qi146 : (0 < x8_2.length) = True := eq_true (by omega); (try rw [tn0] at hx146_0); (try rw [Addr.add_zero'] at hx146_0); replace p146 := eq_true p146; replace q146 := eq_true q146)); try go_wp2_with (first | (go_at_call 42; (with_reducible refine (spec_l01In.calls ((rd_T31 l0 a1).f0) 3 12 false _ A58.out).mono ?_); rintro e w' ⟨rfl, ⟨nd, rfl⟩⟩; (try first | exact dq1 | exact dq2)) | (go_at_call 42; (with_reducible refine (spec_l01In.calls ((rd_T31 l0 a1).f0) 13 15 false _ A73.out).mono ?_); rintro e w' ⟨rfl, ⟨nd, rfl⟩⟩; (try first | exact dq1 | exact dq2); obtain ⟨Ao125, co125, eo125⟩ := Kd.R_slice HO_8.out; subst eo125; have p146 : 0 ≤ (0 : Int) := (by omega); have q146 : 0 < (x8_2.length : Int) := oD (by assumption); obtain ⟨ad146, e146, hx146_0⟩ := Kd.at_int (Kd.R_reads' HO_8.out).2.2 0 p146 q146; cases e146; have qi146 : (0 < x8_2.length) = True := eq_true (by omega); (try rw [tn0] at hx146_0); (try rw [Addr.add_zero'] at hx146_0); replace p146 := eq_true p146; replace q146 := eq_true q146)))
                    go_ret
                    exact ⟨by rfl, by exact bW⟩
                  ·rw [if_neg c112] at H
                   exact absurd H (by simp)
                 ·rw [if_neg c111] at H
                  have c111b0 : (((rd_T31 l0 a1).f0) == 18) = false := beq_eq_false_iff_ne.mpr c111
                  have c111b1 : (((rd_T31 l0 a1).f0) != 18) = true := bne_iff_ne.mpr c111
                  have HC126 := am H
                  clear H
                  obtain ⟨hcz127_0, hcz127_1, hcz127_2, hcz127_3, hcz127_4, hcz127_5⟩ := cz6 BK119.out
                  obtain ⟨hfz127_0, hfz127_1, hfz127_2, hfz127_3, hfz127_4, hfz127_5⟩ := fz6 BK119.out
                  go_upto_region 31 with (first | (go_at_call 42; (with_reducible refine (spec_l01In.calls ((rd_T31 l0 a1).f0) 3 12 false _ A58.out).mono ?_); rintro e w' ⟨rfl, ⟨nd, rfl⟩⟩; (try first | exact dq1 | exact dq2)) | (go_at_call 42; (with_reducible refine (spec_l01In.calls ((rd_T31 l0 a1).f0) 13 15 false _ A73.out).mono ?_); rintro e w' ⟨rfl, ⟨nd, rfl⟩⟩; (try first | exact dq1 | exact dq2)))
                  repeat (go_quiet (first | (go_at_call 42; (with_reducible refine (spec_l01In.calls ((rd_T31 l0 a1).f0) 3 12 false _ A58.out).mono ?_); rintro e w' ⟨rfl, ⟨nd, rfl⟩⟩; (try first | exact dq1 | exact dq2)) | (go_at_call 42; (with_reducible refine (spec_l01In.calls ((rd_T31 l0 a1).f0) 13 15 false _ A73.out).mono ?_); rintro e w' ⟨rfl, ⟨nd, rfl⟩⟩; (try first | exact dq1 | exact dq2))); go_upto_region 31 with (first | (go_at_call 42; (with_reducible refine (spec_l01In.calls ((rd_T31 l0 a1).f0) 3 12 false _ A58.out).mono ?_); rintro e w' ⟨rfl, ⟨nd, rfl⟩⟩; (try first | exact dq1 | exact dq2)) | (go_at_call 42; (with_reducible refine (spec_l01In.calls ((rd_T31 l0 a1).f0) 13 15 false _ A73.out).mono ?_); rintro e w' ⟨rfl, ⟨nd, rfl⟩⟩; (try first | exact dq1 | exact dq2))))
                  (try simp only [Act.put, List.setIfInBounds_toArray, List.set_cons_zero, List.set_cons_succ])
                  go_cut [258] (fun v258 wc => ∃ (kq : Nat) (x258_125 : Bool), v258 = .bool x258_125 ∧ Aside0 (spec_l02Node.j2 kq x8_2 x258_125 ((rd_T31 l0 a1).f0) ((rd_T31 l0 a1).f1) ((rd_T31 l0 a1).f2) ((rd_T31 l0 a1).f3) ((rd_T31 l0 a1).f4) ((rd_T31 l0 a1).f5) = some r) ∧ Aside0 (kq ≤ k2) ∧ Aside0 (Kd.R (Kd.int .i64) 3 wc w.heap.size (fun _ => True) u8 x8_2) ∧ Aside0 (wc.heap[gb119]? = some (.cells #[.int .i64 ((rd_T31 l0 a1).f0), .int .i64 ((rd_T31 l0 a1).f1), .int .i64 ((rd_T31 l0 a1).f2), .int .i64 ((rd_T31 l0 a1).f3), .int .i64 ((rd_T31 l0 a1).f4), .int .i64 ((rd_T31 l0 a1).f5)] 31 (0, 0))) ∧ Aside0 (Below w.heap.size w wc))
                  case first =>
                   have H := HC126.out
                   clear HC126
                   by_cases c128 : ((rd_T31 l0 a1).f0) = 19
                   ·rw [if_pos c128] at H
                    have c128b0 : (((rd_T31 l0 a1).f0) == 19) = true := beq_iff_eq.mpr c128
                    have c128b1 : (((rd_T31 l0 a1).f0) != 19) = false := bne_eq_false_iff_eq.mpr c128
                    clear c128
                    (skip)
                    have H' := am H
                    clear H
                    obtain ⟨hcz129_0, hcz129_1, hcz129_2, hcz129_3, hcz129_4, hcz129_5⟩ := cz6 BK119.out
                    obtain ⟨hfz129_0, hfz129_1, hfz129_2, hfz129_3, hfz129_4, hfz129_5⟩ := fz6 BK119.out
                    go_wp2
                    repeat (go_quiet (fail); try go_wp2)
                    go_meet
                    case rel => exact ⟨_, (true), (by rfl), H', ⟨by have := HK1.out; have := HK2.out; omega⟩, ⟨by exact sR <| Kd.R_mono HO_8.out (fun _ hk => trivial)⟩, ⟨by exact sB <| BK119.out⟩, ⟨by exact bW⟩⟩
                   ·rw [if_neg c128] at H
                    have c128b0 : (((rd_T31 l0 a1).f0) == 19) = false := beq_eq_false_iff_ne.mpr c128
                    have c128b1 : (((rd_T31 l0 a1).f0) != 19) = true := bne_iff_ne.mpr c128
                    (skip)
                    have H' := am H
                    clear H
                    obtain ⟨hcz130_0, hcz130_1, hcz130_2, hcz130_3, hcz130_4, hcz130_5⟩ := cz6 BK119.out
                    obtain ⟨hfz130_0, hfz130_1, hfz130_2, hfz130_3, hfz130_4, hfz130_5⟩ := fz6 BK119.out
                    go_wp2
                    repeat (go_quiet (fail); try go_wp2)
                    go_meet
                    case rel => exact ⟨_, ((((rd_T31 l0 a1).f0) == 20)), (by rfl), H', ⟨by have := HK1.out; have := HK2.out; omega⟩, ⟨by exact sR <| Kd.R_mono HO_8.out (fun _ hk => trivial)⟩, ⟨by exact sB <| BK119.out⟩, ⟨by exact bW⟩⟩
                  case rest =>
                   clear HC126
                   clear c88 c88b0 c88b1 c99 c99b0 c99b1 c111 c111b0 c111b1 hcz127_0 hcz127_1 hcz127_2 hcz127_3 hcz127_4 hcz127_5 hfz127_0 hfz127_1 hfz127_2 hfz127_3 hfz127_4 hfz127_5
                   obtain ⟨kq, x258_125, rfl, HA, HJ125, HO_8, BK119, HB⟩ := hcut
                   cases kq with
                   | zero => exact absurd HA.out (by simp [spec_l02Node.j2])
                   | succ kj125 =>
                    have H := HA.out
                    clear HA
                    simp only [spec_l02Node.j2] at H
                    by_cases c131 : x258_125 = true
                    ·subst c131
                     rw [if_pos rfl] at H
                     replace H := oB H
                     obtain ⟨t149, A1320, H⟩ := H
                     have A132 := am A1320
                     clear A1320
                     by_cases c133 : t149 = true
                     ·subst c133
                      rw [if_pos rfl] at H
                      replace H := oB H
                      obtain ⟨t150, A1340, H⟩ := H
                      have A134 := am A1340
                      clear A1340
                      by_cases c135 : t150 = true
                      ·subst c135
                       rw [if_pos rfl] at H
                       by_cases c136 : 0 < (x8_2.length : Int)
                       ·rw [if_pos c136] at H
                        have c136b0 : decide (0 < (x8_2.length : Int)) = true := decide_eq_true c136
                        have c136b1 : decide (0 < x8_2.length) = true := decide_eq_true (by omega)
                        have c136p : 0 < x8_2.length := by omega
                        clear c136
                        by_cases c137 : (rd x8_2 0) = 1
                        ·rw [if_pos c137] at H
                         have c137b0 : ((rd x8_2 0) == 1) = true := beq_iff_eq.mpr c137
                         have c137b1 : ((rd x8_2 0) != 1) = false := bne_eq_false_iff_eq.mpr c137
                         clear c137
                         by_cases c138 : ((rd_T31 l0 a1).f1) = 1
                         ·rw [if_pos c138] at H
                          have c138b0 : (((rd_T31 l0 a1).f1) == 1) = true := beq_iff_eq.mpr c138
                          have c138b1 : (((rd_T31 l0 a1).f1) != 1) = false := bne_eq_false_iff_eq.mpr c138
                          clear c138
                          obtain rfl := oI H
                          obtain ⟨hcz139_0, hcz139_1, hcz139_2, hcz139_3, hcz139_4, hcz139_5⟩ := cz6 BK119.out
                          obtain ⟨hfz139_0, hfz139_1, hfz139_2, hfz139_3, hfz139_4, hfz139_5⟩ := fz6 BK119.out
                          go_wp2_with (first | (go_at_call 42; (with_reducible refine (spec_l01In.calls ((rd_T31 l0 a1).f2) 0 7 true _ A132.out).mono ?_); rintro e w' ⟨rfl, ⟨nd, rfl⟩⟩; (try first | exact dq1 | exact dq2)) | (go_at_call 42; (with_reducible refine (spec_l01In.calls ((rd_T31 l0 a1).f4) 1 8 true _ A134.out).mono ?_); rintro e w' ⟨rfl, ⟨nd, rfl⟩⟩; (try first | exact dq1 | exact dq2); obtain ⟨Ao140, co140, eo140⟩ := Kd.R_slice HO_8.out; subst eo140; have p151 : 0 ≤ (0 : Int) := (by omega); have q151 : 0 < (x8_2.length : Int) := oD (by assumption); obtain ⟨ad151, e151, hx151_0⟩ := Kd.at_int (Kd.R_reads' HO_8.out).2.2 0 p151 q151; cases e151; have qi151 : (0 < x8_2.length) = True := eq_true (by omega); (try rw [tn0] at hx151_0); (try rw [Addr.add_zero'] at hx151_0); replace p151 := eq_true p151; replace q151 := eq_true q151))
                          go_ret
                          exact ⟨by rfl, by exact bW⟩
                         ·rw [if_neg c138] at H
                          have c138b0 : (((rd_T31 l0 a1).f1) == 1) = false := beq_eq_false_iff_ne.mpr c138
                          have c138b1 : (((rd_T31 l0 a1).f1) != 1) = true := bne_iff_ne.mpr c138
                          obtain rfl := oI H
                          obtain ⟨hcz141_0, hcz141_1, hcz141_2, hcz141_3, hcz141_4, hcz141_5⟩ := cz6 BK119.out
                          obtain ⟨hfz141_0, hfz141_1, hfz141_2, hfz141_3, hfz141_4, hfz141_5⟩ := fz6 BK119.out
                          go_wp2_with (first | (go_at_call 42; (with_reducible refine (spec_l01In.calls ((rd_T31 l0 a1).f2) 0 7 true _ A132.out).mono ?_); rintro e w' ⟨rfl, ⟨nd, rfl⟩⟩; (try first | exact dq1 | exact dq2)) | (go_at_call 42; (with_reducible refine (spec_l01In.calls ((rd_T31 l0 a1).f4) 1 8 true _ A134.out).mono ?_); rintro e w' ⟨rfl, ⟨nd, rfl⟩⟩; (try first | exact dq1 | exact dq2); obtain ⟨Ao142, co142, eo142⟩ := Kd.R_slice HO_8.out; subst eo142; have p151 : 0 ≤ (0 : Int) := (by omega); have q151 : 0 < (x8_2.length : Int) := oD (by assumption); obtain ⟨ad151, e151, hx151_0⟩ := Kd.at_int (Kd.R_reads' HO_8.out).2.2 0 p151 q151; cases e151; have qi151 : (0 < x8_2.length) = True := eq_true (by omega); (try rw [tn0] at hx151_0); (try rw [Addr.add_zero'] at hx151_0); replace p151 := eq_true p151; replace q151 := eq_true q151))
                          go_ret
                          exact ⟨by rfl, by exact bW⟩
                        ·rw [if_neg c137] at H
                         have c137b0 : ((rd x8_2 0) == 1) = false := beq_eq_false_iff_ne.mpr c137
                         have c137b1 : ((rd x8_2 0) != 1) = true := bne_iff_ne.mpr c137
                         obtain rfl := oI H
                         obtain ⟨hcz143_0, hcz143_1, hcz143_2, hcz143_3, hcz143_4, hcz143_5⟩ := cz6 BK119.out
                         obtain ⟨hfz143_0, hfz143_1, hfz143_2, hfz143_3, hfz143_4, hfz143_5⟩ := fz6 BK119.out
                         go_wp2_with (first | (go_at_call 42; (with_reducible refine (spec_l01In.calls ((rd_T31 l0 a1).f2) 0 7 true _ A132.out).mono ?_); rintro e w' ⟨rfl, ⟨nd, rfl⟩⟩; (try first | exact dq1 | exact dq2)) | (go_at_call 42; (with_reducible refine (spec_l01In.calls ((rd_T31 l0 a1).f4) 1 8 true _ A134.out).mono ?_); rintro e w' ⟨rfl, ⟨nd, rfl⟩⟩; (try first | exact dq1 | exact dq2); obtain ⟨Ao144, co144, eo144⟩ := Kd.R_slice HO_8.out; subst eo144; have p151 : 0 ≤ (0 : Int) := (by omega); have q151 : 0 < (x8_2.length : Int) := oD (by assumption); obtain ⟨ad151, e151, hx151_0⟩ := Kd.at_int (Kd.R_reads' HO_8.out).2.2 0 p151 q151; cases e151; have qi151 : (0 < x8_2.length) = True := eq_true (by omega); (try rw [tn0] at hx151_0); (try rw [Addr.add_zero'] at hx151_0); replace p151 := eq_true p151; replace q151 := eq_true q151))
                         go_ret
                         exact ⟨by rfl, by exact bW⟩
                       ·rw [if_neg c136] at H
                        exact absurd H (by simp)
                      ·replace c135 := Bool.eq_false_iff.mpr c135
                       subst c135
                       rw [if_neg (show ¬ (false = true) by decide)] at H
                       obtain rfl := oI H
                       obtain ⟨hcz145_0, hcz145_1, hcz145_2, hcz145_3, hcz145_4, hcz145_5⟩ := cz6 BK119.out
                       obtain ⟨hfz145_0, hfz145_1, hfz145_2, hfz145_3, hfz145_4, hfz145_5⟩ := fz6 BK119.out
                       go_wp2_with (first | (go_at_call 42; (with_reducible refine (spec_l01In.calls ((rd_T31 l0 a1).f2) 0 7 true _ A132.out).mono ?_); rintro e w' ⟨rfl, ⟨nd, rfl⟩⟩; (try first | exact dq1 | exact dq2)) | (go_at_call 42; (with_reducible refine (spec_l01In.calls ((rd_T31 l0 a1).f4) 1 8 false _ A134.out).mono ?_); rintro e w' ⟨rfl, ⟨nd, rfl⟩⟩; (try first | exact dq1 | exact dq2)))
                       go_ret
                       exact ⟨by rfl, by exact bW⟩
                     ·replace c133 := Bool.eq_false_iff.mpr c133
                      subst c133
                      rw [if_neg (show ¬ (false = true) by decide)] at H
                      obtain rfl := oI H
                      obtain ⟨hcz146_0, hcz146_1, hcz146_2, hcz146_3, hcz146_4, hcz146_5⟩ := cz6 BK119.out
                      obtain ⟨hfz146_0, hfz146_1, hfz146_2, hfz146_3, hfz146_4, hfz146_5⟩ := fz6 BK119.out
                      go_wp2_with (first | (go_at_call 42; (with_reducible refine (spec_l01In.calls ((rd_T31 l0 a1).f2) 0 7 false _ A132.out).mono ?_); rintro e w' ⟨rfl, ⟨nd, rfl⟩⟩; (try first | exact dq1 | exact dq2)))
                      go_ret
                      exact ⟨by rfl, by exact bW⟩
                    ·replace c131 := Bool.eq_false_iff.mpr c131
                     subst c131
                     rw [if_neg (show ¬ (false = true) by decide)] at H
                     obtain rfl := oI H
                     go_wp2
                     repeat (go_quiet (fail); try go_wp2)
                     go_ret
                     exact ⟨by rfl, by exact bW⟩
      ·replace c16 := Bool.eq_false_iff.mpr c16
       subst c16
       rw [if_neg (show ¬ (false = true) by decide)] at H
       obtain rfl := oI H
       obtain ⟨Ao147, co147, eo147⟩ := Kd.R_slice HO_6.out
       subst eo147
       obtain ⟨hcz148_0, hcz148_1, hcz148_2, hcz148_3, hcz148_4, hcz148_5⟩ := cz6 BK119.out
       obtain ⟨hfz148_0, hfz148_1, hfz148_2, hfz148_3, hfz148_4, hfz148_5⟩ := fz6 BK119.out
       go_wp2_with (first | (go_at_call 42; (with_reducible refine (spec_l01In.calls ((rd_T31 l0 a1).f1) 1 8 false _ A15.out).mono ?_); rintro e w' ⟨rfl, ⟨nd, rfl⟩⟩; (try first | exact dq1 | exact dq2)))
       go_ret
       exact ⟨by rfl, by exact bW⟩
  ·rw [if_neg c4] at H
   exact absurd H (by simp)
 ·rw [if_neg c3] at H
  exact absurd H (by simp)
/-! ### spec_TermOk: function 13 -/
def spec_TermOk.l0 : Nat → List (S31) → Int → Option (Bool)
 | 0, _, _ => none
 | k + 1, x0, x3 => if x3 < (x0.length : Int) then ((spec_l02Node.f k x0 x3).bind fun t153 => (if t153 = true then (spec_TermOk.l0 k x0 (wrap64 (x3 + 1))) else (some false))) else (some true)
def spec_TermOk.f (k : Nat) (l0 : List (S31)) : Option (Bool) := (spec_l01In.f (l0.length : Int) 1 80).bind fun t152 => (if t152 = true then (spec_TermOk.l0 k l0 0) else (some false))
set_option maxHeartbeats 8000000 in
set_option maxRecDepth 100000 in
theorem spec_TermOk.calls (k : Nat) (A0 : Option Addr) (c0 : Nat) (l0 : List (S31)) (r : Bool) (w : World) (hr0 : Kd.C k31 w A0 l0.length l0) (hc0 : l0.length ≤ c0) (h : spec_TermOk.f k l0 = some r) :
  Calls Try.prog 13 #[.slice A0 l0.length c0] w fun e w' => e = .returned (.bool r) ∧ Below w.heap.size w w' := by
 have HR0 := am hr0
 have HC0 := am hc0
 clear hr0 hc0
 have HB := am (Below.refl w.heap.size w)
 have H : ((spec_l01In.f (l0.length : Int) 1 80).bind fun t152 => (if t152 = true then (spec_TermOk.l0 k l0 0) else (some false))) = some r := h
 clear h
 replace H := oB H
 obtain ⟨t152, A20, H⟩ := H
 have A2 := am A20
 clear A20
 by_cases c3 : t152 = true
 ·subst c3
  rw [if_pos rfl] at H
  have H' := am H
  clear H
  go_enter Try.func13, Try.ntmps13
  go_wp2_with (first | ((with_reducible refine gate_callee (f := 42) rfl ?_); refine goesL_ (some 6) rfl rfl Try.func42 (by kernel_rfl) rfl #[.int .i64 (l0.length : Int), .int .i64 1, .int .i64 80] rfl tm ?_; (with_reducible refine (spec_l01In.calls (l0.length : Int) 1 80 true _ A2.out).mono ?_); rintro e w' ⟨rfl, ⟨nd, rfl⟩⟩; refine ⟨_, rfl, ?_⟩))
  go_loopg [3] k (fun kq v3 w' => ∃ (x3_1 : Int), v3 = .int .i64 x3_1 ∧ Aside0 (spec_TermOk.l0 kq l0 x3_1 = some r) ∧ Aside0 (kq ≤ k) ∧ Aside0 (Below w.heap.size w w'))
  case atStart => exact ⟨(0), (by rfl), H', ⟨Nat.le_refl _⟩, ⟨by exact sW HB.out⟩⟩
  case round =>
   clear H'
   obtain ⟨x3_1, rfl, HA, HK1, HB⟩ := hrel
   cases gk with
   | zero => exact absurd HA.out (by simp [spec_TermOk.l0])
   | succ k1 =>
    have H := HA.out
    clear HA
    simp only [spec_TermOk.l0] at H
    by_cases c4 : x3_1 < (l0.length : Int)
    ·rw [if_pos c4] at H
     have c4b0 : decide (x3_1 < (l0.length : Int)) = true := decide_eq_true c4
     clear c4
     replace H := oB H
     obtain ⟨t153, A50, H⟩ := H
     have A5 := am A50
     clear A50
     by_cases c6 : t153 = true
     ·subst c6
      rw [if_pos rfl] at H
      have H' := am H
      clear H
      go_wp2_with (first | ((with_reducible refine gate_callee (f := 43) rfl ?_); refine goesL_ (some 16) rfl rfl Try.func43 (by kernel_rfl) rfl #[.slice A0 l0.length c0, .int .i64 x3_1] rfl tm ?_; (with_reducible refine (spec_l02Node.calls k1 _ _ l0 x3_1 true _ ?side1 ?side2 A5.out).mono ?_); (case side1 => exact sC (Kd.C_below HR0.out HB.out)); (case side2 => exact HC0.out); rintro e w7 ⟨rfl, hb⟩; refine ⟨_, rfl, ?_⟩; have n0_ := am (below_step (by exact sW HB.out) hb); clear HB; have HB := n0_; clear n0_; (try clear hb); (try clear hb2); (try clear hk); (try clear hi)))
      go_roundg k1
      case measure => have := HK1.out; omega
      case rel => exact ⟨(wrap64 (x3_1 + 1)), (by rfl), H', ⟨by have := HK1.out; omega⟩, ⟨by exact sW HB.out⟩⟩
     ·replace c6 := Bool.eq_false_iff.mpr c6
      subst c6
      rw [if_neg (show ¬ (false = true) by decide)] at H
      obtain rfl := oI H
      go_wp2_with (first | ((with_reducible refine gate_callee (f := 43) rfl ?_); refine goesL_ (some 16) rfl rfl Try.func43 (by kernel_rfl) rfl #[.slice A0 l0.length c0, .int .i64 x3_1] rfl tm ?_; (with_reducible refine (spec_l02Node.calls k1 _ _ l0 x3_1 false _ ?side1 ?side2 A5.out).mono ?_); (case side1 => exact sC (Kd.C_below HR0.out HB.out)); (case side2 => exact HC0.out); rintro e w8 ⟨rfl, hb⟩; refine ⟨_, rfl, ?_⟩; have n0_ := am (below_step (by exact sW HB.out) hb); clear HB; have HB := n0_; clear n0_; (try clear hb); (try clear hb2); (try clear hk); (try clear hi)))
      go_ret
      exact ⟨by rfl, by exact sW HB.out⟩
    ·rw [if_neg c4] at H
     have c4b0 : decide (x3_1 < (l0.length : Int)) = false := decide_eq_false c4
     clear c4
     obtain rfl := oI H
     go_wp2
     go_ret
     exact ⟨by rfl, by exact sW HB.out⟩
 ·replace c3 := Bool.eq_false_iff.mpr c3
  subst c3
  rw [if_neg (show ¬ (false = true) by decide)] at H
  obtain rfl := oI H
  go_enter Try.func13, Try.ntmps13
  go_wp2_with (first | ((with_reducible refine gate_callee (f := 42) rfl ?_); refine goesL_ (some 6) rfl rfl Try.func42 (by kernel_rfl) rfl #[.int .i64 (l0.length : Int), .int .i64 1, .int .i64 80] rfl tm ?_; (with_reducible refine (spec_l01In.calls (l0.length : Int) 1 80 false _ A2.out).mono ?_); rintro e w' ⟨rfl, ⟨nd, rfl⟩⟩; refine ⟨_, rfl, ?_⟩))
  go_ret
  exact ⟨by rfl, by exact sW HB.out⟩
/-! ### laws_toNode: function 56 -/
def laws_toNode.f (a0_0 : Int) (a0_1 : Int) (a0_2 : Int) (a0_3 : Int) (a0_4 : Int) (a0_5 : Int) : Option (Int × Int × Int × Int × Int × Int) := some (a0_0, a0_1, a0_2, a0_3, a0_4, a0_5)
set_option maxHeartbeats 8000000 in
set_option maxRecDepth 100000 in
theorem laws_toNode.calls (a0_0 : Int) (a0_1 : Int) (a0_2 : Int) (a0_3 : Int) (a0_4 : Int) (a0_5 : Int) (r1 : Int) (r2 : Int) (r3 : Int) (r4 : Int) (r5 : Int) (r6 : Int) (w : World) (h : laws_toNode.f a0_0 a0_1 a0_2 a0_3 a0_4 a0_5 = some (r1, r2, r3, r4, r5, r6)) :
  Calls Try.prog 56 #[.agg #[.int .i64 a0_0, .int .i64 a0_1, .int .i64 a0_2, .int .i64 a0_3, .int .i64 a0_4, .int .i64 a0_5]] w fun e w' => e = .returned (.agg #[.int .i64 r1, .int .i64 r2, .int .i64 r3, .int .i64 r4, .int .i64 r5, .int .i64 r6]) ∧ Below w.heap.size w w' := by
 have hu75 := Try.underlying75
 have hu31 := Try.underlying31
 have HB := am (Below.refl w.heap.size w)
 have H : (some (a0_0, a0_1, a0_2, a0_3, a0_4, a0_5)) = some (r1, r2, r3, r4, r5, r6) := h
 clear h
 simp only [Option.some.injEq, Prod.mk.injEq] at H
 obtain ⟨rfl, rfl, rfl, rfl, rfl, rfl⟩ := H
 go_enter Try.func56, Try.ntmps56
 go_wp2_with (first | ((with_reducible refine gate_dst (N := 1) rfl ?_); refine box_event ?hg (N := 1) ?hd (cs := #[.int .i64 a0_0, .int .i64 a0_1, .int .i64 a0_2, .int .i64 a0_3, .int .i64 a0_4, .int .i64 a0_5]) (t := 75) ?hr ?_; (case hd => rfl); (case hg => rfl); (case hr => (go_simp; done)); intro gb189 hg w2 hbox hb; have n0_ := am (below_step (by exact sW HB.out) hb); have n1_ := am (hbox); have n2_ := am ((by rw [hg]; exact (below_size (by exact sW HB.out)) : w.heap.size ≤ gb189)); have n3_ := am ((by rw [hg]; exact (below_size (by exact sW HB.out)) : w.heap.size ≤ gb189)); clear HB; have HB := n0_; have BK189 := n1_; have GW189 := n2_; have GE189 := n3_; clear n0_ n1_ n2_ n3_; clear hb hbox hg) | ((with_reducible refine gate_dst (N := 2) rfl ?_); refine box_event ?hg (N := 2) ?hd (cs := #[.int .i64 0, .int .i64 0, .int .i64 0, .int .i64 0, .int .i64 0, .int .i64 0]) (t := 31) ?hr ?_; (case hd => rfl); (case hg => rfl); (case hr => (go_simp; done)); intro gb190 hg w3 hbox hb; have n0_ := am (blk_below (g := gb189) (o := .cells #[.int .i64 a0_0, .int .i64 a0_1, .int .i64 a0_2, .int .i64 a0_3, .int .i64 a0_4, .int .i64 a0_5] 75 (0, 0)) (by exact sB <| BK189.out) hb); have n1_ := am (below_step (by exact bW) hb); have n2_ := am (hbox); have n3_ := am ((by rw [hg]; exact (below_size (by exact bW)) : w.heap.size ≤ gb190)); have n4_ := am ((by rw [hg]; exact (below_size (by exact bW)) : w.heap.size ≤ gb190)); have n5_ := am ((by rw [hg]; exact Nat.ne_of_lt (blk_lt (g := gb189) (o := .cells #[.int .i64 a0_0, .int .i64 a0_1, .int .i64 a0_2, .int .i64 a0_3, .int .i64 a0_4, .int .i64 a0_5] 75 (0, 0)) (by exact sB <| BK189.out)) : gb189 ≠ gb190)); have n6_ := am ((by rw [hg]; exact Nat.ne_of_gt (blk_lt (g := gb189) (o := .cells #[.int .i64 a0_0, .int .i64 a0_1, .int .i64 a0_2, .int .i64 a0_3, .int .i64 a0_4, .int .i64 a0_5] 75 (0, 0)) (by exact sB <| BK189.out)) : gb190 ≠ gb189)); clear BK189; clear HB; have BK189 := n0_; have HB := n1_; have BK190 := n2_; have GW190 := n3_; have GE190 := n4_; have NB189_190 := n5_; have NB190_189 := n6_; clear n0_ n1_ n2_ n3_ n4_ n5_ n6_; clear hb hbox hg) | ((with_reducible refine gate_dst (N := 3) rfl ?_); refine box_event ?hg (N := 3) ?hd (cs := #[.int .i64 0, .int .i64 0, .int .i64 0, .int .i64 0, .int .i64 0, .int .i64 0]) (t := 31) ?hr ?_; (case hd => rfl); (case hg => rfl); (case hr => (go_simp; done)); intro gb191 hg w4 hbox hb; have n0_ := am (blk_below (g := gb189) (o := .cells #[.int .i64 a0_0, .int .i64 a0_1, .int .i64 a0_2, .int .i64 a0_3, .int .i64 a0_4, .int .i64 a0_5] 75 (0, 0)) (by exact sB <| BK189.out) hb); have n1_ := am (blk_below (g := gb190) (o := .cells #[.int .i64 0, .int .i64 0, .int .i64 0, .int .i64 0, .int .i64 0, .int .i64 0] 31 (0, 0)) (by exact sB <| BK190.out) hb); have n2_ := am (below_step (by exact bW) hb); have n3_ := am (hbox); have n4_ := am ((by rw [hg]; exact (below_size (by exact bW)) : w.heap.size ≤ gb191)); have n5_ := am ((by rw [hg]; exact (below_size (by exact bW)) : w.heap.size ≤ gb191)); have n6_ := am ((by rw [hg]; exact Nat.ne_of_lt (blk_lt (g := gb189) (o := .cells #[.int .i64 a0_0, .int .i64 a0_1, .int .i64 a0_2, .int .i64 a0_3, .int .i64 a0_4, .int .i64 a0_5] 75 (0, 0)) (by exact sB <| BK189.out)) : gb189 ≠ gb191)); have n7_ := am ((by rw [hg]; exact Nat.ne_of_gt (blk_lt (g := gb189) (o := .cells #[.int .i64 a0_0, .int .i64 a0_1, .int .i64 a0_2, .int .i64 a0_3, .int .i64 a0_4, .int .i64 a0_5] 75 (0, 0)) (by exact sB <| BK189.out)) : gb191 ≠ gb189)); have n8_ := am ((by rw [hg]; exact Nat.ne_of_lt (blk_lt (g := gb190) (o := .cells #[.int .i64 0, .int .i64 0, .int .i64 0, .int .i64 0, .int .i64 0, .int .i64 0] 31 (0, 0)) (by exact sB <| BK190.out)) : gb190 ≠ gb191)); have n9_ := am ((by rw [hg]; exact Nat.ne_of_gt (blk_lt (g := gb190) (o := .cells #[.int .i64 0, .int .i64 0, .int .i64 0, .int .i64 0, .int .i64 0, .int .i64 0] 31 (0, 0)) (by exact sB <| BK190.out)) : gb191 ≠ gb190)); clear BK189; clear BK190; clear HB; have BK189 := n0_; have BK190 := n1_; have HB := n2_; have BK191 := n3_; have GW191 := n4_; have GE191 := n5_; have NB189_191 := n6_; have NB191_189 := n7_; have NB190_191 := n8_; have NB191_190 := n9_; clear n0_ n1_ n2_ n3_ n4_ n5_ n6_ n7_ n8_ n9_; clear hb hbox hg; have hnb5 := NB189_190.out; have hnc5 := NB190_189.out; have hnb6 := NB189_191.out; have hnc6 := NB191_189.out; obtain ⟨hcz7_0, hcz7_1, hcz7_2, hcz7_3, hcz7_4, hcz7_5⟩ := cz6 BK189.out; obtain ⟨hfz7_0, hfz7_1, hfz7_2, hfz7_3, hfz7_4, hfz7_5⟩ := fz6 BK189.out; have hnb8 := NB191_190.out; have hnc8 := NB190_191.out; obtain ⟨hcz9_0, hcz9_1, hcz9_2, hcz9_3, hcz9_4, hcz9_5⟩ := cz6 BK191.out; obtain ⟨hfz9_0, hfz9_1, hfz9_2, hfz9_3, hfz9_4, hfz9_5⟩ := fz6 BK191.out; obtain ⟨hcz10_0, hcz10_1, hcz10_2, hcz10_3, hcz10_4, hcz10_5⟩ := cz6 BK190.out; obtain ⟨hfz10_0, hfz10_1, hfz10_2, hfz10_3, hfz10_4, hfz10_5⟩ := fz6 BK190.out))
 refine bodyPost_ret (results_cell_row rfl _ _ gb190 31 #[.int .i64 a0_0, .int .i64 a0_1, .int .i64 a0_2, .int .i64 a0_3, .int .i64 a0_4, .int .i64 a0_5] (0, 0) _ rfl (by (with_reducible repeat (first | refine blk_drewN ?_ _ | refine blk_drew ?_ | refine blk_alloc ?_ _)); refine blk_put (cs := #[.int .i64 a0_0, .int .i64 a0_1, .int .i64 a0_2, .int .i64 a0_3, .int .i64 a0_4, .int .i64 0]) ?_ 5 _ rfl; (with_reducible repeat (first | refine blk_drewN ?_ _ | refine blk_drew ?_ | refine blk_alloc ?_ _)); refine blk_put (cs := #[.int .i64 a0_0, .int .i64 a0_1, .int .i64 a0_2, .int .i64 a0_3, .int .i64 0, .int .i64 0]) ?_ 4 _ rfl; (with_reducible repeat (first | refine blk_drewN ?_ _ | refine blk_drew ?_ | refine blk_alloc ?_ _)); refine blk_put (cs := #[.int .i64 a0_0, .int .i64 a0_1, .int .i64 a0_2, .int .i64 0, .int .i64 0, .int .i64 0]) ?_ 3 _ rfl; (with_reducible repeat (first | refine blk_drewN ?_ _ | refine blk_drew ?_ | refine blk_alloc ?_ _)); refine blk_put (cs := #[.int .i64 a0_0, .int .i64 a0_1, .int .i64 0, .int .i64 0, .int .i64 0, .int .i64 0]) ?_ 2 _ rfl; (with_reducible repeat (first | refine blk_drewN ?_ _ | refine blk_drew ?_ | refine blk_alloc ?_ _)); refine blk_put (cs := #[.int .i64 a0_0, .int .i64 0, .int .i64 0, .int .i64 0, .int .i64 0, .int .i64 0]) ?_ 1 _ rfl; (with_reducible repeat (first | refine blk_drewN ?_ _ | refine blk_drew ?_ | refine blk_alloc ?_ _)); refine blk_put (cs := #[.int .i64 0, .int .i64 0, .int .i64 0, .int .i64 0, .int .i64 0, .int .i64 0]) ?_ 0 _ rfl; (with_reducible repeat (first | refine blk_drewN ?_ _ | refine blk_drew ?_ | refine blk_alloc ?_ _)); refine blk_far ?_ NB190_191.out _; (with_reducible repeat (first | refine blk_drewN ?_ _ | refine blk_drew ?_ | refine blk_alloc ?_ _)); refine blk_far ?_ NB190_191.out _; (with_reducible repeat (first | refine blk_drewN ?_ _ | refine blk_drew ?_ | refine blk_alloc ?_ _)); refine blk_far ?_ NB190_191.out _; (with_reducible repeat (first | refine blk_drewN ?_ _ | refine blk_drew ?_ | refine blk_alloc ?_ _)); refine blk_far ?_ NB190_191.out _; (with_reducible repeat (first | refine blk_drewN ?_ _ | refine blk_drew ?_ | refine blk_alloc ?_ _)); refine blk_far ?_ NB190_191.out _; (with_reducible repeat (first | refine blk_drewN ?_ _ | refine blk_drew ?_ | refine blk_alloc ?_ _)); refine blk_far ?_ NB190_191.out _; exact sB <| BK190.out) Try.underlying31 rfl (by kernel_rfl)) rfl ?_
 exact ⟨by rfl, by exact bW⟩
/-! ### laws_toNodeS: function 20 -/
def laws_toNodeS.l0 : Nat → List (S75) → List (S31) → Int → Option ((List (S31)))
 | 0, _, _, _ => none
 | k + 1, x0, x3, x4 => if x4 < (x0.length : Int) then (if 0 ≤ x4 then ((laws_toNode.f ((rd_T75 x0 x4).f0) ((rd_T75 x0 x4).f1) ((rd_T75 x0 x4).f2) ((rd_T75 x0 x4).f3) ((rd_T75 x0 x4).f4) ((rd_T75 x0 x4).f5)).bind fun bt196 => (if x4 < (x3.length : Int) then (laws_toNodeS.l0 k x0 (x3.set (x4 : Int).toNat (⟨bt196.1, bt196.2.1, bt196.2.2.1, bt196.2.2.2.1, bt196.2.2.2.2.1, bt196.2.2.2.2.2⟩ : S31)) (wrap64 (x4 + 1))) else (none))) else (none)) else (some x3)
def laws_toNodeS.f (k : Nat) (l0 : List (S75)) : Option ((List (S31))) := if 0 ≤ (l0.length : Int) then (if ((l0.length : Int) : Int).toNat ≤ 5864062014805 then (laws_toNodeS.l0 k l0 (List.replicate ((l0.length : Int) : Int).toNat z31) 0) else (none)) else (none)
set_option maxHeartbeats 8000000 in
set_option maxRecDepth 100000 in
theorem laws_toNodeS.calls (k : Nat) (A0 : Option Addr) (c0 : Nat) (l0 : List (S75)) (r : List (S31)) (w : World) (hr0 : Kd.C k75 w A0 l0.length l0) (hc0 : l0.length ≤ c0) (h : laws_toNodeS.f k l0 = some r) :
  Calls Try.prog 20 #[.slice A0 l0.length c0] w fun e w' => ∃ v0_ : Value, e = .returned (v0_) ∧ Kd.R k31 31 w' w.heap.size (fun _ => True) v0_ r ∧ Below w.heap.size w w' := by
 have hu75 := Try.underlying75
 have hu31 := Try.underlying31
 have HR0 := am hr0
 have HC0 := am hc0
 clear hr0 hc0
 have HB := am (Below.refl w.heap.size w)
 have H : (if 0 ≤ (l0.length : Int) then (if ((l0.length : Int) : Int).toNat ≤ 5864062014805 then (laws_toNodeS.l0 k l0 (List.replicate ((l0.length : Int) : Int).toNat z31) 0) else (none)) else (none)) = some r := h
 clear h
 by_cases c2 : 0 ≤ (l0.length : Int)
 ·rw [if_pos c2] at H
  have c2b0 := eq_true c2
  have c2b1 : decide (0 ≤ (l0.length : Int)) = true := decide_eq_true c2
  clear c2
  by_cases c3 : ((l0.length : Int) : Int).toNat ≤ 5864062014805
  ·rw [if_pos c3] at H
   have c3b0 := eq_true c3
   have c3b1 : decide (((l0.length : Int) : Int).toNat ≤ 5864062014805) = true := decide_eq_true c3
   clear c3
   obtain ⟨y192, hy192⟩ : ∃ y_ : List (S31), y_ = (List.replicate ((l0.length : Int) : Int).toNat z31) := ⟨_, rfl⟩
   replace H : (laws_toNodeS.l0 k l0 y192 0) = some r := by (rw [hy192]; with_reducible exact H)
   have Ny192 := am hy192
   clear hy192
   have H' := am H
   clear H
   go_enter Try.func20, Try.ntmps20
   go_wp2_with (first | ((with_reducible refine gate_dst (N := 7) rfl ?_); refine Kd.R_make k31 _ 31 rfl (N := 7) rfl 24 _ _ rfl (l0.length : Int) rfl rfl Try.underlying24 (.agg #[(.int .i64 0), (.int .i64 0), (.int .i64 0), (.int .i64 0), (.int .i64 0), (.int .i64 0)]) 48 info31 rfl (by decide) (by omega) z31 (ok := fun _ => True) (okp := fun _ => True) (k31_mkM _ _ _ z31 ) (fun _ hk => hk) trivial (oD (by assumption)) (Nat.le_trans (Nat.mul_le_mul_right _ (oD (by assumption) : (l0.length : Int).toNat ≤ 5864062014805)) (by omega)) (Below.refl _ _) (Nat.le_refl _) ?_; intro v193 w4 ho5 hb hg_ hnew_; clear hg_ hnew_; (rw [← Ny192.out] at ho5); have n0_ := am (Kd.R_lower ho5 (below_size (by exact sW HB.out))); have n1_ := am (below_step (by exact sW HB.out) hb); clear HB; have HO194 := n0_; have HB := n1_; clear n0_ n1_; clear hb ho5))
   go_loopg [4] k (fun kq v4 w' => ∃ (x3_1 : List (S31)) (x4_1 : Int), v4 = .int .i64 x4_1 ∧ Aside0 (laws_toNodeS.l0 kq l0 x3_1 x4_1 = some r) ∧ Aside0 (kq ≤ k) ∧ Aside0 (Kd.R k31 31 w' w.heap.size (fun _ => True) v193 x3_1) ∧ Aside0 (Below w.heap.size w w'))
   case atStart => exact ⟨(y192), (0), (by rfl), H', ⟨Nat.le_refl _⟩, ⟨by exact sR <| HO194.out⟩, ⟨by exact sW HB.out⟩⟩
   case round =>
    clear H'
    clear c2b0 c2b1 c3b0 c3b1
    obtain ⟨x3_1, x4_1, rfl, HA, HK1, HO_3, HB⟩ := hrel
    cases gk with
    | zero => exact absurd HA.out (by simp [laws_toNodeS.l0])
    | succ k1 =>
     have H := HA.out
     clear HA
     simp only [laws_toNodeS.l0] at H
     by_cases c6 : x4_1 < (l0.length : Int)
     ·rw [if_pos c6] at H
      have c6b0 : decide (x4_1 < (l0.length : Int)) = true := decide_eq_true c6
      clear c6
      by_cases c7 : 0 ≤ x4_1
      ·rw [if_pos c7] at H
       have c7b0 : decide (0 ≤ x4_1) = true := decide_eq_true c7
       clear c7
       replace H := oB H
       obtain ⟨⟨t196, t197, t198, t199, t200, t201⟩, A80, H⟩ := H
       replace H : (if x4_1 < (x3_1.length : Int) then (laws_toNodeS.l0 k1 l0 (x3_1.set (x4_1 : Int).toNat (⟨t196, t197, t198, t199, t200, t201⟩ : S31)) (wrap64 (x4_1 + 1))) else (none)) = some r := H
       have A8 := am A80
       clear A80
       by_cases c9 : x4_1 < (x3_1.length : Int)
       ·rw [if_pos c9] at H
        have c9b0 : decide (x4_1 < (x3_1.length : Int)) = true := decide_eq_true c9
        clear c9
        obtain ⟨y202, hy202⟩ : ∃ y_ : List (S31), y_ = (x3_1.set (x4_1 : Int).toNat (⟨t196, t197, t198, t199, t200, t201⟩ : S31)) := ⟨_, rfl⟩
        replace H : (laws_toNodeS.l0 k1 l0 y202 (wrap64 (x4_1 + 1))) = some r := by (rw [hy202]; with_reducible exact H)
        have Ny202 := am hy202
        clear hy202
        have H' := am H
        clear H
        have p195 : 0 ≤ (x4_1 : Int) := oD (by assumption)
        have q195 : x4_1 < (l0.length : Int) := oD (by assumption)
        obtain ⟨ad195, e195, hx195_0, hx195_1, hx195_2, hx195_3, hx195_4, hx195_5⟩ := at_T75 HR0.out x4_1 p195 q195
        cases e195
        replace hx195_0 := pw_cell_below HB.out hx195_0
        replace hx195_1 := pw_cell_below HB.out hx195_1
        replace hx195_2 := pw_cell_below HB.out hx195_2
        replace hx195_3 := pw_cell_below HB.out hx195_3
        replace hx195_4 := pw_cell_below HB.out hx195_4
        replace hx195_5 := pw_cell_below HB.out hx195_5
        replace p195 := eq_true p195
        replace q195 := eq_true q195
        go_wp2_with (first | ((with_reducible refine gate_callee (f := 56) rfl ?_); refine goesL_ (some 20) rfl rfl Try.func56 (by kernel_rfl) rfl #[.agg #[.int .i64 ((rd_T75 l0 x4_1).f0), .int .i64 ((rd_T75 l0 x4_1).f1), .int .i64 ((rd_T75 l0 x4_1).f2), .int .i64 ((rd_T75 l0 x4_1).f3), .int .i64 ((rd_T75 l0 x4_1).f4), .int .i64 ((rd_T75 l0 x4_1).f5)]] rfl tm ?_; (with_reducible refine (laws_toNode.calls ((rd_T75 l0 x4_1).f0) ((rd_T75 l0 x4_1).f1) ((rd_T75 l0 x4_1).f2) ((rd_T75 l0 x4_1).f3) ((rd_T75 l0 x4_1).f4) ((rd_T75 l0 x4_1).f5) t196 t197 t198 t199 t200 t201 _ A8.out).mono ?_); rintro e w11 ⟨rfl, hb⟩; refine ⟨_, rfl, ?_⟩; have n0_ := am (Kd.R_below (by exact sR <| HO_3.out) hb); have n1_ := am (below_step (by exact sW HB.out) hb); clear HO_3; clear HB; have HO_3 := n0_; have HB := n1_; clear n0_ n1_; (try clear hb); (try clear hb2); (try clear hk); (try clear hi); have p10 : 0 ≤ (x4_1 : Int) := oD (by assumption); have q10 : (x4_1 : Int) < ((x3_1.length : Int) : Int) := oD (by assumption); obtain ⟨go10, co10, eo10, gb10, gl10, cl10, HG10⟩ := Kd.R_form HO_3.out (by omega); (cases eo10); have GB10 := am gb10; have GG10 := am HG10; clear gb10 gl10 HG10; obtain ⟨ce10, hcl10, hM10, hcc10, hfr10⟩ := Kd.R_elem HO_3.out z31 (x4_1 : Int) p10 q10; obtain rfl := k31_openM hM10; have hx10_0 : w11.cell? ⟨go10, (x4_1 : Int).toNat * 6, none⟩ = some (.int .i64 ((rd_T31 x3_1 x4_1).f0)) := hcc10 0 _ rfl; have hx10_1 : w11.cell? ⟨go10, (x4_1 : Int).toNat * 6 + 1, none⟩ = some (.int .i64 ((rd_T31 x3_1 x4_1).f1)) := hcc10 1 _ rfl; have hx10_2 : w11.cell? ⟨go10, (x4_1 : Int).toNat * 6 + 2, none⟩ = some (.int .i64 ((rd_T31 x3_1 x4_1).f2)) := hcc10 2 _ rfl; have hx10_3 : w11.cell? ⟨go10, (x4_1 : Int).toNat * 6 + 3, none⟩ = some (.int .i64 ((rd_T31 x3_1 x4_1).f3)) := hcc10 3 _ rfl; have hx10_4 : w11.cell? ⟨go10, (x4_1 : Int).toNat * 6 + 4, none⟩ = some (.int .i64 ((rd_T31 x3_1 x4_1).f4)) := hcc10 4 _ rfl; have hx10_5 : w11.cell? ⟨go10, (x4_1 : Int).toNat * 6 + 5, none⟩ = some (.int .i64 ((rd_T31 x3_1 x4_1).f5)) := hcc10 5 _ rfl; have hf10_0 : w11.frozen? ⟨go10, (x4_1 : Int).toNat * 6, none⟩ = false := hfr10 0; have hf10_1 : w11.frozen? ⟨go10, (x4_1 : Int).toNat * 6 + 1, none⟩ = false := hfr10 1; have hf10_2 : w11.frozen? ⟨go10, (x4_1 : Int).toNat * 6 + 2, none⟩ = false := hfr10 2; have hf10_3 : w11.frozen? ⟨go10, (x4_1 : Int).toNat * 6 + 3, none⟩ = false := hfr10 3; have hf10_4 : w11.frozen? ⟨go10, (x4_1 : Int).toNat * 6 + 4, none⟩ = false := hfr10 4; have hf10_5 : w11.frozen? ⟨go10, (x4_1 : Int).toNat * 6 + 5, none⟩ = false := hfr10 5; clear hcl10 hcc10 hfr10 hM10; replace p10 := eq_true p10; replace q10 := eq_true q10; have HX12 := am (show Kd.R k31 31 w11 w.heap.size (fun _ => True) (.slice (some ⟨go10, 0, none⟩) x3_1.length co10) x3_1 from (by exact sR <| HO_3.out)); obtain ⟨ce12, hcl12, hM12, hcc12, hfr12⟩ := Kd.R_elem HX12.out z31 (x4_1 : Int) (oD (by assumption)) (by have h_ : (x4_1 : Int) < ((x3_1.length : Int) : Int) := oD (by assumption); exact h_); obtain rfl := k31_openM hM12; have HP12 := Kd.R_seg HX12.out (x4_1 : Int) (oD (by assumption)) (by have h_ : (x4_1 : Int) < ((x3_1.length : Int) : Int) := oD (by assumption); exact h_) (seg := [.int .i64 t196, .int .i64 t197, .int .i64 t198, .int .i64 t199, .int .i64 t200, .int .i64 t201]) (j := 0) hcl12 hcc12 (show 6 ≤ 6 from by decide) (x' := (⟨t196, t197, t198, t199, t200, t201⟩ : S31)) (k31_mkM _ _ _ (⟨t196, t197, t198, t199, t200, t201⟩ : S31) ) (fun _ hk => hk); have hx12_0 := hcc12 0 _ rfl; (try simp only [show (k31).sz = 6 from rfl, Nat.mul_one, Nat.add_zero] at hx12_0); have hf12_0 := hfr12 0; (try simp only [show (k31).sz = 6 from rfl, Nat.mul_one, Nat.add_zero] at hf12_0); have hx12_1 := hcc12 1 _ rfl; (try simp only [show (k31).sz = 6 from rfl, Nat.mul_one, Nat.add_zero] at hx12_1); have hf12_1 := hfr12 1; (try simp only [show (k31).sz = 6 from rfl, Nat.mul_one, Nat.add_zero] at hf12_1); have hx12_2 := hcc12 2 _ rfl; (try simp only [show (k31).sz = 6 from rfl, Nat.mul_one, Nat.add_zero] at hx12_2); have hf12_2 := hfr12 2; (try simp only [show (k31).sz = 6 from rfl, Nat.mul_one, Nat.add_zero] at hf12_2); have hx12_3 := hcc12 3 _ rfl; (try simp only [show (k31).sz = 6 from rfl, Nat.mul_one, Nat.add_zero] at hx12_3); have hf12_3 := hfr12 3; (try simp only [show (k31).sz = 6 from rfl, Nat.mul_one, Nat.add_zero] at hf12_3); have hx12_4 := hcc12 4 _ rfl; (try simp only [show (k31).sz = 6 from rfl, Nat.mul_one, Nat.add_zero] at hx12_4); have hf12_4 := hfr12 4; (try simp only [show (k31).sz = 6 from rfl, Nat.mul_one, Nat.add_zero] at hf12_4); have hx12_5 := hcc12 5 _ rfl; (try simp only [show (k31).sz = 6 from rfl, Nat.mul_one, Nat.add_zero] at hx12_5); have hf12_5 := hfr12 5; (try simp only [show (k31).sz = 6 from rfl, Nat.mul_one, Nat.add_zero] at hf12_5); clear hcl12 hcc12 hfr12 hM12) | ((with_reducible refine gate_store (t := 31) (p := 21) rfl ?_); refine store_event (t := 31) (p := 21) (v := ?vo_w13) (w1 := ((((((w11.setCell ⟨go10, (x4_1 : Int).toNat * 6, none⟩ (.int .i64 t196)).setCell ⟨go10, (x4_1 : Int).toNat * 6 + 1, none⟩ (.int .i64 t197)).setCell ⟨go10, (x4_1 : Int).toNat * 6 + 2, none⟩ (.int .i64 t198)).setCell ⟨go10, (x4_1 : Int).toNat * 6 + 3, none⟩ (.int .i64 t199)).setCell ⟨go10, (x4_1 : Int).toNat * 6 + 4, none⟩ (.int .i64 t200)).setCell ⟨go10, (x4_1 : Int).toNat * 6 + 5, none⟩ (.int .i64 t201))) ?hg ?ho ?hn ?hr ?_; (case ho => rfl); (case hg => rfl); (case hn => rfl); (case hr => (go_simp; done)); intro w13 hw; have hg : w11.grownBy w13 (some go10) := (by rw [hw]; exact HP12.2); have hp_ : Kd.R k31 31 w13 w.heap.size (fun _ => True) (.slice (some ⟨go10, 0, none⟩) x3_1.length co10) y202 := (by rw [hw, Ny202.out]; exact HP12.1); clear HP12; have n0_ := am (hp_); have n1_ := am ((by rw [hw]; exact below_set (below_set (below_set (below_set (below_set (below_set (HB.out) GB10.out) GB10.out) GB10.out) GB10.out) GB10.out) GB10.out : Below w.heap.size w w13)); clear HO_3; clear HB; have HO_3 := n0_; have HB := n1_; clear n0_ n1_; clear hg hw hp_))
        go_roundg k1
        case measure => have := HK1.out; omega
        case rel => exact ⟨(y202), (wrap64 (x4_1 + 1)), (by rfl), H', ⟨by have := HK1.out; omega⟩, ⟨by exact sR <| HO_3.out⟩, ⟨by exact sW HB.out⟩⟩
       ·rw [if_neg c9] at H
        exact absurd H (by simp)
      ·rw [if_neg c7] at H
       exact absurd H (by simp)
     ·rw [if_neg c6] at H
      have c6b0 : decide (x4_1 < (l0.length : Int)) = false := decide_eq_false c6
      clear c6
      obtain rfl := oI H
      go_wp2
      go_ret
      exact ⟨_, by rfl, by exact sR <| HO_3.out, by exact sW HB.out⟩
  ·rw [if_neg c3] at H
   exact absurd H (by simp)
 ·rw [if_neg c2] at H
  exact absurd H (by simp)
/-! ### laws_eqNode: function 59 -/
def laws_eqNode.f (a0_0 : Int) (a0_1 : Int) (a0_2 : Int) (a0_3 : Int) (a0_4 : Int) (a0_5 : Int) (a1_0 : Int) (a1_1 : Int) (a1_2 : Int) (a1_3 : Int) (a1_4 : Int) (a1_5 : Int) : Option (Bool) := if a0_0 = a1_0 then (if a0_1 = a1_1 then (if a0_2 = a1_2 then (if a0_3 = a1_3 then (if a0_4 = a1_4 then (if a0_5 = a1_5 then (some true) else (some false)) else (some false)) else (some false)) else (some false)) else (some false)) else (some false)
set_option maxHeartbeats 8000000 in
set_option maxRecDepth 100000 in
theorem laws_eqNode.calls (a0_0 : Int) (a0_1 : Int) (a0_2 : Int) (a0_3 : Int) (a0_4 : Int) (a0_5 : Int) (a1_0 : Int) (a1_1 : Int) (a1_2 : Int) (a1_3 : Int) (a1_4 : Int) (a1_5 : Int) (r : Bool) (w : World) (h : laws_eqNode.f a0_0 a0_1 a0_2 a0_3 a0_4 a0_5 a1_0 a1_1 a1_2 a1_3 a1_4 a1_5 = some r) :
  Calls Try.prog 59 #[.agg #[.int .i64 a0_0, .int .i64 a0_1, .int .i64 a0_2, .int .i64 a0_3, .int .i64 a0_4, .int .i64 a0_5], .agg #[.int .i64 a1_0, .int .i64 a1_1, .int .i64 a1_2, .int .i64 a1_3, .int .i64 a1_4, .int .i64 a1_5]] w fun e w' => e = .returned (.bool r) ∧ Below w.heap.size w w' := by
 have hu31 := Try.underlying31
 have HB := am (Below.refl w.heap.size w)
 have H : (if a0_0 = a1_0 then (if a0_1 = a1_1 then (if a0_2 = a1_2 then (if a0_3 = a1_3 then (if a0_4 = a1_4 then (if a0_5 = a1_5 then (some true) else (some false)) else (some false)) else (some false)) else (some false)) else (some false)) else (some false)) = some r := h
 clear h
 by_cases c3 : a0_0 = a1_0
 ·rw [if_pos c3] at H
  have c3b0 : (a0_0 == a1_0) = true := beq_iff_eq.mpr c3
  have c3b1 : (a0_0 != a1_0) = false := bne_eq_false_iff_eq.mpr c3
  clear c3
  by_cases c4 : a0_1 = a1_1
  ·rw [if_pos c4] at H
   have c4b0 : (a0_1 == a1_1) = true := beq_iff_eq.mpr c4
   have c4b1 : (a0_1 != a1_1) = false := bne_eq_false_iff_eq.mpr c4
   clear c4
   by_cases c5 : a0_2 = a1_2
   ·rw [if_pos c5] at H
    have c5b0 : (a0_2 == a1_2) = true := beq_iff_eq.mpr c5
    have c5b1 : (a0_2 != a1_2) = false := bne_eq_false_iff_eq.mpr c5
    clear c5
    by_cases c6 : a0_3 = a1_3
    ·rw [if_pos c6] at H
     have c6b0 : (a0_3 == a1_3) = true := beq_iff_eq.mpr c6
     have c6b1 : (a0_3 != a1_3) = false := bne_eq_false_iff_eq.mpr c6
     clear c6
     by_cases c7 : a0_4 = a1_4
     ·rw [if_pos c7] at H
      have c7b0 : (a0_4 == a1_4) = true := beq_iff_eq.mpr c7
      have c7b1 : (a0_4 != a1_4) = false := bne_eq_false_iff_eq.mpr c7
      clear c7
      by_cases c8 : a0_5 = a1_5
      ·rw [if_pos c8] at H
       have c8b0 : (a0_5 == a1_5) = true := beq_iff_eq.mpr c8
       have c8b1 : (a0_5 != a1_5) = false := bne_eq_false_iff_eq.mpr c8
       clear c8
       obtain rfl := oI H
       go_enter Try.func59, Try.ntmps59
       go_wp2_with (first | ((with_reducible refine gate_dst (N := 2) rfl ?_); refine box_event ?hg (N := 2) ?hd (cs := #[.int .i64 a0_0, .int .i64 a0_1, .int .i64 a0_2, .int .i64 a0_3, .int .i64 a0_4, .int .i64 a0_5]) (t := 31) ?hr ?_; (case hd => rfl); (case hg => rfl); (case hr => (go_simp; done)); intro gb301 hg w9 hbox hb; have n0_ := am (below_step (by exact sW HB.out) hb); have n1_ := am (hbox); have n2_ := am ((by rw [hg]; exact (below_size (by exact sW HB.out)) : w.heap.size ≤ gb301)); have n3_ := am ((by rw [hg]; exact (below_size (by exact sW HB.out)) : w.heap.size ≤ gb301)); clear HB; have HB := n0_; have BK301 := n1_; have GW301 := n2_; have GE301 := n3_; clear n0_ n1_ n2_ n3_; clear hb hbox hg) | ((with_reducible refine gate_dst (N := 3) rfl ?_); refine box_event ?hg (N := 3) ?hd (cs := #[.int .i64 a1_0, .int .i64 a1_1, .int .i64 a1_2, .int .i64 a1_3, .int .i64 a1_4, .int .i64 a1_5]) (t := 31) ?hr ?_; (case hd => rfl); (case hg => rfl); (case hr => (go_simp; done)); intro gb302 hg w10 hbox hb; have n0_ := am (blk_below (g := gb301) (o := .cells #[.int .i64 a0_0, .int .i64 a0_1, .int .i64 a0_2, .int .i64 a0_3, .int .i64 a0_4, .int .i64 a0_5] 31 (0, 0)) (by exact sB <| BK301.out) hb); have n1_ := am (below_step (by exact bW) hb); have n2_ := am (hbox); have n3_ := am ((by rw [hg]; exact (below_size (by exact bW)) : w.heap.size ≤ gb302)); have n4_ := am ((by rw [hg]; exact (below_size (by exact bW)) : w.heap.size ≤ gb302)); have n5_ := am ((by rw [hg]; exact Nat.ne_of_lt (blk_lt (g := gb301) (o := .cells #[.int .i64 a0_0, .int .i64 a0_1, .int .i64 a0_2, .int .i64 a0_3, .int .i64 a0_4, .int .i64 a0_5] 31 (0, 0)) (by exact sB <| BK301.out)) : gb301 ≠ gb302)); have n6_ := am ((by rw [hg]; exact Nat.ne_of_gt (blk_lt (g := gb301) (o := .cells #[.int .i64 a0_0, .int .i64 a0_1, .int .i64 a0_2, .int .i64 a0_3, .int .i64 a0_4, .int .i64 a0_5] 31 (0, 0)) (by exact sB <| BK301.out)) : gb302 ≠ gb301)); clear BK301; clear HB; have BK301 := n0_; have HB := n1_; have BK302 := n2_; have GW302 := n3_; have GE302 := n4_; have NB301_302 := n5_; have NB302_301 := n6_; clear n0_ n1_ n2_ n3_ n4_ n5_ n6_; clear hb hbox hg; have hnb11 := NB301_302.out; have hnc11 := NB302_301.out; obtain ⟨hcz12_0, hcz12_1, hcz12_2, hcz12_3, hcz12_4, hcz12_5⟩ := cz6 BK301.out; obtain ⟨hfz12_0, hfz12_1, hfz12_2, hfz12_3, hfz12_4, hfz12_5⟩ := fz6 BK301.out; obtain ⟨hcz13_0, hcz13_1, hcz13_2, hcz13_3, hcz13_4, hcz13_5⟩ := cz6 BK302.out; obtain ⟨hfz13_0, hfz13_1, hfz13_2, hfz13_3, hfz13_4, hfz13_5⟩ := fz6 BK302.out))
       go_ret
       exact ⟨by rfl, by exact bW⟩
      ·rw [if_neg c8] at H
       have c8b0 : (a0_5 == a1_5) = false := beq_eq_false_iff_ne.mpr c8
       have c8b1 : (a0_5 != a1_5) = true := bne_iff_ne.mpr c8
       obtain rfl := oI H
       go_enter Try.func59, Try.ntmps59
       go_wp2_with (first | ((with_reducible refine gate_dst (N := 2) rfl ?_); refine box_event ?hg (N := 2) ?hd (cs := #[.int .i64 a0_0, .int .i64 a0_1, .int .i64 a0_2, .int .i64 a0_3, .int .i64 a0_4, .int .i64 a0_5]) (t := 31) ?hr ?_; (case hd => rfl); (case hg => rfl); (case hr => (go_simp; done)); intro gb301 hg w14 hbox hb; have n0_ := am (below_step (by exact sW HB.out) hb); have n1_ := am (hbox); have n2_ := am ((by rw [hg]; exact (below_size (by exact sW HB.out)) : w.heap.size ≤ gb301)); have n3_ := am ((by rw [hg]; exact (below_size (by exact sW HB.out)) : w.heap.size ≤ gb301)); clear HB; have HB := n0_; have BK301 := n1_; have GW301 := n2_; have GE301 := n3_; clear n0_ n1_ n2_ n3_; clear hb hbox hg) | ((with_reducible refine gate_dst (N := 3) rfl ?_); refine box_event ?hg (N := 3) ?hd (cs := #[.int .i64 a1_0, .int .i64 a1_1, .int .i64 a1_2, .int .i64 a1_3, .int .i64 a1_4, .int .i64 a1_5]) (t := 31) ?hr ?_; (case hd => rfl); (case hg => rfl); (case hr => (go_simp; done)); intro gb302 hg w15 hbox hb; have n0_ := am (blk_below (g := gb301) (o := .cells #[.int .i64 a0_0, .int .i64 a0_1, .int .i64 a0_2, .int .i64 a0_3, .int .i64 a0_4, .int .i64 a0_5] 31 (0, 0)) (by exact sB <| BK301.out) hb); have n1_ := am (below_step (by exact bW) hb); have n2_ := am (hbox); have n3_ := am ((by rw [hg]; exact (below_size (by exact bW)) : w.heap.size ≤ gb302)); have n4_ := am ((by rw [hg]; exact (below_size (by exact bW)) : w.heap.size ≤ gb302)); have n5_ := am ((by rw [hg]; exact Nat.ne_of_lt (blk_lt (g := gb301) (o := .cells #[.int .i64 a0_0, .int .i64 a0_1, .int .i64 a0_2, .int .i64 a0_3, .int .i64 a0_4, .int .i64 a0_5] 31 (0, 0)) (by exact sB <| BK301.out)) : gb301 ≠ gb302)); have n6_ := am ((by rw [hg]; exact Nat.ne_of_gt (blk_lt (g := gb301) (o := .cells #[.int .i64 a0_0, .int .i64 a0_1, .int .i64 a0_2, .int .i64 a0_3, .int .i64 a0_4, .int .i64 a0_5] 31 (0, 0)) (by exact sB <| BK301.out)) : gb302 ≠ gb301)); clear BK301; clear HB; have BK301 := n0_; have HB := n1_; have BK302 := n2_; have GW302 := n3_; have GE302 := n4_; have NB301_302 := n5_; have NB302_301 := n6_; clear n0_ n1_ n2_ n3_ n4_ n5_ n6_; clear hb hbox hg; have hnb16 := NB301_302.out; have hnc16 := NB302_301.out; obtain ⟨hcz17_0, hcz17_1, hcz17_2, hcz17_3, hcz17_4, hcz17_5⟩ := cz6 BK301.out; obtain ⟨hfz17_0, hfz17_1, hfz17_2, hfz17_3, hfz17_4, hfz17_5⟩ := fz6 BK301.out; obtain ⟨hcz18_0, hcz18_1, hcz18_2, hcz18_3, hcz18_4, hcz18_5⟩ := cz6 BK302.out; obtain ⟨hfz18_0, hfz18_1, hfz18_2, hfz18_3, hfz18_4, hfz18_5⟩ := fz6 BK302.out))
       go_ret
       exact ⟨by rfl, by exact bW⟩
     ·rw [if_neg c7] at H
      have c7b0 : (a0_4 == a1_4) = false := beq_eq_false_iff_ne.mpr c7
      have c7b1 : (a0_4 != a1_4) = true := bne_iff_ne.mpr c7
      obtain rfl := oI H
      go_enter Try.func59, Try.ntmps59
      go_wp2_with (first | ((with_reducible refine gate_dst (N := 2) rfl ?_); refine box_event ?hg (N := 2) ?hd (cs := #[.int .i64 a0_0, .int .i64 a0_1, .int .i64 a0_2, .int .i64 a0_3, .int .i64 a0_4, .int .i64 a0_5]) (t := 31) ?hr ?_; (case hd => rfl); (case hg => rfl); (case hr => (go_simp; done)); intro gb301 hg w19 hbox hb; have n0_ := am (below_step (by exact sW HB.out) hb); have n1_ := am (hbox); have n2_ := am ((by rw [hg]; exact (below_size (by exact sW HB.out)) : w.heap.size ≤ gb301)); have n3_ := am ((by rw [hg]; exact (below_size (by exact sW HB.out)) : w.heap.size ≤ gb301)); clear HB; have HB := n0_; have BK301 := n1_; have GW301 := n2_; have GE301 := n3_; clear n0_ n1_ n2_ n3_; clear hb hbox hg) | ((with_reducible refine gate_dst (N := 3) rfl ?_); refine box_event ?hg (N := 3) ?hd (cs := #[.int .i64 a1_0, .int .i64 a1_1, .int .i64 a1_2, .int .i64 a1_3, .int .i64 a1_4, .int .i64 a1_5]) (t := 31) ?hr ?_; (case hd => rfl); (case hg => rfl); (case hr => (go_simp; done)); intro gb302 hg w20 hbox hb; have n0_ := am (blk_below (g := gb301) (o := .cells #[.int .i64 a0_0, .int .i64 a0_1, .int .i64 a0_2, .int .i64 a0_3, .int .i64 a0_4, .int .i64 a0_5] 31 (0, 0)) (by exact sB <| BK301.out) hb); have n1_ := am (below_step (by exact bW) hb); have n2_ := am (hbox); have n3_ := am ((by rw [hg]; exact (below_size (by exact bW)) : w.heap.size ≤ gb302)); have n4_ := am ((by rw [hg]; exact (below_size (by exact bW)) : w.heap.size ≤ gb302)); have n5_ := am ((by rw [hg]; exact Nat.ne_of_lt (blk_lt (g := gb301) (o := .cells #[.int .i64 a0_0, .int .i64 a0_1, .int .i64 a0_2, .int .i64 a0_3, .int .i64 a0_4, .int .i64 a0_5] 31 (0, 0)) (by exact sB <| BK301.out)) : gb301 ≠ gb302)); have n6_ := am ((by rw [hg]; exact Nat.ne_of_gt (blk_lt (g := gb301) (o := .cells #[.int .i64 a0_0, .int .i64 a0_1, .int .i64 a0_2, .int .i64 a0_3, .int .i64 a0_4, .int .i64 a0_5] 31 (0, 0)) (by exact sB <| BK301.out)) : gb302 ≠ gb301)); clear BK301; clear HB; have BK301 := n0_; have HB := n1_; have BK302 := n2_; have GW302 := n3_; have GE302 := n4_; have NB301_302 := n5_; have NB302_301 := n6_; clear n0_ n1_ n2_ n3_ n4_ n5_ n6_; clear hb hbox hg; have hnb21 := NB301_302.out; have hnc21 := NB302_301.out; obtain ⟨hcz22_0, hcz22_1, hcz22_2, hcz22_3, hcz22_4, hcz22_5⟩ := cz6 BK301.out; obtain ⟨hfz22_0, hfz22_1, hfz22_2, hfz22_3, hfz22_4, hfz22_5⟩ := fz6 BK301.out; obtain ⟨hcz23_0, hcz23_1, hcz23_2, hcz23_3, hcz23_4, hcz23_5⟩ := cz6 BK302.out; obtain ⟨hfz23_0, hfz23_1, hfz23_2, hfz23_3, hfz23_4, hfz23_5⟩ := fz6 BK302.out))
      go_ret
      exact ⟨by rfl, by exact bW⟩
    ·rw [if_neg c6] at H
     have c6b0 : (a0_3 == a1_3) = false := beq_eq_false_iff_ne.mpr c6
     have c6b1 : (a0_3 != a1_3) = true := bne_iff_ne.mpr c6
     obtain rfl := oI H
     go_enter Try.func59, Try.ntmps59
     go_wp2_with (first | ((with_reducible refine gate_dst (N := 2) rfl ?_); refine box_event ?hg (N := 2) ?hd (cs := #[.int .i64 a0_0, .int .i64 a0_1, .int .i64 a0_2, .int .i64 a0_3, .int .i64 a0_4, .int .i64 a0_5]) (t := 31) ?hr ?_; (case hd => rfl); (case hg => rfl); (case hr => (go_simp; done)); intro gb301 hg w24 hbox hb; have n0_ := am (below_step (by exact sW HB.out) hb); have n1_ := am (hbox); have n2_ := am ((by rw [hg]; exact (below_size (by exact sW HB.out)) : w.heap.size ≤ gb301)); have n3_ := am ((by rw [hg]; exact (below_size (by exact sW HB.out)) : w.heap.size ≤ gb301)); clear HB; have HB := n0_; have BK301 := n1_; have GW301 := n2_; have GE301 := n3_; clear n0_ n1_ n2_ n3_; clear hb hbox hg) | ((with_reducible refine gate_dst (N := 3) rfl ?_); refine box_event ?hg (N := 3) ?hd (cs := #[.int .i64 a1_0, .int .i64 a1_1, .int .i64 a1_2, .int .i64 a1_3, .int .i64 a1_4, .int .i64 a1_5]) (t := 31) ?hr ?_; (case hd => rfl); (case hg => rfl); (case hr => (go_simp; done)); intro gb302 hg w25 hbox hb; have n0_ := am (blk_below (g := gb301) (o := .cells #[.int .i64 a0_0, .int .i64 a0_1, .int .i64 a0_2, .int .i64 a0_3, .int .i64 a0_4, .int .i64 a0_5] 31 (0, 0)) (by exact sB <| BK301.out) hb); have n1_ := am (below_step (by exact bW) hb); have n2_ := am (hbox); have n3_ := am ((by rw [hg]; exact (below_size (by exact bW)) : w.heap.size ≤ gb302)); have n4_ := am ((by rw [hg]; exact (below_size (by exact bW)) : w.heap.size ≤ gb302)); have n5_ := am ((by rw [hg]; exact Nat.ne_of_lt (blk_lt (g := gb301) (o := .cells #[.int .i64 a0_0, .int .i64 a0_1, .int .i64 a0_2, .int .i64 a0_3, .int .i64 a0_4, .int .i64 a0_5] 31 (0, 0)) (by exact sB <| BK301.out)) : gb301 ≠ gb302)); have n6_ := am ((by rw [hg]; exact Nat.ne_of_gt (blk_lt (g := gb301) (o := .cells #[.int .i64 a0_0, .int .i64 a0_1, .int .i64 a0_2, .int .i64 a0_3, .int .i64 a0_4, .int .i64 a0_5] 31 (0, 0)) (by exact sB <| BK301.out)) : gb302 ≠ gb301)); clear BK301; clear HB; have BK301 := n0_; have HB := n1_; have BK302 := n2_; have GW302 := n3_; have GE302 := n4_; have NB301_302 := n5_; have NB302_301 := n6_; clear n0_ n1_ n2_ n3_ n4_ n5_ n6_; clear hb hbox hg; have hnb26 := NB301_302.out; have hnc26 := NB302_301.out; obtain ⟨hcz27_0, hcz27_1, hcz27_2, hcz27_3, hcz27_4, hcz27_5⟩ := cz6 BK301.out; obtain ⟨hfz27_0, hfz27_1, hfz27_2, hfz27_3, hfz27_4, hfz27_5⟩ := fz6 BK301.out; obtain ⟨hcz28_0, hcz28_1, hcz28_2, hcz28_3, hcz28_4, hcz28_5⟩ := cz6 BK302.out; obtain ⟨hfz28_0, hfz28_1, hfz28_2, hfz28_3, hfz28_4, hfz28_5⟩ := fz6 BK302.out))
     go_ret
     exact ⟨by rfl, by exact bW⟩
   ·rw [if_neg c5] at H
    have c5b0 : (a0_2 == a1_2) = false := beq_eq_false_iff_ne.mpr c5
    have c5b1 : (a0_2 != a1_2) = true := bne_iff_ne.mpr c5
    obtain rfl := oI H
    go_enter Try.func59, Try.ntmps59
    go_wp2_with (first | ((with_reducible refine gate_dst (N := 2) rfl ?_); refine box_event ?hg (N := 2) ?hd (cs := #[.int .i64 a0_0, .int .i64 a0_1, .int .i64 a0_2, .int .i64 a0_3, .int .i64 a0_4, .int .i64 a0_5]) (t := 31) ?hr ?_; (case hd => rfl); (case hg => rfl); (case hr => (go_simp; done)); intro gb301 hg w29 hbox hb; have n0_ := am (below_step (by exact sW HB.out) hb); have n1_ := am (hbox); have n2_ := am ((by rw [hg]; exact (below_size (by exact sW HB.out)) : w.heap.size ≤ gb301)); have n3_ := am ((by rw [hg]; exact (below_size (by exact sW HB.out)) : w.heap.size ≤ gb301)); clear HB; have HB := n0_; have BK301 := n1_; have GW301 := n2_; have GE301 := n3_; clear n0_ n1_ n2_ n3_; clear hb hbox hg) | ((with_reducible refine gate_dst (N := 3) rfl ?_); refine box_event ?hg (N := 3) ?hd (cs := #[.int .i64 a1_0, .int .i64 a1_1, .int .i64 a1_2, .int .i64 a1_3, .int .i64 a1_4, .int .i64 a1_5]) (t := 31) ?hr ?_; (case hd => rfl); (case hg => rfl); (case hr => (go_simp; done)); intro gb302 hg w30 hbox hb; have n0_ := am (blk_below (g := gb301) (o := .cells #[.int .i64 a0_0, .int .i64 a0_1, .int .i64 a0_2, .int .i64 a0_3, .int .i64 a0_4, .int .i64 a0_5] 31 (0, 0)) (by exact sB <| BK301.out) hb); have n1_ := am (below_step (by exact bW) hb); have n2_ := am (hbox); have n3_ := am ((by rw [hg]; exact (below_size (by exact bW)) : w.heap.size ≤ gb302)); have n4_ := am ((by rw [hg]; exact (below_size (by exact bW)) : w.heap.size ≤ gb302)); have n5_ := am ((by rw [hg]; exact Nat.ne_of_lt (blk_lt (g := gb301) (o := .cells #[.int .i64 a0_0, .int .i64 a0_1, .int .i64 a0_2, .int .i64 a0_3, .int .i64 a0_4, .int .i64 a0_5] 31 (0, 0)) (by exact sB <| BK301.out)) : gb301 ≠ gb302)); have n6_ := am ((by rw [hg]; exact Nat.ne_of_gt (blk_lt (g := gb301) (o := .cells #[.int .i64 a0_0, .int .i64 a0_1, .int .i64 a0_2, .int .i64 a0_3, .int .i64 a0_4, .int .i64 a0_5] 31 (0, 0)) (by exact sB <| BK301.out)) : gb302 ≠ gb301)); clear BK301; clear HB; have BK301 := n0_; have HB := n1_; have BK302 := n2_; have GW302 := n3_; have GE302 := n4_; have NB301_302 := n5_; have NB302_301 := n6_; clear n0_ n1_ n2_ n3_ n4_ n5_ n6_; clear hb hbox hg; have hnb31 := NB301_302.out; have hnc31 := NB302_301.out; obtain ⟨hcz32_0, hcz32_1, hcz32_2, hcz32_3, hcz32_4, hcz32_5⟩ := cz6 BK301.out; obtain ⟨hfz32_0, hfz32_1, hfz32_2, hfz32_3, hfz32_4, hfz32_5⟩ := fz6 BK301.out; obtain ⟨hcz33_0, hcz33_1, hcz33_2, hcz33_3, hcz33_4, hcz33_5⟩ := cz6 BK302.out; obtain ⟨hfz33_0, hfz33_1, hfz33_2, hfz33_3, hfz33_4, hfz33_5⟩ := fz6 BK302.out))
    go_ret
    exact ⟨by rfl, by exact bW⟩
  ·rw [if_neg c4] at H
   have c4b0 : (a0_1 == a1_1) = false := beq_eq_false_iff_ne.mpr c4
   have c4b1 : (a0_1 != a1_1) = true := bne_iff_ne.mpr c4
   obtain rfl := oI H
   go_enter Try.func59, Try.ntmps59
   go_wp2_with (first | ((with_reducible refine gate_dst (N := 2) rfl ?_); refine box_event ?hg (N := 2) ?hd (cs := #[.int .i64 a0_0, .int .i64 a0_1, .int .i64 a0_2, .int .i64 a0_3, .int .i64 a0_4, .int .i64 a0_5]) (t := 31) ?hr ?_; (case hd => rfl); (case hg => rfl); (case hr => (go_simp; done)); intro gb301 hg w34 hbox hb; have n0_ := am (below_step (by exact sW HB.out) hb); have n1_ := am (hbox); have n2_ := am ((by rw [hg]; exact (below_size (by exact sW HB.out)) : w.heap.size ≤ gb301)); have n3_ := am ((by rw [hg]; exact (below_size (by exact sW HB.out)) : w.heap.size ≤ gb301)); clear HB; have HB := n0_; have BK301 := n1_; have GW301 := n2_; have GE301 := n3_; clear n0_ n1_ n2_ n3_; clear hb hbox hg) | ((with_reducible refine gate_dst (N := 3) rfl ?_); refine box_event ?hg (N := 3) ?hd (cs := #[.int .i64 a1_0, .int .i64 a1_1, .int .i64 a1_2, .int .i64 a1_3, .int .i64 a1_4, .int .i64 a1_5]) (t := 31) ?hr ?_; (case hd => rfl); (case hg => rfl); (case hr => (go_simp; done)); intro gb302 hg w35 hbox hb; have n0_ := am (blk_below (g := gb301) (o := .cells #[.int .i64 a0_0, .int .i64 a0_1, .int .i64 a0_2, .int .i64 a0_3, .int .i64 a0_4, .int .i64 a0_5] 31 (0, 0)) (by exact sB <| BK301.out) hb); have n1_ := am (below_step (by exact bW) hb); have n2_ := am (hbox); have n3_ := am ((by rw [hg]; exact (below_size (by exact bW)) : w.heap.size ≤ gb302)); have n4_ := am ((by rw [hg]; exact (below_size (by exact bW)) : w.heap.size ≤ gb302)); have n5_ := am ((by rw [hg]; exact Nat.ne_of_lt (blk_lt (g := gb301) (o := .cells #[.int .i64 a0_0, .int .i64 a0_1, .int .i64 a0_2, .int .i64 a0_3, .int .i64 a0_4, .int .i64 a0_5] 31 (0, 0)) (by exact sB <| BK301.out)) : gb301 ≠ gb302)); have n6_ := am ((by rw [hg]; exact Nat.ne_of_gt (blk_lt (g := gb301) (o := .cells #[.int .i64 a0_0, .int .i64 a0_1, .int .i64 a0_2, .int .i64 a0_3, .int .i64 a0_4, .int .i64 a0_5] 31 (0, 0)) (by exact sB <| BK301.out)) : gb302 ≠ gb301)); clear BK301; clear HB; have BK301 := n0_; have HB := n1_; have BK302 := n2_; have GW302 := n3_; have GE302 := n4_; have NB301_302 := n5_; have NB302_301 := n6_; clear n0_ n1_ n2_ n3_ n4_ n5_ n6_; clear hb hbox hg; have hnb36 := NB301_302.out; have hnc36 := NB302_301.out; obtain ⟨hcz37_0, hcz37_1, hcz37_2, hcz37_3, hcz37_4, hcz37_5⟩ := cz6 BK301.out; obtain ⟨hfz37_0, hfz37_1, hfz37_2, hfz37_3, hfz37_4, hfz37_5⟩ := fz6 BK301.out; obtain ⟨hcz38_0, hcz38_1, hcz38_2, hcz38_3, hcz38_4, hcz38_5⟩ := cz6 BK302.out; obtain ⟨hfz38_0, hfz38_1, hfz38_2, hfz38_3, hfz38_4, hfz38_5⟩ := fz6 BK302.out))
   go_ret
   exact ⟨by rfl, by exact bW⟩
 ·rw [if_neg c3] at H
  have c3b0 : (a0_0 == a1_0) = false := beq_eq_false_iff_ne.mpr c3
  have c3b1 : (a0_0 != a1_0) = true := bne_iff_ne.mpr c3
  obtain rfl := oI H
  go_enter Try.func59, Try.ntmps59
  go_wp2_with (first | ((with_reducible refine gate_dst (N := 2) rfl ?_); refine box_event ?hg (N := 2) ?hd (cs := #[.int .i64 a0_0, .int .i64 a0_1, .int .i64 a0_2, .int .i64 a0_3, .int .i64 a0_4, .int .i64 a0_5]) (t := 31) ?hr ?_; (case hd => rfl); (case hg => rfl); (case hr => (go_simp; done)); intro gb301 hg w39 hbox hb; have n0_ := am (below_step (by exact sW HB.out) hb); have n1_ := am (hbox); have n2_ := am ((by rw [hg]; exact (below_size (by exact sW HB.out)) : w.heap.size ≤ gb301)); have n3_ := am ((by rw [hg]; exact (below_size (by exact sW HB.out)) : w.heap.size ≤ gb301)); clear HB; have HB := n0_; have BK301 := n1_; have GW301 := n2_; have GE301 := n3_; clear n0_ n1_ n2_ n3_; clear hb hbox hg) | ((with_reducible refine gate_dst (N := 3) rfl ?_); refine box_event ?hg (N := 3) ?hd (cs := #[.int .i64 a1_0, .int .i64 a1_1, .int .i64 a1_2, .int .i64 a1_3, .int .i64 a1_4, .int .i64 a1_5]) (t := 31) ?hr ?_; (case hd => rfl); (case hg => rfl); (case hr => (go_simp; done)); intro gb302 hg w40 hbox hb; have n0_ := am (blk_below (g := gb301) (o := .cells #[.int .i64 a0_0, .int .i64 a0_1, .int .i64 a0_2, .int .i64 a0_3, .int .i64 a0_4, .int .i64 a0_5] 31 (0, 0)) (by exact sB <| BK301.out) hb); have n1_ := am (below_step (by exact bW) hb); have n2_ := am (hbox); have n3_ := am ((by rw [hg]; exact (below_size (by exact bW)) : w.heap.size ≤ gb302)); have n4_ := am ((by rw [hg]; exact (below_size (by exact bW)) : w.heap.size ≤ gb302)); have n5_ := am ((by rw [hg]; exact Nat.ne_of_lt (blk_lt (g := gb301) (o := .cells #[.int .i64 a0_0, .int .i64 a0_1, .int .i64 a0_2, .int .i64 a0_3, .int .i64 a0_4, .int .i64 a0_5] 31 (0, 0)) (by exact sB <| BK301.out)) : gb301 ≠ gb302)); have n6_ := am ((by rw [hg]; exact Nat.ne_of_gt (blk_lt (g := gb301) (o := .cells #[.int .i64 a0_0, .int .i64 a0_1, .int .i64 a0_2, .int .i64 a0_3, .int .i64 a0_4, .int .i64 a0_5] 31 (0, 0)) (by exact sB <| BK301.out)) : gb302 ≠ gb301)); clear BK301; clear HB; have BK301 := n0_; have HB := n1_; have BK302 := n2_; have GW302 := n3_; have GE302 := n4_; have NB301_302 := n5_; have NB302_301 := n6_; clear n0_ n1_ n2_ n3_ n4_ n5_ n6_; clear hb hbox hg; have hnb41 := NB301_302.out; have hnc41 := NB302_301.out; obtain ⟨hcz42_0, hcz42_1, hcz42_2, hcz42_3, hcz42_4, hcz42_5⟩ := cz6 BK301.out; obtain ⟨hfz42_0, hfz42_1, hfz42_2, hfz42_3, hfz42_4, hfz42_5⟩ := fz6 BK301.out; obtain ⟨hcz43_0, hcz43_1, hcz43_2, hcz43_3, hcz43_4, hcz43_5⟩ := cz6 BK302.out; obtain ⟨hfz43_0, hfz43_1, hfz43_2, hfz43_3, hfz43_4, hfz43_5⟩ := fz6 BK302.out))
  go_ret
  exact ⟨by rfl, by exact bW⟩
@[reducible] def zA0x19 : Array Bool := #[false, false, false, false, false, false, false, false, false, false]
@[reducible] def zA1x19 : Array Bool := #[true, false, false, false, false, false, false, false, false, false]
@[reducible] def zA2x19 : Array Bool := #[true, true, false, false, false, false, false, false, false, false]
@[reducible] def zA3x19 : Array Bool := #[true, true, true, false, false, false, false, false, false, false]
@[reducible] def zA4x19 : Array Bool := #[true, true, true, false, true, false, false, false, false, false]
@[reducible] def zA5x19 : Array Bool := #[true, true, true, false, true, true, false, false, false, false]
@[reducible] def zA6x19 : Array Bool := #[true, true, true, false, true, true, true, false, false, false]
@[reducible] def zA7x19 : Array Bool := #[true, true, true, true, true, true, true, false, false, false]
@[reducible] def zA8x19 : Array Bool := #[true, true, true, true, true, true, true, true, false, false]
@[reducible] def zA9x19 : Array Bool := #[true, true, true, true, true, true, true, true, true, false]
@[reducible] def zA10x19 : Array Bool := #[true, true, true, true, true, true, true, true, true, true]
/-! ### laws_eqNodeS: function 22 -/
def laws_eqNodeS.l0 : Nat → List (S31) → List (S31) → Int → Option (Bool)
 | 0, _, _, _ => none
 | k + 1, x0, x1, x5 => if x5 < (x0.length : Int) then (if 0 ≤ x5 then (if x5 < (x1.length : Int) then ((laws_eqNode.f ((rd_T31 x0 x5).f0) ((rd_T31 x0 x5).f1) ((rd_T31 x0 x5).f2) ((rd_T31 x0 x5).f3) ((rd_T31 x0 x5).f4) ((rd_T31 x0 x5).f5) ((rd_T31 x1 x5).f0) ((rd_T31 x1 x5).f1) ((rd_T31 x1 x5).f2) ((rd_T31 x1 x5).f3) ((rd_T31 x1 x5).f4) ((rd_T31 x1 x5).f5)).bind fun t305 => (if t305 = true then (laws_eqNodeS.l0 k x0 x1 (wrap64 (x5 + 1))) else (some false))) else (none)) else (none)) else (some true)
def laws_eqNodeS.f (k : Nat) (l0 : List (S31)) (l1 : List (S31)) : Option (Bool) := if (l0.length : Int) = (l1.length : Int) then (laws_eqNodeS.l0 k l0 l1 0) else (some false)
def laws_eqNodeS.T6 : Bool × List (List Nat × List Nat) := (true, [([], []), ([], []), ([0, 1], [0, 1]), ([2], [2]), ([], []), ([], []), ([4, 5], [4, 5]), ([6], [6]), ([3, 7], [3, 7]), ([8], [8])])
def laws_eqNodeS.B6 : List Nat := [0, 0, 3, 7, 0, 0, 48, 112, 255, 511]
theorem laws_eqNodeS.tab6 : rtab .any (opsOf Try.f22 6) = laws_eqNodeS.T6 := by kernel_rfl
theorem laws_eqNodeS.bits6 : waitsOk laws_eqNodeS.T6.2 laws_eqNodeS.B6 = true := by kernel_rfl
set_option maxHeartbeats 8000000 in
set_option maxRecDepth 100000 in
theorem laws_eqNodeS.calls (k : Nat) (A0 : Option Addr) (c0 : Nat) (l0 : List (S31)) (A1 : Option Addr) (c1 : Nat) (l1 : List (S31)) (r : Bool) (w : World) (hr0 : Kd.C k31 w A0 l0.length l0) (hc0 : l0.length ≤ c0) (hr1 : Kd.C k31 w A1 l1.length l1) (hc1 : l1.length ≤ c1) (h : laws_eqNodeS.f k l0 l1 = some r) :
  Calls Try.prog 22 #[.slice A0 l0.length c0, .slice A1 l1.length c1] w fun e w' => e = .returned (.bool r) ∧ Below w.heap.size w w' := by
 have hu31 := Try.underlying31
 have HR0 := am hr0
 have HC0 := am hc0
 clear hr0 hc0
 have HR1 := am hr1
 have HC1 := am hc1
 clear hr1 hc1
 have HB := am (Below.refl w.heap.size w)
 have H : (if (l0.length : Int) = (l1.length : Int) then (laws_eqNodeS.l0 k l0 l1 0) else (some false)) = some r := h
 clear h
 by_cases c3 : (l0.length : Int) = (l1.length : Int)
 ·rw [if_pos c3] at H
  have c3b0 : ((l0.length : Int) == (l1.length : Int)) = true := beq_iff_eq.mpr c3
  have c3b1 : ((l0.length : Int) != (l1.length : Int)) = false := bne_eq_false_iff_eq.mpr c3
  have c3b2 : (l0.length == l1.length) = true := by (simp at c3 ⊢; omega)
  clear c3
  have H' := am H
  clear H
  go_enter Try.func22, Try.ntmps22
  go_wp2
  go_loopg [5] k (fun kq v5 w' => ∃ (x5_1 : Int), v5 = .int .i64 x5_1 ∧ Aside0 (laws_eqNodeS.l0 kq l0 l1 x5_1 = some r) ∧ Aside0 (kq ≤ k) ∧ Aside0 (Below w.heap.size w w'))
  case atStart => exact ⟨(0), (by rfl), H', ⟨Nat.le_refl _⟩, ⟨by exact sW HB.out⟩⟩
  case round =>
   clear H'
   clear c3b0 c3b1 c3b2
   obtain ⟨x5_1, rfl, HA, HK1, HB⟩ := hrel
   cases gk with
   | zero => exact absurd HA.out (by simp [laws_eqNodeS.l0])
   | succ k1 =>
    have H := HA.out
    clear HA
    simp only [laws_eqNodeS.l0] at H
    by_cases c4 : x5_1 < (l0.length : Int)
    ·rw [if_pos c4] at H
     have c4b0 : decide (x5_1 < (l0.length : Int)) = true := decide_eq_true c4
     clear c4
     by_cases c5 : 0 ≤ x5_1
     ·rw [if_pos c5] at H
      have c5b0 : decide (0 ≤ x5_1) = true := decide_eq_true c5
      clear c5
      by_cases c6 : x5_1 < (l1.length : Int)
      ·rw [if_pos c6] at H
       have c6b0 : decide (x5_1 < (l1.length : Int)) = true := decide_eq_true c6
       clear c6
       replace H := oB H
       obtain ⟨t305, A70, H⟩ := H
       have A7 := am A70
       clear A70
       by_cases c8 : t305 = true
       ·subst c8
        rw [if_pos rfl] at H
        have H' := am H
        clear H
        try go_wp2
        have n0_ := am (below_drew1 HB.out)
        clear HB
        have HB := n0_
        clear n0_
        have p303 : 0 ≤ (x5_1 : Int) := oD (by assumption)
        have q303 : x5_1 < (l0.length : Int) := oD (by assumption)
        obtain ⟨ad303, e303, hx303_0, hx303_1, hx303_2, hx303_3, hx303_4, hx303_5⟩ := at_T31 HR0.out x5_1 p303 q303
        have hw303_5 := hx303_5
        have hw303_4 := hx303_4
        have hw303_3 := hx303_3
        have hw303_2 := hx303_2
        have hw303_1 := hx303_1
        have hw303_0 := hx303_0
        cases e303
        replace hx303_0 := pw_cell_below HB.out hx303_0
        replace hx303_1 := pw_cell_below HB.out hx303_1
        replace hx303_2 := pw_cell_below HB.out hx303_2
        replace hx303_3 := pw_cell_below HB.out hx303_3
        replace hx303_4 := pw_cell_below HB.out hx303_4
        replace hx303_5 := pw_cell_below HB.out hx303_5
        replace p303 := eq_true p303
        replace q303 := eq_true q303
        have p304 : 0 ≤ (x5_1 : Int) := oD (by assumption)
        have q304 : x5_1 < (l1.length : Int) := oD (by assumption)
        obtain ⟨ad304, e304, hx304_0, hx304_1, hx304_2, hx304_3, hx304_4, hx304_5⟩ := at_T31 HR1.out x5_1 p304 q304
        have hw304_5 := hx304_5
        have hw304_4 := hx304_4
        have hw304_3 := hx304_3
        have hw304_2 := hx304_2
        have hw304_1 := hx304_1
        have hw304_0 := hx304_0
        cases e304
        replace hx304_0 := pw_cell_below HB.out hx304_0
        replace hx304_1 := pw_cell_below HB.out hx304_1
        replace hx304_2 := pw_cell_below HB.out hx304_2
        replace hx304_3 := pw_cell_below HB.out hx304_3
        replace hx304_4 := pw_cell_below HB.out hx304_4
        replace hx304_5 := pw_cell_below HB.out hx304_5
        replace p304 := eq_true p304
        replace q304 := eq_true q304
        refine start_ (n := 10) (S := fun w' => w'.cell? (ad303.add ((x5_1).toNat * 6)) = some (.int .i64 ((rd_T31 l0 x5_1).f0)) ∧ w'.cell? ⟨(ad303.add ((x5_1).toNat * 6)).block, (ad303.add ((x5_1).toNat * 6)).off + 1, none⟩ = some (.int .i64 ((rd_T31 l0 x5_1).f1)) ∧ w'.cell? ⟨(ad303.add ((x5_1).toNat * 6)).block, (ad303.add ((x5_1).toNat * 6)).off + 2, none⟩ = some (.int .i64 ((rd_T31 l0 x5_1).f2)) ∧ w'.cell? ⟨(ad303.add ((x5_1).toNat * 6)).block, (ad303.add ((x5_1).toNat * 6)).off + 3, none⟩ = some (.int .i64 ((rd_T31 l0 x5_1).f3)) ∧ w'.cell? ⟨(ad303.add ((x5_1).toNat * 6)).block, (ad303.add ((x5_1).toNat * 6)).off + 4, none⟩ = some (.int .i64 ((rd_T31 l0 x5_1).f4)) ∧ w'.cell? ⟨(ad303.add ((x5_1).toNat * 6)).block, (ad303.add ((x5_1).toNat * 6)).off + 5, none⟩ = some (.int .i64 ((rd_T31 l0 x5_1).f5)) ∧ w'.cell? (ad304.add ((x5_1).toNat * 6)) = some (.int .i64 ((rd_T31 l1 x5_1).f0)) ∧ w'.cell? ⟨(ad304.add ((x5_1).toNat * 6)).block, (ad304.add ((x5_1).toNat * 6)).off + 1, none⟩ = some (.int .i64 ((rd_T31 l1 x5_1).f1)) ∧ w'.cell? ⟨(ad304.add ((x5_1).toNat * 6)).block, (ad304.add ((x5_1).toNat * 6)).off + 2, none⟩ = some (.int .i64 ((rd_T31 l1 x5_1).f2)) ∧ w'.cell? ⟨(ad304.add ((x5_1).toNat * 6)).block, (ad304.add ((x5_1).toNat * 6)).off + 3, none⟩ = some (.int .i64 ((rd_T31 l1 x5_1).f3)) ∧ w'.cell? ⟨(ad304.add ((x5_1).toNat * 6)).block, (ad304.add ((x5_1).toNat * 6)).off + 4, none⟩ = some (.int .i64 ((rd_T31 l1 x5_1).f4)) ∧ w'.cell? ⟨(ad304.add ((x5_1).toNat * 6)).block, (ad304.add ((x5_1).toNat * 6)).off + 5, none⟩ = some (.int .i64 ((rd_T31 l1 x5_1).f5))) (ds := []) zA0x19 (by kernel_rfl) rfl rfl ⟨(pw_cell_below HB.out hw303_0), (pw_cell_below HB.out hw303_1), (pw_cell_below HB.out hw303_2), (pw_cell_below HB.out hw303_3), (pw_cell_below HB.out hw303_4), (pw_cell_below HB.out hw303_5), (pw_cell_below HB.out hw304_0), (pw_cell_below HB.out hw304_1), (pw_cell_below HB.out hw304_2), (pw_cell_below HB.out hw304_3), (pw_cell_below HB.out hw304_4), (pw_cell_below HB.out hw304_5)⟩ (fun hHeld => ?_); refine with_tabW laws_eqNodeS.tab6 laws_eqNodeS.bits6 (fun HT_ HW_ => ?_)
        generalize wr.drew = w9 at HB hx303_0 hx303_1 hx303_2 hx303_3 hx303_4 hx303_5 hx304_0 hx304_1 hx304_2 hx304_3 hx304_4 hx304_5 hHeld ⊢
        refine pure_ (i := 0) (N := some 17) (v := ?_) (a' := ?_) zA1x19 rfl rfl (any_of HT_.out (by kernel_rfl)) (fun _ _ _ h => h) (Or.inl ⟨by rfl, ?_⟩) ?_ ?_; rotate_left; (intro w'; go_simp; with_reducible rfl); rotate_left; (simp only [Act.put, List.setIfInBounds_toArray, List.set_cons_zero, List.set_cons_succ, i64_w, i32_w]; rfl)
        refine pure_ (i := 1) (N := some 18) (v := ?_) (a' := ?_) zA2x19 rfl rfl (any_of HT_.out (by kernel_rfl)) (fun _ _ _ h => h) (Or.inl ⟨by rfl, ?_⟩) ?_ ?_; rotate_left; (intro w'; go_simp; with_reducible rfl); rotate_left; (simp only [Act.put, List.setIfInBounds_toArray, List.set_cons_zero, List.set_cons_succ, i64_w, i32_w]; rfl)
        refine pure_ (i := 2) (N := some 19) (v := ?_) (a' := ?_) zA3x19 rfl rfl (any_of HT_.out (by kernel_rfl)) (fun _ _ _ h => h) (Or.inl ⟨by rfl, ?_⟩) ?_ ?_; rotate_left; (intro w'; go_simp; with_reducible rfl); rotate_left; (simp only [Act.put, List.setIfInBounds_toArray, List.set_cons_zero, List.set_cons_succ, i64_w, i32_w]; rfl)
        refine pure_ (i := 4) (N := some 21) (v := ?_) (a' := ?_) zA4x19 rfl rfl (any_of HT_.out (by kernel_rfl)) (fun _ _ _ h => h) (Or.inl ⟨by rfl, ?_⟩) ?_ ?_; rotate_left; (intro w'; go_simp; with_reducible rfl); rotate_left; (simp only [Act.put, List.setIfInBounds_toArray, List.set_cons_zero, List.set_cons_succ, i64_w, i32_w]; rfl)
        refine pure_ (i := 5) (N := some 22) (v := ?_) (a' := ?_) zA5x19 rfl rfl (any_of HT_.out (by kernel_rfl)) (fun _ _ _ h => h) (Or.inl ⟨by rfl, ?_⟩) ?_ ?_; rotate_left; (intro w'; go_simp; with_reducible rfl); rotate_left; (simp only [Act.put, List.setIfInBounds_toArray, List.set_cons_zero, List.set_cons_succ, i64_w, i32_w]; rfl)
        refine pure_ (i := 6) (N := some 23) (v := ?_) (a' := ?_) zA6x19 rfl rfl (any_of HT_.out (by kernel_rfl)) (fun _ _ _ h => h) (Or.inl ⟨by rfl, ?_⟩) ?_ ?_; rotate_left; (intro w'; go_simp; with_reducible rfl); rotate_left; (simp only [Act.put, List.setIfInBounds_toArray, List.set_cons_zero, List.set_cons_succ, i64_w, i32_w]; rfl)
        refine take_ (i := 3) (N := some 20) (v := ?_) (a' := ?_) zA7x19 rfl rfl (take_ofW HT_.out HW_.out (by kernel_rfl)) (fun _ _ _ h => h) (Or.inl ⟨by rfl, ?_⟩) hHeld ?_ ?_
        rotate_left
        ·rintro w' ⟨s0, s1, s2, s3, s4, s5, s6, s7, s8, s9, s10, s11⟩
         go_simp
         with_reducible rfl
        rotate_left
        ·simp only [Act.put, List.setIfInBounds_toArray, List.set_cons_zero, List.set_cons_succ, i64_w, i32_w]
         rfl
        refine take_ (i := 7) (N := some 24) (v := ?_) (a' := ?_) zA8x19 rfl rfl (take_ofW HT_.out HW_.out (by kernel_rfl)) (fun _ _ _ h => h) (Or.inl ⟨by rfl, ?_⟩) hHeld ?_ ?_
        rotate_left
        ·rintro w' ⟨s0, s1, s2, s3, s4, s5, s6, s7, s8, s9, s10, s11⟩
         go_simp
         with_reducible rfl
        rotate_left
        ·simp only [Act.put, List.setIfInBounds_toArray, List.set_cons_zero, List.set_cons_succ, i64_w, i32_w]
         rfl
        refine one_ (i := 8) (N := some 25) zA9x19 rfl rfl (one_of HT_.out (by kernel_rfl)) (by decide) (fun K hK => ?_)
        refine goes_ Try.func59 (by kernel_rfl) rfl #[.agg #[.int .i64 ((rd_T31 l0 x5_1).f0), .int .i64 ((rd_T31 l0 x5_1).f1), .int .i64 ((rd_T31 l0 x5_1).f2), .int .i64 ((rd_T31 l0 x5_1).f3), .int .i64 ((rd_T31 l0 x5_1).f4), .int .i64 ((rd_T31 l0 x5_1).f5)], .agg #[.int .i64 ((rd_T31 l1 x5_1).f0), .int .i64 ((rd_T31 l1 x5_1).f1), .int .i64 ((rd_T31 l1 x5_1).f2), .int .i64 ((rd_T31 l1 x5_1).f3), .int .i64 ((rd_T31 l1 x5_1).f4), .int .i64 ((rd_T31 l1 x5_1).f5)]] (by rfl) rfl rfl tm ?_
        with_reducible refine (laws_eqNode.calls ((rd_T31 l0 x5_1).f0) ((rd_T31 l0 x5_1).f1) ((rd_T31 l0 x5_1).f2) ((rd_T31 l0 x5_1).f3) ((rd_T31 l0 x5_1).f4) ((rd_T31 l0 x5_1).f5) ((rd_T31 l1 x5_1).f0) ((rd_T31 l1 x5_1).f1) ((rd_T31 l1 x5_1).f2) ((rd_T31 l1 x5_1).f3) ((rd_T31 l1 x5_1).f4) ((rd_T31 l1 x5_1).f5) true _ A7.out).mono ?_
        rintro e w10 ⟨rfl, hb⟩
        refine ⟨_, rfl, ?_⟩
        have n0_ := am (below_step (by exact sW HB.out) hb)
        clear HB
        have HB := n0_
        clear n0_
        clear hb
        refine hK.out _ _ ⟨(pw_cell_below HB.out hw303_0), (pw_cell_below HB.out hw303_1), (pw_cell_below HB.out hw303_2), (pw_cell_below HB.out hw303_3), (pw_cell_below HB.out hw303_4), (pw_cell_below HB.out hw303_5), (pw_cell_below HB.out hw304_0), (pw_cell_below HB.out hw304_1), (pw_cell_below HB.out hw304_2), (pw_cell_below HB.out hw304_3), (pw_cell_below HB.out hw304_4), (pw_cell_below HB.out hw304_5)⟩ (fun hHeld => ?_)
        clear hK K
        refine norm_ (a' := ?_) ?_ ?_
        rotate_left
        ·show Act.put _ (some 25) _ = _
         simp only [Act.put, List.setIfInBounds_toArray, List.set_cons_zero, List.set_cons_succ, i64_w, i32_w]
         rfl
        refine pure_ (i := 9) (N := some 26) (v := ?_) (a' := ?_) zA10x19 rfl rfl (any_of HT_.out (by kernel_rfl)) (fun _ _ _ h => h) (Or.inl ⟨by rfl, ?_⟩) ?_ ?_; rotate_left; (intro w'; go_simp; with_reducible rfl); rotate_left; (simp only [Act.put, List.setIfInBounds_toArray, List.set_cons_zero, List.set_cons_succ, i64_w, i32_w]; rfl)
        refine done_ (done_of HT_.out (by kernel_rfl)) ?_
        try go_wp2
        go_roundg k1
        case measure => have := HK1.out; omega
        case rel => exact ⟨(wrap64 (x5_1 + 1)), (by rfl), H', ⟨by have := HK1.out; omega⟩, ⟨by exact sW HB.out⟩⟩
       ·replace c8 := Bool.eq_false_iff.mpr c8
        subst c8
        rw [if_neg (show ¬ (false = true) by decide)] at H
        obtain rfl := oI H
        try go_wp2
        have n0_ := am (below_drew1 HB.out)
        clear HB
        have HB := n0_
        clear n0_
        have p303 : 0 ≤ (x5_1 : Int) := oD (by assumption)
        have q303 : x5_1 < (l0.length : Int) := oD (by assumption)
        obtain ⟨ad303, e303, hx303_0, hx303_1, hx303_2, hx303_3, hx303_4, hx303_5⟩ := at_T31 HR0.out x5_1 p303 q303
        have hw303_5 := hx303_5
        have hw303_4 := hx303_4
        have hw303_3 := hx303_3
        have hw303_2 := hx303_2
        have hw303_1 := hx303_1
        have hw303_0 := hx303_0
        cases e303
        replace hx303_0 := pw_cell_below HB.out hx303_0
        replace hx303_1 := pw_cell_below HB.out hx303_1
        replace hx303_2 := pw_cell_below HB.out hx303_2
        replace hx303_3 := pw_cell_below HB.out hx303_3
        replace hx303_4 := pw_cell_below HB.out hx303_4
        replace hx303_5 := pw_cell_below HB.out hx303_5
        replace p303 := eq_true p303
        replace q303 := eq_true q303
        have p304 : 0 ≤ (x5_1 : Int) := oD (by assumption)
        have q304 : x5_1 < (l1.length : Int) := oD (by assumption)
        obtain ⟨ad304, e304, hx304_0, hx304_1, hx304_2, hx304_3, hx304_4, hx304_5⟩ := at_T31 HR1.out x5_1 p304 q304
        have hw304_5 := hx304_5
        have hw304_4 := hx304_4
        have hw304_3 := hx304_3
        have hw304_2 := hx304_2
        have hw304_1 := hx304_1
        have hw304_0 := hx304_0
        cases e304
        replace hx304_0 := pw_cell_below HB.out hx304_0
        replace hx304_1 := pw_cell_below HB.out hx304_1
        replace hx304_2 := pw_cell_below HB.out hx304_2
        replace hx304_3 := pw_cell_below HB.out hx304_3
        replace hx304_4 := pw_cell_below HB.out hx304_4
        replace hx304_5 := pw_cell_below HB.out hx304_5
        replace p304 := eq_true p304
        replace q304 := eq_true q304
        refine start_ (n := 10) (S := fun w' => w'.cell? (ad303.add ((x5_1).toNat * 6)) = some (.int .i64 ((rd_T31 l0 x5_1).f0)) ∧ w'.cell? ⟨(ad303.add ((x5_1).toNat * 6)).block, (ad303.add ((x5_1).toNat * 6)).off + 1, none⟩ = some (.int .i64 ((rd_T31 l0 x5_1).f1)) ∧ w'.cell? ⟨(ad303.add ((x5_1).toNat * 6)).block, (ad303.add ((x5_1).toNat * 6)).off + 2, none⟩ = some (.int .i64 ((rd_T31 l0 x5_1).f2)) ∧ w'.cell? ⟨(ad303.add ((x5_1).toNat * 6)).block, (ad303.add ((x5_1).toNat * 6)).off + 3, none⟩ = some (.int .i64 ((rd_T31 l0 x5_1).f3)) ∧ w'.cell? ⟨(ad303.add ((x5_1).toNat * 6)).block, (ad303.add ((x5_1).toNat * 6)).off + 4, none⟩ = some (.int .i64 ((rd_T31 l0 x5_1).f4)) ∧ w'.cell? ⟨(ad303.add ((x5_1).toNat * 6)).block, (ad303.add ((x5_1).toNat * 6)).off + 5, none⟩ = some (.int .i64 ((rd_T31 l0 x5_1).f5)) ∧ w'.cell? (ad304.add ((x5_1).toNat * 6)) = some (.int .i64 ((rd_T31 l1 x5_1).f0)) ∧ w'.cell? ⟨(ad304.add ((x5_1).toNat * 6)).block, (ad304.add ((x5_1).toNat * 6)).off + 1, none⟩ = some (.int .i64 ((rd_T31 l1 x5_1).f1)) ∧ w'.cell? ⟨(ad304.add ((x5_1).toNat * 6)).block, (ad304.add ((x5_1).toNat * 6)).off + 2, none⟩ = some (.int .i64 ((rd_T31 l1 x5_1).f2)) ∧ w'.cell? ⟨(ad304.add ((x5_1).toNat * 6)).block, (ad304.add ((x5_1).toNat * 6)).off + 3, none⟩ = some (.int .i64 ((rd_T31 l1 x5_1).f3)) ∧ w'.cell? ⟨(ad304.add ((x5_1).toNat * 6)).block, (ad304.add ((x5_1).toNat * 6)).off + 4, none⟩ = some (.int .i64 ((rd_T31 l1 x5_1).f4)) ∧ w'.cell? ⟨(ad304.add ((x5_1).toNat * 6)).block, (ad304.add ((x5_1).toNat * 6)).off + 5, none⟩ = some (.int .i64 ((rd_T31 l1 x5_1).f5))) (ds := []) zA0x19 (by kernel_rfl) rfl rfl ⟨(pw_cell_below HB.out hw303_0), (pw_cell_below HB.out hw303_1), (pw_cell_below HB.out hw303_2), (pw_cell_below HB.out hw303_3), (pw_cell_below HB.out hw303_4), (pw_cell_below HB.out hw303_5), (pw_cell_below HB.out hw304_0), (pw_cell_below HB.out hw304_1), (pw_cell_below HB.out hw304_2), (pw_cell_below HB.out hw304_3), (pw_cell_below HB.out hw304_4), (pw_cell_below HB.out hw304_5)⟩ (fun hHeld => ?_); refine with_tabW laws_eqNodeS.tab6 laws_eqNodeS.bits6 (fun HT_ HW_ => ?_)
        generalize wr.drew = w11 at HB hx303_0 hx303_1 hx303_2 hx303_3 hx303_4 hx303_5 hx304_0 hx304_1 hx304_2 hx304_3 hx304_4 hx304_5 hHeld ⊢
        refine pure_ (i := 0) (N := some 17) (v := ?_) (a' := ?_) zA1x19 rfl rfl (any_of HT_.out (by kernel_rfl)) (fun _ _ _ h => h) (Or.inl ⟨by rfl, ?_⟩) ?_ ?_; rotate_left; (intro w'; go_simp; with_reducible rfl); rotate_left; (simp only [Act.put, List.setIfInBounds_toArray, List.set_cons_zero, List.set_cons_succ, i64_w, i32_w]; rfl)
        refine pure_ (i := 1) (N := some 18) (v := ?_) (a' := ?_) zA2x19 rfl rfl (any_of HT_.out (by kernel_rfl)) (fun _ _ _ h => h) (Or.inl ⟨by rfl, ?_⟩) ?_ ?_; rotate_left; (intro w'; go_simp; with_reducible rfl); rotate_left; (simp only [Act.put, List.setIfInBounds_toArray, List.set_cons_zero, List.set_cons_succ, i64_w, i32_w]; rfl)
        refine pure_ (i := 2) (N := some 19) (v := ?_) (a' := ?_) zA3x19 rfl rfl (any_of HT_.out (by kernel_rfl)) (fun _ _ _ h => h) (Or.inl ⟨by rfl, ?_⟩) ?_ ?_; rotate_left; (intro w'; go_simp; with_reducible rfl); rotate_left; (simp only [Act.put, List.setIfInBounds_toArray, List.set_cons_zero, List.set_cons_succ, i64_w, i32_w]; rfl)
        refine pure_ (i := 4) (N := some 21) (v := ?_) (a' := ?_) zA4x19 rfl rfl (any_of HT_.out (by kernel_rfl)) (fun _ _ _ h => h) (Or.inl ⟨by rfl, ?_⟩) ?_ ?_; rotate_left; (intro w'; go_simp; with_reducible rfl); rotate_left; (simp only [Act.put, List.setIfInBounds_toArray, List.set_cons_zero, List.set_cons_succ, i64_w, i32_w]; rfl)
        refine pure_ (i := 5) (N := some 22) (v := ?_) (a' := ?_) zA5x19 rfl rfl (any_of HT_.out (by kernel_rfl)) (fun _ _ _ h => h) (Or.inl ⟨by rfl, ?_⟩) ?_ ?_; rotate_left; (intro w'; go_simp; with_reducible rfl); rotate_left; (simp only [Act.put, List.setIfInBounds_toArray, List.set_cons_zero, List.set_cons_succ, i64_w, i32_w]; rfl)
        refine pure_ (i := 6) (N := some 23) (v := ?_) (a' := ?_) zA6x19 rfl rfl (any_of HT_.out (by kernel_rfl)) (fun _ _ _ h => h) (Or.inl ⟨by rfl, ?_⟩) ?_ ?_; rotate_left; (intro w'; go_simp; with_reducible rfl); rotate_left; (simp only [Act.put, List.setIfInBounds_toArray, List.set_cons_zero, List.set_cons_succ, i64_w, i32_w]; rfl)
        refine take_ (i := 3) (N := some 20) (v := ?_) (a' := ?_) zA7x19 rfl rfl (take_ofW HT_.out HW_.out (by kernel_rfl)) (fun _ _ _ h => h) (Or.inl ⟨by rfl, ?_⟩) hHeld ?_ ?_
        rotate_left
        ·rintro w' ⟨s0, s1, s2, s3, s4, s5, s6, s7, s8, s9, s10, s11⟩
         go_simp
         with_reducible rfl
        rotate_left
        ·simp only [Act.put, List.setIfInBounds_toArray, List.set_cons_zero, List.set_cons_succ, i64_w, i32_w]
         rfl
        refine take_ (i := 7) (N := some 24) (v := ?_) (a' := ?_) zA8x19 rfl rfl (take_ofW HT_.out HW_.out (by kernel_rfl)) (fun _ _ _ h => h) (Or.inl ⟨by rfl, ?_⟩) hHeld ?_ ?_
        rotate_left
        ·rintro w' ⟨s0, s1, s2, s3, s4, s5, s6, s7, s8, s9, s10, s11⟩
         go_simp
         with_reducible rfl
        rotate_left
        ·simp only [Act.put, List.setIfInBounds_toArray, List.set_cons_zero, List.set_cons_succ, i64_w, i32_w]
         rfl
        refine one_ (i := 8) (N := some 25) zA9x19 rfl rfl (one_of HT_.out (by kernel_rfl)) (by decide) (fun K hK => ?_)
        refine goes_ Try.func59 (by kernel_rfl) rfl #[.agg #[.int .i64 ((rd_T31 l0 x5_1).f0), .int .i64 ((rd_T31 l0 x5_1).f1), .int .i64 ((rd_T31 l0 x5_1).f2), .int .i64 ((rd_T31 l0 x5_1).f3), .int .i64 ((rd_T31 l0 x5_1).f4), .int .i64 ((rd_T31 l0 x5_1).f5)], .agg #[.int .i64 ((rd_T31 l1 x5_1).f0), .int .i64 ((rd_T31 l1 x5_1).f1), .int .i64 ((rd_T31 l1 x5_1).f2), .int .i64 ((rd_T31 l1 x5_1).f3), .int .i64 ((rd_T31 l1 x5_1).f4), .int .i64 ((rd_T31 l1 x5_1).f5)]] (by rfl) rfl rfl tm ?_
        with_reducible refine (laws_eqNode.calls ((rd_T31 l0 x5_1).f0) ((rd_T31 l0 x5_1).f1) ((rd_T31 l0 x5_1).f2) ((rd_T31 l0 x5_1).f3) ((rd_T31 l0 x5_1).f4) ((rd_T31 l0 x5_1).f5) ((rd_T31 l1 x5_1).f0) ((rd_T31 l1 x5_1).f1) ((rd_T31 l1 x5_1).f2) ((rd_T31 l1 x5_1).f3) ((rd_T31 l1 x5_1).f4) ((rd_T31 l1 x5_1).f5) false _ A7.out).mono ?_
        rintro e w12 ⟨rfl, hb⟩
        refine ⟨_, rfl, ?_⟩
        have n0_ := am (below_step (by exact sW HB.out) hb)
        clear HB
        have HB := n0_
        clear n0_
        clear hb
        refine hK.out _ _ ⟨(pw_cell_below HB.out hw303_0), (pw_cell_below HB.out hw303_1), (pw_cell_below HB.out hw303_2), (pw_cell_below HB.out hw303_3), (pw_cell_below HB.out hw303_4), (pw_cell_below HB.out hw303_5), (pw_cell_below HB.out hw304_0), (pw_cell_below HB.out hw304_1), (pw_cell_below HB.out hw304_2), (pw_cell_below HB.out hw304_3), (pw_cell_below HB.out hw304_4), (pw_cell_below HB.out hw304_5)⟩ (fun hHeld => ?_)
        clear hK K
        refine norm_ (a' := ?_) ?_ ?_
        rotate_left
        ·show Act.put _ (some 25) _ = _
         simp only [Act.put, List.setIfInBounds_toArray, List.set_cons_zero, List.set_cons_succ, i64_w, i32_w]
         rfl
        refine pure_ (i := 9) (N := some 26) (v := ?_) (a' := ?_) zA10x19 rfl rfl (any_of HT_.out (by kernel_rfl)) (fun _ _ _ h => h) (Or.inl ⟨by rfl, ?_⟩) ?_ ?_; rotate_left; (intro w'; go_simp; with_reducible rfl); rotate_left; (simp only [Act.put, List.setIfInBounds_toArray, List.set_cons_zero, List.set_cons_succ, i64_w, i32_w]; rfl)
        refine done_ (done_of HT_.out (by kernel_rfl)) ?_
        try go_wp2
        go_ret
        exact ⟨by rfl, by exact sW HB.out⟩
      ·rw [if_neg c6] at H
       exact absurd H (by simp)
     ·rw [if_neg c5] at H
      exact absurd H (by simp)
    ·rw [if_neg c4] at H
     have c4b0 : decide (x5_1 < (l0.length : Int)) = false := decide_eq_false c4
     clear c4
     obtain rfl := oI H
     go_wp2
     go_ret
     exact ⟨by rfl, by exact sW HB.out⟩
 ·rw [if_neg c3] at H
  have c3b0 : ((l0.length : Int) == (l1.length : Int)) = false := beq_eq_false_iff_ne.mpr c3
  have c3b1 : ((l0.length : Int) != (l1.length : Int)) = true := bne_iff_ne.mpr c3
  have c3b2 : (l0.length == l1.length) = false := by (simp at c3 ⊢; omega)
  obtain rfl := oI H
  go_enter Try.func22, Try.ntmps22
  go_wp2
  go_ret
  exact ⟨by rfl, by exact sW HB.out⟩
end Go.Proofs.Ytkpipmojkhikaaa.PAll
