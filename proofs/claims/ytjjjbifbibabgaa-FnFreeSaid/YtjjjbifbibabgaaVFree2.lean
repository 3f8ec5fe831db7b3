/- Written by a program of this session over the loaded program, and by hand: Go functions as plain Lean functions, and that a call comes to what they say. -/
import Derived.Test.YtjjjbifbibabgaaVFree0
import Derived.Test.YtjjjbifbibabgaaVFree1
import Derived.Test.YtjjjbifbibabgaaBase
import Derived.Test.YtjjjbifbibabgaaSq
namespace Go.Proofs.Ytjjjbifbibabgaa.PAll
open Go.RowKit Go.Proofs.YtjjjbifbibabgaaW.PrintWords Go.Proofs.YtjjjbifbibabgaaW.PrintLast Go.Proofs.YtjjjbifbibabgaaW.PrintMore Go.Proofs.YtjjjbifbibabgaaW.Sq
attribute [local go_sem] max2_int min2_int max_two min_two max_three min_three max_four min_four   -- for this text's walks alone
set_option linter.unusedVariables false
set_option linter.unusedSimpArgs false

/-! ### spec_l02Node: function 31 -/
mutual
def spec_l02Node.l0 : Nat → List (S39) → Int → List Int → Int → Int → Int → Int → Int → Int → Int → Option (Bool)
 | 0, _, _, _, _, _, _, _, _, _, _ => none
 | k + 1, x0, x1, x6, x7, x410000, x410001, x410002, x410003, x410004, x410005 => if x7 < (x6.length : Int) then (if 0 ≤ x7 then ((spec_l01In.f (rd x6 x7) 0 (wrap64 (x1 - 1))).bind fun t414 => (if t414 = true then (spec_l02Node.l0 k x0 x1 x6 (wrap64 (x7 + 1)) x410000 x410001 x410002 x410003 x410004 x410005) else (some false))) else (none)) else ((spec_l01In.f x410001 1 8).bind fun t415 => (if t415 = true then (spec_l02Node.l1 k x0 x6 (([] : List Int)) 0 x410000 x410001 x410002 x410003 x410004 x410005) else (some false)))
def spec_l02Node.l1 : Nat → List (S39) → List Int → List Int → Int → Int → Int → Int → Int → Int → Int → Option (Bool)
 | 0, _, _, _, _, _, _, _, _, _, _ => none
 | k + 1, x0, x6, x8, x9, x410000, x410001, x410002, x410003, x410004, x410005 => if x9 < (x6.length : Int) then (if 0 ≤ x9 then (if 0 ≤ (rd x6 x9) then (if (rd x6 x9) < (x0.length : Int) then (if x8.length < 17592186044416 then (spec_l02Node.l1 k x0 x6 (x8 ++ [(rd_T39 x0 (rd x6 x9)).f1]) (wrap64 (x9 + 1)) x410000 x410001 x410002 x410003 x410004 x410005) else (none)) else (none)) else (none)) else (none)) else (if x410000 = 0 then ((spec_WordOk.f k x410001 x410002).bind fun t424 => (if t424 = true then (if x410003 = 0 then (if x410004 = 0 then (some (x410005 == 0)) else (some false)) else (some false)) else (some false))) else (if x410000 = 1 then ((spec_l01In.f x410002 0 7).bind fun t425 => (if t425 = true then (if x410003 = 0 then (if x410004 = 0 then (some (x410005 == 0)) else (some false)) else (some false)) else (some false))) else (if x410000 = 2 then (if 0 < (x8.length : Int) then (if (rd x8 0) = x410001 then (if x410002 = 0 then (if x410004 = 0 then (some (x410005 == 0)) else (some false)) else (some false)) else (some false)) else (none)) else ((spec_l01In.f x410000 3 12).bind fun t427 => (if t427 = true then (if 0 < (x8.length : Int) then (if (rd x8 0) = x410001 then (if 1 < (x8.length : Int) then (if (rd x8 1) = x410001 then (if x410002 = 0 then (some (x410005 == 0)) else (some false)) else (some false)) else (none)) else (some false)) else (none)) else ((spec_l01In.f x410000 13 15).bind fun t430 => (if t430 = true then (if 0 < (x8.length : Int) then (if 1 < (x8.length : Int) then (if (rd x8 0) = (rd x8 1) then (if x410001 = 1 then (if x410002 = 0 then (some (x410005 == 0)) else (some false)) else (some false)) else (some false)) else (none)) else (none)) else (if x410000 = 16 then (if 0 < (x8.length : Int) then (if 1 < (x8.length : Int) then (if (wrap64 ((rd x8 0) + (rd x8 1))) = x410001 then (if x410002 = 0 then (some (x410005 == 0)) else (some false)) else (some false)) else (none)) else (none)) else (if x410000 = 17 then (if x410002 ≥ 0 then (if 0 < (x8.length : Int) then (if x410002 ≤ (wrap64 ((rd x8 0) - x410001)) then (if x410004 = 0 then (some (x410005 == 0)) else (some false)) else (some false)) else (none)) else (some false)) else (if x410000 = 18 then (if 0 < (x8.length : Int) then (if (rd x8 0) = 1 then (if 1 < (x8.length : Int) then (if (rd x8 1) = x410001 then (if 2 < (x8.length : Int) then (if (rd x8 2) = x410001 then (some (x410002 == 0)) else (some false)) else (none)) else (some false)) else (none)) else (some false)) else (none)) else (if x410000 = 19 then (spec_l02Node.j2 k x8 true x410000 x410001 x410002 x410003 x410004 x410005) else (spec_l02Node.j2 k x8 (x410000 == 20) x410000 x410001 x410002 x410003 x410004 x410005))))))))))))
def spec_l02Node.j2 : Nat → List Int → Bool → Int → Int → Int → Int → Int → Int → Option (Bool)
 | 0, _, _, _, _, _, _, _, _ => none
 | k + 1, x8, x258, x410000, x410001, x410002, x410003, x410004, x410005 => if x258 = true then ((spec_l01In.f x410002 0 7).bind fun t439 => (if t439 = true then ((spec_l01In.f x410004 1 8).bind fun t440 => (if t440 = true then (if 0 < (x8.length : Int) then (if (rd x8 0) = 1 then (if x410001 = 1 then (some (x410005 == 0)) else (some false)) else (some false)) else (none)) else (some false))) else (some false))) else (some false)
end
def spec_l02Node.f (k : Nat) (l0 : List (S39)) (a1 : Int) : Option (Bool) := if 0 ≤ a1 then (if a1 < (l0.length : Int) then ((spec_Parts.f k ((rd_T39 l0 a1).f0) ((rd_T39 l0 a1).f1) ((rd_T39 l0 a1).f2) ((rd_T39 l0 a1).f3) ((rd_T39 l0 a1).f4) ((rd_T39 l0 a1).f5)).bind fun t410 => (spec_l02Node.l0 k l0 a1 t410 0 ((rd_T39 l0 a1).f0) ((rd_T39 l0 a1).f1) ((rd_T39 l0 a1).f2) ((rd_T39 l0 a1).f3) ((rd_T39 l0 a1).f4) ((rd_T39 l0 a1).f5))) else (none)) else (none)
set_option maxHeartbeats 8000000 in
set_option maxRecDepth 100000 in
theorem spec_l02Node.calls (k : Nat) (A0 : Option Addr) (c0 : Nat) (l0 : List (S39)) (a1 : Int) (r : Bool) (w : World) (hr0 : Kd.C k39 w A0 l0.length l0) (hc0 : l0.length ≤ c0) (h : spec_l02Node.f k l0 a1 = some r) :
  Calls Try.prog 31 #[.slice A0 l0.length c0, .int .i64 a1] w fun e w' => e = .returned (.bool r) ∧ Below w.heap.size w w' := by
 have hu39 := Try.underlying39
 have HR0 := am hr0
 have HC0 := am hc0
 clear hr0 hc0
 have HB := am (Below.refl w.heap.size w)
 have H : (if 0 ≤ a1 then (if a1 < (l0.length : Int) then ((spec_Parts.f k ((rd_T39 l0 a1).f0) ((rd_T39 l0 a1).f1) ((rd_T39 l0 a1).f2) ((rd_T39 l0 a1).f3) ((rd_T39 l0 a1).f4) ((rd_T39 l0 a1).f5)).bind fun t410 => (spec_l02Node.l0 k l0 a1 t410 0 ((rd_T39 l0 a1).f0) ((rd_T39 l0 a1).f1) ((rd_T39 l0 a1).f2) ((rd_T39 l0 a1).f3) ((rd_T39 l0 a1).f4) ((rd_T39 l0 a1).f5))) else (none)) else (none)) = some r := h
 clear h
 by_cases c3 : 0 ≤ a1
 ·rw [if_pos c3] at H
  have c3b0 : decide (0 ≤ a1) = true := decide_eq_true c3
  clear c3
  by_cases c4 : a1 < (l0.length : Int)
  ·rw [if_pos c4] at H
   have c4b0 : decide (a1 < (l0.length : Int)) = true := decide_eq_true c4
   clear c4
   replace H := oB H
   obtain ⟨t410, A50, H⟩ := H
   have A5 := am A50
   clear A50
   have H' := am H
   clear H
   have p408 : 0 ≤ (a1 : Int) := oD (by assumption)
   have q408 : a1 < (l0.length : Int) := oD (by assumption)
   obtain ⟨ad408, e408, hx408_0, hx408_1, hx408_2, hx408_3, hx408_4, hx408_5⟩ := at_T39 HR0.out a1 p408 q408
   cases e408
   replace p408 := eq_true p408
   replace q408 := eq_true q408
   go_enter Try.func31, Try.ntmps31
   go_wp2_with (first | ((with_reducible refine gate_dst (N := 5) rfl ?_); refine box_event ?hg (N := 5) ?hd (cs := #[.int .i64 0, .int .i64 0, .int .i64 0, .int .i64 0, .int .i64 0, .int .i64 0]) (t := 39) ?hr ?_; (case hd => rfl); (case hg => rfl); (case hr => (go_simp; done)); intro gb409 hg w6 hbox hb; have n0_ := am (below_step (by exact sW HB.out) hb); have n1_ := am (hbox); have n2_ := am ((by rw [hg]; exact (below_size (by exact sW HB.out)) : w.heap.size ≤ gb409)); have n3_ := am ((by rw [hg]; exact (below_size (by exact sW HB.out)) : w.heap.size ≤ gb409)); clear HB; have HB := n0_; have BK409 := n1_; have GW409 := n2_; have GE409 := n3_; clear n0_ n1_ n2_ n3_; clear hb hbox hg; obtain ⟨hcz7_0, hcz7_1, hcz7_2, hcz7_3, hcz7_4, hcz7_5⟩ := cz6 BK409.out; obtain ⟨hfz7_0, hfz7_1, hfz7_2, hfz7_3, hfz7_4, hfz7_5⟩ := fz6 BK409.out) | (go_at_call 37; (with_reducible refine (spec_Parts.calls k ((rd_T39 l0 a1).f0) ((rd_T39 l0 a1).f1) ((rd_T39 l0 a1).f2) ((rd_T39 l0 a1).f3) ((rd_T39 l0 a1).f4) ((rd_T39 l0 a1).f5) t410 _ A5.out).mono ?_); rintro e w8 ⟨v411, rfl, ho0, hb⟩; have n0_ := am (Kd.R_lower ho0 (below_size (by exact bW))); have n1_ := am (blk_below (g := gb409) (o := .cells #[.int .i64 ((rd_T39 l0 a1).f0), .int .i64 ((rd_T39 l0 a1).f1), .int .i64 ((rd_T39 l0 a1).f2), .int .i64 ((rd_T39 l0 a1).f3), .int .i64 ((rd_T39 l0 a1).f4), .int .i64 ((rd_T39 l0 a1).f5)] 39 (0, 0)) (by (with_reducible repeat (first | refine blk_drewN ?_ _ | refine blk_drew ?_ | refine blk_alloc ?_ _)); refine blk_put (cs := #[.int .i64 ((rd_T39 l0 a1).f0), .int .i64 ((rd_T39 l0 a1).f1), .int .i64 ((rd_T39 l0 a1).f2), .int .i64 ((rd_T39 l0 a1).f3), .int .i64 ((rd_T39 l0 a1).f4), .int .i64 0]) ?_ 5 _ rfl; (with_reducible repeat (first | refine blk_drewN ?_ _ | refine blk_drew ?_ | refine blk_alloc ?_ _)); refine blk_put (cs := #[.int .i64 ((rd_T39 l0 a1).f0), .int .i64 ((rd_T39 l0 a1).f1), .int .i64 ((rd_T39 l0 a1).f2), .int .i64 ((rd_T39 l0 a1).f3), .int .i64 0, .int .i64 0]) ?_ 4 _ rfl; (with_reducible repeat (first | refine blk_drewN ?_ _ | refine blk_drew ?_ | refine blk_alloc ?_ _)); refine blk_put (cs := #[.int .i64 ((rd_T39 l0 a1).f0), .int .i64 ((rd_T39 l0 a1).f1), .int .i64 ((rd_T39 l0 a1).f2), .int .i64 0, .int .i64 0, .int .i64 0]) ?_ 3 _ rfl; (with_reducible repeat (first | refine blk_drewN ?_ _ | refine blk_drew ?_ | refine blk_alloc ?_ _)); refine blk_put (cs := #[.int .i64 ((rd_T39 l0 a1).f0), .int .i64 ((rd_T39 l0 a1).f1), .int .i64 0, .int .i64 0, .int .i64 0, .int .i64 0]) ?_ 2 _ rfl; (with_reducible repeat (first | refine blk_drewN ?_ _ | refine blk_drew ?_ | refine blk_alloc ?_ _)); refine blk_put (cs := #[.int .i64 ((rd_T39 l0 a1).f0), .int .i64 0, .int .i64 0, .int .i64 0, .int .i64 0, .int .i64 0]) ?_ 1 _ rfl; (with_reducible repeat (first | refine blk_drewN ?_ _ | refine blk_drew ?_ | refine blk_alloc ?_ _)); refine blk_put (cs := #[.int .i64 0, .int .i64 0, .int .i64 0, .int .i64 0, .int .i64 0, .int .i64 0]) ?_ 0 _ rfl; exact sB <| BK409.out) hb); have n2_ := am (below_step (by exact bW) hb); clear BK409; clear HB; have HO412 := n0_; have BK409 := n1_; have HB := n2_; clear n0_ n1_ n2_; (try clear hb); (try clear hb2); (try clear hk); (try clear hi); (try clear ho0)))
   go_loopg [7] k (fun kq v7 w' => ∃ (x7_1 : Int), v7 = .int .i64 x7_1 ∧ Aside0 (spec_l02Node.l0 kq l0 a1 t410 x7_1 ((rd_T39 l0 a1).f0) ((rd_T39 l0 a1).f1) ((rd_T39 l0 a1).f2) ((rd_T39 l0 a1).f3) ((rd_T39 l0 a1).f4) ((rd_T39 l0 a1).f5) = some r) ∧ Aside0 (kq ≤ k) ∧ Aside0 (Kd.R (Kd.int .i64) 3 w' w.heap.size (fun _ => True) v411 t410) ∧ Aside0 (w'.heap[gb409]? = some (.cells #[.int .i64 ((rd_T39 l0 a1).f0), .int .i64 ((rd_T39 l0 a1).f1), .int .i64 ((rd_T39 l0 a1).f2), .int .i64 ((rd_T39 l0 a1).f3), .int .i64 ((rd_T39 l0 a1).f4), .int .i64 ((rd_T39 l0 a1).f5)] 39 (0, 0))) ∧ Aside0 (Below w.heap.size w w'))
   case atStart => exact ⟨(0), (by rfl), H', ⟨Nat.le_refl _⟩, ⟨by exact sR <| HO412.out⟩, ⟨by exact sB <| BK409.out⟩, ⟨by exact bW⟩⟩
   case round =>
    clear H'
    clear c3b0 c4b0 hcz7_0 hcz7_1 hcz7_2 hcz7_3 hcz7_4 hcz7_5 hfz7_0 hfz7_1 hfz7_2 hfz7_3 hfz7_4 hfz7_5 hx408_0 hx408_1 hx408_2 hx408_3 hx408_4 hx408_5 p408 q408
    obtain ⟨x7_1, rfl, HA, HK1, HO_6, BK409, HB⟩ := hrel
    cases gk with
    | zero => exact absurd HA.out (by simp [spec_l02Node.l0])
    | succ k1 =>
     have H := HA.out
     clear HA
     simp only [spec_l02Node.l0] at H
     by_cases c9 : x7_1 < (t410.length : Int)
     ·rw [if_pos c9] at H
      have c9b0 : decide (x7_1 < (t410.length : Int)) = true := decide_eq_true c9
      clear c9
      by_cases c10 : 0 ≤ x7_1
      ·rw [if_pos c10] at H
       have c10b0 : decide (0 ≤ x7_1) = true := decide_eq_true c10
       clear c10
       replace H := oB H
       obtain ⟨t414, A110, H⟩ := H
       have A11 := am A110
       clear A110
       by_cases c12 : t414 = true
       ·subst c12
        rw [if_pos rfl] at H
        have H' := am H
        clear H
        obtain ⟨Ao13, co13, eo13⟩ := Kd.R_slice HO_6.out
        subst eo13
        have p413 : 0 ≤ (x7_1 : Int) := oD (by assumption)
        have q413 : x7_1 < (t410.length : Int) := oD (by assumption)
        obtain ⟨ad413, e413, hx413_0⟩ := Kd.at_int (Kd.R_reads' HO_6.out).2.2 x7_1 p413 q413
        cases e413
        replace p413 := eq_true p413
        replace q413 := eq_true q413
        go_wp2_with (first | (go_at_call 30; (with_reducible refine (spec_l01In.calls (rd t410 x7_1) 0 (wrap64 (a1 - 1)) true _ A11.out).mono ?_); rintro e w' ⟨rfl, ⟨nd, rfl⟩⟩; (try first | exact dq1 | exact dq2)))
        go_roundg k1
        case measure => have := HK1.out; omega
        case rel => exact ⟨(wrap64 (x7_1 + 1)), (by rfl), H', ⟨by have := HK1.out; omega⟩, ⟨by exact sR <| HO_6.out⟩, ⟨by exact sB <| BK409.out⟩, ⟨by exact bW⟩⟩
       ·replace c12 := Bool.eq_false_iff.mpr c12
        subst c12
        rw [if_neg (show ¬ (false = true) by decide)] at H
        obtain rfl := oI H
        obtain ⟨Ao14, co14, eo14⟩ := Kd.R_slice HO_6.out
        subst eo14
        have p413 : 0 ≤ (x7_1 : Int) := oD (by assumption)
        have q413 : x7_1 < (t410.length : Int) := oD (by assumption)
        obtain ⟨ad413, e413, hx413_0⟩ := Kd.at_int (Kd.R_reads' HO_6.out).2.2 x7_1 p413 q413
        cases e413
        replace p413 := eq_true p413
        replace q413 := eq_true q413
        go_wp2_with (first | (go_at_call 30; (with_reducible refine (spec_l01In.calls (rd t410 x7_1) 0 (wrap64 (a1 - 1)) false _ A11.out).mono ?_); rintro e w' ⟨rfl, ⟨nd, rfl⟩⟩; (try first | exact dq1 | exact dq2)))
        go_ret
        exact ⟨by rfl, by exact bW⟩
      ·rw [if_neg c10] at H
       exact absurd H (by simp)
     ·rw [if_neg c9] at H
      have c9b0 : decide (x7_1 < (t410.length : Int)) = false := decide_eq_false c9
      clear c9
      replace H := oB H
      obtain ⟨t415, A150, H⟩ := H
      have A15 := am A150
      clear A150
      by_cases c16 : t415 = true
      ·subst c16
       rw [if_pos rfl] at H
       obtain ⟨y416, hy416⟩ : ∃ y_ : List Int, y_ = (([] : List Int)) := ⟨_, rfl⟩
       replace H : (spec_l02Node.l1 k1 l0 t410 y416 0 ((rd_T39 l0 a1).f0) ((rd_T39 l0 a1).f1) ((rd_T39 l0 a1).f2) ((rd_T39 l0 a1).f3) ((rd_T39 l0 a1).f4) ((rd_T39 l0 a1).f5)) = some r := by (rw [hy416]; with_reducible exact H)
       have Ny416 := am hy416
       clear hy416
       have H' := am H
       clear H
       obtain ⟨Ao17, co17, eo17⟩ := Kd.R_slice HO_6.out
       subst eo17
       obtain ⟨hcz18_0, hcz18_1, hcz18_2, hcz18_3, hcz18_4, hcz18_5⟩ := cz6 BK409.out
       obtain ⟨hfz18_0, hfz18_1, hfz18_2, hfz18_3, hfz18_4, hfz18_5⟩ := fz6 BK409.out
       go_wp2_with (first | (go_at_call 30; (with_reducible refine (spec_l01In.calls ((rd_T39 l0 a1).f1) 1 8 true _ A15.out).mono ?_); rintro e w' ⟨rfl, ⟨nd, rfl⟩⟩; (try first | exact dq1 | exact dq2)) | ((with_reducible refine gate_dst (N := 34) rfl ?_); refine Kd.R_lit (Kd.int .i64) _ 3 ?hg (N := 34) ?hd (xs := ([] : List Int)) (inner := []) (ok := fun _ => True) (okp := fun _ => True) ?hr ?hp (fun _ hk => hk) trivial (Below.refl _ _) (Nat.le_refl _) (by simp) ?_; (case hd => rfl); (case hg => rfl); (case hr => (go_simp; done)); (case hp => exact (Reps.none _ _)); intro v417 w19 ho20 hb hg_ hnew_; clear hg_ hnew_; (rw [← Ny416.out] at ho20); have n0_ := am (Kd.R_elder' (by exact sR <| HO_6.out) (Kd.R_base ho20) hb); have n1_ := am (Kd.R_lower (Kd.R_new' ho20 (Kd.R_lt (by exact sR <| HO_6.out))) (below_size (by exact bW))); have n2_ := am (blk_below (g := gb409) (o := .cells #[.int .i64 ((rd_T39 l0 a1).f0), .int .i64 ((rd_T39 l0 a1).f1), .int .i64 ((rd_T39 l0 a1).f2), .int .i64 ((rd_T39 l0 a1).f3), .int .i64 ((rd_T39 l0 a1).f4), .int .i64 ((rd_T39 l0 a1).f5)] 39 (0, 0)) (by exact sB <| BK409.out) hb); have n3_ := am (below_step (by exact bW) hb); clear HO_6; clear BK409; clear HB; have HO_6 := n0_; have HO418 := n1_; have BK409 := n2_; have HB := n3_; clear n0_ n1_ n2_ n3_; clear hb ho20))
       go_loopg [8, 9] k1 (fun kq v8 v9 w' => ∃ (x8_2 : List Int) (x9_2 : Int), v9 = .int .i64 x9_2 ∧ Aside0 (spec_l02Node.l1 kq l0 t410 x8_2 x9_2 ((rd_T39 l0 a1).f0) ((rd_T39 l0 a1).f1) ((rd_T39 l0 a1).f2) ((rd_T39 l0 a1).f3) ((rd_T39 l0 a1).f4) ((rd_T39 l0 a1).f5) = some r) ∧ Aside0 (kq ≤ k1) ∧ Aside0 (Kd.R (Kd.int .i64) 3 w' w.heap.size (fun k_ => some k_ ≠ (v8 : Value).ownBlock) (.slice Ao17 t410.length co17) t410) ∧ Aside0 (Kd.R (Kd.int .i64) 3 w' w.heap.size (fun k_ => some k_ ≠ ((.slice Ao17 t410.length co17) : Value).ownBlock) v8 x8_2) ∧ Aside0 (w'.heap[gb409]? = some (.cells #[.int .i64 ((rd_T39 l0 a1).f0), .int .i64 ((rd_T39 l0 a1).f1), .int .i64 ((rd_T39 l0 a1).f2), .int .i64 ((rd_T39 l0 a1).f3), .int .i64 ((rd_T39 l0 a1).f4), .int .i64 ((rd_T39 l0 a1).f5)] 39 (0, 0))) ∧ Aside0 (Below w.heap.size w w'))
       case atStart => exact ⟨(y416), (0), (by rfl), H', ⟨Nat.le_refl _⟩, ⟨by exact sR <| Kd.R_mono HO_6.out (fun _ hk => hk.2)⟩, ⟨by exact sR <| Kd.R_mono HO418.out (fun _ hk => hk.2)⟩, ⟨by exact sB <| BK409.out⟩, ⟨by exact bW⟩⟩
       case round =>
        clear H'
        clear c9b0 hcz18_0 hcz18_1 hcz18_2 hcz18_3 hcz18_4 hcz18_5 hfz18_0 hfz18_1 hfz18_2 hfz18_3 hfz18_4 hfz18_5
        obtain ⟨x8_2, x9_2, rfl, HA, HK2, HO_6, HO_8, BK409, HB⟩ := hrel
        cases gk with
        | zero => exact absurd HA.out (by simp [spec_l02Node.l1])
        | succ k2 =>
         have H := HA.out
         clear HA
         simp only [spec_l02Node.l1] at H
         by_cases c21 : x9_2 < (t410.length : Int)
         ·rw [if_pos c21] at H
          have c21b0 : decide (x9_2 < (t410.length : Int)) = true := decide_eq_true c21
          clear c21
          by_cases c22 : 0 ≤ x9_2
          ·rw [if_pos c22] at H
           have c22b0 : decide (0 ≤ x9_2) = true := decide_eq_true c22
           clear c22
           by_cases c23 : 0 ≤ (rd t410 x9_2)
           ·rw [if_pos c23] at H
            have c23b0 : decide (0 ≤ (rd t410 x9_2)) = true := decide_eq_true c23
            clear c23
            by_cases c24 : (rd t410 x9_2) < (l0.length : Int)
            ·rw [if_pos c24] at H
             have c24b0 : decide ((rd t410 x9_2) < (l0.length : Int)) = true := decide_eq_true c24
             clear c24
             by_cases c25 : x8_2.length < 17592186044416
             ·rw [if_pos c25] at H
              have LMc25 := am c25
              clear c25
              obtain ⟨y421, hy421⟩ : ∃ y_ : List Int, y_ = (x8_2 ++ [(rd_T39 l0 (rd t410 x9_2)).f1]) := ⟨_, rfl⟩
              replace H : (spec_l02Node.l1 k2 l0 t410 y421 (wrap64 (x9_2 + 1)) ((rd_T39 l0 a1).f0) ((rd_T39 l0 a1).f1) ((rd_T39 l0 a1).f2) ((rd_T39 l0 a1).f3) ((rd_T39 l0 a1).f4) ((rd_T39 l0 a1).f5)) = some r := by (rw [hy421]; with_reducible exact H)
              have Ny421 := am hy421
              clear hy421
              have H' := am H
              clear H
              have p419 : 0 ≤ (x9_2 : Int) := oD (by assumption)
              have q419 : x9_2 < (t410.length : Int) := oD (by assumption)
              obtain ⟨ad419, e419, hx419_0⟩ := Kd.at_int (Kd.R_reads' HO_6.out).2.2 x9_2 p419 q419
              cases e419
              replace p419 := eq_true p419
              replace q419 := eq_true q419
              have p420 : 0 ≤ ((rd t410 x9_2) : Int) := oD (by assumption)
              have q420 : (rd t410 x9_2) < (l0.length : Int) := oD (by assumption)
              obtain ⟨ad420, e420, hx420_0, hx420_1, hx420_2, hx420_3, hx420_4, hx420_5⟩ := at_T39 HR0.out (rd t410 x9_2) p420 q420
              obtain rfl : ad408 = ad420 := (by injection e420)
              replace hx420_0 := pw_cell_below HB.out hx420_0
              replace hx420_1 := pw_cell_below HB.out hx420_1
              replace hx420_2 := pw_cell_below HB.out hx420_2
              replace hx420_3 := pw_cell_below HB.out hx420_3
              replace hx420_4 := pw_cell_below HB.out hx420_4
              replace hx420_5 := pw_cell_below HB.out hx420_5
              replace p420 := eq_true p420
              replace q420 := eq_true q420
              go_wp2_with (first | ((with_reducible refine gate_builtin (b := .append) (xs := #[.tmp 41, .tmp 50]) rfl ?_); at_builtin; refine Kd.R_append (Kd.int .i64) (w0 := w) w.heap.size rfl (.tmp 41) (.tmp 50) 24 3 (.int .i64 0) 8 rfl Try.underlying24 info3 rfl (by decide) (by omega) u8 x8_2 ((rd_T39 l0 (rd t410 x9_2)).f1) [.int .i64 ((rd_T39 l0 (rd t410 x9_2)).f1)] (fun k_ => some k_ ≠ (.slice (some ad419) t410.length co17 : Value).ownBlock) (fun _ => False) rfl rfl ?aP (fun _ hk => hk.elim) ?aF ?aO ?aB ?aS ?aL ?_; (case aP => exact rfl); (case aB => exact (by exact bW)); (case aF => exact (fun k_ hk => Kd.fresh' (Kd.R_lt (by exact sR <| HO_6.out)) k_ hk)); (case aO => exact (by exact sR <| HO_8.out)); (case aS => exact (below_size (by exact bW))); (case aL => have := LMc25.out; omega); intro v422 w26 ho hb hg hat; rw [← Ny421.out] at ho; have n0_ := am (Kd.R_after (ok := (fun _ => True)) (by exact sR <| Kd.R_mono HO_6.out (fun _ hk => ⟨trivial, hk⟩)) hg hat); have n1_ := am (blk_grown (g := gb409) (o := .cells #[.int .i64 ((rd_T39 l0 a1).f0), .int .i64 ((rd_T39 l0 a1).f1), .int .i64 ((rd_T39 l0 a1).f2), .int .i64 ((rd_T39 l0 a1).f3), .int .i64 ((rd_T39 l0 a1).f4), .int .i64 ((rd_T39 l0 a1).f5)] 39 (0, 0)) (by exact sB <| BK409.out) hg (Kd.R_ne HO_8.out BK409.out (by decide))); have n2_ := am (hb); have n3_ := am (ho); clear HO_6; clear BK409; clear HB; clear HO_8; have HO_6 := n0_; have BK409 := n1_; have HB := n2_; have HO423 := n3_; clear n0_ n1_ n2_ n3_; clear ho hb hg hat))
              go_roundg k2
              case measure => have := HK1.out; have := HK2.out; omega
              case rel => exact ⟨(y421), (wrap64 (x9_2 + 1)), (by rfl), H', ⟨by have := HK1.out; have := HK2.out; omega⟩, ⟨by exact sR <| Kd.R_mono HO_6.out (fun _ hk => hk.2)⟩, ⟨by exact sR <| HO423.out⟩, ⟨by exact sB <| BK409.out⟩, ⟨by exact bW⟩⟩
             ·rw [if_neg c25] at H
              exact absurd H (by simp)
            ·rw [if_neg c24] at H
             exact absurd H (by simp)
           ·rw [if_neg c23] at H
            exact absurd H (by simp)
          ·rw [if_neg c22] at H
           exact absurd H (by simp)
         ·rw [if_neg c21] at H
          have c21b0 : decide (x9_2 < (t410.length : Int)) = false := decide_eq_false c21
          clear c21
          by_cases c27 : ((rd_T39 l0 a1).f0) = 0
          ·rw [if_pos c27] at H
           have c27b0 : (((rd_T39 l0 a1).f0) == 0) = true := beq_iff_eq.mpr c27
           have c27b1 : (((rd_T39 l0 a1).f0) != 0) = false := bne_eq_false_iff_eq.mpr c27
           clear c27
           replace H := oB H
           obtain ⟨t424, A280, H⟩ := H
           have A28 := am A280
           clear A280
           by_cases c29 : t424 = true
           ·subst c29
            rw [if_pos rfl] at H
            by_cases c30 : ((rd_T39 l0 a1).f3) = 0
            ·rw [if_pos c30] at H
             have c30b0 : (((rd_T39 l0 a1).f3) == 0) = true := beq_iff_eq.mpr c30
             have c30b1 : (((rd_T39 l0 a1).f3) != 0) = false := bne_eq_false_iff_eq.mpr c30
             clear c30
             by_cases c31 : ((rd_T39 l0 a1).f4) = 0
             ·rw [if_pos c31] at H
              have c31b0 : (((rd_T39 l0 a1).f4) == 0) = true := beq_iff_eq.mpr c31
              have c31b1 : (((rd_T39 l0 a1).f4) != 0) = false := bne_eq_false_iff_eq.mpr c31
              clear c31
              obtain rfl := oI H
              obtain ⟨hcz32_0, hcz32_1, hcz32_2, hcz32_3, hcz32_4, hcz32_5⟩ := cz6 BK409.out
              obtain ⟨hfz32_0, hfz32_1, hfz32_2, hfz32_3, hfz32_4, hfz32_5⟩ := fz6 BK409.out
              go_wp2_with (first | (go_at_call 44; (with_reducible refine (spec_WordOk.calls k2 ((rd_T39 l0 a1).f1) ((rd_T39 l0 a1).f2) true _ A28.out).mono ?_); rintro e w' ⟨rfl, ⟨nd, rfl⟩⟩; (try first | exact dq1 | exact dq2)))
              go_ret
              exact ⟨by rfl, by exact bW⟩
             ·rw [if_neg c31] at H
              have c31b0 : (((rd_T39 l0 a1).f4) == 0) = false := beq_eq_false_iff_ne.mpr c31
              have c31b1 : (((rd_T39 l0 a1).f4) != 0) = true := bne_iff_ne.mpr c31
              obtain rfl := oI H
              obtain ⟨hcz33_0, hcz33_1, hcz33_2, hcz33_3, hcz33_4, hcz33_5⟩ := cz6 BK409.out
              obtain ⟨hfz33_0, hfz33_1, hfz33_2, hfz33_3, hfz33_4, hfz33_5⟩ := fz6 BK409.out
              go_wp2_with (first | (go_at_call 44; (with_reducible refine (spec_WordOk.calls k2 ((rd_T39 l0 a1).f1) ((rd_T39 l0 a1).f2) true _ A28.out).mono ?_); rintro e w' ⟨rfl, ⟨nd, rfl⟩⟩; (try first | exact dq1 | exact dq2)))
              go_ret
              exact ⟨by rfl, by exact bW⟩
            ·rw [if_neg c30] at H
             have c30b0 : (((rd_T39 l0 a1).f3) == 0) = false := beq_eq_false_iff_ne.mpr c30
             have c30b1 : (((rd_T39 l0 a1).f3) != 0) = true := bne_iff_ne.mpr c30
             obtain rfl := oI H
             obtain ⟨hcz34_0, hcz34_1, hcz34_2, hcz34_3, hcz34_4, hcz34_5⟩ := cz6 BK409.out
             obtain ⟨hfz34_0, hfz34_1, hfz34_2, hfz34_3, hfz34_4, hfz34_5⟩ := fz6 BK409.out
             go_wp2_with (first | (go_at_call 44; (with_reducible refine (spec_WordOk.calls k2 ((rd_T39 l0 a1).f1) ((rd_T39 l0 a1).f2) true _ A28.out).mono ?_); rintro e w' ⟨rfl, ⟨nd, rfl⟩⟩; (try first | exact dq1 | exact dq2)))
             go_ret
             exact ⟨by rfl, by exact bW⟩
           ·replace c29 := Bool.eq_false_iff.mpr c29
            subst c29
            rw [if_neg (show ¬ (false = true) by decide)] at H
            obtain rfl := oI H
            obtain ⟨hcz35_0, hcz35_1, hcz35_2, hcz35_3, hcz35_4, hcz35_5⟩ := cz6 BK409.out
            obtain ⟨hfz35_0, hfz35_1, hfz35_2, hfz35_3, hfz35_4, hfz35_5⟩ := fz6 BK409.out
            go_wp2_with (first | (go_at_call 44; (with_reducible refine (spec_WordOk.calls k2 ((rd_T39 l0 a1).f1) ((rd_T39 l0 a1).f2) false _ A28.out).mono ?_); rintro e w' ⟨rfl, ⟨nd, rfl⟩⟩; (try first | exact dq1 | exact dq2)))
            go_ret
            exact ⟨by rfl, by exact bW⟩
          ·rw [if_neg c27] at H
           have c27b0 : (((rd_T39 l0 a1).f0) == 0) = false := beq_eq_false_iff_ne.mpr c27
           have c27b1 : (((rd_T39 l0 a1).f0) != 0) = true := bne_iff_ne.mpr c27
           by_cases c36 : ((rd_T39 l0 a1).f0) = 1
           ·rw [if_pos c36] at H
            have c36b0 : (((rd_T39 l0 a1).f0) == 1) = true := beq_iff_eq.mpr c36
            have c36b1 : (((rd_T39 l0 a1).f0) != 1) = false := bne_eq_false_iff_eq.mpr c36
            clear c36
            replace H := oB H
            obtain ⟨t425, A370, H⟩ := H
            have A37 := am A370
            clear A370
            by_cases c38 : t425 = true
            ·subst c38
             rw [if_pos rfl] at H
             by_cases c39 : ((rd_T39 l0 a1).f3) = 0
             ·rw [if_pos c39] at H
              have c39b0 : (((rd_T39 l0 a1).f3) == 0) = true := beq_iff_eq.mpr c39
              have c39b1 : (((rd_T39 l0 a1).f3) != 0) = false := bne_eq_false_iff_eq.mpr c39
              clear c39
              by_cases c40 : ((rd_T39 l0 a1).f4) = 0
              ·rw [if_pos c40] at H
               have c40b0 : (((rd_T39 l0 a1).f4) == 0) = true := beq_iff_eq.mpr c40
               have c40b1 : (((rd_T39 l0 a1).f4) != 0) = false := bne_eq_false_iff_eq.mpr c40
               clear c40
               obtain rfl := oI H
               obtain ⟨hcz41_0, hcz41_1, hcz41_2, hcz41_3, hcz41_4, hcz41_5⟩ := cz6 BK409.out
               obtain ⟨hfz41_0, hfz41_1, hfz41_2, hfz41_3, hfz41_4, hfz41_5⟩ := fz6 BK409.out
               go_wp2_with (first | (go_at_call 30; (with_reducible refine (spec_l01In.calls ((rd_T39 l0 a1).f2) 0 7 true _ A37.out).mono ?_); rintro e w' ⟨rfl, ⟨nd, rfl⟩⟩; (try first | exact dq1 | exact dq2)))
               go_ret
               exact ⟨by rfl, by exact bW⟩
              ·rw [if_neg c40] at H
               have c40b0 : (((rd_T39 l0 a1).f4) == 0) = false := beq_eq_false_iff_ne.mpr c40
               have c40b1 : (((rd_T39 l0 a1).f4) != 0) = true := bne_iff_ne.mpr c40
               obtain rfl := oI H
               obtain ⟨hcz42_0, hcz42_1, hcz42_2, hcz42_3, hcz42_4, hcz42_5⟩ := cz6 BK409.out
               obtain ⟨hfz42_0, hfz42_1, hfz42_2, hfz42_3, hfz42_4, hfz42_5⟩ := fz6 BK409.out
               go_wp2_with (first | (go_at_call 30; (with_reducible refine (spec_l01In.calls ((rd_T39 l0 a1).f2) 0 7 true _ A37.out).mono ?_); rintro e w' ⟨rfl, ⟨nd, rfl⟩⟩; (try first | exact dq1 | exact dq2)))
               go_ret
               exact ⟨by rfl, by exact bW⟩
             ·rw [if_neg c39] at H
              have c39b0 : (((rd_T39 l0 a1).f3) == 0) = false := beq_eq_false_iff_ne.mpr c39
              have c39b1 : (((rd_T39 l0 a1).f3) != 0) = true := bne_iff_ne.mpr c39
              obtain rfl := oI H
              obtain ⟨hcz43_0, hcz43_1, hcz43_2, hcz43_3, hcz43_4, hcz43_5⟩ := cz6 BK409.out
              obtain ⟨hfz43_0, hfz43_1, hfz43_2, hfz43_3, hfz43_4, hfz43_5⟩ := fz6 BK409.out
              go_wp2_with (first | (go_at_call 30; (with_reducible refine (spec_l01In.calls ((rd_T39 l0 a1).f2) 0 7 true _ A37.out).mono ?_); rintro e w' ⟨rfl, ⟨nd, rfl⟩⟩; (try first | exact dq1 | exact dq2)))
              go_ret
              exact ⟨by rfl, by exact bW⟩
            ·replace c38 := Bool.eq_false_iff.mpr c38
             subst c38
             rw [if_neg (show ¬ (false = true) by decide)] at H
             obtain rfl := oI H
             obtain ⟨hcz44_0, hcz44_1, hcz44_2, hcz44_3, hcz44_4, hcz44_5⟩ := cz6 BK409.out
             obtain ⟨hfz44_0, hfz44_1, hfz44_2, hfz44_3, hfz44_4, hfz44_5⟩ := fz6 BK409.out
             go_wp2_with (first | (go_at_call 30; (with_reducible refine (spec_l01In.calls ((rd_T39 l0 a1).f2) 0 7 false _ A37.out).mono ?_); rintro e w' ⟨rfl, ⟨nd, rfl⟩⟩; (try first | exact dq1 | exact dq2)))
             go_ret
             exact ⟨by rfl, by exact bW⟩
           ·rw [if_neg c36] at H
            have c36b0 : (((rd_T39 l0 a1).f0) == 1) = false := beq_eq_false_iff_ne.mpr c36
            have c36b1 : (((rd_T39 l0 a1).f0) != 1) = true := bne_iff_ne.mpr c36
            by_cases c45 : ((rd_T39 l0 a1).f0) = 2
            ·rw [if_pos c45] at H
             have c45b0 : (((rd_T39 l0 a1).f0) == 2) = true := beq_iff_eq.mpr c45
             have c45b1 : (((rd_T39 l0 a1).f0) != 2) = false := bne_eq_false_iff_eq.mpr c45
             clear c45
             by_cases c46 : 0 < (x8_2.length : Int)
             ·rw [if_pos c46] at H
              have c46b0 : decide (0 < (x8_2.length : Int)) = true := decide_eq_true c46
              have c46b1 : decide (0 < x8_2.length) = true := decide_eq_true (by omega)
              have c46p : 0 < x8_2.length := by omega
              clear c46
              by_cases c47 : (rd x8_2 0) = ((rd_T39 l0 a1).f1)
              ·rw [if_pos c47] at H
               have c47b0 : ((rd x8_2 0) == ((rd_T39 l0 a1).f1)) = true := beq_iff_eq.mpr c47
               have c47b1 : ((rd x8_2 0) != ((rd_T39 l0 a1).f1)) = false := bne_eq_false_iff_eq.mpr c47
               clear c47
               by_cases c48 : ((rd_T39 l0 a1).f2) = 0
               ·rw [if_pos c48] at H
                have c48b0 : (((rd_T39 l0 a1).f2) == 0) = true := beq_iff_eq.mpr c48
                have c48b1 : (((rd_T39 l0 a1).f2) != 0) = false := bne_eq_false_iff_eq.mpr c48
                clear c48
                by_cases c49 : ((rd_T39 l0 a1).f4) = 0
                ·rw [if_pos c49] at H
                 have c49b0 : (((rd_T39 l0 a1).f4) == 0) = true := beq_iff_eq.mpr c49
                 have c49b1 : (((rd_T39 l0 a1).f4) != 0) = false := bne_eq_false_iff_eq.mpr c49
                 clear c49
                 obtain rfl := oI H
                 obtain ⟨hcz50_0, hcz50_1, hcz50_2, hcz50_3, hcz50_4, hcz50_5⟩ := cz6 BK409.out
                 obtain ⟨hfz50_0, hfz50_1, hfz50_2, hfz50_3, hfz50_4, hfz50_5⟩ := fz6 BK409.out
                 obtain ⟨Ao51, co51, eo51⟩ := Kd.R_slice HO_8.out
                 subst eo51
                 have p426 : 0 ≤ (0 : Int) := (by omega)
                 have q426 : 0 < (x8_2.length : Int) := oD (by assumption)
                 obtain ⟨ad426, e426, hx426_0⟩ := Kd.at_int (Kd.R_reads' HO_8.out).2.2 0 p426 q426
                 cases e426
                 have qi426 : (0 < x8_2.length) = True := eq_true (by omega)
                 (try rw [tn0] at hx426_0)
                 (try rw [Addr.add_zero'] at hx426_0)
                 replace p426 := eq_true p426
                 replace q426 := eq_true q426
                 go_wp2
                 repeat (go_quiet (fail); try go_wp2)
                 go_ret
                 exact ⟨by rfl, by exact bW⟩
                ·rw [if_neg c49] at H
                 have c49b0 : (((rd_T39 l0 a1).f4) == 0) = false := beq_eq_false_iff_ne.mpr c49
                 have c49b1 : (((rd_T39 l0 a1).f4) != 0) = true := bne_iff_ne.mpr c49
                 obtain rfl := oI H
                 obtain ⟨hcz52_0, hcz52_1, hcz52_2, hcz52_3, hcz52_4, hcz52_5⟩ := cz6 BK409.out
                 obtain ⟨hfz52_0, hfz52_1, hfz52_2, hfz52_3, hfz52_4, hfz52_5⟩ := fz6 BK409.out
                 obtain ⟨Ao53, co53, eo53⟩ := Kd.R_slice HO_8.out
                 subst eo53
                 have p426 : 0 ≤ (0 : Int) := (by omega)
                 have q426 : 0 < (x8_2.length : Int) := oD (by assumption)
                 obtain ⟨ad426, e426, hx426_0⟩ := Kd.at_int (Kd.R_reads' HO_8.out).2.2 0 p426 q426
                 cases e426
                 have qi426 : (0 < x8_2.length) = True := eq_true (by omega)
                 (try rw [tn0] at hx426_0)
                 (try rw [Addr.add_zero'] at hx426_0)
                 replace p426 := eq_true p426
                 replace q426 := eq_true q426
                 go_wp2
                 repeat (go_quiet (fail); try go_wp2)
                 go_ret
                 exact ⟨by rfl, by exact bW⟩
               ·rw [if_neg c48] at H
                have c48b0 : (((rd_T39 l0 a1).f2) == 0) = false := beq_eq_false_iff_ne.mpr c48
                have c48b1 : (((rd_T39 l0 a1).f2) != 0) = true := bne_iff_ne.mpr c48
                obtain rfl := oI H
                obtain ⟨hcz54_0, hcz54_1, hcz54_2, hcz54_3, hcz54_4, hcz54_5⟩ := cz6 BK409.out
                obtain ⟨hfz54_0, hfz54_1, hfz54_2, hfz54_3, hfz54_4, hfz54_5⟩ := fz6 BK409.out
                obtain ⟨Ao55, co55, eo55⟩ := Kd.R_slice HO_8.out
                subst eo55
                have p426 : 0 ≤ (0 : Int) := (by omega)
                have q426 : 0 < (x8_2.length : Int) := oD (by assumption)
                obtain ⟨ad426, e426, hx426_0⟩ := Kd.at_int (Kd.R_reads' HO_8.out).2.2 0 p426 q426
                cases e426
                have qi426 : (0 < x8_2.length) = True := eq_true (by omega)
                (try rw [tn0] at hx426_0)
                (try rw [Addr.add_zero'] at hx426_0)
                replace p426 := eq_true p426
                replace q426 := eq_true q426
                go_wp2
                repeat (go_quiet (fail); try go_wp2)
                go_ret
                exact ⟨by rfl, by exact bW⟩
              ·rw [if_neg c47] at H
               have c47b0 : ((rd x8_2 0) == ((rd_T39 l0 a1).f1)) = false := beq_eq_false_iff_ne.mpr c47
               have c47b1 : ((rd x8_2 0) != ((rd_T39 l0 a1).f1)) = true := bne_iff_ne.mpr c47
               obtain rfl := oI H
               obtain ⟨hcz56_0, hcz56_1, hcz56_2, hcz56_3, hcz56_4, hcz56_5⟩ := cz6 BK409.out
               obtain ⟨hfz56_0, hfz56_1, hfz56_2, hfz56_3, hfz56_4, hfz56_5⟩ := fz6 BK409.out
               obtain ⟨Ao57, co57, eo57⟩ := Kd.R_slice HO_8.out
               subst eo57
               have p426 : 0 ≤ (0 : Int) := (by omega)
               have q426 : 0 < (x8_2.length : Int) := oD (by assumption)
               obtain ⟨ad426, e426, hx426_0⟩ := Kd.at_int (Kd.R_reads' HO_8.out).2.2 0 p426 q426
               cases e426
               have qi426 : (0 < x8_2.length) = True := eq_true (by omega)
               (try rw [tn0] at hx426_0)
               (try rw [Addr.add_zero'] at hx426_0)
               replace p426 := eq_true p426
               replace q426 := eq_true q426
               go_wp2
               repeat (go_quiet (fail); try go_wp2)
               go_ret
               exact ⟨by rfl, by exact bW⟩
             ·rw [if_neg c46] at H
              exact absurd H (by simp)
            ·rw [if_neg c45] at H
             have c45b0 : (((rd_T39 l0 a1).f0) == 2) = false := beq_eq_false_iff_ne.mpr c45
             have c45b1 : (((rd_T39 l0 a1).f0) != 2) = true := bne_iff_ne.mpr c45
             replace H := oB H
             obtain ⟨t427, A580, H⟩ := H
             have A58 := am A580
             clear A580
             by_cases c59 : t427 = true
             ·subst c59
              rw [if_pos rfl] at H
              by_cases c60 : 0 < (x8_2.length : Int)
              ·rw [if_pos c60] at H
               have c60b0 : decide (0 < (x8_2.length : Int)) = true := decide_eq_true c60
               have c60b1 : decide (0 < x8_2.length) = true := decide_eq_true (by omega)
               have c60p : 0 < x8_2.length := by omega
               clear c60
               by_cases c61 : (rd x8_2 0) = ((rd_T39 l0 a1).f1)
               ·rw [if_pos c61] at H
                have c61b0 : ((rd x8_2 0) == ((rd_T39 l0 a1).f1)) = true := beq_iff_eq.mpr c61
                have c61b1 : ((rd x8_2 0) != ((rd_T39 l0 a1).f1)) = false := bne_eq_false_iff_eq.mpr c61
                clear c61
                by_cases c62 : 1 < (x8_2.length : Int)
                ·rw [if_pos c62] at H
                 have c62b0 : decide (1 < (x8_2.length : Int)) = true := decide_eq_true c62
                 have c62b1 : decide (1 < x8_2.length) = true := decide_eq_true (by omega)
                 clear c62
                 by_cases c63 : (rd x8_2 1) = ((rd_T39 l0 a1).f1)
                 ·rw [if_pos c63] at H
                  have c63b0 : ((rd x8_2 1) == ((rd_T39 l0 a1).f1)) = true := beq_iff_eq.mpr c63
                  have c63b1 : ((rd x8_2 1) != ((rd_T39 l0 a1).f1)) = false := bne_eq_false_iff_eq.mpr c63
                  clear c63
                  by_cases c64 : ((rd_T39 l0 a1).f2) = 0
                  ·rw [if_pos c64] at H
                   have c64b0 : (((rd_T39 l0 a1).f2) == 0) = true := beq_iff_eq.mpr c64
                   have c64b1 : (((rd_T39 l0 a1).f2) != 0) = false := bne_eq_false_iff_eq.mpr c64
                   clear c64
                   obtain rfl := oI H
                   obtain ⟨hcz65_0, hcz65_1, hcz65_2, hcz65_3, hcz65_4, hcz65_5⟩ := cz6 BK409.out
                   obtain ⟨hfz65_0, hfz65_1, hfz65_2, hfz65_3, hfz65_4, hfz65_5⟩ := fz6 BK409.out
                   go_wp2_with (first | (go_at_call 30; (with_reducible refine (spec_l01In.calls ((rd_T39 l0 a1).f0) 3 12 true _ A58.out).mono ?_); rintro e w' ⟨rfl, ⟨nd, rfl⟩⟩; (try first | exact dq1 | exact dq2); obtain ⟨Ao66, co66, eo66⟩ := Kd.R_slice HO_8.out; subst eo66; have p428 : 0 ≤ (0 : Int) := (by omega); have q428 : 0 < (x8_2.length : Int) := oD (by assumption); obtain ⟨ad428, e428, hx428_0⟩ := Kd.at_int (Kd.R_reads' HO_8.out).2.2 0 p428 q428; cases e428; have qi428 : (0 < x8_2.length) = True := eq_true (by omega); (try rw [tn0] at hx428_0); (try rw [Addr.add_zero'] at hx428_0); replace p428 := eq_true p428; replace q428 := eq_true q428; have p429 : 0 ≤ (1 : Int) := (by omega); have q429 : 1 < (x8_2.length : Int) := oD (by assumption); obtain ⟨ad429, e429, hx429_0⟩ := Kd.at_int (Kd.R_reads' HO_8.out).2.2 1 p429 q429; obtain rfl : ad428 = ad429 := (by injection e429); (try simp only [show (1 : Int).toNat = 1 from rfl, Nat.reduceMul, Nat.reduceEqDiff, Go.Addr.add, ↓reduceIte] at hx429_0); have qi429 : (1 < x8_2.length) = True := eq_true (by omega); (try rw [show ((1 : Int)).toNat = 1 from rfl] at hx429_0); replace p429 := eq_true p429; replace q429 := eq_true q429))
                   repeat (go_quiet (first | (go_at_call 30; (with_reducible refine (spec_l01In.calls ((rd_T39 l0 a1).f0) 3 12 true _ A58.out).mono ?_); rintro e w' ⟨rfl, ⟨nd, rfl⟩⟩; (try first | exact dq1 | exact dq2); obtain ⟨Ao66, co66, eo66⟩ := Kd.R_slice HO_8.out; subst eo66; have p428 : 0 ≤ (0 : Int) := (by omega); have q428 : 0 < (x8_2.length : Int) := oD (by assumption); obtain ⟨ad428, e428, hx428_0⟩ := Kd.at_int (Kd.R_reads' HO_8.out).2.2 0 p428 q428; cases e428; have qi428 : (0 < x8_2.length) = True := eq_true (by omega); (try rw [tn0] at hx428_0); (try rw [Addr.add_zero'] at hx428_0); replace p428 := eq_true p428; replace q428 := eq_true q428; have p429 : 0 ≤ (1 : Int) := (by omega); have q429 : 1 < (x8_2.length : Int) := oD (by assumption); obtain ⟨ad429, e429, hx429_0⟩ := Kd.at_int (Kd.R_reads' HO_8.out).2.2 1 p429 q429; obtain rfl : ad428 = ad429 := (by injection e429); (try simp only [show (1 : Int).toNat = 1 from rfl, Nat.reduceMul, Nat.reduceEqDiff, Go.Addr.add, ↓reduceIte] at hx429_0); have qi429 : (1 < x8_2.length) = True := eq_true (by omega); (try rw [show ((1 : Int)).toNat = 1 from rfl] at hx429_0); replace p429 := eq_true p429; replace q429 := eq_true q429)); try go_wp2_with (first | (go_at_call 30; (with_reducible refine (spec_l01In.calls ((rd_T39 l0 a1).f0) 3 12 true _ A58.out).mono ?_); rintro e w' ⟨rfl, ⟨nd, rfl⟩⟩; (try first | exact dq1 | exact dq2); obtain ⟨Ao66, co66, eo66⟩ := Kd.R_slice HO_8.out; subst eo66; have p428 : 0 ≤ (0 : Int) := (by omega); have q428 : 0 < (x8_2.length : Int) := oD (by assumption); obtain ⟨ad428, e428, hx428_0⟩ := Kd.at_int (Kd.R_reads' HO_8.out).2.2 0 p428 q428; cases e428; have qi428 : (0 < x8_2.length) = True := eq_true (by omega); (try rw [tn0] at hx428_0); (try rw [Addr.add_zero'] at hx428_0); replace p428 := eq_true p428; replace q428 := eq_true q428; have p429 : 0 ≤ (1 : Int) := (by omega); have q429 : 1 < (x8_2.length : Int) := oD (by assumption); obtain ⟨ad429, e429, hx429_0⟩ := Kd.at_int (Kd.R_reads' HO_8.out).2.2 1 p429 q429; obtain rfl : ad428 = ad429 := (by injection e429); (try simp only [show (1 : Int).toNat = 1 from rfl, Nat.reduceMul, Nat.reduceEqDiff, Go.Addr.add, ↓reduceIte] at hx429_0); have qi429 : (1 < x8_2.length) = True := eq_true (by omega); (try rw [show ((1 : Int)).toNat = 1 from rfl] at hx429_0); replace p429 := eq_true p429; replace q429 := eq_true q429)))
                   go_ret
                   exact ⟨by rfl, by exact bW⟩
                  ·rw [if_neg c64] at H
                   have c64b0 : (((rd_T39 l0 a1).f2) == 0) = false := beq_eq_false_iff_ne.mpr c64
                   have c64b1 : (((rd_T39 l0 a1).f2) != 0) = true := bne_iff_ne.mpr c64
                   obtain rfl := oI H
                   obtain ⟨hcz67_0, hcz67_1, hcz67_2, hcz67_3, hcz67_4, hcz67_5⟩ := cz6 BK409.out
                   obtain ⟨hfz67_0, hfz67_1, hfz67_2, hfz67_3, hfz67_4, hfz67_5⟩ := fz6 BK409.out
                   go_wp2_with (first | (go_at_call 30; (with_reducible refine (spec_l01In.calls ((rd_T39 l0 a1).f0) 3 12 true _ A58.out).mono ?_); rintro e w' ⟨rfl, ⟨nd, rfl⟩⟩; (try first | exact dq1 | exact dq2); obtain ⟨Ao68, co68, eo68⟩ := Kd.R_slice HO_8.out; subst eo68; have p428 : 0 ≤ (0 : Int) := (by omega); have q428 : 0 < (x8_2.length : Int) := oD (by assumption); obtain ⟨ad428, e428, hx428_0⟩ := Kd.at_int (Kd.R_reads' HO_8.out).2.2 0 p428 q428; cases e428; have qi428 : (0 < x8_2.length) = True := eq_true (by omega); (try rw [tn0] at hx428_0); (try rw [Addr.add_zero'] at hx428_0); replace p428 := eq_true p428; replace q428 := eq_true q428; have p429 : 0 ≤ (1 : Int) := (by omega); have q429 : 1 < (x8_2.length : Int) := oD (by assumption); obtain ⟨ad429, e429, hx429_0⟩ := Kd.at_int (Kd.R_reads' HO_8.out).2.2 1 p429 q429; obtain rfl : ad428 = ad429 := (by injection e429); (try simp only [show (1 : Int).toNat = 1 from rfl, Nat.reduceMul, Nat.reduceEqDiff, Go.Addr.add, ↓reduceIte] at hx429_0); have qi429 : (1 < x8_2.length) = True := eq_true (by omega); (try rw [show ((1 : Int)).toNat = 1 from rfl] at hx429_0); replace p429 := eq_true p429; replace q429 := eq_true q429))
                   repeat (go_quiet (first | (go_at_call 30; (with_reducible refine (spec_l01In.calls ((rd_T39 l0 a1).f0) 3 12 true _ A58.out).mono ?_); rintro e w' ⟨rfl, ⟨nd, rfl⟩⟩; (try first | exact dq1 | exact dq2); obtain ⟨Ao68, co68, eo68⟩ := Kd.R_slice HO_8.out; subst eo68; have p428 : 0 ≤ (0 : Int) := (by omega); have q428 : 0 < (x8_2.length : Int) := oD (by assumption); obtain ⟨ad428, e428, hx428_0⟩ := Kd.at_int (Kd.R_reads' HO_8.out).2.2 0 p428 q428; cases e428; have qi428 : (0 < x8_2.length) = True := eq_true (by omega); (try rw [tn0] at hx428_0); (try rw [Addr.add_zero'] at hx428_0); replace p428 := eq_true p428; replace q428 := eq_true q428; have p429 : 0 ≤ (1 : Int) := (by omega); have q429 : 1 < (x8_2.length : Int) := oD (by assumption); obtain ⟨ad429, e429, hx429_0⟩ := Kd.at_int (Kd.R_reads' HO_8.out).2.2 1 p429 q429; obtain rfl : ad428 = ad429 := (by injection e429); (try simp only [show (1 : Int).toNat = 1 from rfl, Nat.reduceMul, Nat.reduceEqDiff, Go.Addr.add, ↓reduceIte] at hx429_0); have qi429 : (1 < x8_2.length) = True := eq_true (by omega); (try rw [show ((1 : Int)).toNat = 1 from rfl] at hx429_0); replace p429 := eq_true p429; replace q429 := eq_true q429)); try go_wp2_with (first | (go_at_call 30; (with_reducible refine (spec_l01In.calls ((rd_T39 l0 a1).f0) 3 12 true _ A58.out).mono ?_); rintro e w' ⟨rfl, ⟨nd, rfl⟩⟩; (try first | exact dq1 | exact dq2); obtain ⟨Ao68, co68, eo68⟩ := Kd.R_slice HO_8.out; subst eo68; have p428 : 0 ≤ (0 : Int) := (by omega); have q428 : 0 < (x8_2.length : Int) := oD (by assumption); obtain ⟨ad428, e428, hx428_0⟩ := Kd.at_int (Kd.R_reads' HO_8.out).2.2 0 p428 q428; cases e428; have qi428 : (0 < x8_2.length) = True := eq_true (by omega); (try rw [tn0] at hx428_0); (try rw [Addr.add_zero'] at hx428_0); replace p428 := eq_true p428; replace q428 := eq_true q428; have p429 : 0 ≤ (1 : Int) := (by omega); have q429 : 1 < (x8_2.length : Int) := oD (by assumption); obtain ⟨ad429, e429, hx429_0⟩ := Kd.at_int (Kd.R_reads' HO_8.out).2.2 1 p429 q429; obtain rfl : ad428 = ad429 := (by injection e429); (try simp only [show (1 : Int).toNat = 1 from rfl, Nat.reduceMul, Nat.reduceEqDiff, Go.Addr.add, ↓reduceIte] at hx429_0); have qi429 : (1 < x8_2.length) = True := eq_true (by omega); (try rw [show ((1 : Int)).toNat = 1 from rfl] at hx429_0); replace p429 := eq_true p429; replace q429 := eq_true q429)))
                   go_ret
                   exact ⟨by rfl, by exact bW⟩
                 ·rw [if_neg c63] at H
                  have c63b0 : ((rd x8_2 1) == ((rd_T39 l0 a1).f1)) = false := beq_eq_false_iff_ne.mpr c63
                  have c63b1 : ((rd x8_2 1) != ((rd_T39 l0 a1).f1)) = true := bne_iff_ne.mpr c63
                  obtain rfl := oI H
                  obtain ⟨hcz69_0, hcz69_1, hcz69_2, hcz69_3, hcz69_4, hcz69_5⟩ := cz6 BK409.out
                  obtain ⟨hfz69_0, hfz69_1, hfz69_2, hfz69_3, hfz69_4, hfz69_5⟩ := fz6 BK409.out
                  go_wp2_with (first | (go_at_call 30; (with_reducible refine (spec_l01In.calls ((rd_T39 l0 a1).f0) 3 12 true _ A58.out).mono ?_); rintro e w' ⟨rfl, ⟨nd, rfl⟩⟩; (try first | exact dq1 | exact dq2); obtain ⟨Ao70, co70, eo70⟩ := Kd.R_slice HO_8.out; subst eo70; have p428 : 0 ≤ (0 : Int) := (by omega); have q428 : 0 < (x8_2.length : Int) := oD (by assumption); obtain ⟨ad428, e428, hx428_0⟩ := Kd.at_int (Kd.R_reads' HO_8.out).2.2 0 p428 q428; cases e428; have qi428 : (0 < x8_2.length) = True := eq_true (by omega); (try rw [tn0] at hx428_0); (try rw [Addr.add_zero'] at hx428_0); replace p428 := eq_true p428; replace q428 := eq_true q428; have p429 : 0 ≤ (1 : Int) := (by omega); have q429 : 1 < (x8_2.length : Int) := oD (by assumption); obtain ⟨ad429, e429, hx429_0⟩ := Kd.at_int (Kd.R_reads' HO_8.out).2.2 1 p429 q429; obtain rfl : ad428 = ad429 := (by injection e429); (try simp only [show (1 : Int).toNat = 1 from rfl, Nat.reduceMul, Nat.reduceEqDiff, Go.Addr.add, ↓reduceIte] at hx429_0); have qi429 : (1 < x8_2.length) = True := eq_true (by omega); (try rw [show ((1 : Int)).toNat = 1 from rfl] at hx429_0); replace p429 := eq_true p429; replace q429 := eq_true q429))
                  repeat (go_quiet (first | (go_at_call 30; (with_reducible refine (spec_l01In.calls ((rd_T39 l0 a1).f0) 3 12 true _ A58.out).mono ?_); rintro e w' ⟨rfl, ⟨nd, rfl⟩⟩; (try first | exact dq1 | exact dq2); obtain ⟨Ao70, co70, eo70⟩ := Kd.R_slice HO_8.out; subst eo70; have p428 : 0 ≤ (0 : Int) := (by omega); have q428 : 0 < (x8_2.length : Int) := oD (by assumption); obtain ⟨ad428, e428, hx428_0⟩ := Kd.at_int (Kd.R_reads' HO_8.out).2.2 0 p428 q428; cases e428; have qi428 : (0 < x8_2.length) = True := eq_true (by omega); (try rw [tn0] at hx428_0); (try rw [Addr.add_zero'] at hx428_0); replace p428 := eq_true p428; replace q428 := eq_true q428; have p429 : 0 ≤ (1 : Int) := (by omega); have q429 : 1 < (x8_2.length : Int) := oD (by assumption); obtain ⟨ad429, e429, hx429_0⟩ := Kd.at_int (Kd.R_reads' HO_8.out).2.2 1 p429 q429; obtain rfl : ad428 = ad429 := (by injection e429); (try simp only [show (1 : Int).toNat = 1 from rfl, Nat.reduceMul, Nat.reduceEqDiff, Go.Addr.add, ↓reduceIte] at hx429_0); have qi429 : (1 < x8_2.length) = True := eq_true (by omega); (try rw [show ((1 : Int)).toNat = 1 from rfl] at hx429_0); replace p429 := eq_true p429; replace q429 := eq_true q429)); try go_wp2_with (first | (go_at_call 30; (with_reducible refine (spec_l01In.calls ((rd_T39 l0 a1).f0) 3 12 true _ A58.out).mono ?_); rintro e w' ⟨rfl, ⟨nd, rfl⟩⟩; (try first | exact dq1 | exact dq2); obtain ⟨Ao70, co70, eo70⟩ := Kd.R_slice HO_8.out; subst eo70; have p428 : 0 ≤ (0 : Int) := (by omega); have q428 : 0 < (x8_2.length : Int) := oD (by assumption); obtain ⟨ad428, e428, hx428_0⟩ := Kd.at_int (Kd.R_reads' HO_8.out).2.2 0 p428 q428; cases e428; have qi428 : (0 < x8_2.length) = True := eq_true (by omega); (try rw [tn0] at hx428_0); (try rw [Addr.add_zero'] at hx428_0); replace p428 := eq_true p428; replace q428 := eq_true q428; have p429 : 0 ≤ (1 : Int) := (by omega); have q429 : 1 < (x8_2.length : Int) := oD (by assumption); obtain ⟨ad429, e429, hx429_0⟩ := Kd.at_int (Kd.R_reads' HO_8.out).2.2 1 p429 q429; obtain rfl : ad428 = ad429 := (by injection e429); (try simp only [show (1 : Int).toNat = 1 from rfl, Nat.reduceMul, Nat.reduceEqDiff, Go.Addr.add, ↓reduceIte] at hx429_0); have qi429 : (1 < x8_2.length) = True := eq_true (by omega); (try rw [show ((1 : Int)).toNat = 1 from rfl] at hx429_0); replace p429 := eq_true p429; replace q429 := eq_true q429)))
                  go_ret
                  exact ⟨by rfl, by exact bW⟩
                ·rw [if_neg c62] at H
                 exact absurd H (by simp)
               ·rw [if_neg c61] at H
                have c61b0 : ((rd x8_2 0) == ((rd_T39 l0 a1).f1)) = false := beq_eq_false_iff_ne.mpr c61
                have c61b1 : ((rd x8_2 0) != ((rd_T39 l0 a1).f1)) = true := bne_iff_ne.mpr c61
                obtain rfl := oI H
                obtain ⟨hcz71_0, hcz71_1, hcz71_2, hcz71_3, hcz71_4, hcz71_5⟩ := cz6 BK409.out
                obtain ⟨hfz71_0, hfz71_1, hfz71_2, hfz71_3, hfz71_4, hfz71_5⟩ := fz6 BK409.out
                go_wp2_with (first | (go_at_call 30; (with_reducible refine (spec_l01In.calls ((rd_T39 l0 a1).f0) 3 12 true _ A58.out).mono ?_); rintro e w' ⟨rfl, ⟨nd, rfl⟩⟩; (try first | exact dq1 | exact dq2); obtain ⟨Ao72, co72, eo72⟩ := Kd.R_slice HO_8.out; subst eo72; have p428 : 0 ≤ (0 : Int) := (by omega); have q428 : 0 < (x8_2.length : Int) := oD (by assumption); obtain ⟨ad428, e428, hx428_0⟩ := Kd.at_int (Kd.R_reads' HO_8.out).2.2 0 p428 q428; cases e428; have qi428 : (0 < x8_2.length) = True := eq_true (by omega); (try rw [tn0] at hx428_0); (try rw [Addr.add_zero'] at hx428_0); replace p428 := eq_true p428; replace q428 := eq_true q428))
                repeat (go_quiet (first | (go_at_call 30; (with_reducible refine (spec_l01In.calls ((rd_T39 l0 a1).f0) 3 12 true _ A58.out).mono ?_); rintro e w' ⟨rfl, ⟨nd, rfl⟩⟩; (try first | exact dq1 | exact dq2); obtain ⟨Ao72, co72, eo72⟩ := Kd.R_slice HO_8.out; subst eo72; have p428 : 0 ≤ (0 : Int) := (by omega); have q428 : 0 < (x8_2.length : Int) := oD (by assumption); obtain ⟨ad428, e428, hx428_0⟩ := Kd.at_int (Kd.R_reads' HO_8.out).2.2 0 p428 q428; cases e428; have qi428 : (0 < x8_2.length) = True := eq_true (by omega); (try rw [tn0] at hx428_0); (try rw [Addr.add_zero'] at hx428_0); replace p428 := eq_true p428; replace q428 := eq_true q428)); try go_wp2_with (first | (go_at_call 30; (with_reducible refine (spec_l01In.calls ((rd_T39 l0 a1).f0) 3 12 true _ A58.out).mono ?_); rintro e w' ⟨rfl, ⟨nd, rfl⟩⟩; (try first | exact dq1 | exact dq2); obtain ⟨Ao72, co72, eo72⟩ := Kd.R_slice HO_8.out; subst eo72; have p428 : 0 ≤ (0 : Int) := (by omega); have q428 : 0 < (x8_2.length : Int) := oD (by assumption); obtain ⟨ad428, e428, hx428_0⟩ := Kd.at_int (Kd.R_reads' HO_8.out).2.2 0 p428 q428; cases e428; have qi428 : (0 < x8_2.length) = True := eq_true (by omega); (try rw [tn0] at hx428_0); (try rw [Addr.add_zero'] at hx428_0); replace p428 := eq_true p428; replace q428 := eq_true q428)))
                go_ret
                exact ⟨by rfl, by exact bW⟩
              ·rw [if_neg c60] at H
               exact absurd H (by simp)
             ·replace c59 := Bool.eq_false_iff.mpr c59
              subst c59
              rw [if_neg (show ¬ (false = true) by decide)] at H
              replace H := oB H
              obtain ⟨t430, A730, H⟩ := H
              have A73 := am A730
              clear A730
              by_cases c74 : t430 = true
              ·subst c74
               rw [if_pos rfl] at H
               by_cases c75 : 0 < (x8_2.length : Int)
               ·rw [if_pos c75] at H
                have c75b0 : decide (0 < (x8_2.length : Int)) = true := decide_eq_true c75
                have c75b1 : decide (0 < x8_2.length) = true := decide_eq_true (by omega)
                have c75p : 0 < x8_2.length := by omega
                clear c75
                by_cases c76 : 1 < (x8_2.length : Int)
                ·rw [if_pos c76] at H
                 have c76b0 : decide (1 < (x8_2.length : Int)) = true := decide_eq_true c76
                 have c76b1 : decide (1 < x8_2.length) = true := decide_eq_true (by omega)
                 clear c76
                 by_cases c77 : (rd x8_2 0) = (rd x8_2 1)
                 ·rw [if_pos c77] at H
                  have c77b0 : ((rd x8_2 0) == (rd x8_2 1)) = true := beq_iff_eq.mpr c77
                  have c77b1 : ((rd x8_2 0) != (rd x8_2 1)) = false := bne_eq_false_iff_eq.mpr c77
                  clear c77
                  by_cases c78 : ((rd_T39 l0 a1).f1) = 1
                  ·rw [if_pos c78] at H
                   have c78b0 : (((rd_T39 l0 a1).f1) == 1) = true := beq_iff_eq.mpr c78
                   have c78b1 : (((rd_T39 l0 a1).f1) != 1) = false := bne_eq_false_iff_eq.mpr c78
                   clear c78
                   by_cases c79 : ((rd_T39 l0 a1).f2) = 0
                   ·rw [if_pos c79] at H
                    have c79b0 : (((rd_T39 l0 a1).f2) == 0) = true := beq_iff_eq.mpr c79
                    have c79b1 : (((rd_T39 l0 a1).f2) != 0) = false := bne_eq_false_iff_eq.mpr c79
                    clear c79
                    obtain rfl := oI H
                    obtain ⟨hcz80_0, hcz80_1, hcz80_2, hcz80_3, hcz80_4, hcz80_5⟩ := cz6 BK409.out
                    obtain ⟨hfz80_0, hfz80_1, hfz80_2, hfz80_3, hfz80_4, hfz80_5⟩ := fz6 BK409.out
                    go_wp2_with (first | (go_at_call 30; (with_reducible refine (spec_l01In.calls ((rd_T39 l0 a1).f0) 3 12 false _ A58.out).mono ?_); rintro e w' ⟨rfl, ⟨nd, rfl⟩⟩; (try first | exact dq1 | exact dq2)) | (go_at_call 30; (with_reducible refine (spec_l01In.calls ((rd_T39 l0 a1).f0) 13 15 true _ A73.out).mono ?_); rintro e w' ⟨rfl, ⟨nd, rfl⟩⟩; (try first | exact dq1 | exact dq2); obtain ⟨Ao81, co81, eo81⟩ := Kd.R_slice HO_8.out; subst eo81; have p431 : 0 ≤ (0 : Int) := (by omega); have q431 : 0 < (x8_2.length : Int) := oD (by assumption); obtain ⟨ad431, e431, hx431_0⟩ := Kd.at_int (Kd.R_reads' HO_8.out).2.2 0 p431 q431; cases e431; have qi431 : (0 < x8_2.length) = True := eq_true (by omega); (try rw [tn0] at hx431_0); (try rw [Addr.add_zero'] at hx431_0); replace p431 := eq_true p431; replace q431 := eq_true q431; have p432 : 0 ≤ (1 : Int) := (by omega); have q432 : 1 < (x8_2.length : Int) := oD (by assumption); obtain ⟨ad432, e432, hx432_0⟩ := Kd.at_int (Kd.R_reads' HO_8.out).2.2 1 p432 q432; obtain rfl : ad431 = ad432 := (by injection e432); (try simp only [show (1 : Int).toNat = 1 from rfl, Nat.reduceMul, Nat.reduceEqDiff, Go.Addr.add, ↓reduceIte] at hx432_0); have qi432 : (1 < x8_2.length) = True := eq_true (by omega); (try rw [show ((1 : Int)).toNat = 1 from rfl] at hx432_0); replace p432 := eq_true p432; replace q432 := eq_true q432))
                    repeat (go_quiet (first | (go_at_call 30; (with_reducible refine (spec_l01In.calls ((rd_T39 l0 a1).f0) 3 12 false _ A58.out).mono ?_); rintro e w' ⟨rfl, ⟨nd, rfl⟩⟩; (try first | exact dq1 | exact dq2)) | (go_at_call 30; (with_reducible refine (spec_l01In.calls ((rd_T39 l0 a1).f0) 13 15 true _ A73.out).mono ?_); rintro e w' ⟨rfl, ⟨nd, rfl⟩⟩; (try first | exact dq1 | exact dq2); obtain ⟨Ao81, co81, eo81⟩ := Kd.R_slice HO_8.out; subst eo81; have p431 : 0 ≤ (0 : Int) := (by omega); have q431 : 0 < (x8_2.length : Int) := oD (by assumption); obtain ⟨ad431, e431, hx431_0⟩ := Kd.at_int (Kd.R_reads' HO_8.out).2.2 0 p431 q431; cases e431; have qi431 : (0 < x8_2.length) = True := eq_true (by omega); (try rw [tn0] at hx431_0); (try rw [Addr.add_zero'] at hx431_0); replace p431 := eq_true p431; replace q431 := eq_true q431; have p432 : 0 ≤ (1 : Int) := (by omega); have q432 : 1 < (x8_2.length : Int) := oD (by assumption); obtain ⟨ad432, e432, hx432_0⟩ := Kd.at_int (Kd.R_reads' HO_8.out).2.2 1 p432 q432; obtain rfl : ad431 = ad432 := (by injection e432); (try simp only [show (1 : Int).toNat = 1 from rfl, Nat.reduceMul, Nat.reduceEqDiff, Go.Addr.add, ↓reduceIte] at hx432_0); have qi432 : (1 < x8_2.length) = True := eq_true (by omega); (try rw [show ((1 : Int)).toNat = 1 from rfl] at hx432_0); replace p432 := eq_true p432; replace q432 := eq_true q432)); try go_wp2_with (first | (go_at_call 30; (with_reducible refine (spec_l01In.calls ((rd_T39 l0 a1).f0) 3 12 false _ A58.out).mono ?_); rintro e w' ⟨rfl, ⟨nd, rfl⟩⟩; (try first | exact dq1 | exact dq2)) | (go_at_call 30; (with_reducible refine (spec_l01In.calls ((rd_T39 l0 a1).f0) 13 15 true _ A73.out).mono ?_); rintro e w' ⟨rfl, ⟨nd, rfl⟩⟩; (try first | exact dq1 | exact dq2); obtain ⟨Ao81, co81, eo81⟩ := Kd.R_slice HO_8.out; subst eo81; have p431 : 0 ≤ (0 : Int) := (by omega); have q431 : 0 < (x8_2.length : Int) := oD (by assumption); obtain ⟨ad431, e431, hx431_0⟩ := Kd.at_int (Kd.R_reads' HO_8.out).2.2 0 p431 q431; cases e431; have qi431 : (0 < x8_2.length) = True := eq_true (by omega); (try rw [tn0] at hx431_0); (try rw [Addr.add_zero'] at hx431_0); replace p431 := eq_true p431; replace q431 := eq_true q431; have p432 : 0 ≤ (1 : Int) := (by omega); have q432 : 1 < (x8_2.length : Int) := oD (by assumption); obtain ⟨ad432, e432, hx432_0⟩ := Kd.at_int (Kd.R_reads' HO_8.out).2.2 1 p432 q432; obtain rfl : ad431 = ad432 := (by injection e432); (try simp only [show (1 : Int).toNat = 1 from rfl, Nat.reduceMul, Nat.reduceEqDiff, Go.Addr.add, ↓reduceIte] at hx432_0); have qi432 : (1 < x8_2.length) = True := eq_true (by omega); (try rw [show ((1 : Int)).toNat = 1 from rfl] at hx432_0); replace p432 := eq_true p432; replace q432 := eq_true q432)))
                    go_ret
                    exact ⟨by rfl, by exact bW⟩
                   ·rw [if_neg c79] at H
                    have c79b0 : (((rd_T39 l0 a1).f2) == 0) = false := beq_eq_false_iff_ne.mpr c79
                    have c79b1 : (((rd_T39 l0 a1).f2) != 0) = true := bne_iff_ne.mpr c79
                    obtain rfl := oI H
                    obtain ⟨hcz82_0, hcz82_1, hcz82_2, hcz82_3, hcz82_4, hcz82_5⟩ := cz6 BK409.out
                    obtain ⟨hfz82_0, hfz82_1, hfz82_2, hfz82_3, hfz82_4, hfz82_5⟩ := fz6 BK409.out
                    go_wp2_with (first | (go_at_call 30; (with_reducible refine (spec_l01In.calls ((rd_T39 l0 a1).f0) 3 12 false _ A58.out).mono ?_); rintro e w' ⟨rfl, ⟨nd, rfl⟩⟩; (try first | exact dq1 | exact dq2)) | (go_at_call 30; (with_reducible refine (spec_l01In.calls ((rd_T39 l0 a1).f0) 13 15 true _ A73.out).mono ?_); rintro e w' ⟨rfl, ⟨nd, rfl⟩⟩; (try first | exact dq1 | exact dq2); obtain ⟨Ao83, co83, eo83⟩ := Kd.R_slice HO_8.out; subst eo83; have p431 : 0 ≤ (0 : Int) := (by omega); have q431 : 0 < (x8_2.length : Int) := oD (by assumption); obtain ⟨ad431, e431, hx431_0⟩ := Kd.at_int (Kd.R_reads' HO_8.out).2.2 0 p431 q431; cases e431; have qi431 : (0 < x8_2.length) = True := eq_true (by omega); (try rw [tn0] at hx431_0); (try rw [Addr.add_zero'] at hx431_0); replace p431 := eq_true p431; replace q431 := eq_true q431; have p432 : 0 ≤ (1 : Int) := (by omega); have q432 : 1 < (x8_2.length : Int) := oD (by assumption); obtain ⟨ad432, e432, hx432_0⟩ := Kd.at_int (Kd.R_reads' HO_8.out).2.2 1 p432 q432; obtain rfl : ad431 = ad432 := (by injection e432); (try simp only [show (1 : Int).toNat = 1 from rfl, Nat.reduceMul, Nat.reduceEqDiff, Go.Addr.add, ↓reduceIte] at hx432_0); have qi432 : (1 < x8_2.length) = True := eq_true (by omega); (try rw [show ((1 : Int)).toNat = 1 from rfl] at hx432_0); replace p432 := eq_true p432; replace q432 := eq_true q432))
                    repeat (go_quiet (first | (go_at_call 30; (with_reducible refine (spec_l01In.calls ((rd_T39 l0 a1).f0) 3 12 false _ A58.out).mono ?_); rintro e w' ⟨rfl, ⟨nd, rfl⟩⟩; (try first | exact dq1 | exact dq2)) | (go_at_call 30; (with_reducible refine (spec_l01In.calls ((rd_T39 l0 a1).f0) 13 15 true _ A73.out).mono ?_); rintro e w' ⟨rfl, ⟨nd, rfl⟩⟩; (try first | exact dq1 | exact dq2); obtain ⟨Ao83, co83, eo83⟩ := Kd.R_slice HO_8.out; subst eo83; have p431 : 0 ≤ (0 : Int) := (by omega); have q431 : 0 < (x8_2.length : Int) := oD (by assumption); obtain ⟨ad431, e431, hx431_0⟩ := Kd.at_int (Kd.R_reads' HO_8.out).2.2 0 p431 q431; cases e431; have qi431 : (0 < x8_2.length) = True := eq_true (by omega); (try rw [tn0] at hx431_0); (try rw [Addr.add_zero'] at hx431_0); replace p431 := eq_true p431; replace q431 := eq_true q431; have p432 : 0 ≤ (1 : Int) := (by omega); have q432 : 1 < (x8_2.length : Int) := oD (by assumption); obtain ⟨ad432, e432, hx432_0⟩ := Kd.at_int (Kd.R_reads' HO_8.out).2.2 1 p432 q432; obtain rfl : ad431 = ad432 := (by injection e432); (try simp only [show (1 : Int).toNat = 1 from rfl, Nat.reduceMul, Nat.reduceEqDiff, Go.Addr.add, ↓reduceIte] at hx432_0); have qi432 : (1 < x8_2.length) = True := eq_true (by omega); (try rw [show ((1 : Int)).toNat = 1 from rfl] at hx432_0); replace p432 := eq_true p432; replace q432 := eq_true q432)); try go_wp2_with (first | (go_at_call 30; (with_reducible refine (spec_l01In.calls ((rd_T39 l0 a1).f0) 3 12 false _ A58.out).mono ?_); rintro e w' ⟨rfl, ⟨nd, rfl⟩⟩; (try first | exact dq1 | exact dq2)) | (go_at_call 30; (with_reducible refine (spec_l01In.calls ((rd_T39 l0 a1).f0) 13 15 true _ A73.out).mono ?_); rintro e w' ⟨rfl, ⟨nd, rfl⟩⟩; (try first | exact dq1 | exact dq2); obtain ⟨Ao83, co83, eo83⟩ := Kd.R_slice HO_8.out; subst eo83; have p431 : 0 ≤ (0 : Int) := (by omega); have q431 : 0 < (x8_2.length : Int) := oD (by assumption); obtain ⟨ad431, e431, hx431_0⟩ := Kd.at_int (Kd.R_reads' HO_8.out).2.2 0 p431 q431; cases e431; have qi431 : (0 < x8_2.length) = True := eq_true (by omega); (try rw [tn0] at hx431_0); (try rw [Addr.add_zero'] at hx431_0); replace p431 := eq_true p431; replace q431 := eq_true q431; have p432 : 0 ≤ (1 : Int) := (by omega); have q432 : 1 < (x8_2.length : Int) := oD (by assumption); obtain ⟨ad432, e432, hx432_0⟩ := Kd.at_int (Kd.R_reads' HO_8.out).2.2 1 p432 q432; obtain rfl : ad431 = ad432 := (by injection e432); (try simp only [show (1 : Int).toNat = 1 from rfl, Nat.reduceMul, Nat.reduceEqDiff, Go.Addr.add, ↓reduceIte] at hx432_0); have qi432 : (1 < x8_2.length) = True := eq_true (by omega); (try rw [show ((1 : Int)).toNat = 1 from rfl] at hx432_0); replace p432 := eq_true p432; replace q432 := eq_true q432)))
                    go_ret
                    exact ⟨by rfl, by exact bW⟩
                  ·rw [if_neg c78] at H
                   have c78b0 : (((rd_T39 l0 a1).f1) == 1) = false := beq_eq_false_iff_ne.mpr c78
                   have c78b1 : (((rd_T39 l0 a1).f1) != 1) = true := bne_iff_ne.mpr c78
                   obtain rfl := oI H
                   obtain ⟨hcz84_0, hcz84_1, hcz84_2, hcz84_3, hcz84_4, hcz84_5⟩ := cz6 BK409.out
                   obtain ⟨hfz84_0, hfz84_1, hfz84_2, hfz84_3, hfz84_4, hfz84_5⟩ := fz6 BK409.out
                   go_wp2_with (first | (go_at_call 30; (with_reducible refine (spec_l01In.calls ((rd_T39 l0 a1).f0) 3 12 false _ A58.out).mono ?_); rintro e w' ⟨rfl, ⟨nd, rfl⟩⟩; (try first | exact dq1 | exact dq2)) | (go_at_call 30; (with_reducible refine (spec_l01In.calls ((rd_T39 l0 a1).f0) 13 15 true _ A73.out).mono ?_); rintro e w' ⟨rfl, ⟨nd, rfl⟩⟩; (try first | exact dq1 | exact dq2); obtain ⟨Ao85, co85, eo85⟩ := Kd.R_slice HO_8.out; subst eo85; have p431 : 0 ≤ (0 : Int) := (by omega); have q431 : 0 < (x8_2.length : Int) := oD (by assumption); obtain ⟨ad431, e431, hx431_0⟩ := Kd.at_int (Kd.R_reads' HO_8.out).2.2 0 p431 q431; cases e431; have qi431 : (0 < x8_2.length) = True := eq_true (by omega); (try rw [tn0] at hx431_0); (try rw [Addr.add_zero'] at hx431_0); replace p431 := eq_true p431; replace q431 := eq_true q431; have p432 : 0 ≤ (1 : Int) := (by omega); have q432 : 1 < (x8_2.length : Int) := oD (by assumption); obtain ⟨ad432, e432, hx432_0⟩ := Kd.at_int (Kd.R_reads' HO_8.out).2.2 1 p432 q432; obtain rfl : ad431 = ad432 := (by injection e432); (try simp only [show (1 : Int).toNat = 1 from rfl, Nat.reduceMul, Nat.reduceEqDiff, Go.Addr.add, ↓reduceIte] at hx432_0); have qi432 : (1 < x8_2.length) = True := eq_true (by omega); (try rw [show ((1 : Int)).toNat = 1 from rfl] at hx432_0); replace p432 := eq_true p432; replace q432 := eq_true q432))
                   repeat (go_quiet (first | (go_at_call 30; (with_reducible refine (spec_l01In.calls ((rd_T39 l0 a1).f0) 3 12 false _ A58.out).mono ?_); rintro e w' ⟨rfl, ⟨nd, rfl⟩⟩; (try first | exact dq1 | exact dq2)) | (go_at_call 30; (with_reducible refine (spec_l01In.calls ((rd_T39 l0 a1).f0) 13 15 true _ A73.out).mono ?_); rintro e w' ⟨rfl, ⟨nd, rfl⟩⟩; (try first | exact dq1 | exact dq2); obtain ⟨Ao85, co85, eo85⟩ := Kd.R_slice HO_8.out; subst eo85; have p431 : 0 ≤ (0 : Int) := (by omega); have q431 : 0 < (x8_2.length : Int) := oD (by assumption); obtain ⟨ad431, e431, hx431_0⟩ := Kd.at_int (Kd.R_reads' HO_8.out).2.2 0 p431 q431; cases e431; have qi431 : (0 < x8_2.length) = True := eq_true (by omega); (try rw [tn0] at hx431_0); (try rw [Addr.add_zero'] at hx431_0); replace p431 := eq_true p431; replace q431 := eq_true q431; have p432 : 0 ≤ (1 : Int) := (by omega); have q432 : 1 < (x8_2.length : Int) := oD (by assumption); obtain ⟨ad432, e432, hx432_0⟩ := Kd.at_int (Kd.R_reads' HO_8.out).2.2 1 p432 q432; obtain rfl : ad431 = ad432 := (by injection e432); (try simp only [show (1 : Int).toNat = 1 from rfl, Nat.reduceMul, Nat.reduceEqDiff, Go.Addr.add, ↓reduceIte] at hx432_0); have qi432 : (1 < x8_2.length) = True := eq_true (by omega); (try rw [show ((1 : Int)).toNat = 1 from rfl] at hx432_0); replace p432 := eq_true p432; replace q432 := eq_true q432)); try go_wp2_with (first | (go_at_call 30; (with_reducible refine (spec_l01In.calls ((rd_T39 l0 a1).f0) 3 12 false _ A58.out).mono ?_); rintro e w' ⟨rfl, ⟨nd, rfl⟩⟩; (try first | exact dq1 | exact dq2)) | (go_at_call 30; (with_reducible refine (spec_l01In.calls ((rd_T39 l0 a1).f0) 13 15 true _ A73.out).mono ?_); rintro e w' ⟨rfl, ⟨nd, rfl⟩⟩; (try first | exact dq1 | exact dq2); obtain ⟨Ao85, co85, eo85⟩ := Kd.R_slice HO_8.out; subst eo85; have p431 : 0 ≤ (0 : Int) := (by omega); have q431 : 0 < (x8_2.length : Int) := oD (by assumption); obtain ⟨ad431, e431, hx431_0⟩ := Kd.at_int (Kd.R_reads' HO_8.out).2.2 0 p431 q431; cases e431; have qi431 : (0 < x8_2.length) = True := eq_true (by omega); (try rw [tn0] at hx431_0); (try rw [Addr.add_zero'] at hx431_0); replace p431 := eq_true p431; replace q431 := eq_true q431; have p432 : 0 ≤ (1 : Int) := (by omega); have q432 : 1 < (x8_2.length : Int) := oD (by assumption); obtain ⟨ad432, e432, hx432_0⟩ := Kd.at_int (Kd.R_reads' HO_8.out).2.2 1 p432 q432; obtain rfl : ad431 = ad432 := (by injection e432); (try simp only [show (1 : Int).toNat = 1 from rfl, Nat.reduceMul, Nat.reduceEqDiff, Go.Addr.add, ↓reduceIte] at hx432_0); have qi432 : (1 < x8_2.length) = True := eq_true (by omega); (try rw [show ((1 : Int)).toNat = 1 from rfl] at hx432_0); replace p432 := eq_true p432; replace q432 := eq_true q432)))
                   go_ret
                   exact ⟨by rfl, by exact bW⟩
                 ·rw [if_neg c77] at H
                  have c77b0 : ((rd x8_2 0) == (rd x8_2 1)) = false := beq_eq_false_iff_ne.mpr c77
                  have c77b1 : ((rd x8_2 0) != (rd x8_2 1)) = true := bne_iff_ne.mpr c77
                  obtain rfl := oI H
                  obtain ⟨hcz86_0, hcz86_1, hcz86_2, hcz86_3, hcz86_4, hcz86_5⟩ := cz6 BK409.out
                  obtain ⟨hfz86_0, hfz86_1, hfz86_2, hfz86_3, hfz86_4, hfz86_5⟩ := fz6 BK409.out
                  go_wp2_with (first | (go_at_call 30; (with_reducible refine (spec_l01In.calls ((rd_T39 l0 a1).f0) 3 12 false _ A58.out).mono ?_); rintro e w' ⟨rfl, ⟨nd, rfl⟩⟩; (try first | exact dq1 | exact dq2)) | (go_at_call 30; (with_reducible refine (spec_l01In.calls ((rd_T39 l0 a1).f0) 13 15 true _ A73.out).mono ?_); rintro e w' ⟨rfl, ⟨nd, rfl⟩⟩; (try first | exact dq1 | exact dq2); obtain ⟨Ao87, co87, eo87⟩ := Kd.R_slice HO_8.out; subst eo87; have p431 : 0 ≤ (0 : Int) := (by omega); have q431 : 0 < (x8_2.length : Int) := oD (by assumption); obtain ⟨ad431, e431, hx431_0⟩ := Kd.at_int (Kd.R_reads' HO_8.out).2.2 0 p431 q431; cases e431; have qi431 : (0 < x8_2.length) = True := eq_true (by omega); (try rw [tn0] at hx431_0); (try rw [Addr.add_zero'] at hx431_0); replace p431 := eq_true p431; replace q431 := eq_true q431; have p432 : 0 ≤ (1 : Int) := (by omega); have q432 : 1 < (x8_2.length : Int) := oD (by assumption); obtain ⟨ad432, e432, hx432_0⟩ := Kd.at_int (Kd.R_reads' HO_8.out).2.2 1 p432 q432; obtain rfl : ad431 = ad432 := (by injection e432); (try simp only [show (1 : Int).toNat = 1 from rfl, Nat.reduceMul, Nat.reduceEqDiff, Go.Addr.add, ↓reduceIte] at hx432_0); have qi432 : (1 < x8_2.length) = True := eq_true (by omega); (try rw [show ((1 : Int)).toNat = 1 from rfl] at hx432_0); replace p432 := eq_true p432; replace q432 := eq_true q432))
                  repeat (go_quiet (first | (go_at_call 30; (with_reducible refine (spec_l01In.calls ((rd_T39 l0 a1).f0) 3 12 false _ A58.out).mono ?_); rintro e w' ⟨rfl, ⟨nd, rfl⟩⟩; (try first | exact dq1 | exact dq2)) | (go_at_call 30; (with_reducible refine (spec_l01In.calls ((rd_T39 l0 a1).f0) 13 15 true _ A73.out).mono ?_); rintro e w' ⟨rfl, ⟨nd, rfl⟩⟩; (try first | exact dq1 | exact dq2); obtain ⟨Ao87, co87, eo87⟩ := Kd.R_slice HO_8.out; subst eo87; have p431 : 0 ≤ (0 : Int) := (by omega); have q431 : 0 < (x8_2.length : Int) := oD (by assumption); obtain ⟨ad431, e431, hx431_0⟩ := Kd.at_int (Kd.R_reads' HO_8.out).2.2 0 p431 q431; cases e431; have qi431 : (0 < x8_2.length) = True := eq_true (by omega); (try rw [tn0] at hx431_0); (try rw [Addr.add_zero'] at hx431_0); replace p431 := eq_true p431; replace q431 := eq_true q431; have p432 : 0 ≤ (1 : Int) := (by omega); have q432 : 1 < (x8_2.length : Int) := oD (by assumption); obtain ⟨ad432, e432, hx432_0⟩ := Kd.at_int (Kd.R_reads' HO_8.out).2.2 1 p432 q432; obtain rfl : ad431 = ad432 := (by injection e432); (try simp only [show (1 : Int).toNat = 1 from rfl, Nat.reduceMul, Nat.reduceEqDiff, Go.Addr.add, ↓reduceIte] at hx432_0); have qi432 : (1 < x8_2.length) = True := eq_true (by omega); (try rw [show ((1 : Int)).toNat = 1 from rfl] at hx432_0); replace p432 := eq_true p432; replace q432 := eq_true q432)); try go_wp2_with (first | (go_at_call 30; (with_reducible refine (spec_l01In.calls ((rd_T39 l0 a1).f0) 3 12 false _ A58.out).mono ?_); rintro e w' ⟨rfl, ⟨nd, rfl⟩⟩; (try first | exact dq1 | exact dq2)) | (go_at_call 30; (with_reducible refine (spec_l01In.calls ((rd_T39 l0 a1).f0) 13 15 true _ A73.out).mono ?_); rintro e w' ⟨rfl, ⟨nd, rfl⟩⟩; (try first | exact dq1 | exact dq2); obtain ⟨Ao87, co87, eo87⟩ := Kd.R_slice HO_8.out; subst eo87; have p431 : 0 ≤ (0 : Int) := (by omega); have q431 : 0 < (x8_2.length : Int) := oD (by assumption); obtain ⟨ad431, e431, hx431_0⟩ := Kd.at_int (Kd.R_reads' HO_8.out).2.2 0 p431 q431; cases e431; have qi431 : (0 < x8_2.length) = True := eq_true (by omega); (try rw [tn0] at hx431_0); (try rw [Addr.add_zero'] at hx431_0); replace p431 := eq_true p431; replace q431 := eq_true q431; have p432 : 0 ≤ (1 : Int) := (by omega); have q432 : 1 < (x8_2.length : Int) := oD (by assumption); obtain ⟨ad432, e432, hx432_0⟩ := Kd.at_int (Kd.R_reads' HO_8.out).2.2 1 p432 q432; obtain rfl : ad431 = ad432 := (by injection e432); (try simp only [show (1 : Int).toNat = 1 from rfl, Nat.reduceMul, Nat.reduceEqDiff, Go.Addr.add, ↓reduceIte] at hx432_0); have qi432 : (1 < x8_2.length) = True := eq_true (by omega); (try rw [show ((1 : Int)).toNat = 1 from rfl] at hx432_0); replace p432 := eq_true p432; replace q432 := eq_true q432)))
                  go_ret
                  exact ⟨by rfl, by exact bW⟩
                ·rw [if_neg c76] at H
                 exact absurd H (by simp)
               ·rw [if_neg c75] at H
                exact absurd H (by simp)
              ·replace c74 := Bool.eq_false_iff.mpr c74
               subst c74
               rw [if_neg (show ¬ (false = true) by decide)] at H
               by_cases c88 : ((rd_T39 l0 a1).f0) = 16
               ·rw [if_pos c88] at H
                have c88b0 : (((rd_T39 l0 a1).f0) == 16) = true := beq_iff_eq.mpr c88
                have c88b1 : (((rd_T39 l0 a1).f0) != 16) = false := bne_eq_false_iff_eq.mpr c88
                clear c88
                by_cases c89 : 0 < (x8_2.length : Int)
                ·rw [if_pos c89] at H
                 have c89b0 : decide (0 < (x8_2.length : Int)) = true := decide_eq_true c89
                 have c89b1 : decide (0 < x8_2.length) = true := decide_eq_true (by omega)
                 have c89p : 0 < x8_2.length := by omega
                 clear c89
                 by_cases c90 : 1 < (x8_2.length : Int)
                 ·rw [if_pos c90] at H
                  have c90b0 : decide (1 < (x8_2.length : Int)) = true := decide_eq_true c90
                  have c90b1 : decide (1 < x8_2.length) = true := decide_eq_true (by omega)
                  clear c90
                  by_cases c91 : (wrap64 ((rd x8_2 0) + (rd x8_2 1))) = ((rd_T39 l0 a1).f1)
                  ·rw [if_pos c91] at H
                   have c91b0 : ((wrap64 ((rd x8_2 0) + (rd x8_2 1))) == ((rd_T39 l0 a1).f1)) = true := beq_iff_eq.mpr c91
                   have c91b1 : ((wrap64 ((rd x8_2 0) + (rd x8_2 1))) != ((rd_T39 l0 a1).f1)) = false := bne_eq_false_iff_eq.mpr c91
                   clear c91
                   by_cases c92 : ((rd_T39 l0 a1).f2) = 0
                   ·rw [if_pos c92] at H
                    have c92b0 : (((rd_T39 l0 a1).f2) == 0) = true := beq_iff_eq.mpr c92
                    have c92b1 : (((rd_T39 l0 a1).f2) != 0) = false := bne_eq_false_iff_eq.mpr c92
                    clear c92
                    obtain rfl := oI H
                    obtain ⟨hcz93_0, hcz93_1, hcz93_2, hcz93_3, hcz93_4, hcz93_5⟩ := cz6 BK409.out
                    obtain ⟨hfz93_0, hfz93_1, hfz93_2, hfz93_3, hfz93_4, hfz93_5⟩ := fz6 BK409.out
                    go_wp2_with (first | (go_at_call 30; (with_reducible refine (spec_l01In.calls ((rd_T39 l0 a1).f0) 3 12 false _ A58.out).mono ?_); rintro e w' ⟨rfl, ⟨nd, rfl⟩⟩; (try first | exact dq1 | exact dq2)) | (go_at_call 30; (with_reducible refine (spec_l01In.calls ((rd_T39 l0 a1).f0) 13 15 false _ A73.out).mono ?_); rintro e w' ⟨rfl, ⟨nd, rfl⟩⟩; (try first | exact dq1 | exact dq2); obtain ⟨Ao94, co94, eo94⟩ := Kd.R_slice HO_8.out; subst eo94; have p433 : 0 ≤ (0 : Int) := (by omega); have q433 : 0 < (x8_2.length : Int) := oD (by assumption); obtain ⟨ad433, e433, hx433_0⟩ := Kd.at_int (Kd.R_reads' HO_8.out).2.2 0 p433 q433; cases e433; have qi433 : (0 < x8_2.length) = True := eq_true (by omega); (try rw [tn0] at hx433_0); (try rw [Addr.add_zero'] at hx433_0); replace p433 := eq_true p433; replace q433 := eq_true q433; have p434 : 0 ≤ (1 : Int) := (by omega); have q434 : 1 < (x8_2.length : Int) := oD (by assumption); obtain ⟨ad434, e434, hx434_0⟩ := Kd.at_int (Kd.R_reads' HO_8.out).2.2 1 p434 q434; obtain rfl : ad433 = ad434 := (by injection e434); (try simp only [show (1 : Int).toNat = 1 from rfl, Nat.reduceMul, Nat.reduceEqDiff, Go.Addr.add, ↓reduceIte] at hx434_0); have qi434 : (1 < x8_2.length) = True := eq_true (by omega); (try rw [show ((1 : Int)).toNat = 1 from rfl] at hx434_0); replace p434 := eq_true p434; replace q434 := eq_true q434))
                    repeat (go_quiet (first | (go_at_call 30; (with_reducible refine (spec_l01In.calls ((rd_T39 l0 a1).f0) 3 12 false _ A58.out).mono ?_); rintro e w' ⟨rfl, ⟨nd, rfl⟩⟩; (try first | exact dq1 | exact dq2)) | (go_at_call 30; (with_reducible refine (spec_l01In.calls ((rd_T39 l0 a1).f0) 13 15 false _ A73.out).mono ?_); rintro e w' ⟨rfl, ⟨nd, rfl⟩⟩; (try first | exact dq1 | exact dq2); obtain ⟨Ao94, co94, eo94⟩ := Kd.R_slice HO_8.out; subst eo94; have p433 : 0 ≤ (0 : Int) := (by omega); have q433 : 0 < (x8_2.length : Int) := oD (by assumption); obtain ⟨ad433, e433, hx433_0⟩ := Kd.at_int (Kd.R_reads' HO_8.out).2.2 0 p433 q433; cases e433; have qi433 : (0 < x8_2.length) = True := eq_true (by omega); (try rw [tn0] at hx433_0); (try rw [Addr.add_zero'] at hx433_0); replace p433 := eq_true p433; replace q433 := eq_true q433; have p434 : 0 ≤ (1 : Int) := (by omega); have q434 : 1 < (x8_2.length : Int) := oD (by assumption); obtain ⟨ad434, e434, hx434_0⟩ := Kd.at_int (Kd.R_reads' HO_8.out).2.2 1 p434 q434; obtain rfl : ad433 = ad434 := (by injection e434); (try simp only [show (1 : Int).toNat = 1 from rfl, Nat.reduceMul, Nat.reduceEqDiff, Go.Addr.add, ↓reduceIte] at hx434_0); have qi434 : (1 < x8_2.length) = True := eq_true (by omega); (try rw [show ((1 : Int)).toNat = 1 from rfl] at hx434_0); replace p434 := eq_true p434; replace q434 := eq_true q434)); try go_wp2_with (first | (go_at_call 30; (with_reducible refine (spec_l01In.calls ((rd_T39 l0 a1).f0) 3 12 false _ A58.out).mono ?_); rintro e w' ⟨rfl, ⟨nd, rfl⟩⟩; (try first | exact dq1 | exact dq2)) | (go_at_call 30; (with_reducible refine (spec_l01In.calls ((rd_T39 l0 a1).f0) 13 15 false _ A73.out).mono ?_); rintro e w' ⟨rfl, ⟨nd, rfl⟩⟩; (try first | exact dq1 | exact dq2); obtain ⟨Ao94, co94, eo94⟩ := Kd.R_slice HO_8.out; subst eo94; have p433 : 0 ≤ (0 : Int) := (by omega); have q433 : 0 < (x8_2.length : Int) := oD (by assumption); obtain ⟨ad433, e433, hx433_0⟩ := Kd.at_int (Kd.R_reads' HO_8.out).2.2 0 p433 q433; cases e433; have qi433 : (0 < x8_2.length) = True := eq_true (by omega); (try rw [tn0] at hx433_0); (try rw [Addr.add_zero'] at hx433_0); replace p433 := eq_true p433; replace q433 := eq_true q433; have p434 : 0 ≤ (1 : Int) := (by omega); have q434 : 1 < (x8_2.length : Int) := oD (by assumption); obtain ⟨ad434, e434, hx434_0⟩ := Kd.at_int (Kd.R_reads' HO_8.out).2.2 1 p434 q434; obtain rfl : ad433 = ad434 := (by injection e434); (try simp only [show (1 : Int).toNat = 1 from rfl, Nat.reduceMul, Nat.reduceEqDiff, Go.Addr.add, ↓reduceIte] at hx434_0); have qi434 : (1 < x8_2.length) = True := eq_true (by omega); (try rw [show ((1 : Int)).toNat = 1 from rfl] at hx434_0); replace p434 := eq_true p434; replace q434 := eq_true q434)))
                    go_ret
                    exact ⟨by rfl, by exact bW⟩
                   ·rw [if_neg c92] at H
                    have c92b0 : (((rd_T39 l0 a1).f2) == 0) = false := beq_eq_false_iff_ne.mpr c92
                    have c92b1 : (((rd_T39 l0 a1).f2) != 0) = true := bne_iff_ne.mpr c92
                    obtain rfl := oI H
                    obtain ⟨hcz95_0, hcz95_1, hcz95_2, hcz95_3, hcz95_4, hcz95_5⟩ := cz6 BK409.out
                    obtain ⟨hfz95_0, hfz95_1, hfz95_2, hfz95_3, hfz95_4, hfz95_5⟩ := fz6 BK409.out
                    go_wp2_with (first | (go_at_call 30; (with_reducible refine (spec_l01In.calls ((rd_T39 l0 a1).f0) 3 12 false _ A58.out).mono ?_); rintro e w' ⟨rfl, ⟨nd, rfl⟩⟩; (try first | exact dq1 | exact dq2)) | (go_at_call 30; (with_reducible refine (spec_l01In.calls ((rd_T39 l0 a1).f0) 13 15 false _ A73.out).mono ?_); rintro e w' ⟨rfl, ⟨nd, rfl⟩⟩; (try first | exact dq1 | exact dq2); obtain ⟨Ao96, co96, eo96⟩ := Kd.R_slice HO_8.out; subst eo96; have p433 : 0 ≤ (0 : Int) := (by omega); have q433 : 0 < (x8_2.length : Int) := oD (by assumption); obtain ⟨ad433, e433, hx433_0⟩ := Kd.at_int (Kd.R_reads' HO_8.out).2.2 0 p433 q433; cases e433; have qi433 : (0 < x8_2.length) = True := eq_true (by omega); (try rw [tn0] at hx433_0); (try rw [Addr.add_zero'] at hx433_0); replace p433 := eq_true p433; replace q433 := eq_true q433; have p434 : 0 ≤ (1 : Int) := (by omega); have q434 : 1 < (x8_2.length : Int) := oD (by assumption); obtain ⟨ad434, e434, hx434_0⟩ := Kd.at_int (Kd.R_reads' HO_8.out).2.2 1 p434 q434; obtain rfl : ad433 = ad434 := (by injection e434); (try simp only [show (1 : Int).toNat = 1 from rfl, Nat.reduceMul, Nat.reduceEqDiff, Go.Addr.add, ↓reduceIte] at hx434_0); have qi434 : (1 < x8_2.length) = True := eq_true (by omega); (try rw [show ((1 : Int)).toNat = 1 from rfl] at hx434_0); replace p434 := eq_true p434; replace q434 := eq_true q434))
                    repeat (go_quiet (first | (go_at_call 30; (with_reducible refine (spec_l01In.calls ((rd_T39 l0 a1).f0) 3 12 false _ A58.out).mono ?_); rintro e w' ⟨rfl, ⟨nd, rfl⟩⟩; (try first | exact dq1 | exact dq2)) | (go_at_call 30; (with_reducible refine (spec_l01In.calls ((rd_T39 l0 a1).f0) 13 15 false _ A73.out).mono ?_); rintro e w' ⟨rfl, ⟨nd, rfl⟩⟩; (try first | exact dq1 | exact dq2); obtain ⟨Ao96, co96, eo96⟩ := Kd.R_slice HO_8.out; subst eo96; have p433 : 0 ≤ (0 : Int) := (by omega); have q433 : 0 < (x8_2.length : Int) := oD (by assumption); obtain ⟨ad433, e433, hx433_0⟩ := Kd.at_int (Kd.R_reads' HO_8.out).2.2 0 p433 q433; cases e433; have qi433 : (0 < x8_2.length) = True := eq_true (by omega); (try rw [tn0] at hx433_0); (try rw [Addr.add_zero'] at hx433_0); replace p433 := eq_true p433; replace q433 := eq_true q433; have p434 : 0 ≤ (1 : Int) := (by omega); have q434 : 1 < (x8_2.length : Int) := oD (by assumption); obtain ⟨ad434, e434, hx434_0⟩ := Kd.at_int (Kd.R_reads' HO_8.out).2.2 1 p434 q434; obtain rfl : ad433 = ad434 := (by injection e434); (try simp only [show (1 : Int).toNat = 1 from rfl, Nat.reduceMul, Nat.reduceEqDiff, Go.Addr.add, ↓reduceIte] at hx434_0); have qi434 : (1 < x8_2.length) = True := eq_true (by omega); (try rw [show ((1 : Int)).toNat = 1 from rfl] at hx434_0); replace p434 := eq_true p434; replace q434 := eq_true q434)); try go_wp2_with (first | (go_at_call 30; (with_reducible refine (spec_l01In.calls ((rd_T39 l0 a1).f0) 3 12 false _ A58.out).mono ?_); rintro e w' ⟨rfl, ⟨nd, rfl⟩⟩; (try first | exact dq1 | exact dq2)) | (go_at_call 30; (with_reducible refine (spec_l01In.calls ((rd_T39 l0 a1).f0) 13 15 false _ A73.out).mono ?_); rintro e w' ⟨rfl, ⟨nd, rfl⟩⟩; (try first | exact dq1 | exact dq2); obtain ⟨Ao96, co96, eo96⟩ := Kd.R_slice HO_8.out; subst eo96; have p433 : 0 ≤ (0 : Int) := (by omega); have q433 : 0 < (x8_2.length : Int) := oD (by assumption); obtain ⟨ad433, e433, hx433_0⟩ := Kd.at_int (Kd.R_reads' HO_8.out).2.2 0 p433 q433; cases e433; have qi433 : (0 < x8_2.length) = True := eq_true (by omega); (try rw [tn0] at hx433_0); (try rw [Addr.add_zero'] at hx433_0); replace p433 := eq_true p433; replace q433 := eq_true q433; have p434 : 0 ≤ (1 : Int) := (by omega); have q434 : 1 < (x8_2.length : Int) := oD (by assumption); obtain ⟨ad434, e434, hx434_0⟩ := Kd.at_int (Kd.R_reads' HO_8.out).2.2 1 p434 q434; obtain rfl : ad433 = ad434 := (by injection e434); (try simp only [show (1 : Int).toNat = 1 from rfl, Nat.reduceMul, Nat.reduceEqDiff, Go.Addr.add, ↓reduceIte] at hx434_0); have qi434 : (1 < x8_2.length) = True := eq_true (by omega); (try rw [show ((1 : Int)).toNat = 1 from rfl] at hx434_0); replace p434 := eq_true p434; replace q434 := eq_true q434)))
                    go_ret
                    exact ⟨by rfl, by exact bW⟩
                  ·rw [if_neg c91] at H
                   have c91b0 : ((wrap64 ((rd x8_2 0) + (rd x8_2 1))) == ((rd_T39 l0 a1).f1)) = false := beq_eq_false_iff_ne.mpr c91
                   have c91b1 : ((wrap64 ((rd x8_2 0) + (rd x8_2 1))) != ((rd_T39 l0 a1).f1)) = true := bne_iff_ne.mpr c91
                   obtain rfl := oI H
                   obtain ⟨hcz97_0, hcz97_1, hcz97_2, hcz97_3, hcz97_4, hcz97_5⟩ := cz6 BK409.out
                   obtain ⟨hfz97_0, hfz97_1, hfz97_2, hfz97_3, hfz97_4, hfz97_5⟩ := fz6 BK409.out
                   go_wp2_with (first | (go_at_call 30; (with_reducible refine (spec_l01In.calls ((rd_T39 l0 a1).f0) 3 12 false _ A58.out).mono ?_); rintro e w' ⟨rfl, ⟨nd, rfl⟩⟩; (try first | exact dq1 | exact dq2)) | (go_at_call 30; (with_reducible refine (spec_l01In.calls ((rd_T39 l0 a1).f0) 13 15 false _ A73.out).mono ?_); rintro e w' ⟨rfl, ⟨nd, rfl⟩⟩; (try first | exact dq1 | exact dq2); obtain ⟨Ao98, co98, eo98⟩ := Kd.R_slice HO_8.out; subst eo98; have p433 : 0 ≤ (0 : Int) := (by omega); have q433 : 0 < (x8_2.length : Int) := oD (by assumption); obtain ⟨ad433, e433, hx433_0⟩ := Kd.at_int (Kd.R_reads' HO_8.out).2.2 0 p433 q433; cases e433; have qi433 : (0 < x8_2.length) = True := eq_true (by omega); (try rw [tn0] at hx433_0); (try rw [Addr.add_zero'] at hx433_0); replace p433 := eq_true p433; replace q433 := eq_true q433; have p434 : 0 ≤ (1 : Int) := (by omega); have q434 : 1 < (x8_2.length : Int) := oD (by assumption); obtain ⟨ad434, e434, hx434_0⟩ := Kd.at_int (Kd.R_reads' HO_8.out).2.2 1 p434 q434; obtain rfl : ad433 = ad434 := (by injection e434); (try simp only [show (1 : Int).toNat = 1 from rfl, Nat.reduceMul, Nat.reduceEqDiff, Go.Addr.add, ↓reduceIte] at hx434_0); have qi434 : (1 < x8_2.length) = True := eq_true (by omega); (try rw [show ((1 : Int)).toNat = 1 from rfl] at hx434_0); replace p434 := eq_true p434; replace q434 := eq_true q434))
                   repeat (go_quiet (first | (go_at_call 30; (with_reducible refine (spec_l01In.calls ((rd_T39 l0 a1).f0) 3 12 false _ A58.out).mono ?_); rintro e w' ⟨rfl, ⟨nd, rfl⟩⟩; (try first | exact dq1 | exact dq2)) | (go_at_call 30; (with_reducible refine (spec_l01In.calls ((rd_T39 l0 a1).f0) 13 15 false _ A73.out).mono ?_); rintro e w' ⟨rfl, ⟨nd, rfl⟩⟩; (try first | exact dq1 | exact dq2); obtain ⟨Ao98, co98, eo98⟩ := Kd.R_slice HO_8.out; subst eo98; have p433 : 0 ≤ (0 : Int) := (by omega); have q433 : 0 < (x8_2.length : Int) := oD (by assumption); obtain ⟨ad433, e433, hx433_0⟩ := Kd.at_int (Kd.R_reads' HO_8.out).2.2 0 p433 q433; cases e433; have qi433 : (0 < x8_2.length) = True := eq_true (by omega); (try rw [tn0] at hx433_0); (try rw [Addr.add_zero'] at hx433_0); replace p433 := eq_true p433; replace q433 := eq_true q433; have p434 : 0 ≤ (1 : Int) := (by omega); have q434 : 1 < (x8_2.length : Int) := oD (by assumption); obtain ⟨ad434, e434, hx434_0⟩ := Kd.at_int (Kd.R_reads' HO_8.out).2.2 1 p434 q434; obtain rfl : ad433 = ad434 := (by injection e434); (try simp only [show (1 : Int).toNat = 1 from rfl, Nat.reduceMul, Nat.reduceEqDiff, Go.Addr.add, ↓reduceIte] at hx434_0); have qi434 : (1 < x8_2.length) = True := eq_true (by omega); (try rw [show ((1 : Int)).toNat = 1 from rfl] at hx434_0); replace p434 := eq_true p434; replace q434 := eq_true q434)); try go_wp2_with (first | (go_at_call 30; (with_reducible refine (spec_l01In.calls ((rd_T39 l0 a1).f0) 3 12 false _ A58.out).mono ?_); rintro e w' ⟨rfl, ⟨nd, rfl⟩⟩; (try first | exact dq1 | exact dq2)) | (go_at_call 30; (with_reducible refine (spec_l01In.calls ((rd_T39 l0 a1).f0) 13 15 false _ A73.out).mono ?_); rintro e w' ⟨rfl, ⟨nd, rfl⟩⟩; (try first | exact dq1 | exact dq2); obtain ⟨Ao98, co98, eo98⟩ := Kd.R_slice HO_8.out; subst eo98; have p433 : 0 ≤ (0 : Int) := (by omega); have q433 : 0 < (x8_2.length : Int) := oD (by assumption); obtain ⟨ad433, e433, hx433_0⟩ := Kd.at_int (Kd.R_reads' HO_8.out).2.2 0 p433 q433; cases e433; have qi433 : (0 < x8_2.length) = True := eq_true (by omega); (try rw [tn0] at hx433_0); (try rw [Addr.add_zero'] at hx433_0); replace p433 := eq_true p433; replace q433 := eq_true q433; have p434 : 0 ≤ (1 : Int) := (by omega); have q434 : 1 < (x8_2.length : Int) := oD (by assumption); obtain ⟨ad434, e434, hx434_0⟩ := Kd.at_int (Kd.R_reads' HO_8.out).2.2 1 p434 q434; obtain rfl : ad433 = ad434 := (by injection e434); (try simp only [show (1 : Int).toNat = 1 from rfl, Nat.reduceMul, Nat.reduceEqDiff, Go.Addr.add, ↓reduceIte] at hx434_0); have qi434 : (1 < x8_2.length) = True := eq_true (by omega); (try rw [show ((1 : Int)).toNat = 1 from rfl] at hx434_0); replace p434 := eq_true p434; replace q434 := eq_true q434)))
                   go_ret
                   exact ⟨by rfl, by exact bW⟩
                 ·rw [if_neg c90] at H
                  exact absurd H (by simp)
                ·rw [if_neg c89] at H
                 exact absurd H (by simp)
               ·rw [if_neg c88] at H
                have c88b0 : (((rd_T39 l0 a1).f0) == 16) = false := beq_eq_false_iff_ne.mpr c88
                have c88b1 : (((rd_T39 l0 a1).f0) != 16) = true := bne_iff_ne.mpr c88
                by_cases c99 : ((rd_T39 l0 a1).f0) = 17
                ·rw [if_pos c99] at H
                 have c99b0 : (((rd_T39 l0 a1).f0) == 17) = true := beq_iff_eq.mpr c99
                 have c99b1 : (((rd_T39 l0 a1).f0) != 17) = false := bne_eq_false_iff_eq.mpr c99
                 clear c99
                 by_cases c100 : ((rd_T39 l0 a1).f2) ≥ 0
                 ·rw [if_pos c100] at H
                  have c100b0 : decide (0 ≤ ((rd_T39 l0 a1).f2)) = true := decide_eq_true c100
                  clear c100
                  by_cases c101 : 0 < (x8_2.length : Int)
                  ·rw [if_pos c101] at H
                   have c101b0 : decide (0 < (x8_2.length : Int)) = true := decide_eq_true c101
                   have c101b1 : decide (0 < x8_2.length) = true := decide_eq_true (by omega)
                   have c101p : 0 < x8_2.length := by omega
                   clear c101
                   by_cases c102 : ((rd_T39 l0 a1).f2) ≤ (wrap64 ((rd x8_2 0) - ((rd_T39 l0 a1).f1)))
                   ·rw [if_pos c102] at H
                    have c102b0 : decide (((rd_T39 l0 a1).f2) ≤ (wrap64 ((rd x8_2 0) - ((rd_T39 l0 a1).f1)))) = true := decide_eq_true c102
                    clear c102
                    by_cases c103 : ((rd_T39 l0 a1).f4) = 0
                    ·rw [if_pos c103] at H
                     have c103b0 : (((rd_T39 l0 a1).f4) == 0) = true := beq_iff_eq.mpr c103
                     have c103b1 : (((rd_T39 l0 a1).f4) != 0) = false := bne_eq_false_iff_eq.mpr c103
                     clear c103
                     obtain rfl := oI H
                     obtain ⟨hcz104_0, hcz104_1, hcz104_2, hcz104_3, hcz104_4, hcz104_5⟩ := cz6 BK409.out
                     obtain ⟨hfz104_0, hfz104_1, hfz104_2, hfz104_3, hfz104_4, hfz104_5⟩ := fz6 BK409.out
                     go_wp2_with (first | (go_at_call 30; (with_reducible refine (spec_l01In.calls ((rd_T39 l0 a1).f0) 3 12 false _ A58.out).mono ?_); rintro e w' ⟨rfl, ⟨nd, rfl⟩⟩; (try first | exact dq1 | exact dq2)) | (go_at_call 30; (with_reducible refine (spec_l01In.calls ((rd_T39 l0 a1).f0) 13 15 false _ A73.out).mono ?_); rintro e w' ⟨rfl, ⟨nd, rfl⟩⟩; (try first | exact dq1 | exact dq2); obtain ⟨Ao105, co105, eo105⟩ := Kd.R_slice HO_8.out; subst eo105; have p435 : 0 ≤ (0 : Int) := (by omega); have q435 : 0 < (x8_2.length : Int) := oD (by assumption); obtain ⟨ad435, e435, hx435_0⟩ := Kd.at_int (Kd.R_reads' HO_8.out).2.2 0 p435 q435; cases e435; have qi435 : (0 < x8_2.length) = True := eq_true (by omega); (try rw [tn0] at hx435_0); (try rw [Addr.add_zero'] at hx435_0); replace p435 := eq_true p435; replace q435 := eq_true q435))
                     repeat (go_quiet (first | (go_at_call 30; (with_reducible refine (spec_l01In.calls ((rd_T39 l0 a1).f0) 3 12 false _ A58.out).mono ?_); rintro e w' ⟨rfl, ⟨nd, rfl⟩⟩; (try first | exact dq1 | exact dq2)) | (go_at_call 30; (with_reducible refine (spec_l01In.calls ((rd_T39 l0 a1).f0) 13 15 false _ A73.out).mono ?_); rintro e w' ⟨rfl, ⟨nd, rfl⟩⟩; (try first | exact dq1 | exact dq2); obtain ⟨Ao105, co105, eo105⟩ := Kd.R_slice HO_8.out; subst eo105; have p435 : 0 ≤ (0 : Int) := (by omega); have q435 : 0 < (x8_2.length : Int) := oD (by assumption); obtain ⟨ad435, e435, hx435_0⟩ := Kd.at_int (Kd.R_reads' HO_8.out).2.2 0 p435 q435; cases e435; have qi435 : (0 < x8_2.length) = True := eq_true (by omega); (try rw [tn0] at hx435_0); (try rw [Addr.add_zero'] at hx435_0); replace p435 := eq_true p435; replace q435 := eq_true q435)); try go_wp2_with (first | (go_at_call 30; (with_reducible refine (spec_l01In.calls ((rd_T39 l0 a1).f0) 3 12 false _ A58.out).mono ?_); rintro e w' ⟨rfl, ⟨nd, rfl⟩⟩; (try first | exact dq1 | exact dq2)) | (go_at_call 30; (with_reducible refine (spec_l01In.calls ((rd_T39 l0 a1).f0) 13 15 false _ A73.out).mono ?_); rintro e w' ⟨rfl, ⟨nd, rfl⟩⟩; (try first | exact dq1 | exact dq2); obtain ⟨Ao105, co105, eo105⟩ := Kd.R_slice HO_8.out; subst eo105; have p435 : 0 ≤ (0 : Int) := (by omega); have q435 : 0 < (x8_2.length : Int) := oD (by assumption); obtain ⟨ad435, e435, hx435_0⟩ := Kd.at_int (Kd.R_reads' HO_8.out).2.2 0 p435 q435; cases e435; have qi435 : (0 < x8_2.length) = True := eq_true (by omega); (try rw [tn0] at hx435_0); (try rw [Addr.add_zero'] at hx435_0); replace p435 := eq_true p435; replace q435 := eq_true q435)))
                     go_ret
                     exact ⟨by rfl, by exact bW⟩
                    ·rw [if_neg c103] at H
                     have c103b0 : (((rd_T39 l0 a1).f4) == 0) = false := beq_eq_false_iff_ne.mpr c103
                     have c103b1 : (((rd_T39 l0 a1).f4) != 0) = true := bne_iff_ne.mpr c103
                     obtain rfl := oI H
                     obtain ⟨hcz106_0, hcz106_1, hcz106_2, hcz106_3, hcz106_4, hcz106_5⟩ := cz6 BK409.out
                     obtain ⟨hfz106_0, hfz106_1, hfz106_2, hfz106_3, hfz106_4, hfz106_5⟩ := fz6 BK409.out
                     go_wp2_with (first | (go_at_call 30; (with_reducible refine (spec_l01In.calls ((rd_T39 l0 a1).f0) 3 12 false _ A58.out).mono ?_); rintro e w' ⟨rfl, ⟨nd, rfl⟩⟩; (try first | exact dq1 | exact dq2)) | (go_at_call 30; (with_reducible refine (spec_l01In.calls ((rd_T39 l0 a1).f0) 13 15 false _ A73.out).mono ?_); rintro e w' ⟨rfl, ⟨nd, rfl⟩⟩; (try first | exact dq1 | exact dq2); obtain ⟨Ao107, co107, eo107⟩ := Kd.R_slice HO_8.out; subst eo107; have p435 : 0 ≤ (0 : Int) := (by omega); have q435 : 0 < (x8_2.length : Int) := oD (by assumption); obtain ⟨ad435, e435, hx435_0⟩ := Kd.at_int (Kd.R_reads' HO_8.out).2.2 0 p435 q435; cases e435; have qi435 : (0 < x8_2.length) = True := eq_true (by omega); (try rw [tn0] at hx435_0); (try rw [Addr.add_zero'] at hx435_0); replace p435 := eq_true p435; replace q435 := eq_true q435))
                     repeat (go_quiet (first | (go_at_call 30; (with_reducible refine (spec_l01In.calls ((rd_T39 l0 a1).f0) 3 12 false _ A58.out).mono ?_); rintro e w' ⟨rfl, ⟨nd, rfl⟩⟩; (try first | exact dq1 | exact dq2)) | (go_at_call 30; (with_reducible refine (spec_l01In.calls ((rd_T39 l0 a1).f0) 13 15 false _ A73.out).mono ?_); rintro e w' ⟨rfl, ⟨nd, rfl⟩⟩; (try first | exact dq1 | exact dq2); obtain ⟨Ao107, co107, eo107⟩ := Kd.R_slice HO_8.out; subst eo107; have p435 : 0 ≤ (0 : Int) := (by omega); have q435 : 0 < (x8_2.length : Int) := oD (by assumption); obtain ⟨ad435, e435, hx435_0⟩ := Kd.at_int (Kd.R_reads' HO_8.out).2.2 0 p435 q435; cases e435; have qi435 : (0 < x8_2.length) = True := eq_true (by omega); (try rw [tn0] at hx435_0); (try rw [Addr.add_zero'] at hx435_0); replace p435 := eq_true p435; replace q435 := eq_true q435)); try go_wp2_with (first | (go_at_call 30; (with_reducible refine (spec_l01In.calls ((rd_T39 l0 a1).f0) 3 12 false _ A58.out).mono ?_); rintro e w' ⟨rfl, ⟨nd, rfl⟩⟩; (try first | exact dq1 | exact dq2)) | (go_at_call 30; (with_reducible refine (spec_l01In.calls ((rd_T39 l0 a1).f0) 13 15 false _ A73.out).mono ?_); rintro e w' ⟨rfl, ⟨nd, rfl⟩⟩; (try first | exact dq1 | exact dq2); obtain ⟨Ao107, co107, eo107⟩ := Kd.R_slice HO_8.out; subst eo107; have p435 : 0 ≤ (0 : Int) := (by omega); have q435 : 0 < (x8_2.length : Int) := oD (by assumption); obtain ⟨ad435, e435, hx435_0⟩ := Kd.at_int (Kd.R_reads' HO_8.out).2.2 0 p435 q435; cases e435; have qi435 : (0 < x8_2.length) = True := eq_true (by omega); (try rw [tn0] at hx435_0); (try rw [Addr.add_zero'] at hx435_0); replace p435 := eq_true p435; replace q435 := eq_true q435)))
                     go_ret
                     exact ⟨by rfl, by exact bW⟩
                   ·rw [if_neg c102] at H
                    have c102b0 : decide (((rd_T39 l0 a1).f2) ≤ (wrap64 ((rd x8_2 0) - ((rd_T39 l0 a1).f1)))) = false := decide_eq_false c102
                    clear c102
                    obtain rfl := oI H
                    obtain ⟨hcz108_0, hcz108_1, hcz108_2, hcz108_3, hcz108_4, hcz108_5⟩ := cz6 BK409.out
                    obtain ⟨hfz108_0, hfz108_1, hfz108_2, hfz108_3, hfz108_4, hfz108_5⟩ := fz6 BK409.out
                    go_wp2_with (first | (go_at_call 30; (with_reducible refine (spec_l01In.calls ((rd_T39 l0 a1).f0) 3 12 false _ A58.out).mono ?_); rintro e w' ⟨rfl, ⟨nd, rfl⟩⟩; (try first | exact dq1 | exact dq2)) | (go_at_call 30; (with_reducible refine (spec_l01In.calls ((rd_T39 l0 a1).f0) 13 15 false _ A73.out).mono ?_); rintro e w' ⟨rfl, ⟨nd, rfl⟩⟩; (try first | exact dq1 | exact dq2); obtain ⟨Ao109, co109, eo109⟩ := Kd.R_slice HO_8.out; subst eo109; have p435 : 0 ≤ (0 : Int) := (by omega); have q435 : 0 < (x8_2.length : Int) := oD (by assumption); obtain ⟨ad435, e435, hx435_0⟩ := Kd.at_int (Kd.R_reads' HO_8.out).2.2 0 p435 q435; cases e435; have qi435 : (0 < x8_2.length) = True := eq_true (by omega); (try rw [tn0] at hx435_0); (try rw [Addr.add_zero'] at hx435_0); replace p435 := eq_true p435; replace q435 := eq_true q435))
                    repeat (go_quiet (first | (go_at_call 30; (with_reducible refine (spec_l01In.calls ((rd_T39 l0 a1).f0) 3 12 false _ A58.out).mono ?_); rintro e w' ⟨rfl, ⟨nd, rfl⟩⟩; (try first | exact dq1 | exact dq2)) | (go_at_call 30; (with_reducible refine (spec_l01In.calls ((rd_T39 l0 a1).f0) 13 15 false _ A73.out).mono ?_); rintro e w' ⟨rfl, ⟨nd, rfl⟩⟩; (try first | exact dq1 | exact dq2); obtain ⟨Ao109, co109, eo109⟩ := Kd.R_slice HO_8.out; subst eo109; have p435 : 0 ≤ (0 : Int) := (by omega); have q435 : 0 < (x8_2.length : Int) := oD (by assumption); obtain ⟨ad435, e435, hx435_0⟩ := Kd.at_int (Kd.R_reads' HO_8.out).2.2 0 p435 q435; cases e435; have qi435 : (0 < x8_2.length) = True := eq_true (by omega); (try rw [tn0] at hx435_0); (try rw [Addr.add_zero'] at hx435_0); replace p435 := eq_true p435; replace q435 := eq_true q435)); try go_wp2_with (first | (go_at_call 30; (with_reducible refine (spec_l01In.calls ((rd_T39 l0 a1).f0) 3 12 false _ A58.out).mono ?_); rintro e w' ⟨rfl, ⟨nd, rfl⟩⟩; (try first | exact dq1 | exact dq2)) | (go_at_call 30; (with_reducible refine (spec_l01In.calls ((rd_T39 l0 a1).f0) 13 15 false _ A73.out).mono ?_); rintro e w' ⟨rfl, ⟨nd, rfl⟩⟩; (try first | exact dq1 | exact dq2); obtain ⟨Ao109, co109, eo109⟩ := Kd.R_slice HO_8.out; subst eo109; have p435 : 0 ≤ (0 : Int) := (by omega); have q435 : 0 < (x8_2.length : Int) := oD (by assumption); obtain ⟨ad435, e435, hx435_0⟩ := Kd.at_int (Kd.R_reads' HO_8.out).2.2 0 p435 q435; cases e435; have qi435 : (0 < x8_2.length) = True := eq_true (by omega); (try rw [tn0] at hx435_0); (try rw [Addr.add_zero'] at hx435_0); replace p435 := eq_true p435; replace q435 := eq_true q435)))
                    go_ret
                    exact ⟨by rfl, by exact bW⟩
                  ·rw [if_neg c101] at H
                   exact absurd H (by simp)
                 ·rw [if_neg c100] at H
                  have c100b0 : decide (0 ≤ ((rd_T39 l0 a1).f2)) = false := decide_eq_false c100
                  clear c100
                  obtain rfl := oI H
                  obtain ⟨hcz110_0, hcz110_1, hcz110_2, hcz110_3, hcz110_4, hcz110_5⟩ := cz6 BK409.out
                  obtain ⟨hfz110_0, hfz110_1, hfz110_2, hfz110_3, hfz110_4, hfz110_5⟩ := fz6 BK409.out
                  go_wp2_with (first | (go_at_call 30; (with_reducible refine (spec_l01In.calls ((rd_T39 l0 a1).f0) 3 12 false _ A58.out).mono ?_); rintro e w' ⟨rfl, ⟨nd, rfl⟩⟩; (try first | exact dq1 | exact dq2)) | (go_at_call 30; (with_reducible refine (spec_l01In.calls ((rd_T39 l0 a1).f0) 13 15 false _ A73.out).mono ?_); rintro e w' ⟨rfl, ⟨nd, rfl⟩⟩; (try first | exact dq1 | exact dq2)))
                  repeat (go_quiet (first | (go_at_call 30; (with_reducible refine (spec_l01In.calls ((rd_T39 l0 a1).f0) 3 12 false _ A58.out).mono ?_); rintro e w' ⟨rfl, ⟨nd, rfl⟩⟩; (try first | exact dq1 | exact dq2)) | (go_at_call 30; (with_reducible refine (spec_l01In.calls ((rd_T39 l0 a1).f0) 13 15 false _ A73.out).mono ?_); rintro e w' ⟨rfl, ⟨nd, rfl⟩⟩; (try first | exact dq1 | exact dq2))); try go_wp2_with (first | (go_at_call 30; (with_reducible refine (spec_l01In.calls ((rd_T39 l0 a1).f0) 3 12 false _ A58.out).mono ?_); rintro e w' ⟨rfl, ⟨nd, rfl⟩⟩; (try first | exact dq1 | exact dq2)) | (go_at_call 30; (with_reducible refine (spec_l01In.calls ((rd_T39 l0 a1).f0) 13 15 false _ A73.out).mono ?_); rintro e w' ⟨rfl, ⟨nd, rfl⟩⟩; (try first | exact dq1 | exact dq2))))
                  go_ret
                  exact ⟨by rfl, by exact bW⟩
                ·rw [if_neg c99] at H
                 have c99b0 : (((rd_T39 l0 a1).f0) == 17) = false := beq_eq_false_iff_ne.mpr c99
                 have c99b1 : (((rd_T39 l0 a1).f0) != 17) = true := bne_iff_ne.mpr c99
                 by_cases c111 : ((rd_T39 l0 a1).f0) = 18
                 ·rw [if_pos c111] at H
                  have c111b0 : (((rd_T39 l0 a1).f0) == 18) = true := beq_iff_eq.mpr c111
                  have c111b1 : (((rd_T39 l0 a1).f0) != 18) = false := bne_eq_false_iff_eq.mpr c111
                  clear c111
                  by_cases c112 : 0 < (x8_2.length : Int)
                  ·rw [if_pos c112] at H
                   have c112b0 : decide (0 < (x8_2.length : Int)) = true := decide_eq_true c112
                   have c112b1 : decide (0 < x8_2.length) = true := decide_eq_true (by omega)
                   have c112p : 0 < x8_2.length := by omega
                   clear c112
                   by_cases c113 : (rd x8_2 0) = 1
                   ·rw [if_pos c113] at H
                    have c113b0 : ((rd x8_2 0) == 1) = true := beq_iff_eq.mpr c113
                    have c113b1 : ((rd x8_2 0) != 1) = false := bne_eq_false_iff_eq.mpr c113
                    clear c113
                    by_cases c114 : 1 < (x8_2.length : Int)
                    ·rw [if_pos c114] at H
                     have c114b0 : decide (1 < (x8_2.length : Int)) = true := decide_eq_true c114
                     have c114b1 : decide (1 < x8_2.length) = true := decide_eq_true (by omega)
                     clear c114
                     by_cases c115 : (rd x8_2 1) = ((rd_T39 l0 a1).f1)
                     ·rw [if_pos c115] at H
                      have c115b0 : ((rd x8_2 1) == ((rd_T39 l0 a1).f1)) = true := beq_iff_eq.mpr c115
                      have c115b1 : ((rd x8_2 1) != ((rd_T39 l0 a1).f1)) = false := bne_eq_false_iff_eq.mpr c115
                      clear c115
                      by_cases c116 : 2 < (x8_2.length : Int)
                      ·rw [if_pos c116] at H
                       have c116b0 : decide (2 < (x8_2.length : Int)) = true := decide_eq_true c116
                       have c116b1 : decide (2 < x8_2.length) = true := decide_eq_true (by omega)
                       clear c116
                       by_cases c117 : (rd x8_2 2) = ((rd_T39 l0 a1).f1)
                       ·rw [if_pos c117] at H
                        have c117b0 : ((rd x8_2 2) == ((rd_T39 l0 a1).f1)) = true := beq_iff_eq.mpr c117
                        have c117b1 : ((rd x8_2 2) != ((rd_T39 l0 a1).f1)) = false := bne_eq_false_iff_eq.mpr c117
                        clear c117
                        obtain rfl := oI H
                        obtain ⟨hcz118_0, hcz118_1, hcz118_2, hcz118_3, hcz118_4, hcz118_5⟩ := cz6 BK409.out
                        obtain ⟨hfz118_0, hfz118_1, hfz118_2, hfz118_3, hfz118_4, hfz118_5⟩ := fz6 BK409.out
                        go_wp2_with (first | (go_at_call 30; (with_reducible refine (spec_l01In.calls ((rd_T39 l0 a1).f0) 3 12 false _ A58.out).mono ?_); rintro e w' ⟨rfl, ⟨nd, rfl⟩⟩; (try first | exact dq1 | exact dq2)) | (go_at_call 30; (with_reducible refine (spec_l01In.calls ((rd_T39 l0 a1).f0) 13 15 false _ A73.out).mono ?_); rintro e w' ⟨rfl, ⟨nd, rfl⟩⟩; (try first | exact dq1 | exact dq2); obtain ⟨Ao119, co119, eo119⟩ := Kd.R_slice HO_8.out; subst eo119; have p436 : 0 ≤ (0 : Int) := (by omega); have q436 : 0 < (x8_2.length : Int) := oD (by assumption); obtain ⟨ad436, e436, hx436_0⟩ := Kd.at_int (Kd.R_reads' HO_8.out).2.2 0 p436 q436; cases e436; have qi436 : (0 < x8_2.length) = True := eq_true (by omega); (try rw [tn0] at hx436_0); (try rw [Addr.add_zero'] at hx436_0); replace p436 := eq_true p436; replace q436 := eq_true q436; have p437 : 0 ≤ (1 : Int) := (by omega); have q437 : 1 < (x8_2.length : Int) := oD (by assumption); obtain ⟨ad437, e437, hx437_0⟩ := Kd.at_int (Kd.R_reads' HO_8.out).2.2 1 p437 q437; obtain rfl : ad436 = ad437 := (by injection e437); (try simp only [show (1 : Int).toNat = 1 from rfl, Nat.reduceMul, Nat.reduceEqDiff, Go.Addr.add, ↓reduceIte] at hx437_0); have qi437 : (1 < x8_2.length) = True := eq_true (by omega); (try rw [show ((1 : Int)).toNat = 1 from rfl] at hx437_0); replace p437 := eq_true p437; replace q437 := eq_true q437; have p438 : 0 ≤ (2 : Int) := (by omega); have q438 : 2 < (x8_2.length : Int) := oD (by assumption); obtain ⟨ad438, e438, hx438_0⟩ := Kd.at_int (Kd.R_reads' HO_8.out).2.2 2 p438 q438; obtain rfl : ad436 = ad438 := (by injection e438); (try simp only [show (2 : Int).toNat = 2 from rfl, Nat.reduceMul, Nat.reduceEqDiff, Go.Addr.add, ↓reduceIte] at hx438_0); have qi438 : (2 < x8_2.length) = True := eq_true (by omega); (try rw [show ((2 : Int)).toNat = 2 from rfl] at hx438_0); replace p438 := eq_true p438; replace q438 := eq_true q438))
                        repeat (go_quiet (first | (go_at_call 30; (with_reducible refine (spec_l01In.calls ((rd_T39 l0 a1).f0) 3 12 false _ A58.out).mono ?_); rintro e w' ⟨rfl, ⟨nd, rfl⟩⟩; (try first | exact dq1 | exact dq2)) | (go_at_call 30; (with_reducible refine (spec_l01In.calls ((rd_T39 l0 a1).f0) 13 15 false _ A73.out).mono ?_); rintro e w' ⟨rfl, ⟨nd, rfl⟩⟩; (try first | exact dq1 | exact dq2); obtain ⟨Ao119, co119, eo119⟩ := Kd.R_slice HO_8.out; subst eo119; have p436 : 0 ≤ (0 : Int) := (by omega); have q436 : 0 < (x8_2.length : Int) := oD (by assumption); obtain ⟨ad436, e436, hx436_0⟩ := Kd.at_int (Kd.R_reads' HO_8.out).2.2 0 p436 q436; cases e436; have qi436 : (0 < x8_2.length) = True := eq_true (by omega); (try rw [tn0] at hx436_0); (try rw [Addr.add_zero'] at hx436_0); replace p436 := eq_true p436; replace q436 := eq_true q436; have p437 : 0 ≤ (1 : Int) := (by omega); have q437 : 1 < (x8_2.length : Int) := oD (by assumption); obtain ⟨ad437, e437, hx437_0⟩ := Kd.at_int (Kd.R_reads' HO_8.out).2.2 1 p437 q437; obtain rfl : ad436 = ad437 := (by injection e437); (try simp only [show (1 : Int).toNat = 1 from rfl, Nat.reduceMul, Nat.reduceEqDiff, Go.Addr.add, ↓reduceIte] at hx437_0); have qi437 : (1 < x8_2.length) = True := eq_true (by omega); (try rw [show ((1 : Int)).toNat = 1 from rfl] at hx437_0); replace p437 := eq_true p437; replace q437 := eq_true q437; have p438 : 0 ≤ (2 : Int) := (by omega); have q438 : 2 < (x8_2.length : Int) := oD (by assumption); obtain ⟨ad438, e438, hx438_0⟩ := Kd.at_int (Kd.R_reads' HO_8.out).2.2 2 p438 q438; obtain rfl : ad436 = ad438 := (by injection e438); (try simp only [show (2 : Int).toNat = 2 from rfl, Nat.reduceMul, Nat.reduceEqDiff, Go.Addr.add, ↓reduceIte] at hx438_0); have qi438 : (2 < x8_2.length) = True := eq_true (by omega); (try rw [show ((2 : Int)).toNat = 2 from rfl] at hx438_0); replace p438 := eq_true p438; replace q438 := eq_true q438)); try go_wp2_with (first | (go_at_call 30; (with_reducible refine (spec_l01In.calls ((rd_T39 l0 a1).f0) 3 12 false _ A58.out).mono ?_); rintro e w' ⟨rfl, ⟨nd, rfl⟩⟩; (try first | exact dq1 | exact dq2)) | (go_at_call 30; (with_reducible refine (spec_l01In.calls ((rd_T39 l0 a1).f0) 13 15 false _ A73.out).mono ?_); rintro e w' ⟨rfl, ⟨nd, rfl⟩⟩; (try first | exact dq1 | exact dq2); obtain ⟨Ao119, co119, eo119⟩ := Kd.R_slice HO_8.out; subst eo119; have p436 : 0 ≤ (0 : Int) := (by omega); have q436 : 0 < (x8_2.length : Int) := oD (by assumption); obtain ⟨ad436, e436, hx436_0⟩ := Kd.at_int (Kd.R_reads' HO_8.out).2.2 0 p436 q436; cases e436; have qi436 : (0 < x8_2.length) = True := eq_true (by omega); (try rw [tn0] at hx436_0); (try rw [Addr.add_zero'] at hx436_0); replace p436 := eq_true p436; replace q436 := eq_true q436; have p437 : 0 ≤ (1 : Int) := (by omega); have q437 : 1 < (x8_2.length : Int) := oD (by assumption); obtain ⟨ad437, e437, hx437_0⟩ := Kd.at_int (Kd.R_reads' HO_8.out).2.2 1 p437 q437; obtain rfl : ad436 = ad437 := (by injection e437); (try simp only [show (1 : Int).toNat = 1 from rfl, Nat.reduceMul, Nat.reduceEqDiff, Go.Addr.add, ↓reduceIte] at hx437_0); have qi437 : (1 < x8_2.length) = True := eq_true (by omega); (try rw [show ((1 : Int)).toNat = 1 from rfl] at hx437_0); replace p437 := eq_true p437; replace q437 := eq_true q437; have p438 : 0 ≤ (2 : Int) := (by omega); have q438 : 2 < (x8_2.length : Int) := oD (by assumption); obtain ⟨ad438, e438, hx438_0⟩ := Kd.at_int (Kd.R_reads' HO_8.out).2.2 2 p438 q438; obtain rfl : ad436 = ad438 := (by injection e438); (try simp only [show (2 : Int).toNat = 2 from rfl, Nat.reduceMul, Nat.reduceEqDiff, Go.Addr.add, ↓reduceIte] at hx438_0); have qi438 : (2 < x8_2.length) = True := eq_true (by omega); (try rw [show ((2 : Int)).toNat = 2 from rfl] at hx438_0); replace p438 := eq_true p438; replace q438 := eq_true q438)))
                        go_ret
                        exact ⟨by rfl, by exact bW⟩
                       ·rw [if_neg c117] at H
                        have c117b0 : ((rd x8_2 2) == ((rd_T39 l0 a1).f1)) = false := beq_eq_false_iff_ne.mpr c117
                        have c117b1 : ((rd x8_2 2) != ((rd_T39 l0 a1).f1)) = true := bne_iff_ne.mpr c117
                        obtain rfl := oI H
                        obtain ⟨hcz120_0, hcz120_1, hcz120_2, hcz120_3, hcz120_4, hcz120_5⟩ := cz6 BK409.out
                        obtain ⟨hfz120_0, hfz120_1, hfz120_2, hfz120_3, hfz120_4, hfz120_5⟩ := fz6 BK409.out
                        go_wp2_with (first | (go_at_call 30; (with_reducible refine (spec_l01In.calls ((rd_T39 l0 a1).f0) 3 12 false _ A58.out).mono ?_); rintro e w' ⟨rfl, ⟨nd, rfl⟩⟩; (try first | exact dq1 | exact dq2)) | (go_at_call 30; (with_reducible refine (spec_l01In.calls ((rd_T39 l0 a1).f0) 13 15 false _ A73.out).mono ?_); rintro e w' ⟨rfl, ⟨nd, rfl⟩⟩; (try first | exact dq1 | exact dq2); obtain ⟨Ao121, co121, eo121⟩ := Kd.R_slice HO_8.out; subst eo121; have p436 : 0 ≤ (0 : Int) := (by omega); have q436 : 0 < (x8_2.length : Int) := oD (by assumption); obtain ⟨ad436, e436, hx436_0⟩ := Kd.at_int (Kd.R_reads' HO_8.out).2.2 0 p436 q436; cases e436; have qi436 : (0 < x8_2.length) = True := eq_true (by omega); (try rw [tn0] at hx436_0); (try rw [Addr.add_zero'] at hx436_0); replace p436 := eq_true p436; replace q436 := eq_true q436; have p437 : 0 ≤ (1 : Int) := (by omega); have q437 : 1 < (x8_2.length : Int) := oD (by assumption); obtain ⟨ad437, e437, hx437_0⟩ := Kd.at_int (Kd.R_reads' HO_8.out).2.2 1 p437 q437; obtain rfl : ad436 = ad437 := (by injection e437); (try simp only [show (1 : Int).toNat = 1 from rfl, Nat.reduceMul, Nat.reduceEqDiff, Go.Addr.add, ↓reduceIte] at hx437_0); have qi437 : (1 < x8_2.length) = True := eq_true (by omega); (try rw [show ((1 : Int)).toNat = 1 from rfl] at hx437_0); replace p437 := eq_true p437; replace q437 := eq_true q437; have p438 : 0 ≤ (2 : Int) := (by omega); have q438 : 2 < (x8_2.length : Int) := oD (by assumption); obtain ⟨ad438, e438, hx438_0⟩ := Kd.at_int (Kd.R_reads' HO_8.out).2.2 2 p438 q438; obtain rfl : ad436 = ad438 := (by injection e438); (try simp only [show (2 : Int).toNat = 2 from rfl, Nat.reduceMul, Nat.reduceEqDiff, Go.Addr.add, ↓reduceIte] at hx438_0); have qi438 : (2 < x8_2.length) = True := eq_true (by omega); (try rw [show ((2 : Int)).toNat = 2 from rfl] at hx438_0); replace p438 := eq_true p438; replace q438 := eq_true q438))
                        repeat (go_quiet (first | (go_at_call 30; (with_reducible refine (spec_l01In.calls ((rd_T39 l0 a1).f0) 3 12 false _ A58.out).mono ?_); rintro e w' ⟨rfl, ⟨nd, rfl⟩⟩; (try first | exact dq1 | exact dq2)) | (go_at_call 30; (with_reducible refine (spec_l01In.calls ((rd_T39 l0 a1).f0) 13 15 false _ A73.out).mono ?_); rintro e w' ⟨rfl, ⟨nd, rfl⟩⟩; (try first | exact dq1 | exact dq2); obtain ⟨Ao121, co121, eo121⟩ := Kd.R_slice HO_8.out; subst eo121; have p436 : 0 ≤ (0 : Int) := (by omega); have q436 : 0 < (x8_2.length : Int) := oD (by assumption); obtain ⟨ad436, e436, hx436_0⟩ := Kd.at_int (Kd.R_reads' HO_8.out).2.2 0 p436 q436; cases e436; have qi436 : (0 < x8_2.length) = True := eq_true (by omega); (try rw [tn0] at hx436_0); (try rw [Addr.add_zero'] at hx436_0); replace p436 := eq_true p436; replace q436 := eq_true q436; have p437 : 0 ≤ (1 : Int) := (by omega); have q437 : 1 < (x8_2.length : Int) := oD (by assumption); obtain ⟨ad437, e437, hx437_0⟩ := Kd.at_int (Kd.R_reads' HO_8.out).2.2 1 p437 q437; obtain rfl : ad436 = ad437 := (by injection e437); (try simp only [show (1 : Int).toNat = 1 from rfl, Nat.reduceMul, Nat.reduceEqDiff, Go.Addr.add, ↓reduceIte] at hx437_0); have qi437 : (1 < x8_2.length) = True := eq_true (by omega); (try rw [show ((1 : Int)).toNat = 1 from rfl] at hx437_0); replace p437 := eq_true p437; replace q437 := eq_true q437; have p438 : 0 ≤ (2 : Int) := (by omega); have q438 : 2 < (x8_2.length : Int) := oD (by assumption); obtain ⟨ad438, e438, hx438_0⟩ := Kd.at_int (Kd.R_reads' HO_8.out).2.2 2 p438 q438; obtain rfl : ad436 = ad438 := (by injection e438); (try simp only [show (2 : Int).toNat = 2 from rfl, Nat.reduceMul, Nat.reduceEqDiff, Go.Addr.add, ↓reduceIte] at hx438_0); have qi438 : (2 < x8_2.length) = True := eq_true (by omega); (try rw [show ((2 : Int)).toNat = 2 from rfl] at hx438_0); replace p438 := eq_true p438; replace q438 := eq_true q438)); try go_wp2_with (first | (go_at_call 30; (with_reducible refine (spec_l01In.calls ((rd_T39 l0 a1).f0) 3 12 false _ A58.out).mono ?_); rintro e w' ⟨rfl, ⟨nd, rfl⟩⟩; (try first | exact dq1 | exact dq2)) | (go_at_call 30; (with_reducible refine (spec_l01In.calls ((rd_T39 l0 a1).f0) 13 15 false _ A73.out).mono ?_); rintro e w' ⟨rfl, ⟨nd, rfl⟩⟩; (try first | exact dq1 | exact dq2); obtain ⟨Ao121, co121, eo121⟩ := Kd.R_slice HO_8.out; subst eo121; have p436 : 0 ≤ (0 : Int) := (by omega); have q436 : 0 < (x8_2.length : Int) := oD (by assumption); obtain ⟨ad436, e436, hx436_0⟩ := Kd.at_int (Kd.R_reads' HO_8.out).2.2 0 p436 q436; cases e436; have qi436 : (0 < x8_2.length) = True := eq_true (by omega); (try rw [tn0] at hx436_0); (try rw [Addr.add_zero'] at hx436_0); replace p436 := eq_true p436; replace q436 := eq_true q436; have p437 : 0 ≤ (1 : Int) := (by omega); have q437 : 1 < (x8_2.length : Int) := oD (by assumption); obtain ⟨ad437, e437, hx437_0⟩ := Kd.at_int (Kd.R_reads' HO_8.out).2.2 1 p437 q437; obtain rfl : ad436 = ad437 := (by injection e437); (try simp only [show (1 : Int).toNat = 1 from rfl, Nat.reduceMul, Nat.reduceEqDiff, Go.Addr.add, ↓reduceIte] at hx437_0); have qi437 : (1 < x8_2.length) = True := eq_true (by omega); (try rw [show ((1 : Int)).toNat = 1 from rfl] at hx437_0); replace p437 := eq_true p437; replace q437 := eq_true q437; have p438 : 0 ≤ (2 : Int) := (by omega); have q438 : 2 < (x8_2.length : Int) := oD (by assumption); obtain ⟨ad438, e438, hx438_0⟩ := Kd.at_int (Kd.R_reads' HO_8.out).2.2 2 p438 q438; obtain rfl : ad436 = ad438 := (by injection e438); (try simp only [show (2 : Int).toNat = 2 from rfl, Nat.reduceMul, Nat.reduceEqDiff, Go.Addr.add, ↓reduceIte] at hx438_0); have qi438 : (2 < x8_2.length) = True := eq_true (by omega); (try rw [show ((2 : Int)).toNat = 2 from rfl] at hx438_0); replace p438 := eq_true p438; replace q438 := eq_true q438)))
                        go_ret
                        exact ⟨by rfl, by exact bW⟩
                      ·rw [if_neg c116] at H
                       exact absurd H (by simp)
                     ·rw [if_neg c115] at H
                      have c115b0 : ((rd x8_2 1) == ((rd_T39 l0 a1).f1)) = false := beq_eq_false_iff_ne.mpr c115
                      have c115b1 : ((rd x8_2 1) != ((rd_T39 l0 a1).f1)) = true := bne_iff_ne.mpr c115
                      obtain rfl := oI H
                      obtain ⟨hcz122_0, hcz122_1, hcz122_2, hcz122_3, hcz122_4, hcz122_5⟩ := cz6 BK409.out
                      obtain ⟨hfz122_0, hfz122_1, hfz122_2, hfz122_3, hfz122_4, hfz122_5⟩ := fz6 BK409.out
                      go_wp2_with (first | (go_at_call 30; (with_reducible refine (spec_l01In.calls ((rd_T39 l0 a1).f0) 3 12 false _ A58.out).mono ?_); rintro e w' ⟨rfl, ⟨nd, rfl⟩⟩; (try first | exact dq1 | exact dq2)) | (go_at_call 30; (with_reducible refine (spec_l01In.calls ((rd_T39 l0 a1).f0) 13 15 false _ A73.out).mono ?_); rintro e w' ⟨rfl, ⟨nd, rfl⟩⟩; (try first | exact dq1 | exact dq2); obtain ⟨Ao123, co123, eo123⟩ := Kd.R_slice HO_8.out; subst eo123; have p436 : 0 ≤ (0 : Int) := (by omega); have q436 : 0 < (x8_2.length : Int) := oD (by assumption); obtain ⟨ad436, e436, hx436_0⟩ := Kd.at_int (Kd.R_reads' HO_8.out).2.2 0 p436 q436; cases e436; have qi436 : (0 < x8_2.length) = True := eq_true (by omega); (try rw [tn0] at hx436_0); (try rw [Addr.add_zero'] at hx436_0); replace p436 := eq_true p436; replace q436 := eq_true q436; have p437 : 0 ≤ (1 : Int) := (by omega); have q437 : 1 < (x8_2.length : Int) := oD (by assumption); obtain ⟨ad437, e437, hx437_0⟩ := Kd.at_int (Kd.R_reads' HO_8.out).2.2 1 p437 q437; obtain rfl : ad436 = ad437 := (by injection e437); (try simp only [show (1 : Int).toNat = 1 from rfl, Nat.reduceMul, Nat.reduceEqDiff, Go.Addr.add, ↓reduceIte] at hx437_0); have qi437 : (1 < x8_2.length) = True := eq_true (by omega); (try rw [show ((1 : Int)).toNat = 1 from rfl] at hx437_0); replace p437 := eq_true p437; replace q437 := eq_true q437))
                      repeat (go_quiet (first | (go_at_call 30; (with_reducible refine (spec_l01In.calls ((rd_T39 l0 a1).f0) 3 12 false _ A58.out).mono ?_); rintro e w' ⟨rfl, ⟨nd, rfl⟩⟩; (try first | exact dq1 | exact dq2)) | (go_at_call 30; (with_reducible refine (spec_l01In.calls ((rd_T39 l0 a1).f0) 13 15 false _ A73.out).mono ?_); rintro e w' ⟨rfl, ⟨nd, rfl⟩⟩; (try first | exact dq1 | exact dq2); obtain ⟨Ao123, co123, eo123⟩ := Kd.R_slice HO_8.out; subst eo123; have p436 : 0 ≤ (0 : Int) := (by omega); have q436 : 0 < (x8_2.length : Int) := oD (by assumption); obtain ⟨ad436, e436, hx436_0⟩ := Kd.at_int (Kd.R_reads' HO_8.out).2.2 0 p436 q436; cases e436; have qi436 : (0 < x8_2.length) = True := eq_true (by omega); (try rw [tn0] at hx436_0); (try rw [Addr.add_zero'] at hx436_0); replace p436 := eq_true p436; replace q436 := eq_true q436; have p437 : 0 ≤ (1 : Int) := (by omega); have q437 : 1 < (x8_2.length : Int) := oD (by assumption); obtain ⟨ad437, e437, hx437_0⟩ := Kd.at_int (Kd.R_reads' HO_8.out).2.2 1 p437 q437; obtain rfl : ad436 = ad437 := (by injection e437); (try simp only [show (1 : Int).toNat = 1 from rfl, Nat.reduceMul, Nat.reduceEqDiff, Go.Addr.add, ↓reduceIte] at hx437_0); have qi437 : (1 < x8_2.length) = True := eq_true (by omega); (try rw [show ((1 : Int)).toNat = 1 from rfl] at hx437_0); replace p437 := eq_true p437; replace q437 := eq_true q437)); try go_wp2_with (first | (go_at_call 30; (with_reducible refine (spec_l01In.calls ((rd_T39 l0 a1).f0) 3 12 false _ A58.out).mono ?_); rintro e w' ⟨rfl, ⟨nd, rfl⟩⟩; (try first | exact dq1 | exact dq2)) | (go_at_call 30; (with_reducible refine (spec_l01In.calls ((rd_T39 l0 a1).f0) 13 15 false _ A73.out).mono ?_); rintro e w' ⟨rfl, ⟨nd, rfl⟩⟩; (try first | exact dq1 | exact dq2); obtain ⟨Ao123, co123, eo123⟩ := Kd.R_slice HO_8.out; subst eo123; have p436 : 0 ≤ (0 : Int) := (by omega); have q436 : 0 < (x8_2.length : Int) := oD (by assumption); obtain ⟨ad436, e436, hx436_0⟩ := Kd.at_int (Kd.R_reads' HO_8.out).2.2 0 p436 q436; cases e436; have qi436 : (0 < x8_2.length) = True := eq_true (by omega); (try rw [tn0] at hx436_0); (try rw [Addr.add_zero'] at hx436_0); replace p436 := eq_true p436; replace q436 := eq_true q436; have p437 : 0 ≤ (1 : Int) := (by omega); have q437 : 1 < (x8_2.length : Int) := oD (by assumption); obtain ⟨ad437, e437, hx437_0⟩ := Kd.at_int (Kd.R_reads' HO_8.out).2.2 1 p437 q437; obtain rfl : ad436 = ad437 := (by injection e437); (try simp only [show (1 : Int).toNat = 1 from rfl, Nat.reduceMul, Nat.reduceEqDiff, Go.Addr.add, ↓reduceIte] at hx437_0); have qi437 : (1 < x8_2.length) = True := eq_true (by omega); (try rw [show ((1 : Int)).toNat = 1 from rfl] at hx437_0); replace p437 := eq_true p437; replace q437 := eq_true q437)))
                      go_ret
                      exact ⟨by rfl, by exact bW⟩
                    ·rw [if_neg c114] at H
                     exact absurd H (by simp)
                   ·rw [if_neg c113] at H
                    have c113b0 : ((rd x8_2 0) == 1) = false := beq_eq_false_iff_ne.mpr c113
                    have c113b1 : ((rd x8_2 0) != 1) = true := bne_iff_ne.mpr c113
                    obtain rfl := oI H
                    obtain ⟨hcz124_0, hcz124_1, hcz124_2, hcz124_3, hcz124_4, hcz124_5⟩ := cz6 BK409.out
                    obtain ⟨hfz124_0, hfz124_1, hfz124_2, hfz124_3, hfz124_4, hfz124_5⟩ := fz6 BK409.out
                    go_wp2_with (first | (go_at_call 30; (with_reducible refine (spec_l01In.calls ((rd_T39 l0 a1).f0) 3 12 false _ A58.out).mono ?_); rintro e w' ⟨rfl, ⟨nd, rfl⟩⟩; (try first | exact dq1 | exact dq2)) | (go_at_call 30; (with_reducible refine (spec_l01In.calls ((rd_T39 l0 a1).f0) 13 15 false _ A73.out).mono ?_); rintro e w' ⟨rfl, ⟨nd, rfl⟩⟩; (try first | exact dq1 | exact dq2); obtain ⟨Ao125, co125, eo125⟩ := Kd.R_slice HO_8.out; subst eo125; have p436 : 0 ≤ (0 : Int) := (by omega); have q436 : 0 < (x8_2.length : Int) := oD (by assumption); obtain ⟨ad436, e436, hx436_0⟩ := Kd.at_int (Kd.R_reads' HO_8.out).2.2 0 p436 q436; cases e436; have qi436 : (0 < x8_2.length) = True := eq_true (by omega); (try rw [tn0] at hx436_0); (try rw [Addr.add_zero'] at hx436_0); replace p436 := eq_true p436; replace q436 := eq_true q436))
                    repeat (go_quiet (first | (go_at_call 30; (with_reducible refine (spec_l01In.calls ((rd_T39 l0 a1).f0) 3 12 false _ A58.out).mono ?_); rintro e w' ⟨rfl, ⟨nd, rfl⟩⟩; (try first | exact dq1 | exact dq2)) | (go_at_call 30; (with_reducible refine (spec_l01In.calls ((rd_T39 l0 a1).f0) 13 15 false _ A73.out).mono ?_); rintro e w' ⟨rfl, ⟨nd, rfl⟩⟩; (try first | exact dq1 | exact dq2); obtain ⟨Ao125, co125, eo125⟩ := Kd.R_slice HO_8.out; subst eo125; have p436 : 0 ≤ (0 : Int) := (by omega); have q436 : 0 < (x8_2.length : Int) := oD (by assumption); obtain ⟨ad436, e436, hx436_0⟩ := Kd.at_int (Kd.R_reads' HO_8.out).2.2 0 p436 q436; cases e436; have qi436 : (0 < x8_2.length) = True := eq_true (by omega); (try rw [tn0] at hx436_0); (try rw [Addr.add_zero'] at hx436_0); replace p436 := eq_true p436; replace q436 := eq_true q436)); try go_wp2_with (first | (go_at_call 30; (with_reducible refine (spec_l01In.calls ((rd_T39 l0 a1).f0) 3 12 false _ A58.out).mono ?_); rintro e w' ⟨rfl, ⟨nd, rfl⟩⟩; (try first | exact dq1 | exact dq2)) | (go_at_call 30; (with_reducible refine (spec_l01In.calls ((rd_T39 l0 a1).f0) 13 15 false _ A73.out).mono ?_); rintro e w' ⟨rfl, ⟨nd, rfl⟩⟩; (try first | exact dq1 | exact dq2); obtain ⟨Ao125, co125, eo125⟩ := Kd.R_slice HO_8.out; subst eo125; have p436 : 0 ≤ (0 : Int) := (by omega); have q436 : 0 < (x8_2.length : Int) := oD (by assumption); obtain ⟨ad436, e436, hx436_0⟩ := Kd.at_int (Kd.R_reads' HO_8.out).2.2 0 p436 q436; cases e436; have qi436 : (0 < x8_2.length) = True := eq_true (by omega); (try rw [tn0] at hx436_0); (try rw [Addr.add_zero'] at hx436_0); replace p436 := eq_true p436; replace q436 := eq_true q436)))
                    go_ret
                    exact ⟨by rfl, by exact bW⟩
                  ·rw [if_neg c112] at H
                   exact absurd H (by simp)
                 ·rw [if_neg c111] at H
                  have c111b0 : (((rd_T39 l0 a1).f0) == 18) = false := beq_eq_false_iff_ne.mpr c111
                  have c111b1 : (((rd_T39 l0 a1).f0) != 18) = true := bne_iff_ne.mpr c111
                  have HC126 := am H
                  clear H
                  obtain ⟨hcz127_0, hcz127_1, hcz127_2, hcz127_3, hcz127_4, hcz127_5⟩ := cz6 BK409.out
                  obtain ⟨hfz127_0, hfz127_1, hfz127_2, hfz127_3, hfz127_4, hfz127_5⟩ := fz6 BK409.out
                  go_upto_region 31 with (first | (go_at_call 30; (with_reducible refine (spec_l01In.calls ((rd_T39 l0 a1).f0) 3 12 false _ A58.out).mono ?_); rintro e w' ⟨rfl, ⟨nd, rfl⟩⟩; (try first | exact dq1 | exact dq2)) | (go_at_call 30; (with_reducible refine (spec_l01In.calls ((rd_T39 l0 a1).f0) 13 15 false _ A73.out).mono ?_); rintro e w' ⟨rfl, ⟨nd, rfl⟩⟩; (try first | exact dq1 | exact dq2)))
                  repeat (go_quiet (first | (go_at_call 30; (with_reducible refine (spec_l01In.calls ((rd_T39 l0 a1).f0) 3 12 false _ A58.out).mono ?_); rintro e w' ⟨rfl, ⟨nd, rfl⟩⟩; (try first | exact dq1 | exact dq2)) | (go_at_call 30; (with_reducible refine (spec_l01In.calls ((rd_T39 l0 a1).f0) 13 15 false _ A73.out).mono ?_); rintro e w' ⟨rfl, ⟨nd, rfl⟩⟩; (try first | exact dq1 | exact dq2))); go_upto_region 31 with (first | (go_at_call 30; (with_reducible refine (spec_l01In.calls ((rd_T39 l0 a1).f0) 3 12 false _ A58.out).mono ?_); rintro e w' ⟨rfl, ⟨nd, rfl⟩⟩; (try first | exact dq1 | exact dq2)) | (go_at_call 30; (with_reducible refine (spec_l01In.calls ((rd_T39 l0 a1).f0) 13 15 false _ A73.out).mono ?_); rintro e w' ⟨rfl, ⟨nd, rfl⟩⟩; (try first | exact dq1 | exact dq2))))
                  (try simp only [Act.put, List.setIfInBounds_toArray, List.set_cons_zero, List.set_cons_succ])
                  go_cut [258] (fun v258 wc => ∃ (kq : Nat) (x258_125 : Bool), v258 = .bool x258_125 ∧ Aside0 (spec_l02Node.j2 kq x8_2 x258_125 ((rd_T39 l0 a1).f0) ((rd_T39 l0 a1).f1) ((rd_T39 l0 a1).f2) ((rd_T39 l0 a1).f3) ((rd_T39 l0 a1).f4) ((rd_T39 l0 a1).f5) = some r) ∧ Aside0 (kq ≤ k2) ∧ Aside0 (Kd.R (Kd.int .i64) 3 wc w.heap.size (fun _ => True) u8 x8_2) ∧ Aside0 (wc.heap[gb409]? = some (.cells #[.int .i64 ((rd_T39 l0 a1).f0), .int .i64 ((rd_T39 l0 a1).f1), .int .i64 ((rd_T39 l0 a1).f2), .int .i64 ((rd_T39 l0 a1).f3), .int .i64 ((rd_T39 l0 a1).f4), .int .i64 ((rd_T39 l0 a1).f5)] 39 (0, 0))) ∧ Aside0 (Below w.heap.size w wc))
                  case first =>
                   have H := HC126.out
                   clear HC126
                   by_cases c128 : ((rd_T39 l0 a1).f0) = 19
                   ·rw [if_pos c128] at H
                    have c128b0 : (((rd_T39 l0 a1).f0) == 19) = true := beq_iff_eq.mpr c128
                    have c128b1 : (((rd_T39 l0 a1).f0) != 19) = false := bne_eq_false_iff_eq.mpr c128
                    clear c128
                    (skip)
                    have H' := am H
                    clear H
                    obtain ⟨hcz129_0, hcz129_1, hcz129_2, hcz129_3, hcz129_4, hcz129_5⟩ := cz6 BK409.out
                    obtain ⟨hfz129_0, hfz129_1, hfz129_2, hfz129_3, hfz129_4, hfz129_5⟩ := fz6 BK409.out
                    go_wp2
                    repeat (go_quiet (fail); try go_wp2)
                    go_meet
                    case rel => exact ⟨_, (true), (by rfl), H', ⟨by have := HK1.out; have := HK2.out; omega⟩, ⟨by exact sR <| Kd.R_mono HO_8.out (fun _ hk => trivial)⟩, ⟨by exact sB <| BK409.out⟩, ⟨by exact bW⟩⟩
                   ·rw [if_neg c128] at H
                    have c128b0 : (((rd_T39 l0 a1).f0) == 19) = false := beq_eq_false_iff_ne.mpr c128
                    have c128b1 : (((rd_T39 l0 a1).f0) != 19) = true := bne_iff_ne.mpr c128
                    (skip)
                    have H' := am H
                    clear H
                    obtain ⟨hcz130_0, hcz130_1, hcz130_2, hcz130_3, hcz130_4, hcz130_5⟩ := cz6 BK409.out
                    obtain ⟨hfz130_0, hfz130_1, hfz130_2, hfz130_3, hfz130_4, hfz130_5⟩ := fz6 BK409.out
                    go_wp2
                    repeat (go_quiet (fail); try go_wp2)
                    go_meet
                    case rel => exact ⟨_, ((((rd_T39 l0 a1).f0) == 20)), (by rfl), H', ⟨by have := HK1.out; have := HK2.out; omega⟩, ⟨by exact sR <| Kd.R_mono HO_8.out (fun _ hk => trivial)⟩, ⟨by exact sB <| BK409.out⟩, ⟨by exact bW⟩⟩
                  case rest =>
                   clear HC126
                   clear c88 c88b0 c88b1 c99 c99b0 c99b1 c111 c111b0 c111b1 hcz127_0 hcz127_1 hcz127_2 hcz127_3 hcz127_4 hcz127_5 hfz127_0 hfz127_1 hfz127_2 hfz127_3 hfz127_4 hfz127_5
                   obtain ⟨kq, x258_125, rfl, HA, HJ125, HO_8, BK409, HB⟩ := hcut
                   cases kq with
                   | zero => exact absurd HA.out (by simp [spec_l02Node.j2])
                   | succ kj125 =>
                    have H := HA.out
                    clear HA
                    simp only [spec_l02Node.j2] at H
                    by_cases c131 : x258_125 = true
                    ·subst c131
                     rw [if_pos rfl] at H
                     replace H := oB H
                     obtain ⟨t439, A1320, H⟩ := H
                     have A132 := am A1320
                     clear A1320
                     by_cases c133 : t439 = true
                     ·subst c133
                      rw [if_pos rfl] at H
                      replace H := oB H
                      obtain ⟨t440, A1340, H⟩ := H
                      have A134 := am A1340
                      clear A1340
                      by_cases c135 : t440 = true
                      ·subst c135
                       rw [if_pos rfl] at H
                       by_cases c136 : 0 < (x8_2.length : Int)
                       ·rw [if_pos c136] at H
                        have c136b0 : decide (0 < (x8_2.length : Int)) = true := decide_eq_true c136
                        have c136b1 : decide (0 < x8_2.length) = true := decide_eq_true (by omega)
                        have c136p : 0 < x8_2.length := by omega
                        clear c136
                        by_cases c137 : (rd x8_2 0) = 1
                        ·rw [if_pos c137] at H
                         have c137b0 : ((rd x8_2 0) == 1) = true := beq_iff_eq.mpr c137
                         have c137b1 : ((rd x8_2 0) != 1) = false := bne_eq_false_iff_eq.mpr c137
                         clear c137
                         by_cases c138 : ((rd_T39 l0 a1).f1) = 1
                         ·rw [if_pos c138] at H
                          have c138b0 : (((rd_T39 l0 a1).f1) == 1) = true := beq_iff_eq.mpr c138
                          have c138b1 : (((rd_T39 l0 a1).f1) != 1) = false := bne_eq_false_iff_eq.mpr c138
                          clear c138
                          obtain rfl := oI H
                          obtain ⟨hcz139_0, hcz139_1, hcz139_2, hcz139_3, hcz139_4, hcz139_5⟩ := cz6 BK409.out
                          obtain ⟨hfz139_0, hfz139_1, hfz139_2, hfz139_3, hfz139_4, hfz139_5⟩ := fz6 BK409.out
                          go_wp2_with (first | (go_at_call 30; (with_reducible refine (spec_l01In.calls ((rd_T39 l0 a1).f2) 0 7 true _ A132.out).mono ?_); rintro e w' ⟨rfl, ⟨nd, rfl⟩⟩; (try first | exact dq1 | exact dq2)) | (go_at_call 30; (with_reducible refine (spec_l01In.calls ((rd_T39 l0 a1).f4) 1 8 true _ A134.out).mono ?_); rintro e w' ⟨rfl, ⟨nd, rfl⟩⟩; (try first | exact dq1 | exact dq2); obtain ⟨Ao140, co140, eo140⟩ := Kd.R_slice HO_8.out; subst eo140; have p441 : 0 ≤ (0 : Int) := (by omega); have q441 : 0 < (x8_2.length : Int) := oD (by assumption); obtain ⟨ad441, e441, hx441_0⟩ := Kd.at_int (Kd.R_reads' HO_8.out).2.2 0 p441 q441; cases e441; have qi441 : (0 < x8_2.length) = True := eq_true (by omega); (try rw [tn0] at hx441_0); (try rw [Addr.add_zero'] at hx441_0); replace p441 := eq_true p441; replace q441 := eq_true q441))
                          go_ret
                          exact ⟨by rfl, by exact bW⟩
                         ·rw [if_neg c138] at H
                          have c138b0 : (((rd_T39 l0 a1).f1) == 1) = false := beq_eq_false_iff_ne.mpr c138
                          have c138b1 : (((rd_T39 l0 a1).f1) != 1) = true := bne_iff_ne.mpr c138
                          obtain rfl := oI H
                          obtain ⟨hcz141_0, hcz141_1, hcz141_2, hcz141_3, hcz141_4, hcz141_5⟩ := cz6 BK409.out
                          obtain ⟨hfz141_0, hfz141_1, hfz141_2, hfz141_3, hfz141_4, hfz141_5⟩ := fz6 BK409.out
                          go_wp2_with (first | (go_at_call 30; (with_reducible refine (spec_l01In.calls ((rd_T39 l0 a1).f2) 0 7 true _ A132.out).mono ?_); rintro e w' ⟨rfl, ⟨nd, rfl⟩⟩; (try first | exact dq1 | exact dq2)) | (go_at_call 30; (with_reducible refine (spec_l01In.calls ((rd_T39 l0 a1).f4) 1 8 true _ A134.out).mono ?_); rintro e w' ⟨rfl, ⟨nd, rfl⟩⟩; (try first | exact dq1 | exact dq2); obtain ⟨Ao142, co142, eo142⟩ := Kd.R_slice HO_8.out; subst eo142; have p441 : 0 ≤ (0 : Int) := (by omega); have q441 : 0 < (x8_2.length : Int) := oD (by assumption); obtain ⟨ad441, e441, hx441_0⟩ := Kd.at_int (Kd.R_reads' HO_8.out).2.2 0 p441 q441; cases e441; have qi441 : (0 < x8_2.length) = True := eq_true (by omega); (try rw [tn0] at hx441_0); (try rw [Addr.add_zero'] at hx441_0); replace p441 := eq_true p441; replace q441 := eq_true q441))
                          go_ret
                          exact ⟨by rfl, by exact bW⟩
                        ·rw [if_neg c137] at H
                         have c137b0 : ((rd x8_2 0) == 1) = false := beq_eq_false_iff_ne.mpr c137
                         have c137b1 : ((rd x8_2 0) != 1) = true := bne_iff_ne.mpr c137
                         obtain rfl := oI H
                         obtain ⟨hcz143_0, hcz143_1, hcz143_2, hcz143_3, hcz143_4, hcz143_5⟩ := cz6 BK409.out
                         obtain ⟨hfz143_0, hfz143_1, hfz143_2, hfz143_3, hfz143_4, hfz143_5⟩ := fz6 BK409.out
                         go_wp2_with (first | (go_at_call 30; (with_reducible refine (spec_l01In.calls ((rd_T39 l0 a1).f2) 0 7 true _ A132.out).mono ?_); rintro e w' ⟨rfl, ⟨nd, rfl⟩⟩; (try first | exact dq1 | exact dq2)) | (go_at_call 30; (with_reducible refine (spec_l01In.calls ((rd_T39 l0 a1).f4) 1 8 true _ A134.out).mono ?_); rintro e w' ⟨rfl, ⟨nd, rfl⟩⟩; (try first | exact dq1 | exact dq2); obtain ⟨Ao144, co144, eo144⟩ := Kd.R_slice HO_8.out; subst eo144; have p441 : 0 ≤ (0 : Int) := (by omega); have q441 : 0 < (x8_2.length : Int) := oD (by assumption); obtain ⟨ad441, e441, hx441_0⟩ := Kd.at_int (Kd.R_reads' HO_8.out).2.2 0 p441 q441; cases e441; have qi441 : (0 < x8_2.length) = True := eq_true (by omega); (try rw [tn0] at hx441_0); (try rw [Addr.add_zero'] at hx441_0); replace p441 := eq_true p441; replace q441 := eq_true q441))
                         go_ret
                         exact ⟨by rfl, by exact bW⟩
                       ·rw [if_neg c136] at H
                        exact absurd H (by simp)
                      ·replace c135 := Bool.eq_false_iff.mpr c135
                       subst c135
                       rw [if_neg (show ¬ (false = true) by decide)] at H
                       obtain rfl := oI H
                       obtain ⟨hcz145_0, hcz145_1, hcz145_2, hcz145_3, hcz145_4, hcz145_5⟩ := cz6 BK409.out
                       obtain ⟨hfz145_0, hfz145_1, hfz145_2, hfz145_3, hfz145_4, hfz145_5⟩ := fz6 BK409.out
                       go_wp2_with (first | (go_at_call 30; (with_reducible refine (spec_l01In.calls ((rd_T39 l0 a1).f2) 0 7 true _ A132.out).mono ?_); rintro e w' ⟨rfl, ⟨nd, rfl⟩⟩; (try first | exact dq1 | exact dq2)) | (go_at_call 30; (with_reducible refine (spec_l01In.calls ((rd_T39 l0 a1).f4) 1 8 false _ A134.out).mono ?_); rintro e w' ⟨rfl, ⟨nd, rfl⟩⟩; (try first | exact dq1 | exact dq2)))
                       go_ret
                       exact ⟨by rfl, by exact bW⟩
                     ·replace c133 := Bool.eq_false_iff.mpr c133
                      subst c133
                      rw [if_neg (show ¬ (false = true) by decide)] at H
                      obtain rfl := oI H
                      obtain ⟨hcz146_0, hcz146_1, hcz146_2, hcz146_3, hcz146_4, hcz146_5⟩ := cz6 BK409.out
                      obtain ⟨hfz146_0, hfz146_1, hfz146_2, hfz146_3, hfz146_4, hfz146_5⟩ := fz6 BK409.out
                      go_wp2_with (first | (go_at_call 30; (with_reducible refine (spec_l01In.calls ((rd_T39 l0 a1).f2) 0 7 false _ A132.out).mono ?_); rintro e w' ⟨rfl, ⟨nd, rfl⟩⟩; (try first | exact dq1 | exact dq2)))
                      go_ret
                      exact ⟨by rfl, by exact bW⟩
                    ·replace c131 := Bool.eq_false_iff.mpr c131
                     subst c131
                     rw [if_neg (show ¬ (false = true) by decide)] at H
                     obtain rfl := oI H
                     go_wp2
                     repeat (go_quiet (fail); try go_wp2)
                     go_ret
                     exact ⟨by rfl, by exact bW⟩
      ·replace c16 := Bool.eq_false_iff.mpr c16
       subst c16
       rw [if_neg (show ¬ (false = true) by decide)] at H
       obtain rfl := oI H
       obtain ⟨Ao147, co147, eo147⟩ := Kd.R_slice HO_6.out
       subst eo147
       obtain ⟨hcz148_0, hcz148_1, hcz148_2, hcz148_3, hcz148_4, hcz148_5⟩ := cz6 BK409.out
       obtain ⟨hfz148_0, hfz148_1, hfz148_2, hfz148_3, hfz148_4, hfz148_5⟩ := fz6 BK409.out
       go_wp2_with (first | (go_at_call 30; (with_reducible refine (spec_l01In.calls ((rd_T39 l0 a1).f1) 1 8 false _ A15.out).mono ?_); rintro e w' ⟨rfl, ⟨nd, rfl⟩⟩; (try first | exact dq1 | exact dq2)))
       go_ret
       exact ⟨by rfl, by exact bW⟩
  ·rw [if_neg c4] at H
   exact absurd H (by simp)
 ·rw [if_neg c3] at H
  exact absurd H (by simp)
end Go.Proofs.Ytjjjbifbibabgaa.PAll
