/- Written by a program of this session over the loaded program, and by hand: Go functions as plain Lean functions, and that a call comes to what they say. -/
import Derived.Test.YtjjjbifbibabgaaVFree0
import Derived.Test.YtjjjbifbibabgaaVFree1
import Derived.Test.YtjjjbifbibabgaaVFree3
import Derived.Test.YtjjjbifbibabgaaVFree11
import Derived.Test.YtjjjbifbibabgaaVFree13
import Derived.Test.YtjjjbifbibabgaaVFree15
import Derived.Test.YtjjjbifbibabgaaBase
import Derived.Test.YtjjjbifbibabgaaSq
namespace Go.Proofs.Ytjjjbifbibabgaa.PAll
open Go.RowKit Go.Proofs.YtjjjbifbibabgaaW.PrintWords Go.Proofs.YtjjjbifbibabgaaW.PrintLast Go.Proofs.YtjjjbifbibabgaaW.PrintMore Go.Proofs.YtjjjbifbibabgaaW.Sq
attribute [local go_sem] max2_int min2_int max_two min_two max_three min_three max_four min_four   -- for this text's walks alone
set_option linter.unusedVariables false
set_option linter.unusedSimpArgs false

/-! ### laws_FnFree: function 4 -/
mutual
def laws_FnFree.j0 : Nat → List Int → List (S39) → Bool → Option (Bool)
 | 0, _, _, _ => none
 | k + 1, x0, x3, x34 => if x34 = true then ((impl_Free.f k x3).bind fun t751 => ((spec_Free.f k x3).bind fun t754 => (some ((t751.length : Int) == (t754.length : Int))))) else ((laws_at.f x0 3).bind fun t757 => ((some (([] : List (S39)) : List (S39))).bind fun y758 => (if y758.length + x3.length < 2932031007402 then ((some (y758 ++ x3 : List (S39))).bind fun y761 => ((laws_at.f x0 4).bind fun t764 => ((laws_at.f x0 5).bind fun t765 => (if y761.length < 2932031007402 then ((impl_Free.f k x3).bind fun t772 => (laws_FnFree.l0 k x3 (Int.tmod t757 8) (y761 ++ [(⟨wrap64 (19 + (Int.tmod t764 2)), 1, Int.tmod t757 8, wrap64 ((x3.length : Int) - 1), wrap64 (1 + (Int.tmod t765 8)), 0⟩ : S39)]) (([] : List Int)) t772 (t772.length : Int) 0)) else (none))))) else (none))))
def laws_FnFree.l0 : Nat → List (S39) → Int → List (S39) → List Int → List Int → Int → Int → Option (Bool)
 | 0, _, _, _, _, _, _, _ => none
 | k + 1, x3, x5, x6, x7, x65, x66, x67 => if x67 < x66 then (if 0 ≤ x67 then (if x67 < (x65.length : Int) then (if (rd x65 x67) = x5 then (laws_FnFree.l0 k x3 x5 x6 x7 x65 x66 (wrap64 (x67 + 1))) else (if x7.length < 17592186044416 then (laws_FnFree.l0 k x3 x5 x6 (x7 ++ [rd x65 x67]) x65 x66 (wrap64 (x67 + 1))) else (none))) else (none)) else (none)) else ((impl_TermOk.f k x6).bind fun t779 => (if t779 = true then ((impl_Free.f k x6).bind fun t780 => ((laws_sameInts.f k t780 x7).bind fun t783 => (if t783 = true then ((impl_Free.f k x3).bind fun t784 => ((spec_Free.f k x3).bind fun t787 => ((laws_sameInts.f k t784 t787).bind fun t790 => (if t790 = true then (if 0 ≤ (wrap64 ((x6.length : Int) - 1)) then (if (wrap64 ((x6.length : Int) - 1)) < (x6.length : Int) then ((impl_Parts.f k ((rd_T39 x6 (wrap64 ((x6.length : Int) - 1))).f0) ((rd_T39 x6 (wrap64 ((x6.length : Int) - 1))).f1) ((rd_T39 x6 (wrap64 ((x6.length : Int) - 1))).f2) ((rd_T39 x6 (wrap64 ((x6.length : Int) - 1))).f3) ((rd_T39 x6 (wrap64 ((x6.length : Int) - 1))).f4) ((rd_T39 x6 (wrap64 ((x6.length : Int) - 1))).f5)).bind fun t792 => (some ((t792.length : Int) == 1))) else (none)) else (none)) else (some false))))) else (some false)))) else (some false)))
end
def laws_FnFree.f (k : Nat) (l0 : List Int) : Option (Bool) := (laws_big.f l0).bind fun t742 => (if t742 = true then (some true) else ((spec_DrawValue.f k l0).bind fun bt743 => ((spec_TermOk.f k bt743.1).bind fun t749 => (if t749 = true then (if 0 ≤ (wrap64 ((bt743.1.length : Int) - 1)) then (if (wrap64 ((bt743.1.length : Int) - 1)) < (bt743.1.length : Int) then (if ((rd_T39 bt743.1 (wrap64 ((bt743.1.length : Int) - 1))).f1) = 1 then (laws_FnFree.j0 k l0 bt743.1 (decide ((bt743.1.length : Int) ≥ 80))) else (laws_FnFree.j0 k l0 bt743.1 true)) else (none)) else (none)) else (laws_FnFree.j0 k l0 bt743.1 true)))))
set_option maxHeartbeats 8000000 in
set_option maxRecDepth 100000 in
theorem laws_FnFree.calls (k : Nat) (A0 : Option Addr) (c0 : Nat) (l0 : List Int) (r : Bool) (w : World) (hr0 : Kd.C (Kd.int .u8) w A0 l0.length l0) (hc0 : l0.length ≤ c0) (h : laws_FnFree.f k l0 = some r) :
  Calls Try.prog 4 #[.slice A0 l0.length c0] w fun e w' => e = .returned (.bool r) ∧ Below w.heap.size w w' := by
 have hu39 := Try.underlying39
 have HR0 := am hr0
 have HC0 := am hc0
 clear hr0 hc0
 have HB := am (Below.refl w.heap.size w)
 have H : ((laws_big.f l0).bind fun t742 => (if t742 = true then (some true) else ((spec_DrawValue.f k l0).bind fun bt743 => ((spec_TermOk.f k bt743.1).bind fun t749 => (if t749 = true then (if 0 ≤ (wrap64 ((bt743.1.length : Int) - 1)) then (if (wrap64 ((bt743.1.length : Int) - 1)) < (bt743.1.length : Int) then (if ((rd_T39 bt743.1 (wrap64 ((bt743.1.length : Int) - 1))).f1) = 1 then (laws_FnFree.j0 k l0 bt743.1 (decide ((bt743.1.length : Int) ≥ 80))) else (laws_FnFree.j0 k l0 bt743.1 true)) else (none)) else (none)) else (laws_FnFree.j0 k l0 bt743.1 true)))))) = some r := h
 clear h
 replace H := oB H
 obtain ⟨t742, A20, H⟩ := H
 have A2 := am A20
 clear A20
 by_cases c3 : t742 = true
 ·subst c3
  rw [if_pos rfl] at H
  obtain rfl := oI H
  go_enter Try.func4, Try.ntmps4
  go_wp2_with (first | ((with_reducible refine gate_callee (f := 14) rfl ?_); refine goesL_ (some 11) rfl rfl Try.func14 (by kernel_rfl) rfl #[.slice A0 l0.length c0] rfl tm ?_; (with_reducible refine (laws_big.calls _ _ l0 true _ ?side1 ?side2 A2.out).mono ?_); (case side1 => repeat (first | exact HR0.out | (with_reducible refine Kd.C_alloc ?_ _) | (with_reducible refine Kd.C_drewN ?_ _) | (with_reducible refine Kd.C_drew ?_))); (case side2 => exact HC0.out); rintro e w' ⟨rfl, ⟨nd, rfl⟩⟩; refine ⟨_, rfl, ?_⟩))
  go_ret
  exact ⟨by rfl, by exact sW HB.out⟩
 ·replace c3 := Bool.eq_false_iff.mpr c3
  subst c3
  rw [if_neg (show ¬ (false = true) by decide)] at H
  replace H := oB H
  obtain ⟨⟨t743, t744⟩, A40, H⟩ := H
  try dsimp only at H
  have A4 := am A40
  clear A40
  have HC5 := am H
  clear H
  go_enter Try.func4, Try.ntmps4
  go_upto_region 4 with (first | ((with_reducible refine gate_callee (f := 14) rfl ?_); refine goesL_ (some 11) rfl rfl Try.func14 (by kernel_rfl) rfl #[.slice A0 l0.length c0] rfl tn ?_; (with_reducible refine (laws_big.calls _ _ l0 false _ ?side1 ?side2 A2.out).mono ?_); (case side1 => repeat (first | exact HR0.out | (with_reducible refine Kd.C_alloc ?_ _) | (with_reducible refine Kd.C_drewN ?_ _) | (with_reducible refine Kd.C_drew ?_))); (case side2 => exact HC0.out); rintro e w' ⟨rfl, ⟨nd, rfl⟩⟩; refine ⟨_, rfl, ?_⟩) | ((with_reducible refine gate_callee (f := 15) rfl ?_); refine goesL_ (some 14) rfl rfl Try.func15 (by kernel_rfl) rfl #[.slice A0 l0.length c0] rfl tn ?_; (with_reducible refine (spec_DrawValue.calls k _ _ l0 t743 t744 _ ?side1 ?side2 A4.out).mono ?_); (case side1 => repeat (first | exact HR0.out | (with_reducible refine Kd.C_alloc ?_ _) | (with_reducible refine Kd.C_drewN ?_ _) | (with_reducible refine Kd.C_drew ?_))); (case side2 => exact HC0.out); rintro e w6 ⟨v745, v747, rfl, ho0, ho1, hb⟩; refine ⟨_, rfl, ?_⟩; have n0_ := am (Kd.R_lower ho0 (below_size (by exact sW HB.out))); have n1_ := am (Kd.R_lower ho1 (below_size (by exact sW HB.out))); have n2_ := am (below_step (by exact sW HB.out) hb); clear HB; have HO746 := n0_; have HO748 := n1_; have HB := n2_; clear n0_ n1_ n2_; (try clear ho1))); clear hb ho0
  (try simp only [Act.put, List.setIfInBounds_toArray, List.set_cons_zero, List.set_cons_succ])
  go_cut [34] (fun v34 wc => ∃ (kq : Nat) (x34_4 : Bool), v34 = .bool x34_4 ∧ Aside0 (laws_FnFree.j0 kq l0 t743 x34_4 = some r) ∧ Aside0 (kq ≤ k) ∧ Aside0 (Kd.R k39 39 wc w.heap.size (fun _ => True) v745 t743) ∧ Aside0 (Below w.heap.size w wc))
  case first =>
   have H := HC5.out
   clear HC5
   replace H := oB H
   obtain ⟨t749, A70, H⟩ := H
   have A7 := am A70
   clear A70
   by_cases c8 : t749 = true
   ·subst c8
    rw [if_pos rfl] at H
    obtain ⟨ji9, hji9⟩ : ∃ j_ : Int, (wrap64 ((t743.length : Int) - 1)) = j_ := ⟨_, rfl⟩
    replace H : (if 0 ≤ (ji9) then (if (ji9) < (t743.length : Int) then (if ((rd_T39 t743 (ji9)).f1) = 1 then (laws_FnFree.j0 k l0 t743 (decide ((t743.length : Int) ≥ 80))) else (laws_FnFree.j0 k l0 t743 true)) else (none)) else (none)) = some r := by (rw [hji9] at H; exact H)
    (try rw [hji9] at A7)
    have hji9w : (IntKind.i64.wrap ((t743.length : Int) - 1)) = ji9 := (i64_w _).trans hji9
    by_cases c10 : 0 ≤ (ji9)
    ·rw [if_pos c10] at H
     have c10b0 : decide (0 ≤ (ji9)) = true := decide_eq_true c10
     clear c10
     (skip)
     by_cases c11 : (ji9) < (t743.length : Int)
     ·rw [if_pos c11] at H
      have c11b0 : decide ((ji9) < (t743.length : Int)) = true := decide_eq_true c11
      clear c11
      by_cases c12 : ((rd_T39 t743 (ji9)).f1) = 1
      ·rw [if_pos c12] at H
       have c12b0 : (((rd_T39 t743 (ji9)).f1) == 1) = true := beq_iff_eq.mpr c12
       have c12b1 : (((rd_T39 t743 (ji9)).f1) != 1) = false := bne_eq_false_iff_eq.mpr c12
       clear c12
       have H' := am H
       clear H
       obtain ⟨Ao13, co13, eo13⟩ := Kd.R_slice HO746.out
       subst eo13
       go_wp2_with (first | ((with_reducible refine gate_callee (f := 16) rfl ?_); refine goesL_ (some 18) rfl rfl Try.func16 (by kernel_rfl) rfl #[.slice Ao13 t743.length co13] rfl tm ?_; (with_reducible refine (spec_TermOk.calls k _ _ t743 true _ ?side1 ?side2 A7.out).mono ?_); (case side1 => exact sC (Kd.R_reads' HO746.out).2.2); (case side2 => exact (Kd.R_reads' HO746.out).2.1); rintro e w14 ⟨rfl, hb⟩; refine ⟨_, rfl, ?_⟩; have n0_ := am (Kd.R_below (by exact sR <| HO746.out) hb); have n1_ := am (Kd.R_below (by exact sR <| HO748.out) hb); have n2_ := am (below_step (by exact sW HB.out) hb); clear HO746; clear HO748; clear HB; have HO746 := n0_; have HO748 := n1_; have HB := n2_; clear n0_ n1_ n2_; (try clear hb); (try clear hb2); (try clear hk); (try clear hi); have p750 : 0 ≤ ((ji9) : Int) := oD (by assumption); have q750 : (ji9) < (t743.length : Int) := oD (by assumption); obtain ⟨ad750, e750, hx750_0, hx750_1, hx750_2, hx750_3, hx750_4, hx750_5⟩ := at_T39 (Kd.R_reads' HO746.out).2.2 (ji9) p750 q750; cases e750; replace p750 := eq_true p750; replace q750 := eq_true q750))
       go_meet
       case rel => exact ⟨_, (decide ((t743.length : Int) ≥ 80)), (by rfl), H', ⟨by omega⟩, ⟨by exact sR <| HO746.out⟩, ⟨by exact sW HB.out⟩⟩
      ·rw [if_neg c12] at H
       have c12b0 : (((rd_T39 t743 (ji9)).f1) == 1) = false := beq_eq_false_iff_ne.mpr c12
       have c12b1 : (((rd_T39 t743 (ji9)).f1) != 1) = true := bne_iff_ne.mpr c12
       have H' := am H
       clear H
       obtain ⟨Ao15, co15, eo15⟩ := Kd.R_slice HO746.out
       subst eo15
       go_wp2_with (first | ((with_reducible refine gate_callee (f := 16) rfl ?_); refine goesL_ (some 18) rfl rfl Try.func16 (by kernel_rfl) rfl #[.slice Ao15 t743.length co15] rfl tm ?_; (with_reducible refine (spec_TermOk.calls k _ _ t743 true _ ?side1 ?side2 A7.out).mono ?_); (case side1 => exact sC (Kd.R_reads' HO746.out).2.2); (case side2 => exact (Kd.R_reads' HO746.out).2.1); rintro e w16 ⟨rfl, hb⟩; refine ⟨_, rfl, ?_⟩; have n0_ := am (Kd.R_below (by exact sR <| HO746.out) hb); have n1_ := am (Kd.R_below (by exact sR <| HO748.out) hb); have n2_ := am (below_step (by exact sW HB.out) hb); clear HO746; clear HO748; clear HB; have HO746 := n0_; have HO748 := n1_; have HB := n2_; clear n0_ n1_ n2_; (try clear hb); (try clear hb2); (try clear hk); (try clear hi); have p750 : 0 ≤ ((ji9) : Int) := oD (by assumption); have q750 : (ji9) < (t743.length : Int) := oD (by assumption); obtain ⟨ad750, e750, hx750_0, hx750_1, hx750_2, hx750_3, hx750_4, hx750_5⟩ := at_T39 (Kd.R_reads' HO746.out).2.2 (ji9) p750 q750; cases e750; replace p750 := eq_true p750; replace q750 := eq_true q750))
       go_meet
       case rel => exact ⟨_, (true), (by rfl), H', ⟨by omega⟩, ⟨by exact sR <| HO746.out⟩, ⟨by exact sW HB.out⟩⟩
     ·rw [if_neg c11] at H
      exact absurd H (by simp)
    ·rw [if_neg c10] at H
     exact absurd H (by simp)
   ·replace c8 := Bool.eq_false_iff.mpr c8
    subst c8
    rw [if_neg (show ¬ (false = true) by decide)] at H
    have H' := am H
    clear H
    obtain ⟨Ao17, co17, eo17⟩ := Kd.R_slice HO746.out
    subst eo17
    go_wp2_with (first | ((with_reducible refine gate_callee (f := 16) rfl ?_); refine goesL_ (some 18) rfl rfl Try.func16 (by kernel_rfl) rfl #[.slice Ao17 t743.length co17] rfl tm ?_; (with_reducible refine (spec_TermOk.calls k _ _ t743 false _ ?side1 ?side2 A7.out).mono ?_); (case side1 => exact sC (Kd.R_reads' HO746.out).2.2); (case side2 => exact (Kd.R_reads' HO746.out).2.1); rintro e w18 ⟨rfl, hb⟩; refine ⟨_, rfl, ?_⟩; have n0_ := am (Kd.R_below (by exact sR <| HO746.out) hb); have n1_ := am (Kd.R_below (by exact sR <| HO748.out) hb); have n2_ := am (below_step (by exact sW HB.out) hb); clear HO746; clear HO748; clear HB; have HO746 := n0_; have HO748 := n1_; have HB := n2_; clear n0_ n1_ n2_; (try clear hb); (try clear hb2); (try clear hk); (try clear hi)))
    go_meet
    case rel => exact ⟨_, (true), (by rfl), H', ⟨by omega⟩, ⟨by exact sR <| HO746.out⟩, ⟨by exact sW HB.out⟩⟩
  case rest =>
   clear HC5
   obtain ⟨kq, x34_4, rfl, HA, HJ4, HO_3, HB⟩ := hcut
   cases kq with
   | zero => exact absurd HA.out (by simp [laws_FnFree.j0])
   | succ kj4 =>
    have H := HA.out
    clear HA
    simp only [laws_FnFree.j0] at H
    by_cases c19 : x34_4 = true
    ·subst c19
     rw [if_pos rfl] at H
     replace H := oB H
     obtain ⟨t751, A200, H⟩ := H
     have A20 := am A200
     clear A200
     replace H := oB H
     obtain ⟨t754, A210, H⟩ := H
     have A21 := am A210
     clear A210
     obtain rfl := oI H
     obtain ⟨Ao22, co22, eo22⟩ := Kd.R_slice HO_3.out
     subst eo22
     go_wp2_with (first | ((with_reducible refine gate_callee (f := 17) rfl ?_); refine goesL_ (some 36) rfl rfl Try.func17 (by kernel_rfl) rfl #[.slice Ao22 t743.length co22] rfl tm ?_; (with_reducible refine (impl_Free.calls kj4 _ _ t743 t751 _ ?side1 ?side2 A20.out).mono ?_); (case side1 => exact sC (Kd.R_reads' HO_3.out).2.2); (case side2 => exact (Kd.R_reads' HO_3.out).2.1); rintro e w23 ⟨v752, rfl, ho0, hb⟩; refine ⟨_, rfl, ?_⟩; have n0_ := am (Kd.R_below (by exact sR <| HO_3.out) hb); have n1_ := am (Kd.R_lower ho0 (below_size (by exact sW HB.out))); have n2_ := am (below_step (by exact sW HB.out) hb); clear HO_3; clear HB; have HO_3 := n0_; have HO753 := n1_; have HB := n2_; clear n0_ n1_ n2_; (try clear hb); (try clear hb2); (try clear hk); (try clear hi); (try clear ho0); obtain ⟨Ao24, co24, eo24⟩ := Kd.R_slice HO753.out; subst eo24) | ((with_reducible refine gate_callee (f := 18) rfl ?_); refine goesL_ (some 39) rfl rfl Try.func18 (by kernel_rfl) rfl #[.slice Ao22 t743.length co22] rfl tm ?_; (with_reducible refine (spec_Free.calls kj4 _ _ t743 t754 _ ?side1 ?side2 A21.out).mono ?_); (case side1 => exact sC (Kd.R_reads' HO_3.out).2.2); (case side2 => exact (Kd.R_reads' HO_3.out).2.1); rintro e w25 ⟨v755, rfl, ho0, hb⟩; refine ⟨_, rfl, ?_⟩; have n0_ := am (Kd.R_below (by exact sR <| HO_3.out) hb); have n1_ := am (Kd.R_elder' (by exact sR <| HO753.out) (Kd.R_base ho0) hb); have n2_ := am (Kd.R_lower (Kd.R_new' ho0 (Kd.R_lt (by exact sR <| HO753.out))) (below_size (by exact sW HB.out))); have n3_ := am (below_step (by exact sW HB.out) hb); clear HO_3; clear HO753; clear HB; have HO_3 := n0_; have HO753 := n1_; have HO756 := n2_; have HB := n3_; clear n0_ n1_ n2_ n3_; (try clear hb); (try clear hb2); (try clear hk); (try clear hi); (try clear ho0); obtain ⟨Ao26, co26, eo26⟩ := Kd.R_slice HO756.out; subst eo26))
     go_ret
     exact ⟨by rfl, by exact sW HB.out⟩
    ·replace c19 := Bool.eq_false_iff.mpr c19
     subst c19
     rw [if_neg (show ¬ (false = true) by decide)] at H
     replace H := oB H
     obtain ⟨t757, A270, H⟩ := H
     have A27 := am A270
     clear A270
     obtain ⟨y758, hy758⟩ : ∃ y_ : List (S39), y_ = (([] : List (S39))) := ⟨_, rfl⟩
     replace H : (if y758.length + t743.length < 2932031007402 then ((some (y758 ++ t743 : List (S39))).bind fun y761 => ((laws_at.f l0 4).bind fun t764 => ((laws_at.f l0 5).bind fun t765 => (if y761.length < 2932031007402 then ((impl_Free.f kj4 t743).bind fun t772 => (laws_FnFree.l0 kj4 t743 (Int.tmod t757 8) (y761 ++ [(⟨wrap64 (19 + (Int.tmod t764 2)), 1, Int.tmod t757 8, wrap64 ((t743.length : Int) - 1), wrap64 (1 + (Int.tmod t765 8)), 0⟩ : S39)]) (([] : List Int)) t772 (t772.length : Int) 0)) else (none))))) else (none)) = some r := by (have H2_ := (Option.bind_some _ _).symm.trans H; rw [hy758]; with_reducible exact H2_)
     have Ny758 := am hy758
     clear hy758
     by_cases c28 : y758.length + t743.length < 2932031007402
     ·rw [if_pos c28] at H
      have LMc28 := am c28
      clear c28
      obtain ⟨y761, hy761⟩ : ∃ y_ : List (S39), y_ = (y758 ++ t743) := ⟨_, rfl⟩
      replace H : ((laws_at.f l0 4).bind fun t764 => ((laws_at.f l0 5).bind fun t765 => (if y761.length < 2932031007402 then ((impl_Free.f kj4 t743).bind fun t772 => (laws_FnFree.l0 kj4 t743 (Int.tmod t757 8) (y761 ++ [(⟨wrap64 (19 + (Int.tmod t764 2)), 1, Int.tmod t757 8, wrap64 ((t743.length : Int) - 1), wrap64 (1 + (Int.tmod t765 8)), 0⟩ : S39)]) (([] : List Int)) t772 (t772.length : Int) 0)) else (none)))) = some r := by (have H2_ := (Option.bind_some _ _).symm.trans H; rw [hy761]; with_reducible exact H2_)
      have Ny761 := am hy761
      clear hy761
      replace H := oB H
      obtain ⟨t764, A290, H⟩ := H
      have A29 := am A290
      clear A290
      replace H := oB H
      obtain ⟨t765, A300, H⟩ := H
      have A30 := am A300
      clear A300
      by_cases c31 : y761.length < 2932031007402
      ·rw [if_pos c31] at H
       have LMc31 := am c31
       clear c31
       obtain ⟨y766, hy766⟩ : ∃ y_ : List (S39), y_ = (y761 ++ [(⟨wrap64 (19 + (Int.tmod t764 2)), 1, Int.tmod t757 8, wrap64 ((t743.length : Int) - 1), wrap64 (1 + (Int.tmod t765 8)), 0⟩ : S39)]) := ⟨_, rfl⟩
       replace H : ((impl_Free.f kj4 t743).bind fun t772 => (laws_FnFree.l0 kj4 t743 (Int.tmod t757 8) y766 (([] : List Int)) t772 (t772.length : Int) 0)) = some r := by (rw [hy766]; with_reducible exact H)
       have Ny766 := am hy766
       clear hy766
       obtain ⟨y769, hy769⟩ : ∃ y_ : List Int, y_ = (([] : List Int)) := ⟨_, rfl⟩
       replace H : ((impl_Free.f kj4 t743).bind fun t772 => (laws_FnFree.l0 kj4 t743 (Int.tmod t757 8) y766 y769 t772 (t772.length : Int) 0)) = some r := by (rw [hy769]; with_reducible exact H)
       have Ny769 := am hy769
       clear hy769
       replace H := oB H
       obtain ⟨t772, A320, H⟩ := H
       have A32 := am A320
       clear A320
       have H' := am H
       clear H
       go_wp2_with (first | ((with_reducible refine gate_callee (f := 19) rfl ?_); refine goesL_ (some 43) rfl rfl Try.func19 (by kernel_rfl) rfl #[.slice A0 l0.length c0, .int .i64 3] rfl tm ?_; (with_reducible refine (laws_at.calls _ _ l0 3 t757 _ ?side1 ?side2 A27.out).mono ?_); (case side1 => exact sC (Kd.C_below HR0.out HB.out)); (case side2 => exact HC0.out); rintro e w' ⟨rfl, ⟨nd, rfl⟩⟩; refine ⟨_, rfl, ?_⟩) | ((with_reducible refine gate_dst (N := 45) rfl ?_); (try (refine gate_guard (by rfl) ?_; dsimp only)); refine Kd.R_lit k39 _ 39 ?hg (N := 45) ?hd (xs := ([] : List (S39))) (inner := []) (ok := fun _ => True) (okp := fun _ => True) ?hr ?hp (fun _ hk => hk) trivial (Below.refl _ _) (Nat.le_refl _) (by simp) ?_; (case hd => rfl); (case hg => rfl); (case hr => (go_simp; done)); (case hp => exact (Reps.none _ _)); intro v759 w33 ho34 hb hg_ hnew_; clear hg_ hnew_; (rw [← Ny758.out] at ho34); have n0_ := am (Kd.R_elder' (by exact sR <| HO_3.out) (Kd.R_base ho34) hb); have n1_ := am (Kd.R_lower (Kd.R_new' ho34 (Kd.R_lt (by exact sR <| HO_3.out))) (below_size (by exact sW HB.out))); have n2_ := am (below_step (by exact sW HB.out) hb); clear HO_3; clear HB; have HO_3 := n0_; have HO760 := n1_; have HB := n2_; clear n0_ n1_ n2_; clear hb ho34; obtain ⟨Ao36, co36, eo36⟩ := Kd.R_slice HO_3.out; subst eo36) | ((with_reducible refine gate_builtin (b := .append) (xs := #[.tmp 45, .tmp 46]) rfl ?_); (try (refine gate_guard (by rfl) ?_; dsimp only)); at_builtin; refine Kd.R_append_rows k39 (w0 := w) w.heap.size rfl (.tmp 45) (.tmp 46) 26 39 (.agg #[(.int .i64 0), (.int .i64 0), (.int .i64 0), (.int .i64 0), (.int .i64 0), (.int .i64 0)]) 48 rfl Try.underlying26 info39 rfl (by decide) (by omega) v759 y758 t743 _ _ _ (fun k_ => some k_ ≠ (.slice Ao36 t743.length co36 : Value).ownBlock) (fun _ => False) rfl rfl ?aO ?aR (fun _ _ h => h) (fun _ h => h.elim) ?aF ?aB ?aS ?aL ?_; (case aR => exact sC (Kd.R_reads' HO_3.out).2.2); (case aB => exact (by exact sW HB.out)); (case aF => exact (fun k_ hk => Kd.fresh' (Kd.R_lt (by exact sR <| HO_3.out)) k_ hk)); (case aO => exact (by exact sR <| Kd.R_mono HO760.out (fun _ hk => hk.2))); (case aS => exact (below_size (by exact sW HB.out))); (case aL => have := LMc28.out; omega); intro v762 w35 ho hb hg hat; rw [← Ny761.out] at ho; have n0_ := am (Kd.R_after (ok := (fun _ => True)) (by exact sR <| HO_3.out) hg hat); have n1_ := am (hb); have n2_ := am (ho); clear HO_3; clear HB; clear HO760; have HO_3 := n0_; have HB := n1_; have HO763 := n2_; clear n0_ n1_ n2_; clear ho hb hg hat) | ((with_reducible refine gate_callee (f := 19) rfl ?_); refine goesL_ (some 49) rfl rfl Try.func19 (by kernel_rfl) rfl #[.slice A0 l0.length c0, .int .i64 4] rfl tm ?_; (with_reducible refine (laws_at.calls _ _ l0 4 t764 _ ?side1 ?side2 A29.out).mono ?_); (case side1 => exact sC (Kd.C_below HR0.out HB.out)); (case side2 => exact HC0.out); rintro e w' ⟨rfl, ⟨nd, rfl⟩⟩; refine ⟨_, rfl, ?_⟩) | ((with_reducible refine gate_callee (f := 19) rfl ?_); refine goesL_ (some 57) rfl rfl Try.func19 (by kernel_rfl) rfl #[.slice A0 l0.length c0, .int .i64 5] rfl tm ?_; (with_reducible refine (laws_at.calls _ _ l0 5 t765 _ ?side1 ?side2 A30.out).mono ?_); (case side1 => exact sC (Kd.C_below HR0.out (by exact sW HB.out))); (case side2 => exact HC0.out); rintro e w' ⟨rfl, ⟨nd, rfl⟩⟩; refine ⟨_, rfl, ?_⟩) | ((with_reducible refine gate_builtin (b := .append) (xs := #[.tmp 47, .tmp 61]) rfl ?_); (try (refine gate_guard (by rfl) ?_; dsimp only)); at_builtin; refine Kd.R_append k39 (w0 := w) w.heap.size rfl (.tmp 47) (.tmp 61) 26 39 (.agg #[(.int .i64 0), (.int .i64 0), (.int .i64 0), (.int .i64 0), (.int .i64 0), (.int .i64 0)]) 48 rfl Try.underlying26 info39 rfl (by decide) (by omega) v762 y761 (⟨wrap64 (19 + (Int.tmod t764 2)), 1, Int.tmod t757 8, wrap64 ((t743.length : Int) - 1), wrap64 (1 + (Int.tmod t765 8)), 0⟩ : S39) [.int .i64 (wrap64 (19 + (Int.tmod t764 2))), .int .i64 1, .int .i64 (Int.tmod t757 8), .int .i64 (wrap64 ((t743.length : Int) - 1)), .int .i64 (wrap64 (1 + (Int.tmod t765 8))), .int .i64 0] (fun k_ => some k_ ≠ (.slice Ao36 t743.length co36 : Value).ownBlock) (fun _ => False) rfl rfl ?aP (fun _ hk => hk.elim) ?aF ?aO ?aB ?aS ?aL ?_; (case aP => exact k39_mkM _ _ _ (⟨wrap64 (19 + (Int.tmod t764 2)), 1, Int.tmod t757 8, wrap64 ((t743.length : Int) - 1), wrap64 (1 + (Int.tmod t765 8)), 0⟩ : S39)); (case aB => exact (by exact sW HB.out)); (case aF => exact (fun k_ hk => Kd.fresh' (Kd.R_lt (by exact sR <| HO_3.out)) k_ hk)); (case aO => exact (by exact sR <| HO763.out)); (case aS => exact (below_size (by exact sW HB.out))); (case aL => have := LMc31.out; omega); intro v767 w37 ho hb hg hat; rw [← Ny766.out] at ho; have n0_ := am (Kd.R_after (ok := (fun _ => True)) (by exact sR <| HO_3.out) hg hat); have n1_ := am (hb); have n2_ := am (ho); clear HO_3; clear HB; clear HO763; have HO_3 := n0_; have HB := n1_; have HO768 := n2_; clear n0_ n1_ n2_; clear ho hb hg hat) | ((with_reducible refine gate_dst (N := 63) rfl ?_); (try (refine gate_guard (by rfl) ?_; dsimp only)); refine Kd.R_lit (Kd.int .i64) _ 3 ?hg (N := 63) ?hd (xs := ([] : List Int)) (inner := []) (ok := fun _ => True) (okp := fun _ => True) ?hr ?hp (fun _ hk => hk) trivial (Below.refl _ _) (Nat.le_refl _) (by simp) ?_; (case hd => rfl); (case hg => rfl); (case hr => (go_simp; done)); (case hp => exact (Reps.none _ _)); intro v770 w38 ho39 hb hg_ hnew_; clear hg_ hnew_; (rw [← Ny769.out] at ho39); have n0_ := am (Kd.R_below (by exact sR <| HO_3.out) hb); have n1_ := am (Kd.R_below (by exact sR <| HO768.out) hb); have n2_ := am (Kd.R_lower ho39 (below_size (by exact sW HB.out))); have n3_ := am (below_step (by exact sW HB.out) hb); clear HO_3; clear HO768; clear HB; have HO_3 := n0_; have HO768 := n1_; have HO771 := n2_; have HB := n3_; clear n0_ n1_ n2_ n3_; clear hb ho39) | ((with_reducible refine gate_callee (f := 17) rfl ?_); refine goesL_ (some 65) rfl rfl Try.func17 (by kernel_rfl) rfl #[.slice Ao36 t743.length co36] rfl tm ?_; (with_reducible refine (impl_Free.calls kj4 _ _ t743 t772 _ ?side1 ?side2 A32.out).mono ?_); (case side1 => exact sC (Kd.R_reads' HO_3.out).2.2); (case side2 => exact (Kd.R_reads' HO_3.out).2.1); rintro e w40 ⟨v773, rfl, ho0, hb⟩; refine ⟨_, rfl, ?_⟩; have n0_ := am (Kd.R_below (by exact sR <| HO_3.out) hb); have n1_ := am (Kd.R_below (by exact sR <| HO768.out) hb); have n2_ := am (Kd.R_elder' (by exact sR <| HO771.out) (Kd.R_base ho0) hb); have n3_ := am (Kd.R_lower (Kd.R_new' ho0 (Kd.R_lt (by exact sR <| HO771.out))) (below_size (by exact sW HB.out))); have n4_ := am (below_step (by exact sW HB.out) hb); clear HO_3; clear HO768; clear HO771; clear HB; have HO_3 := n0_; have HO768 := n1_; have HO771 := n2_; have HO774 := n3_; have HB := n4_; clear n0_ n1_ n2_ n3_ n4_; (try clear hb); (try clear hb2); (try clear hk); (try clear hi); (try clear ho0); obtain ⟨Ao41, co41, eo41⟩ := Kd.R_slice HO774.out; subst eo41))
       go_loopg [7, 67] kj4 (fun kq v7 v67 w' => ∃ (x7_2 : List Int) (x67_2 : Int), v67 = .int .i64 x67_2 ∧ Aside0 (laws_FnFree.l0 kq t743 (Int.tmod t757 8) y766 x7_2 t772 (t772.length : Int) x67_2 = some r) ∧ Aside0 (kq ≤ kj4) ∧ Aside0 (Kd.R k39 39 w' w.heap.size (fun k_ => some k_ ≠ (v767 : Value).ownBlock) (.slice Ao36 t743.length co36) t743) ∧ Aside0 (Kd.R k39 39 w' w.heap.size (fun k_ => some k_ ≠ ((.slice Ao36 t743.length co36) : Value).ownBlock) v767 y766) ∧ Aside0 (Kd.R (Kd.int .i64) 3 w' w.heap.size (fun k_ => some k_ ≠ ((.slice Ao41 t772.length co41) : Value).ownBlock) v7 x7_2) ∧ Aside0 (Kd.R (Kd.int .i64) 3 w' w.heap.size (fun k_ => some k_ ≠ (v7 : Value).ownBlock) (.slice Ao41 t772.length co41) t772) ∧ Aside0 (Below w.heap.size w w'))
       case atStart => exact ⟨(y769), (0), (by rfl), H', ⟨Nat.le_refl _⟩, ⟨by exact sR <| Kd.R_mono HO_3.out (fun _ hk => hk.2)⟩, ⟨by exact sR <| HO768.out⟩, ⟨by exact sR <| Kd.R_mono HO771.out (fun _ hk => hk.2)⟩, ⟨by exact sR <| Kd.R_mono HO774.out (fun _ hk => hk.2)⟩, ⟨by exact sW HB.out⟩⟩
       case round =>
        clear H'
        obtain ⟨x7_2, x67_2, rfl, HA, HK2, HO_3, HO_6, HO_7, HO_65, HB⟩ := hrel
        cases gk with
        | zero => exact absurd HA.out (by simp [laws_FnFree.l0])
        | succ k2 =>
         have H := HA.out
         clear HA
         simp only [laws_FnFree.l0] at H
         by_cases c42 : x67_2 < (t772.length : Int)
         ·rw [if_pos c42] at H
          have c42b0 : decide (x67_2 < (t772.length : Int)) = true := decide_eq_true c42
          clear c42
          by_cases c43 : 0 ≤ x67_2
          ·rw [if_pos c43] at H
           have c43b0 : decide (0 ≤ x67_2) = true := decide_eq_true c43
           clear c43
           by_cases c44 : x67_2 < (t772.length : Int)
           ·rw [if_pos c44] at H
            have c44b0 : decide (x67_2 < (t772.length : Int)) = true := decide_eq_true c44
            clear c44
            by_cases c45 : (rd t772 x67_2) = (Int.tmod t757 8)
            ·rw [if_pos c45] at H
             have c45b0 : ((rd t772 x67_2) == (Int.tmod t757 8)) = true := beq_iff_eq.mpr c45
             have c45b1 : ((rd t772 x67_2) != (Int.tmod t757 8)) = false := bne_eq_false_iff_eq.mpr c45
             clear c45
             have H' := am H
             clear H
             have p775 : 0 ≤ (x67_2 : Int) := oD (by assumption)
             have q775 : x67_2 < (t772.length : Int) := oD (by assumption)
             obtain ⟨ad775, e775, hx775_0⟩ := Kd.at_int (Kd.R_reads' HO_65.out).2.2 x67_2 p775 q775
             cases e775
             replace p775 := eq_true p775
             replace q775 := eq_true q775
             go_wp2
             go_roundg k2
             case measure => have := HJ4.out; have := HK2.out; omega
             case rel => exact ⟨(x7_2), (wrap64 (x67_2 + 1)), (by rfl), H', ⟨by have := HJ4.out; have := HK2.out; omega⟩, ⟨by exact sR <| HO_3.out⟩, ⟨by exact sR <| HO_6.out⟩, ⟨by exact sR <| HO_7.out⟩, ⟨by exact sR <| HO_65.out⟩, ⟨by exact sW HB.out⟩⟩
            ·rw [if_neg c45] at H
             have c45b0 : ((rd t772 x67_2) == (Int.tmod t757 8)) = false := beq_eq_false_iff_ne.mpr c45
             have c45b1 : ((rd t772 x67_2) != (Int.tmod t757 8)) = true := bne_iff_ne.mpr c45
             by_cases c46 : x7_2.length < 17592186044416
             ·rw [if_pos c46] at H
              have LMc46 := am c46
              clear c46
              obtain ⟨y776, hy776⟩ : ∃ y_ : List Int, y_ = (x7_2 ++ [rd t772 x67_2]) := ⟨_, rfl⟩
              replace H : (laws_FnFree.l0 k2 t743 (Int.tmod t757 8) y766 y776 t772 (t772.length : Int) (wrap64 (x67_2 + 1))) = some r := by (rw [hy776]; with_reducible exact H)
              have Ny776 := am hy776
              clear hy776
              have H' := am H
              clear H
              have p775 : 0 ≤ (x67_2 : Int) := oD (by assumption)
              have q775 : x67_2 < (t772.length : Int) := oD (by assumption)
              obtain ⟨ad775, e775, hx775_0⟩ := Kd.at_int (Kd.R_reads' HO_65.out).2.2 x67_2 p775 q775
              cases e775
              replace p775 := eq_true p775
              replace q775 := eq_true q775
              go_wp2_with (first | ((with_reducible refine gate_builtin (b := .append) (xs := #[.tmp 74, .tmp 76]) rfl ?_); (try (refine gate_guard (by rfl) ?_; dsimp only)); at_builtin; refine Kd.R_append (Kd.int .i64) (w0 := w) w.heap.size rfl (.tmp 74) (.tmp 76) 24 3 (.int .i64 0) 8 rfl Try.underlying24 info3 rfl (by decide) (by omega) u7 x7_2 (rd t772 x67_2) [.int .i64 (rd t772 x67_2)] (fun k_ => some k_ ≠ (.slice (some ad775) t772.length co41 : Value).ownBlock) (fun _ => False) rfl rfl ?aP (fun _ hk => hk.elim) ?aF ?aO ?aB ?aS ?aL ?_; (case aP => exact rfl); (case aB => exact (by exact sW HB.out)); (case aF => exact (fun k_ hk => Kd.fresh' (Kd.R_lt (by exact sR <| HO_65.out)) k_ hk)); (case aO => exact (by exact sR <| HO_7.out)); (case aS => exact (below_size (by exact sW HB.out))); (case aL => have := LMc46.out; omega); intro v777 w47 ho hb hg hat; rw [← Ny776.out] at ho; have n0_ := am (Kd.R_over' (by exact sR <| HO_3.out) (Kd.R_typed (by exact sR <| HO_7.out)) (by decide) hg); have n1_ := am (Kd.R_over' (by exact sR <| HO_6.out) (Kd.R_typed (by exact sR <| HO_7.out)) (by decide) hg); have n2_ := am (Kd.R_after (ok := (fun _ => True)) (by exact sR <| Kd.R_mono HO_65.out (fun _ hk => ⟨trivial, hk⟩)) hg hat); have n3_ := am (hb); have n4_ := am (ho); clear HO_3; clear HO_6; clear HO_65; clear HB; clear HO_7; have HO_3 := n0_; have HO_6 := n1_; have HO_65 := n2_; have HB := n3_; have HO778 := n4_; clear n0_ n1_ n2_ n3_ n4_; clear ho hb hg hat))
              go_roundg k2
              case measure => have := HJ4.out; have := HK2.out; omega
              case rel => exact ⟨(y776), (wrap64 (x67_2 + 1)), (by rfl), H', ⟨by have := HJ4.out; have := HK2.out; omega⟩, ⟨by exact sR <| HO_3.out⟩, ⟨by exact sR <| HO_6.out⟩, ⟨by exact sR <| HO778.out⟩, ⟨by exact sR <| Kd.R_mono HO_65.out (fun _ hk => hk.2)⟩, ⟨by exact sW HB.out⟩⟩
             ·rw [if_neg c46] at H
              exact absurd H (by simp)
           ·rw [if_neg c44] at H
            exact absurd H (by simp)
          ·rw [if_neg c43] at H
           exact absurd H (by simp)
         ·rw [if_neg c42] at H
          have c42b0 : decide (x67_2 < (t772.length : Int)) = false := decide_eq_false c42
          clear c42
          replace H := oB H
          obtain ⟨t779, A480, H⟩ := H
          have A48 := am A480
          clear A480
          by_cases c49 : t779 = true
          ·subst c49
           rw [if_pos rfl] at H
           replace H := oB H
           obtain ⟨t780, A500, H⟩ := H
           have A50 := am A500
           clear A500
           replace H := oB H
           obtain ⟨t783, A510, H⟩ := H
           have A51 := am A510
           clear A510
           by_cases c52 : t783 = true
           ·subst c52
            rw [if_pos rfl] at H
            replace H := oB H
            obtain ⟨t784, A530, H⟩ := H
            have A53 := am A530
            clear A530
            replace H := oB H
            obtain ⟨t787, A540, H⟩ := H
            have A54 := am A540
            clear A540
            replace H := oB H
            obtain ⟨t790, A550, H⟩ := H
            have A55 := am A550
            clear A550
            by_cases c56 : t790 = true
            ·subst c56
             rw [if_pos rfl] at H
             obtain ⟨ji57, hji57⟩ : ∃ j_ : Int, (wrap64 ((y766.length : Int) - 1)) = j_ := ⟨_, rfl⟩
             replace H : (if 0 ≤ (ji57) then (if (ji57) < (y766.length : Int) then ((impl_Parts.f k2 ((rd_T39 y766 (ji57)).f0) ((rd_T39 y766 (ji57)).f1) ((rd_T39 y766 (ji57)).f2) ((rd_T39 y766 (ji57)).f3) ((rd_T39 y766 (ji57)).f4) ((rd_T39 y766 (ji57)).f5)).bind fun t792 => (some ((t792.length : Int) == 1))) else (none)) else (none)) = some r := by (rw [hji57] at H; exact H)
             (try rw [hji57] at A48)
             (try rw [hji57] at A50)
             (try rw [hji57] at A51)
             (try rw [hji57] at A53)
             (try rw [hji57] at A54)
             (try rw [hji57] at A55)
             have hji57w : (IntKind.i64.wrap ((y766.length : Int) - 1)) = ji57 := (i64_w _).trans hji57
             by_cases c58 : 0 ≤ (ji57)
             ·rw [if_pos c58] at H
              have c58b0 : decide (0 ≤ (ji57)) = true := decide_eq_true c58
              clear c58
              by_cases c59 : (ji57) < (y766.length : Int)
              ·rw [if_pos c59] at H
               have c59b0 : decide ((ji57) < (y766.length : Int)) = true := decide_eq_true c59
               clear c59
               replace H := oB H
               obtain ⟨t792, A600, H⟩ := H
               have A60 := am A600
               clear A600
               obtain rfl := oI H
               obtain ⟨Ao61, co61, eo61⟩ := Kd.R_slice HO_6.out
               subst eo61
               go_wp2_with (first | ((with_reducible refine gate_callee (f := 20) rfl ?_); refine goesL_ (some 80) rfl rfl Try.func20 (by kernel_rfl) rfl #[.slice Ao61 y766.length co61] rfl tm ?_; (with_reducible refine (impl_TermOk.calls k2 _ _ y766 true _ ?side1 ?side2 A48.out).mono ?_); (case side1 => exact sC (Kd.R_reads' HO_6.out).2.2); (case side2 => exact (Kd.R_reads' HO_6.out).2.1); rintro e w62 ⟨rfl, hb⟩; refine ⟨_, rfl, ?_⟩; have n0_ := am (Kd.R_below (by exact sR <| HO_3.out) hb); have n1_ := am (Kd.R_below (by exact sR <| HO_6.out) hb); have n2_ := am (Kd.R_below (by exact sR <| HO_7.out) hb); have n3_ := am (Kd.R_below (by exact sR <| HO_65.out) hb); have n4_ := am (below_step (by exact sW HB.out) hb); clear HO_3; clear HO_6; clear HO_7; clear HO_65; clear HB; have HO_3 := n0_; have HO_6 := n1_; have HO_7 := n2_; have HO_65 := n3_; have HB := n4_; clear n0_ n1_ n2_ n3_ n4_; (try clear hb); (try clear hb2); (try clear hk); (try clear hi)) | (go_at_call 17; (with_reducible refine (impl_Free.calls k2 _ _ y766 t780 _ ?side1 ?side2 A50.out).mono ?_); (case side1 => exact sC (Kd.R_reads' HO_6.out).2.2); (case side2 => exact (Kd.R_reads' HO_6.out).2.1); rintro e w63 ⟨v781, rfl, ho0, hb⟩; have n0_ := am (Kd.R_below (by exact sR <| HO_3.out) hb); have n1_ := am (Kd.R_below (by exact sR <| HO_6.out) hb); have n2_ := am (Kd.R_elder' (by exact sR <| HO_7.out) (Kd.R_base ho0) hb); have n3_ := am (Kd.R_elder' (by exact sR <| HO_65.out) (Kd.R_base ho0) hb); have n4_ := am (Kd.R_lower (Kd.R_new' (Kd.R_new' ho0 (Kd.R_lt (by exact sR <| HO_7.out))) (Kd.R_lt (by exact sR <| HO_65.out))) (below_size (by exact sW HB.out))); have n5_ := am (below_step (by exact sW HB.out) hb); clear HO_3; clear HO_6; clear HO_7; clear HO_65; clear HB; have HO_3 := n0_; have HO_6 := n1_; have HO_7 := n2_; have HO_65 := n3_; have HO782 := n4_; have HB := n5_; clear n0_ n1_ n2_ n3_ n4_ n5_; (try clear hb); (try clear hb2); (try clear hk); (try clear hi); (try clear ho0); obtain ⟨Ao64, co64, eo64⟩ := Kd.R_slice HO782.out; subst eo64; obtain ⟨Ao65, co65, eo65⟩ := Kd.R_slice HO_7.out; subst eo65) | (go_at_call 21; (with_reducible refine (laws_sameInts.calls k2 _ _ t780 _ _ x7_2 true _ ?side1 ?side2 ?side3 ?side4 A51.out).mono ?_); (case side1 => exact sC (Kd.R_reads' HO782.out).2.2); (case side2 => exact (Kd.R_reads' HO782.out).2.1); (case side3 => exact sC (Kd.R_reads' HO_7.out).2.2); (case side4 => exact (Kd.R_reads' HO_7.out).2.1); rintro e w' ⟨rfl, ⟨nd, rfl⟩⟩) | (go_at_call 17; (with_reducible refine (impl_Free.calls k2 _ _ t743 t784 _ ?side1 ?side2 A53.out).mono ?_); (case side1 => exact sC (Kd.R_reads' HO_3.out).2.2); (case side2 => exact (Kd.R_reads' HO_3.out).2.1); rintro e w66 ⟨v785, rfl, ho0, hb⟩; have n0_ := am (Kd.R_below (by exact sR <| HO_3.out) hb); have n1_ := am (Kd.R_below (by exact sR <| HO_6.out) hb); have n2_ := am (Kd.R_elder' (by exact sR <| HO_7.out) (Kd.R_base ho0) hb); have n3_ := am (Kd.R_elder' (by exact sR <| HO_65.out) (Kd.R_base ho0) hb); have n4_ := am (Kd.R_elder' (by exact sR <| HO782.out) (Kd.R_base ho0) hb); have n5_ := am (Kd.R_lower (Kd.R_new' (Kd.R_new' (Kd.R_new' ho0 (Kd.R_lt (by exact sR <| HO_7.out))) (Kd.R_lt (by exact sR <| HO_65.out))) (Kd.R_lt (by exact sR <| HO782.out))) (below_size (by exact sW HB.out))); have n6_ := am (below_step (by exact sW HB.out) hb); clear HO_3; clear HO_6; clear HO_7; clear HO_65; clear HO782; clear HB; have HO_3 := n0_; have HO_6 := n1_; have HO_7 := n2_; have HO_65 := n3_; have HO782 := n4_; have HO786 := n5_; have HB := n6_; clear n0_ n1_ n2_ n3_ n4_ n5_ n6_; (try clear hb); (try clear hb2); (try clear hk); (try clear hi); (try clear ho0)) | (go_at_call 18; (with_reducible refine (spec_Free.calls k2 _ _ t743 t787 _ ?side1 ?side2 A54.out).mono ?_); (case side1 => exact sC (Kd.R_reads' HO_3.out).2.2); (case side2 => exact (Kd.R_reads' HO_3.out).2.1); rintro e w67 ⟨v788, rfl, ho0, hb⟩; have n0_ := am (Kd.R_below (by exact sR <| HO_3.out) hb); have n1_ := am (Kd.R_below (by exact sR <| HO_6.out) hb); have n2_ := am (Kd.R_elder' (by exact sR <| HO_7.out) (Kd.R_base ho0) hb); have n3_ := am (Kd.R_elder' (by exact sR <| HO_65.out) (Kd.R_base ho0) hb); have n4_ := am (Kd.R_elder' (by exact sR <| HO782.out) (Kd.R_base ho0) hb); have n5_ := am (Kd.R_elder' (by exact sR <| HO786.out) (Kd.R_base ho0) hb); have n6_ := am (Kd.R_lower (Kd.R_new' (Kd.R_new' (Kd.R_new' (Kd.R_new' ho0 (Kd.R_lt (by exact sR <| HO_7.out))) (Kd.R_lt (by exact sR <| HO_65.out))) (Kd.R_lt (by exact sR <| HO782.out))) (Kd.R_lt (by exact sR <| HO786.out))) (below_size (by exact sW HB.out))); have n7_ := am (below_step (by exact sW HB.out) hb); clear HO_3; clear HO_6; clear HO_7; clear HO_65; clear HO782; clear HO786; clear HB; have HO_3 := n0_; have HO_6 := n1_; have HO_7 := n2_; have HO_65 := n3_; have HO782 := n4_; have HO786 := n5_; have HO789 := n6_; have HB := n7_; clear n0_ n1_ n2_ n3_ n4_ n5_ n6_ n7_; (try clear hb); (try clear hb2); (try clear hk); (try clear hi); (try clear ho0); obtain ⟨Ao68, co68, eo68⟩ := Kd.R_slice HO786.out; subst eo68; obtain ⟨Ao69, co69, eo69⟩ := Kd.R_slice HO789.out; subst eo69) | (go_at_call 21; (with_reducible refine (laws_sameInts.calls k2 _ _ t784 _ _ t787 true _ ?side1 ?side2 ?side3 ?side4 A55.out).mono ?_); (case side1 => exact sC (Kd.R_reads' HO786.out).2.2); (case side2 => exact (Kd.R_reads' HO786.out).2.1); (case side3 => exact sC (Kd.R_reads' HO789.out).2.2); (case side4 => exact (Kd.R_reads' HO789.out).2.1); rintro e w' ⟨rfl, ⟨nd, rfl⟩⟩; have p791 : 0 ≤ ((ji57) : Int) := oD (by assumption); have q791 : (ji57) < (y766.length : Int) := oD (by assumption); obtain ⟨ad791, e791, hx791_0, hx791_1, hx791_2, hx791_3, hx791_4, hx791_5⟩ := at_T39 (Kd.R_reads' HO_6.out).2.2 (ji57) p791 q791; cases e791; replace p791 := eq_true p791; replace q791 := eq_true q791) | (go_at_call 22; (with_reducible refine (impl_Parts.calls k2 ((rd_T39 y766 (ji57)).f0) ((rd_T39 y766 (ji57)).f1) ((rd_T39 y766 (ji57)).f2) ((rd_T39 y766 (ji57)).f3) ((rd_T39 y766 (ji57)).f4) ((rd_T39 y766 (ji57)).f5) t792 _ A60.out).mono ?_); rintro e w70 ⟨v793, rfl, ho0, hb⟩; have n0_ := am (Kd.R_below (by exact sR <| HO_3.out) hb); have n1_ := am (Kd.R_below (by exact sR <| HO_6.out) hb); have n2_ := am (Kd.R_elder' (by exact sR <| HO_7.out) (Kd.R_base ho0) hb); have n3_ := am (Kd.R_elder' (by exact sR <| HO_65.out) (Kd.R_base ho0) hb); have n4_ := am (Kd.R_elder' (by exact sR <| HO782.out) (Kd.R_base ho0) hb); have n5_ := am (Kd.R_elder' (by exact sR <| HO786.out) (Kd.R_base ho0) hb); have n6_ := am (Kd.R_elder' (by exact sR <| HO789.out) (Kd.R_base ho0) hb); have n7_ := am (Kd.R_lower (Kd.R_new' (Kd.R_new' (Kd.R_new' (Kd.R_new' (Kd.R_new' ho0 (Kd.R_lt (by exact sR <| HO_7.out))) (Kd.R_lt (by exact sR <| HO_65.out))) (Kd.R_lt (by exact sR <| HO782.out))) (Kd.R_lt (by exact sR <| HO786.out))) (Kd.R_lt (by exact sR <| HO789.out))) (below_size (by exact sW HB.out))); have n8_ := am (below_step (by exact sW HB.out) hb); clear HO_3; clear HO_6; clear HO_7; clear HO_65; clear HO782; clear HO786; clear HO789; clear HB; have HO_3 := n0_; have HO_6 := n1_; have HO_7 := n2_; have HO_65 := n3_; have HO782 := n4_; have HO786 := n5_; have HO789 := n6_; have HO794 := n7_; have HB := n8_; clear n0_ n1_ n2_ n3_ n4_ n5_ n6_ n7_ n8_; (try clear hb); (try clear hb2); (try clear hk); (try clear hi); (try clear ho0); obtain ⟨Ao71, co71, eo71⟩ := Kd.R_slice HO794.out; subst eo71))
               go_ret
               exact ⟨by rfl, by exact sW HB.out⟩
              ·rw [if_neg c59] at H
               exact absurd H (by simp)
             ·rw [if_neg c58] at H
              exact absurd H (by simp)
            ·replace c56 := Bool.eq_false_iff.mpr c56
             subst c56
             rw [if_neg (show ¬ (false = true) by decide)] at H
             obtain rfl := oI H
             obtain ⟨Ao72, co72, eo72⟩ := Kd.R_slice HO_6.out
             subst eo72
             go_wp2_with (first | ((with_reducible refine gate_callee (f := 20) rfl ?_); refine goesL_ (some 80) rfl rfl Try.func20 (by kernel_rfl) rfl #[.slice Ao72 y766.length co72] rfl tm ?_; (with_reducible refine (impl_TermOk.calls k2 _ _ y766 true _ ?side1 ?side2 A48.out).mono ?_); (case side1 => exact sC (Kd.R_reads' HO_6.out).2.2); (case side2 => exact (Kd.R_reads' HO_6.out).2.1); rintro e w73 ⟨rfl, hb⟩; refine ⟨_, rfl, ?_⟩; have n0_ := am (Kd.R_below (by exact sR <| HO_3.out) hb); have n1_ := am (Kd.R_below (by exact sR <| HO_6.out) hb); have n2_ := am (Kd.R_below (by exact sR <| HO_7.out) hb); have n3_ := am (Kd.R_below (by exact sR <| HO_65.out) hb); have n4_ := am (below_step (by exact sW HB.out) hb); clear HO_3; clear HO_6; clear HO_7; clear HO_65; clear HB; have HO_3 := n0_; have HO_6 := n1_; have HO_7 := n2_; have HO_65 := n3_; have HB := n4_; clear n0_ n1_ n2_ n3_ n4_; (try clear hb); (try clear hb2); (try clear hk); (try clear hi)) | (go_at_call 17; (with_reducible refine (impl_Free.calls k2 _ _ y766 t780 _ ?side1 ?side2 A50.out).mono ?_); (case side1 => exact sC (Kd.R_reads' HO_6.out).2.2); (case side2 => exact (Kd.R_reads' HO_6.out).2.1); rintro e w74 ⟨v781, rfl, ho0, hb⟩; have n0_ := am (Kd.R_below (by exact sR <| HO_3.out) hb); have n1_ := am (Kd.R_below (by exact sR <| HO_6.out) hb); have n2_ := am (Kd.R_elder' (by exact sR <| HO_7.out) (Kd.R_base ho0) hb); have n3_ := am (Kd.R_elder' (by exact sR <| HO_65.out) (Kd.R_base ho0) hb); have n4_ := am (Kd.R_lower (Kd.R_new' (Kd.R_new' ho0 (Kd.R_lt (by exact sR <| HO_7.out))) (Kd.R_lt (by exact sR <| HO_65.out))) (below_size (by exact sW HB.out))); have n5_ := am (below_step (by exact sW HB.out) hb); clear HO_3; clear HO_6; clear HO_7; clear HO_65; clear HB; have HO_3 := n0_; have HO_6 := n1_; have HO_7 := n2_; have HO_65 := n3_; have HO782 := n4_; have HB := n5_; clear n0_ n1_ n2_ n3_ n4_ n5_; (try clear hb); (try clear hb2); (try clear hk); (try clear hi); (try clear ho0); obtain ⟨Ao75, co75, eo75⟩ := Kd.R_slice HO782.out; subst eo75; obtain ⟨Ao76, co76, eo76⟩ := Kd.R_slice HO_7.out; subst eo76) | (go_at_call 21; (with_reducible refine (laws_sameInts.calls k2 _ _ t780 _ _ x7_2 true _ ?side1 ?side2 ?side3 ?side4 A51.out).mono ?_); (case side1 => exact sC (Kd.R_reads' HO782.out).2.2); (case side2 => exact (Kd.R_reads' HO782.out).2.1); (case side3 => exact sC (Kd.R_reads' HO_7.out).2.2); (case side4 => exact (Kd.R_reads' HO_7.out).2.1); rintro e w' ⟨rfl, ⟨nd, rfl⟩⟩) | (go_at_call 17; (with_reducible refine (impl_Free.calls k2 _ _ t743 t784 _ ?side1 ?side2 A53.out).mono ?_); (case side1 => exact sC (Kd.R_reads' HO_3.out).2.2); (case side2 => exact (Kd.R_reads' HO_3.out).2.1); rintro e w77 ⟨v785, rfl, ho0, hb⟩; have n0_ := am (Kd.R_below (by exact sR <| HO_3.out) hb); have n1_ := am (Kd.R_below (by exact sR <| HO_6.out) hb); have n2_ := am (Kd.R_elder' (by exact sR <| HO_7.out) (Kd.R_base ho0) hb); have n3_ := am (Kd.R_elder' (by exact sR <| HO_65.out) (Kd.R_base ho0) hb); have n4_ := am (Kd.R_elder' (by exact sR <| HO782.out) (Kd.R_base ho0) hb); have n5_ := am (Kd.R_lower (Kd.R_new' (Kd.R_new' (Kd.R_new' ho0 (Kd.R_lt (by exact sR <| HO_7.out))) (Kd.R_lt (by exact sR <| HO_65.out))) (Kd.R_lt (by exact sR <| HO782.out))) (below_size (by exact sW HB.out))); have n6_ := am (below_step (by exact sW HB.out) hb); clear HO_3; clear HO_6; clear HO_7; clear HO_65; clear HO782; clear HB; have HO_3 := n0_; have HO_6 := n1_; have HO_7 := n2_; have HO_65 := n3_; have HO782 := n4_; have HO786 := n5_; have HB := n6_; clear n0_ n1_ n2_ n3_ n4_ n5_ n6_; (try clear hb); (try clear hb2); (try clear hk); (try clear hi); (try clear ho0)) | (go_at_call 18; (with_reducible refine (spec_Free.calls k2 _ _ t743 t787 _ ?side1 ?side2 A54.out).mono ?_); (case side1 => exact sC (Kd.R_reads' HO_3.out).2.2); (case side2 => exact (Kd.R_reads' HO_3.out).2.1); rintro e w78 ⟨v788, rfl, ho0, hb⟩; have n0_ := am (Kd.R_below (by exact sR <| HO_3.out) hb); have n1_ := am (Kd.R_below (by exact sR <| HO_6.out) hb); have n2_ := am (Kd.R_elder' (by exact sR <| HO_7.out) (Kd.R_base ho0) hb); have n3_ := am (Kd.R_elder' (by exact sR <| HO_65.out) (Kd.R_base ho0) hb); have n4_ := am (Kd.R_elder' (by exact sR <| HO782.out) (Kd.R_base ho0) hb); have n5_ := am (Kd.R_elder' (by exact sR <| HO786.out) (Kd.R_base ho0) hb); have n6_ := am (Kd.R_lower (Kd.R_new' (Kd.R_new' (Kd.R_new' (Kd.R_new' ho0 (Kd.R_lt (by exact sR <| HO_7.out))) (Kd.R_lt (by exact sR <| HO_65.out))) (Kd.R_lt (by exact sR <| HO782.out))) (Kd.R_lt (by exact sR <| HO786.out))) (below_size (by exact sW HB.out))); have n7_ := am (below_step (by exact sW HB.out) hb); clear HO_3; clear HO_6; clear HO_7; clear HO_65; clear HO782; clear HO786; clear HB; have HO_3 := n0_; have HO_6 := n1_; have HO_7 := n2_; have HO_65 := n3_; have HO782 := n4_; have HO786 := n5_; have HO789 := n6_; have HB := n7_; clear n0_ n1_ n2_ n3_ n4_ n5_ n6_ n7_; (try clear hb); (try clear hb2); (try clear hk); (try clear hi); (try clear ho0); obtain ⟨Ao79, co79, eo79⟩ := Kd.R_slice HO786.out; subst eo79; obtain ⟨Ao80, co80, eo80⟩ := Kd.R_slice HO789.out; subst eo80) | (go_at_call 21; (with_reducible refine (laws_sameInts.calls k2 _ _ t784 _ _ t787 false _ ?side1 ?side2 ?side3 ?side4 A55.out).mono ?_); (case side1 => exact sC (Kd.R_reads' HO786.out).2.2); (case side2 => exact (Kd.R_reads' HO786.out).2.1); (case side3 => exact sC (Kd.R_reads' HO789.out).2.2); (case side4 => exact (Kd.R_reads' HO789.out).2.1); rintro e w' ⟨rfl, ⟨nd, rfl⟩⟩))
             go_ret
             exact ⟨by rfl, by exact sW HB.out⟩
           ·replace c52 := Bool.eq_false_iff.mpr c52
            subst c52
            rw [if_neg (show ¬ (false = true) by decide)] at H
            obtain rfl := oI H
            obtain ⟨Ao81, co81, eo81⟩ := Kd.R_slice HO_6.out
            subst eo81
            go_wp2_with (first | ((with_reducible refine gate_callee (f := 20) rfl ?_); refine goesL_ (some 80) rfl rfl Try.func20 (by kernel_rfl) rfl #[.slice Ao81 y766.length co81] rfl tm ?_; (with_reducible refine (impl_TermOk.calls k2 _ _ y766 true _ ?side1 ?side2 A48.out).mono ?_); (case side1 => exact sC (Kd.R_reads' HO_6.out).2.2); (case side2 => exact (Kd.R_reads' HO_6.out).2.1); rintro e w82 ⟨rfl, hb⟩; refine ⟨_, rfl, ?_⟩; have n0_ := am (Kd.R_below (by exact sR <| HO_3.out) hb); have n1_ := am (Kd.R_below (by exact sR <| HO_6.out) hb); have n2_ := am (Kd.R_below (by exact sR <| HO_7.out) hb); have n3_ := am (Kd.R_below (by exact sR <| HO_65.out) hb); have n4_ := am (below_step (by exact sW HB.out) hb); clear HO_3; clear HO_6; clear HO_7; clear HO_65; clear HB; have HO_3 := n0_; have HO_6 := n1_; have HO_7 := n2_; have HO_65 := n3_; have HB := n4_; clear n0_ n1_ n2_ n3_ n4_; (try clear hb); (try clear hb2); (try clear hk); (try clear hi)) | (go_at_call 17; (with_reducible refine (impl_Free.calls k2 _ _ y766 t780 _ ?side1 ?side2 A50.out).mono ?_); (case side1 => exact sC (Kd.R_reads' HO_6.out).2.2); (case side2 => exact (Kd.R_reads' HO_6.out).2.1); rintro e w83 ⟨v781, rfl, ho0, hb⟩; have n0_ := am (Kd.R_below (by exact sR <| HO_3.out) hb); have n1_ := am (Kd.R_below (by exact sR <| HO_6.out) hb); have n2_ := am (Kd.R_elder' (by exact sR <| HO_7.out) (Kd.R_base ho0) hb); have n3_ := am (Kd.R_elder' (by exact sR <| HO_65.out) (Kd.R_base ho0) hb); have n4_ := am (Kd.R_lower (Kd.R_new' (Kd.R_new' ho0 (Kd.R_lt (by exact sR <| HO_7.out))) (Kd.R_lt (by exact sR <| HO_65.out))) (below_size (by exact sW HB.out))); have n5_ := am (below_step (by exact sW HB.out) hb); clear HO_3; clear HO_6; clear HO_7; clear HO_65; clear HB; have HO_3 := n0_; have HO_6 := n1_; have HO_7 := n2_; have HO_65 := n3_; have HO782 := n4_; have HB := n5_; clear n0_ n1_ n2_ n3_ n4_ n5_; (try clear hb); (try clear hb2); (try clear hk); (try clear hi); (try clear ho0); obtain ⟨Ao84, co84, eo84⟩ := Kd.R_slice HO782.out; subst eo84; obtain ⟨Ao85, co85, eo85⟩ := Kd.R_slice HO_7.out; subst eo85) | (go_at_call 21; (with_reducible refine (laws_sameInts.calls k2 _ _ t780 _ _ x7_2 false _ ?side1 ?side2 ?side3 ?side4 A51.out).mono ?_); (case side1 => exact sC (Kd.R_reads' HO782.out).2.2); (case side2 => exact (Kd.R_reads' HO782.out).2.1); (case side3 => exact sC (Kd.R_reads' HO_7.out).2.2); (case side4 => exact (Kd.R_reads' HO_7.out).2.1); rintro e w' ⟨rfl, ⟨nd, rfl⟩⟩))
            go_ret
            exact ⟨by rfl, by exact sW HB.out⟩
          ·replace c49 := Bool.eq_false_iff.mpr c49
           subst c49
           rw [if_neg (show ¬ (false = true) by decide)] at H
           obtain rfl := oI H
           obtain ⟨Ao86, co86, eo86⟩ := Kd.R_slice HO_6.out
           subst eo86
           go_wp2_with (first | ((with_reducible refine gate_callee (f := 20) rfl ?_); refine goesL_ (some 80) rfl rfl Try.func20 (by kernel_rfl) rfl #[.slice Ao86 y766.length co86] rfl tm ?_; (with_reducible refine (impl_TermOk.calls k2 _ _ y766 false _ ?side1 ?side2 A48.out).mono ?_); (case side1 => exact sC (Kd.R_reads' HO_6.out).2.2); (case side2 => exact (Kd.R_reads' HO_6.out).2.1); rintro e w87 ⟨rfl, hb⟩; refine ⟨_, rfl, ?_⟩; have n0_ := am (Kd.R_below (by exact sR <| HO_3.out) hb); have n1_ := am (Kd.R_below (by exact sR <| HO_6.out) hb); have n2_ := am (Kd.R_below (by exact sR <| HO_7.out) hb); have n3_ := am (Kd.R_below (by exact sR <| HO_65.out) hb); have n4_ := am (below_step (by exact sW HB.out) hb); clear HO_3; clear HO_6; clear HO_7; clear HO_65; clear HB; have HO_3 := n0_; have HO_6 := n1_; have HO_7 := n2_; have HO_65 := n3_; have HB := n4_; clear n0_ n1_ n2_ n3_ n4_; (try clear hb); (try clear hb2); (try clear hk); (try clear hi)))
           go_ret
           exact ⟨by rfl, by exact sW HB.out⟩
      ·rw [if_neg c31] at H
       exact absurd H (by simp)
     ·rw [if_neg c28] at H
      exact absurd H (by simp)
/-- THE ONE PURE STATEMENT of laws_FnFree: yours. -/
def laws_FnFree.Pure : Prop := ∀ (l0 : List Int), l0.length ≤ maxLen → l0.length * 1 ≤ 140737488351232 → (∀ x ∈ l0, (Lit.int .u8 x).wf = true) → ∃ k, laws_FnFree.f k l0 = some true
theorem laws_FnFree.walk (P : laws_FnFree.Pure) (a0 : Option Addr) (len0 cap0 : Nat) (z0 : List Int) (w : World) (w0 : (a0 = none ∧ len0 = 0 ∧ cap0 = 0 ∧ z0 = []) ∨ ∃ x, a0 = some x ∧ len0 ≤ cap0 ∧ cap0 ≤ maxLen ∧ z0.length = cap0 ∧ (∀ i, i < z0.length → w.cell? (x.add i) = some (.int .u8 (z0.getD i 0))) ∧ ∀ n ∈ z0, (Lit.int .u8 n).wf = true) (y0 : len0 * 1 ≤ 140737488351232) :
  Calls Try.prog 4 #[.slice a0 len0 cap0] w fun e w' => e = .returned (.bool true) ∧ Below w.heap.size w w' := by
 obtain ⟨l0, rfl, hr0, hm0, hw0, hc0⟩ := ReadsInt.ofRowC w0
 obtain ⟨k, h⟩ := P l0 hm0 y0 hw0
 refine (laws_FnFree.calls k _ _ l0 true w (Kd.C_of_reads (d := (0 : Int)) (h1 := fun _ => rfl) hr0) hc0 h).mono ?_
 rintro e w' ⟨rfl, hd⟩
 exact ⟨rfl, hd⟩
end Go.Proofs.Ytjjjbifbibabgaa.PAll
