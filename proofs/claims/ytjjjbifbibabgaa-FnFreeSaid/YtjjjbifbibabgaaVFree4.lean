/- Written by a program of this session over the loaded program, and by hand: Go functions as plain Lean functions, and that a call comes to what they say. -/
import Derived.Test.YtjjjbifbibabgaaVFree0
import Derived.Test.YtjjjbifbibabgaaVFree1
import Derived.Test.YtjjjbifbibabgaaBase
import Derived.Test.YtjjjbifbibabgaaSq
namespace Go.Proofs.Ytjjjbifbibabgaa.PAll
open Go.RowKit Go.Proofs.YtjjjbifbibabgaaW.PrintWords Go.Proofs.YtjjjbifbibabgaaW.PrintLast Go.Proofs.YtjjjbifbibabgaaW.PrintMore Go.Proofs.YtjjjbifbibabgaaW.Sq
attribute [local go_sem] max2_int min2_int max_two min_two max_three min_three max_four min_four   -- for this text's walks alone
set_option linter.unusedVariables false
set_option linter.unusedSimpArgs false

/-! ### spec_l02Quant: function 41 -/
def spec_l02Quant.f (a0 : Int) : Option (Bool) := if a0 = 19 then (some true) else (some (a0 == 20))
set_option maxHeartbeats 8000000 in
set_option maxRecDepth 100000 in
theorem spec_l02Quant.calls (a0 : Int) (r : Bool) (w : World) (h : spec_l02Quant.f a0 = some r) :
  Calls Try.prog 41 #[.int .i64 a0] w fun e w' => e = .returned (.bool r) ∧ Drawn0 w w' := by
 have H : (if a0 = 19 then (some true) else (some (a0 == 20))) = some r := h
 clear h
 by_cases c2 : a0 = 19
 ·rw [if_pos c2] at H
  have c2b0 : (a0 == 19) = true := beq_iff_eq.mpr c2
  have c2b1 : (a0 != 19) = false := bne_eq_false_iff_eq.mpr c2
  clear c2
  obtain rfl := oI H
  go_enter Try.func41, Try.ntmps41
  go_wp2
  go_ret
  exact ⟨by rfl, by repeat (first | exact Drawn0.refl _ | apply Drawn0.step)⟩
 ·rw [if_neg c2] at H
  have c2b0 : (a0 == 19) = false := beq_eq_false_iff_ne.mpr c2
  have c2b1 : (a0 != 19) = true := bne_iff_ne.mpr c2
  obtain rfl := oI H
  go_enter Try.func41, Try.ntmps41
  go_wp2
  go_ret
  exact ⟨by rfl, by repeat (first | exact Drawn0.refl _ | apply Drawn0.step)⟩
/-! ### spec_l02Holder: function 60 -/
mutual
def spec_l02Holder.l0 : Nat → List (S39) → List Bool → Int → Option (List Bool)
 | 0, _, _, _ => none
 | k + 1, x0, x3, x4 => if x4 < (x0.length : Int) then (if 0 ≤ x4 then ((spec_l02Quant.f ((rd_T39 x0 x4).f0)).bind fun t510 => ((spec_Parts.f k ((rd_T39 x0 x4).f0) ((rd_T39 x0 x4).f1) ((rd_T39 x0 x4).f2) ((rd_T39 x0 x4).f3) ((rd_T39 x0 x4).f4) ((rd_T39 x0 x4).f5)).bind fun t512 => (spec_l02Holder.l1 k x0 x3 x4 t510 t512 0))) else (none)) else (some x3)
def spec_l02Holder.l1 : Nat → List (S39) → List Bool → Int → Bool → List Int → Int → Option (List Bool)
 | 0, _, _, _, _, _, _ => none
 | k + 1, x0, x3, x4, x5, x6, x7 => if x7 < (x6.length : Int) then (if x5 = true then (spec_l02Holder.l1 k x0 x3 x4 true x6 (wrap64 (x7 + 1))) else (if 0 ≤ x7 then (if 0 ≤ (rd x6 x7) then (if (rd x6 x7) < (x3.length : Int) then (spec_l02Holder.l1 k x0 x3 x4 (rdOf false x3 (rd x6 x7)) x6 (wrap64 (x7 + 1))) else (none)) else (none)) else (none))) else (if x3.length < 140737488355328 then (spec_l02Holder.l0 k x0 (x3 ++ [x5]) (wrap64 (x4 + 1))) else (none))
end
def spec_l02Holder.f (k : Nat) (l0 : List (S39)) : Option (List Bool) := spec_l02Holder.l0 k l0 (([] : List Bool)) 0
set_option maxHeartbeats 8000000 in
set_option maxRecDepth 100000 in
theorem spec_l02Holder.calls (k : Nat) (A0 : Option Addr) (c0 : Nat) (l0 : List (S39)) (r : List Bool) (w : World) (hr0 : Kd.C k39 w A0 l0.length l0) (hc0 : l0.length ≤ c0) (h : spec_l02Holder.f k l0 = some r) :
  Calls Try.prog 60 #[.slice A0 l0.length c0] w fun e w' => ∃ v0_ : Value, e = .returned (v0_) ∧ Kd.R Kd.bool 4 w' w.heap.size (fun _ => True) v0_ r ∧ Below w.heap.size w w' := by
 have hu39 := Try.underlying39
 have HR0 := am hr0
 have HC0 := am hc0
 clear hr0 hc0
 have HB := am (Below.refl w.heap.size w)
 have H : (spec_l02Holder.l0 k l0 (([] : List Bool)) 0) = some r := h
 clear h
 obtain ⟨y506, hy506⟩ : ∃ y_ : List Bool, y_ = (([] : List Bool)) := ⟨_, rfl⟩
 replace H : (spec_l02Holder.l0 k l0 y506 0) = some r := by (rw [hy506]; with_reducible exact H)
 have Ny506 := am hy506
 clear hy506
 have H' := am H
 clear H
 go_enter Try.func60, Try.ntmps60
 go_wp2_with (first | ((with_reducible refine gate_dst (N := 8) rfl ?_); refine Kd.R_lit Kd.bool _ 4 ?hg (N := 8) ?hd (xs := ([] : List Bool)) (inner := []) (ok := fun _ => True) (okp := fun _ => True) ?hr ?hp (fun _ hk => hk) trivial (Below.refl _ _) (Nat.le_refl _) (by simp) ?_; (case hd => rfl); (case hg => rfl); (case hr => (go_simp; done)); (case hp => exact (Reps.none _ _)); intro v507 w2 ho3 hb hg_ hnew_; clear hg_ hnew_; (rw [← Ny506.out] at ho3); have n0_ := am (Kd.R_lower ho3 (below_size (by exact sW HB.out))); have n1_ := am (below_step (by exact sW HB.out) hb); clear HB; have HO508 := n0_; have HB := n1_; clear n0_ n1_; clear hb ho3))
 go_loopg [3, 4] k (fun kq v3 v4 w' => ∃ (x3_1 : List Bool) (x4_1 : Int), v4 = .int .i64 x4_1 ∧ Aside0 (spec_l02Holder.l0 kq l0 x3_1 x4_1 = some r) ∧ Aside0 (kq ≤ k) ∧ Aside0 (Kd.R Kd.bool 4 w' w.heap.size (fun _ => True) v3 x3_1) ∧ Aside0 (Below w.heap.size w w'))
 case atStart => exact ⟨(y506), (0), (by rfl), H', ⟨Nat.le_refl _⟩, ⟨by exact sR <| HO508.out⟩, ⟨by exact sW HB.out⟩⟩
 case round =>
  clear H'
  obtain ⟨x3_1, x4_1, rfl, HA, HK1, HO_3, HB⟩ := hrel
  cases gk with
  | zero => exact absurd HA.out (by simp [spec_l02Holder.l0])
  | succ k1 =>
   have H := HA.out
   clear HA
   simp only [spec_l02Holder.l0] at H
   by_cases c4 : x4_1 < (l0.length : Int)
   ·rw [if_pos c4] at H
    have c4b0 : decide (x4_1 < (l0.length : Int)) = true := decide_eq_true c4
    clear c4
    by_cases c5 : 0 ≤ x4_1
    ·rw [if_pos c5] at H
     have c5b0 : decide (0 ≤ x4_1) = true := decide_eq_true c5
     clear c5
     replace H := oB H
     obtain ⟨t510, A60, H⟩ := H
     have A6 := am A60
     clear A60
     replace H := oB H
     obtain ⟨t512, A70, H⟩ := H
     have A7 := am A70
     clear A70
     have H' := am H
     clear H
     have p509 : 0 ≤ (x4_1 : Int) := oD (by assumption)
     have q509 : x4_1 < (l0.length : Int) := oD (by assumption)
     obtain ⟨ad509, e509, hx509_0, hx509_1, hx509_2, hx509_3, hx509_4, hx509_5⟩ := at_T39 HR0.out x4_1 p509 q509
     cases e509
     replace hx509_0 := pw_cell_below HB.out hx509_0
     replace hx509_1 := pw_cell_below HB.out hx509_1
     replace hx509_2 := pw_cell_below HB.out hx509_2
     replace hx509_3 := pw_cell_below HB.out hx509_3
     replace hx509_4 := pw_cell_below HB.out hx509_4
     replace hx509_5 := pw_cell_below HB.out hx509_5
     replace p509 := eq_true p509
     replace q509 := eq_true q509
     go_wp2_with (first | ((with_reducible refine gate_callee (f := 41) rfl ?_); refine goesL_ (some 20) rfl rfl Try.func41 (by kernel_rfl) rfl #[.int .i64 ((rd_T39 l0 x4_1).f0)] rfl tm ?_; (with_reducible refine (spec_l02Quant.calls ((rd_T39 l0 x4_1).f0) t510 _ A6.out).mono ?_); rintro e w' ⟨rfl, ⟨nd, rfl⟩⟩; refine ⟨_, rfl, ?_⟩; have p511 : 0 ≤ (x4_1 : Int) := oD (by assumption); have q511 : x4_1 < (l0.length : Int) := oD (by assumption); obtain ⟨ad511, e511, hx511_0, hx511_1, hx511_2, hx511_3, hx511_4, hx511_5⟩ := at_T39 HR0.out x4_1 p511 q511; obtain rfl : ad509 = ad511 := (by injection e511); replace hx511_0 := pw_cell_below HB.out hx511_0; replace hx511_1 := pw_cell_below HB.out hx511_1; replace hx511_2 := pw_cell_below HB.out hx511_2; replace hx511_3 := pw_cell_below HB.out hx511_3; replace hx511_4 := pw_cell_below HB.out hx511_4; replace hx511_5 := pw_cell_below HB.out hx511_5; replace p511 := eq_true p511; replace q511 := eq_true q511) | ((with_reducible refine gate_callee (f := 37) rfl ?_); refine goesL_ (some 25) rfl rfl Try.func37 (by kernel_rfl) rfl #[.agg #[.int .i64 ((rd_T39 l0 x4_1).f0), .int .i64 ((rd_T39 l0 x4_1).f1), .int .i64 ((rd_T39 l0 x4_1).f2), .int .i64 ((rd_T39 l0 x4_1).f3), .int .i64 ((rd_T39 l0 x4_1).f4), .int .i64 ((rd_T39 l0 x4_1).f5)]] rfl tm ?_; (with_reducible refine (spec_Parts.calls k1 ((rd_T39 l0 x4_1).f0) ((rd_T39 l0 x4_1).f1) ((rd_T39 l0 x4_1).f2) ((rd_T39 l0 x4_1).f3) ((rd_T39 l0 x4_1).f4) ((rd_T39 l0 x4_1).f5) t512 _ A7.out).mono ?_); rintro e w8 ⟨v513, rfl, ho0, hb⟩; refine ⟨_, rfl, ?_⟩; have n0_ := am (Kd.R_below (by exact sR <| HO_3.out) hb); have n1_ := am (Kd.R_lower ho0 (below_size (by exact sW HB.out))); have n2_ := am (below_step (by exact sW HB.out) hb); clear HO_3; clear HB; have HO_3 := n0_; have HO514 := n1_; have HB := n2_; clear n0_ n1_ n2_; (try clear hb); (try clear hb2); (try clear hk); (try clear hi); (try clear ho0)))
     go_loopg [5, 7] k1 (fun kq v5 v7 w' => ∃ (x5_2 : Bool) (x7_2 : Int), v5 = .bool x5_2 ∧ v7 = .int .i64 x7_2 ∧ Aside0 (spec_l02Holder.l1 kq l0 x3_1 x4_1 x5_2 t512 x7_2 = some r) ∧ Aside0 (kq ≤ k1) ∧ Aside0 (Kd.R Kd.bool 4 w' w.heap.size (fun _ => True) u3 x3_1) ∧ Aside0 (Kd.R (Kd.int .i64) 3 w' w.heap.size (fun _ => True) v513 t512) ∧ Aside0 (Below w.heap.size w w'))
     case atStart => exact ⟨(t510), (0), (by rfl), (by rfl), H', ⟨Nat.le_refl _⟩, ⟨by exact sR <| HO_3.out⟩, ⟨by exact sR <| HO514.out⟩, ⟨by exact sW HB.out⟩⟩
     case round =>
      clear H'
      clear c4b0 c5b0 hx509_0 hx509_1 hx509_2 hx509_3 hx509_4 hx509_5 hx511_0 hx511_1 hx511_2 hx511_3 hx511_4 hx511_5 p509 p511 q509 q511
      obtain ⟨x5_2, x7_2, rfl, rfl, HA, HK2, HO_3, HO_6, HB⟩ := hrel
      cases gk with
      | zero => exact absurd HA.out (by simp [spec_l02Holder.l1])
      | succ k2 =>
       have H := HA.out
       clear HA
       simp only [spec_l02Holder.l1] at H
       by_cases c9 : x7_2 < (t512.length : Int)
       ·rw [if_pos c9] at H
        have c9b0 : decide (x7_2 < (t512.length : Int)) = true := decide_eq_true c9
        clear c9
        by_cases c10 : x5_2 = true
        ·subst c10
         rw [if_pos rfl] at H
         have H' := am H
         clear H
         obtain ⟨Ao11, co11, eo11⟩ := Kd.R_slice HO_6.out
         subst eo11
         go_wp2
         go_roundg k2
         case measure => have := HK1.out; have := HK2.out; omega
         case rel => exact ⟨(true), (wrap64 (x7_2 + 1)), (by rfl), (by rfl), H', ⟨by have := HK1.out; have := HK2.out; omega⟩, ⟨by exact sR <| HO_3.out⟩, ⟨by exact sR <| HO_6.out⟩, ⟨by exact sW HB.out⟩⟩
        ·replace c10 := Bool.eq_false_iff.mpr c10
         subst c10
         rw [if_neg (show ¬ (false = true) by decide)] at H
         by_cases c12 : 0 ≤ x7_2
         ·rw [if_pos c12] at H
          have c12b0 : decide (0 ≤ x7_2) = true := decide_eq_true c12
          clear c12
          by_cases c13 : 0 ≤ (rd t512 x7_2)
          ·rw [if_pos c13] at H
           have c13b0 : decide (0 ≤ (rd t512 x7_2)) = true := decide_eq_true c13
           clear c13
           by_cases c14 : (rd t512 x7_2) < (x3_1.length : Int)
           ·rw [if_pos c14] at H
            have c14b0 : decide ((rd t512 x7_2) < (x3_1.length : Int)) = true := decide_eq_true c14
            clear c14
            have H' := am H
            clear H
            obtain ⟨Ao15, co15, eo15⟩ := Kd.R_slice HO_6.out
            subst eo15
            have p515 : 0 ≤ (x7_2 : Int) := oD (by assumption)
            have q515 : x7_2 < (t512.length : Int) := oD (by assumption)
            obtain ⟨ad515, e515, hx515_0⟩ := Kd.at_int (Kd.R_reads' HO_6.out).2.2 x7_2 p515 q515
            cases e515
            replace p515 := eq_true p515
            replace q515 := eq_true q515
            obtain ⟨Ao16, co16, eo16⟩ := Kd.R_slice HO_3.out
            subst eo16
            have p516 : 0 ≤ ((rd t512 x7_2) : Int) := oD (by assumption)
            have q516 : (rd t512 x7_2) < (x3_1.length : Int) := oD (by assumption)
            obtain ⟨ad516, e516, hx516_0⟩ := Kd.at_bool (Kd.R_reads' HO_3.out).2.2 (rd t512 x7_2) p516 q516
            cases e516
            replace p516 := eq_true p516
            replace q516 := eq_true q516
            go_wp2
            go_roundg k2
            case measure => have := HK1.out; have := HK2.out; omega
            case rel => exact ⟨(rdOf false x3_1 (rd t512 x7_2)), (wrap64 (x7_2 + 1)), (by rfl), (by rfl), H', ⟨by have := HK1.out; have := HK2.out; omega⟩, ⟨by exact sR <| HO_3.out⟩, ⟨by exact sR <| HO_6.out⟩, ⟨by exact sW HB.out⟩⟩
           ·rw [if_neg c14] at H
            exact absurd H (by simp)
          ·rw [if_neg c13] at H
           exact absurd H (by simp)
         ·rw [if_neg c12] at H
          exact absurd H (by simp)
       ·rw [if_neg c9] at H
        have c9b0 : decide (x7_2 < (t512.length : Int)) = false := decide_eq_false c9
        clear c9
        by_cases c17 : x3_1.length < 140737488355328
        ·rw [if_pos c17] at H
         have LMc17 := am c17
         clear c17
         obtain ⟨y517, hy517⟩ : ∃ y_ : List Bool, y_ = (x3_1 ++ [x5_2]) := ⟨_, rfl⟩
         replace H : (spec_l02Holder.l0 k2 l0 y517 (wrap64 (x4_1 + 1))) = some r := by (rw [hy517]; with_reducible exact H)
         have Ny517 := am hy517
         clear hy517
         have H' := am H
         clear H
         obtain ⟨Ao18, co18, eo18⟩ := Kd.R_slice HO_6.out
         subst eo18
         go_wp2_with (first | ((with_reducible refine gate_builtin (b := .append) (xs := #[.tmp 42, .tmp 44]) rfl ?_); at_builtin; refine Kd.R_append Kd.bool (w0 := w) w.heap.size rfl (.tmp 42) (.tmp 44) 42 4 (.bool false) 1 rfl Try.underlying42 info4 rfl (by decide) (by omega) u3 x3_1 x5_2 [.bool x5_2] (fun _ => True) (fun _ => False) rfl rfl ?aP (fun _ hk => hk.elim) ?aF ?aO ?aB ?aS ?aL ?_; (case aP => exact rfl); (case aB => exact (by exact sW HB.out)); (case aF => exact (fun _ _ => trivial)); (case aO => exact (by exact sR <| HO_3.out)); (case aS => exact (below_size (by exact sW HB.out))); (case aL => have := LMc17.out; omega); intro v518 w19 ho hb hg hat; rw [← Ny517.out] at ho; have n0_ := am (Kd.R_over' (by exact sR <| HO_6.out) (Kd.R_typed (by exact sR <| HO_3.out)) (by decide) hg); have n1_ := am (hb); have n2_ := am (ho); clear HO_6; clear HB; clear HO_3; have HO_6 := n0_; have HB := n1_; have HO519 := n2_; clear n0_ n1_ n2_; clear ho hb hg hat))
         go_roundg k2
         case measure => have := HK1.out; have := HK2.out; omega
         case rel => exact ⟨(y517), (wrap64 (x4_1 + 1)), (by rfl), H', ⟨by have := HK1.out; have := HK2.out; omega⟩, ⟨by exact sR <| HO519.out⟩, ⟨by exact sW HB.out⟩⟩
        ·rw [if_neg c17] at H
         exact absurd H (by simp)
    ·rw [if_neg c5] at H
     exact absurd H (by simp)
   ·rw [if_neg c4] at H
    have c4b0 : decide (x4_1 < (l0.length : Int)) = false := decide_eq_false c4
    clear c4
    obtain rfl := oI H
    go_wp2
    go_ret
    exact ⟨_, by rfl, by exact sR <| HO_3.out, by exact sW HB.out⟩
/-! ### spec_l02Outer: function 61 -/
def spec_l02Outer.f (a0 : Int) : Option (Bool) := if a0 = 2 then (some true) else (if a0 = 3 then (some true) else (if a0 = 4 then (some true) else ((spec_l02Quant.f a0).bind fun t520 => (some t520))))
set_option maxHeartbeats 8000000 in
set_option maxRecDepth 100000 in
theorem spec_l02Outer.calls (a0 : Int) (r : Bool) (w : World) (h : spec_l02Outer.f a0 = some r) :
  Calls Try.prog 61 #[.int .i64 a0] w fun e w' => e = .returned (.bool r) ∧ Drawn0 w w' := by
 have H : (if a0 = 2 then (some true) else (if a0 = 3 then (some true) else (if a0 = 4 then (some true) else ((spec_l02Quant.f a0).bind fun t520 => (some t520))))) = some r := h
 clear h
 by_cases c2 : a0 = 2
 ·rw [if_pos c2] at H
  have c2b0 : (a0 == 2) = true := beq_iff_eq.mpr c2
  have c2b1 : (a0 != 2) = false := bne_eq_false_iff_eq.mpr c2
  clear c2
  obtain rfl := oI H
  go_enter Try.func61, Try.ntmps61
  go_wp2
  go_ret
  exact ⟨by rfl, by repeat (first | exact Drawn0.refl _ | apply Drawn0.step)⟩
 ·rw [if_neg c2] at H
  have c2b0 : (a0 == 2) = false := beq_eq_false_iff_ne.mpr c2
  have c2b1 : (a0 != 2) = true := bne_iff_ne.mpr c2
  by_cases c3 : a0 = 3
  ·rw [if_pos c3] at H
   have c3b0 : (a0 == 3) = true := beq_iff_eq.mpr c3
   have c3b1 : (a0 != 3) = false := bne_eq_false_iff_eq.mpr c3
   clear c3
   obtain rfl := oI H
   go_enter Try.func61, Try.ntmps61
   go_wp2
   go_ret
   exact ⟨by rfl, by repeat (first | exact Drawn0.refl _ | apply Drawn0.step)⟩
  ·rw [if_neg c3] at H
   have c3b0 : (a0 == 3) = false := beq_eq_false_iff_ne.mpr c3
   have c3b1 : (a0 != 3) = true := bne_iff_ne.mpr c3
   by_cases c4 : a0 = 4
   ·rw [if_pos c4] at H
    have c4b0 : (a0 == 4) = true := beq_iff_eq.mpr c4
    have c4b1 : (a0 != 4) = false := bne_eq_false_iff_eq.mpr c4
    clear c4
    obtain rfl := oI H
    go_enter Try.func61, Try.ntmps61
    go_wp2
    go_ret
    exact ⟨by rfl, by repeat (first | exact Drawn0.refl _ | apply Drawn0.step)⟩
   ·rw [if_neg c4] at H
    have c4b0 : (a0 == 4) = false := beq_eq_false_iff_ne.mpr c4
    have c4b1 : (a0 != 4) = true := bne_iff_ne.mpr c4
    replace H := oB H
    obtain ⟨t520, A50, H⟩ := H
    have A5 := am A50
    clear A50
    obtain rfl := oI H
    go_enter Try.func61, Try.ntmps61
    go_wp2_with (first | (go_at_call 41; (with_reducible refine (spec_l02Quant.calls a0 t520 _ A5.out).mono ?_); rintro e w' ⟨rfl, ⟨nd, rfl⟩⟩))
    go_ret
    exact ⟨by rfl, by repeat (first | exact Drawn0.refl _ | apply Drawn0.step)⟩
end Go.Proofs.Ytjjjbifbibabgaa.PAll
