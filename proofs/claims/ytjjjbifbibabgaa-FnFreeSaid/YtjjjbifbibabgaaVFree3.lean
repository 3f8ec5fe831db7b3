/- Written by a program of this session over the loaded program, and by hand: Go functions as plain Lean functions, and that a call comes to what they say. -/
import Derived.Test.YtjjjbifbibabgaaVFree0
import Derived.Test.YtjjjbifbibabgaaVFree1
import Derived.Test.YtjjjbifbibabgaaVFree2
import Derived.Test.YtjjjbifbibabgaaBase
import Derived.Test.YtjjjbifbibabgaaSq
namespace Go.Proofs.Ytjjjbifbibabgaa.PAll
open Go.RowKit Go.Proofs.YtjjjbifbibabgaaW.PrintWords Go.Proofs.YtjjjbifbibabgaaW.PrintLast Go.Proofs.YtjjjbifbibabgaaW.PrintMore Go.Proofs.YtjjjbifbibabgaaW.Sq
attribute [local go_sem] max2_int min2_int max_two min_two max_three min_three max_four min_four   -- for this text's walks alone
set_option linter.unusedVariables false
set_option linter.unusedSimpArgs false

/-! ### spec_TermOk: function 16 -/
def spec_TermOk.l0 : Nat → List (S39) → Int → Option (Bool)
 | 0, _, _ => none
 | k + 1, x0, x3 => if x3 < (x0.length : Int) then ((spec_l02Node.f k x0 x3).bind fun t443 => (if t443 = true then (spec_TermOk.l0 k x0 (wrap64 (x3 + 1))) else (some false))) else (some true)
def spec_TermOk.f (k : Nat) (l0 : List (S39)) : Option (Bool) := (spec_l01In.f (l0.length : Int) 1 80).bind fun t442 => (if t442 = true then (spec_TermOk.l0 k l0 0) else (some false))
set_option maxHeartbeats 8000000 in
set_option maxRecDepth 100000 in
theorem spec_TermOk.calls (k : Nat) (A0 : Option Addr) (c0 : Nat) (l0 : List (S39)) (r : Bool) (w : World) (hr0 : Kd.C k39 w A0 l0.length l0) (hc0 : l0.length ≤ c0) (h : spec_TermOk.f k l0 = some r) :
  Calls Try.prog 16 #[.slice A0 l0.length c0] w fun e w' => e = .returned (.bool r) ∧ Below w.heap.size w w' := by
 have HR0 := am hr0
 have HC0 := am hc0
 clear hr0 hc0
 have HB := am (Below.refl w.heap.size w)
 have H : ((spec_l01In.f (l0.length : Int) 1 80).bind fun t442 => (if t442 = true then (spec_TermOk.l0 k l0 0) else (some false))) = some r := h
 clear h
 replace H := oB H
 obtain ⟨t442, A20, H⟩ := H
 have A2 := am A20
 clear A20
 by_cases c3 : t442 = true
 ·subst c3
  rw [if_pos rfl] at H
  have H' := am H
  clear H
  go_enter Try.func16, Try.ntmps16
  go_wp2_with (first | ((with_reducible refine gate_callee (f := 30) rfl ?_); refine goesL_ (some 6) rfl rfl Try.func30 (by kernel_rfl) rfl #[.int .i64 (l0.length : Int), .int .i64 1, .int .i64 80] rfl tm ?_; (with_reducible refine (spec_l01In.calls (l0.length : Int) 1 80 true _ A2.out).mono ?_); rintro e w' ⟨rfl, ⟨nd, rfl⟩⟩; refine ⟨_, rfl, ?_⟩))
  go_loopg [3] k (fun kq v3 w' => ∃ (x3_1 : Int), v3 = .int .i64 x3_1 ∧ Aside0 (spec_TermOk.l0 kq l0 x3_1 = some r) ∧ Aside0 (kq ≤ k) ∧ Aside0 (Below w.heap.size w w'))
  case atStart => exact ⟨(0), (by rfl), H', ⟨Nat.le_refl _⟩, ⟨by exact sW HB.out⟩⟩
  case round =>
   clear H'
   obtain ⟨x3_1, rfl, HA, HK1, HB⟩ := hrel
   cases gk with
   | zero => exact absurd HA.out (by simp [spec_TermOk.l0])
   | succ k1 =>
    have H := HA.out
    clear HA
    simp only [spec_TermOk.l0] at H
    by_cases c4 : x3_1 < (l0.length : Int)
    ·rw [if_pos c4] at H
     have c4b0 : decide (x3_1 < (l0.length : Int)) = true := decide_eq_true c4
     clear c4
     replace H := oB H
     obtain ⟨t443, A50, H⟩ := H
     have A5 := am A50
     clear A50
     by_cases c6 : t443 = true
     ·subst c6
      rw [if_pos rfl] at H
      have H' := am H
      clear H
      go_wp2_with (first | ((with_reducible refine gate_callee (f := 31) rfl ?_); refine goesL_ (some 16) rfl rfl Try.func31 (by kernel_rfl) rfl #[.slice A0 l0.length c0, .int .i64 x3_1] rfl tm ?_; (with_reducible refine (spec_l02Node.calls k1 _ _ l0 x3_1 true _ ?side1 ?side2 A5.out).mono ?_); (case side1 => exact sC (Kd.C_below HR0.out HB.out)); (case side2 => exact HC0.out); rintro e w7 ⟨rfl, hb⟩; refine ⟨_, rfl, ?_⟩; have n0_ := am (below_step (by exact sW HB.out) hb); clear HB; have HB := n0_; clear n0_; (try clear hb); (try clear hb2); (try clear hk); (try clear hi)))
      go_roundg k1
      case measure => have := HK1.out; omega
      case rel => exact ⟨(wrap64 (x3_1 + 1)), (by rfl), H', ⟨by have := HK1.out; omega⟩, ⟨by exact sW HB.out⟩⟩
     ·replace c6 := Bool.eq_false_iff.mpr c6
      subst c6
      rw [if_neg (show ¬ (false = true) by decide)] at H
      obtain rfl := oI H
      go_wp2_with (first | ((with_reducible refine gate_callee (f := 31) rfl ?_); refine goesL_ (some 16) rfl rfl Try.func31 (by kernel_rfl) rfl #[.slice A0 l0.length c0, .int .i64 x3_1] rfl tm ?_; (with_reducible refine (spec_l02Node.calls k1 _ _ l0 x3_1 false _ ?side1 ?side2 A5.out).mono ?_); (case side1 => exact sC (Kd.C_below HR0.out HB.out)); (case side2 => exact HC0.out); rintro e w8 ⟨rfl, hb⟩; refine ⟨_, rfl, ?_⟩; have n0_ := am (below_step (by exact sW HB.out) hb); clear HB; have HB := n0_; clear n0_; (try clear hb); (try clear hb2); (try clear hk); (try clear hi)))
      go_ret
      exact ⟨by rfl, by exact sW HB.out⟩
    ·rw [if_neg c4] at H
     have c4b0 : decide (x3_1 < (l0.length : Int)) = false := decide_eq_false c4
     clear c4
     obtain rfl := oI H
     go_wp2
     go_ret
     exact ⟨by rfl, by exact sW HB.out⟩
 ·replace c3 := Bool.eq_false_iff.mpr c3
  subst c3
  rw [if_neg (show ¬ (false = true) by decide)] at H
  obtain rfl := oI H
  go_enter Try.func16, Try.ntmps16
  go_wp2_with (first | ((with_reducible refine gate_callee (f := 30) rfl ?_); refine goesL_ (some 6) rfl rfl Try.func30 (by kernel_rfl) rfl #[.int .i64 (l0.length : Int), .int .i64 1, .int .i64 80] rfl tm ?_; (with_reducible refine (spec_l01In.calls (l0.length : Int) 1 80 false _ A2.out).mono ?_); rintro e w' ⟨rfl, ⟨nd, rfl⟩⟩; refine ⟨_, rfl, ?_⟩))
  go_ret
  exact ⟨by rfl, by exact sW HB.out⟩
/-! ### spec_l02Free: function 33 -/
mutual
def spec_l02Free.l0 : Nat → List (S39) → List (List Bool) → Int → Option (List Bool)
 | 0, _, _, _ => none
 | k + 1, x0, x3, x4 => if x4 < (x0.length : Int) then (spec_l02Free.l1 k x0 x3 x4 (([] : List Bool)) 0) else (if 0 ≤ (wrap64 ((x0.length : Int) - 1)) then (if (wrap64 ((x0.length : Int) - 1)) < (x3.length : Int) then (some (rd_L4 x3 (wrap64 ((x0.length : Int) - 1)))) else (none)) else (none))
def spec_l02Free.l1 : Nat → List (S39) → List (List Bool) → Int → List Bool → Int → Option (List Bool)
 | 0, _, _, _, _, _ => none
 | k + 1, x0, x3, x4, x5, x6 => if x6 < 8 then (if 0 ≤ x4 then (if x4 < (x0.length : Int) then (if ((rd_T39 x0 x4).f0) = 1 then (spec_l02Free.j2 k x0 x3 x4 x5 x6 (((rd_T39 x0 x4).f2) == x6)) else (spec_l02Free.j2 k x0 x3 x4 x5 x6 false)) else (none)) else (none)) else (if x3.length < 5864062014805 then (spec_l02Free.l0 k x0 (x3 ++ [x5]) (wrap64 (x4 + 1))) else (none))
def spec_l02Free.j2 : Nat → List (S39) → List (List Bool) → Int → List Bool → Int → Bool → Option (List Bool)
 | 0, _, _, _, _, _, _ => none
 | k + 1, x0, x3, x4, x5, x6, x7 => if 0 ≤ x4 then (if x4 < (x0.length : Int) then ((spec_Parts.f k ((rd_T39 x0 x4).f0) ((rd_T39 x0 x4).f1) ((rd_T39 x0 x4).f2) ((rd_T39 x0 x4).f3) ((rd_T39 x0 x4).f4) ((rd_T39 x0 x4).f5)).bind fun t457 => (spec_l02Free.l2 k x0 x3 x4 x5 x6 x7 t457 0)) else (none)) else (none)
def spec_l02Free.l2 : Nat → List (S39) → List (List Bool) → Int → List Bool → Int → Bool → List Int → Int → Option (List Bool)
 | 0, _, _, _, _, _, _, _, _ => none
 | k + 1, x0, x3, x4, x5, x6, x7, x8, x9 => if x9 < (x8.length : Int) then (if x7 = true then (spec_l02Free.l2 k x0 x3 x4 x5 x6 true x8 (wrap64 (x9 + 1))) else (if 0 ≤ x9 then (if 0 ≤ (rd x8 x9) then (if (rd x8 x9) < (x3.length : Int) then (if 0 ≤ x6 then (if x6 < ((rd_L4 x3 (rd x8 x9)).length : Int) then (spec_l02Free.l2 k x0 x3 x4 x5 x6 (rdOf false (rd_L4 x3 (rd x8 x9)) x6) x8 (wrap64 (x9 + 1))) else (none)) else (none)) else (none)) else (none)) else (none))) else (if 0 ≤ x4 then (if x4 < (x0.length : Int) then (if ((rd_T39 x0 x4).f0) = 19 then (if ((rd_T39 x0 x4).f2) = x6 then (if x5.length < 140737488355328 then (spec_l02Free.l1 k x0 x3 x4 (x5 ++ [false]) (wrap64 (x6 + 1))) else (none)) else (if x5.length < 140737488355328 then (spec_l02Free.l1 k x0 x3 x4 (x5 ++ [x7]) (wrap64 (x6 + 1))) else (none))) else (if ((rd_T39 x0 x4).f0) = 20 then (if ((rd_T39 x0 x4).f2) = x6 then (if x5.length < 140737488355328 then (spec_l02Free.l1 k x0 x3 x4 (x5 ++ [false]) (wrap64 (x6 + 1))) else (none)) else (if x5.length < 140737488355328 then (spec_l02Free.l1 k x0 x3 x4 (x5 ++ [x7]) (wrap64 (x6 + 1))) else (none))) else (if x5.length < 140737488355328 then (spec_l02Free.l1 k x0 x3 x4 (x5 ++ [x7]) (wrap64 (x6 + 1))) else (none)))) else (none)) else (none))
end
def spec_l02Free.f (k : Nat) (l0 : List (S39)) : Option (List Bool) := spec_l02Free.l0 k l0 (([] : List (List Bool))) 0
set_option maxHeartbeats 8000000 in
set_option maxRecDepth 100000 in
theorem spec_l02Free.calls (k : Nat) (A0 : Option Addr) (c0 : Nat) (l0 : List (S39)) (r : List Bool) (w : World) (hr0 : Kd.C k39 w A0 l0.length l0) (hc0 : l0.length ≤ c0) (h : spec_l02Free.f k l0 = some r) :
  Calls Try.prog 33 #[.slice A0 l0.length c0] w fun e w' => ∃ v0_ : Value, e = .returned (v0_) ∧ Kd.R Kd.bool 4 w' w.heap.size (fun _ => True) v0_ r ∧ Below w.heap.size w w' := by
 have hu39 := Try.underlying39
 have HR0 := am hr0
 have HC0 := am hc0
 clear hr0 hc0
 have HB := am (Below.refl w.heap.size w)
 have H : (spec_l02Free.l0 k l0 (([] : List (List Bool))) 0) = some r := h
 clear h
 obtain ⟨y444, hy444⟩ : ∃ y_ : List (List Bool), y_ = (([] : List (List Bool))) := ⟨_, rfl⟩
 replace H : (spec_l02Free.l0 k l0 y444 0) = some r := by (rw [hy444]; with_reducible exact H)
 have Ny444 := am hy444
 clear hy444
 have H' := am H
 clear H
 go_enter Try.func33, Try.ntmps33
 go_wp2_with (first | ((with_reducible refine gate_dst (N := 10) rfl ?_); refine Kd.S_lit (Kd.slice 4 Kd.bool) _ 42 ?hg (N := 10) ?hd (xs := ([] : List (List Bool))) (inner := []) (ok := fun _ => True) (okp := fun _ => True) ?hr ?hp (fun _ hk => hk) trivial (Below.refl _ _) (Nat.le_refl _) (by simp) ?_; (case hd => rfl); (case hg => rfl); (case hr => (go_simp; done)); (case hp => exact (Reps.none _ _)); intro v445 w2 ho3 hb hg_ hnew_; clear hg_ hnew_; (rw [← Ny444.out] at ho3); have n0_ := am (Kd.S_lower ho3 (below_size (by exact sW HB.out))); have n1_ := am (below_step (by exact sW HB.out) hb); clear HB; have HO446 := n0_; have HB := n1_; clear n0_ n1_; clear hb ho3))
 go_loopg [3, 4] k (fun kq v3 v4 w' => ∃ (x3_1 : List (List Bool)) (x4_1 : Int), v4 = .int .i64 x4_1 ∧ Aside0 (spec_l02Free.l0 kq l0 x3_1 x4_1 = some r) ∧ Aside0 (kq ≤ k) ∧ Aside0 (Kd.S (Kd.slice 4 Kd.bool) 42 w' w.heap.size (fun _ => True) v3 x3_1) ∧ Aside0 (Below w.heap.size w w'))
 case atStart => exact ⟨(y444), (0), (by rfl), H', ⟨Nat.le_refl _⟩, ⟨by (with_reducible repeat (first | apply Kd.S_alloc | apply Kd.S_drewN | apply Kd.S_drew)); exact HO446.out⟩, ⟨by exact sW HB.out⟩⟩
 case round =>
  clear H'
  obtain ⟨x3_1, x4_1, rfl, HA, HK1, HO_3, HB⟩ := hrel
  cases gk with
  | zero => exact absurd HA.out (by simp [spec_l02Free.l0])
  | succ k1 =>
   have H := HA.out
   clear HA
   simp only [spec_l02Free.l0] at H
   by_cases c4 : x4_1 < (l0.length : Int)
   ·rw [if_pos c4] at H
    have c4b0 : decide (x4_1 < (l0.length : Int)) = true := decide_eq_true c4
    clear c4
    obtain ⟨y448, hy448⟩ : ∃ y_ : List Bool, y_ = (([] : List Bool)) := ⟨_, rfl⟩
    replace H : (spec_l02Free.l1 k1 l0 x3_1 x4_1 y448 0) = some r := by (rw [hy448]; with_reducible exact H)
    have Ny448 := am hy448
    clear hy448
    have H' := am H
    clear H
    go_wp2_with (first | ((with_reducible refine gate_dst (N := 17) rfl ?_); refine Kd.R_lit Kd.bool _ 4 ?hg (N := 17) ?hd (xs := ([] : List Bool)) (inner := []) (ok := fun _ => True) (okp := fun _ => True) ?hr ?hp (fun _ hk => hk) trivial (Below.refl _ _) (Nat.le_refl _) (by simp) ?_; (case hd => rfl); (case hg => rfl); (case hr => (go_simp; done)); (case hp => exact (Reps.none _ _)); intro v449 w5 ho6 hb hg_ hnew_; clear hg_ hnew_; (rw [← Ny448.out] at ho6); have n0_ := am (Kd.S_elder' (by (with_reducible repeat (first | apply Kd.S_alloc | apply Kd.S_drewN | apply Kd.S_drew)); exact HO_3.out) (Kd.R_base ho6) hb); have n1_ := am (Kd.R_lower ho6 (below_size (by exact sW HB.out))); have n2_ := am (below_step (by exact sW HB.out) hb); clear HO_3; clear HB; have HO_3 := n0_; have HO450 := n1_; have HB := n2_; clear n0_ n1_ n2_; clear hb ho6))
    go_loopg [5, 6] k1 (fun kq v5 v6 w' => ∃ (x5_2 : List Bool) (x6_2 : Int), v6 = .int .i64 x6_2 ∧ Aside0 (spec_l02Free.l1 kq l0 x3_1 x4_1 x5_2 x6_2 = some r) ∧ Aside0 (kq ≤ k1) ∧ Aside0 (Kd.S (Kd.slice 4 Kd.bool) 42 w' w.heap.size (fun k_ => some k_ ≠ (v5 : Value).ownBlock) u3 x3_1) ∧ Aside0 (Kd.R Kd.bool 4 w' w.heap.size (fun _ => True) v5 x5_2) ∧ Aside0 (Below w.heap.size w w'))
    case atStart => exact ⟨(y448), (0), (by rfl), H', ⟨Nat.le_refl _⟩, ⟨by (with_reducible repeat (first | apply Kd.S_alloc | apply Kd.S_drewN | apply Kd.S_drew)); exact Kd.S_mono HO_3.out (fun _ hk => hk.2)⟩, ⟨by exact sR <| HO450.out⟩, ⟨by exact sW HB.out⟩⟩
    case round =>
     clear H'
     clear c4b0
     obtain ⟨x5_2, x6_2, rfl, HA, HK2, HO_3, HO_5, HB⟩ := hrel
     cases gk with
     | zero => exact absurd HA.out (by simp [spec_l02Free.l1])
     | succ k2 =>
      have H := HA.out
      clear HA
      simp only [spec_l02Free.l1] at H
      by_cases c7 : x6_2 < 8
      ·rw [if_pos c7] at H
       have c7b0 : decide (x6_2 < 8) = true := decide_eq_true c7
       clear c7
       have HC8 := am H
       clear H
       go_upto_region 9 with (fail)
       go_cut [7] (fun v7 wc => ∃ (kq : Nat) (x7_7 : Bool), v7 = .bool x7_7 ∧ Aside0 (spec_l02Free.j2 kq l0 x3_1 x4_1 x5_2 x6_2 x7_7 = some r) ∧ Aside0 (kq ≤ k2) ∧ Aside0 (Kd.S (Kd.slice 4 Kd.bool) 42 wc w.heap.size (fun k_ => some k_ ≠ (u5 : Value).ownBlock) u3 x3_1) ∧ Aside0 (Kd.R Kd.bool 4 wc w.heap.size (fun _ => True) u5 x5_2) ∧ Aside0 (Below w.heap.size w wc))
       case first =>
        have H := HC8.out
        clear HC8
        by_cases c9 : 0 ≤ x4_1
        ·rw [if_pos c9] at H
         have c9b0 : decide (0 ≤ x4_1) = true := decide_eq_true c9
         clear c9
         (skip)
         by_cases c10 : x4_1 < (l0.length : Int)
         ·rw [if_pos c10] at H
          have c10b0 : decide (x4_1 < (l0.length : Int)) = true := decide_eq_true c10
          clear c10
          by_cases c11 : ((rd_T39 l0 x4_1).f0) = 1
          ·rw [if_pos c11] at H
           have c11b0 : (((rd_T39 l0 x4_1).f0) == 1) = true := beq_iff_eq.mpr c11
           have c11b1 : (((rd_T39 l0 x4_1).f0) != 1) = false := bne_eq_false_iff_eq.mpr c11
           clear c11
           have H' := am H
           clear H
           have p454 : 0 ≤ (x4_1 : Int) := oD (by assumption)
           have q454 : x4_1 < (l0.length : Int) := oD (by assumption)
           obtain ⟨ad454, e454, hx454_0, hx454_1, hx454_2, hx454_3, hx454_4, hx454_5⟩ := at_T39 HR0.out x4_1 p454 q454
           cases e454
           replace hx454_0 := pw_cell_below HB.out hx454_0
           replace hx454_1 := pw_cell_below HB.out hx454_1
           replace hx454_2 := pw_cell_below HB.out hx454_2
           replace hx454_3 := pw_cell_below HB.out hx454_3
           replace hx454_4 := pw_cell_below HB.out hx454_4
           replace hx454_5 := pw_cell_below HB.out hx454_5
           replace p454 := eq_true p454
           replace q454 := eq_true q454
           have p455 : 0 ≤ (x4_1 : Int) := oD (by assumption)
           have q455 : x4_1 < (l0.length : Int) := oD (by assumption)
           obtain ⟨ad455, e455, hx455_0, hx455_1, hx455_2, hx455_3, hx455_4, hx455_5⟩ := at_T39 HR0.out x4_1 p455 q455
           obtain rfl : ad454 = ad455 := (by injection e455)
           replace hx455_0 := pw_cell_below HB.out hx455_0
           replace hx455_1 := pw_cell_below HB.out hx455_1
           replace hx455_2 := pw_cell_below HB.out hx455_2
           replace hx455_3 := pw_cell_below HB.out hx455_3
           replace hx455_4 := pw_cell_below HB.out hx455_4
           replace hx455_5 := pw_cell_below HB.out hx455_5
           replace p455 := eq_true p455
           replace q455 := eq_true q455
           go_wp2
           go_meet
           case rel => exact ⟨_, ((((rd_T39 l0 x4_1).f2) == x6_2)), (by rfl), H', ⟨by have := HK1.out; have := HK2.out; omega⟩, ⟨by (with_reducible repeat (first | apply Kd.S_alloc | apply Kd.S_drewN | apply Kd.S_drew)); exact HO_3.out⟩, ⟨by exact sR <| HO_5.out⟩, ⟨by exact sW HB.out⟩⟩
          ·rw [if_neg c11] at H
           have c11b0 : (((rd_T39 l0 x4_1).f0) == 1) = false := beq_eq_false_iff_ne.mpr c11
           have c11b1 : (((rd_T39 l0 x4_1).f0) != 1) = true := bne_iff_ne.mpr c11
           have H' := am H
           clear H
           have p454 : 0 ≤ (x4_1 : Int) := oD (by assumption)
           have q454 : x4_1 < (l0.length : Int) := oD (by assumption)
           obtain ⟨ad454, e454, hx454_0, hx454_1, hx454_2, hx454_3, hx454_4, hx454_5⟩ := at_T39 HR0.out x4_1 p454 q454
           cases e454
           replace hx454_0 := pw_cell_below HB.out hx454_0
           replace hx454_1 := pw_cell_below HB.out hx454_1
           replace hx454_2 := pw_cell_below HB.out hx454_2
           replace hx454_3 := pw_cell_below HB.out hx454_3
           replace hx454_4 := pw_cell_below HB.out hx454_4
           replace hx454_5 := pw_cell_below HB.out hx454_5
           replace p454 := eq_true p454
           replace q454 := eq_true q454
           go_wp2
           go_meet
           case rel => exact ⟨_, (false), (by rfl), H', ⟨by have := HK1.out; have := HK2.out; omega⟩, ⟨by (with_reducible repeat (first | apply Kd.S_alloc | apply Kd.S_drewN | apply Kd.S_drew)); exact HO_3.out⟩, ⟨by exact sR <| HO_5.out⟩, ⟨by exact sW HB.out⟩⟩
         ·rw [if_neg c10] at H
          exact absurd H (by simp)
        ·rw [if_neg c9] at H
         exact absurd H (by simp)
       case rest =>
        clear HC8
        clear c7b0
        obtain ⟨kq, x7_7, rfl, HA, HJ7, HO_3, HO_5, HB⟩ := hcut
        cases kq with
        | zero => exact absurd HA.out (by simp [spec_l02Free.j2])
        | succ kj7 =>
         have H := HA.out
         clear HA
         simp only [spec_l02Free.j2] at H
         by_cases c12 : 0 ≤ x4_1
         ·rw [if_pos c12] at H
          have c12b0 : decide (0 ≤ x4_1) = true := decide_eq_true c12
          clear c12
          by_cases c13 : x4_1 < (l0.length : Int)
          ·rw [if_pos c13] at H
           have c13b0 : decide (x4_1 < (l0.length : Int)) = true := decide_eq_true c13
           clear c13
           replace H := oB H
           obtain ⟨t457, A140, H⟩ := H
           have A14 := am A140
           clear A140
           have H' := am H
           clear H
           have p456 : 0 ≤ (x4_1 : Int) := oD (by assumption)
           have q456 : x4_1 < (l0.length : Int) := oD (by assumption)
           obtain ⟨ad456, e456, hx456_0, hx456_1, hx456_2, hx456_3, hx456_4, hx456_5⟩ := at_T39 HR0.out x4_1 p456 q456
           cases e456
           replace hx456_0 := pw_cell_below HB.out hx456_0
           replace hx456_1 := pw_cell_below HB.out hx456_1
           replace hx456_2 := pw_cell_below HB.out hx456_2
           replace hx456_3 := pw_cell_below HB.out hx456_3
           replace hx456_4 := pw_cell_below HB.out hx456_4
           replace hx456_5 := pw_cell_below HB.out hx456_5
           replace p456 := eq_true p456
           replace q456 := eq_true q456
           go_wp2_with (first | ((with_reducible refine gate_callee (f := 37) rfl ?_); refine goesL_ (some 41) rfl rfl Try.func37 (by kernel_rfl) rfl #[.agg #[.int .i64 ((rd_T39 l0 x4_1).f0), .int .i64 ((rd_T39 l0 x4_1).f1), .int .i64 ((rd_T39 l0 x4_1).f2), .int .i64 ((rd_T39 l0 x4_1).f3), .int .i64 ((rd_T39 l0 x4_1).f4), .int .i64 ((rd_T39 l0 x4_1).f5)]] rfl tm ?_; (with_reducible refine (spec_Parts.calls kj7 ((rd_T39 l0 x4_1).f0) ((rd_T39 l0 x4_1).f1) ((rd_T39 l0 x4_1).f2) ((rd_T39 l0 x4_1).f3) ((rd_T39 l0 x4_1).f4) ((rd_T39 l0 x4_1).f5) t457 _ A14.out).mono ?_); rintro e w15 ⟨v458, rfl, ho0, hb⟩; refine ⟨_, rfl, ?_⟩; have n0_ := am (Kd.S_below (by (with_reducible repeat (first | apply Kd.S_alloc | apply Kd.S_drewN | apply Kd.S_drew)); exact HO_3.out) hb); have n1_ := am (Kd.R_below (by exact sR <| HO_5.out) hb); have n2_ := am (Kd.R_lower ho0 (below_size (by exact sW HB.out))); have n3_ := am (below_step (by exact sW HB.out) hb); clear HO_3; clear HO_5; clear HB; have HO_3 := n0_; have HO_5 := n1_; have HO459 := n2_; have HB := n3_; clear n0_ n1_ n2_ n3_; (try clear hb); (try clear hb2); (try clear hk); (try clear hi); (try clear ho0)))
           go_loopg [7, 9] kj7 (fun kq v7 v9 w' => ∃ (x7_4 : Bool) (x9_4 : Int), v7 = .bool x7_4 ∧ v9 = .int .i64 x9_4 ∧ Aside0 (spec_l02Free.l2 kq l0 x3_1 x4_1 x5_2 x6_2 x7_4 t457 x9_4 = some r) ∧ Aside0 (kq ≤ kj7) ∧ Aside0 (Kd.S (Kd.slice 4 Kd.bool) 42 w' w.heap.size (fun k_ => some k_ ≠ (u5 : Value).ownBlock) u3 x3_1) ∧ Aside0 (Kd.R Kd.bool 4 w' w.heap.size (fun _ => True) u5 x5_2) ∧ Aside0 (Kd.R (Kd.int .i64) 3 w' w.heap.size (fun _ => True) v458 t457) ∧ Aside0 (Below w.heap.size w w'))
           case atStart => exact ⟨(x7_7), (0), (by rfl), (by rfl), H', ⟨Nat.le_refl _⟩, ⟨by (with_reducible repeat (first | apply Kd.S_alloc | apply Kd.S_drewN | apply Kd.S_drew)); exact HO_3.out⟩, ⟨by exact sR <| HO_5.out⟩, ⟨by exact sR <| HO459.out⟩, ⟨by exact sW HB.out⟩⟩
           case round =>
            clear H'
            clear c12b0 c13b0 hx456_0 hx456_1 hx456_2 hx456_3 hx456_4 hx456_5 p456 q456
            obtain ⟨x7_4, x9_4, rfl, rfl, HA, HK4, HO_3, HO_5, HO_8, HB⟩ := hrel
            cases gk with
            | zero => exact absurd HA.out (by simp [spec_l02Free.l2])
            | succ k4 =>
             have H := HA.out
             clear HA
             simp only [spec_l02Free.l2] at H
             by_cases c16 : x9_4 < (t457.length : Int)
             ·rw [if_pos c16] at H
              have c16b0 : decide (x9_4 < (t457.length : Int)) = true := decide_eq_true c16
              clear c16
              by_cases c17 : x7_4 = true
              ·subst c17
               rw [if_pos rfl] at H
               have H' := am H
               clear H
               obtain ⟨Ao18, co18, eo18⟩ := Kd.R_slice HO_8.out
               subst eo18
               go_wp2
               go_roundg k4
               case measure => have := HK1.out; have := HK2.out; have := HJ7.out; have := HK4.out; omega
               case rel => exact ⟨(true), (wrap64 (x9_4 + 1)), (by rfl), (by rfl), H', ⟨by have := HK1.out; have := HK2.out; have := HJ7.out; have := HK4.out; omega⟩, ⟨by (with_reducible repeat (first | apply Kd.S_alloc | apply Kd.S_drewN | apply Kd.S_drew)); exact HO_3.out⟩, ⟨by exact sR <| HO_5.out⟩, ⟨by exact sR <| HO_8.out⟩, ⟨by exact sW HB.out⟩⟩
              ·replace c17 := Bool.eq_false_iff.mpr c17
               subst c17
               rw [if_neg (show ¬ (false = true) by decide)] at H
               by_cases c19 : 0 ≤ x9_4
               ·rw [if_pos c19] at H
                have c19b0 : decide (0 ≤ x9_4) = true := decide_eq_true c19
                clear c19
                by_cases c20 : 0 ≤ (rd t457 x9_4)
                ·rw [if_pos c20] at H
                 have c20b0 : decide (0 ≤ (rd t457 x9_4)) = true := decide_eq_true c20
                 clear c20
                 by_cases c21 : (rd t457 x9_4) < (x3_1.length : Int)
                 ·rw [if_pos c21] at H
                  have c21b0 : decide ((rd t457 x9_4) < (x3_1.length : Int)) = true := decide_eq_true c21
                  clear c21
                  by_cases c22 : 0 ≤ x6_2
                  ·rw [if_pos c22] at H
                   have c22b0 : decide (0 ≤ x6_2) = true := decide_eq_true c22
                   clear c22
                   by_cases c23 : x6_2 < ((rd_L4 x3_1 (rd t457 x9_4)).length : Int)
                   ·rw [if_pos c23] at H
                    have c23b0 : decide (x6_2 < ((rd_L4 x3_1 (rd t457 x9_4)).length : Int)) = true := decide_eq_true c23
                    clear c23
                    have H' := am H
                    clear H
                    obtain ⟨Ao24, co24, eo24⟩ := Kd.R_slice HO_8.out
                    subst eo24
                    have p460 : 0 ≤ (x9_4 : Int) := oD (by assumption)
                    have q460 : x9_4 < (t457.length : Int) := oD (by assumption)
                    obtain ⟨ad460, e460, hx460_0⟩ := Kd.at_int (Kd.R_reads' HO_8.out).2.2 x9_4 p460 q460
                    cases e460
                    replace p460 := eq_true p460
                    replace q460 := eq_true q460
                    obtain ⟨Ao25, co25, eo25⟩ := Kd.S_slice HO_3.out
                    subst eo25
                    have p461 : 0 ≤ ((rd t457 x9_4) : Int) := oD (by assumption)
                    have q461 : (rd t457 x9_4) < (x3_1.length : Int) := oD (by assumption)
                    obtain ⟨ad461, A461_0, c461_0, e461, hx461_0, hl461_0, hi461_0⟩ := at_L4 (Kd.S_reads' HO_3.out).2.2 (rd t457 x9_4) p461 q461
                    cases e461
                    obtain ⟨ce461, hce461, hMe461, hcc461⟩ := Kd.S_get HO_3.out [] (rd t457 x9_4) p461 (by exact q461)
                    obtain ⟨ve461_0, rfl, ge461_0⟩ := hMe461
                    have hv461_0 := hcc461 0 _ rfl
                    rw [Nat.add_zero, show ((Kd.slice 4 Kd.bool)).sz = 1 from rfl, Nat.mul_one] at hv461_0
                    replace hv461_0 := oI (hv461_0.symm.trans hx461_0)
                    rw [hv461_0] at ge461_0
                    have HL461_0 := am (show Kd.R Kd.bool 4 _ _ _ _ (rd_L4 x3_1 (rd t457 x9_4)) from ge461_0)
                    clear hv461_0 ge461_0
                    clear hcc461 hce461
                    have HR461_0 := am hi461_0
                    have HC461_0 := am hl461_0
                    clear hi461_0 hl461_0
                    replace p461 := eq_true p461
                    replace q461 := eq_true q461
                    have p462 : 0 ≤ (x6_2 : Int) := oD (by assumption)
                    have q462 : x6_2 < ((rd_L4 x3_1 (rd t457 x9_4)).length : Int) := oD (by assumption)
                    obtain ⟨ad462, e462, hx462_0⟩ := Kd.at_bool (by repeat (first | (with_reducible exact HR461_0.out) | (with_reducible refine Kd.C_alloc ?_ _) | (with_reducible refine Kd.C_drewN ?_ _) | (with_reducible refine Kd.C_drew ?_) | exact HR461_0.out)) x6_2 p462 q462
                    cases e462
                    replace p462 := eq_true p462
                    replace q462 := eq_true q462
                    go_wp2
                    go_roundg k4
                    case measure => have := HK1.out; have := HK2.out; have := HJ7.out; have := HK4.out; omega
                    case rel => exact ⟨(rdOf false (rd_L4 x3_1 (rd t457 x9_4)) x6_2), (wrap64 (x9_4 + 1)), (by rfl), (by rfl), H', ⟨by have := HK1.out; have := HK2.out; have := HJ7.out; have := HK4.out; omega⟩, ⟨by (with_reducible repeat (first | apply Kd.S_alloc | apply Kd.S_drewN | apply Kd.S_drew)); exact HO_3.out⟩, ⟨by exact sR <| HO_5.out⟩, ⟨by exact sR <| HO_8.out⟩, ⟨by exact sW HB.out⟩⟩
                   ·rw [if_neg c23] at H
                    exact absurd H (by simp)
                  ·rw [if_neg c22] at H
                   exact absurd H (by simp)
                 ·rw [if_neg c21] at H
                  exact absurd H (by simp)
                ·rw [if_neg c20] at H
                 exact absurd H (by simp)
               ·rw [if_neg c19] at H
                exact absurd H (by simp)
             ·rw [if_neg c16] at H
              have c16b0 : decide (x9_4 < (t457.length : Int)) = false := decide_eq_false c16
              clear c16
              by_cases c26 : 0 ≤ x4_1
              ·rw [if_pos c26] at H
               have c26b0 : decide (0 ≤ x4_1) = true := decide_eq_true c26
               clear c26
               by_cases c27 : x4_1 < (l0.length : Int)
               ·rw [if_pos c27] at H
                have c27b0 : decide (x4_1 < (l0.length : Int)) = true := decide_eq_true c27
                clear c27
                by_cases c28 : ((rd_T39 l0 x4_1).f0) = 19
                ·rw [if_pos c28] at H
                 have c28b0 : (((rd_T39 l0 x4_1).f0) == 19) = true := beq_iff_eq.mpr c28
                 have c28b1 : (((rd_T39 l0 x4_1).f0) != 19) = false := bne_eq_false_iff_eq.mpr c28
                 clear c28
                 by_cases c29 : ((rd_T39 l0 x4_1).f2) = x6_2
                 ·rw [if_pos c29] at H
                  have c29b0 : (((rd_T39 l0 x4_1).f2) == x6_2) = true := beq_iff_eq.mpr c29
                  have c29b1 : (((rd_T39 l0 x4_1).f2) != x6_2) = false := bne_eq_false_iff_eq.mpr c29
                  clear c29
                  by_cases c30 : x5_2.length < 140737488355328
                  ·rw [if_pos c30] at H
                   have LMc30 := am c30
                   clear c30
                   obtain ⟨y465, hy465⟩ : ∃ y_ : List Bool, y_ = (x5_2 ++ [false]) := ⟨_, rfl⟩
                   replace H : (spec_l02Free.l1 k4 l0 x3_1 x4_1 y465 (wrap64 (x6_2 + 1))) = some r := by (rw [hy465]; with_reducible exact H)
                   have Ny465 := am hy465
                   clear hy465
                   have H' := am H
                   clear H
                   obtain ⟨Ao31, co31, eo31⟩ := Kd.R_slice HO_8.out
                   subst eo31
                   have p463 : 0 ≤ (x4_1 : Int) := oD (by assumption)
                   have q463 : x4_1 < (l0.length : Int) := oD (by assumption)
                   obtain ⟨ad463, e463, hx463_0, hx463_1, hx463_2, hx463_3, hx463_4, hx463_5⟩ := at_T39 HR0.out x4_1 p463 q463
                   obtain rfl : ad456 = ad463 := (by injection e463)
                   replace hx463_0 := pw_cell_below HB.out hx463_0
                   replace hx463_1 := pw_cell_below HB.out hx463_1
                   replace hx463_2 := pw_cell_below HB.out hx463_2
                   replace hx463_3 := pw_cell_below HB.out hx463_3
                   replace hx463_4 := pw_cell_below HB.out hx463_4
                   replace hx463_5 := pw_cell_below HB.out hx463_5
                   replace p463 := eq_true p463
                   replace q463 := eq_true q463
                   have p464 : 0 ≤ (x4_1 : Int) := oD (by assumption)
                   have q464 : x4_1 < (l0.length : Int) := oD (by assumption)
                   obtain ⟨ad464, e464, hx464_0, hx464_1, hx464_2, hx464_3, hx464_4, hx464_5⟩ := at_T39 HR0.out x4_1 p464 q464
                   obtain rfl : ad456 = ad464 := (by injection e464)
                   replace hx464_0 := pw_cell_below HB.out hx464_0
                   replace hx464_1 := pw_cell_below HB.out hx464_1
                   replace hx464_2 := pw_cell_below HB.out hx464_2
                   replace hx464_3 := pw_cell_below HB.out hx464_3
                   replace hx464_4 := pw_cell_below HB.out hx464_4
                   replace hx464_5 := pw_cell_below HB.out hx464_5
                   replace p464 := eq_true p464
                   replace q464 := eq_true q464
                   go_wp2_with (first | ((with_reducible refine gate_builtin (b := .append) (xs := #[.tmp 84, .tmp 86]) rfl ?_); at_builtin; refine Kd.R_append Kd.bool (w0 := w) w.heap.size rfl (.tmp 84) (.tmp 86) 42 4 (.bool false) 1 rfl Try.underlying42 info4 rfl (by decide) (by omega) u5 x5_2 false [.bool false] (fun _ => True) (fun _ => False) rfl rfl ?aP (fun _ hk => hk.elim) ?aF ?aO ?aB ?aS ?aL ?_; (case aP => exact rfl); (case aB => exact (by exact sW HB.out)); (case aF => exact (fun _ _ => trivial)); (case aO => exact (by exact sR <| HO_5.out)); (case aS => exact (below_size (by exact sW HB.out))); (case aL => have := LMc30.out; omega); intro v466 w32 ho hb hg hat; rw [← Ny465.out] at ho; have n0_ := am (Kd.S_after (ok := (fun _ => True)) (by (with_reducible repeat (first | apply Kd.S_alloc | apply Kd.S_drewN | apply Kd.S_drew)); exact Kd.S_mono HO_3.out (fun _ hk => ⟨trivial, hk⟩)) hg hat); have n1_ := am (Kd.R_over' (by exact sR <| HO_8.out) (Kd.R_typed (by exact sR <| HO_5.out)) (by decide) hg); have n2_ := am (hb); have n3_ := am (ho); clear HO_3; clear HO_8; clear HB; clear HO_5; have HO_3 := n0_; have HO_8 := n1_; have HB := n2_; have HO467 := n3_; clear n0_ n1_ n2_ n3_; clear ho hb hg hat))
                   go_roundg k4
                   case measure => have := HK1.out; have := HK2.out; have := HJ7.out; have := HK4.out; omega
                   case rel => exact ⟨(y465), (wrap64 (x6_2 + 1)), (by rfl), H', ⟨by have := HK1.out; have := HK2.out; have := HJ7.out; have := HK4.out; omega⟩, ⟨by (with_reducible repeat (first | apply Kd.S_alloc | apply Kd.S_drewN | apply Kd.S_drew)); exact Kd.S_mono HO_3.out (fun _ hk => hk.2)⟩, ⟨by exact sR <| HO467.out⟩, ⟨by exact sW HB.out⟩⟩
                  ·rw [if_neg c30] at H
                   exact absurd H (by simp)
                 ·rw [if_neg c29] at H
                  have c29b0 : (((rd_T39 l0 x4_1).f2) == x6_2) = false := beq_eq_false_iff_ne.mpr c29
                  have c29b1 : (((rd_T39 l0 x4_1).f2) != x6_2) = true := bne_iff_ne.mpr c29
                  by_cases c33 : x5_2.length < 140737488355328
                  ·rw [if_pos c33] at H
                   have LMc33 := am c33
                   clear c33
                   obtain ⟨y468, hy468⟩ : ∃ y_ : List Bool, y_ = (x5_2 ++ [x7_4]) := ⟨_, rfl⟩
                   replace H : (spec_l02Free.l1 k4 l0 x3_1 x4_1 y468 (wrap64 (x6_2 + 1))) = some r := by (rw [hy468]; with_reducible exact H)
                   have Ny468 := am hy468
                   clear hy468
                   have H' := am H
                   clear H
                   obtain ⟨Ao34, co34, eo34⟩ := Kd.R_slice HO_8.out
                   subst eo34
                   have p463 : 0 ≤ (x4_1 : Int) := oD (by assumption)
                   have q463 : x4_1 < (l0.length : Int) := oD (by assumption)
                   obtain ⟨ad463, e463, hx463_0, hx463_1, hx463_2, hx463_3, hx463_4, hx463_5⟩ := at_T39 HR0.out x4_1 p463 q463
                   obtain rfl : ad456 = ad463 := (by injection e463)
                   replace hx463_0 := pw_cell_below HB.out hx463_0
                   replace hx463_1 := pw_cell_below HB.out hx463_1
                   replace hx463_2 := pw_cell_below HB.out hx463_2
                   replace hx463_3 := pw_cell_below HB.out hx463_3
                   replace hx463_4 := pw_cell_below HB.out hx463_4
                   replace hx463_5 := pw_cell_below HB.out hx463_5
                   replace p463 := eq_true p463
                   replace q463 := eq_true q463
                   have p464 : 0 ≤ (x4_1 : Int) := oD (by assumption)
                   have q464 : x4_1 < (l0.length : Int) := oD (by assumption)
                   obtain ⟨ad464, e464, hx464_0, hx464_1, hx464_2, hx464_3, hx464_4, hx464_5⟩ := at_T39 HR0.out x4_1 p464 q464
                   obtain rfl : ad456 = ad464 := (by injection e464)
                   replace hx464_0 := pw_cell_below HB.out hx464_0
                   replace hx464_1 := pw_cell_below HB.out hx464_1
                   replace hx464_2 := pw_cell_below HB.out hx464_2
                   replace hx464_3 := pw_cell_below HB.out hx464_3
                   replace hx464_4 := pw_cell_below HB.out hx464_4
                   replace hx464_5 := pw_cell_below HB.out hx464_5
                   replace p464 := eq_true p464
                   replace q464 := eq_true q464
                   go_wp2_with (first | ((with_reducible refine gate_builtin (b := .append) (xs := #[.tmp 84, .tmp 86]) rfl ?_); at_builtin; refine Kd.R_append Kd.bool (w0 := w) w.heap.size rfl (.tmp 84) (.tmp 86) 42 4 (.bool false) 1 rfl Try.underlying42 info4 rfl (by decide) (by omega) u5 x5_2 x7_4 [.bool x7_4] (fun _ => True) (fun _ => False) rfl rfl ?aP (fun _ hk => hk.elim) ?aF ?aO ?aB ?aS ?aL ?_; (case aP => exact rfl); (case aB => exact (by exact sW HB.out)); (case aF => exact (fun _ _ => trivial)); (case aO => exact (by exact sR <| HO_5.out)); (case aS => exact (below_size (by exact sW HB.out))); (case aL => have := LMc33.out; omega); intro v469 w35 ho hb hg hat; rw [← Ny468.out] at ho; have n0_ := am (Kd.S_after (ok := (fun _ => True)) (by (with_reducible repeat (first | apply Kd.S_alloc | apply Kd.S_drewN | apply Kd.S_drew)); exact Kd.S_mono HO_3.out (fun _ hk => ⟨trivial, hk⟩)) hg hat); have n1_ := am (Kd.R_over' (by exact sR <| HO_8.out) (Kd.R_typed (by exact sR <| HO_5.out)) (by decide) hg); have n2_ := am (hb); have n3_ := am (ho); clear HO_3; clear HO_8; clear HB; clear HO_5; have HO_3 := n0_; have HO_8 := n1_; have HB := n2_; have HO470 := n3_; clear n0_ n1_ n2_ n3_; clear ho hb hg hat))
                   go_roundg k4
                   case measure => have := HK1.out; have := HK2.out; have := HJ7.out; have := HK4.out; omega
                   case rel => exact ⟨(y468), (wrap64 (x6_2 + 1)), (by rfl), H', ⟨by have := HK1.out; have := HK2.out; have := HJ7.out; have := HK4.out; omega⟩, ⟨by (with_reducible repeat (first | apply Kd.S_alloc | apply Kd.S_drewN | apply Kd.S_drew)); exact Kd.S_mono HO_3.out (fun _ hk => hk.2)⟩, ⟨by exact sR <| HO470.out⟩, ⟨by exact sW HB.out⟩⟩
                  ·rw [if_neg c33] at H
                   exact absurd H (by simp)
                ·rw [if_neg c28] at H
                 have c28b0 : (((rd_T39 l0 x4_1).f0) == 19) = false := beq_eq_false_iff_ne.mpr c28
                 have c28b1 : (((rd_T39 l0 x4_1).f0) != 19) = true := bne_iff_ne.mpr c28
                 by_cases c36 : ((rd_T39 l0 x4_1).f0) = 20
                 ·rw [if_pos c36] at H
                  have c36b0 : (((rd_T39 l0 x4_1).f0) == 20) = true := beq_iff_eq.mpr c36
                  have c36b1 : (((rd_T39 l0 x4_1).f0) != 20) = false := bne_eq_false_iff_eq.mpr c36
                  clear c36
                  by_cases c37 : ((rd_T39 l0 x4_1).f2) = x6_2
                  ·rw [if_pos c37] at H
                   have c37b0 : (((rd_T39 l0 x4_1).f2) == x6_2) = true := beq_iff_eq.mpr c37
                   have c37b1 : (((rd_T39 l0 x4_1).f2) != x6_2) = false := bne_eq_false_iff_eq.mpr c37
                   clear c37
                   by_cases c38 : x5_2.length < 140737488355328
                   ·rw [if_pos c38] at H
                    have LMc38 := am c38
                    clear c38
                    obtain ⟨y473, hy473⟩ : ∃ y_ : List Bool, y_ = (x5_2 ++ [false]) := ⟨_, rfl⟩
                    replace H : (spec_l02Free.l1 k4 l0 x3_1 x4_1 y473 (wrap64 (x6_2 + 1))) = some r := by (rw [hy473]; with_reducible exact H)
                    have Ny473 := am hy473
                    clear hy473
                    have H' := am H
                    clear H
                    obtain ⟨Ao39, co39, eo39⟩ := Kd.R_slice HO_8.out
                    subst eo39
                    have p463 : 0 ≤ (x4_1 : Int) := oD (by assumption)
                    have q463 : x4_1 < (l0.length : Int) := oD (by assumption)
                    obtain ⟨ad463, e463, hx463_0, hx463_1, hx463_2, hx463_3, hx463_4, hx463_5⟩ := at_T39 HR0.out x4_1 p463 q463
                    obtain rfl : ad456 = ad463 := (by injection e463)
                    replace hx463_0 := pw_cell_below HB.out hx463_0
                    replace hx463_1 := pw_cell_below HB.out hx463_1
                    replace hx463_2 := pw_cell_below HB.out hx463_2
                    replace hx463_3 := pw_cell_below HB.out hx463_3
                    replace hx463_4 := pw_cell_below HB.out hx463_4
                    replace hx463_5 := pw_cell_below HB.out hx463_5
                    replace p463 := eq_true p463
                    replace q463 := eq_true q463
                    have p471 : 0 ≤ (x4_1 : Int) := oD (by assumption)
                    have q471 : x4_1 < (l0.length : Int) := oD (by assumption)
                    obtain ⟨ad471, e471, hx471_0, hx471_1, hx471_2, hx471_3, hx471_4, hx471_5⟩ := at_T39 HR0.out x4_1 p471 q471
                    obtain rfl : ad456 = ad471 := (by injection e471)
                    replace hx471_0 := pw_cell_below HB.out hx471_0
                    replace hx471_1 := pw_cell_below HB.out hx471_1
                    replace hx471_2 := pw_cell_below HB.out hx471_2
                    replace hx471_3 := pw_cell_below HB.out hx471_3
                    replace hx471_4 := pw_cell_below HB.out hx471_4
                    replace hx471_5 := pw_cell_below HB.out hx471_5
                    replace p471 := eq_true p471
                    replace q471 := eq_true q471
                    have p472 : 0 ≤ (x4_1 : Int) := oD (by assumption)
                    have q472 : x4_1 < (l0.length : Int) := oD (by assumption)
                    obtain ⟨ad472, e472, hx472_0, hx472_1, hx472_2, hx472_3, hx472_4, hx472_5⟩ := at_T39 HR0.out x4_1 p472 q472
                    obtain rfl : ad456 = ad472 := (by injection e472)
                    replace hx472_0 := pw_cell_below HB.out hx472_0
                    replace hx472_1 := pw_cell_below HB.out hx472_1
                    replace hx472_2 := pw_cell_below HB.out hx472_2
                    replace hx472_3 := pw_cell_below HB.out hx472_3
                    replace hx472_4 := pw_cell_below HB.out hx472_4
                    replace hx472_5 := pw_cell_below HB.out hx472_5
                    replace p472 := eq_true p472
                    replace q472 := eq_true q472
                    go_wp2_with (first | ((with_reducible refine gate_builtin (b := .append) (xs := #[.tmp 84, .tmp 86]) rfl ?_); at_builtin; refine Kd.R_append Kd.bool (w0 := w) w.heap.size rfl (.tmp 84) (.tmp 86) 42 4 (.bool false) 1 rfl Try.underlying42 info4 rfl (by decide) (by omega) u5 x5_2 false [.bool false] (fun _ => True) (fun _ => False) rfl rfl ?aP (fun _ hk => hk.elim) ?aF ?aO ?aB ?aS ?aL ?_; (case aP => exact rfl); (case aB => exact (by exact sW HB.out)); (case aF => exact (fun _ _ => trivial)); (case aO => exact (by exact sR <| HO_5.out)); (case aS => exact (below_size (by exact sW HB.out))); (case aL => have := LMc38.out; omega); intro v474 w40 ho hb hg hat; rw [← Ny473.out] at ho; have n0_ := am (Kd.S_after (ok := (fun _ => True)) (by (with_reducible repeat (first | apply Kd.S_alloc | apply Kd.S_drewN | apply Kd.S_drew)); exact Kd.S_mono HO_3.out (fun _ hk => ⟨trivial, hk⟩)) hg hat); have n1_ := am (Kd.R_over' (by exact sR <| HO_8.out) (Kd.R_typed (by exact sR <| HO_5.out)) (by decide) hg); have n2_ := am (hb); have n3_ := am (ho); clear HO_3; clear HO_8; clear HB; clear HO_5; have HO_3 := n0_; have HO_8 := n1_; have HB := n2_; have HO475 := n3_; clear n0_ n1_ n2_ n3_; clear ho hb hg hat))
                    go_roundg k4
                    case measure => have := HK1.out; have := HK2.out; have := HJ7.out; have := HK4.out; omega
                    case rel => exact ⟨(y473), (wrap64 (x6_2 + 1)), (by rfl), H', ⟨by have := HK1.out; have := HK2.out; have := HJ7.out; have := HK4.out; omega⟩, ⟨by (with_reducible repeat (first | apply Kd.S_alloc | apply Kd.S_drewN | apply Kd.S_drew)); exact Kd.S_mono HO_3.out (fun _ hk => hk.2)⟩, ⟨by exact sR <| HO475.out⟩, ⟨by exact sW HB.out⟩⟩
                   ·rw [if_neg c38] at H
                    exact absurd H (by simp)
                  ·rw [if_neg c37] at H
                   have c37b0 : (((rd_T39 l0 x4_1).f2) == x6_2) = false := beq_eq_false_iff_ne.mpr c37
                   have c37b1 : (((rd_T39 l0 x4_1).f2) != x6_2) = true := bne_iff_ne.mpr c37
                   by_cases c41 : x5_2.length < 140737488355328
                   ·rw [if_pos c41] at H
                    have LMc41 := am c41
                    clear c41
                    obtain ⟨y476, hy476⟩ : ∃ y_ : List Bool, y_ = (x5_2 ++ [x7_4]) := ⟨_, rfl⟩
                    replace H : (spec_l02Free.l1 k4 l0 x3_1 x4_1 y476 (wrap64 (x6_2 + 1))) = some r := by (rw [hy476]; with_reducible exact H)
                    have Ny476 := am hy476
                    clear hy476
                    have H' := am H
                    clear H
                    obtain ⟨Ao42, co42, eo42⟩ := Kd.R_slice HO_8.out
                    subst eo42
                    have p463 : 0 ≤ (x4_1 : Int) := oD (by assumption)
                    have q463 : x4_1 < (l0.length : Int) := oD (by assumption)
                    obtain ⟨ad463, e463, hx463_0, hx463_1, hx463_2, hx463_3, hx463_4, hx463_5⟩ := at_T39 HR0.out x4_1 p463 q463
                    obtain rfl : ad456 = ad463 := (by injection e463)
                    replace hx463_0 := pw_cell_below HB.out hx463_0
                    replace hx463_1 := pw_cell_below HB.out hx463_1
                    replace hx463_2 := pw_cell_below HB.out hx463_2
                    replace hx463_3 := pw_cell_below HB.out hx463_3
                    replace hx463_4 := pw_cell_below HB.out hx463_4
                    replace hx463_5 := pw_cell_below HB.out hx463_5
                    replace p463 := eq_true p463
                    replace q463 := eq_true q463
                    have p471 : 0 ≤ (x4_1 : Int) := oD (by assumption)
                    have q471 : x4_1 < (l0.length : Int) := oD (by assumption)
                    obtain ⟨ad471, e471, hx471_0, hx471_1, hx471_2, hx471_3, hx471_4, hx471_5⟩ := at_T39 HR0.out x4_1 p471 q471
                    obtain rfl : ad456 = ad471 := (by injection e471)
                    replace hx471_0 := pw_cell_below HB.out hx471_0
                    replace hx471_1 := pw_cell_below HB.out hx471_1
                    replace hx471_2 := pw_cell_below HB.out hx471_2
                    replace hx471_3 := pw_cell_below HB.out hx471_3
                    replace hx471_4 := pw_cell_below HB.out hx471_4
                    replace hx471_5 := pw_cell_below HB.out hx471_5
                    replace p471 := eq_true p471
                    replace q471 := eq_true q471
                    have p472 : 0 ≤ (x4_1 : Int) := oD (by assumption)
                    have q472 : x4_1 < (l0.length : Int) := oD (by assumption)
                    obtain ⟨ad472, e472, hx472_0, hx472_1, hx472_2, hx472_3, hx472_4, hx472_5⟩ := at_T39 HR0.out x4_1 p472 q472
                    obtain rfl : ad456 = ad472 := (by injection e472)
                    replace hx472_0 := pw_cell_below HB.out hx472_0
                    replace hx472_1 := pw_cell_below HB.out hx472_1
                    replace hx472_2 := pw_cell_below HB.out hx472_2
                    replace hx472_3 := pw_cell_below HB.out hx472_3
                    replace hx472_4 := pw_cell_below HB.out hx472_4
                    replace hx472_5 := pw_cell_below HB.out hx472_5
                    replace p472 := eq_true p472
                    replace q472 := eq_true q472
                    go_wp2_with (first | ((with_reducible refine gate_builtin (b := .append) (xs := #[.tmp 84, .tmp 86]) rfl ?_); at_builtin; refine Kd.R_append Kd.bool (w0 := w) w.heap.size rfl (.tmp 84) (.tmp 86) 42 4 (.bool false) 1 rfl Try.underlying42 info4 rfl (by decide) (by omega) u5 x5_2 x7_4 [.bool x7_4] (fun _ => True) (fun _ => False) rfl rfl ?aP (fun _ hk => hk.elim) ?aF ?aO ?aB ?aS ?aL ?_; (case aP => exact rfl); (case aB => exact (by exact sW HB.out)); (case aF => exact (fun _ _ => trivial)); (case aO => exact (by exact sR <| HO_5.out)); (case aS => exact (below_size (by exact sW HB.out))); (case aL => have := LMc41.out; omega); intro v477 w43 ho hb hg hat; rw [← Ny476.out] at ho; have n0_ := am (Kd.S_after (ok := (fun _ => True)) (by (with_reducible repeat (first | apply Kd.S_alloc | apply Kd.S_drewN | apply Kd.S_drew)); exact Kd.S_mono HO_3.out (fun _ hk => ⟨trivial, hk⟩)) hg hat); have n1_ := am (Kd.R_over' (by exact sR <| HO_8.out) (Kd.R_typed (by exact sR <| HO_5.out)) (by decide) hg); have n2_ := am (hb); have n3_ := am (ho); clear HO_3; clear HO_8; clear HB; clear HO_5; have HO_3 := n0_; have HO_8 := n1_; have HB := n2_; have HO478 := n3_; clear n0_ n1_ n2_ n3_; clear ho hb hg hat))
                    go_roundg k4
                    case measure => have := HK1.out; have := HK2.out; have := HJ7.out; have := HK4.out; omega
                    case rel => exact ⟨(y476), (wrap64 (x6_2 + 1)), (by rfl), H', ⟨by have := HK1.out; have := HK2.out; have := HJ7.out; have := HK4.out; omega⟩, ⟨by (with_reducible repeat (first | apply Kd.S_alloc | apply Kd.S_drewN | apply Kd.S_drew)); exact Kd.S_mono HO_3.out (fun _ hk => hk.2)⟩, ⟨by exact sR <| HO478.out⟩, ⟨by exact sW HB.out⟩⟩
                   ·rw [if_neg c41] at H
                    exact absurd H (by simp)
                 ·rw [if_neg c36] at H
                  have c36b0 : (((rd_T39 l0 x4_1).f0) == 20) = false := beq_eq_false_iff_ne.mpr c36
                  have c36b1 : (((rd_T39 l0 x4_1).f0) != 20) = true := bne_iff_ne.mpr c36
                  by_cases c44 : x5_2.length < 140737488355328
                  ·rw [if_pos c44] at H
                   have LMc44 := am c44
                   clear c44
                   obtain ⟨y479, hy479⟩ : ∃ y_ : List Bool, y_ = (x5_2 ++ [x7_4]) := ⟨_, rfl⟩
                   replace H : (spec_l02Free.l1 k4 l0 x3_1 x4_1 y479 (wrap64 (x6_2 + 1))) = some r := by (rw [hy479]; with_reducible exact H)
                   have Ny479 := am hy479
                   clear hy479
                   have H' := am H
                   clear H
                   obtain ⟨Ao45, co45, eo45⟩ := Kd.R_slice HO_8.out
                   subst eo45
                   have p463 : 0 ≤ (x4_1 : Int) := oD (by assumption)
                   have q463 : x4_1 < (l0.length : Int) := oD (by assumption)
                   obtain ⟨ad463, e463, hx463_0, hx463_1, hx463_2, hx463_3, hx463_4, hx463_5⟩ := at_T39 HR0.out x4_1 p463 q463
                   obtain rfl : ad456 = ad463 := (by injection e463)
                   replace hx463_0 := pw_cell_below HB.out hx463_0
                   replace hx463_1 := pw_cell_below HB.out hx463_1
                   replace hx463_2 := pw_cell_below HB.out hx463_2
                   replace hx463_3 := pw_cell_below HB.out hx463_3
                   replace hx463_4 := pw_cell_below HB.out hx463_4
                   replace hx463_5 := pw_cell_below HB.out hx463_5
                   replace p463 := eq_true p463
                   replace q463 := eq_true q463
                   have p471 : 0 ≤ (x4_1 : Int) := oD (by assumption)
                   have q471 : x4_1 < (l0.length : Int) := oD (by assumption)
                   obtain ⟨ad471, e471, hx471_0, hx471_1, hx471_2, hx471_3, hx471_4, hx471_5⟩ := at_T39 HR0.out x4_1 p471 q471
                   obtain rfl : ad456 = ad471 := (by injection e471)
                   replace hx471_0 := pw_cell_below HB.out hx471_0
                   replace hx471_1 := pw_cell_below HB.out hx471_1
                   replace hx471_2 := pw_cell_below HB.out hx471_2
                   replace hx471_3 := pw_cell_below HB.out hx471_3
                   replace hx471_4 := pw_cell_below HB.out hx471_4
                   replace hx471_5 := pw_cell_below HB.out hx471_5
                   replace p471 := eq_true p471
                   replace q471 := eq_true q471
                   go_wp2_with (first | ((with_reducible refine gate_builtin (b := .append) (xs := #[.tmp 84, .tmp 86]) rfl ?_); at_builtin; refine Kd.R_append Kd.bool (w0 := w) w.heap.size rfl (.tmp 84) (.tmp 86) 42 4 (.bool false) 1 rfl Try.underlying42 info4 rfl (by decide) (by omega) u5 x5_2 x7_4 [.bool x7_4] (fun _ => True) (fun _ => False) rfl rfl ?aP (fun _ hk => hk.elim) ?aF ?aO ?aB ?aS ?aL ?_; (case aP => exact rfl); (case aB => exact (by exact sW HB.out)); (case aF => exact (fun _ _ => trivial)); (case aO => exact (by exact sR <| HO_5.out)); (case aS => exact (below_size (by exact sW HB.out))); (case aL => have := LMc44.out; omega); intro v480 w46 ho hb hg hat; rw [← Ny479.out] at ho; have n0_ := am (Kd.S_after (ok := (fun _ => True)) (by (with_reducible repeat (first | apply Kd.S_alloc | apply Kd.S_drewN | apply Kd.S_drew)); exact Kd.S_mono HO_3.out (fun _ hk => ⟨trivial, hk⟩)) hg hat); have n1_ := am (Kd.R_over' (by exact sR <| HO_8.out) (Kd.R_typed (by exact sR <| HO_5.out)) (by decide) hg); have n2_ := am (hb); have n3_ := am (ho); clear HO_3; clear HO_8; clear HB; clear HO_5; have HO_3 := n0_; have HO_8 := n1_; have HB := n2_; have HO481 := n3_; clear n0_ n1_ n2_ n3_; clear ho hb hg hat))
                   go_roundg k4
                   case measure => have := HK1.out; have := HK2.out; have := HJ7.out; have := HK4.out; omega
                   case rel => exact ⟨(y479), (wrap64 (x6_2 + 1)), (by rfl), H', ⟨by have := HK1.out; have := HK2.out; have := HJ7.out; have := HK4.out; omega⟩, ⟨by (with_reducible repeat (first | apply Kd.S_alloc | apply Kd.S_drewN | apply Kd.S_drew)); exact Kd.S_mono HO_3.out (fun _ hk => hk.2)⟩, ⟨by exact sR <| HO481.out⟩, ⟨by exact sW HB.out⟩⟩
                  ·rw [if_neg c44] at H
                   exact absurd H (by simp)
               ·rw [if_neg c27] at H
                exact absurd H (by simp)
              ·rw [if_neg c26] at H
               exact absurd H (by simp)
          ·rw [if_neg c13] at H
           exact absurd H (by simp)
         ·rw [if_neg c12] at H
          exact absurd H (by simp)
      ·rw [if_neg c7] at H
       have c7b0 : decide (x6_2 < 8) = false := decide_eq_false c7
       clear c7
       by_cases c47 : x3_1.length < 5864062014805
       ·rw [if_pos c47] at H
        have LMc47 := am c47
        clear c47
        obtain ⟨y451, hy451⟩ : ∃ y_ : List (List Bool), y_ = (x3_1 ++ [x5_2]) := ⟨_, rfl⟩
        replace H : (spec_l02Free.l0 k2 l0 y451 (wrap64 (x4_1 + 1))) = some r := by (rw [hy451]; with_reducible exact H)
        have Ny451 := am hy451
        clear hy451
        have H' := am H
        clear H
        obtain ⟨Ao49, co49, eo49⟩ := Kd.R_slice HO_5.out
        subst eo49
        go_wp2_with (first | ((with_reducible refine gate_builtin (b := .append) (xs := #[.tmp 88, .tmp 90]) rfl ?_); at_builtin; refine Kd.S_append (Kd.slice 4 Kd.bool) (w0 := w) w.heap.size rfl (.tmp 88) (.tmp 90) 64 42 (.slice none 0 0) 24 rfl Try.underlying64 info42 rfl (by decide) (by omega) u3 x3_1 x5_2 [.slice Ao49 x5_2.length co49] (fun _ => True) (fun k_ => some k_ = (.slice Ao49 x5_2.length co49 : Value).ownBlock) rfl rfl ?aP (fun k_ hk_ => ((Kd.R_mono (ok' := fun k_ => ((fun _ => True)) k_ ∧ some k_ ≠ (u3 : Value).ownBlock) (Kd.R_apart' (HO_5.out) (Kd.S_typed HO_3.out) (by decide)) (fun k_ hk => ⟨trivial, hk.2⟩))).1 k_ hk_.symm) ?aF ?aO ?aB ?aS ?aL ?_; (case aP => exact Kd.M_row (Kd.R_mono (Kd.R_tight rfl (Kd.R_mono (ok' := fun k_ => ((fun _ => True)) k_ ∧ some k_ ≠ (u3 : Value).ownBlock) (Kd.R_apart' (HO_5.out) (Kd.S_typed HO_3.out) (by decide)) (fun k_ hk => ⟨trivial, hk.2⟩))) (fun _ h_ => h_))); (case aB => exact (by exact sW HB.out)); (case aF => exact (fun _ _ => trivial)); (case aO => exact (by (with_reducible repeat (first | apply Kd.S_alloc | apply Kd.S_drewN | apply Kd.S_drew)); exact Kd.S_mono HO_3.out (fun k_ hk => ⟨trivial, fun e_ => hk e_⟩))); (case aS => exact (below_size (by exact sW HB.out))); (case aL => have := LMc47.out; omega); intro v452 w48 ho hb hg hat; rw [← Ny451.out] at ho; have n0_ := am (hb); have n1_ := am (ho); clear HB; clear HO_3; clear HO_5; have HB := n0_; have HO453 := n1_; clear n0_ n1_; clear ho hb hg hat))
        go_roundg k2
        case measure => have := HK1.out; have := HK2.out; omega
        case rel => exact ⟨(y451), (wrap64 (x4_1 + 1)), (by rfl), H', ⟨by have := HK1.out; have := HK2.out; omega⟩, ⟨by (with_reducible repeat (first | apply Kd.S_alloc | apply Kd.S_drewN | apply Kd.S_drew)); exact HO453.out⟩, ⟨by exact sW HB.out⟩⟩
       ·rw [if_neg c47] at H
        exact absurd H (by simp)
   ·rw [if_neg c4] at H
    have c4b0 : decide (x4_1 < (l0.length : Int)) = false := decide_eq_false c4
    clear c4
    obtain ⟨ji50, hji50⟩ : ∃ j_ : Int, (wrap64 ((l0.length : Int) - 1)) = j_ := ⟨_, rfl⟩
    replace H : (if 0 ≤ (ji50) then (if (ji50) < (x3_1.length : Int) then (some (rd_L4 x3_1 (ji50))) else (none)) else (none)) = some r := by (rw [hji50] at H; exact H)
    have hji50w : (IntKind.i64.wrap ((l0.length : Int) - 1)) = ji50 := (i64_w _).trans hji50
    by_cases c51 : 0 ≤ (ji50)
    ·rw [if_pos c51] at H
     have c51b0 : decide (0 ≤ (ji50)) = true := decide_eq_true c51
     clear c51
     by_cases c52 : (ji50) < (x3_1.length : Int)
     ·rw [if_pos c52] at H
      have c52b0 : decide ((ji50) < (x3_1.length : Int)) = true := decide_eq_true c52
      clear c52
      obtain rfl := oI H
      obtain ⟨Ao53, co53, eo53⟩ := Kd.S_slice HO_3.out
      subst eo53
      have p447 : 0 ≤ ((ji50) : Int) := oD (by assumption)
      have q447 : (ji50) < (x3_1.length : Int) := oD (by assumption)
      obtain ⟨ad447, A447_0, c447_0, e447, hx447_0, hl447_0, hi447_0⟩ := at_L4 (Kd.S_reads' HO_3.out).2.2 (ji50) p447 q447
      cases e447
      obtain ⟨ce447, hce447, hMe447, hcc447⟩ := Kd.S_get HO_3.out [] (ji50) p447 (by exact q447)
      obtain ⟨ve447_0, rfl, ge447_0⟩ := hMe447
      have hv447_0 := hcc447 0 _ rfl
      rw [Nat.add_zero, show ((Kd.slice 4 Kd.bool)).sz = 1 from rfl, Nat.mul_one] at hv447_0
      replace hv447_0 := oI (hv447_0.symm.trans hx447_0)
      rw [hv447_0] at ge447_0
      have HL447_0 := am (show Kd.R Kd.bool 4 _ _ _ _ (rd_L4 x3_1 (ji50)) from ge447_0)
      clear hv447_0 ge447_0
      clear hcc447 hce447
      have HR447_0 := am hi447_0
      have HC447_0 := am hl447_0
      clear hi447_0 hl447_0
      replace p447 := eq_true p447
      replace q447 := eq_true q447
      go_wp2
      go_ret
      exact ⟨_, by rfl, by exact sR <| Kd.R_mono HL447_0.out (fun _ hk => trivial), by exact sW HB.out⟩
     ·rw [if_neg c52] at H
      exact absurd H (by simp)
    ·rw [if_neg c51] at H
     exact absurd H (by simp)
/-! ### spec_Free: function 18 -/
def spec_Free.l0 : Nat → List Int → List Bool → Int → Option (List Int)
 | 0, _, _, _ => none
 | k + 1, x3, x4, x5 => if x5 < 8 then (if 0 ≤ x5 then (if x5 < (x4.length : Int) then (if rdOf false x4 x5 = true then (if x3.length < 17592186044416 then (spec_Free.l0 k (x3 ++ [x5]) x4 (wrap64 (x5 + 1))) else (none)) else (spec_Free.l0 k x3 x4 (wrap64 (x5 + 1)))) else (none)) else (none)) else (some x3)
def spec_Free.f (k : Nat) (l0 : List (S39)) : Option (List Int) := (some (([] : List Int) : List Int)).bind fun y482 => ((spec_TermOk.f k l0).bind fun t485 => (if t485 = true then ((spec_l02Free.f k l0).bind fun t486 => (spec_Free.l0 k y482 t486 0)) else (some y482)))
set_option maxHeartbeats 8000000 in
set_option maxRecDepth 100000 in
theorem spec_Free.calls (k : Nat) (A0 : Option Addr) (c0 : Nat) (l0 : List (S39)) (r : List Int) (w : World) (hr0 : Kd.C k39 w A0 l0.length l0) (hc0 : l0.length ≤ c0) (h : spec_Free.f k l0 = some r) :
  Calls Try.prog 18 #[.slice A0 l0.length c0] w fun e w' => ∃ v0_ : Value, e = .returned (v0_) ∧ Kd.R (Kd.int .i64) 3 w' w.heap.size (fun _ => True) v0_ r ∧ Below w.heap.size w w' := by
 have HR0 := am hr0
 have HC0 := am hc0
 clear hr0 hc0
 have HB := am (Below.refl w.heap.size w)
 have H : ((some (([] : List Int) : List Int)).bind fun y482 => ((spec_TermOk.f k l0).bind fun t485 => (if t485 = true then ((spec_l02Free.f k l0).bind fun t486 => (spec_Free.l0 k y482 t486 0)) else (some y482)))) = some r := h
 clear h
 obtain ⟨y482, hy482⟩ : ∃ y_ : List Int, y_ = (([] : List Int)) := ⟨_, rfl⟩
 replace H : ((spec_TermOk.f k l0).bind fun t485 => (if t485 = true then ((spec_l02Free.f k l0).bind fun t486 => (spec_Free.l0 k y482 t486 0)) else (some y482))) = some r := by (have H2_ := (Option.bind_some _ _).symm.trans H; rw [hy482]; with_reducible exact H2_)
 have Ny482 := am hy482
 clear hy482
 replace H := oB H
 obtain ⟨t485, A20, H⟩ := H
 have A2 := am A20
 clear A20
 by_cases c3 : t485 = true
 ·subst c3
  rw [if_pos rfl] at H
  replace H := oB H
  obtain ⟨t486, A40, H⟩ := H
  have A4 := am A40
  clear A40
  have H' := am H
  clear H
  go_enter Try.func18, Try.ntmps18
  go_wp2_with (first | ((with_reducible refine gate_dst (N := 6) rfl ?_); refine Kd.R_lit (Kd.int .i64) _ 3 ?hg (N := 6) ?hd (xs := ([] : List Int)) (inner := []) (ok := fun _ => True) (okp := fun _ => True) ?hr ?hp (fun _ hk => hk) trivial (Below.refl _ _) (Nat.le_refl _) (by simp) ?_; (case hd => rfl); (case hg => rfl); (case hr => (go_simp; done)); (case hp => exact (Reps.none _ _)); intro v483 w5 ho6 hb hg_ hnew_; clear hg_ hnew_; (rw [← Ny482.out] at ho6); have n0_ := am (Kd.R_lower ho6 (below_size (by exact sW HB.out))); have n1_ := am (below_step (by exact sW HB.out) hb); clear HB; have HO484 := n0_; have HB := n1_; clear n0_ n1_; clear hb ho6) | ((with_reducible refine gate_callee (f := 16) rfl ?_); refine goesL_ (some 8) rfl rfl Try.func16 (by kernel_rfl) rfl #[.slice A0 l0.length c0] rfl tm ?_; (with_reducible refine (spec_TermOk.calls k _ _ l0 true _ ?side1 ?side2 A2.out).mono ?_); (case side1 => exact sC (Kd.C_below HR0.out HB.out)); (case side2 => exact HC0.out); rintro e w7 ⟨rfl, hb⟩; refine ⟨_, rfl, ?_⟩; have n0_ := am (Kd.R_below (by exact sR <| HO484.out) hb); have n1_ := am (below_step (by exact sW HB.out) hb); clear HO484; clear HB; have HO484 := n0_; have HB := n1_; clear n0_ n1_; (try clear hb); (try clear hb2); (try clear hk); (try clear hi)) | ((with_reducible refine gate_callee (f := 33) rfl ?_); refine goesL_ (some 12) rfl rfl Try.func33 (by kernel_rfl) rfl #[.slice A0 l0.length c0] rfl tm ?_; (with_reducible refine (spec_l02Free.calls k _ _ l0 t486 _ ?side1 ?side2 A4.out).mono ?_); (case side1 => exact sC (Kd.C_below HR0.out HB.out)); (case side2 => exact HC0.out); rintro e w8 ⟨v487, rfl, ho0, hb⟩; refine ⟨_, rfl, ?_⟩; have n0_ := am (Kd.R_below (by exact sR <| HO484.out) hb); have n1_ := am (Kd.R_lower ho0 (below_size (by exact sW HB.out))); have n2_ := am (below_step (by exact sW HB.out) hb); clear HO484; clear HB; have HO484 := n0_; have HO488 := n1_; have HB := n2_; clear n0_ n1_ n2_; (try clear hb); (try clear hb2); (try clear hk); (try clear hi); (try clear ho0)))
  go_loopg [3, 5] k (fun kq v3 v5 w' => ∃ (x3_1 : List Int) (x5_1 : Int), v5 = .int .i64 x5_1 ∧ Aside0 (spec_Free.l0 kq x3_1 t486 x5_1 = some r) ∧ Aside0 (kq ≤ k) ∧ Aside0 (Kd.R (Kd.int .i64) 3 w' w.heap.size (fun _ => True) v3 x3_1) ∧ Aside0 (Kd.R Kd.bool 4 w' w.heap.size (fun _ => True) v487 t486) ∧ Aside0 (Below w.heap.size w w'))
  case atStart => exact ⟨(y482), (0), (by rfl), H', ⟨Nat.le_refl _⟩, ⟨by exact sR <| HO484.out⟩, ⟨by exact sR <| HO488.out⟩, ⟨by exact sW HB.out⟩⟩
  case round =>
   clear H'
   obtain ⟨x3_1, x5_1, rfl, HA, HK1, HO_3, HO_4, HB⟩ := hrel
   cases gk with
   | zero => exact absurd HA.out (by simp [spec_Free.l0])
   | succ k1 =>
    have H := HA.out
    clear HA
    simp only [spec_Free.l0] at H
    by_cases c9 : x5_1 < 8
    ·rw [if_pos c9] at H
     have c9b0 : decide (x5_1 < 8) = true := decide_eq_true c9
     clear c9
     by_cases c10 : 0 ≤ x5_1
     ·rw [if_pos c10] at H
      have c10b0 : decide (0 ≤ x5_1) = true := decide_eq_true c10
      clear c10
      by_cases c11 : x5_1 < (t486.length : Int)
      ·rw [if_pos c11] at H
       have c11b0 : decide (x5_1 < (t486.length : Int)) = true := decide_eq_true c11
       clear c11
       obtain ⟨bq12, hbq12⟩ : ∃ b_ : Bool, b_ = (rdOf false t486 x5_1) := ⟨_, rfl⟩
       replace H : (if bq12 = true then (if x3_1.length < 17592186044416 then (spec_Free.l0 k1 (x3_1 ++ [x5_1]) t486 (wrap64 (x5_1 + 1))) else (none)) else (spec_Free.l0 k1 x3_1 t486 (wrap64 (x5_1 + 1)))) = some r := by rw [← hbq12] at H; exact H
       have Nbq12 := am hbq12
       clear hbq12
       by_cases c13 : bq12 = true
       ·subst c13
        rw [if_pos rfl] at H
        by_cases c14 : x3_1.length < 17592186044416
        ·rw [if_pos c14] at H
         have LMc14 := am c14
         clear c14
         obtain ⟨y490, hy490⟩ : ∃ y_ : List Int, y_ = (x3_1 ++ [x5_1]) := ⟨_, rfl⟩
         replace H : (spec_Free.l0 k1 y490 t486 (wrap64 (x5_1 + 1))) = some r := by (rw [hy490]; with_reducible exact H)
         have Ny490 := am hy490
         clear hy490
         have H' := am H
         clear H
         obtain ⟨Ao15, co15, eo15⟩ := Kd.R_slice HO_4.out
         subst eo15
         have p489 : 0 ≤ (x5_1 : Int) := oD (by assumption)
         have q489 : x5_1 < (t486.length : Int) := oD (by assumption)
         obtain ⟨ad489, e489, hx489_0⟩ := Kd.at_bool (Kd.R_reads' HO_4.out).2.2 x5_1 p489 q489
         (try rw [← Nbq12.out] at hx489_0)
         cases e489
         replace p489 := eq_true p489
         replace q489 := eq_true q489
         go_wp2_with (first | ((with_reducible refine gate_builtin (b := .append) (xs := #[.tmp 21, .tmp 23]) rfl ?_); at_builtin; refine Kd.R_append (Kd.int .i64) (w0 := w) w.heap.size rfl (.tmp 21) (.tmp 23) 24 3 (.int .i64 0) 8 rfl Try.underlying24 info3 rfl (by decide) (by omega) u3 x3_1 x5_1 [.int .i64 x5_1] (fun _ => True) (fun _ => False) rfl rfl ?aP (fun _ hk => hk.elim) ?aF ?aO ?aB ?aS ?aL ?_; (case aP => exact rfl); (case aB => exact (by exact sW HB.out)); (case aF => exact (fun _ _ => trivial)); (case aO => exact (by exact sR <| HO_3.out)); (case aS => exact (below_size (by exact sW HB.out))); (case aL => have := LMc14.out; omega); intro v491 w16 ho hb hg hat; rw [← Ny490.out] at ho; have n0_ := am (Kd.R_over' (by exact sR <| HO_4.out) (Kd.R_typed (by exact sR <| HO_3.out)) (by decide) hg); have n1_ := am (hb); have n2_ := am (ho); clear HO_4; clear HB; clear HO_3; have HO_4 := n0_; have HB := n1_; have HO492 := n2_; clear n0_ n1_ n2_; clear ho hb hg hat))
         go_roundg k1
         case measure => have := HK1.out; omega
         case rel => exact ⟨(y490), (wrap64 (x5_1 + 1)), (by rfl), H', ⟨by have := HK1.out; omega⟩, ⟨by exact sR <| HO492.out⟩, ⟨by exact sR <| HO_4.out⟩, ⟨by exact sW HB.out⟩⟩
        ·rw [if_neg c14] at H
         exact absurd H (by simp)
       ·replace c13 := Bool.eq_false_iff.mpr c13
        subst c13
        rw [if_neg (show ¬ (false = true) by decide)] at H
        have H' := am H
        clear H
        obtain ⟨Ao17, co17, eo17⟩ := Kd.R_slice HO_4.out
        subst eo17
        have p489 : 0 ≤ (x5_1 : Int) := oD (by assumption)
        have q489 : x5_1 < (t486.length : Int) := oD (by assumption)
        obtain ⟨ad489, e489, hx489_0⟩ := Kd.at_bool (Kd.R_reads' HO_4.out).2.2 x5_1 p489 q489
        (try rw [← Nbq12.out] at hx489_0)
        cases e489
        replace p489 := eq_true p489
        replace q489 := eq_true q489
        go_wp2
        go_roundg k1
        case measure => have := HK1.out; omega
        case rel => exact ⟨(x3_1), (wrap64 (x5_1 + 1)), (by rfl), H', ⟨by have := HK1.out; omega⟩, ⟨by exact sR <| HO_3.out⟩, ⟨by exact sR <| HO_4.out⟩, ⟨by exact sW HB.out⟩⟩
      ·rw [if_neg c11] at H
       exact absurd H (by simp)
     ·rw [if_neg c10] at H
      exact absurd H (by simp)
    ·rw [if_neg c9] at H
     have c9b0 : decide (x5_1 < 8) = false := decide_eq_false c9
     clear c9
     obtain rfl := oI H
     go_wp2
     go_ret
     exact ⟨_, by rfl, by exact sR <| HO_3.out, by exact sW HB.out⟩
 ·replace c3 := Bool.eq_false_iff.mpr c3
  subst c3
  rw [if_neg (show ¬ (false = true) by decide)] at H
  obtain rfl := oI H
  go_enter Try.func18, Try.ntmps18
  go_wp2_with (first | ((with_reducible refine gate_dst (N := 6) rfl ?_); refine Kd.R_lit (Kd.int .i64) _ 3 ?hg (N := 6) ?hd (xs := ([] : List Int)) (inner := []) (ok := fun _ => True) (okp := fun _ => True) ?hr ?hp (fun _ hk => hk) trivial (Below.refl _ _) (Nat.le_refl _) (by simp) ?_; (case hd => rfl); (case hg => rfl); (case hr => (go_simp; done)); (case hp => exact (Reps.none _ _)); intro v483 w18 ho19 hb hg_ hnew_; clear hg_ hnew_; (rw [← Ny482.out] at ho19); have n0_ := am (Kd.R_lower ho19 (below_size (by exact sW HB.out))); have n1_ := am (below_step (by exact sW HB.out) hb); clear HB; have HO484 := n0_; have HB := n1_; clear n0_ n1_; clear hb ho19) | ((with_reducible refine gate_callee (f := 16) rfl ?_); refine goesL_ (some 8) rfl rfl Try.func16 (by kernel_rfl) rfl #[.slice A0 l0.length c0] rfl tm ?_; (with_reducible refine (spec_TermOk.calls k _ _ l0 false _ ?side1 ?side2 A2.out).mono ?_); (case side1 => exact sC (Kd.C_below HR0.out HB.out)); (case side2 => exact HC0.out); rintro e w20 ⟨rfl, hb⟩; refine ⟨_, rfl, ?_⟩; have n0_ := am (Kd.R_below (by exact sR <| HO484.out) hb); have n1_ := am (below_step (by exact sW HB.out) hb); clear HO484; clear HB; have HO484 := n0_; have HB := n1_; clear n0_ n1_; (try clear hb); (try clear hb2); (try clear hk); (try clear hi)))
  go_ret
  exact ⟨_, by rfl, by exact sR <| HO484.out, by exact sW HB.out⟩
end Go.Proofs.Ytjjjbifbibabgaa.PAll
