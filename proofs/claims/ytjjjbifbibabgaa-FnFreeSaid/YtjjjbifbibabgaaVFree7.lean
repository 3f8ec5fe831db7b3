/- Written by a program of this session over the loaded program, and by hand: Go functions as plain Lean functions, and that a call comes to what they say. -/
import Derived.Test.YtjjjbifbibabgaaVFree0
import Derived.Test.YtjjjbifbibabgaaVFree1
import Derived.Test.YtjjjbifbibabgaaBase
import Derived.Test.YtjjjbifbibabgaaSq
namespace Go.Proofs.Ytjjjbifbibabgaa.PAll
open Go.RowKit Go.Proofs.YtjjjbifbibabgaaW.PrintWords Go.Proofs.YtjjjbifbibabgaaW.PrintLast Go.Proofs.YtjjjbifbibabgaaW.PrintMore Go.Proofs.YtjjjbifbibabgaaW.Sq
attribute [local go_sem] max2_int min2_int max_two min_two max_three min_three max_four min_four   -- for this text's walks alone
set_option linter.unusedVariables false
set_option linter.unusedSimpArgs false

/-! ### spec_l02Reach: function 23 -/
mutual
def spec_l02Reach.l0 : Nat → List (S39) → List Bool → Int → Option (List Bool)
 | 0, _, _, _ => none
 | k + 1, x0, x3, x4 => if x4 < (x0.length : Int) then (if x3.length < 140737488355328 then (spec_l02Reach.l0 k x0 (x3 ++ [(x4 == (wrap64 ((x0.length : Int) - 1)))]) (wrap64 (x4 + 1))) else (none)) else (spec_l02Reach.l1 k x0 x3 (wrap64 ((x0.length : Int) - 1)))
def spec_l02Reach.l1 : Nat → List (S39) → List Bool → Int → Option (List Bool)
 | 0, _, _, _ => none
 | k + 1, x0, x3, x5 => if x5 ≥ 0 then (if 0 ≤ x5 then (if x5 < (x0.length : Int) then ((spec_Parts.f k ((rd_T39 x0 x5).f0) ((rd_T39 x0 x5).f1) ((rd_T39 x0 x5).f2) ((rd_T39 x0 x5).f3) ((rd_T39 x0 x5).f4) ((rd_T39 x0 x5).f5)).bind fun t500 => (spec_l02Reach.l2 k x0 x3 x5 t500 0)) else (none)) else (none)) else (some x3)
def spec_l02Reach.l2 : Nat → List (S39) → List Bool → Int → List Int → Int → Option (List Bool)
 | 0, _, _, _, _, _ => none
 | k + 1, x0, x3, x5, x6, x7 => if x7 < (x6.length : Int) then (if 0 ≤ x5 then (if x5 < (x3.length : Int) then (if rdOf false x3 x5 = true then (if 0 ≤ x7 then (if 0 ≤ (rd x6 x7) then (if (rd x6 x7) < (x3.length : Int) then (spec_l02Reach.l2 k x0 (x3.set ((rd x6 x7) : Int).toNat true) x5 x6 (wrap64 (x7 + 1))) else (none)) else (none)) else (none)) else (spec_l02Reach.l1 k x0 x3 (wrap64 (x5 - 1)))) else (none)) else (none)) else (spec_l02Reach.l1 k x0 x3 (wrap64 (x5 - 1)))
end
def spec_l02Reach.f (k : Nat) (l0 : List (S39)) : Option (List Bool) := spec_l02Reach.l0 k l0 (([] : List Bool)) 0
set_option maxHeartbeats 8000000 in
set_option maxRecDepth 100000 in
theorem spec_l02Reach.calls (k : Nat) (A0 : Option Addr) (c0 : Nat) (l0 : List (S39)) (r : List Bool) (w : World) (hr0 : Kd.C k39 w A0 l0.length l0) (hc0 : l0.length ≤ c0) (h : spec_l02Reach.f k l0 = some r) :
  Calls Try.prog 23 #[.slice A0 l0.length c0] w fun e w' => ∃ v0_ : Value, e = .returned (v0_) ∧ Kd.R Kd.bool 4 w' w.heap.size (fun _ => True) v0_ r ∧ Below w.heap.size w w' := by
 have hu39 := Try.underlying39
 have HR0 := am hr0
 have HC0 := am hc0
 clear hr0 hc0
 have HB := am (Below.refl w.heap.size w)
 have H : (spec_l02Reach.l0 k l0 (([] : List Bool)) 0) = some r := h
 clear h
 obtain ⟨y493, hy493⟩ : ∃ y_ : List Bool, y_ = (([] : List Bool)) := ⟨_, rfl⟩
 replace H : (spec_l02Reach.l0 k l0 y493 0) = some r := by (rw [hy493]; with_reducible exact H)
 have Ny493 := am hy493
 clear hy493
 have H' := am H
 clear H
 go_enter Try.func23, Try.ntmps23
 go_wp2_with (first | ((with_reducible refine gate_dst (N := 8) rfl ?_); refine Kd.R_lit Kd.bool _ 4 ?hg (N := 8) ?hd (xs := ([] : List Bool)) (inner := []) (ok := fun _ => True) (okp := fun _ => True) ?hr ?hp (fun _ hk => hk) trivial (Below.refl _ _) (Nat.le_refl _) (by simp) ?_; (case hd => rfl); (case hg => rfl); (case hr => (go_simp; done)); (case hp => exact (Reps.none _ _)); intro v494 w2 ho3 hb hg_ hnew_; clear hg_ hnew_; (rw [← Ny493.out] at ho3); have n0_ := am (Kd.R_lower ho3 (below_size (by exact sW HB.out))); have n1_ := am (below_step (by exact sW HB.out) hb); clear HB; have HO495 := n0_; have HB := n1_; clear n0_ n1_; clear hb ho3))
 go_loopg [3, 4] k (fun kq v3 v4 w' => ∃ (x3_1 : List Bool) (x4_1 : Int), v4 = .int .i64 x4_1 ∧ Aside0 (spec_l02Reach.l0 kq l0 x3_1 x4_1 = some r) ∧ Aside0 (kq ≤ k) ∧ Aside0 (Kd.R Kd.bool 4 w' w.heap.size (fun _ => True) v3 x3_1) ∧ Aside0 (Below w.heap.size w w'))
 case atStart => exact ⟨(y493), (0), (by rfl), H', ⟨Nat.le_refl _⟩, ⟨by exact sR <| HO495.out⟩, ⟨by exact sW HB.out⟩⟩
 case round =>
  clear H'
  obtain ⟨x3_1, x4_1, rfl, HA, HK1, HO_3, HB⟩ := hrel
  cases gk with
  | zero => exact absurd HA.out (by simp [spec_l02Reach.l0])
  | succ k1 =>
   have H := HA.out
   clear HA
   simp only [spec_l02Reach.l0] at H
   by_cases c4 : x4_1 < (l0.length : Int)
   ·rw [if_pos c4] at H
    have c4b0 : decide (x4_1 < (l0.length : Int)) = true := decide_eq_true c4
    clear c4
    by_cases c5 : x3_1.length < 140737488355328
    ·rw [if_pos c5] at H
     have LMc5 := am c5
     clear c5
     obtain ⟨y496, hy496⟩ : ∃ y_ : List Bool, y_ = (x3_1 ++ [(x4_1 == (wrap64 ((l0.length : Int) - 1)))]) := ⟨_, rfl⟩
     replace H : (spec_l02Reach.l0 k1 l0 y496 (wrap64 (x4_1 + 1))) = some r := by (rw [hy496]; with_reducible exact H)
     have Ny496 := am hy496
     clear hy496
     have H' := am H
     clear H
     go_wp2_with (first | ((with_reducible refine gate_builtin (b := .append) (xs := #[.tmp 15, .tmp 21]) rfl ?_); at_builtin; refine Kd.R_append Kd.bool (w0 := w) w.heap.size rfl (.tmp 15) (.tmp 21) 42 4 (.bool false) 1 rfl Try.underlying42 info4 rfl (by decide) (by omega) u3 x3_1 (x4_1 == (wrap64 ((l0.length : Int) - 1))) [.bool (x4_1 == (wrap64 ((l0.length : Int) - 1)))] (fun _ => True) (fun _ => False) rfl rfl ?aP (fun _ hk => hk.elim) ?aF ?aO ?aB ?aS ?aL ?_; (case aP => exact rfl); (case aB => exact (by exact sW HB.out)); (case aF => exact (fun _ _ => trivial)); (case aO => exact (by exact sR <| HO_3.out)); (case aS => exact (below_size (by exact sW HB.out))); (case aL => have := LMc5.out; omega); intro v497 w6 ho hb hg hat; rw [← Ny496.out] at ho; have n0_ := am (hb); have n1_ := am (ho); clear HB; clear HO_3; have HB := n0_; have HO498 := n1_; clear n0_ n1_; clear ho hb hg hat))
     go_roundg k1
     case measure => have := HK1.out; omega
     case rel => exact ⟨(y496), (wrap64 (x4_1 + 1)), (by rfl), H', ⟨by have := HK1.out; omega⟩, ⟨by exact sR <| HO498.out⟩, ⟨by exact sW HB.out⟩⟩
    ·rw [if_neg c5] at H
     exact absurd H (by simp)
   ·rw [if_neg c4] at H
    have c4b0 : decide (x4_1 < (l0.length : Int)) = false := decide_eq_false c4
    clear c4
    have H' := am H
    clear H
    go_wp2
    go_loopg [5] k1 (fun kq v5 w' => ∃ (x3_2 : List Bool) (x5_2 : Int), v5 = .int .i64 x5_2 ∧ Aside0 (spec_l02Reach.l1 kq l0 x3_2 x5_2 = some r) ∧ Aside0 (kq ≤ k1) ∧ Aside0 (Kd.R Kd.bool 4 w' w.heap.size (fun _ => True) u3 x3_2) ∧ Aside0 (Below w.heap.size w w'))
    case atStart => exact ⟨(x3_1), (wrap64 ((l0.length : Int) - 1)), (by rfl), H', ⟨Nat.le_refl _⟩, ⟨by exact sR <| HO_3.out⟩, ⟨by exact sW HB.out⟩⟩
    case round =>
     clear H'
     clear c4b0
     obtain ⟨x3_2, x5_2, rfl, HA, HK2, HO_3, HB⟩ := hrel
     cases gk with
     | zero => exact absurd HA.out (by simp [spec_l02Reach.l1])
     | succ k2 =>
      have H := HA.out
      clear HA
      simp only [spec_l02Reach.l1] at H
      by_cases c7 : x5_2 ≥ 0
      ·rw [if_pos c7] at H
       have c7b0 : decide (0 ≤ x5_2) = true := decide_eq_true c7
       clear c7
       by_cases c8 : 0 ≤ x5_2
       ·rw [if_pos c8] at H
        have c8b0 : decide (0 ≤ x5_2) = true := decide_eq_true c8
        clear c8
        by_cases c9 : x5_2 < (l0.length : Int)
        ·rw [if_pos c9] at H
         have c9b0 : decide (x5_2 < (l0.length : Int)) = true := decide_eq_true c9
         clear c9
         replace H := oB H
         obtain ⟨t500, A100, H⟩ := H
         have A10 := am A100
         clear A100
         have H' := am H
         clear H
         have p499 : 0 ≤ (x5_2 : Int) := oD (by assumption)
         have q499 : x5_2 < (l0.length : Int) := oD (by assumption)
         obtain ⟨ad499, e499, hx499_0, hx499_1, hx499_2, hx499_3, hx499_4, hx499_5⟩ := at_T39 HR0.out x5_2 p499 q499
         cases e499
         replace hx499_0 := pw_cell_below HB.out hx499_0
         replace hx499_1 := pw_cell_below HB.out hx499_1
         replace hx499_2 := pw_cell_below HB.out hx499_2
         replace hx499_3 := pw_cell_below HB.out hx499_3
         replace hx499_4 := pw_cell_below HB.out hx499_4
         replace hx499_5 := pw_cell_below HB.out hx499_5
         replace p499 := eq_true p499
         replace q499 := eq_true q499
         go_wp2_with (first | ((with_reducible refine gate_callee (f := 37) rfl ?_); refine goesL_ (some 34) rfl rfl Try.func37 (by kernel_rfl) rfl #[.agg #[.int .i64 ((rd_T39 l0 x5_2).f0), .int .i64 ((rd_T39 l0 x5_2).f1), .int .i64 ((rd_T39 l0 x5_2).f2), .int .i64 ((rd_T39 l0 x5_2).f3), .int .i64 ((rd_T39 l0 x5_2).f4), .int .i64 ((rd_T39 l0 x5_2).f5)]] rfl tm ?_; (with_reducible refine (spec_Parts.calls k2 ((rd_T39 l0 x5_2).f0) ((rd_T39 l0 x5_2).f1) ((rd_T39 l0 x5_2).f2) ((rd_T39 l0 x5_2).f3) ((rd_T39 l0 x5_2).f4) ((rd_T39 l0 x5_2).f5) t500 _ A10.out).mono ?_); rintro e w11 ⟨v501, rfl, ho0, hb⟩; refine ⟨_, rfl, ?_⟩; have n0_ := am (Kd.R_below (by exact sR <| HO_3.out) hb); have n1_ := am (Kd.R_lower ho0 (below_size (by exact sW HB.out))); have n2_ := am (below_step (by exact sW HB.out) hb); clear HO_3; clear HB; have HO_3 := n0_; have HO502 := n1_; have HB := n2_; clear n0_ n1_ n2_; (try clear hb); (try clear hb2); (try clear hk); (try clear hi); (try clear ho0)))
         go_loopg [7] k2 (fun kq v7 w' => ∃ (x3_3 : List Bool) (x7_3 : Int), v7 = .int .i64 x7_3 ∧ Aside0 (spec_l02Reach.l2 kq l0 x3_3 x5_2 t500 x7_3 = some r) ∧ Aside0 (kq ≤ k2) ∧ Aside0 (Kd.R Kd.bool 4 w' w.heap.size (fun _ => True) u3 x3_3) ∧ Aside0 (Kd.R (Kd.int .i64) 3 w' w.heap.size (fun _ => True) v501 t500) ∧ Aside0 (Below w.heap.size w w'))
         case atStart => exact ⟨(x3_2), (0), (by rfl), H', ⟨Nat.le_refl _⟩, ⟨by exact sR <| HO_3.out⟩, ⟨by exact sR <| HO502.out⟩, ⟨by exact sW HB.out⟩⟩
         case round =>
          clear H'
          clear c7b0 c8b0 c9b0 hx499_0 hx499_1 hx499_2 hx499_3 hx499_4 hx499_5 p499 q499
          obtain ⟨x3_3, x7_3, rfl, HA, HK3, HO_3, HO_6, HB⟩ := hrel
          cases gk with
          | zero => exact absurd HA.out (by simp [spec_l02Reach.l2])
          | succ k3 =>
           have H := HA.out
           clear HA
           simp only [spec_l02Reach.l2] at H
           by_cases c12 : x7_3 < (t500.length : Int)
           ·rw [if_pos c12] at H
            have c12b0 : decide (x7_3 < (t500.length : Int)) = true := decide_eq_true c12
            clear c12
            by_cases c13 : 0 ≤ x5_2
            ·rw [if_pos c13] at H
             have c13b0 : decide (0 ≤ x5_2) = true := decide_eq_true c13
             clear c13
             by_cases c14 : x5_2 < (x3_3.length : Int)
             ·rw [if_pos c14] at H
              have c14b0 : decide (x5_2 < (x3_3.length : Int)) = true := decide_eq_true c14
              clear c14
              obtain ⟨bq15, hbq15⟩ : ∃ b_ : Bool, b_ = (rdOf false x3_3 x5_2) := ⟨_, rfl⟩
              replace H : (if bq15 = true then (if 0 ≤ x7_3 then (if 0 ≤ (rd t500 x7_3) then (if (rd t500 x7_3) < (x3_3.length : Int) then (spec_l02Reach.l2 k3 l0 (x3_3.set ((rd t500 x7_3) : Int).toNat true) x5_2 t500 (wrap64 (x7_3 + 1))) else (none)) else (none)) else (none)) else (spec_l02Reach.l1 k3 l0 x3_3 (wrap64 (x5_2 - 1)))) = some r := by rw [← hbq15] at H; exact H
              have Nbq15 := am hbq15
              clear hbq15
              by_cases c16 : bq15 = true
              ·subst c16
               rw [if_pos rfl] at H
               by_cases c17 : 0 ≤ x7_3
               ·rw [if_pos c17] at H
                have c17b0 : decide (0 ≤ x7_3) = true := decide_eq_true c17
                clear c17
                by_cases c18 : 0 ≤ (rd t500 x7_3)
                ·rw [if_pos c18] at H
                 have c18b0 : decide (0 ≤ (rd t500 x7_3)) = true := decide_eq_true c18
                 clear c18
                 by_cases c19 : (rd t500 x7_3) < (x3_3.length : Int)
                 ·rw [if_pos c19] at H
                  have c19b0 : decide ((rd t500 x7_3) < (x3_3.length : Int)) = true := decide_eq_true c19
                  clear c19
                  obtain ⟨y505, hy505⟩ : ∃ y_ : List Bool, y_ = (x3_3.set ((rd t500 x7_3) : Int).toNat true) := ⟨_, rfl⟩
                  replace H : (spec_l02Reach.l2 k3 l0 y505 x5_2 t500 (wrap64 (x7_3 + 1))) = some r := by (rw [hy505]; with_reducible exact H)
                  have Ny505 := am hy505
                  clear hy505
                  have H' := am H
                  clear H
                  obtain ⟨Ao21, co21, eo21⟩ := Kd.R_slice HO_6.out
                  subst eo21
                  obtain ⟨Ao22, co22, eo22⟩ := Kd.R_slice HO_3.out
                  subst eo22
                  have p503 : 0 ≤ (x5_2 : Int) := oD (by assumption)
                  have q503 : x5_2 < (x3_3.length : Int) := oD (by assumption)
                  obtain ⟨ad503, e503, hx503_0⟩ := Kd.at_bool (Kd.R_reads' HO_3.out).2.2 x5_2 p503 q503
                  (try rw [← Nbq15.out] at hx503_0)
                  cases e503
                  replace p503 := eq_true p503
                  replace q503 := eq_true q503
                  have p504 : 0 ≤ (x7_3 : Int) := oD (by assumption)
                  have q504 : x7_3 < (t500.length : Int) := oD (by assumption)
                  obtain ⟨ad504, e504, hx504_0⟩ := Kd.at_int (Kd.R_reads' HO_6.out).2.2 x7_3 p504 q504
                  cases e504
                  replace p504 := eq_true p504
                  replace q504 := eq_true q504
                  have p20 : 0 ≤ ((rd t500 x7_3) : Int) := oD (by assumption)
                  have q20 : ((rd t500 x7_3) : Int) < ((x3_3.length : Int) : Int) := oD (by assumption)
                  obtain ⟨go20, co20, eo20, gb20, gl20, cl20, HG20⟩ := Kd.R_form HO_3.out (by omega)
                  (cases eo20)
                  have GB20 := am gb20
                  have GG20 := am HG20
                  clear gb20 gl20 HG20
                  (simp only [add_plain] at hx503_0)
                  obtain ⟨hx20_0, hf20_0⟩ := Kd.R_celln false HO_3.out ((rd t500 x7_3) : Int) p20 q20
                  replace p20 := eq_true p20
                  replace q20 := eq_true q20
                  have HP23 := Kd.R_putg HO_3.out ((rd t500 x7_3) : Int) true
                  go_wp2_with (first | ((with_reducible refine gate_store (t := 4) (p := 52) rfl ?_); refine store_event (t := 4) (p := 52) (v := ?vo_w24) (w1 := (wr.setCell ⟨go20, ((rd t500 x7_3) : Int).toNat, none⟩ (.bool true))) ?hg ?ho ?hn ?hr ?_; (case ho => rfl); (case hg => rfl); (case hn => rfl); (case hr => (go_simp; done)); intro w24 hw; have hg : wr.grownBy w24 (some go20) := (by rw [hw]; exact HP23.2); have hp_ : Kd.R Kd.bool 4 w24 w.heap.size (fun _ => True) (.slice (some ⟨go20, 0, none⟩) x3_3.length co22) y505 := (by rw [hw, Ny505.out]; exact HP23.1); clear HP23; have n0_ := am (hp_); have n1_ := am (Kd.R_over' (v := (.slice (some ⟨go20, 0, none⟩) x3_3.length co22)) (by exact sR <| HO_6.out) (Kd.R_typed HO_3.out) (by decide) hg); have n2_ := am ((by rw [hw]; exact below_set (HB.out) GB20.out : Below w.heap.size w w24)); clear HO_3; clear HO_6; clear HB; have HO_3 := n0_; have HO_6 := n1_; have HB := n2_; clear n0_ n1_ n2_; clear hg hw hp_))
                  go_roundg k3
                  case measure => have := HK1.out; have := HK2.out; have := HK3.out; omega
                  case rel => exact ⟨(y505), (wrap64 (x7_3 + 1)), (by rfl), H', ⟨by have := HK1.out; have := HK2.out; have := HK3.out; omega⟩, ⟨by exact sR <| HO_3.out⟩, ⟨by exact sR <| HO_6.out⟩, ⟨by exact sW HB.out⟩⟩
                 ·rw [if_neg c19] at H
                  exact absurd H (by simp)
                ·rw [if_neg c18] at H
                 exact absurd H (by simp)
               ·rw [if_neg c17] at H
                exact absurd H (by simp)
              ·replace c16 := Bool.eq_false_iff.mpr c16
               subst c16
               rw [if_neg (show ¬ (false = true) by decide)] at H
               have H' := am H
               clear H
               obtain ⟨Ao25, co25, eo25⟩ := Kd.R_slice HO_6.out
               subst eo25
               obtain ⟨Ao26, co26, eo26⟩ := Kd.R_slice HO_3.out
               subst eo26
               have p503 : 0 ≤ (x5_2 : Int) := oD (by assumption)
               have q503 : x5_2 < (x3_3.length : Int) := oD (by assumption)
               obtain ⟨ad503, e503, hx503_0⟩ := Kd.at_bool (Kd.R_reads' HO_3.out).2.2 x5_2 p503 q503
               (try rw [← Nbq15.out] at hx503_0)
               cases e503
               replace p503 := eq_true p503
               replace q503 := eq_true q503
               go_wp2
               go_roundg k3
               case measure => have := HK1.out; have := HK2.out; have := HK3.out; omega
               case rel => exact ⟨(x3_3), (wrap64 (x5_2 - 1)), (by rfl), H', ⟨by have := HK1.out; have := HK2.out; have := HK3.out; omega⟩, ⟨by exact sR <| HO_3.out⟩, ⟨by exact sW HB.out⟩⟩
             ·rw [if_neg c14] at H
              exact absurd H (by simp)
            ·rw [if_neg c13] at H
             exact absurd H (by simp)
           ·rw [if_neg c12] at H
            have c12b0 : decide (x7_3 < (t500.length : Int)) = false := decide_eq_false c12
            clear c12
            have H' := am H
            clear H
            obtain ⟨Ao27, co27, eo27⟩ := Kd.R_slice HO_6.out
            subst eo27
            go_wp2
            go_roundg k3
            case measure => have := HK1.out; have := HK2.out; have := HK3.out; omega
            case rel => exact ⟨(x3_3), (wrap64 (x5_2 - 1)), (by rfl), H', ⟨by have := HK1.out; have := HK2.out; have := HK3.out; omega⟩, ⟨by exact sR <| HO_3.out⟩, ⟨by exact sW HB.out⟩⟩
        ·rw [if_neg c9] at H
         exact absurd H (by simp)
       ·rw [if_neg c8] at H
        exact absurd H (by simp)
      ·rw [if_neg c7] at H
       have c7b0 : decide (0 ≤ x5_2) = false := decide_eq_false c7
       clear c7
       obtain rfl := oI H
       go_wp2
       go_ret
       exact ⟨_, by rfl, by exact sR <| HO_3.out, by exact sW HB.out⟩
end Go.Proofs.Ytjjjbifbibabgaa.PAll
