/- Written by a program of this session over the loaded program, and by hand: Go functions as plain Lean functions, and that a call comes to what they say. -/
import Derived.Test.YtkpipmojkhikaaaVExactValue0
import Derived.Test.YtkpipmojkhikaaaVExactValue2
import Derived.Test.YtkpipmojkhikaaaVExactValue3
import Derived.Test.YtkpipmojkhikaaaBase
import Derived.Test.YtkpipmojkhikaaaSq
namespace Go.Proofs.Ytkpipmojkhikaaa.PAll
open Go.RowKit Go.Proofs.YtkpipmojkhikaaaW.PrintWords Go.Proofs.YtkpipmojkhikaaaW.PrintLast Go.Proofs.YtkpipmojkhikaaaW.PrintMore Go.Proofs.YtkpipmojkhikaaaW.Sq
attribute [local go_sem] max2_int min2_int max_two min_two max_three min_three max_four min_four   -- for this text's walks alone
set_option linter.unusedVariables false
set_option linter.unusedSimpArgs false

/-! ### spec_l02Reach: function 80 -/
mutual
def spec_l02Reach.l0 : Nat → List (S31) → List Bool → Int → Option (List Bool)
 | 0, _, _, _ => none
 | k + 1, x0, x3, x4 => if x4 < (x0.length : Int) then (if x3.length < 140737488355328 then (spec_l02Reach.l0 k x0 (x3 ++ [(x4 == (wrap64 ((x0.length : Int) - 1)))]) (wrap64 (x4 + 1))) else (none)) else (spec_l02Reach.l1 k x0 x3 (wrap64 ((x0.length : Int) - 1)))
def spec_l02Reach.l1 : Nat → List (S31) → List Bool → Int → Option (List Bool)
 | 0, _, _, _ => none
 | k + 1, x0, x3, x5 => if x5 ≥ 0 then (if 0 ≤ x5 then (if x5 < (x0.length : Int) then ((spec_Parts.f k ((rd_T31 x0 x5).f0) ((rd_T31 x0 x5).f1) ((rd_T31 x0 x5).f2) ((rd_T31 x0 x5).f3) ((rd_T31 x0 x5).f4) ((rd_T31 x0 x5).f5)).bind fun t430 => (spec_l02Reach.l2 k x0 x3 x5 t430 0)) else (none)) else (none)) else (some x3)
def spec_l02Reach.l2 : Nat → List (S31) → List Bool → Int → List Int → Int → Option (List Bool)
 | 0, _, _, _, _, _ => none
 | k + 1, x0, x3, x5, x6, x7 => if x7 < (x6.length : Int) then (if 0 ≤ x5 then (if x5 < (x3.length : Int) then (if rdOf false x3 x5 = true then (if 0 ≤ x7 then (if 0 ≤ (rd x6 x7) then (if (rd x6 x7) < (x3.length : Int) then (spec_l02Reach.l2 k x0 (x3.set ((rd x6 x7) : Int).toNat true) x5 x6 (wrap64 (x7 + 1))) else (none)) else (none)) else (none)) else (spec_l02Reach.l1 k x0 x3 (wrap64 (x5 - 1)))) else (none)) else (none)) else (spec_l02Reach.l1 k x0 x3 (wrap64 (x5 - 1)))
end
def spec_l02Reach.f (k : Nat) (l0 : List (S31)) : Option (List Bool) := spec_l02Reach.l0 k l0 (([] : List Bool)) 0
set_option maxHeartbeats 8000000 in
set_option maxRecDepth 100000 in
theorem spec_l02Reach.calls (k : Nat) (A0 : Option Addr) (c0 : Nat) (l0 : List (S31)) (r : List Bool) (w : World) (hr0 : Kd.C k31 w A0 l0.length l0) (hc0 : l0.length ≤ c0) (h : spec_l02Reach.f k l0 = some r) :
  Calls Try.prog 80 #[.slice A0 l0.length c0] w fun e w' => ∃ v0_ : Value, e = .returned (v0_) ∧ Kd.R Kd.bool 4 w' w.heap.size (fun _ => True) v0_ r ∧ Below w.heap.size w w' := by
 have hu31 := Try.underlying31
 have HR0 := am hr0
 have HC0 := am hc0
 clear hr0 hc0
 have HB := am (Below.refl w.heap.size w)
 have H : (spec_l02Reach.l0 k l0 (([] : List Bool)) 0) = some r := h
 clear h
 obtain ⟨y423, hy423⟩ : ∃ y_ : List Bool, y_ = (([] : List Bool)) := ⟨_, rfl⟩
 replace H : (spec_l02Reach.l0 k l0 y423 0) = some r := by (rw [hy423]; with_reducible exact H)
 have Ny423 := am hy423
 clear hy423
 have H' := am H
 clear H
 go_enter Try.func80, Try.ntmps80
 go_wp2_with (first | ((with_reducible refine gate_dst (N := 8) rfl ?_); refine Kd.R_lit Kd.bool _ 4 ?hg (N := 8) ?hd (xs := ([] : List Bool)) (inner := []) (ok := fun _ => True) (okp := fun _ => True) ?hr ?hp (fun _ hk => hk) trivial (Below.refl _ _) (Nat.le_refl _) (by simp) ?_; (case hd => rfl); (case hg => rfl); (case hr => (go_simp; done)); (case hp => exact (Reps.none _ _)); intro v424 w2 ho3 hb hg_ hnew_; clear hg_ hnew_; (rw [← Ny423.out] at ho3); have n0_ := am (Kd.R_lower ho3 (below_size (by exact sW HB.out))); have n1_ := am (below_step (by exact sW HB.out) hb); clear HB; have HO425 := n0_; have HB := n1_; clear n0_ n1_; clear hb ho3))
 go_loopg [3, 4] k (fun kq v3 v4 w' => ∃ (x3_1 : List Bool) (x4_1 : Int), v4 = .int .i64 x4_1 ∧ Aside0 (spec_l02Reach.l0 kq l0 x3_1 x4_1 = some r) ∧ Aside0 (kq ≤ k) ∧ Aside0 (Kd.R Kd.bool 4 w' w.heap.size (fun _ => True) v3 x3_1) ∧ Aside0 (Below w.heap.size w w'))
 case atStart => exact ⟨(y423), (0), (by rfl), H', ⟨Nat.le_refl _⟩, ⟨by exact sR <| HO425.out⟩, ⟨by exact sW HB.out⟩⟩
 case round =>
  clear H'
  obtain ⟨x3_1, x4_1, rfl, HA, HK1, HO_3, HB⟩ := hrel
  cases gk with
  | zero => exact absurd HA.out (by simp [spec_l02Reach.l0])
  | succ k1 =>
   have H := HA.out
   clear HA
   simp only [spec_l02Reach.l0] at H
   by_cases c4 : x4_1 < (l0.length : Int)
   ·rw [if_pos c4] at H
    have c4b0 : decide (x4_1 < (l0.length : Int)) = true := decide_eq_true c4
    clear c4
    by_cases c5 : x3_1.length < 140737488355328
    ·rw [if_pos c5] at H
     have LMc5 := am c5
     clear c5
     obtain ⟨y426, hy426⟩ : ∃ y_ : List Bool, y_ = (x3_1 ++ [(x4_1 == (wrap64 ((l0.length : Int) - 1)))]) := ⟨_, rfl⟩
     replace H : (spec_l02Reach.l0 k1 l0 y426 (wrap64 (x4_1 + 1))) = some r := by (rw [hy426]; with_reducible exact H)
     have Ny426 := am hy426
     clear hy426
     have H' := am H
     clear H
     go_wp2_with (first | ((with_reducible refine gate_builtin (b := .append) (xs := #[.tmp 15, .tmp 21]) rfl ?_); at_builtin; refine Kd.R_append Kd.bool (w0 := w) w.heap.size rfl (.tmp 15) (.tmp 21) 76 4 (.bool false) 1 rfl Try.underlying76 info4 rfl (by decide) (by omega) u3 x3_1 (x4_1 == (wrap64 ((l0.length : Int) - 1))) [.bool (x4_1 == (wrap64 ((l0.length : Int) - 1)))] (fun _ => True) (fun _ => False) rfl rfl ?aP (fun _ hk => hk.elim) ?aF ?aO ?aB ?aS ?aL ?_; (case aP => exact rfl); (case aB => exact (by exact sW HB.out)); (case aF => exact (fun _ _ => trivial)); (case aO => exact (by exact sR <| HO_3.out)); (case aS => exact (below_size (by exact sW HB.out))); (case aL => have := LMc5.out; omega); intro v427 w6 ho hb hg hat; rw [← Ny426.out] at ho; have n0_ := am (hb); have n1_ := am (ho); clear HB; clear HO_3; have HB := n0_; have HO428 := n1_; clear n0_ n1_; clear ho hb hg hat))
     go_roundg k1
     case measure => have := HK1.out; omega
     case rel => exact ⟨(y426), (wrap64 (x4_1 + 1)), (by rfl), H', ⟨by have := HK1.out; omega⟩, ⟨by exact sR <| HO428.out⟩, ⟨by exact sW HB.out⟩⟩
    ·rw [if_neg c5] at H
     exact absurd H (by simp)
   ·rw [if_neg c4] at H
    have c4b0 : decide (x4_1 < (l0.length : Int)) = false := decide_eq_false c4
    clear c4
    have H' := am H
    clear H
    go_wp2
    go_loopg [5] k1 (fun kq v5 w' => ∃ (x3_2 : List Bool) (x5_2 : Int), v5 = .int .i64 x5_2 ∧ Aside0 (spec_l02Reach.l1 kq l0 x3_2 x5_2 = some r) ∧ Aside0 (kq ≤ k1) ∧ Aside0 (Kd.R Kd.bool 4 w' w.heap.size (fun _ => True) u3 x3_2) ∧ Aside0 (Below w.heap.size w w'))
    case atStart => exact ⟨(x3_1), (wrap64 ((l0.length : Int) - 1)), (by rfl), H', ⟨Nat.le_refl _⟩, ⟨by exact sR <| HO_3.out⟩, ⟨by exact sW HB.out⟩⟩
    case round =>
     clear H'
     clear c4b0
     obtain ⟨x3_2, x5_2, rfl, HA, HK2, HO_3, HB⟩ := hrel
     cases gk with
     | zero => exact absurd HA.out (by simp [spec_l02Reach.l1])
     | succ k2 =>
      have H := HA.out
      clear HA
      simp only [spec_l02Reach.l1] at H
      by_cases c7 : x5_2 ≥ 0
      ·rw [if_pos c7] at H
       have c7b0 : decide (0 ≤ x5_2) = true := decide_eq_true c7
       clear c7
       by_cases c8 : 0 ≤ x5_2
       ·rw [if_pos c8] at H
        have c8b0 : decide (0 ≤ x5_2) = true := decide_eq_true c8
        clear c8
        by_cases c9 : x5_2 < (l0.length : Int)
        ·rw [if_pos c9] at H
         have c9b0 : decide (x5_2 < (l0.length : Int)) = true := decide_eq_true c9
         clear c9
         replace H := oB H
         obtain ⟨t430, A100, H⟩ := H
         have A10 := am A100
         clear A100
         have H' := am H
         clear H
         have p429 : 0 ≤ (x5_2 : Int) := oD (by assumption)
         have q429 : x5_2 < (l0.length : Int) := oD (by assumption)
         obtain ⟨ad429, e429, hx429_0, hx429_1, hx429_2, hx429_3, hx429_4, hx429_5⟩ := at_T31 HR0.out x5_2 p429 q429
         cases e429
         replace hx429_0 := pw_cell_below HB.out hx429_0
         replace hx429_1 := pw_cell_below HB.out hx429_1
         replace hx429_2 := pw_cell_below HB.out hx429_2
         replace hx429_3 := pw_cell_below HB.out hx429_3
         replace hx429_4 := pw_cell_below HB.out hx429_4
         replace hx429_5 := pw_cell_below HB.out hx429_5
         replace p429 := eq_true p429
         replace q429 := eq_true q429
         go_wp2_with (first | ((with_reducible refine gate_callee (f := 70) rfl ?_); refine goesL_ (some 34) rfl rfl Try.func70 (by kernel_rfl) rfl #[.agg #[.int .i64 ((rd_T31 l0 x5_2).f0), .int .i64 ((rd_T31 l0 x5_2).f1), .int .i64 ((rd_T31 l0 x5_2).f2), .int .i64 ((rd_T31 l0 x5_2).f3), .int .i64 ((rd_T31 l0 x5_2).f4), .int .i64 ((rd_T31 l0 x5_2).f5)]] rfl tm ?_; (with_reducible refine (spec_Parts.calls k2 ((rd_T31 l0 x5_2).f0) ((rd_T31 l0 x5_2).f1) ((rd_T31 l0 x5_2).f2) ((rd_T31 l0 x5_2).f3) ((rd_T31 l0 x5_2).f4) ((rd_T31 l0 x5_2).f5) t430 _ A10.out).mono ?_); rintro e w11 ⟨v431, rfl, ho0, hb⟩; refine ⟨_, rfl, ?_⟩; have n0_ := am (Kd.R_below (by exact sR <| HO_3.out) hb); have n1_ := am (Kd.R_lower ho0 (below_size (by exact sW HB.out))); have n2_ := am (below_step (by exact sW HB.out) hb); clear HO_3; clear HB; have HO_3 := n0_; have HO432 := n1_; have HB := n2_; clear n0_ n1_ n2_; (try clear hb); (try clear hb2); (try clear hk); (try clear hi); (try clear ho0)))
         go_loopg [7] k2 (fun kq v7 w' => ∃ (x3_3 : List Bool) (x7_3 : Int), v7 = .int .i64 x7_3 ∧ Aside0 (spec_l02Reach.l2 kq l0 x3_3 x5_2 t430 x7_3 = some r) ∧ Aside0 (kq ≤ k2) ∧ Aside0 (Kd.R Kd.bool 4 w' w.heap.size (fun _ => True) u3 x3_3) ∧ Aside0 (Kd.R (Kd.int .i64) 3 w' w.heap.size (fun _ => True) v431 t430) ∧ Aside0 (Below w.heap.size w w'))
         case atStart => exact ⟨(x3_2), (0), (by rfl), H', ⟨Nat.le_refl _⟩, ⟨by exact sR <| HO_3.out⟩, ⟨by exact sR <| HO432.out⟩, ⟨by exact sW HB.out⟩⟩
         case round =>
          clear H'
          clear c7b0 c8b0 c9b0 hx429_0 hx429_1 hx429_2 hx429_3 hx429_4 hx429_5 p429 q429
          obtain ⟨x3_3, x7_3, rfl, HA, HK3, HO_3, HO_6, HB⟩ := hrel
          cases gk with
          | zero => exact absurd HA.out (by simp [spec_l02Reach.l2])
          | succ k3 =>
           have H := HA.out
           clear HA
           simp only [spec_l02Reach.l2] at H
           by_cases c12 : x7_3 < (t430.length : Int)
           ·rw [if_pos c12] at H
            have c12b0 : decide (x7_3 < (t430.length : Int)) = true := decide_eq_true c12
            clear c12
            by_cases c13 : 0 ≤ x5_2
            ·rw [if_pos c13] at H
             have c13b0 : decide (0 ≤ x5_2) = true := decide_eq_true c13
             clear c13
             by_cases c14 : x5_2 < (x3_3.length : Int)
             ·rw [if_pos c14] at H
              have c14b0 : decide (x5_2 < (x3_3.length : Int)) = true := decide_eq_true c14
              clear c14
              obtain ⟨bq15, hbq15⟩ : ∃ b_ : Bool, b_ = (rdOf false x3_3 x5_2) := ⟨_, rfl⟩
              replace H : (if bq15 = true then (if 0 ≤ x7_3 then (if 0 ≤ (rd t430 x7_3) then (if (rd t430 x7_3) < (x3_3.length : Int) then (spec_l02Reach.l2 k3 l0 (x3_3.set ((rd t430 x7_3) : Int).toNat true) x5_2 t430 (wrap64 (x7_3 + 1))) else (none)) else (none)) else (none)) else (spec_l02Reach.l1 k3 l0 x3_3 (wrap64 (x5_2 - 1)))) = some r := by rw [← hbq15] at H; exact H
              have Nbq15 := am hbq15
              clear hbq15
              by_cases c16 : bq15 = true
              ·subst c16
               rw [if_pos rfl] at H
               by_cases c17 : 0 ≤ x7_3
               ·rw [if_pos c17] at H
                have c17b0 : decide (0 ≤ x7_3) = true := decide_eq_true c17
                clear c17
                by_cases c18 : 0 ≤ (rd t430 x7_3)
                ·rw [if_pos c18] at H
                 have c18b0 : decide (0 ≤ (rd t430 x7_3)) = true := decide_eq_true c18
                 clear c18
                 by_cases c19 : (rd t430 x7_3) < (x3_3.length : Int)
                 ·rw [if_pos c19] at H
                  have c19b0 : decide ((rd t430 x7_3) < (x3_3.length : Int)) = true := decide_eq_true c19
                  clear c19
                  obtain ⟨y435, hy435⟩ : ∃ y_ : List Bool, y_ = (x3_3.set ((rd t430 x7_3) : Int).toNat true) := ⟨_, rfl⟩
                  replace H : (spec_l02Reach.l2 k3 l0 y435 x5_2 t430 (wrap64 (x7_3 + 1))) = some r := by (rw [hy435]; with_reducible exact H)
                  have Ny435 := am hy435
                  clear hy435
                  have H' := am H
                  clear H
                  obtain ⟨Ao21, co21, eo21⟩ := Kd.R_slice HO_6.out
                  subst eo21
                  obtain ⟨Ao22, co22, eo22⟩ := Kd.R_slice HO_3.out
                  subst eo22
                  have p433 : 0 ≤ (x5_2 : Int) := oD (by assumption)
                  have q433 : x5_2 < (x3_3.length : Int) := oD (by assumption)
                  obtain ⟨ad433, e433, hx433_0⟩ := Kd.at_bool (Kd.R_reads' HO_3.out).2.2 x5_2 p433 q433
                  (try rw [← Nbq15.out] at hx433_0)
                  cases e433
                  replace p433 := eq_true p433
                  replace q433 := eq_true q433
                  have p434 : 0 ≤ (x7_3 : Int) := oD (by assumption)
                  have q434 : x7_3 < (t430.length : Int) := oD (by assumption)
                  obtain ⟨ad434, e434, hx434_0⟩ := Kd.at_int (Kd.R_reads' HO_6.out).2.2 x7_3 p434 q434
                  cases e434
                  replace p434 := eq_true p434
                  replace q434 := eq_true q434
                  have p20 : 0 ≤ ((rd t430 x7_3) : Int) := oD (by assumption)
                  have q20 : ((rd t430 x7_3) : Int) < ((x3_3.length : Int) : Int) := oD (by assumption)
                  obtain ⟨go20, co20, eo20, gb20, gl20, cl20, HG20⟩ := Kd.R_form HO_3.out (by omega)
                  (cases eo20)
                  have GB20 := am gb20
                  have GG20 := am HG20
                  clear gb20 gl20 HG20
                  (simp only [add_plain] at hx433_0)
                  obtain ⟨hx20_0, hf20_0⟩ := Kd.R_celln false HO_3.out ((rd t430 x7_3) : Int) p20 q20
                  replace p20 := eq_true p20
                  replace q20 := eq_true q20
                  have HP23 := Kd.R_putg HO_3.out ((rd t430 x7_3) : Int) true
                  go_wp2_with (first | ((with_reducible refine gate_store (t := 4) (p := 52) rfl ?_); refine store_event (t := 4) (p := 52) (v := ?vo_w24) (w1 := (wr.setCell ⟨go20, ((rd t430 x7_3) : Int).toNat, none⟩ (.bool true))) ?hg ?ho ?hn ?hr ?_; (case ho => rfl); (case hg => rfl); (case hn => rfl); (case hr => (go_simp; done)); intro w24 hw; have hg : wr.grownBy w24 (some go20) := (by rw [hw]; exact HP23.2); have hp_ : Kd.R Kd.bool 4 w24 w.heap.size (fun _ => True) (.slice (some ⟨go20, 0, none⟩) x3_3.length co22) y435 := (by rw [hw, Ny435.out]; exact HP23.1); clear HP23; have n0_ := am (hp_); have n1_ := am (Kd.R_over' (v := (.slice (some ⟨go20, 0, none⟩) x3_3.length co22)) (by exact sR <| HO_6.out) (Kd.R_typed HO_3.out) (by decide) hg); have n2_ := am ((by rw [hw]; exact below_set (HB.out) GB20.out : Below w.heap.size w w24)); clear HO_3; clear HO_6; clear HB; have HO_3 := n0_; have HO_6 := n1_; have HB := n2_; clear n0_ n1_ n2_; clear hg hw hp_))
                  go_roundg k3
                  case measure => have := HK1.out; have := HK2.out; have := HK3.out; omega
                  case rel => exact ⟨(y435), (wrap64 (x7_3 + 1)), (by rfl), H', ⟨by have := HK1.out; have := HK2.out; have := HK3.out; omega⟩, ⟨by exact sR <| HO_3.out⟩, ⟨by exact sR <| HO_6.out⟩, ⟨by exact sW HB.out⟩⟩
                 ·rw [if_neg c19] at H
                  exact absurd H (by simp)
                ·rw [if_neg c18] at H
                 exact absurd H (by simp)
               ·rw [if_neg c17] at H
                exact absurd H (by simp)
              ·replace c16 := Bool.eq_false_iff.mpr c16
               subst c16
               rw [if_neg (show ¬ (false = true) by decide)] at H
               have H' := am H
               clear H
               obtain ⟨Ao25, co25, eo25⟩ := Kd.R_slice HO_6.out
               subst eo25
               obtain ⟨Ao26, co26, eo26⟩ := Kd.R_slice HO_3.out
               subst eo26
               have p433 : 0 ≤ (x5_2 : Int) := oD (by assumption)
               have q433 : x5_2 < (x3_3.length : Int) := oD (by assumption)
               obtain ⟨ad433, e433, hx433_0⟩ := Kd.at_bool (Kd.R_reads' HO_3.out).2.2 x5_2 p433 q433
               (try rw [← Nbq15.out] at hx433_0)
               cases e433
               replace p433 := eq_true p433
               replace q433 := eq_true q433
               go_wp2
               go_roundg k3
               case measure => have := HK1.out; have := HK2.out; have := HK3.out; omega
               case rel => exact ⟨(x3_3), (wrap64 (x5_2 - 1)), (by rfl), H', ⟨by have := HK1.out; have := HK2.out; have := HK3.out; omega⟩, ⟨by exact sR <| HO_3.out⟩, ⟨by exact sW HB.out⟩⟩
             ·rw [if_neg c14] at H
              exact absurd H (by simp)
            ·rw [if_neg c13] at H
             exact absurd H (by simp)
           ·rw [if_neg c12] at H
            have c12b0 : decide (x7_3 < (t430.length : Int)) = false := decide_eq_false c12
            clear c12
            have H' := am H
            clear H
            obtain ⟨Ao27, co27, eo27⟩ := Kd.R_slice HO_6.out
            subst eo27
            go_wp2
            go_roundg k3
            case measure => have := HK1.out; have := HK2.out; have := HK3.out; omega
            case rel => exact ⟨(x3_3), (wrap64 (x5_2 - 1)), (by rfl), H', ⟨by have := HK1.out; have := HK2.out; have := HK3.out; omega⟩, ⟨by exact sR <| HO_3.out⟩, ⟨by exact sW HB.out⟩⟩
        ·rw [if_neg c9] at H
         exact absurd H (by simp)
       ·rw [if_neg c8] at H
        exact absurd H (by simp)
      ·rw [if_neg c7] at H
       have c7b0 : decide (0 ≤ x5_2) = false := decide_eq_false c7
       clear c7
       obtain rfl := oI H
       go_wp2
       go_ret
       exact ⟨_, by rfl, by exact sR <| HO_3.out, by exact sW HB.out⟩
/-! ### spec_Prune: function 49 -/
mutual
def spec_Prune.l0 : Nat → List (S31) → List (S31) → List Bool → List Int → Int → Option ((List (S31)))
 | 0, _, _, _, _, _ => none
 | k + 1, x0, x3, x4, x5, x6 => if x6 < (x0.length : Int) then (if x5.length < 17592186044416 then ((some (x5 ++ [(x3.length : Int)] : List Int)).bind fun y446 => (if 0 ≤ x6 then (if x6 < (x4.length : Int) then (if rdOf false x4 x6 = true then ((spec_Parts.f k ((rd_T31 x0 x6).f0) ((rd_T31 x0 x6).f1) ((rd_T31 x0 x6).f2) ((rd_T31 x0 x6).f3) ((rd_T31 x0 x6).f4) ((rd_T31 x0 x6).f5)).bind fun t452 => (if (t452.length : Int) > 0 then (if 0 ≤ ((rd_T31 x0 x6).f3) then (if ((rd_T31 x0 x6).f3) < (y446.length : Int) then (spec_Prune.j1 k x0 x3 x4 y446 x6 t452 ((rd_T31 x0 x6).f0) ((rd_T31 x0 x6).f1) ((rd_T31 x0 x6).f2) (rd y446 ((rd_T31 x0 x6).f3)) ((rd_T31 x0 x6).f4) ((rd_T31 x0 x6).f5)) else (none)) else (none)) else (spec_Prune.j1 k x0 x3 x4 y446 x6 t452 ((rd_T31 x0 x6).f0) ((rd_T31 x0 x6).f1) ((rd_T31 x0 x6).f2) ((rd_T31 x0 x6).f3) ((rd_T31 x0 x6).f4) ((rd_T31 x0 x6).f5)))) else (spec_Prune.l0 k x0 x3 x4 y446 (wrap64 (x6 + 1)))) else (none)) else (none))) else (none)) else (some x3)
def spec_Prune.j1 : Nat → List (S31) → List (S31) → List Bool → List Int → Int → List Int → Int → Int → Int → Int → Int → Int → Option ((List (S31)))
 | 0, _, _, _, _, _, _, _, _, _, _, _, _ => none
 | k + 1, x0, x3, x4, x5, x6, x8, x452000, x452001, x452002, x452003, x452004, x452005 => if (x8.length : Int) > 1 then (if 0 ≤ x452004 then (if x452004 < (x5.length : Int) then (if (x8.length : Int) > 2 then (if 0 ≤ x452005 then (if x452005 < (x5.length : Int) then (if x3.length < 2932031007402 then (spec_Prune.l0 k x0 (x3 ++ [(⟨x452000, x452001, x452002, x452003, rd x5 x452004, rd x5 x452005⟩ : S31)]) x4 x5 (wrap64 (x6 + 1))) else (none)) else (none)) else (none)) else (if x3.length < 2932031007402 then (spec_Prune.l0 k x0 (x3 ++ [(⟨x452000, x452001, x452002, x452003, rd x5 x452004, x452005⟩ : S31)]) x4 x5 (wrap64 (x6 + 1))) else (none))) else (none)) else (none)) else (if (x8.length : Int) > 2 then (if 0 ≤ x452005 then (if x452005 < (x5.length : Int) then (if x3.length < 2932031007402 then (spec_Prune.l0 k x0 (x3 ++ [(⟨x452000, x452001, x452002, x452003, x452004, rd x5 x452005⟩ : S31)]) x4 x5 (wrap64 (x6 + 1))) else (none)) else (none)) else (none)) else (if x3.length < 2932031007402 then (spec_Prune.l0 k x0 (x3 ++ [(⟨x452000, x452001, x452002, x452003, x452004, x452005⟩ : S31)]) x4 x5 (wrap64 (x6 + 1))) else (none)))
end
def spec_Prune.f (k : Nat) (l0 : List (S31)) : Option ((List (S31))) := (some (([] : List (S31)) : List (S31))).bind fun y436 => ((spec_TermOk.f k l0).bind fun t439 => (if t439 = true then ((spec_l02Reach.f k l0).bind fun t440 => (spec_Prune.l0 k l0 y436 t440 (([] : List Int)) 0)) else (some y436)))
set_option maxHeartbeats 8000000 in
set_option maxRecDepth 100000 in
theorem spec_Prune.calls (k : Nat) (A0 : Option Addr) (c0 : Nat) (l0 : List (S31)) (r : List (S31)) (w : World) (hr0 : Kd.C k31 w A0 l0.length l0) (hc0 : l0.length ≤ c0) (h : spec_Prune.f k l0 = some r) :
  Calls Try.prog 49 #[.slice A0 l0.length c0] w fun e w' => ∃ v0_ : Value, e = .returned (v0_) ∧ Kd.R k31 31 w' w.heap.size (fun _ => True) v0_ r ∧ Below w.heap.size w w' := by
 have hu31 := Try.underlying31
 have HR0 := am hr0
 have HC0 := am hc0
 clear hr0 hc0
 have HB := am (Below.refl w.heap.size w)
 have H : ((some (([] : List (S31)) : List (S31))).bind fun y436 => ((spec_TermOk.f k l0).bind fun t439 => (if t439 = true then ((spec_l02Reach.f k l0).bind fun t440 => (spec_Prune.l0 k l0 y436 t440 (([] : List Int)) 0)) else (some y436)))) = some r := h
 clear h
 obtain ⟨y436, hy436⟩ : ∃ y_ : List (S31), y_ = (([] : List (S31))) := ⟨_, rfl⟩
 replace H : ((spec_TermOk.f k l0).bind fun t439 => (if t439 = true then ((spec_l02Reach.f k l0).bind fun t440 => (spec_Prune.l0 k l0 y436 t440 (([] : List Int)) 0)) else (some y436))) = some r := by (have H2_ := (Option.bind_some _ _).symm.trans H; rw [hy436]; with_reducible exact H2_)
 have Ny436 := am hy436
 clear hy436
 replace H := oB H
 obtain ⟨t439, A20, H⟩ := H
 have A2 := am A20
 clear A20
 by_cases c3 : t439 = true
 ·subst c3
  rw [if_pos rfl] at H
  replace H := oB H
  obtain ⟨t440, A40, H⟩ := H
  have A4 := am A40
  clear A40
  obtain ⟨y443, hy443⟩ : ∃ y_ : List Int, y_ = (([] : List Int)) := ⟨_, rfl⟩
  replace H : (spec_Prune.l0 k l0 y436 t440 y443 0) = some r := by (rw [hy443]; with_reducible exact H)
  have Ny443 := am hy443
  clear hy443
  have H' := am H
  clear H
  go_enter Try.func49, Try.ntmps49
  go_wp2_with (first | ((with_reducible refine gate_dst (N := 9) rfl ?_); refine Kd.R_lit k31 _ 31 ?hg (N := 9) ?hd (xs := ([] : List (S31))) (inner := []) (ok := fun _ => True) (okp := fun _ => True) ?hr ?hp (fun _ hk => hk) trivial (Below.refl _ _) (Nat.le_refl _) (by simp) ?_; (case hd => rfl); (case hg => rfl); (case hr => (go_simp; done)); (case hp => exact (Reps.none _ _)); intro v437 w5 ho6 hb hg_ hnew_; clear hg_ hnew_; (rw [← Ny436.out] at ho6); have n0_ := am (Kd.R_lower ho6 (below_size (by exact sW HB.out))); have n1_ := am (below_step (by exact sW HB.out) hb); clear HB; have HO438 := n0_; have HB := n1_; clear n0_ n1_; clear hb ho6) | ((with_reducible refine gate_callee (f := 13) rfl ?_); refine goesL_ (some 11) rfl rfl Try.func13 (by kernel_rfl) rfl #[.slice A0 l0.length c0] rfl tm ?_; (with_reducible refine (spec_TermOk.calls k _ _ l0 true _ ?side1 ?side2 A2.out).mono ?_); (case side1 => exact sC (Kd.C_below HR0.out HB.out)); (case side2 => exact HC0.out); rintro e w7 ⟨rfl, hb⟩; refine ⟨_, rfl, ?_⟩; have n0_ := am (Kd.R_below (by exact sR <| HO438.out) hb); have n1_ := am (below_step (by exact sW HB.out) hb); clear HO438; clear HB; have HO438 := n0_; have HB := n1_; clear n0_ n1_; (try clear hb); (try clear hb2); (try clear hk); (try clear hi)) | ((with_reducible refine gate_callee (f := 80) rfl ?_); refine goesL_ (some 15) rfl rfl Try.func80 (by kernel_rfl) rfl #[.slice A0 l0.length c0] rfl tm ?_; (with_reducible refine (spec_l02Reach.calls k _ _ l0 t440 _ ?side1 ?side2 A4.out).mono ?_); (case side1 => exact sC (Kd.C_below HR0.out HB.out)); (case side2 => exact HC0.out); rintro e w8 ⟨v441, rfl, ho0, hb⟩; refine ⟨_, rfl, ?_⟩; have n0_ := am (Kd.R_below (by exact sR <| HO438.out) hb); have n1_ := am (Kd.R_lower ho0 (below_size (by exact sW HB.out))); have n2_ := am (below_step (by exact sW HB.out) hb); clear HO438; clear HB; have HO438 := n0_; have HO442 := n1_; have HB := n2_; clear n0_ n1_ n2_; (try clear hb); (try clear hb2); (try clear hk); (try clear hi); (try clear ho0)) | ((with_reducible refine gate_dst (N := 16) rfl ?_); refine Kd.R_lit (Kd.int .i64) _ 3 ?hg (N := 16) ?hd (xs := ([] : List Int)) (inner := []) (ok := fun _ => True) (okp := fun _ => True) ?hr ?hp (fun _ hk => hk) trivial (Below.refl _ _) (Nat.le_refl _) (by simp) ?_; (case hd => rfl); (case hg => rfl); (case hr => (go_simp; done)); (case hp => exact (Reps.none _ _)); intro v444 w9 ho10 hb hg_ hnew_; clear hg_ hnew_; (rw [← Ny443.out] at ho10); have n0_ := am (Kd.R_below (by exact sR <| HO438.out) hb); have n1_ := am (Kd.R_below (by exact sR <| HO442.out) hb); have n2_ := am (Kd.R_lower ho10 (below_size (by exact sW HB.out))); have n3_ := am (below_step (by exact sW HB.out) hb); clear HO438; clear HO442; clear HB; have HO438 := n0_; have HO442 := n1_; have HO445 := n2_; have HB := n3_; clear n0_ n1_ n2_ n3_; clear hb ho10))
  go_loopg [3, 5, 6] k (fun kq v3 v5 v6 w' => ∃ (x3_1 : List (S31)) (x5_1 : List Int) (x6_1 : Int), v6 = .int .i64 x6_1 ∧ Aside0 (spec_Prune.l0 kq l0 x3_1 t440 x5_1 x6_1 = some r) ∧ Aside0 (kq ≤ k) ∧ Aside0 (Kd.R k31 31 w' w.heap.size (fun _ => True) v3 x3_1) ∧ Aside0 (Kd.R Kd.bool 4 w' w.heap.size (fun _ => True) v441 t440) ∧ Aside0 (Kd.R (Kd.int .i64) 3 w' w.heap.size (fun _ => True) v5 x5_1) ∧ Aside0 (Below w.heap.size w w'))
  case atStart => exact ⟨(y436), (y443), (0), (by rfl), H', ⟨Nat.le_refl _⟩, ⟨by exact sR <| HO438.out⟩, ⟨by exact sR <| HO442.out⟩, ⟨by exact sR <| HO445.out⟩, ⟨by exact sW HB.out⟩⟩
  case round =>
   clear H'
   obtain ⟨x3_1, x5_1, x6_1, rfl, HA, HK1, HO_3, HO_4, HO_5, HB⟩ := hrel
   cases gk with
   | zero => exact absurd HA.out (by simp [spec_Prune.l0])
   | succ k1 =>
    have H := HA.out
    clear HA
    simp only [spec_Prune.l0] at H
    by_cases c11 : x6_1 < (l0.length : Int)
    ·rw [if_pos c11] at H
     have c11b0 : decide (x6_1 < (l0.length : Int)) = true := decide_eq_true c11
     clear c11
     by_cases c12 : x5_1.length < 17592186044416
     ·rw [if_pos c12] at H
      have LMc12 := am c12
      clear c12
      obtain ⟨y446, hy446⟩ : ∃ y_ : List Int, y_ = (x5_1 ++ [(x3_1.length : Int)]) := ⟨_, rfl⟩
      replace H : (if 0 ≤ x6_1 then (if x6_1 < (t440.length : Int) then (if rdOf false t440 x6_1 = true then ((spec_Parts.f k1 ((rd_T31 l0 x6_1).f0) ((rd_T31 l0 x6_1).f1) ((rd_T31 l0 x6_1).f2) ((rd_T31 l0 x6_1).f3) ((rd_T31 l0 x6_1).f4) ((rd_T31 l0 x6_1).f5)).bind fun t452 => (if (t452.length : Int) > 0 then (if 0 ≤ ((rd_T31 l0 x6_1).f3) then (if ((rd_T31 l0 x6_1).f3) < (y446.length : Int) then (spec_Prune.j1 k1 l0 x3_1 t440 y446 x6_1 t452 ((rd_T31 l0 x6_1).f0) ((rd_T31 l0 x6_1).f1) ((rd_T31 l0 x6_1).f2) (rd y446 ((rd_T31 l0 x6_1).f3)) ((rd_T31 l0 x6_1).f4) ((rd_T31 l0 x6_1).f5)) else (none)) else (none)) else (spec_Prune.j1 k1 l0 x3_1 t440 y446 x6_1 t452 ((rd_T31 l0 x6_1).f0) ((rd_T31 l0 x6_1).f1) ((rd_T31 l0 x6_1).f2) ((rd_T31 l0 x6_1).f3) ((rd_T31 l0 x6_1).f4) ((rd_T31 l0 x6_1).f5)))) else (spec_Prune.l0 k1 l0 x3_1 t440 y446 (wrap64 (x6_1 + 1)))) else (none)) else (none)) = some r := by (have H2_ := (Option.bind_some _ _).symm.trans H; rw [hy446]; with_reducible exact H2_)
      have Ny446 := am hy446
      clear hy446
      by_cases c13 : 0 ≤ x6_1
      ·rw [if_pos c13] at H
       have c13b0 : decide (0 ≤ x6_1) = true := decide_eq_true c13
       clear c13
       by_cases c14 : x6_1 < (t440.length : Int)
       ·rw [if_pos c14] at H
        have c14b0 : decide (x6_1 < (t440.length : Int)) = true := decide_eq_true c14
        clear c14
        obtain ⟨bq15, hbq15⟩ : ∃ b_ : Bool, b_ = (rdOf false t440 x6_1) := ⟨_, rfl⟩
        replace H : (if bq15 = true then ((spec_Parts.f k1 ((rd_T31 l0 x6_1).f0) ((rd_T31 l0 x6_1).f1) ((rd_T31 l0 x6_1).f2) ((rd_T31 l0 x6_1).f3) ((rd_T31 l0 x6_1).f4) ((rd_T31 l0 x6_1).f5)).bind fun t452 => (if (t452.length : Int) > 0 then (if 0 ≤ ((rd_T31 l0 x6_1).f3) then (if ((rd_T31 l0 x6_1).f3) < (y446.length : Int) then (spec_Prune.j1 k1 l0 x3_1 t440 y446 x6_1 t452 ((rd_T31 l0 x6_1).f0) ((rd_T31 l0 x6_1).f1) ((rd_T31 l0 x6_1).f2) (rd y446 ((rd_T31 l0 x6_1).f3)) ((rd_T31 l0 x6_1).f4) ((rd_T31 l0 x6_1).f5)) else (none)) else (none)) else (spec_Prune.j1 k1 l0 x3_1 t440 y446 x6_1 t452 ((rd_T31 l0 x6_1).f0) ((rd_T31 l0 x6_1).f1) ((rd_T31 l0 x6_1).f2) ((rd_T31 l0 x6_1).f3) ((rd_T31 l0 x6_1).f4) ((rd_T31 l0 x6_1).f5)))) else (spec_Prune.l0 k1 l0 x3_1 t440 y446 (wrap64 (x6_1 + 1)))) = some r := by rw [← hbq15] at H; exact H
        have Nbq15 := am hbq15
        clear hbq15
        by_cases c16 : bq15 = true
        ·subst c16
         rw [if_pos rfl] at H
         replace H := oB H
         obtain ⟨t452, A170, H⟩ := H
         have A17 := am A170
         clear A170
         have HC18 := am H
         clear H
         obtain ⟨Ao19, co19, eo19⟩ := Kd.R_slice HO_3.out
         subst eo19
         go_upto_if 41 with (first | ((with_reducible refine gate_builtin (b := .append) (xs := #[.tmp 23, .tmp 26]) rfl ?_); at_builtin; refine Kd.R_append (Kd.int .i64) (w0 := w) w.heap.size rfl (.tmp 23) (.tmp 26) 25 3 (.int .i64 0) 8 rfl Try.underlying25 info3 rfl (by decide) (by omega) u5 x5_1 (x3_1.length : Int) [.int .i64 (x3_1.length : Int)] (fun _ => True) (fun _ => False) rfl rfl ?aP (fun _ hk => hk.elim) ?aF ?aO ?aB ?aS ?aL ?_; (case aP => exact rfl); (case aB => exact (by exact sW HB.out)); (case aF => exact (fun _ _ => trivial)); (case aO => exact (by exact sR <| HO_5.out)); (case aS => exact (below_size (by exact sW HB.out))); (case aL => have := LMc12.out; omega); intro v447 w20 ho hb hg hat; rw [← Ny446.out] at ho; have n0_ := am (Kd.R_over' (by exact sR <| HO_3.out) (Kd.R_typed (by exact sR <| HO_5.out)) (by decide) hg); have n1_ := am (Kd.R_over' (by exact sR <| HO_4.out) (Kd.R_typed (by exact sR <| HO_5.out)) (by decide) hg); have n2_ := am (hb); have n3_ := am (ho); clear HO_3; clear HO_4; clear HB; clear HO_5; have HO_3 := n0_; have HO_4 := n1_; have HB := n2_; have HO448 := n3_; clear n0_ n1_ n2_ n3_; clear ho hb hg hat; obtain ⟨Ao21, co21, eo21⟩ := Kd.R_slice HO_4.out; subst eo21; have p449 : 0 ≤ (x6_1 : Int) := oD (by assumption); have q449 : x6_1 < (t440.length : Int) := oD (by assumption); obtain ⟨ad449, e449, hx449_0⟩ := Kd.at_bool (Kd.R_reads' HO_4.out).2.2 x6_1 p449 q449; (try rw [← Nbq15.out] at hx449_0); cases e449; replace p449 := eq_true p449; replace q449 := eq_true q449; have p450 : 0 ≤ (x6_1 : Int) := oD (by assumption); have q450 : x6_1 < (l0.length : Int) := oD (by assumption); obtain ⟨ad450, e450, hx450_0, hx450_1, hx450_2, hx450_3, hx450_4, hx450_5⟩ := at_T31 HR0.out x6_1 p450 q450; cases e450; replace hx450_0 := pw_cell_below HB.out hx450_0; replace hx450_1 := pw_cell_below HB.out hx450_1; replace hx450_2 := pw_cell_below HB.out hx450_2; replace hx450_3 := pw_cell_below HB.out hx450_3; replace hx450_4 := pw_cell_below HB.out hx450_4; replace hx450_5 := pw_cell_below HB.out hx450_5; replace p450 := eq_true p450; replace q450 := eq_true q450) | ((with_reducible refine gate_dst (N := 7) rfl ?_); refine box_event ?hg (N := 7) ?hd (cs := #[.int .i64 0, .int .i64 0, .int .i64 0, .int .i64 0, .int .i64 0, .int .i64 0]) (t := 31) ?hr ?_; (case hd => rfl); (case hg => rfl); (case hr => first | (go_simp; done) | (go_simp; rfl)); intro gb451 hg w22 hbox hb; have n0_ := am (Kd.R_below (Kd.R_elderB (by exact sR <| HO_3.out) gb451 (Nat.le_of_eq hg.symm)) hb); have n1_ := am (Kd.R_below (by exact sR <| HO_4.out) hb); have n2_ := am (Kd.R_below (by exact sR <| HO448.out) hb); have n3_ := am (below_step (by exact sW HB.out) hb); have n4_ := am (hbox); have n5_ := am ((by rw [hg]; exact (below_size (by exact sW HB.out)) : w.heap.size ≤ gb451)); have n6_ := am ((by rw [hg]; exact (below_size (by exact sW HB.out)) : w.heap.size ≤ gb451)); clear HO_3; clear HO_4; clear HO448; clear HB; have HO_3 := n0_; have HO_4 := n1_; have HO448 := n2_; have HB := n3_; have BK451 := n4_; have GW451 := n5_; have GE451 := n6_; clear n0_ n1_ n2_ n3_ n4_ n5_ n6_; clear hb hbox hg; obtain ⟨hcz23_0, hcz23_1, hcz23_2, hcz23_3, hcz23_4, hcz23_5⟩ := cz6 BK451.out; obtain ⟨hfz23_0, hfz23_1, hfz23_2, hfz23_3, hfz23_4, hfz23_5⟩ := fz6 BK451.out) | ((with_reducible refine gate_callee (f := 70) rfl ?_); refine goesL_ (some 38) rfl rfl Try.func70 (by kernel_rfl) rfl #[.agg #[.int .i64 ((rd_T31 l0 x6_1).f0), .int .i64 ((rd_T31 l0 x6_1).f1), .int .i64 ((rd_T31 l0 x6_1).f2), .int .i64 ((rd_T31 l0 x6_1).f3), .int .i64 ((rd_T31 l0 x6_1).f4), .int .i64 ((rd_T31 l0 x6_1).f5)]] rfl (by (try simp only [List.map_toArray, List.map_cons, List.map_nil]); first | done | rfl | (simp only [List.length_drop, List.length_take]; rfl)) ?_; (with_reducible refine (spec_Parts.calls k1 ((rd_T31 l0 x6_1).f0) ((rd_T31 l0 x6_1).f1) ((rd_T31 l0 x6_1).f2) ((rd_T31 l0 x6_1).f3) ((rd_T31 l0 x6_1).f4) ((rd_T31 l0 x6_1).f5) t452 _ A17.out).mono ?_); rintro e w24 ⟨v453, rfl, ho0, hb⟩; refine ⟨_, rfl, ?_⟩; have n0_ := am (Kd.R_below (by exact sR <| (Kd.R_mono (Kd.R_far (p := ⟨gb451, 5, none⟩) (Kd.R_far (p := ⟨gb451, 4, none⟩) (Kd.R_far (p := ⟨gb451, 3, none⟩) (Kd.R_far (p := ⟨gb451, 2, none⟩) (Kd.R_far (p := ⟨gb451, 1, none⟩) (Kd.R_far (p := ⟨gb451, 0, none⟩) (Kd.R_mono HO_3.out (fun k_ hk => (⟨hk, hk.2⟩ : _ ∧ k_ ≠ gb451))) (fun _ hk => hk.2) (.int .i64 ((rd_T31 l0 x6_1).f0))) (fun _ hk => hk.2) (.int .i64 ((rd_T31 l0 x6_1).f1))) (fun _ hk => hk.2) (.int .i64 ((rd_T31 l0 x6_1).f2))) (fun _ hk => hk.2) (.int .i64 ((rd_T31 l0 x6_1).f3))) (fun _ hk => hk.2) (.int .i64 ((rd_T31 l0 x6_1).f4))) (fun _ hk => hk.2) (.int .i64 ((rd_T31 l0 x6_1).f5))) (fun _ h_ => h_.1))) hb); have n1_ := am (Kd.R_below (by exact sR <| (Kd.R_mono (Kd.R_far (p := ⟨gb451, 5, none⟩) (Kd.R_far (p := ⟨gb451, 4, none⟩) (Kd.R_far (p := ⟨gb451, 3, none⟩) (Kd.R_far (p := ⟨gb451, 2, none⟩) (Kd.R_far (p := ⟨gb451, 1, none⟩) (Kd.R_far (p := ⟨gb451, 0, none⟩) (Kd.R_types HO_4.out BK451.out (by decide)) (fun _ hk => hk.2) (.int .i64 ((rd_T31 l0 x6_1).f0))) (fun _ hk => hk.2) (.int .i64 ((rd_T31 l0 x6_1).f1))) (fun _ hk => hk.2) (.int .i64 ((rd_T31 l0 x6_1).f2))) (fun _ hk => hk.2) (.int .i64 ((rd_T31 l0 x6_1).f3))) (fun _ hk => hk.2) (.int .i64 ((rd_T31 l0 x6_1).f4))) (fun _ hk => hk.2) (.int .i64 ((rd_T31 l0 x6_1).f5))) (fun _ h_ => h_.1))) hb); have n2_ := am (Kd.R_elder' (by exact sR <| (Kd.R_mono (Kd.R_far (p := ⟨gb451, 5, none⟩) (Kd.R_far (p := ⟨gb451, 4, none⟩) (Kd.R_far (p := ⟨gb451, 3, none⟩) (Kd.R_far (p := ⟨gb451, 2, none⟩) (Kd.R_far (p := ⟨gb451, 1, none⟩) (Kd.R_far (p := ⟨gb451, 0, none⟩) (Kd.R_types HO448.out BK451.out (by decide)) (fun _ hk => hk.2) (.int .i64 ((rd_T31 l0 x6_1).f0))) (fun _ hk => hk.2) (.int .i64 ((rd_T31 l0 x6_1).f1))) (fun _ hk => hk.2) (.int .i64 ((rd_T31 l0 x6_1).f2))) (fun _ hk => hk.2) (.int .i64 ((rd_T31 l0 x6_1).f3))) (fun _ hk => hk.2) (.int .i64 ((rd_T31 l0 x6_1).f4))) (fun _ hk => hk.2) (.int .i64 ((rd_T31 l0 x6_1).f5))) (fun _ h_ => h_.1))) (Kd.R_base ho0) hb); have n3_ := am (Kd.R_lower (Kd.R_new' ho0 (Kd.R_lt (by exact sR <| (Kd.R_mono (Kd.R_far (p := ⟨gb451, 5, none⟩) (Kd.R_far (p := ⟨gb451, 4, none⟩) (Kd.R_far (p := ⟨gb451, 3, none⟩) (Kd.R_far (p := ⟨gb451, 2, none⟩) (Kd.R_far (p := ⟨gb451, 1, none⟩) (Kd.R_far (p := ⟨gb451, 0, none⟩) (Kd.R_types HO448.out BK451.out (by decide)) (fun _ hk => hk.2) (.int .i64 ((rd_T31 l0 x6_1).f0))) (fun _ hk => hk.2) (.int .i64 ((rd_T31 l0 x6_1).f1))) (fun _ hk => hk.2) (.int .i64 ((rd_T31 l0 x6_1).f2))) (fun _ hk => hk.2) (.int .i64 ((rd_T31 l0 x6_1).f3))) (fun _ hk => hk.2) (.int .i64 ((rd_T31 l0 x6_1).f4))) (fun _ hk => hk.2) (.int .i64 ((rd_T31 l0 x6_1).f5))) (fun _ h_ => h_.1))))) (below_size (by exact bW))); have n4_ := am (blk_below (g := gb451) (o := .cells #[.int .i64 ((rd_T31 l0 x6_1).f0), .int .i64 ((rd_T31 l0 x6_1).f1), .int .i64 ((rd_T31 l0 x6_1).f2), .int .i64 ((rd_T31 l0 x6_1).f3), .int .i64 ((rd_T31 l0 x6_1).f4), .int .i64 ((rd_T31 l0 x6_1).f5)] 31 (0, 0)) (by (with_reducible repeat (first | refine blk_drewN ?_ _ | refine blk_drew ?_ | refine blk_alloc ?_ _)); refine blk_put (cs := #[.int .i64 ((rd_T31 l0 x6_1).f0), .int .i64 ((rd_T31 l0 x6_1).f1), .int .i64 ((rd_T31 l0 x6_1).f2), .int .i64 ((rd_T31 l0 x6_1).f3), .int .i64 ((rd_T31 l0 x6_1).f4), .int .i64 0]) ?_ 5 _ rfl; (with_reducible repeat (first | refine blk_drewN ?_ _ | refine blk_drew ?_ | refine blk_alloc ?_ _)); refine blk_put (cs := #[.int .i64 ((rd_T31 l0 x6_1).f0), .int .i64 ((rd_T31 l0 x6_1).f1), .int .i64 ((rd_T31 l0 x6_1).f2), .int .i64 ((rd_T31 l0 x6_1).f3), .int .i64 0, .int .i64 0]) ?_ 4 _ rfl; (with_reducible repeat (first | refine blk_drewN ?_ _ | refine blk_drew ?_ | refine blk_alloc ?_ _)); refine blk_put (cs := #[.int .i64 ((rd_T31 l0 x6_1).f0), .int .i64 ((rd_T31 l0 x6_1).f1), .int .i64 ((rd_T31 l0 x6_1).f2), .int .i64 0, .int .i64 0, .int .i64 0]) ?_ 3 _ rfl; (with_reducible repeat (first | refine blk_drewN ?_ _ | refine blk_drew ?_ | refine blk_alloc ?_ _)); refine blk_put (cs := #[.int .i64 ((rd_T31 l0 x6_1).f0), .int .i64 ((rd_T31 l0 x6_1).f1), .int .i64 0, .int .i64 0, .int .i64 0, .int .i64 0]) ?_ 2 _ rfl; (with_reducible repeat (first | refine blk_drewN ?_ _ | refine blk_drew ?_ | refine blk_alloc ?_ _)); refine blk_put (cs := #[.int .i64 ((rd_T31 l0 x6_1).f0), .int .i64 0, .int .i64 0, .int .i64 0, .int .i64 0, .int .i64 0]) ?_ 1 _ rfl; (with_reducible repeat (first | refine blk_drewN ?_ _ | refine blk_drew ?_ | refine blk_alloc ?_ _)); refine blk_put (cs := #[.int .i64 0, .int .i64 0, .int .i64 0, .int .i64 0, .int .i64 0, .int .i64 0]) ?_ 0 _ rfl; exact sB <| BK451.out) hb); have n5_ := am (below_step (by exact bW) hb); clear HO_3; clear HO_4; clear HO448; clear BK451; clear HB; have HO_3 := n0_; have HO_4 := n1_; have HO448 := n2_; have HO454 := n3_; have BK451 := n4_; have HB := n5_; clear n0_ n1_ n2_ n3_ n4_ n5_; obtain ⟨Ao25, co25, eo25⟩ := Kd.R_slice HO454.out; subst eo25)); clear hb ho0
         (try simp only [Act.put, List.setIfInBounds_toArray, List.set_cons_zero, List.set_cons_succ])
         go_cut [] (fun wc => ∃ (kq : Nat) (x452003_17 : Int), Aside0 (spec_Prune.j1 kq l0 x3_1 t440 y446 x6_1 t452 ((rd_T31 l0 x6_1).f0) ((rd_T31 l0 x6_1).f1) ((rd_T31 l0 x6_1).f2) x452003_17 ((rd_T31 l0 x6_1).f4) ((rd_T31 l0 x6_1).f5) = some r) ∧ Aside0 (kq ≤ k1) ∧ Aside0 (Kd.R k31 31 wc w.heap.size (fun k_ => k_ ≠ gb451) (.slice Ao19 x3_1.length co19) x3_1) ∧ Aside0 (Kd.R Kd.bool 4 wc w.heap.size (fun _ => True) (.slice (some ad449) t440.length co21) t440) ∧ Aside0 (Kd.R (Kd.int .i64) 3 wc w.heap.size (fun k_ => some k_ ≠ ((.slice Ao25 t452.length co25) : Value).ownBlock) v447 y446) ∧ Aside0 (Kd.R (Kd.int .i64) 3 wc w.heap.size (fun k_ => some k_ ≠ (v447 : Value).ownBlock) (.slice Ao25 t452.length co25) t452) ∧ Aside0 (wc.heap[gb451]? = some (.cells #[.int .i64 ((rd_T31 l0 x6_1).f0), .int .i64 ((rd_T31 l0 x6_1).f1), .int .i64 ((rd_T31 l0 x6_1).f2), .int .i64 x452003_17, .int .i64 ((rd_T31 l0 x6_1).f4), .int .i64 ((rd_T31 l0 x6_1).f5)] 31 (0, 0))) ∧ Aside0 (Below w.heap.size w wc))
         case first =>
          have H := HC18.out
          clear HC18
          by_cases c26 : (t452.length : Int) > 0
          ·rw [if_pos c26] at H
           have c26b0 : decide (0 < (t452.length : Int)) = true := decide_eq_true c26
           have c26b1 : decide (0 < t452.length) = true := decide_eq_true (by omega)
           have c26p : 0 < t452.length := by omega
           clear c26
           (skip)
           by_cases c27 : 0 ≤ ((rd_T31 l0 x6_1).f3)
           ·rw [if_pos c27] at H
            have c27b0 : decide (0 ≤ ((rd_T31 l0 x6_1).f3)) = true := decide_eq_true c27
            clear c27
            by_cases c28 : ((rd_T31 l0 x6_1).f3) < (y446.length : Int)
            ·rw [if_pos c28] at H
             have c28b0 : decide (((rd_T31 l0 x6_1).f3) < (y446.length : Int)) = true := decide_eq_true c28
             clear c28
             have H' := am H
             clear H
             obtain ⟨hcz29_0, hcz29_1, hcz29_2, hcz29_3, hcz29_4, hcz29_5⟩ := cz6 BK451.out
             obtain ⟨hfz29_0, hfz29_1, hfz29_2, hfz29_3, hfz29_4, hfz29_5⟩ := fz6 BK451.out
             obtain ⟨Ao30, co30, eo30⟩ := Kd.R_slice HO448.out
             subst eo30
             have p455 : 0 ≤ (((rd_T31 l0 x6_1).f3) : Int) := oD (by assumption)
             have q455 : ((rd_T31 l0 x6_1).f3) < (y446.length : Int) := oD (by assumption)
             obtain ⟨ad455, e455, hx455_0⟩ := Kd.at_int (Kd.R_reads' HO448.out).2.2 ((rd_T31 l0 x6_1).f3) p455 q455
             cases e455
             replace p455 := eq_true p455
             replace q455 := eq_true q455
             go_wp2
             go_meet
             case rel => exact ⟨_, (rd y446 ((rd_T31 l0 x6_1).f3)), H', ⟨by have := HK1.out; omega⟩, ⟨by exact sR <| Kd.R_mono (Kd.R_far (p := ⟨gb451, 3, none⟩) (Kd.R_mono HO_3.out (fun k_ hk => (⟨hk, hk.2⟩ : _ ∧ k_ ≠ gb451))) (fun _ hk => hk.2) (.int .i64 (rd y446 ((rd_T31 l0 x6_1).f3)))) (fun _ hk => hk.1.2)⟩, ⟨by exact sR <| Kd.R_mono (Kd.R_far (p := ⟨gb451, 3, none⟩) (Kd.R_types HO_4.out BK451.out (by decide)) (fun _ hk => hk.2) (.int .i64 (rd y446 ((rd_T31 l0 x6_1).f3)))) (fun _ hk => trivial)⟩, ⟨by exact sR <| Kd.R_mono (Kd.R_far (p := ⟨gb451, 3, none⟩) (Kd.R_types HO448.out BK451.out (by decide)) (fun _ hk => hk.2) (.int .i64 (rd y446 ((rd_T31 l0 x6_1).f3)))) (fun _ hk => hk.1.2)⟩, ⟨by exact sR <| Kd.R_mono (Kd.R_far (p := ⟨gb451, 3, none⟩) (Kd.R_types HO454.out BK451.out (by decide)) (fun _ hk => hk.2) (.int .i64 (rd y446 ((rd_T31 l0 x6_1).f3)))) (fun _ hk => hk.1.2)⟩, ⟨by (with_reducible repeat (first | refine blk_drewN ?_ _ | refine blk_drew ?_ | refine blk_alloc ?_ _)); refine blk_put (cs := #[.int .i64 ((rd_T31 l0 x6_1).f0), .int .i64 ((rd_T31 l0 x6_1).f1), .int .i64 ((rd_T31 l0 x6_1).f2), .int .i64 ((rd_T31 l0 x6_1).f3), .int .i64 ((rd_T31 l0 x6_1).f4), .int .i64 ((rd_T31 l0 x6_1).f5)]) ?_ 3 _ rfl; exact sB <| BK451.out⟩, ⟨by exact bW⟩⟩
            ·rw [if_neg c28] at H
             exact absurd H (by simp)
           ·rw [if_neg c27] at H
            exact absurd H (by simp)
          ·rw [if_neg c26] at H
           have c26b0 : decide (0 < (t452.length : Int)) = false := decide_eq_false c26
           have c26b1 : decide (0 < t452.length) = false := decide_eq_false (by omega)
           have c26p : ¬ 0 < t452.length := by omega
           clear c26
           (skip)
           have H' := am H
           clear H
           go_wp2
           go_meet
           case rel => exact ⟨_, ((rd_T31 l0 x6_1).f3), H', ⟨by have := HK1.out; omega⟩, ⟨by exact sR <| Kd.R_mono HO_3.out (fun _ hk => hk.2)⟩, ⟨by exact sR <| HO_4.out⟩, ⟨by exact sR <| Kd.R_mono HO448.out (fun _ hk => hk.2)⟩, ⟨by exact sR <| Kd.R_mono HO454.out (fun _ hk => hk.2)⟩, ⟨by exact sB <| BK451.out⟩, ⟨by exact bW⟩⟩
         case rest =>
          clear HC18
          clear c11b0 c13b0 c14b0 hcz23_0 hcz23_1 hcz23_2 hcz23_3 hcz23_4 hcz23_5 hfz23_0 hfz23_1 hfz23_2 hfz23_3 hfz23_4 hfz23_5 hx449_0 hx450_0 hx450_1 hx450_2 hx450_3 hx450_4 hx450_5 p449 p450 q449 q450
          obtain ⟨kq, x452003_17, HA, HJ17, HO_3, HO_4, HO_5, HO_8, BK451, HB⟩ := hcut
          cases kq with
          | zero => exact absurd HA.out (by simp [spec_Prune.j1])
          | succ kj17 =>
           have H := HA.out
           clear HA
           simp only [spec_Prune.j1] at H
           by_cases c31 : (t452.length : Int) > 1
           ·rw [if_pos c31] at H
            have c31b0 : decide (1 < (t452.length : Int)) = true := decide_eq_true c31
            have c31b1 : decide (1 < t452.length) = true := decide_eq_true (by omega)
            clear c31
            by_cases c32 : 0 ≤ ((rd_T31 l0 x6_1).f4)
            ·rw [if_pos c32] at H
             have c32b0 : decide (0 ≤ ((rd_T31 l0 x6_1).f4)) = true := decide_eq_true c32
             clear c32
             by_cases c33 : ((rd_T31 l0 x6_1).f4) < (y446.length : Int)
             ·rw [if_pos c33] at H
              have c33b0 : decide (((rd_T31 l0 x6_1).f4) < (y446.length : Int)) = true := decide_eq_true c33
              clear c33
              by_cases c34 : (t452.length : Int) > 2
              ·rw [if_pos c34] at H
               have c34b0 : decide (2 < (t452.length : Int)) = true := decide_eq_true c34
               have c34b1 : decide (2 < t452.length) = true := decide_eq_true (by omega)
               clear c34
               by_cases c35 : 0 ≤ ((rd_T31 l0 x6_1).f5)
               ·rw [if_pos c35] at H
                have c35b0 : decide (0 ≤ ((rd_T31 l0 x6_1).f5)) = true := decide_eq_true c35
                clear c35
                by_cases c36 : ((rd_T31 l0 x6_1).f5) < (y446.length : Int)
                ·rw [if_pos c36] at H
                 have c36b0 : decide (((rd_T31 l0 x6_1).f5) < (y446.length : Int)) = true := decide_eq_true c36
                 clear c36
                 by_cases c37 : x3_1.length < 2932031007402
                 ·rw [if_pos c37] at H
                  have LMc37 := am c37
                  clear c37
                  obtain ⟨y458, hy458⟩ : ∃ y_ : List (S31), y_ = (x3_1 ++ [(⟨((rd_T31 l0 x6_1).f0), ((rd_T31 l0 x6_1).f1), ((rd_T31 l0 x6_1).f2), x452003_17, rd y446 ((rd_T31 l0 x6_1).f4), rd y446 ((rd_T31 l0 x6_1).f5)⟩ : S31)]) := ⟨_, rfl⟩
                  replace H : (spec_Prune.l0 kj17 l0 y458 t440 y446 (wrap64 (x6_1 + 1))) = some r := by (rw [hy458]; with_reducible exact H)
                  have Ny458 := am hy458
                  clear hy458
                  have H' := am H
                  clear H
                  obtain ⟨hcz38_0, hcz38_1, hcz38_2, hcz38_3, hcz38_4, hcz38_5⟩ := cz6 BK451.out
                  obtain ⟨hfz38_0, hfz38_1, hfz38_2, hfz38_3, hfz38_4, hfz38_5⟩ := fz6 BK451.out
                  obtain ⟨Ao39, co39, eo39⟩ := Kd.R_slice HO_5.out
                  subst eo39
                  have p456 : 0 ≤ (((rd_T31 l0 x6_1).f4) : Int) := oD (by assumption)
                  have q456 : ((rd_T31 l0 x6_1).f4) < (y446.length : Int) := oD (by assumption)
                  obtain ⟨ad456, e456, hx456_0⟩ := Kd.at_int (Kd.R_reads' HO_5.out).2.2 ((rd_T31 l0 x6_1).f4) p456 q456
                  cases e456
                  replace p456 := eq_true p456
                  replace q456 := eq_true q456
                  have p457 : 0 ≤ (((rd_T31 l0 x6_1).f5) : Int) := oD (by assumption)
                  have q457 : ((rd_T31 l0 x6_1).f5) < (y446.length : Int) := oD (by assumption)
                  obtain ⟨ad457, e457, hx457_0⟩ := Kd.at_int (Kd.R_reads' HO_5.out).2.2 ((rd_T31 l0 x6_1).f5) p457 q457
                  obtain rfl : ad456 = ad457 := (by injection e457)
                  have hn457_0 : ad456.block ≠ gb451 := Kd.own_blk (Kd.R_ne HO_5.out BK451.out (by decide))
                  replace hx457_0 := (cell_far (p := ⟨gb451, 4, none⟩) (by (rw [add_block]; exact hn457_0)) (.int .i64 (rd y446 ((rd_T31 l0 x6_1).f4)))).trans hx457_0
                  clear hn457_0
                  replace p457 := eq_true p457
                  replace q457 := eq_true q457
                  go_wp2_with (first | ((with_reducible refine gate_builtin (b := .append) (xs := #[.tmp 66, .tmp 68]) rfl ?_); at_builtin; refine Kd.R_append k31 (w0 := w) w.heap.size rfl (.tmp 66) (.tmp 68) 24 31 (.agg #[(.int .i64 0), (.int .i64 0), (.int .i64 0), (.int .i64 0), (.int .i64 0), (.int .i64 0)]) 48 rfl Try.underlying24 info31 rfl (by decide) (by omega) (.slice Ao19 x3_1.length co19) x3_1 (⟨((rd_T31 l0 x6_1).f0), ((rd_T31 l0 x6_1).f1), ((rd_T31 l0 x6_1).f2), x452003_17, rd y446 ((rd_T31 l0 x6_1).f4), rd y446 ((rd_T31 l0 x6_1).f5)⟩ : S31) [.int .i64 ((rd_T31 l0 x6_1).f0), .int .i64 ((rd_T31 l0 x6_1).f1), .int .i64 ((rd_T31 l0 x6_1).f2), .int .i64 x452003_17, .int .i64 (rd y446 ((rd_T31 l0 x6_1).f4)), .int .i64 (rd y446 ((rd_T31 l0 x6_1).f5))] (fun k_ => k_ ≠ gb451) (fun _ => False) rfl (by (go_simp; done)) ?aP (fun _ hk => hk.elim) ?aF ?aO ?aB ?aS ?aL ?_; (case aP => exact k31_mkM _ _ _ (⟨((rd_T31 l0 x6_1).f0), ((rd_T31 l0 x6_1).f1), ((rd_T31 l0 x6_1).f2), x452003_17, rd y446 ((rd_T31 l0 x6_1).f4), rd y446 ((rd_T31 l0 x6_1).f5)⟩ : S31)); (case aB => exact (by exact bW)); (case aF => exact (fun k_ hk => Kd.freshB (g := gb451) (o := .cells #[.int .i64 ((rd_T31 l0 x6_1).f0), .int .i64 ((rd_T31 l0 x6_1).f1), .int .i64 ((rd_T31 l0 x6_1).f2), .int .i64 x452003_17, .int .i64 (rd y446 ((rd_T31 l0 x6_1).f4)), .int .i64 (rd y446 ((rd_T31 l0 x6_1).f5))] 31 (0, 0)) (by (with_reducible repeat (first | refine blk_drewN ?_ _ | refine blk_drew ?_ | refine blk_alloc ?_ _)); refine blk_put (cs := #[.int .i64 ((rd_T31 l0 x6_1).f0), .int .i64 ((rd_T31 l0 x6_1).f1), .int .i64 ((rd_T31 l0 x6_1).f2), .int .i64 x452003_17, .int .i64 (rd y446 ((rd_T31 l0 x6_1).f4)), .int .i64 ((rd_T31 l0 x6_1).f5)]) ?_ 5 _ rfl; (with_reducible repeat (first | refine blk_drewN ?_ _ | refine blk_drew ?_ | refine blk_alloc ?_ _)); refine blk_put (cs := #[.int .i64 ((rd_T31 l0 x6_1).f0), .int .i64 ((rd_T31 l0 x6_1).f1), .int .i64 ((rd_T31 l0 x6_1).f2), .int .i64 x452003_17, .int .i64 ((rd_T31 l0 x6_1).f4), .int .i64 ((rd_T31 l0 x6_1).f5)]) ?_ 4 _ rfl; exact sB <| BK451.out) k_ hk)); (case aO => exact (by exact sR <| Kd.R_mono (Kd.R_far (p := ⟨gb451, 5, none⟩) (Kd.R_far (p := ⟨gb451, 4, none⟩) (Kd.R_mono HO_3.out (fun k_ hk => (⟨hk, hk⟩ : _ ∧ k_ ≠ gb451))) (fun _ hk => hk.2) (.int .i64 (rd y446 ((rd_T31 l0 x6_1).f4)))) (fun _ hk => hk.2) (.int .i64 (rd y446 ((rd_T31 l0 x6_1).f5)))) (fun _ hk => hk.1))); (case aS => exact (below_size (by exact bW))); (case aL => have := LMc37.out; omega); intro v459 w40 ho hb hg hat; rw [← Ny458.out] at ho; have n0_ := am (Kd.R_over' (by exact sR <| (Kd.R_mono (Kd.R_far (p := ⟨gb451, 5, none⟩) (Kd.R_far (p := ⟨gb451, 4, none⟩) (Kd.R_types HO_4.out BK451.out (by decide)) (fun _ hk => hk.2) (.int .i64 (rd y446 ((rd_T31 l0 x6_1).f4)))) (fun _ hk => hk.2) (.int .i64 (rd y446 ((rd_T31 l0 x6_1).f5)))) (fun _ h_ => h_.1))) (Kd.R_typed (by exact sR <| (Kd.R_mono (Kd.R_far (p := ⟨gb451, 5, none⟩) (Kd.R_far (p := ⟨gb451, 4, none⟩) (Kd.R_mono HO_3.out (fun k_ hk => (⟨hk, hk⟩ : _ ∧ k_ ≠ gb451))) (fun _ hk => hk.2) (.int .i64 (rd y446 ((rd_T31 l0 x6_1).f4)))) (fun _ hk => hk.2) (.int .i64 (rd y446 ((rd_T31 l0 x6_1).f5)))) (fun _ h_ => h_.1)))) (by decide) hg); have n1_ := am (Kd.R_over' (by exact sR <| (Kd.R_mono (Kd.R_far (p := ⟨gb451, 5, none⟩) (Kd.R_far (p := ⟨gb451, 4, none⟩) (Kd.R_types HO_5.out BK451.out (by decide)) (fun _ hk => hk.2) (.int .i64 (rd y446 ((rd_T31 l0 x6_1).f4)))) (fun _ hk => hk.2) (.int .i64 (rd y446 ((rd_T31 l0 x6_1).f5)))) (fun _ h_ => h_.1))) (Kd.R_typed (by exact sR <| (Kd.R_mono (Kd.R_far (p := ⟨gb451, 5, none⟩) (Kd.R_far (p := ⟨gb451, 4, none⟩) (Kd.R_mono HO_3.out (fun k_ hk => (⟨hk, hk⟩ : _ ∧ k_ ≠ gb451))) (fun _ hk => hk.2) (.int .i64 (rd y446 ((rd_T31 l0 x6_1).f4)))) (fun _ hk => hk.2) (.int .i64 (rd y446 ((rd_T31 l0 x6_1).f5)))) (fun _ h_ => h_.1)))) (by decide) hg); have n2_ := am (Kd.R_over' (by exact sR <| (Kd.R_mono (Kd.R_far (p := ⟨gb451, 5, none⟩) (Kd.R_far (p := ⟨gb451, 4, none⟩) (Kd.R_types HO_8.out BK451.out (by decide)) (fun _ hk => hk.2) (.int .i64 (rd y446 ((rd_T31 l0 x6_1).f4)))) (fun _ hk => hk.2) (.int .i64 (rd y446 ((rd_T31 l0 x6_1).f5)))) (fun _ h_ => h_.1))) (Kd.R_typed (by exact sR <| (Kd.R_mono (Kd.R_far (p := ⟨gb451, 5, none⟩) (Kd.R_far (p := ⟨gb451, 4, none⟩) (Kd.R_mono HO_3.out (fun k_ hk => (⟨hk, hk⟩ : _ ∧ k_ ≠ gb451))) (fun _ hk => hk.2) (.int .i64 (rd y446 ((rd_T31 l0 x6_1).f4)))) (fun _ hk => hk.2) (.int .i64 (rd y446 ((rd_T31 l0 x6_1).f5)))) (fun _ h_ => h_.1)))) (by decide) hg); have n3_ := am (blk_grown (g := gb451) (o := .cells #[.int .i64 ((rd_T31 l0 x6_1).f0), .int .i64 ((rd_T31 l0 x6_1).f1), .int .i64 ((rd_T31 l0 x6_1).f2), .int .i64 x452003_17, .int .i64 (rd y446 ((rd_T31 l0 x6_1).f4)), .int .i64 (rd y446 ((rd_T31 l0 x6_1).f5))] 31 (0, 0)) (by (with_reducible repeat (first | refine blk_drewN ?_ _ | refine blk_drew ?_ | refine blk_alloc ?_ _)); refine blk_put (cs := #[.int .i64 ((rd_T31 l0 x6_1).f0), .int .i64 ((rd_T31 l0 x6_1).f1), .int .i64 ((rd_T31 l0 x6_1).f2), .int .i64 x452003_17, .int .i64 (rd y446 ((rd_T31 l0 x6_1).f4)), .int .i64 ((rd_T31 l0 x6_1).f5)]) ?_ 5 _ rfl; (with_reducible repeat (first | refine blk_drewN ?_ _ | refine blk_drew ?_ | refine blk_alloc ?_ _)); refine blk_put (cs := #[.int .i64 ((rd_T31 l0 x6_1).f0), .int .i64 ((rd_T31 l0 x6_1).f1), .int .i64 ((rd_T31 l0 x6_1).f2), .int .i64 x452003_17, .int .i64 ((rd_T31 l0 x6_1).f4), .int .i64 ((rd_T31 l0 x6_1).f5)]) ?_ 4 _ rfl; exact sB <| BK451.out) hg (Kd.R_away HO_3.out (fun _ hk => hk))); have n4_ := am (hb); have n5_ := am (ho); clear HO_4; clear HO_5; clear HO_8; clear BK451; clear HB; clear HO_3; have HO_4 := n0_; have HO_5 := n1_; have HO_8 := n2_; have BK451 := n3_; have HB := n4_; have HO460 := n5_; clear n0_ n1_ n2_ n3_ n4_ n5_; clear ho hb hg hat))
                  go_roundg kj17
                  case measure => have := HK1.out; have := HJ17.out; omega
                  case rel => exact ⟨(y458), (y446), (wrap64 (x6_1 + 1)), (by rfl), H', ⟨by have := HK1.out; have := HJ17.out; omega⟩, ⟨by exact sR <| Kd.R_mono HO460.out (fun _ hk => trivial)⟩, ⟨by exact sR <| HO_4.out⟩, ⟨by exact sR <| Kd.R_mono HO_5.out (fun _ hk => trivial)⟩, ⟨by exact bW⟩⟩
                 ·rw [if_neg c37] at H
                  exact absurd H (by simp)
                ·rw [if_neg c36] at H
                 exact absurd H (by simp)
               ·rw [if_neg c35] at H
                exact absurd H (by simp)
              ·rw [if_neg c34] at H
               have c34b0 : decide (2 < (t452.length : Int)) = false := decide_eq_false c34
               have c34b1 : decide (2 < t452.length) = false := decide_eq_false (by omega)
               clear c34
               by_cases c41 : x3_1.length < 2932031007402
               ·rw [if_pos c41] at H
                have LMc41 := am c41
                clear c41
                obtain ⟨y461, hy461⟩ : ∃ y_ : List (S31), y_ = (x3_1 ++ [(⟨((rd_T31 l0 x6_1).f0), ((rd_T31 l0 x6_1).f1), ((rd_T31 l0 x6_1).f2), x452003_17, rd y446 ((rd_T31 l0 x6_1).f4), ((rd_T31 l0 x6_1).f5)⟩ : S31)]) := ⟨_, rfl⟩
                replace H : (spec_Prune.l0 kj17 l0 y461 t440 y446 (wrap64 (x6_1 + 1))) = some r := by (rw [hy461]; with_reducible exact H)
                have Ny461 := am hy461
                clear hy461
                have H' := am H
                clear H
                obtain ⟨hcz42_0, hcz42_1, hcz42_2, hcz42_3, hcz42_4, hcz42_5⟩ := cz6 BK451.out
                obtain ⟨hfz42_0, hfz42_1, hfz42_2, hfz42_3, hfz42_4, hfz42_5⟩ := fz6 BK451.out
                obtain ⟨Ao43, co43, eo43⟩ := Kd.R_slice HO_5.out
                subst eo43
                have p456 : 0 ≤ (((rd_T31 l0 x6_1).f4) : Int) := oD (by assumption)
                have q456 : ((rd_T31 l0 x6_1).f4) < (y446.length : Int) := oD (by assumption)
                obtain ⟨ad456, e456, hx456_0⟩ := Kd.at_int (Kd.R_reads' HO_5.out).2.2 ((rd_T31 l0 x6_1).f4) p456 q456
                cases e456
                replace p456 := eq_true p456
                replace q456 := eq_true q456
                go_wp2_with (first | ((with_reducible refine gate_builtin (b := .append) (xs := #[.tmp 66, .tmp 68]) rfl ?_); at_builtin; refine Kd.R_append k31 (w0 := w) w.heap.size rfl (.tmp 66) (.tmp 68) 24 31 (.agg #[(.int .i64 0), (.int .i64 0), (.int .i64 0), (.int .i64 0), (.int .i64 0), (.int .i64 0)]) 48 rfl Try.underlying24 info31 rfl (by decide) (by omega) (.slice Ao19 x3_1.length co19) x3_1 (⟨((rd_T31 l0 x6_1).f0), ((rd_T31 l0 x6_1).f1), ((rd_T31 l0 x6_1).f2), x452003_17, rd y446 ((rd_T31 l0 x6_1).f4), ((rd_T31 l0 x6_1).f5)⟩ : S31) [.int .i64 ((rd_T31 l0 x6_1).f0), .int .i64 ((rd_T31 l0 x6_1).f1), .int .i64 ((rd_T31 l0 x6_1).f2), .int .i64 x452003_17, .int .i64 (rd y446 ((rd_T31 l0 x6_1).f4)), .int .i64 ((rd_T31 l0 x6_1).f5)] (fun k_ => k_ ≠ gb451) (fun _ => False) rfl (by (go_simp; done)) ?aP (fun _ hk => hk.elim) ?aF ?aO ?aB ?aS ?aL ?_; (case aP => exact k31_mkM _ _ _ (⟨((rd_T31 l0 x6_1).f0), ((rd_T31 l0 x6_1).f1), ((rd_T31 l0 x6_1).f2), x452003_17, rd y446 ((rd_T31 l0 x6_1).f4), ((rd_T31 l0 x6_1).f5)⟩ : S31)); (case aB => exact (by exact bW)); (case aF => exact (fun k_ hk => Kd.freshB (g := gb451) (o := .cells #[.int .i64 ((rd_T31 l0 x6_1).f0), .int .i64 ((rd_T31 l0 x6_1).f1), .int .i64 ((rd_T31 l0 x6_1).f2), .int .i64 x452003_17, .int .i64 (rd y446 ((rd_T31 l0 x6_1).f4)), .int .i64 ((rd_T31 l0 x6_1).f5)] 31 (0, 0)) (by (with_reducible repeat (first | refine blk_drewN ?_ _ | refine blk_drew ?_ | refine blk_alloc ?_ _)); refine blk_put (cs := #[.int .i64 ((rd_T31 l0 x6_1).f0), .int .i64 ((rd_T31 l0 x6_1).f1), .int .i64 ((rd_T31 l0 x6_1).f2), .int .i64 x452003_17, .int .i64 ((rd_T31 l0 x6_1).f4), .int .i64 ((rd_T31 l0 x6_1).f5)]) ?_ 4 _ rfl; exact sB <| BK451.out) k_ hk)); (case aO => exact (by exact sR <| Kd.R_mono (Kd.R_far (p := ⟨gb451, 4, none⟩) (Kd.R_mono HO_3.out (fun k_ hk => (⟨hk, hk⟩ : _ ∧ k_ ≠ gb451))) (fun _ hk => hk.2) (.int .i64 (rd y446 ((rd_T31 l0 x6_1).f4)))) (fun _ hk => hk.1))); (case aS => exact (below_size (by exact bW))); (case aL => have := LMc41.out; omega); intro v462 w44 ho hb hg hat; rw [← Ny461.out] at ho; have n0_ := am (Kd.R_over' (by exact sR <| (Kd.R_mono (Kd.R_far (p := ⟨gb451, 4, none⟩) (Kd.R_types HO_4.out BK451.out (by decide)) (fun _ hk => hk.2) (.int .i64 (rd y446 ((rd_T31 l0 x6_1).f4)))) (fun _ h_ => h_.1))) (Kd.R_typed (by exact sR <| (Kd.R_mono (Kd.R_far (p := ⟨gb451, 4, none⟩) (Kd.R_mono HO_3.out (fun k_ hk => (⟨hk, hk⟩ : _ ∧ k_ ≠ gb451))) (fun _ hk => hk.2) (.int .i64 (rd y446 ((rd_T31 l0 x6_1).f4)))) (fun _ h_ => h_.1)))) (by decide) hg); have n1_ := am (Kd.R_over' (by exact sR <| (Kd.R_mono (Kd.R_far (p := ⟨gb451, 4, none⟩) (Kd.R_types HO_5.out BK451.out (by decide)) (fun _ hk => hk.2) (.int .i64 (rd y446 ((rd_T31 l0 x6_1).f4)))) (fun _ h_ => h_.1))) (Kd.R_typed (by exact sR <| (Kd.R_mono (Kd.R_far (p := ⟨gb451, 4, none⟩) (Kd.R_mono HO_3.out (fun k_ hk => (⟨hk, hk⟩ : _ ∧ k_ ≠ gb451))) (fun _ hk => hk.2) (.int .i64 (rd y446 ((rd_T31 l0 x6_1).f4)))) (fun _ h_ => h_.1)))) (by decide) hg); have n2_ := am (Kd.R_over' (by exact sR <| (Kd.R_mono (Kd.R_far (p := ⟨gb451, 4, none⟩) (Kd.R_types HO_8.out BK451.out (by decide)) (fun _ hk => hk.2) (.int .i64 (rd y446 ((rd_T31 l0 x6_1).f4)))) (fun _ h_ => h_.1))) (Kd.R_typed (by exact sR <| (Kd.R_mono (Kd.R_far (p := ⟨gb451, 4, none⟩) (Kd.R_mono HO_3.out (fun k_ hk => (⟨hk, hk⟩ : _ ∧ k_ ≠ gb451))) (fun _ hk => hk.2) (.int .i64 (rd y446 ((rd_T31 l0 x6_1).f4)))) (fun _ h_ => h_.1)))) (by decide) hg); have n3_ := am (blk_grown (g := gb451) (o := .cells #[.int .i64 ((rd_T31 l0 x6_1).f0), .int .i64 ((rd_T31 l0 x6_1).f1), .int .i64 ((rd_T31 l0 x6_1).f2), .int .i64 x452003_17, .int .i64 (rd y446 ((rd_T31 l0 x6_1).f4)), .int .i64 ((rd_T31 l0 x6_1).f5)] 31 (0, 0)) (by (with_reducible repeat (first | refine blk_drewN ?_ _ | refine blk_drew ?_ | refine blk_alloc ?_ _)); refine blk_put (cs := #[.int .i64 ((rd_T31 l0 x6_1).f0), .int .i64 ((rd_T31 l0 x6_1).f1), .int .i64 ((rd_T31 l0 x6_1).f2), .int .i64 x452003_17, .int .i64 ((rd_T31 l0 x6_1).f4), .int .i64 ((rd_T31 l0 x6_1).f5)]) ?_ 4 _ rfl; exact sB <| BK451.out) hg (Kd.R_away HO_3.out (fun _ hk => hk))); have n4_ := am (hb); have n5_ := am (ho); clear HO_4; clear HO_5; clear HO_8; clear BK451; clear HB; clear HO_3; have HO_4 := n0_; have HO_5 := n1_; have HO_8 := n2_; have BK451 := n3_; have HB := n4_; have HO463 := n5_; clear n0_ n1_ n2_ n3_ n4_ n5_; clear ho hb hg hat))
                go_roundg kj17
                case measure => have := HK1.out; have := HJ17.out; omega
                case rel => exact ⟨(y461), (y446), (wrap64 (x6_1 + 1)), (by rfl), H', ⟨by have := HK1.out; have := HJ17.out; omega⟩, ⟨by exact sR <| Kd.R_mono HO463.out (fun _ hk => trivial)⟩, ⟨by exact sR <| HO_4.out⟩, ⟨by exact sR <| Kd.R_mono HO_5.out (fun _ hk => trivial)⟩, ⟨by exact bW⟩⟩
               ·rw [if_neg c41] at H
                exact absurd H (by simp)
             ·rw [if_neg c33] at H
              exact absurd H (by simp)
            ·rw [if_neg c32] at H
             exact absurd H (by simp)
           ·rw [if_neg c31] at H
            have c31b0 : decide (1 < (t452.length : Int)) = false := decide_eq_false c31
            have c31b1 : decide (1 < t452.length) = false := decide_eq_false (by omega)
            clear c31
            by_cases c45 : (t452.length : Int) > 2
            ·rw [if_pos c45] at H
             have c45b0 : decide (2 < (t452.length : Int)) = true := decide_eq_true c45
             have c45b1 : decide (2 < t452.length) = true := decide_eq_true (by omega)
             clear c45
             by_cases c46 : 0 ≤ ((rd_T31 l0 x6_1).f5)
             ·rw [if_pos c46] at H
              have c46b0 : decide (0 ≤ ((rd_T31 l0 x6_1).f5)) = true := decide_eq_true c46
              clear c46
              by_cases c47 : ((rd_T31 l0 x6_1).f5) < (y446.length : Int)
              ·rw [if_pos c47] at H
               have c47b0 : decide (((rd_T31 l0 x6_1).f5) < (y446.length : Int)) = true := decide_eq_true c47
               clear c47
               by_cases c48 : x3_1.length < 2932031007402
               ·rw [if_pos c48] at H
                have LMc48 := am c48
                clear c48
                obtain ⟨y465, hy465⟩ : ∃ y_ : List (S31), y_ = (x3_1 ++ [(⟨((rd_T31 l0 x6_1).f0), ((rd_T31 l0 x6_1).f1), ((rd_T31 l0 x6_1).f2), x452003_17, ((rd_T31 l0 x6_1).f4), rd y446 ((rd_T31 l0 x6_1).f5)⟩ : S31)]) := ⟨_, rfl⟩
                replace H : (spec_Prune.l0 kj17 l0 y465 t440 y446 (wrap64 (x6_1 + 1))) = some r := by (rw [hy465]; with_reducible exact H)
                have Ny465 := am hy465
                clear hy465
                have H' := am H
                clear H
                obtain ⟨hcz49_0, hcz49_1, hcz49_2, hcz49_3, hcz49_4, hcz49_5⟩ := cz6 BK451.out
                obtain ⟨hfz49_0, hfz49_1, hfz49_2, hfz49_3, hfz49_4, hfz49_5⟩ := fz6 BK451.out
                obtain ⟨Ao50, co50, eo50⟩ := Kd.R_slice HO_5.out
                subst eo50
                have p464 : 0 ≤ (((rd_T31 l0 x6_1).f5) : Int) := oD (by assumption)
                have q464 : ((rd_T31 l0 x6_1).f5) < (y446.length : Int) := oD (by assumption)
                obtain ⟨ad464, e464, hx464_0⟩ := Kd.at_int (Kd.R_reads' HO_5.out).2.2 ((rd_T31 l0 x6_1).f5) p464 q464
                cases e464
                replace p464 := eq_true p464
                replace q464 := eq_true q464
                go_wp2_with (first | ((with_reducible refine gate_builtin (b := .append) (xs := #[.tmp 66, .tmp 68]) rfl ?_); at_builtin; refine Kd.R_append k31 (w0 := w) w.heap.size rfl (.tmp 66) (.tmp 68) 24 31 (.agg #[(.int .i64 0), (.int .i64 0), (.int .i64 0), (.int .i64 0), (.int .i64 0), (.int .i64 0)]) 48 rfl Try.underlying24 info31 rfl (by decide) (by omega) (.slice Ao19 x3_1.length co19) x3_1 (⟨((rd_T31 l0 x6_1).f0), ((rd_T31 l0 x6_1).f1), ((rd_T31 l0 x6_1).f2), x452003_17, ((rd_T31 l0 x6_1).f4), rd y446 ((rd_T31 l0 x6_1).f5)⟩ : S31) [.int .i64 ((rd_T31 l0 x6_1).f0), .int .i64 ((rd_T31 l0 x6_1).f1), .int .i64 ((rd_T31 l0 x6_1).f2), .int .i64 x452003_17, .int .i64 ((rd_T31 l0 x6_1).f4), .int .i64 (rd y446 ((rd_T31 l0 x6_1).f5))] (fun k_ => k_ ≠ gb451) (fun _ => False) rfl (by (go_simp; done)) ?aP (fun _ hk => hk.elim) ?aF ?aO ?aB ?aS ?aL ?_; (case aP => exact k31_mkM _ _ _ (⟨((rd_T31 l0 x6_1).f0), ((rd_T31 l0 x6_1).f1), ((rd_T31 l0 x6_1).f2), x452003_17, ((rd_T31 l0 x6_1).f4), rd y446 ((rd_T31 l0 x6_1).f5)⟩ : S31)); (case aB => exact (by exact bW)); (case aF => exact (fun k_ hk => Kd.freshB (g := gb451) (o := .cells #[.int .i64 ((rd_T31 l0 x6_1).f0), .int .i64 ((rd_T31 l0 x6_1).f1), .int .i64 ((rd_T31 l0 x6_1).f2), .int .i64 x452003_17, .int .i64 ((rd_T31 l0 x6_1).f4), .int .i64 (rd y446 ((rd_T31 l0 x6_1).f5))] 31 (0, 0)) (by (with_reducible repeat (first | refine blk_drewN ?_ _ | refine blk_drew ?_ | refine blk_alloc ?_ _)); refine blk_put (cs := #[.int .i64 ((rd_T31 l0 x6_1).f0), .int .i64 ((rd_T31 l0 x6_1).f1), .int .i64 ((rd_T31 l0 x6_1).f2), .int .i64 x452003_17, .int .i64 ((rd_T31 l0 x6_1).f4), .int .i64 ((rd_T31 l0 x6_1).f5)]) ?_ 5 _ rfl; exact sB <| BK451.out) k_ hk)); (case aO => exact (by exact sR <| Kd.R_mono (Kd.R_far (p := ⟨gb451, 5, none⟩) (Kd.R_mono HO_3.out (fun k_ hk => (⟨hk, hk⟩ : _ ∧ k_ ≠ gb451))) (fun _ hk => hk.2) (.int .i64 (rd y446 ((rd_T31 l0 x6_1).f5)))) (fun _ hk => hk.1))); (case aS => exact (below_size (by exact bW))); (case aL => have := LMc48.out; omega); intro v466 w51 ho hb hg hat; rw [← Ny465.out] at ho; have n0_ := am (Kd.R_over' (by exact sR <| (Kd.R_mono (Kd.R_far (p := ⟨gb451, 5, none⟩) (Kd.R_types HO_4.out BK451.out (by decide)) (fun _ hk => hk.2) (.int .i64 (rd y446 ((rd_T31 l0 x6_1).f5)))) (fun _ h_ => h_.1))) (Kd.R_typed (by exact sR <| (Kd.R_mono (Kd.R_far (p := ⟨gb451, 5, none⟩) (Kd.R_mono HO_3.out (fun k_ hk => (⟨hk, hk⟩ : _ ∧ k_ ≠ gb451))) (fun _ hk => hk.2) (.int .i64 (rd y446 ((rd_T31 l0 x6_1).f5)))) (fun _ h_ => h_.1)))) (by decide) hg); have n1_ := am (Kd.R_over' (by exact sR <| (Kd.R_mono (Kd.R_far (p := ⟨gb451, 5, none⟩) (Kd.R_types HO_5.out BK451.out (by decide)) (fun _ hk => hk.2) (.int .i64 (rd y446 ((rd_T31 l0 x6_1).f5)))) (fun _ h_ => h_.1))) (Kd.R_typed (by exact sR <| (Kd.R_mono (Kd.R_far (p := ⟨gb451, 5, none⟩) (Kd.R_mono HO_3.out (fun k_ hk => (⟨hk, hk⟩ : _ ∧ k_ ≠ gb451))) (fun _ hk => hk.2) (.int .i64 (rd y446 ((rd_T31 l0 x6_1).f5)))) (fun _ h_ => h_.1)))) (by decide) hg); have n2_ := am (Kd.R_over' (by exact sR <| (Kd.R_mono (Kd.R_far (p := ⟨gb451, 5, none⟩) (Kd.R_types HO_8.out BK451.out (by decide)) (fun _ hk => hk.2) (.int .i64 (rd y446 ((rd_T31 l0 x6_1).f5)))) (fun _ h_ => h_.1))) (Kd.R_typed (by exact sR <| (Kd.R_mono (Kd.R_far (p := ⟨gb451, 5, none⟩) (Kd.R_mono HO_3.out (fun k_ hk => (⟨hk, hk⟩ : _ ∧ k_ ≠ gb451))) (fun _ hk => hk.2) (.int .i64 (rd y446 ((rd_T31 l0 x6_1).f5)))) (fun _ h_ => h_.1)))) (by decide) hg); have n3_ := am (blk_grown (g := gb451) (o := .cells #[.int .i64 ((rd_T31 l0 x6_1).f0), .int .i64 ((rd_T31 l0 x6_1).f1), .int .i64 ((rd_T31 l0 x6_1).f2), .int .i64 x452003_17, .int .i64 ((rd_T31 l0 x6_1).f4), .int .i64 (rd y446 ((rd_T31 l0 x6_1).f5))] 31 (0, 0)) (by (with_reducible repeat (first | refine blk_drewN ?_ _ | refine blk_drew ?_ | refine blk_alloc ?_ _)); refine blk_put (cs := #[.int .i64 ((rd_T31 l0 x6_1).f0), .int .i64 ((rd_T31 l0 x6_1).f1), .int .i64 ((rd_T31 l0 x6_1).f2), .int .i64 x452003_17, .int .i64 ((rd_T31 l0 x6_1).f4), .int .i64 ((rd_T31 l0 x6_1).f5)]) ?_ 5 _ rfl; exact sB <| BK451.out) hg (Kd.R_away HO_3.out (fun _ hk => hk))); have n4_ := am (hb); have n5_ := am (ho); clear HO_4; clear HO_5; clear HO_8; clear BK451; clear HB; clear HO_3; have HO_4 := n0_; have HO_5 := n1_; have HO_8 := n2_; have BK451 := n3_; have HB := n4_; have HO467 := n5_; clear n0_ n1_ n2_ n3_ n4_ n5_; clear ho hb hg hat))
                go_roundg kj17
                case measure => have := HK1.out; have := HJ17.out; omega
                case rel => exact ⟨(y465), (y446), (wrap64 (x6_1 + 1)), (by rfl), H', ⟨by have := HK1.out; have := HJ17.out; omega⟩, ⟨by exact sR <| Kd.R_mono HO467.out (fun _ hk => trivial)⟩, ⟨by exact sR <| HO_4.out⟩, ⟨by exact sR <| Kd.R_mono HO_5.out (fun _ hk => trivial)⟩, ⟨by exact bW⟩⟩
               ·rw [if_neg c48] at H
                exact absurd H (by simp)
              ·rw [if_neg c47] at H
               exact absurd H (by simp)
             ·rw [if_neg c46] at H
              exact absurd H (by simp)
            ·rw [if_neg c45] at H
             have c45b0 : decide (2 < (t452.length : Int)) = false := decide_eq_false c45
             have c45b1 : decide (2 < t452.length) = false := decide_eq_false (by omega)
             clear c45
             by_cases c52 : x3_1.length < 2932031007402
             ·rw [if_pos c52] at H
              have LMc52 := am c52
              clear c52
              obtain ⟨y468, hy468⟩ : ∃ y_ : List (S31), y_ = (x3_1 ++ [(⟨((rd_T31 l0 x6_1).f0), ((rd_T31 l0 x6_1).f1), ((rd_T31 l0 x6_1).f2), x452003_17, ((rd_T31 l0 x6_1).f4), ((rd_T31 l0 x6_1).f5)⟩ : S31)]) := ⟨_, rfl⟩
              replace H : (spec_Prune.l0 kj17 l0 y468 t440 y446 (wrap64 (x6_1 + 1))) = some r := by (rw [hy468]; with_reducible exact H)
              have Ny468 := am hy468
              clear hy468
              have H' := am H
              clear H
              obtain ⟨hcz53_0, hcz53_1, hcz53_2, hcz53_3, hcz53_4, hcz53_5⟩ := cz6 BK451.out
              obtain ⟨hfz53_0, hfz53_1, hfz53_2, hfz53_3, hfz53_4, hfz53_5⟩ := fz6 BK451.out
              go_wp2_with (first | ((with_reducible refine gate_builtin (b := .append) (xs := #[.tmp 66, .tmp 68]) rfl ?_); at_builtin; refine Kd.R_append k31 (w0 := w) w.heap.size rfl (.tmp 66) (.tmp 68) 24 31 (.agg #[(.int .i64 0), (.int .i64 0), (.int .i64 0), (.int .i64 0), (.int .i64 0), (.int .i64 0)]) 48 rfl Try.underlying24 info31 rfl (by decide) (by omega) (.slice Ao19 x3_1.length co19) x3_1 (⟨((rd_T31 l0 x6_1).f0), ((rd_T31 l0 x6_1).f1), ((rd_T31 l0 x6_1).f2), x452003_17, ((rd_T31 l0 x6_1).f4), ((rd_T31 l0 x6_1).f5)⟩ : S31) [.int .i64 ((rd_T31 l0 x6_1).f0), .int .i64 ((rd_T31 l0 x6_1).f1), .int .i64 ((rd_T31 l0 x6_1).f2), .int .i64 x452003_17, .int .i64 ((rd_T31 l0 x6_1).f4), .int .i64 ((rd_T31 l0 x6_1).f5)] (fun k_ => k_ ≠ gb451) (fun _ => False) rfl rfl ?aP (fun _ hk => hk.elim) ?aF ?aO ?aB ?aS ?aL ?_; (case aP => exact k31_mkM _ _ _ (⟨((rd_T31 l0 x6_1).f0), ((rd_T31 l0 x6_1).f1), ((rd_T31 l0 x6_1).f2), x452003_17, ((rd_T31 l0 x6_1).f4), ((rd_T31 l0 x6_1).f5)⟩ : S31)); (case aB => exact (by exact bW)); (case aF => exact (fun k_ hk => Kd.freshB (g := gb451) (o := .cells #[.int .i64 ((rd_T31 l0 x6_1).f0), .int .i64 ((rd_T31 l0 x6_1).f1), .int .i64 ((rd_T31 l0 x6_1).f2), .int .i64 x452003_17, .int .i64 ((rd_T31 l0 x6_1).f4), .int .i64 ((rd_T31 l0 x6_1).f5)] 31 (0, 0)) (by exact sB <| BK451.out) k_ hk)); (case aO => exact (by exact sR <| HO_3.out)); (case aS => exact (below_size (by exact bW))); (case aL => have := LMc52.out; omega); intro v469 w54 ho hb hg hat; rw [← Ny468.out] at ho; have n0_ := am (Kd.R_over' (by exact sR <| HO_4.out) (Kd.R_typed (by exact sR <| HO_3.out)) (by decide) hg); have n1_ := am (Kd.R_over' (by exact sR <| HO_5.out) (Kd.R_typed (by exact sR <| HO_3.out)) (by decide) hg); have n2_ := am (Kd.R_over' (by exact sR <| HO_8.out) (Kd.R_typed (by exact sR <| HO_3.out)) (by decide) hg); have n3_ := am (blk_grown (g := gb451) (o := .cells #[.int .i64 ((rd_T31 l0 x6_1).f0), .int .i64 ((rd_T31 l0 x6_1).f1), .int .i64 ((rd_T31 l0 x6_1).f2), .int .i64 x452003_17, .int .i64 ((rd_T31 l0 x6_1).f4), .int .i64 ((rd_T31 l0 x6_1).f5)] 31 (0, 0)) (by exact sB <| BK451.out) hg (Kd.R_away HO_3.out (fun _ hk => hk))); have n4_ := am (hb); have n5_ := am (ho); clear HO_4; clear HO_5; clear HO_8; clear BK451; clear HB; clear HO_3; have HO_4 := n0_; have HO_5 := n1_; have HO_8 := n2_; have BK451 := n3_; have HB := n4_; have HO470 := n5_; clear n0_ n1_ n2_ n3_ n4_ n5_; clear ho hb hg hat))
              go_roundg kj17
              case measure => have := HK1.out; have := HJ17.out; omega
              case rel => exact ⟨(y468), (y446), (wrap64 (x6_1 + 1)), (by rfl), H', ⟨by have := HK1.out; have := HJ17.out; omega⟩, ⟨by exact sR <| Kd.R_mono HO470.out (fun _ hk => trivial)⟩, ⟨by exact sR <| HO_4.out⟩, ⟨by exact sR <| Kd.R_mono HO_5.out (fun _ hk => trivial)⟩, ⟨by exact bW⟩⟩
             ·rw [if_neg c52] at H
              exact absurd H (by simp)
        ·replace c16 := Bool.eq_false_iff.mpr c16
         subst c16
         rw [if_neg (show ¬ (false = true) by decide)] at H
         have H' := am H
         clear H
         obtain ⟨Ao55, co55, eo55⟩ := Kd.R_slice HO_3.out
         subst eo55
         go_wp2_with (first | ((with_reducible refine gate_builtin (b := .append) (xs := #[.tmp 23, .tmp 26]) rfl ?_); at_builtin; refine Kd.R_append (Kd.int .i64) (w0 := w) w.heap.size rfl (.tmp 23) (.tmp 26) 25 3 (.int .i64 0) 8 rfl Try.underlying25 info3 rfl (by decide) (by omega) u5 x5_1 (x3_1.length : Int) [.int .i64 (x3_1.length : Int)] (fun _ => True) (fun _ => False) rfl rfl ?aP (fun _ hk => hk.elim) ?aF ?aO ?aB ?aS ?aL ?_; (case aP => exact rfl); (case aB => exact (by exact sW HB.out)); (case aF => exact (fun _ _ => trivial)); (case aO => exact (by exact sR <| HO_5.out)); (case aS => exact (below_size (by exact sW HB.out))); (case aL => have := LMc12.out; omega); intro v447 w56 ho hb hg hat; rw [← Ny446.out] at ho; have n0_ := am (Kd.R_over' (by exact sR <| HO_3.out) (Kd.R_typed (by exact sR <| HO_5.out)) (by decide) hg); have n1_ := am (Kd.R_over' (by exact sR <| HO_4.out) (Kd.R_typed (by exact sR <| HO_5.out)) (by decide) hg); have n2_ := am (hb); have n3_ := am (ho); clear HO_3; clear HO_4; clear HB; clear HO_5; have HO_3 := n0_; have HO_4 := n1_; have HB := n2_; have HO448 := n3_; clear n0_ n1_ n2_ n3_; clear ho hb hg hat; obtain ⟨Ao57, co57, eo57⟩ := Kd.R_slice HO_4.out; subst eo57; have p449 : 0 ≤ (x6_1 : Int) := oD (by assumption); have q449 : x6_1 < (t440.length : Int) := oD (by assumption); obtain ⟨ad449, e449, hx449_0⟩ := Kd.at_bool (Kd.R_reads' HO_4.out).2.2 x6_1 p449 q449; (try rw [← Nbq15.out] at hx449_0); cases e449; replace p449 := eq_true p449; replace q449 := eq_true q449))
         go_roundg k1
         case measure => have := HK1.out; omega
         case rel => exact ⟨(x3_1), (y446), (wrap64 (x6_1 + 1)), (by rfl), H', ⟨by have := HK1.out; omega⟩, ⟨by exact sR <| HO_3.out⟩, ⟨by exact sR <| HO_4.out⟩, ⟨by exact sR <| HO448.out⟩, ⟨by exact sW HB.out⟩⟩
       ·rw [if_neg c14] at H
        exact absurd H (by simp)
      ·rw [if_neg c13] at H
       exact absurd H (by simp)
     ·rw [if_neg c12] at H
      exact absurd H (by simp)
    ·rw [if_neg c11] at H
     have c11b0 : decide (x6_1 < (l0.length : Int)) = false := decide_eq_false c11
     clear c11
     obtain rfl := oI H
     go_wp2
     go_ret
     exact ⟨_, by rfl, by exact sR <| HO_3.out, by exact sW HB.out⟩
 ·replace c3 := Bool.eq_false_iff.mpr c3
  subst c3
  rw [if_neg (show ¬ (false = true) by decide)] at H
  obtain rfl := oI H
  go_enter Try.func49, Try.ntmps49
  go_wp2_with (first | ((with_reducible refine gate_dst (N := 9) rfl ?_); refine Kd.R_lit k31 _ 31 ?hg (N := 9) ?hd (xs := ([] : List (S31))) (inner := []) (ok := fun _ => True) (okp := fun _ => True) ?hr ?hp (fun _ hk => hk) trivial (Below.refl _ _) (Nat.le_refl _) (by simp) ?_; (case hd => rfl); (case hg => rfl); (case hr => (go_simp; done)); (case hp => exact (Reps.none _ _)); intro v437 w58 ho59 hb hg_ hnew_; clear hg_ hnew_; (rw [← Ny436.out] at ho59); have n0_ := am (Kd.R_lower ho59 (below_size (by exact sW HB.out))); have n1_ := am (below_step (by exact sW HB.out) hb); clear HB; have HO438 := n0_; have HB := n1_; clear n0_ n1_; clear hb ho59) | ((with_reducible refine gate_callee (f := 13) rfl ?_); refine goesL_ (some 11) rfl rfl Try.func13 (by kernel_rfl) rfl #[.slice A0 l0.length c0] rfl tm ?_; (with_reducible refine (spec_TermOk.calls k _ _ l0 false _ ?side1 ?side2 A2.out).mono ?_); (case side1 => exact sC (Kd.C_below HR0.out HB.out)); (case side2 => exact HC0.out); rintro e w60 ⟨rfl, hb⟩; refine ⟨_, rfl, ?_⟩; have n0_ := am (Kd.R_below (by exact sR <| HO438.out) hb); have n1_ := am (below_step (by exact sW HB.out) hb); clear HO438; clear HB; have HO438 := n0_; have HB := n1_; clear n0_ n1_; (try clear hb); (try clear hb2); (try clear hk); (try clear hi)))
  go_ret
  exact ⟨_, by rfl, by exact sR <| HO438.out, by exact sW HB.out⟩
/-! ### spec_l02Quant: function 50 -/
def spec_l02Quant.f (a0 : Int) : Option (Bool) := if a0 = 19 then (some true) else (some (a0 == 20))
set_option maxHeartbeats 8000000 in
set_option maxRecDepth 100000 in
theorem spec_l02Quant.calls (a0 : Int) (r : Bool) (w : World) (h : spec_l02Quant.f a0 = some r) :
  Calls Try.prog 50 #[.int .i64 a0] w fun e w' => e = .returned (.bool r) ∧ Drawn0 w w' := by
 have H : (if a0 = 19 then (some true) else (some (a0 == 20))) = some r := h
 clear h
 by_cases c2 : a0 = 19
 ·rw [if_pos c2] at H
  have c2b0 : (a0 == 19) = true := beq_iff_eq.mpr c2
  have c2b1 : (a0 != 19) = false := bne_eq_false_iff_eq.mpr c2
  clear c2
  obtain rfl := oI H
  go_enter Try.func50, Try.ntmps50
  go_wp2
  go_ret
  exact ⟨by rfl, by repeat (first | exact Drawn0.refl _ | apply Drawn0.step)⟩
 ·rw [if_neg c2] at H
  have c2b0 : (a0 == 19) = false := beq_eq_false_iff_ne.mpr c2
  have c2b1 : (a0 != 19) = true := bne_iff_ne.mpr c2
  obtain rfl := oI H
  go_enter Try.func50, Try.ntmps50
  go_wp2
  go_ret
  exact ⟨by rfl, by repeat (first | exact Drawn0.refl _ | apply Drawn0.step)⟩
/-! ### spec_l04Fits: function 51 -/
mutual
def spec_l04Fits.l0 : Nat → List (S31) → List Int → List (List Int) → Int → Option (Bool)
 | 0, _, _, _, _ => none
 | k + 1, x0, x1, x5, x6 => if x6 < (x0.length : Int) then (if 0 ≤ x6 then ((spec_Parts.f k ((rd_T31 x0 x6).f0) ((rd_T31 x0 x6).f1) ((rd_T31 x0 x6).f2) ((rd_T31 x0 x6).f3) ((rd_T31 x0 x6).f4) ((rd_T31 x0 x6).f5)).bind fun t479 => (spec_l04Fits.l1 k x0 x1 x5 x6 (([] : List Int)) t479 0 ((rd_T31 x0 x6).f0) ((rd_T31 x0 x6).f1) ((rd_T31 x0 x6).f2) ((rd_T31 x0 x6).f3) ((rd_T31 x0 x6).f4) ((rd_T31 x0 x6).f5))) else (none)) else (spec_l04Fits.l3 k x0 x1 x5 0)
def spec_l04Fits.l1 : Nat → List (S31) → List Int → List (List Int) → Int → List Int → List Int → Int → Int → Int → Int → Int → Int → Int → Option (Bool)
 | 0, _, _, _, _, _, _, _, _, _, _, _, _, _ => none
 | k + 1, x0, x1, x5, x6, x8, x9, x10, x476000, x476001, x476002, x476003, x476004, x476005 => if x10 < 8 then (if x476000 = 1 then (spec_l04Fits.j2 k x0 x1 x5 x6 x8 x9 x10 0 (x476002 == x10) x476000 x476001 x476002 x476003 x476004 x476005) else (spec_l04Fits.j2 k x0 x1 x5 x6 x8 x9 x10 0 false x476000 x476001 x476002 x476003 x476004 x476005)) else (if x5.length < 5864062014805 then (spec_l04Fits.l0 k x0 x1 (x5 ++ [x8]) (wrap64 (x6 + 1))) else (none))
def spec_l04Fits.j2 : Nat → List (S31) → List Int → List (List Int) → Int → List Int → List Int → Int → Int → Bool → Int → Int → Int → Int → Int → Int → Option (Bool)
 | 0, _, _, _, _, _, _, _, _, _, _, _, _, _, _, _ => none
 | k + 1, x0, x1, x5, x6, x8, x9, x10, x11, x41, x476000, x476001, x476002, x476003, x476004, x476005 => if x41 = true then ((spec_l01Pow2.f k x476001).bind fun t485 => (spec_l04Fits.j3 k x0 x1 x5 x6 x8 x9 x10 t485 x476000 x476001 x476002 x476003 x476004 x476005)) else (spec_l04Fits.j3 k x0 x1 x5 x6 x8 x9 x10 x11 x476000 x476001 x476002 x476003 x476004 x476005)
def spec_l04Fits.j3 : Nat → List (S31) → List Int → List (List Int) → Int → List Int → List Int → Int → Int → Int → Int → Int → Int → Int → Int → Option (Bool)
 | 0, _, _, _, _, _, _, _, _, _, _, _, _, _, _ => none
 | k + 1, x0, x1, x5, x6, x8, x9, x10, x11, x476000, x476001, x476002, x476003, x476004, x476005 => spec_l04Fits.l2 k x0 x1 x5 x6 x8 x9 x10 x11 0 x476000 x476001 x476002 x476003 x476004 x476005
def spec_l04Fits.l2 : Nat → List (S31) → List Int → List (List Int) → Int → List Int → List Int → Int → Int → Int → Int → Int → Int → Int → Int → Int → Option (Bool)
 | 0, _, _, _, _, _, _, _, _, _, _, _, _, _, _, _ => none
 | k + 1, x0, x1, x5, x6, x8, x9, x10, x11, x12, x476000, x476001, x476002, x476003, x476004, x476005 => if x12 < (x9.length : Int) then (if 0 ≤ x12 then (if 0 ≤ (rd x9 x12) then (if (rd x9 x12) < (x5.length : Int) then (if 0 ≤ x10 then (if x10 < ((rd_L8 x5 (rd x9 x12)).length : Int) then (spec_l04Fits.l2 k x0 x1 x5 x6 x8 x9 x10 (Go.bits .or .i64 x11 (rd (rd_L8 x5 (rd x9 x12)) x10)) (wrap64 (x12 + 1)) x476000 x476001 x476002 x476003 x476004 x476005) else (none)) else (none)) else (none)) else (none)) else (none)) else ((spec_l02Quant.f x476000).bind fun t489 => (if t489 = true then (spec_l04Fits.j5 k x0 x1 x5 x6 x8 x9 x10 x11 (x476002 == x10) x476000 x476001 x476002 x476003 x476004 x476005) else (spec_l04Fits.j5 k x0 x1 x5 x6 x8 x9 x10 x11 false x476000 x476001 x476002 x476003 x476004 x476005)))
def spec_l04Fits.j5 : Nat → List (S31) → List Int → List (List Int) → Int → List Int → List Int → Int → Int → Bool → Int → Int → Int → Int → Int → Int → Option (Bool)
 | 0, _, _, _, _, _, _, _, _, _, _, _, _, _, _, _ => none
 | k + 1, x0, x1, x5, x6, x8, x9, x10, x11, x71, x476000, x476001, x476002, x476003, x476004, x476005 => if x71 = true then (if x11 = 0 then (if x8.length < 17592186044416 then (spec_l04Fits.l1 k x0 x1 x5 x6 (x8 ++ [0]) x9 (wrap64 (x10 + 1)) x476000 x476001 x476002 x476003 x476004 x476005) else (none)) else ((spec_l01Pow2.f k x476004).bind fun t493 => (if x11 = t493 then (if x8.length < 17592186044416 then (spec_l04Fits.l1 k x0 x1 x5 x6 (x8 ++ [0]) x9 (wrap64 (x10 + 1)) x476000 x476001 x476002 x476003 x476004 x476005) else (none)) else (some false)))) else (if x8.length < 17592186044416 then (spec_l04Fits.l1 k x0 x1 x5 x6 (x8 ++ [x11]) x9 (wrap64 (x10 + 1)) x476000 x476001 x476002 x476003 x476004 x476005) else (none))
def spec_l04Fits.l3 : Nat → List (S31) → List Int → List (List Int) → Int → Option (Bool)
 | 0, _, _, _, _ => none
 | k + 1, x0, x1, x5, x13 => if x13 < 8 then (spec_l04Fits.l4 k x0 x1 x5 x13 1) else (some true)
def spec_l04Fits.l4 : Nat → List (S31) → List Int → List (List Int) → Int → Int → Option (Bool)
 | 0, _, _, _, _, _ => none
 | k + 1, x0, x1, x5, x13, x14 => if x14 ≤ 8 then (if 0 ≤ (wrap64 ((x0.length : Int) - 1)) then (if (wrap64 ((x0.length : Int) - 1)) < (x5.length : Int) then (if 0 ≤ x13 then (if x13 < ((rd_L8 x5 (wrap64 ((x0.length : Int) - 1))).length : Int) then ((spec_l01Pow2.f k x14).bind fun t502 => (if t502 = 0 then (none) else (if (Int.tmod (wrap64 (Int.tdiv (rd (rd_L8 x5 (wrap64 ((x0.length : Int) - 1))) x13) t502)) 2) = 1 then (if x13 < (x1.length : Int) then ((spec_WordOk.f k x14 (rd x1 x13)).bind fun t504 => (if t504 = true then (spec_l04Fits.l4 k x0 x1 x5 x13 (wrap64 (x14 + 1))) else (some false))) else (none)) else (spec_l04Fits.l4 k x0 x1 x5 x13 (wrap64 (x14 + 1)))))) else (none)) else (none)) else (none)) else (none)) else (spec_l04Fits.l3 k x0 x1 x5 (wrap64 (x13 + 1)))
end
def spec_l04Fits.f (k : Nat) (l0 : List (S31)) (l1 : List Int) : Option (Bool) := spec_l04Fits.l0 k l0 l1 (([] : List (List Int))) 0
set_option maxHeartbeats 8000000 in
set_option maxRecDepth 100000 in
theorem spec_l04Fits.calls (k : Nat) (A0 : Option Addr) (c0 : Nat) (l0 : List (S31)) (A1 : Option Addr) (c1 : Nat) (l1 : List Int) (r : Bool) (w : World) (hr0 : Kd.C k31 w A0 l0.length l0) (hc0 : l0.length ≤ c0) (hr1 : Kd.C (Kd.int .i64) w A1 l1.length l1) (hc1 : l1.length ≤ c1) (h : spec_l04Fits.f k l0 l1 = some r) :
  Calls Try.prog 51 #[.slice A0 l0.length c0, .slice A1 l1.length c1] w fun e w' => e = .returned (.bool r) ∧ Below w.heap.size w w' := by
 have hu31 := Try.underlying31
 have HR0 := am hr0
 have HC0 := am hc0
 clear hr0 hc0
 have HR1 := am hr1
 have HC1 := am hc1
 clear hr1 hc1
 have HB := am (Below.refl w.heap.size w)
 have H : (spec_l04Fits.l0 k l0 l1 (([] : List (List Int))) 0) = some r := h
 clear h
 obtain ⟨y471, hy471⟩ : ∃ y_ : List (List Int), y_ = (([] : List (List Int))) := ⟨_, rfl⟩
 replace H : (spec_l04Fits.l0 k l0 l1 y471 0) = some r := by (rw [hy471]; with_reducible exact H)
 have Ny471 := am hy471
 clear hy471
 have H' := am H
 clear H
 go_enter Try.func51, Try.ntmps51
 go_wp2_with (first | ((with_reducible refine gate_dst (N := 15) rfl ?_); refine Kd.S_lit (Kd.slice 3 (Kd.int .i64)) _ 25 ?hg (N := 15) ?hd (xs := ([] : List (List Int))) (inner := []) (ok := fun _ => True) (okp := fun _ => True) ?hr ?hp (fun _ hk => hk) trivial (Below.refl _ _) (Nat.le_refl _) (by simp) ?_; (case hd => rfl); (case hg => rfl); (case hr => (go_simp; done)); (case hp => exact (Reps.none _ _)); intro v472 w3 ho4 hb hg_ hnew_; clear hg_ hnew_; (rw [← Ny471.out] at ho4); have n0_ := am (Kd.S_lower ho4 (below_size (by exact sW HB.out))); have n1_ := am (below_step (by exact sW HB.out) hb); clear HB; have HO473 := n0_; have HB := n1_; clear n0_ n1_; clear hb ho4))
 go_loopg [5, 6] k (fun kq v5 v6 w' => ∃ (x5_1 : List (List Int)) (x6_1 : Int), v6 = .int .i64 x6_1 ∧ Aside0 (spec_l04Fits.l0 kq l0 l1 x5_1 x6_1 = some r) ∧ Aside0 (kq ≤ k) ∧ Aside0 (Kd.S (Kd.slice 3 (Kd.int .i64)) 25 w' w.heap.size (fun _ => True) v5 x5_1) ∧ Aside0 (Below w.heap.size w w'))
 case atStart => exact ⟨(y471), (0), (by rfl), H', ⟨Nat.le_refl _⟩, ⟨by (with_reducible repeat (first | apply Kd.S_alloc | apply Kd.S_drewN | apply Kd.S_drew)); exact HO473.out⟩, ⟨by exact sW HB.out⟩⟩
 case round =>
  clear H'
  obtain ⟨x5_1, x6_1, rfl, HA, HK1, HO_5, HB⟩ := hrel
  cases gk with
  | zero => exact absurd HA.out (by simp [spec_l04Fits.l0])
  | succ k1 =>
   have H := HA.out
   clear HA
   simp only [spec_l04Fits.l0] at H
   by_cases c5 : x6_1 < (l0.length : Int)
   ·rw [if_pos c5] at H
    have c5b0 : decide (x6_1 < (l0.length : Int)) = true := decide_eq_true c5
    clear c5
    by_cases c6 : 0 ≤ x6_1
    ·rw [if_pos c6] at H
     have c6b0 : decide (0 ≤ x6_1) = true := decide_eq_true c6
     clear c6
     obtain ⟨y476, hy476⟩ : ∃ y_ : List Int, y_ = (([] : List Int)) := ⟨_, rfl⟩
     replace H : ((spec_Parts.f k1 ((rd_T31 l0 x6_1).f0) ((rd_T31 l0 x6_1).f1) ((rd_T31 l0 x6_1).f2) ((rd_T31 l0 x6_1).f3) ((rd_T31 l0 x6_1).f4) ((rd_T31 l0 x6_1).f5)).bind fun t479 => (spec_l04Fits.l1 k1 l0 l1 x5_1 x6_1 y476 t479 0 ((rd_T31 l0 x6_1).f0) ((rd_T31 l0 x6_1).f1) ((rd_T31 l0 x6_1).f2) ((rd_T31 l0 x6_1).f3) ((rd_T31 l0 x6_1).f4) ((rd_T31 l0 x6_1).f5))) = some r := by (rw [hy476]; with_reducible exact H)
     have Ny476 := am hy476
     clear hy476
     replace H := oB H
     obtain ⟨t479, A70, H⟩ := H
     have A7 := am A70
     clear A70
     have H' := am H
     clear H
     have p474 : 0 ≤ (x6_1 : Int) := oD (by assumption)
     have q474 : x6_1 < (l0.length : Int) := oD (by assumption)
     obtain ⟨ad474, e474, hx474_0, hx474_1, hx474_2, hx474_3, hx474_4, hx474_5⟩ := at_T31 HR0.out x6_1 p474 q474
     cases e474
     replace hx474_0 := pw_cell_below HB.out hx474_0
     replace hx474_1 := pw_cell_below HB.out hx474_1
     replace hx474_2 := pw_cell_below HB.out hx474_2
     replace hx474_3 := pw_cell_below HB.out hx474_3
     replace hx474_4 := pw_cell_below HB.out hx474_4
     replace hx474_5 := pw_cell_below HB.out hx474_5
     replace p474 := eq_true p474
     replace q474 := eq_true q474
     go_wp2_with (first | ((with_reducible refine gate_dst (N := 7) rfl ?_); refine box_event ?hg (N := 7) ?hd (cs := #[.int .i64 0, .int .i64 0, .int .i64 0, .int .i64 0, .int .i64 0, .int .i64 0]) (t := 31) ?hr ?_; (case hd => rfl); (case hg => rfl); (case hr => (go_simp; done)); intro gb475 hg w8 hbox hb; have n0_ := am (Kd.S_below (by (with_reducible repeat (first | apply Kd.S_alloc | apply Kd.S_drewN | apply Kd.S_drew)); exact HO_5.out) hb); have n1_ := am (below_step (by exact sW HB.out) hb); have n2_ := am (hbox); have n3_ := am ((by rw [hg]; exact (below_size (by exact sW HB.out)) : w.heap.size ≤ gb475)); have n4_ := am ((by rw [hg]; exact (below_size (by exact sW HB.out)) : w.heap.size ≤ gb475)); clear HO_5; clear HB; have HO_5 := n0_; have HB := n1_; have BK475 := n2_; have GW475 := n3_; have GE475 := n4_; clear n0_ n1_ n2_ n3_ n4_; clear hb hbox hg; obtain ⟨hcz9_0, hcz9_1, hcz9_2, hcz9_3, hcz9_4, hcz9_5⟩ := cz6 BK475.out; obtain ⟨hfz9_0, hfz9_1, hfz9_2, hfz9_3, hfz9_4, hfz9_5⟩ := fz6 BK475.out) | ((with_reducible refine gate_dst (N := 26) rfl ?_); refine Kd.R_lit (Kd.int .i64) _ 3 ?hg (N := 26) ?hd (xs := ([] : List Int)) (inner := []) (ok := fun _ => True) (okp := fun _ => True) ?hr ?hp (fun _ hk => hk) trivial (Below.refl _ _) (Nat.le_refl _) (by simp) ?_; (case hd => rfl); (case hg => rfl); (case hr => (go_simp; done)); (case hp => exact (Reps.none _ _)); intro v477 w10 ho11 hb hg_ hnew_; clear hg_ hnew_; (rw [← Ny476.out] at ho11); have n0_ := am (Kd.S_elder' (by (with_reducible repeat (first | apply Kd.S_alloc | apply Kd.S_drewN | apply Kd.S_drew)); exact (Kd.S_mono (Kd.S_far (p := ⟨gb475, 5, none⟩) (Kd.S_far (p := ⟨gb475, 4, none⟩) (Kd.S_far (p := ⟨gb475, 3, none⟩) (Kd.S_far (p := ⟨gb475, 2, none⟩) (Kd.S_far (p := ⟨gb475, 1, none⟩) (Kd.S_far (p := ⟨gb475, 0, none⟩) (Kd.S_types HO_5.out BK475.out (by decide)) (fun _ hk => hk.2) (.int .i64 ((rd_T31 l0 x6_1).f0))) (fun _ hk => hk.2) (.int .i64 ((rd_T31 l0 x6_1).f1))) (fun _ hk => hk.2) (.int .i64 ((rd_T31 l0 x6_1).f2))) (fun _ hk => hk.2) (.int .i64 ((rd_T31 l0 x6_1).f3))) (fun _ hk => hk.2) (.int .i64 ((rd_T31 l0 x6_1).f4))) (fun _ hk => hk.2) (.int .i64 ((rd_T31 l0 x6_1).f5))) (fun _ h_ => h_.1))) (Kd.R_base ho11) hb); have n1_ := am (Kd.R_lower ho11 (below_size (by exact bW))); have n2_ := am (blk_below (g := gb475) (o := .cells #[.int .i64 ((rd_T31 l0 x6_1).f0), .int .i64 ((rd_T31 l0 x6_1).f1), .int .i64 ((rd_T31 l0 x6_1).f2), .int .i64 ((rd_T31 l0 x6_1).f3), .int .i64 ((rd_T31 l0 x6_1).f4), .int .i64 ((rd_T31 l0 x6_1).f5)] 31 (0, 0)) (by (with_reducible repeat (first | refine blk_drewN ?_ _ | refine blk_drew ?_ | refine blk_alloc ?_ _)); refine blk_put (cs := #[.int .i64 ((rd_T31 l0 x6_1).f0), .int .i64 ((rd_T31 l0 x6_1).f1), .int .i64 ((rd_T31 l0 x6_1).f2), .int .i64 ((rd_T31 l0 x6_1).f3), .int .i64 ((rd_T31 l0 x6_1).f4), .int .i64 0]) ?_ 5 _ rfl; (with_reducible repeat (first | refine blk_drewN ?_ _ | refine blk_drew ?_ | refine blk_alloc ?_ _)); refine blk_put (cs := #[.int .i64 ((rd_T31 l0 x6_1).f0), .int .i64 ((rd_T31 l0 x6_1).f1), .int .i64 ((rd_T31 l0 x6_1).f2), .int .i64 ((rd_T31 l0 x6_1).f3), .int .i64 0, .int .i64 0]) ?_ 4 _ rfl; (with_reducible repeat (first | refine blk_drewN ?_ _ | refine blk_drew ?_ | refine blk_alloc ?_ _)); refine blk_put (cs := #[.int .i64 ((rd_T31 l0 x6_1).f0), .int .i64 ((rd_T31 l0 x6_1).f1), .int .i64 ((rd_T31 l0 x6_1).f2), .int .i64 0, .int .i64 0, .int .i64 0]) ?_ 3 _ rfl; (with_reducible repeat (first | refine blk_drewN ?_ _ | refine blk_drew ?_ | refine blk_alloc ?_ _)); refine blk_put (cs := #[.int .i64 ((rd_T31 l0 x6_1).f0), .int .i64 ((rd_T31 l0 x6_1).f1), .int .i64 0, .int .i64 0, .int .i64 0, .int .i64 0]) ?_ 2 _ rfl; (with_reducible repeat (first | refine blk_drewN ?_ _ | refine blk_drew ?_ | refine blk_alloc ?_ _)); refine blk_put (cs := #[.int .i64 ((rd_T31 l0 x6_1).f0), .int .i64 0, .int .i64 0, .int .i64 0, .int .i64 0, .int .i64 0]) ?_ 1 _ rfl; (with_reducible repeat (first | refine blk_drewN ?_ _ | refine blk_drew ?_ | refine blk_alloc ?_ _)); refine blk_put (cs := #[.int .i64 0, .int .i64 0, .int .i64 0, .int .i64 0, .int .i64 0, .int .i64 0]) ?_ 0 _ rfl; exact sB <| BK475.out) hb); have n3_ := am (below_step (by exact bW) hb); clear HO_5; clear BK475; clear HB; have HO_5 := n0_; have HO478 := n1_; have BK475 := n2_; have HB := n3_; clear n0_ n1_ n2_ n3_; clear hb ho11; obtain ⟨hcz12_0, hcz12_1, hcz12_2, hcz12_3, hcz12_4, hcz12_5⟩ := cz6 BK475.out; obtain ⟨hfz12_0, hfz12_1, hfz12_2, hfz12_3, hfz12_4, hfz12_5⟩ := fz6 BK475.out) | (go_at_call 70; (with_reducible refine (spec_Parts.calls k1 ((rd_T31 l0 x6_1).f0) ((rd_T31 l0 x6_1).f1) ((rd_T31 l0 x6_1).f2) ((rd_T31 l0 x6_1).f3) ((rd_T31 l0 x6_1).f4) ((rd_T31 l0 x6_1).f5) t479 _ A7.out).mono ?_); rintro e w13 ⟨v480, rfl, ho0, hb⟩; have n0_ := am (Kd.S_elder' (by (with_reducible repeat (first | apply Kd.S_alloc | apply Kd.S_drewN | apply Kd.S_drew)); exact HO_5.out) (Kd.R_base ho0) hb); have n1_ := am (Kd.R_elder' (by exact sR <| HO478.out) (Kd.R_base ho0) hb); have n2_ := am (Kd.R_lower (Kd.R_new' ho0 (Kd.R_lt (by exact sR <| HO478.out))) (below_size (by exact bW))); have n3_ := am (blk_below (g := gb475) (o := .cells #[.int .i64 ((rd_T31 l0 x6_1).f0), .int .i64 ((rd_T31 l0 x6_1).f1), .int .i64 ((rd_T31 l0 x6_1).f2), .int .i64 ((rd_T31 l0 x6_1).f3), .int .i64 ((rd_T31 l0 x6_1).f4), .int .i64 ((rd_T31 l0 x6_1).f5)] 31 (0, 0)) (by exact sB <| BK475.out) hb); have n4_ := am (below_step (by exact bW) hb); clear HO_5; clear HO478; clear BK475; clear HB; have HO_5 := n0_; have HO478 := n1_; have HO481 := n2_; have BK475 := n3_; have HB := n4_; clear n0_ n1_ n2_ n3_ n4_; (try clear hb); (try clear hb2); (try clear hk); (try clear hi); (try clear ho0)))
     go_loopg [8, 10] k1 (fun kq v8 v10 w' => ∃ (x8_2 : List Int) (x10_2 : Int), v10 = .int .i64 x10_2 ∧ Aside0 (spec_l04Fits.l1 kq l0 l1 x5_1 x6_1 x8_2 t479 x10_2 ((rd_T31 l0 x6_1).f0) ((rd_T31 l0 x6_1).f1) ((rd_T31 l0 x6_1).f2) ((rd_T31 l0 x6_1).f3) ((rd_T31 l0 x6_1).f4) ((rd_T31 l0 x6_1).f5) = some r) ∧ Aside0 (kq ≤ k1) ∧ Aside0 (Kd.S (Kd.slice 3 (Kd.int .i64)) 25 w' w.heap.size (fun k_ => some k_ ≠ (v8 : Value).ownBlock ∧ some k_ ≠ (v480 : Value).ownBlock) u5 x5_1) ∧ Aside0 (Kd.R (Kd.int .i64) 3 w' w.heap.size (fun k_ => some k_ ≠ (v480 : Value).ownBlock) v8 x8_2) ∧ Aside0 (Kd.R (Kd.int .i64) 3 w' w.heap.size (fun k_ => some k_ ≠ (v8 : Value).ownBlock) v480 t479) ∧ Aside0 (w'.heap[gb475]? = some (.cells #[.int .i64 ((rd_T31 l0 x6_1).f0), .int .i64 ((rd_T31 l0 x6_1).f1), .int .i64 ((rd_T31 l0 x6_1).f2), .int .i64 ((rd_T31 l0 x6_1).f3), .int .i64 ((rd_T31 l0 x6_1).f4), .int .i64 ((rd_T31 l0 x6_1).f5)] 31 (0, 0))) ∧ Aside0 (Below w.heap.size w w'))
     case atStart => exact ⟨(y476), (0), (by rfl), H', ⟨Nat.le_refl _⟩, ⟨by (with_reducible repeat (first | apply Kd.S_alloc | apply Kd.S_drewN | apply Kd.S_drew)); exact Kd.S_mono HO_5.out (fun _ hk => ⟨hk.1.2, hk.2⟩)⟩, ⟨by exact sR <| Kd.R_mono HO478.out (fun _ hk => hk.2)⟩, ⟨by exact sR <| Kd.R_mono HO481.out (fun _ hk => hk.2)⟩, ⟨by exact sB <| BK475.out⟩, ⟨by exact bW⟩⟩
     case round =>
      clear H'
      clear c5b0 c6b0 hcz12_0 hcz12_1 hcz12_2 hcz12_3 hcz12_4 hcz12_5 hcz9_0 hcz9_1 hcz9_2 hcz9_3 hcz9_4 hcz9_5 hfz12_0 hfz12_1 hfz12_2 hfz12_3 hfz12_4 hfz12_5 hfz9_0 hfz9_1 hfz9_2 hfz9_3 hfz9_4 hfz9_5 hx474_0 hx474_1 hx474_2 hx474_3 hx474_4 hx474_5 p474 q474
      obtain ⟨x8_2, x10_2, rfl, HA, HK2, HO_5, HO_8, HO_9, BK475, HB⟩ := hrel
      cases gk with
      | zero => exact absurd HA.out (by simp [spec_l04Fits.l1])
      | succ k2 =>
       have H := HA.out
       clear HA
       simp only [spec_l04Fits.l1] at H
       by_cases c14 : x10_2 < 8
       ·rw [if_pos c14] at H
        have c14b0 : decide (x10_2 < 8) = true := decide_eq_true c14
        clear c14
        have HC15 := am H
        clear H
        go_upto_region 12 with (fail)
        repeat (go_quiet (fail); go_upto_region 12 with (fail))
        go_cut [41] (fun v41 wc => ∃ (kq : Nat) (x41_14 : Bool), v41 = .bool x41_14 ∧ Aside0 (spec_l04Fits.j2 kq l0 l1 x5_1 x6_1 x8_2 t479 x10_2 0 x41_14 ((rd_T31 l0 x6_1).f0) ((rd_T31 l0 x6_1).f1) ((rd_T31 l0 x6_1).f2) ((rd_T31 l0 x6_1).f3) ((rd_T31 l0 x6_1).f4) ((rd_T31 l0 x6_1).f5) = some r) ∧ Aside0 (kq ≤ k2) ∧ Aside0 (Kd.S (Kd.slice 3 (Kd.int .i64)) 25 wc w.heap.size (fun k_ => some k_ ≠ (u8 : Value).ownBlock ∧ some k_ ≠ (v480 : Value).ownBlock) u5 x5_1) ∧ Aside0 (Kd.R (Kd.int .i64) 3 wc w.heap.size (fun k_ => some k_ ≠ (v480 : Value).ownBlock) u8 x8_2) ∧ Aside0 (Kd.R (Kd.int .i64) 3 wc w.heap.size (fun k_ => some k_ ≠ (u8 : Value).ownBlock) v480 t479) ∧ Aside0 (wc.heap[gb475]? = some (.cells #[.int .i64 ((rd_T31 l0 x6_1).f0), .int .i64 ((rd_T31 l0 x6_1).f1), .int .i64 ((rd_T31 l0 x6_1).f2), .int .i64 ((rd_T31 l0 x6_1).f3), .int .i64 ((rd_T31 l0 x6_1).f4), .int .i64 ((rd_T31 l0 x6_1).f5)] 31 (0, 0))) ∧ Aside0 (Below w.heap.size w wc))
        case first =>
         have H := HC15.out
         clear HC15
         by_cases c16 : ((rd_T31 l0 x6_1).f0) = 1
         ·rw [if_pos c16] at H
          have c16b0 : (((rd_T31 l0 x6_1).f0) == 1) = true := beq_iff_eq.mpr c16
          have c16b1 : (((rd_T31 l0 x6_1).f0) != 1) = false := bne_eq_false_iff_eq.mpr c16
          clear c16
          (skip)
          have H' := am H
          clear H
          obtain ⟨hcz17_0, hcz17_1, hcz17_2, hcz17_3, hcz17_4, hcz17_5⟩ := cz6 BK475.out
          obtain ⟨hfz17_0, hfz17_1, hfz17_2, hfz17_3, hfz17_4, hfz17_5⟩ := fz6 BK475.out
          go_wp2
          repeat (go_quiet (fail); try go_wp2)
          go_meet
          case rel => exact ⟨_, ((((rd_T31 l0 x6_1).f2) == x10_2)), (by rfl), H', ⟨by have := HK1.out; have := HK2.out; omega⟩, ⟨by (with_reducible repeat (first | apply Kd.S_alloc | apply Kd.S_drewN | apply Kd.S_drew)); exact HO_5.out⟩, ⟨by exact sR <| HO_8.out⟩, ⟨by exact sR <| HO_9.out⟩, ⟨by exact sB <| BK475.out⟩, ⟨by exact bW⟩⟩
         ·rw [if_neg c16] at H
          have c16b0 : (((rd_T31 l0 x6_1).f0) == 1) = false := beq_eq_false_iff_ne.mpr c16
          have c16b1 : (((rd_T31 l0 x6_1).f0) != 1) = true := bne_iff_ne.mpr c16
          (skip)
          have H' := am H
          clear H
          obtain ⟨hcz18_0, hcz18_1, hcz18_2, hcz18_3, hcz18_4, hcz18_5⟩ := cz6 BK475.out
          obtain ⟨hfz18_0, hfz18_1, hfz18_2, hfz18_3, hfz18_4, hfz18_5⟩ := fz6 BK475.out
          go_wp2
          repeat (go_quiet (fail); try go_wp2)
          go_meet
          case rel => exact ⟨_, (false), (by rfl), H', ⟨by have := HK1.out; have := HK2.out; omega⟩, ⟨by (with_reducible repeat (first | apply Kd.S_alloc | apply Kd.S_drewN | apply Kd.S_drew)); exact HO_5.out⟩, ⟨by exact sR <| HO_8.out⟩, ⟨by exact sR <| HO_9.out⟩, ⟨by exact sB <| BK475.out⟩, ⟨by exact bW⟩⟩
        case rest =>
         clear HC15
         clear c14b0
         obtain ⟨kq, x41_14, rfl, HA, HJ14, HO_5, HO_8, HO_9, BK475, HB⟩ := hcut
         cases kq with
         | zero => exact absurd HA.out (by simp [spec_l04Fits.j2])
         | succ kj14 =>
          have H := HA.out
          clear HA
          simp only [spec_l04Fits.j2] at H
          have HC19 := am H
          clear H
          go_upto_if 41 with (fail)
          repeat (go_quiet (fail); go_upto_if 41 with (fail))
          go_cut [11] (fun v11 wc => ∃ (kq : Nat) (x11_18 : Int), v11 = .int .i64 x11_18 ∧ Aside0 (spec_l04Fits.j3 kq l0 l1 x5_1 x6_1 x8_2 t479 x10_2 x11_18 ((rd_T31 l0 x6_1).f0) ((rd_T31 l0 x6_1).f1) ((rd_T31 l0 x6_1).f2) ((rd_T31 l0 x6_1).f3) ((rd_T31 l0 x6_1).f4) ((rd_T31 l0 x6_1).f5) = some r) ∧ Aside0 (kq ≤ kj14) ∧ Aside0 (Kd.S (Kd.slice 3 (Kd.int .i64)) 25 wc w.heap.size (fun k_ => some k_ ≠ (u8 : Value).ownBlock ∧ some k_ ≠ (v480 : Value).ownBlock) u5 x5_1) ∧ Aside0 (Kd.R (Kd.int .i64) 3 wc w.heap.size (fun k_ => some k_ ≠ (v480 : Value).ownBlock) u8 x8_2) ∧ Aside0 (Kd.R (Kd.int .i64) 3 wc w.heap.size (fun k_ => some k_ ≠ (u8 : Value).ownBlock) v480 t479) ∧ Aside0 (wc.heap[gb475]? = some (.cells #[.int .i64 ((rd_T31 l0 x6_1).f0), .int .i64 ((rd_T31 l0 x6_1).f1), .int .i64 ((rd_T31 l0 x6_1).f2), .int .i64 ((rd_T31 l0 x6_1).f3), .int .i64 ((rd_T31 l0 x6_1).f4), .int .i64 ((rd_T31 l0 x6_1).f5)] 31 (0, 0))) ∧ Aside0 (Below w.heap.size w wc))
          case first =>
           have H := HC19.out
           clear HC19
           by_cases c20 : x41_14 = true
           ·subst c20
            rw [if_pos rfl] at H
            replace H := oB H
            obtain ⟨t485, A210, H⟩ := H
            have A21 := am A210
            clear A210
            have H' := am H
            clear H
            obtain ⟨hcz22_0, hcz22_1, hcz22_2, hcz22_3, hcz22_4, hcz22_5⟩ := cz6 BK475.out
            obtain ⟨hfz22_0, hfz22_1, hfz22_2, hfz22_3, hfz22_4, hfz22_5⟩ := fz6 BK475.out
            go_wp2_with (first | (go_at_call 81; (with_reducible refine (spec_l01Pow2.calls kj14 ((rd_T31 l0 x6_1).f1) t485 _ A21.out).mono ?_); rintro e w' ⟨rfl, ⟨nd, rfl⟩⟩; (try first | exact dq1 | exact dq2)))
            go_meet
            case rel => exact ⟨_, (t485), (by rfl), H', ⟨by have := HK1.out; have := HK2.out; have := HJ14.out; omega⟩, ⟨by (with_reducible repeat (first | apply Kd.S_alloc | apply Kd.S_drewN | apply Kd.S_drew)); exact HO_5.out⟩, ⟨by exact sR <| HO_8.out⟩, ⟨by exact sR <| HO_9.out⟩, ⟨by exact sB <| BK475.out⟩, ⟨by exact bW⟩⟩
           ·replace c20 := Bool.eq_false_iff.mpr c20
            subst c20
            rw [if_neg (show ¬ (false = true) by decide)] at H
            have H' := am H
            clear H
            go_wp2
            repeat (go_quiet (fail); try go_wp2)
            go_meet
            case rel => exact ⟨_, (0), (by rfl), H', ⟨by have := HK1.out; have := HK2.out; have := HJ14.out; omega⟩, ⟨by (with_reducible repeat (first | apply Kd.S_alloc | apply Kd.S_drewN | apply Kd.S_drew)); exact HO_5.out⟩, ⟨by exact sR <| HO_8.out⟩, ⟨by exact sR <| HO_9.out⟩, ⟨by exact sB <| BK475.out⟩, ⟨by exact bW⟩⟩
          case rest =>
           clear HC19
           obtain ⟨kq, x11_18, rfl, HA, HJ18, HO_5, HO_8, HO_9, BK475, HB⟩ := hcut
           cases kq with
           | zero => exact absurd HA.out (by simp [spec_l04Fits.j3])
           | succ kj18 =>
            have H := HA.out
            clear HA
            simp only [spec_l04Fits.j3] at H
            have H' := am H
            clear H
            go_wp2
            repeat (go_quiet (fail); try go_wp2)
            go_loopg [11, 12] kj18 (fun kq v11 v12 w' => ∃ (x11_5 : Int) (x12_5 : Int), v11 = .int .i64 x11_5 ∧ v12 = .int .i64 x12_5 ∧ Aside0 (spec_l04Fits.l2 kq l0 l1 x5_1 x6_1 x8_2 t479 x10_2 x11_5 x12_5 ((rd_T31 l0 x6_1).f0) ((rd_T31 l0 x6_1).f1) ((rd_T31 l0 x6_1).f2) ((rd_T31 l0 x6_1).f3) ((rd_T31 l0 x6_1).f4) ((rd_T31 l0 x6_1).f5) = some r) ∧ Aside0 (kq ≤ kj18) ∧ Aside0 (Kd.S (Kd.slice 3 (Kd.int .i64)) 25 w' w.heap.size (fun k_ => some k_ ≠ (u8 : Value).ownBlock ∧ some k_ ≠ (v480 : Value).ownBlock) u5 x5_1) ∧ Aside0 (Kd.R (Kd.int .i64) 3 w' w.heap.size (fun k_ => some k_ ≠ (v480 : Value).ownBlock) u8 x8_2) ∧ Aside0 (Kd.R (Kd.int .i64) 3 w' w.heap.size (fun k_ => some k_ ≠ (u8 : Value).ownBlock) v480 t479) ∧ Aside0 (w'.heap[gb475]? = some (.cells #[.int .i64 ((rd_T31 l0 x6_1).f0), .int .i64 ((rd_T31 l0 x6_1).f1), .int .i64 ((rd_T31 l0 x6_1).f2), .int .i64 ((rd_T31 l0 x6_1).f3), .int .i64 ((rd_T31 l0 x6_1).f4), .int .i64 ((rd_T31 l0 x6_1).f5)] 31 (0, 0))) ∧ Aside0 (Below w.heap.size w w'))
            case atStart => exact ⟨(x11_18), (0), (by rfl), (by rfl), H', ⟨Nat.le_refl _⟩, ⟨by (with_reducible repeat (first | apply Kd.S_alloc | apply Kd.S_drewN | apply Kd.S_drew)); exact HO_5.out⟩, ⟨by exact sR <| HO_8.out⟩, ⟨by exact sR <| HO_9.out⟩, ⟨by exact sB <| BK475.out⟩, ⟨by exact bW⟩⟩
            case round =>
             clear H'
             obtain ⟨x11_5, x12_5, rfl, rfl, HA, HK5, HO_5, HO_8, HO_9, BK475, HB⟩ := hrel
             cases gk with
             | zero => exact absurd HA.out (by simp [spec_l04Fits.l2])
             | succ k5 =>
              have H := HA.out
              clear HA
              simp only [spec_l04Fits.l2] at H
              by_cases c23 : x12_5 < (t479.length : Int)
              ·rw [if_pos c23] at H
               have c23b0 : decide (x12_5 < (t479.length : Int)) = true := decide_eq_true c23
               clear c23
               by_cases c24 : 0 ≤ x12_5
               ·rw [if_pos c24] at H
                have c24b0 : decide (0 ≤ x12_5) = true := decide_eq_true c24
                clear c24
                by_cases c25 : 0 ≤ (rd t479 x12_5)
                ·rw [if_pos c25] at H
                 have c25b0 : decide (0 ≤ (rd t479 x12_5)) = true := decide_eq_true c25
                 clear c25
                 by_cases c26 : (rd t479 x12_5) < (x5_1.length : Int)
                 ·rw [if_pos c26] at H
                  have c26b0 : decide ((rd t479 x12_5) < (x5_1.length : Int)) = true := decide_eq_true c26
                  clear c26
                  by_cases c27 : 0 ≤ x10_2
                  ·rw [if_pos c27] at H
                   have c27b0 : decide (0 ≤ x10_2) = true := decide_eq_true c27
                   clear c27
                   by_cases c28 : x10_2 < ((rd_L8 x5_1 (rd t479 x12_5)).length : Int)
                   ·rw [if_pos c28] at H
                    have c28b0 : decide (x10_2 < ((rd_L8 x5_1 (rd t479 x12_5)).length : Int)) = true := decide_eq_true c28
                    clear c28
                    have H' := am H
                    clear H
                    obtain ⟨Ao29, co29, eo29⟩ := Kd.R_slice HO_9.out
                    subst eo29
                    have p486 : 0 ≤ (x12_5 : Int) := oD (by assumption)
                    have q486 : x12_5 < (t479.length : Int) := oD (by assumption)
                    obtain ⟨ad486, e486, hx486_0⟩ := Kd.at_int (Kd.R_reads' HO_9.out).2.2 x12_5 p486 q486
                    cases e486
                    replace p486 := eq_true p486
                    replace q486 := eq_true q486
                    obtain ⟨Ao30, co30, eo30⟩ := Kd.S_slice HO_5.out
                    subst eo30
                    have p487 : 0 ≤ ((rd t479 x12_5) : Int) := oD (by assumption)
                    have q487 : (rd t479 x12_5) < (x5_1.length : Int) := oD (by assumption)
                    obtain ⟨ad487, A487_0, c487_0, e487, hx487_0, hl487_0, hi487_0⟩ := at_L8 (Kd.S_reads' HO_5.out).2.2 (rd t479 x12_5) p487 q487
                    cases e487
                    obtain ⟨ce487, hce487, hMe487, hcc487⟩ := Kd.S_get HO_5.out [] (rd t479 x12_5) p487 (by exact q487)
                    obtain ⟨ve487_0, rfl, ge487_0⟩ := hMe487
                    have hv487_0 := hcc487 0 _ rfl
                    rw [Nat.add_zero, show ((Kd.slice 3 (Kd.int .i64))).sz = 1 from rfl, Nat.mul_one] at hv487_0
                    replace hv487_0 := oI (hv487_0.symm.trans hx487_0)
                    rw [hv487_0] at ge487_0
                    have HL487_0 := am (show Kd.R (Kd.int .i64) 3 _ _ _ _ (rd_L8 x5_1 (rd t479 x12_5)) from ge487_0)
                    clear hv487_0 ge487_0
                    clear hcc487 hce487
                    have HR487_0 := am hi487_0
                    have HC487_0 := am hl487_0
                    clear hi487_0 hl487_0
                    replace p487 := eq_true p487
                    replace q487 := eq_true q487
                    have p488 : 0 ≤ (x10_2 : Int) := oD (by assumption)
                    have q488 : x10_2 < ((rd_L8 x5_1 (rd t479 x12_5)).length : Int) := oD (by assumption)
                    obtain ⟨ad488, e488, hx488_0⟩ := Kd.at_int (by repeat (first | (with_reducible exact HR487_0.out) | (with_reducible refine Kd.C_alloc ?_ _) | (with_reducible refine Kd.C_drewN ?_ _) | (with_reducible refine Kd.C_drew ?_) | exact HR487_0.out)) x10_2 p488 q488
                    cases e488
                    replace p488 := eq_true p488
                    replace q488 := eq_true q488
                    go_wp2
                    repeat (go_quiet (fail); try go_wp2)
                    go_roundg k5
                    case measure => have := HK1.out; have := HK2.out; have := HJ14.out; have := HJ18.out; have := HK5.out; omega
                    case rel => exact ⟨(Go.bits .or .i64 x11_5 (rd (rd_L8 x5_1 (rd t479 x12_5)) x10_2)), (wrap64 (x12_5 + 1)), (by rfl), (by rfl), H', ⟨by have := HK1.out; have := HK2.out; have := HJ14.out; have := HJ18.out; have := HK5.out; omega⟩, ⟨by (with_reducible repeat (first | apply Kd.S_alloc | apply Kd.S_drewN | apply Kd.S_drew)); exact HO_5.out⟩, ⟨by exact sR <| HO_8.out⟩, ⟨by exact sR <| HO_9.out⟩, ⟨by exact sB <| BK475.out⟩, ⟨by exact bW⟩⟩
                   ·rw [if_neg c28] at H
                    exact absurd H (by simp)
                  ·rw [if_neg c27] at H
                   exact absurd H (by simp)
                 ·rw [if_neg c26] at H
                  exact absurd H (by simp)
                ·rw [if_neg c25] at H
                 exact absurd H (by simp)
               ·rw [if_neg c24] at H
                exact absurd H (by simp)
              ·rw [if_neg c23] at H
               have c23b0 : decide (x12_5 < (t479.length : Int)) = false := decide_eq_false c23
               clear c23
               have HC31 := am H
               clear H
               obtain ⟨Ao32, co32, eo32⟩ := Kd.R_slice HO_9.out
               subst eo32
               go_upto_region 18 with (fail)
               repeat (go_quiet (fail); go_upto_region 18 with (fail))
               go_cut [71] (fun v71 wc => ∃ (kq : Nat) (x71_30 : Bool), v71 = .bool x71_30 ∧ Aside0 (spec_l04Fits.j5 kq l0 l1 x5_1 x6_1 x8_2 t479 x10_2 x11_5 x71_30 ((rd_T31 l0 x6_1).f0) ((rd_T31 l0 x6_1).f1) ((rd_T31 l0 x6_1).f2) ((rd_T31 l0 x6_1).f3) ((rd_T31 l0 x6_1).f4) ((rd_T31 l0 x6_1).f5) = some r) ∧ Aside0 (kq ≤ k5) ∧ Aside0 (Kd.S (Kd.slice 3 (Kd.int .i64)) 25 wc w.heap.size (fun k_ => some k_ ≠ (u8 : Value).ownBlock ∧ some k_ ≠ ((.slice Ao32 t479.length co32) : Value).ownBlock) u5 x5_1) ∧ Aside0 (Kd.R (Kd.int .i64) 3 wc w.heap.size (fun k_ => some k_ ≠ ((.slice Ao32 t479.length co32) : Value).ownBlock) u8 x8_2) ∧ Aside0 (Kd.R (Kd.int .i64) 3 wc w.heap.size (fun k_ => some k_ ≠ (u8 : Value).ownBlock) (.slice Ao32 t479.length co32) t479) ∧ Aside0 (wc.heap[gb475]? = some (.cells #[.int .i64 ((rd_T31 l0 x6_1).f0), .int .i64 ((rd_T31 l0 x6_1).f1), .int .i64 ((rd_T31 l0 x6_1).f2), .int .i64 ((rd_T31 l0 x6_1).f3), .int .i64 ((rd_T31 l0 x6_1).f4), .int .i64 ((rd_T31 l0 x6_1).f5)] 31 (0, 0))) ∧ Aside0 (Below w.heap.size w wc))
               case first =>
                have H := HC31.out
                clear HC31
                replace H := oB H
                obtain ⟨t489, A330, H⟩ := H
                have A33 := am A330
                clear A330
                by_cases c34 : t489 = true
                ·subst c34
                 rw [if_pos rfl] at H
                 have H' := am H
                 clear H
                 obtain ⟨hcz35_0, hcz35_1, hcz35_2, hcz35_3, hcz35_4, hcz35_5⟩ := cz6 BK475.out
                 obtain ⟨hfz35_0, hfz35_1, hfz35_2, hfz35_3, hfz35_4, hfz35_5⟩ := fz6 BK475.out
                 go_wp2_with (first | (go_at_call 50; (with_reducible refine (spec_l02Quant.calls ((rd_T31 l0 x6_1).f0) true _ A33.out).mono ?_); rintro e w' ⟨rfl, ⟨nd, rfl⟩⟩; (try first | exact dq1 | exact dq2)))
                 go_meet
                 case rel => exact ⟨_, ((((rd_T31 l0 x6_1).f2) == x10_2)), (by rfl), H', ⟨by have := HK1.out; have := HK2.out; have := HJ14.out; have := HJ18.out; have := HK5.out; omega⟩, ⟨by (with_reducible repeat (first | apply Kd.S_alloc | apply Kd.S_drewN | apply Kd.S_drew)); exact HO_5.out⟩, ⟨by exact sR <| HO_8.out⟩, ⟨by exact sR <| HO_9.out⟩, ⟨by exact sB <| BK475.out⟩, ⟨by exact bW⟩⟩
                ·replace c34 := Bool.eq_false_iff.mpr c34
                 subst c34
                 rw [if_neg (show ¬ (false = true) by decide)] at H
                 have H' := am H
                 clear H
                 obtain ⟨hcz36_0, hcz36_1, hcz36_2, hcz36_3, hcz36_4, hcz36_5⟩ := cz6 BK475.out
                 obtain ⟨hfz36_0, hfz36_1, hfz36_2, hfz36_3, hfz36_4, hfz36_5⟩ := fz6 BK475.out
                 go_wp2_with (first | (go_at_call 50; (with_reducible refine (spec_l02Quant.calls ((rd_T31 l0 x6_1).f0) false _ A33.out).mono ?_); rintro e w' ⟨rfl, ⟨nd, rfl⟩⟩; (try first | exact dq1 | exact dq2)))
                 go_meet
                 case rel => exact ⟨_, (false), (by rfl), H', ⟨by have := HK1.out; have := HK2.out; have := HJ14.out; have := HJ18.out; have := HK5.out; omega⟩, ⟨by (with_reducible repeat (first | apply Kd.S_alloc | apply Kd.S_drewN | apply Kd.S_drew)); exact HO_5.out⟩, ⟨by exact sR <| HO_8.out⟩, ⟨by exact sR <| HO_9.out⟩, ⟨by exact sB <| BK475.out⟩, ⟨by exact bW⟩⟩
               case rest =>
                clear HC31
                clear c23b0
                obtain ⟨kq, x71_30, rfl, HA, HJ30, HO_5, HO_8, HO_9, BK475, HB⟩ := hcut
                cases kq with
                | zero => exact absurd HA.out (by simp [spec_l04Fits.j5])
                | succ kj30 =>
                 have H := HA.out
                 clear HA
                 simp only [spec_l04Fits.j5] at H
                 by_cases c37 : x71_30 = true
                 ·subst c37
                  rw [if_pos rfl] at H
                  by_cases c38 : x11_5 = 0
                  ·rw [if_pos c38] at H
                   have c38b0 : (x11_5 == 0) = true := beq_iff_eq.mpr c38
                   have c38b1 : (x11_5 != 0) = false := bne_eq_false_iff_eq.mpr c38
                   clear c38
                   by_cases c39 : x8_2.length < 17592186044416
                   ·rw [if_pos c39] at H
                    have LMc39 := am c39
                    clear c39
                    obtain ⟨y490, hy490⟩ : ∃ y_ : List Int, y_ = (x8_2 ++ [0]) := ⟨_, rfl⟩
                    replace H : (spec_l04Fits.l1 kj30 l0 l1 x5_1 x6_1 y490 t479 (wrap64 (x10_2 + 1)) ((rd_T31 l0 x6_1).f0) ((rd_T31 l0 x6_1).f1) ((rd_T31 l0 x6_1).f2) ((rd_T31 l0 x6_1).f3) ((rd_T31 l0 x6_1).f4) ((rd_T31 l0 x6_1).f5)) = some r := by (rw [hy490]; with_reducible exact H)
                    have Ny490 := am hy490
                    clear hy490
                    have H' := am H
                    clear H
                    go_wp2_with (first | ((with_reducible refine gate_builtin (b := .append) (xs := #[.tmp 81, .tmp 83]) rfl ?_); at_builtin; refine Kd.R_append (Kd.int .i64) (w0 := w) w.heap.size rfl (.tmp 81) (.tmp 83) 25 3 (.int .i64 0) 8 rfl Try.underlying25 info3 rfl (by decide) (by omega) u8 x8_2 0 [.int .i64 0] (fun k_ => some k_ ≠ (.slice Ao32 t479.length co32 : Value).ownBlock) (fun _ => False) rfl rfl ?aP (fun _ hk => hk.elim) ?aF ?aO ?aB ?aS ?aL ?_; (case aP => exact rfl); (case aB => exact (by exact bW)); (case aF => exact (fun k_ hk => Kd.fresh' (Kd.R_lt (by exact sR <| HO_9.out)) k_ hk)); (case aO => exact (by exact sR <| HO_8.out)); (case aS => exact (below_size (by exact bW))); (case aL => have := LMc39.out; omega); intro v491 w40 ho hb hg hat; rw [← Ny490.out] at ho; have n0_ := am (Kd.S_after (ok := (fun k_ => some k_ ≠ (.slice Ao32 t479.length co32 : Value).ownBlock)) (by (with_reducible repeat (first | apply Kd.S_alloc | apply Kd.S_drewN | apply Kd.S_drew)); exact Kd.S_mono HO_5.out (fun _ hk => ⟨hk.2, hk.1⟩)) hg hat); have n1_ := am (Kd.R_after (ok := (fun _ => True)) (by exact sR <| Kd.R_mono HO_9.out (fun _ hk => ⟨trivial, hk⟩)) hg hat); have n2_ := am (blk_grown (g := gb475) (o := .cells #[.int .i64 ((rd_T31 l0 x6_1).f0), .int .i64 ((rd_T31 l0 x6_1).f1), .int .i64 ((rd_T31 l0 x6_1).f2), .int .i64 ((rd_T31 l0 x6_1).f3), .int .i64 ((rd_T31 l0 x6_1).f4), .int .i64 ((rd_T31 l0 x6_1).f5)] 31 (0, 0)) (by exact sB <| BK475.out) hg (Kd.R_ne HO_8.out BK475.out (by decide))); have n3_ := am (hb); have n4_ := am (ho); clear HO_5; clear HO_9; clear BK475; clear HB; clear HO_8; have HO_5 := n0_; have HO_9 := n1_; have BK475 := n2_; have HB := n3_; have HO492 := n4_; clear n0_ n1_ n2_ n3_ n4_; clear ho hb hg hat))
                    go_roundg kj30
                    case measure => have := HK1.out; have := HK2.out; have := HJ14.out; have := HJ18.out; have := HK5.out; have := HJ30.out; omega
                    case rel => exact ⟨(y490), (wrap64 (x10_2 + 1)), (by rfl), H', ⟨by have := HK1.out; have := HK2.out; have := HJ14.out; have := HJ18.out; have := HK5.out; have := HJ30.out; omega⟩, ⟨by (with_reducible repeat (first | apply Kd.S_alloc | apply Kd.S_drewN | apply Kd.S_drew)); exact Kd.S_mono HO_5.out (fun _ hk => ⟨hk.2, hk.1⟩)⟩, ⟨by exact sR <| HO492.out⟩, ⟨by exact sR <| Kd.R_mono HO_9.out (fun _ hk => hk.2)⟩, ⟨by exact sB <| BK475.out⟩, ⟨by exact bW⟩⟩
                   ·rw [if_neg c39] at H
                    exact absurd H (by simp)
                  ·rw [if_neg c38] at H
                   have c38b0 : (x11_5 == 0) = false := beq_eq_false_iff_ne.mpr c38
                   have c38b1 : (x11_5 != 0) = true := bne_iff_ne.mpr c38
                   replace H := oB H
                   obtain ⟨t493, A410, H⟩ := H
                   have A41 := am A410
                   clear A410
                   by_cases c42 : x11_5 = t493
                   ·rw [if_pos c42] at H
                    have c42b0 : (x11_5 == t493) = true := beq_iff_eq.mpr c42
                    have c42b1 : (x11_5 != t493) = false := bne_eq_false_iff_eq.mpr c42
                    clear c42
                    by_cases c43 : x8_2.length < 17592186044416
                    ·rw [if_pos c43] at H
                     have LMc43 := am c43
                     clear c43
                     obtain ⟨y494, hy494⟩ : ∃ y_ : List Int, y_ = (x8_2 ++ [0]) := ⟨_, rfl⟩
                     replace H : (spec_l04Fits.l1 kj30 l0 l1 x5_1 x6_1 y494 t479 (wrap64 (x10_2 + 1)) ((rd_T31 l0 x6_1).f0) ((rd_T31 l0 x6_1).f1) ((rd_T31 l0 x6_1).f2) ((rd_T31 l0 x6_1).f3) ((rd_T31 l0 x6_1).f4) ((rd_T31 l0 x6_1).f5)) = some r := by (rw [hy494]; with_reducible exact H)
                     have Ny494 := am hy494
                     clear hy494
                     have H' := am H
                     clear H
                     obtain ⟨hcz44_0, hcz44_1, hcz44_2, hcz44_3, hcz44_4, hcz44_5⟩ := cz6 BK475.out
                     obtain ⟨hfz44_0, hfz44_1, hfz44_2, hfz44_3, hfz44_4, hfz44_5⟩ := fz6 BK475.out
                     go_wp2_with (first | (go_at_call 81; (with_reducible refine (spec_l01Pow2.calls kj30 ((rd_T31 l0 x6_1).f4) t493 _ A41.out).mono ?_); rintro e w' ⟨rfl, ⟨nd, rfl⟩⟩; (try first | exact dq1 | exact dq2)) | ((with_reducible refine gate_builtin (b := .append) (xs := #[.tmp 81, .tmp 83]) rfl ?_); at_builtin; refine Kd.R_append (Kd.int .i64) (w0 := w) w.heap.size rfl (.tmp 81) (.tmp 83) 25 3 (.int .i64 0) 8 rfl Try.underlying25 info3 rfl (by decide) (by omega) u8 x8_2 0 [.int .i64 0] (fun k_ => some k_ ≠ (.slice Ao32 t479.length co32 : Value).ownBlock) (fun _ => False) rfl rfl ?aP (fun _ hk => hk.elim) ?aF ?aO ?aB ?aS ?aL ?_; (case aP => exact rfl); (case aB => exact (by exact bW)); (case aF => exact (fun k_ hk => Kd.fresh' (Kd.R_lt (by exact sR <| HO_9.out)) k_ hk)); (case aO => exact (by exact sR <| HO_8.out)); (case aS => exact (below_size (by exact bW))); (case aL => have := LMc43.out; omega); intro v495 w45 ho hb hg hat; rw [← Ny494.out] at ho; have n0_ := am (Kd.S_after (ok := (fun k_ => some k_ ≠ (.slice Ao32 t479.length co32 : Value).ownBlock)) (by (with_reducible repeat (first | apply Kd.S_alloc | apply Kd.S_drewN | apply Kd.S_drew)); exact Kd.S_mono HO_5.out (fun _ hk => ⟨hk.2, hk.1⟩)) hg hat); have n1_ := am (Kd.R_after (ok := (fun _ => True)) (by exact sR <| Kd.R_mono HO_9.out (fun _ hk => ⟨trivial, hk⟩)) hg hat); have n2_ := am (blk_grown (g := gb475) (o := .cells #[.int .i64 ((rd_T31 l0 x6_1).f0), .int .i64 ((rd_T31 l0 x6_1).f1), .int .i64 ((rd_T31 l0 x6_1).f2), .int .i64 ((rd_T31 l0 x6_1).f3), .int .i64 ((rd_T31 l0 x6_1).f4), .int .i64 ((rd_T31 l0 x6_1).f5)] 31 (0, 0)) (by exact sB <| BK475.out) hg (Kd.R_ne HO_8.out BK475.out (by decide))); have n3_ := am (hb); have n4_ := am (ho); clear HO_5; clear HO_9; clear BK475; clear HB; clear HO_8; have HO_5 := n0_; have HO_9 := n1_; have BK475 := n2_; have HB := n3_; have HO496 := n4_; clear n0_ n1_ n2_ n3_ n4_; clear ho hb hg hat))
                     go_roundg kj30
                     case measure => have := HK1.out; have := HK2.out; have := HJ14.out; have := HJ18.out; have := HK5.out; have := HJ30.out; omega
                     case rel => exact ⟨(y494), (wrap64 (x10_2 + 1)), (by rfl), H', ⟨by have := HK1.out; have := HK2.out; have := HJ14.out; have := HJ18.out; have := HK5.out; have := HJ30.out; omega⟩, ⟨by (with_reducible repeat (first | apply Kd.S_alloc | apply Kd.S_drewN | apply Kd.S_drew)); exact Kd.S_mono HO_5.out (fun _ hk => ⟨hk.2, hk.1⟩)⟩, ⟨by exact sR <| HO496.out⟩, ⟨by exact sR <| Kd.R_mono HO_9.out (fun _ hk => hk.2)⟩, ⟨by exact sB <| BK475.out⟩, ⟨by exact bW⟩⟩
                    ·rw [if_neg c43] at H
                     exact absurd H (by simp)
                   ·rw [if_neg c42] at H
                    have c42b0 : (x11_5 == t493) = false := beq_eq_false_iff_ne.mpr c42
                    have c42b1 : (x11_5 != t493) = true := bne_iff_ne.mpr c42
                    obtain rfl := oI H
                    obtain ⟨hcz46_0, hcz46_1, hcz46_2, hcz46_3, hcz46_4, hcz46_5⟩ := cz6 BK475.out
                    obtain ⟨hfz46_0, hfz46_1, hfz46_2, hfz46_3, hfz46_4, hfz46_5⟩ := fz6 BK475.out
                    go_wp2_with (first | (go_at_call 81; (with_reducible refine (spec_l01Pow2.calls kj30 ((rd_T31 l0 x6_1).f4) t493 _ A41.out).mono ?_); rintro e w' ⟨rfl, ⟨nd, rfl⟩⟩; (try first | exact dq1 | exact dq2)))
                    go_ret
                    exact ⟨by rfl, by exact bW⟩
                 ·replace c37 := Bool.eq_false_iff.mpr c37
                  subst c37
                  rw [if_neg (show ¬ (false = true) by decide)] at H
                  by_cases c47 : x8_2.length < 17592186044416
                  ·rw [if_pos c47] at H
                   have LMc47 := am c47
                   clear c47
                   obtain ⟨y497, hy497⟩ : ∃ y_ : List Int, y_ = (x8_2 ++ [x11_5]) := ⟨_, rfl⟩
                   replace H : (spec_l04Fits.l1 kj30 l0 l1 x5_1 x6_1 y497 t479 (wrap64 (x10_2 + 1)) ((rd_T31 l0 x6_1).f0) ((rd_T31 l0 x6_1).f1) ((rd_T31 l0 x6_1).f2) ((rd_T31 l0 x6_1).f3) ((rd_T31 l0 x6_1).f4) ((rd_T31 l0 x6_1).f5)) = some r := by (rw [hy497]; with_reducible exact H)
                   have Ny497 := am hy497
                   clear hy497
                   have H' := am H
                   clear H
                   go_wp2_with (first | ((with_reducible refine gate_builtin (b := .append) (xs := #[.tmp 81, .tmp 83]) rfl ?_); at_builtin; refine Kd.R_append (Kd.int .i64) (w0 := w) w.heap.size rfl (.tmp 81) (.tmp 83) 25 3 (.int .i64 0) 8 rfl Try.underlying25 info3 rfl (by decide) (by omega) u8 x8_2 x11_5 [.int .i64 x11_5] (fun k_ => some k_ ≠ (.slice Ao32 t479.length co32 : Value).ownBlock) (fun _ => False) rfl rfl ?aP (fun _ hk => hk.elim) ?aF ?aO ?aB ?aS ?aL ?_; (case aP => exact rfl); (case aB => exact (by exact bW)); (case aF => exact (fun k_ hk => Kd.fresh' (Kd.R_lt (by exact sR <| HO_9.out)) k_ hk)); (case aO => exact (by exact sR <| HO_8.out)); (case aS => exact (below_size (by exact bW))); (case aL => have := LMc47.out; omega); intro v498 w48 ho hb hg hat; rw [← Ny497.out] at ho; have n0_ := am (Kd.S_after (ok := (fun k_ => some k_ ≠ (.slice Ao32 t479.length co32 : Value).ownBlock)) (by (with_reducible repeat (first | apply Kd.S_alloc | apply Kd.S_drewN | apply Kd.S_drew)); exact Kd.S_mono HO_5.out (fun _ hk => ⟨hk.2, hk.1⟩)) hg hat); have n1_ := am (Kd.R_after (ok := (fun _ => True)) (by exact sR <| Kd.R_mono HO_9.out (fun _ hk => ⟨trivial, hk⟩)) hg hat); have n2_ := am (blk_grown (g := gb475) (o := .cells #[.int .i64 ((rd_T31 l0 x6_1).f0), .int .i64 ((rd_T31 l0 x6_1).f1), .int .i64 ((rd_T31 l0 x6_1).f2), .int .i64 ((rd_T31 l0 x6_1).f3), .int .i64 ((rd_T31 l0 x6_1).f4), .int .i64 ((rd_T31 l0 x6_1).f5)] 31 (0, 0)) (by exact sB <| BK475.out) hg (Kd.R_ne HO_8.out BK475.out (by decide))); have n3_ := am (hb); have n4_ := am (ho); clear HO_5; clear HO_9; clear BK475; clear HB; clear HO_8; have HO_5 := n0_; have HO_9 := n1_; have BK475 := n2_; have HB := n3_; have HO499 := n4_; clear n0_ n1_ n2_ n3_ n4_; clear ho hb hg hat))
                   go_roundg kj30
                   case measure => have := HK1.out; have := HK2.out; have := HJ14.out; have := HJ18.out; have := HK5.out; have := HJ30.out; omega
                   case rel => exact ⟨(y497), (wrap64 (x10_2 + 1)), (by rfl), H', ⟨by have := HK1.out; have := HK2.out; have := HJ14.out; have := HJ18.out; have := HK5.out; have := HJ30.out; omega⟩, ⟨by (with_reducible repeat (first | apply Kd.S_alloc | apply Kd.S_drewN | apply Kd.S_drew)); exact Kd.S_mono HO_5.out (fun _ hk => ⟨hk.2, hk.1⟩)⟩, ⟨by exact sR <| HO499.out⟩, ⟨by exact sR <| Kd.R_mono HO_9.out (fun _ hk => hk.2)⟩, ⟨by exact sB <| BK475.out⟩, ⟨by exact bW⟩⟩
                  ·rw [if_neg c47] at H
                   exact absurd H (by simp)
       ·rw [if_neg c14] at H
        have c14b0 : decide (x10_2 < 8) = false := decide_eq_false c14
        clear c14
        by_cases c49 : x5_1.length < 5864062014805
        ·rw [if_pos c49] at H
         have LMc49 := am c49
         clear c49
         obtain ⟨y482, hy482⟩ : ∃ y_ : List (List Int), y_ = (x5_1 ++ [x8_2]) := ⟨_, rfl⟩
         replace H : (spec_l04Fits.l0 k2 l0 l1 y482 (wrap64 (x6_1 + 1))) = some r := by (rw [hy482]; with_reducible exact H)
         have Ny482 := am hy482
         clear hy482
         have H' := am H
         clear H
         obtain ⟨Ao51, co51, eo51⟩ := Kd.R_slice HO_8.out
         subst eo51
         go_wp2_with (first | ((with_reducible refine gate_builtin (b := .append) (xs := #[.tmp 85, .tmp 87]) rfl ?_); at_builtin; refine Kd.S_append (Kd.slice 3 (Kd.int .i64)) (w0 := w) w.heap.size rfl (.tmp 85) (.tmp 87) 103 25 (.slice none 0 0) 24 rfl Try.underlying103 info25 rfl (by decide) (by omega) u5 x5_1 x8_2 [.slice Ao51 x8_2.length co51] (fun k_ => some k_ ≠ (v480 : Value).ownBlock) (fun k_ => some k_ = (.slice Ao51 x8_2.length co51 : Value).ownBlock) rfl rfl ?aP (fun k_ hk_ => ((Kd.R_mono (ok' := fun k_ => ((fun k_ => some k_ ≠ (v480 : Value).ownBlock)) k_ ∧ some k_ ≠ (u5 : Value).ownBlock) (Kd.R_apart' (HO_8.out) (Kd.S_typed HO_5.out) (by decide)) (fun k_ hk => ⟨hk.1, hk.2⟩))).1 k_ hk_.symm) ?aF ?aO ?aB ?aS ?aL ?_; (case aP => exact Kd.M_row (Kd.R_mono (Kd.R_tight rfl (Kd.R_mono (ok' := fun k_ => ((fun k_ => some k_ ≠ (v480 : Value).ownBlock)) k_ ∧ some k_ ≠ (u5 : Value).ownBlock) (Kd.R_apart' (HO_8.out) (Kd.S_typed HO_5.out) (by decide)) (fun k_ hk => ⟨hk.1, hk.2⟩))) (fun _ h_ => h_))); (case aB => exact (by exact bW)); (case aF => exact (fun k_ hk => Kd.fresh' (Kd.R_lt (by exact sR <| HO_9.out)) k_ hk)); (case aO => exact (by (with_reducible repeat (first | apply Kd.S_alloc | apply Kd.S_drewN | apply Kd.S_drew)); exact Kd.S_mono HO_5.out (fun k_ hk => ⟨hk.2, fun e_ => hk.1 e_⟩))); (case aS => exact (below_size (by exact bW))); (case aL => have := LMc49.out; omega); intro v483 w50 ho hb hg hat; rw [← Ny482.out] at ho; have n0_ := am (Kd.R_over' (by exact sR <| HO_9.out) (Kd.S_typed (by (with_reducible repeat (first | apply Kd.S_alloc | apply Kd.S_drewN | apply Kd.S_drew)); exact HO_5.out)) (by decide) hg); have n1_ := am (blk_grown (g := gb475) (o := .cells #[.int .i64 ((rd_T31 l0 x6_1).f0), .int .i64 ((rd_T31 l0 x6_1).f1), .int .i64 ((rd_T31 l0 x6_1).f2), .int .i64 ((rd_T31 l0 x6_1).f3), .int .i64 ((rd_T31 l0 x6_1).f4), .int .i64 ((rd_T31 l0 x6_1).f5)] 31 (0, 0)) (by exact sB <| BK475.out) hg (Kd.S_ne HO_5.out BK475.out (by decide))); have n2_ := am (hb); have n3_ := am (ho); clear HO_9; clear BK475; clear HB; clear HO_5; clear HO_8; have HO_9 := n0_; have BK475 := n1_; have HB := n2_; have HO484 := n3_; clear n0_ n1_ n2_ n3_; clear ho hb hg hat))
         go_roundg k2
         case measure => have := HK1.out; have := HK2.out; omega
         case rel => exact ⟨(y482), (wrap64 (x6_1 + 1)), (by rfl), H', ⟨by have := HK1.out; have := HK2.out; omega⟩, ⟨by (with_reducible repeat (first | apply Kd.S_alloc | apply Kd.S_drewN | apply Kd.S_drew)); exact Kd.S_mono HO484.out (fun _ hk => trivial)⟩, ⟨by exact bW⟩⟩
        ·rw [if_neg c49] at H
         exact absurd H (by simp)
    ·rw [if_neg c6] at H
     exact absurd H (by simp)
   ·rw [if_neg c5] at H
    have c5b0 : decide (x6_1 < (l0.length : Int)) = false := decide_eq_false c5
    clear c5
    have H' := am H
    clear H
    go_wp2
    repeat (go_quiet (fail); try go_wp2)
    go_loopg [13] k1 (fun kq v13 w' => ∃ (x13_2 : Int), v13 = .int .i64 x13_2 ∧ Aside0 (spec_l04Fits.l3 kq l0 l1 x5_1 x13_2 = some r) ∧ Aside0 (kq ≤ k1) ∧ Aside0 (Kd.S (Kd.slice 3 (Kd.int .i64)) 25 w' w.heap.size (fun _ => True) u5 x5_1) ∧ Aside0 (Below w.heap.size w w'))
    case atStart => exact ⟨(0), (by rfl), H', ⟨Nat.le_refl _⟩, ⟨by (with_reducible repeat (first | apply Kd.S_alloc | apply Kd.S_drewN | apply Kd.S_drew)); exact HO_5.out⟩, ⟨by exact sW HB.out⟩⟩
    case round =>
     clear H'
     clear c5b0
     obtain ⟨x13_2, rfl, HA, HK2, HO_5, HB⟩ := hrel
     cases gk with
     | zero => exact absurd HA.out (by simp [spec_l04Fits.l3])
     | succ k2 =>
      have H := HA.out
      clear HA
      simp only [spec_l04Fits.l3] at H
      by_cases c52 : x13_2 < 8
      ·rw [if_pos c52] at H
       have c52b0 : decide (x13_2 < 8) = true := decide_eq_true c52
       clear c52
       have H' := am H
       clear H
       go_wp2
       repeat (go_quiet (fail); try go_wp2)
       go_loopg [14] k2 (fun kq v14 w' => ∃ (x14_3 : Int), v14 = .int .i64 x14_3 ∧ Aside0 (spec_l04Fits.l4 kq l0 l1 x5_1 x13_2 x14_3 = some r) ∧ Aside0 (kq ≤ k2) ∧ Aside0 (Kd.S (Kd.slice 3 (Kd.int .i64)) 25 w' w.heap.size (fun _ => True) u5 x5_1) ∧ Aside0 (Below w.heap.size w w'))
       case atStart => exact ⟨(1), (by rfl), H', ⟨Nat.le_refl _⟩, ⟨by (with_reducible repeat (first | apply Kd.S_alloc | apply Kd.S_drewN | apply Kd.S_drew)); exact HO_5.out⟩, ⟨by exact sW HB.out⟩⟩
       case round =>
        clear H'
        clear c52b0
        obtain ⟨x14_3, rfl, HA, HK3, HO_5, HB⟩ := hrel
        cases gk with
        | zero => exact absurd HA.out (by simp [spec_l04Fits.l4])
        | succ k3 =>
         have H := HA.out
         clear HA
         simp only [spec_l04Fits.l4] at H
         by_cases c53 : x14_3 ≤ 8
         ·rw [if_pos c53] at H
          have c53b0 : decide (x14_3 ≤ 8) = true := decide_eq_true c53
          clear c53
          obtain ⟨ji54, hji54⟩ : ∃ j_ : Int, (wrap64 ((l0.length : Int) - 1)) = j_ := ⟨_, rfl⟩
          replace H : (if 0 ≤ (ji54) then (if (ji54) < (x5_1.length : Int) then (if 0 ≤ x13_2 then (if x13_2 < ((rd_L8 x5_1 (ji54)).length : Int) then ((spec_l01Pow2.f k3 x14_3).bind fun t502 => (if t502 = 0 then (none) else (if (Int.tmod (wrap64 (Int.tdiv (rd (rd_L8 x5_1 (ji54)) x13_2) t502)) 2) = 1 then (if x13_2 < (l1.length : Int) then ((spec_WordOk.f k3 x14_3 (rd l1 x13_2)).bind fun t504 => (if t504 = true then (spec_l04Fits.l4 k3 l0 l1 x5_1 x13_2 (wrap64 (x14_3 + 1))) else (some false))) else (none)) else (spec_l04Fits.l4 k3 l0 l1 x5_1 x13_2 (wrap64 (x14_3 + 1)))))) else (none)) else (none)) else (none)) else (none)) = some r := by (rw [hji54] at H; exact H)
          have hji54w : (IntKind.i64.wrap ((l0.length : Int) - 1)) = ji54 := (i64_w _).trans hji54
          by_cases c55 : 0 ≤ (ji54)
          ·rw [if_pos c55] at H
           have c55b0 : decide (0 ≤ (ji54)) = true := decide_eq_true c55
           clear c55
           by_cases c56 : (ji54) < (x5_1.length : Int)
           ·rw [if_pos c56] at H
            have c56b0 : decide ((ji54) < (x5_1.length : Int)) = true := decide_eq_true c56
            clear c56
            by_cases c57 : 0 ≤ x13_2
            ·rw [if_pos c57] at H
             have c57b0 : decide (0 ≤ x13_2) = true := decide_eq_true c57
             clear c57
             by_cases c58 : x13_2 < ((rd_L8 x5_1 (ji54)).length : Int)
             ·rw [if_pos c58] at H
              have c58b0 : decide (x13_2 < ((rd_L8 x5_1 (ji54)).length : Int)) = true := decide_eq_true c58
              clear c58
              replace H := oB H
              obtain ⟨t502, A590, H⟩ := H
              have A59 := am A590
              clear A590
              by_cases c60 : t502 = 0
              ·rw [if_pos c60] at H
               exact absurd H (by simp)
              ·rw [if_neg c60] at H
               have c60b0 : (t502 == 0) = false := beq_eq_false_iff_ne.mpr c60
               have c60b1 : (t502 != 0) = true := bne_iff_ne.mpr c60
               by_cases c61 : (Int.tmod (wrap64 (Int.tdiv (rd (rd_L8 x5_1 (ji54)) x13_2) t502)) 2) = 1
               ·rw [if_pos c61] at H
                have c61b0 : ((Int.tmod (wrap64 (Int.tdiv (rd (rd_L8 x5_1 (ji54)) x13_2) t502)) 2) == 1) = true := beq_iff_eq.mpr c61
                have c61wb0 := c61b0
                simp only [← i64_w] at c61wb0
                have c61b1 : ((Int.tmod (wrap64 (Int.tdiv (rd (rd_L8 x5_1 (ji54)) x13_2) t502)) 2) != 1) = false := bne_eq_false_iff_eq.mpr c61
                have c61wb1 := c61b1
                simp only [← i64_w] at c61wb1
                clear c61
                by_cases c62 : x13_2 < (l1.length : Int)
                ·rw [if_pos c62] at H
                 have c62b0 : decide (x13_2 < (l1.length : Int)) = true := decide_eq_true c62
                 clear c62
                 replace H := oB H
                 obtain ⟨t504, A630, H⟩ := H
                 have A63 := am A630
                 clear A630
                 by_cases c64 : t504 = true
                 ·subst c64
                  rw [if_pos rfl] at H
                  have H' := am H
                  clear H
                  obtain ⟨Ao65, co65, eo65⟩ := Kd.S_slice HO_5.out
                  subst eo65
                  have p500 : 0 ≤ ((ji54) : Int) := oD (by assumption)
                  have q500 : (ji54) < (x5_1.length : Int) := oD (by assumption)
                  obtain ⟨ad500, A500_0, c500_0, e500, hx500_0, hl500_0, hi500_0⟩ := at_L8 (Kd.S_reads' HO_5.out).2.2 (ji54) p500 q500
                  cases e500
                  obtain ⟨ce500, hce500, hMe500, hcc500⟩ := Kd.S_get HO_5.out [] (ji54) p500 (by exact q500)
                  obtain ⟨ve500_0, rfl, ge500_0⟩ := hMe500
                  have hv500_0 := hcc500 0 _ rfl
                  rw [Nat.add_zero, show ((Kd.slice 3 (Kd.int .i64))).sz = 1 from rfl, Nat.mul_one] at hv500_0
                  replace hv500_0 := oI (hv500_0.symm.trans hx500_0)
                  rw [hv500_0] at ge500_0
                  have HL500_0 := am (show Kd.R (Kd.int .i64) 3 _ _ _ _ (rd_L8 x5_1 (ji54)) from ge500_0)
                  clear hv500_0 ge500_0
                  clear hcc500 hce500
                  have HR500_0 := am hi500_0
                  have HC500_0 := am hl500_0
                  clear hi500_0 hl500_0
                  replace p500 := eq_true p500
                  replace q500 := eq_true q500
                  have p501 : 0 ≤ (x13_2 : Int) := oD (by assumption)
                  have q501 : x13_2 < ((rd_L8 x5_1 (ji54)).length : Int) := oD (by assumption)
                  obtain ⟨ad501, e501, hx501_0⟩ := Kd.at_int (by repeat (first | (with_reducible exact HR500_0.out) | (with_reducible refine Kd.C_alloc ?_ _) | (with_reducible refine Kd.C_drewN ?_ _) | (with_reducible refine Kd.C_drew ?_) | exact HR500_0.out)) x13_2 p501 q501
                  cases e501
                  replace p501 := eq_true p501
                  replace q501 := eq_true q501
                  go_wp2_with (first | (go_at_call 81; (with_reducible refine (spec_l01Pow2.calls k3 x14_3 t502 _ A59.out).mono ?_); rintro e w' ⟨rfl, ⟨nd, rfl⟩⟩; (try first | exact dq1 | exact dq2); have p503 : 0 ≤ (x13_2 : Int) := oD (by assumption); have q503 : x13_2 < (l1.length : Int) := oD (by assumption); obtain ⟨ad503, e503, hx503_0⟩ := Kd.at_int HR1.out x13_2 p503 q503; cases e503; replace hx503_0 := pw_cell_below HB.out hx503_0; replace p503 := eq_true p503; replace q503 := eq_true q503) | (go_at_call 71; (with_reducible refine (spec_WordOk.calls k3 x14_3 (rd l1 x13_2) true _ A63.out).mono ?_); rintro e w' ⟨rfl, ⟨nd, rfl⟩⟩; (try first | exact dq1 | exact dq2)))
                  repeat (go_quiet (first | (go_at_call 81; (with_reducible refine (spec_l01Pow2.calls k3 x14_3 t502 _ A59.out).mono ?_); rintro e w' ⟨rfl, ⟨nd, rfl⟩⟩; (try first | exact dq1 | exact dq2); have p503 : 0 ≤ (x13_2 : Int) := oD (by assumption); have q503 : x13_2 < (l1.length : Int) := oD (by assumption); obtain ⟨ad503, e503, hx503_0⟩ := Kd.at_int HR1.out x13_2 p503 q503; cases e503; replace hx503_0 := pw_cell_below HB.out hx503_0; replace p503 := eq_true p503; replace q503 := eq_true q503) | (go_at_call 71; (with_reducible refine (spec_WordOk.calls k3 x14_3 (rd l1 x13_2) true _ A63.out).mono ?_); rintro e w' ⟨rfl, ⟨nd, rfl⟩⟩; (try first | exact dq1 | exact dq2))); try go_wp2_with (first | (go_at_call 81; (with_reducible refine (spec_l01Pow2.calls k3 x14_3 t502 _ A59.out).mono ?_); rintro e w' ⟨rfl, ⟨nd, rfl⟩⟩; (try first | exact dq1 | exact dq2); have p503 : 0 ≤ (x13_2 : Int) := oD (by assumption); have q503 : x13_2 < (l1.length : Int) := oD (by assumption); obtain ⟨ad503, e503, hx503_0⟩ := Kd.at_int HR1.out x13_2 p503 q503; cases e503; replace hx503_0 := pw_cell_below HB.out hx503_0; replace p503 := eq_true p503; replace q503 := eq_true q503) | (go_at_call 71; (with_reducible refine (spec_WordOk.calls k3 x14_3 (rd l1 x13_2) true _ A63.out).mono ?_); rintro e w' ⟨rfl, ⟨nd, rfl⟩⟩; (try first | exact dq1 | exact dq2))))
                  go_roundg k3
                  case measure => have := HK1.out; have := HK2.out; have := HK3.out; omega
                  case rel => exact ⟨(wrap64 (x14_3 + 1)), (by rfl), H', ⟨by have := HK1.out; have := HK2.out; have := HK3.out; omega⟩, ⟨by (with_reducible repeat (first | apply Kd.S_alloc | apply Kd.S_drewN | apply Kd.S_drew)); exact HO_5.out⟩, ⟨by exact sW HB.out⟩⟩
                 ·replace c64 := Bool.eq_false_iff.mpr c64
                  subst c64
                  rw [if_neg (show ¬ (false = true) by decide)] at H
                  obtain rfl := oI H
                  obtain ⟨Ao66, co66, eo66⟩ := Kd.S_slice HO_5.out
                  subst eo66
                  have p500 : 0 ≤ ((ji54) : Int) := oD (by assumption)
                  have q500 : (ji54) < (x5_1.length : Int) := oD (by assumption)
                  obtain ⟨ad500, A500_0, c500_0, e500, hx500_0, hl500_0, hi500_0⟩ := at_L8 (Kd.S_reads' HO_5.out).2.2 (ji54) p500 q500
                  cases e500
                  obtain ⟨ce500, hce500, hMe500, hcc500⟩ := Kd.S_get HO_5.out [] (ji54) p500 (by exact q500)
                  obtain ⟨ve500_0, rfl, ge500_0⟩ := hMe500
                  have hv500_0 := hcc500 0 _ rfl
                  rw [Nat.add_zero, show ((Kd.slice 3 (Kd.int .i64))).sz = 1 from rfl, Nat.mul_one] at hv500_0
                  replace hv500_0 := oI (hv500_0.symm.trans hx500_0)
                  rw [hv500_0] at ge500_0
                  have HL500_0 := am (show Kd.R (Kd.int .i64) 3 _ _ _ _ (rd_L8 x5_1 (ji54)) from ge500_0)
                  clear hv500_0 ge500_0
                  clear hcc500 hce500
                  have HR500_0 := am hi500_0
                  have HC500_0 := am hl500_0
                  clear hi500_0 hl500_0
                  replace p500 := eq_true p500
                  replace q500 := eq_true q500
                  have p501 : 0 ≤ (x13_2 : Int) := oD (by assumption)
                  have q501 : x13_2 < ((rd_L8 x5_1 (ji54)).length : Int) := oD (by assumption)
                  obtain ⟨ad501, e501, hx501_0⟩ := Kd.at_int (by repeat (first | (with_reducible exact HR500_0.out) | (with_reducible refine Kd.C_alloc ?_ _) | (with_reducible refine Kd.C_drewN ?_ _) | (with_reducible refine Kd.C_drew ?_) | exact HR500_0.out)) x13_2 p501 q501
                  cases e501
                  replace p501 := eq_true p501
                  replace q501 := eq_true q501
                  go_wp2_with (first | (go_at_call 81; (with_reducible refine (spec_l01Pow2.calls k3 x14_3 t502 _ A59.out).mono ?_); rintro e w' ⟨rfl, ⟨nd, rfl⟩⟩; (try first | exact dq1 | exact dq2); have p503 : 0 ≤ (x13_2 : Int) := oD (by assumption); have q503 : x13_2 < (l1.length : Int) := oD (by assumption); obtain ⟨ad503, e503, hx503_0⟩ := Kd.at_int HR1.out x13_2 p503 q503; cases e503; replace hx503_0 := pw_cell_below HB.out hx503_0; replace p503 := eq_true p503; replace q503 := eq_true q503) | (go_at_call 71; (with_reducible refine (spec_WordOk.calls k3 x14_3 (rd l1 x13_2) false _ A63.out).mono ?_); rintro e w' ⟨rfl, ⟨nd, rfl⟩⟩; (try first | exact dq1 | exact dq2)))
                  repeat (go_quiet (first | (go_at_call 81; (with_reducible refine (spec_l01Pow2.calls k3 x14_3 t502 _ A59.out).mono ?_); rintro e w' ⟨rfl, ⟨nd, rfl⟩⟩; (try first | exact dq1 | exact dq2); have p503 : 0 ≤ (x13_2 : Int) := oD (by assumption); have q503 : x13_2 < (l1.length : Int) := oD (by assumption); obtain ⟨ad503, e503, hx503_0⟩ := Kd.at_int HR1.out x13_2 p503 q503; cases e503; replace hx503_0 := pw_cell_below HB.out hx503_0; replace p503 := eq_true p503; replace q503 := eq_true q503) | (go_at_call 71; (with_reducible refine (spec_WordOk.calls k3 x14_3 (rd l1 x13_2) false _ A63.out).mono ?_); rintro e w' ⟨rfl, ⟨nd, rfl⟩⟩; (try first | exact dq1 | exact dq2))); try go_wp2_with (first | (go_at_call 81; (with_reducible refine (spec_l01Pow2.calls k3 x14_3 t502 _ A59.out).mono ?_); rintro e w' ⟨rfl, ⟨nd, rfl⟩⟩; (try first | exact dq1 | exact dq2); have p503 : 0 ≤ (x13_2 : Int) := oD (by assumption); have q503 : x13_2 < (l1.length : Int) := oD (by assumption); obtain ⟨ad503, e503, hx503_0⟩ := Kd.at_int HR1.out x13_2 p503 q503; cases e503; replace hx503_0 := pw_cell_below HB.out hx503_0; replace p503 := eq_true p503; replace q503 := eq_true q503) | (go_at_call 71; (with_reducible refine (spec_WordOk.calls k3 x14_3 (rd l1 x13_2) false _ A63.out).mono ?_); rintro e w' ⟨rfl, ⟨nd, rfl⟩⟩; (try first | exact dq1 | exact dq2))))
                  go_ret
                  exact ⟨by rfl, by exact sW HB.out⟩
                ·rw [if_neg c62] at H
                 exact absurd H (by simp)
               ·rw [if_neg c61] at H
                have c61b0 : ((Int.tmod (wrap64 (Int.tdiv (rd (rd_L8 x5_1 (ji54)) x13_2) t502)) 2) == 1) = false := beq_eq_false_iff_ne.mpr c61
                have c61wb0 := c61b0
                simp only [← i64_w] at c61wb0
                have c61b1 : ((Int.tmod (wrap64 (Int.tdiv (rd (rd_L8 x5_1 (ji54)) x13_2) t502)) 2) != 1) = true := bne_iff_ne.mpr c61
                have c61wb1 := c61b1
                simp only [← i64_w] at c61wb1
                have H' := am H
                clear H
                obtain ⟨Ao67, co67, eo67⟩ := Kd.S_slice HO_5.out
                subst eo67
                have p500 : 0 ≤ ((ji54) : Int) := oD (by assumption)
                have q500 : (ji54) < (x5_1.length : Int) := oD (by assumption)
                obtain ⟨ad500, A500_0, c500_0, e500, hx500_0, hl500_0, hi500_0⟩ := at_L8 (Kd.S_reads' HO_5.out).2.2 (ji54) p500 q500
                cases e500
                obtain ⟨ce500, hce500, hMe500, hcc500⟩ := Kd.S_get HO_5.out [] (ji54) p500 (by exact q500)
                obtain ⟨ve500_0, rfl, ge500_0⟩ := hMe500
                have hv500_0 := hcc500 0 _ rfl
                rw [Nat.add_zero, show ((Kd.slice 3 (Kd.int .i64))).sz = 1 from rfl, Nat.mul_one] at hv500_0
                replace hv500_0 := oI (hv500_0.symm.trans hx500_0)
                rw [hv500_0] at ge500_0
                have HL500_0 := am (show Kd.R (Kd.int .i64) 3 _ _ _ _ (rd_L8 x5_1 (ji54)) from ge500_0)
                clear hv500_0 ge500_0
                clear hcc500 hce500
                have HR500_0 := am hi500_0
                have HC500_0 := am hl500_0
                clear hi500_0 hl500_0
                replace p500 := eq_true p500
                replace q500 := eq_true q500
                have p501 : 0 ≤ (x13_2 : Int) := oD (by assumption)
                have q501 : x13_2 < ((rd_L8 x5_1 (ji54)).length : Int) := oD (by assumption)
                obtain ⟨ad501, e501, hx501_0⟩ := Kd.at_int (by repeat (first | (with_reducible exact HR500_0.out) | (with_reducible refine Kd.C_alloc ?_ _) | (with_reducible refine Kd.C_drewN ?_ _) | (with_reducible refine Kd.C_drew ?_) | exact HR500_0.out)) x13_2 p501 q501
                cases e501
                replace p501 := eq_true p501
                replace q501 := eq_true q501
                go_wp2_with (first | (go_at_call 81; (with_reducible refine (spec_l01Pow2.calls k3 x14_3 t502 _ A59.out).mono ?_); rintro e w' ⟨rfl, ⟨nd, rfl⟩⟩; (try first | exact dq1 | exact dq2)))
                repeat (go_quiet (first | (go_at_call 81; (with_reducible refine (spec_l01Pow2.calls k3 x14_3 t502 _ A59.out).mono ?_); rintro e w' ⟨rfl, ⟨nd, rfl⟩⟩; (try first | exact dq1 | exact dq2))); try go_wp2_with (first | (go_at_call 81; (with_reducible refine (spec_l01Pow2.calls k3 x14_3 t502 _ A59.out).mono ?_); rintro e w' ⟨rfl, ⟨nd, rfl⟩⟩; (try first | exact dq1 | exact dq2))))
                go_roundg k3
                case measure => have := HK1.out; have := HK2.out; have := HK3.out; omega
                case rel => exact ⟨(wrap64 (x14_3 + 1)), (by rfl), H', ⟨by have := HK1.out; have := HK2.out; have := HK3.out; omega⟩, ⟨by (with_reducible repeat (first | apply Kd.S_alloc | apply Kd.S_drewN | apply Kd.S_drew)); exact HO_5.out⟩, ⟨by exact sW HB.out⟩⟩
             ·rw [if_neg c58] at H
              exact absurd H (by simp)
            ·rw [if_neg c57] at H
             exact absurd H (by simp)
           ·rw [if_neg c56] at H
            exact absurd H (by simp)
          ·rw [if_neg c55] at H
           exact absurd H (by simp)
         ·rw [if_neg c53] at H
          have c53b0 : decide (x14_3 ≤ 8) = false := decide_eq_false c53
          clear c53
          have H' := am H
          clear H
          go_wp2
          repeat (go_quiet (fail); try go_wp2)
          go_roundg k3
          case measure => have := HK1.out; have := HK2.out; have := HK3.out; omega
          case rel => exact ⟨(wrap64 (x13_2 + 1)), (by rfl), H', ⟨by have := HK1.out; have := HK2.out; have := HK3.out; omega⟩, ⟨by (with_reducible repeat (first | apply Kd.S_alloc | apply Kd.S_drewN | apply Kd.S_drew)); exact HO_5.out⟩, ⟨by exact sW HB.out⟩⟩
      ·rw [if_neg c52] at H
       have c52b0 : decide (x13_2 < 8) = false := decide_eq_false c52
       clear c52
       obtain rfl := oI H
       go_wp2
       repeat (go_quiet (fail); try go_wp2)
       go_ret
       exact ⟨by rfl, by exact sW HB.out⟩
/-! ### spec_Flip: function 142 -/
def spec_Flip.f (k : Nat) (a0 : Int) (a1 : Int) : Option (Int) := (spec_WordOk.f k a0 a1).bind fun t505 => (if t505 = true then ((spec_l01Pow2.f k a0).bind fun t506 => (some (wrap64 ((wrap64 (t506 - 1)) - a1)))) else (some 0))
set_option maxHeartbeats 8000000 in
set_option maxRecDepth 100000 in
theorem spec_Flip.calls (k : Nat) (a0 : Int) (a1 : Int) (r : Int) (w : World) (h : spec_Flip.f k a0 a1 = some r) :
  Calls Try.prog 142 #[.int .i64 a0, .int .i64 a1] w fun e w' => e = .returned (.int .i64 r) ∧ Drawn0 w w' := by
 have H : ((spec_WordOk.f k a0 a1).bind fun t505 => (if t505 = true then ((spec_l01Pow2.f k a0).bind fun t506 => (some (wrap64 ((wrap64 (t506 - 1)) - a1)))) else (some 0))) = some r := h
 clear h
 replace H := oB H
 obtain ⟨t505, A30, H⟩ := H
 have A3 := am A30
 clear A30
 by_cases c4 : t505 = true
 ·subst c4
  rw [if_pos rfl] at H
  replace H := oB H
  obtain ⟨t506, A50, H⟩ := H
  have A5 := am A50
  clear A50
  obtain rfl := oI H
  go_enter Try.func142, Try.ntmps142
  go_wp2_with (first | ((with_reducible refine gate_callee (f := 71) rfl ?_); refine goesL_ (some 7) rfl rfl Try.func71 (by kernel_rfl) rfl #[.int .i64 a0, .int .i64 a1] rfl tm ?_; (with_reducible refine (spec_WordOk.calls k a0 a1 true _ A3.out).mono ?_); rintro e w' ⟨rfl, ⟨nd, rfl⟩⟩; refine ⟨_, rfl, ?_⟩) | ((with_reducible refine gate_callee (f := 81) rfl ?_); refine goesL_ (some 10) rfl rfl Try.func81 (by kernel_rfl) rfl #[.int .i64 a0] rfl tm ?_; (with_reducible refine (spec_l01Pow2.calls k a0 t506 _ A5.out).mono ?_); rintro e w' ⟨rfl, ⟨nd, rfl⟩⟩; refine ⟨_, rfl, ?_⟩))
  go_ret
  exact ⟨by rfl, by repeat (first | exact Drawn0.refl _ | apply Drawn0.step)⟩
 ·replace c4 := Bool.eq_false_iff.mpr c4
  subst c4
  rw [if_neg (show ¬ (false = true) by decide)] at H
  obtain rfl := oI H
  go_enter Try.func142, Try.ntmps142
  go_wp2_with (first | ((with_reducible refine gate_callee (f := 71) rfl ?_); refine goesL_ (some 7) rfl rfl Try.func71 (by kernel_rfl) rfl #[.int .i64 a0, .int .i64 a1] rfl tm ?_; (with_reducible refine (spec_WordOk.calls k a0 a1 false _ A3.out).mono ?_); rintro e w' ⟨rfl, ⟨nd, rfl⟩⟩; refine ⟨_, rfl, ?_⟩))
  go_ret
  exact ⟨by rfl, by repeat (first | exact Drawn0.refl _ | apply Drawn0.step)⟩
/-! ### spec_l01Two: function 155 -/
def spec_l01Two.f (k : Nat) (a0 : Int) (a1 : Int) (a2 : Int) : Option (Bool) := (spec_WordOk.f k a0 a1).bind fun t507 => (if t507 = true then ((spec_WordOk.f k a0 a2).bind fun t508 => (some t508)) else (some false))
set_option maxHeartbeats 8000000 in
set_option maxRecDepth 100000 in
theorem spec_l01Two.calls (k : Nat) (a0 : Int) (a1 : Int) (a2 : Int) (r : Bool) (w : World) (h : spec_l01Two.f k a0 a1 a2 = some r) :
  Calls Try.prog 155 #[.int .i64 a0, .int .i64 a1, .int .i64 a2] w fun e w' => e = .returned (.bool r) ∧ Drawn0 w w' := by
 have H : ((spec_WordOk.f k a0 a1).bind fun t507 => (if t507 = true then ((spec_WordOk.f k a0 a2).bind fun t508 => (some t508)) else (some false))) = some r := h
 clear h
 replace H := oB H
 obtain ⟨t507, A40, H⟩ := H
 have A4 := am A40
 clear A40
 by_cases c5 : t507 = true
 ·subst c5
  rw [if_pos rfl] at H
  replace H := oB H
  obtain ⟨t508, A60, H⟩ := H
  have A6 := am A60
  clear A60
  obtain rfl := oI H
  go_enter Try.func155, Try.ntmps155
  go_wp2_with (first | ((with_reducible refine gate_callee (f := 71) rfl ?_); refine goesL_ (some 9) rfl rfl Try.func71 (by kernel_rfl) rfl #[.int .i64 a0, .int .i64 a1] rfl tm ?_; (with_reducible refine (spec_WordOk.calls k a0 a1 true _ A4.out).mono ?_); rintro e w' ⟨rfl, ⟨nd, rfl⟩⟩; refine ⟨_, rfl, ?_⟩) | (go_at_call 71; (with_reducible refine (spec_WordOk.calls k a0 a2 t508 _ A6.out).mono ?_); rintro e w' ⟨rfl, ⟨nd, rfl⟩⟩))
  go_ret
  exact ⟨by rfl, by repeat (first | exact Drawn0.refl _ | apply Drawn0.step)⟩
 ·replace c5 := Bool.eq_false_iff.mpr c5
  subst c5
  rw [if_neg (show ¬ (false = true) by decide)] at H
  obtain rfl := oI H
  go_enter Try.func155, Try.ntmps155
  go_wp2_with (first | ((with_reducible refine gate_callee (f := 71) rfl ?_); refine goesL_ (some 9) rfl rfl Try.func71 (by kernel_rfl) rfl #[.int .i64 a0, .int .i64 a1] rfl tm ?_; (with_reducible refine (spec_WordOk.calls k a0 a1 false _ A4.out).mono ?_); rintro e w' ⟨rfl, ⟨nd, rfl⟩⟩; refine ⟨_, rfl, ?_⟩))
  go_ret
  exact ⟨by rfl, by repeat (first | exact Drawn0.refl _ | apply Drawn0.step)⟩
/-! ### spec_Add: function 143 -/
def spec_Add.f (k : Nat) (a0 : Int) (a1 : Int) (a2 : Int) : Option (Int) := (spec_l01Two.f k a0 a1 a2).bind fun t509 => (if t509 = true then ((spec_l01Pow2.f k a0).bind fun t510 => (if t510 = 0 then (none) else (some (Int.tmod (wrap64 (a1 + a2)) t510)))) else (some 0))
set_option maxHeartbeats 8000000 in
set_option maxRecDepth 100000 in
theorem spec_Add.calls (k : Nat) (a0 : Int) (a1 : Int) (a2 : Int) (r : Int) (w : World) (h : spec_Add.f k a0 a1 a2 = some r) :
  Calls Try.prog 143 #[.int .i64 a0, .int .i64 a1, .int .i64 a2] w fun e w' => e = .returned (.int .i64 r) ∧ Drawn0 w w' := by
 have H : ((spec_l01Two.f k a0 a1 a2).bind fun t509 => (if t509 = true then ((spec_l01Pow2.f k a0).bind fun t510 => (if t510 = 0 then (none) else (some (Int.tmod (wrap64 (a1 + a2)) t510)))) else (some 0))) = some r := h
 clear h
 replace H := oB H
 obtain ⟨t509, A40, H⟩ := H
 have A4 := am A40
 clear A40
 by_cases c5 : t509 = true
 ·subst c5
  rw [if_pos rfl] at H
  replace H := oB H
  obtain ⟨t510, A60, H⟩ := H
  have A6 := am A60
  clear A60
  by_cases c7 : t510 = 0
  ·rw [if_pos c7] at H
   exact absurd H (by simp)
  ·rw [if_neg c7] at H
   have c7b0 : (t510 == 0) = false := beq_eq_false_iff_ne.mpr c7
   have c7b1 : (t510 != 0) = true := bne_iff_ne.mpr c7
   obtain rfl := oI H
   go_enter Try.func143, Try.ntmps143
   go_wp2_with (first | ((with_reducible refine gate_callee (f := 155) rfl ?_); refine goesL_ (some 10) rfl rfl Try.func155 (by kernel_rfl) rfl #[.int .i64 a0, .int .i64 a1, .int .i64 a2] rfl tm ?_; (with_reducible refine (spec_l01Two.calls k a0 a1 a2 true _ A4.out).mono ?_); rintro e w' ⟨rfl, ⟨nd, rfl⟩⟩; refine ⟨_, rfl, ?_⟩) | ((with_reducible refine gate_callee (f := 81) rfl ?_); refine goesL_ (some 16) rfl rfl Try.func81 (by kernel_rfl) rfl #[.int .i64 a0] rfl tm ?_; (with_reducible refine (spec_l01Pow2.calls k a0 t510 _ A6.out).mono ?_); rintro e w' ⟨rfl, ⟨nd, rfl⟩⟩; refine ⟨_, rfl, ?_⟩))
   go_ret
   exact ⟨by rfl, by repeat (first | exact Drawn0.refl _ | apply Drawn0.step)⟩
 ·replace c5 := Bool.eq_false_iff.mpr c5
  subst c5
  rw [if_neg (show ¬ (false = true) by decide)] at H
  obtain rfl := oI H
  go_enter Try.func143, Try.ntmps143
  go_wp2_with (first | ((with_reducible refine gate_callee (f := 155) rfl ?_); refine goesL_ (some 10) rfl rfl Try.func155 (by kernel_rfl) rfl #[.int .i64 a0, .int .i64 a1, .int .i64 a2] rfl tm ?_; (with_reducible refine (spec_l01Two.calls k a0 a1 a2 false _ A4.out).mono ?_); rintro e w' ⟨rfl, ⟨nd, rfl⟩⟩; refine ⟨_, rfl, ?_⟩))
  go_ret
  exact ⟨by rfl, by repeat (first | exact Drawn0.refl _ | apply Drawn0.step)⟩
/-! ### spec_Sub: function 144 -/
def spec_Sub.f (k : Nat) (a0 : Int) (a1 : Int) (a2 : Int) : Option (Int) := (spec_l01Two.f k a0 a1 a2).bind fun t511 => (if t511 = true then ((spec_l01Pow2.f k a0).bind fun t512 => ((spec_l01Pow2.f k a0).bind fun t513 => (if t513 = 0 then (none) else (some (Int.tmod (wrap64 ((wrap64 (a1 + t512)) - a2)) t513))))) else (some 0))
set_option maxHeartbeats 8000000 in
set_option maxRecDepth 100000 in
theorem spec_Sub.calls (k : Nat) (a0 : Int) (a1 : Int) (a2 : Int) (r : Int) (w : World) (h : spec_Sub.f k a0 a1 a2 = some r) :
  Calls Try.prog 144 #[.int .i64 a0, .int .i64 a1, .int .i64 a2] w fun e w' => e = .returned (.int .i64 r) ∧ Drawn0 w w' := by
 have H : ((spec_l01Two.f k a0 a1 a2).bind fun t511 => (if t511 = true then ((spec_l01Pow2.f k a0).bind fun t512 => ((spec_l01Pow2.f k a0).bind fun t513 => (if t513 = 0 then (none) else (some (Int.tmod (wrap64 ((wrap64 (a1 + t512)) - a2)) t513))))) else (some 0))) = some r := h
 clear h
 replace H := oB H
 obtain ⟨t511, A40, H⟩ := H
 have A4 := am A40
 clear A40
 by_cases c5 : t511 = true
 ·subst c5
  rw [if_pos rfl] at H
  replace H := oB H
  obtain ⟨t512, A60, H⟩ := H
  have A6 := am A60
  clear A60
  replace H := oB H
  obtain ⟨t513, A70, H⟩ := H
  have A7 := am A70
  clear A70
  by_cases c8 : t513 = 0
  ·rw [if_pos c8] at H
   exact absurd H (by simp)
  ·rw [if_neg c8] at H
   have c8b0 : (t513 == 0) = false := beq_eq_false_iff_ne.mpr c8
   have c8b1 : (t513 != 0) = true := bne_iff_ne.mpr c8
   obtain rfl := oI H
   go_enter Try.func144, Try.ntmps144
   go_wp2_with (first | ((with_reducible refine gate_callee (f := 155) rfl ?_); refine goesL_ (some 10) rfl rfl Try.func155 (by kernel_rfl) rfl #[.int .i64 a0, .int .i64 a1, .int .i64 a2] rfl tm ?_; (with_reducible refine (spec_l01Two.calls k a0 a1 a2 true _ A4.out).mono ?_); rintro e w' ⟨rfl, ⟨nd, rfl⟩⟩; refine ⟨_, rfl, ?_⟩) | ((with_reducible refine gate_callee (f := 81) rfl ?_); refine goesL_ (some 14) rfl rfl Try.func81 (by kernel_rfl) rfl #[.int .i64 a0] rfl tm ?_; (with_reducible refine (spec_l01Pow2.calls k a0 t512 _ A6.out).mono ?_); rintro e w' ⟨rfl, ⟨nd, rfl⟩⟩; refine ⟨_, rfl, ?_⟩) | ((with_reducible refine gate_callee (f := 81) rfl ?_); refine goesL_ (some 19) rfl rfl Try.func81 (by kernel_rfl) rfl #[.int .i64 a0] rfl tm ?_; (with_reducible refine (spec_l01Pow2.calls k a0 t513 _ A7.out).mono ?_); rintro e w' ⟨rfl, ⟨nd, rfl⟩⟩; refine ⟨_, rfl, ?_⟩))
   go_ret
   exact ⟨by rfl, by repeat (first | exact Drawn0.refl _ | apply Drawn0.step)⟩
 ·replace c5 := Bool.eq_false_iff.mpr c5
  subst c5
  rw [if_neg (show ¬ (false = true) by decide)] at H
  obtain rfl := oI H
  go_enter Try.func144, Try.ntmps144
  go_wp2_with (first | ((with_reducible refine gate_callee (f := 155) rfl ?_); refine goesL_ (some 10) rfl rfl Try.func155 (by kernel_rfl) rfl #[.int .i64 a0, .int .i64 a1, .int .i64 a2] rfl tm ?_; (with_reducible refine (spec_l01Two.calls k a0 a1 a2 false _ A4.out).mono ?_); rintro e w' ⟨rfl, ⟨nd, rfl⟩⟩; refine ⟨_, rfl, ?_⟩))
  go_ret
  exact ⟨by rfl, by repeat (first | exact Drawn0.refl _ | apply Drawn0.step)⟩
/-! ### spec_Mul: function 145 -/
def spec_Mul.f (k : Nat) (a0 : Int) (a1 : Int) (a2 : Int) : Option (Int) := (spec_l01Two.f k a0 a1 a2).bind fun t514 => (if t514 = true then ((spec_l01Pow2.f k a0).bind fun t515 => (if t515 = 0 then (none) else (some (Int.tmod (wrap64 (a1 * a2)) t515)))) else (some 0))
set_option maxHeartbeats 8000000 in
set_option maxRecDepth 100000 in
theorem spec_Mul.calls (k : Nat) (a0 : Int) (a1 : Int) (a2 : Int) (r : Int) (w : World) (h : spec_Mul.f k a0 a1 a2 = some r) :
  Calls Try.prog 145 #[.int .i64 a0, .int .i64 a1, .int .i64 a2] w fun e w' => e = .returned (.int .i64 r) ∧ Drawn0 w w' := by
 have H : ((spec_l01Two.f k a0 a1 a2).bind fun t514 => (if t514 = true then ((spec_l01Pow2.f k a0).bind fun t515 => (if t515 = 0 then (none) else (some (Int.tmod (wrap64 (a1 * a2)) t515)))) else (some 0))) = some r := h
 clear h
 replace H := oB H
 obtain ⟨t514, A40, H⟩ := H
 have A4 := am A40
 clear A40
 by_cases c5 : t514 = true
 ·subst c5
  rw [if_pos rfl] at H
  replace H := oB H
  obtain ⟨t515, A60, H⟩ := H
  have A6 := am A60
  clear A60
  by_cases c7 : t515 = 0
  ·rw [if_pos c7] at H
   exact absurd H (by simp)
  ·rw [if_neg c7] at H
   have c7b0 : (t515 == 0) = false := beq_eq_false_iff_ne.mpr c7
   have c7b1 : (t515 != 0) = true := bne_iff_ne.mpr c7
   obtain rfl := oI H
   go_enter Try.func145, Try.ntmps145
   go_wp2_with (first | ((with_reducible refine gate_callee (f := 155) rfl ?_); refine goesL_ (some 10) rfl rfl Try.func155 (by kernel_rfl) rfl #[.int .i64 a0, .int .i64 a1, .int .i64 a2] rfl tm ?_; (with_reducible refine (spec_l01Two.calls k a0 a1 a2 true _ A4.out).mono ?_); rintro e w' ⟨rfl, ⟨nd, rfl⟩⟩; refine ⟨_, rfl, ?_⟩) | ((with_reducible refine gate_callee (f := 81) rfl ?_); refine goesL_ (some 16) rfl rfl Try.func81 (by kernel_rfl) rfl #[.int .i64 a0] rfl tm ?_; (with_reducible refine (spec_l01Pow2.calls k a0 t515 _ A6.out).mono ?_); rintro e w' ⟨rfl, ⟨nd, rfl⟩⟩; refine ⟨_, rfl, ?_⟩))
   go_ret
   exact ⟨by rfl, by repeat (first | exact Drawn0.refl _ | apply Drawn0.step)⟩
 ·replace c5 := Bool.eq_false_iff.mpr c5
  subst c5
  rw [if_neg (show ¬ (false = true) by decide)] at H
  obtain rfl := oI H
  go_enter Try.func145, Try.ntmps145
  go_wp2_with (first | ((with_reducible refine gate_callee (f := 155) rfl ?_); refine goesL_ (some 10) rfl rfl Try.func155 (by kernel_rfl) rfl #[.int .i64 a0, .int .i64 a1, .int .i64 a2] rfl tm ?_; (with_reducible refine (spec_l01Two.calls k a0 a1 a2 false _ A4.out).mono ?_); rintro e w' ⟨rfl, ⟨nd, rfl⟩⟩; refine ⟨_, rfl, ?_⟩))
  go_ret
  exact ⟨by rfl, by repeat (first | exact Drawn0.refl _ | apply Drawn0.step)⟩
/-! ### spec_Div: function 146 -/
def spec_Div.f (k : Nat) (a0 : Int) (a1 : Int) (a2 : Int) : Option (Int) := (spec_l01Two.f k a0 a1 a2).bind fun t516 => (if t516 = true then (if a2 = 0 then ((spec_l01Pow2.f k a0).bind fun t517 => (some (wrap64 (t517 - 1)))) else (some (wrap64 (Int.tdiv a1 a2)))) else (some 0))
set_option maxHeartbeats 8000000 in
set_option maxRecDepth 100000 in
theorem spec_Div.calls (k : Nat) (a0 : Int) (a1 : Int) (a2 : Int) (r : Int) (w : World) (h : spec_Div.f k a0 a1 a2 = some r) :
  Calls Try.prog 146 #[.int .i64 a0, .int .i64 a1, .int .i64 a2] w fun e w' => e = .returned (.int .i64 r) ∧ Drawn0 w w' := by
 have H : ((spec_l01Two.f k a0 a1 a2).bind fun t516 => (if t516 = true then (if a2 = 0 then ((spec_l01Pow2.f k a0).bind fun t517 => (some (wrap64 (t517 - 1)))) else (some (wrap64 (Int.tdiv a1 a2)))) else (some 0))) = some r := h
 clear h
 replace H := oB H
 obtain ⟨t516, A40, H⟩ := H
 have A4 := am A40
 clear A40
 by_cases c5 : t516 = true
 ·subst c5
  rw [if_pos rfl] at H
  by_cases c6 : a2 = 0
  ·rw [if_pos c6] at H
   have c6b0 : (a2 == 0) = true := beq_iff_eq.mpr c6
   have c6b1 : (a2 != 0) = false := bne_eq_false_iff_eq.mpr c6
   clear c6
   replace H := oB H
   obtain ⟨t517, A70, H⟩ := H
   have A7 := am A70
   clear A70
   obtain rfl := oI H
   go_enter Try.func146, Try.ntmps146
   go_wp2_with (first | ((with_reducible refine gate_callee (f := 155) rfl ?_); refine goesL_ (some 10) rfl rfl Try.func155 (by kernel_rfl) rfl #[.int .i64 a0, .int .i64 a1, .int .i64 a2] rfl tm ?_; (with_reducible refine (spec_l01Two.calls k a0 a1 a2 true _ A4.out).mono ?_); rintro e w' ⟨rfl, ⟨nd, rfl⟩⟩; refine ⟨_, rfl, ?_⟩) | ((with_reducible refine gate_callee (f := 81) rfl ?_); refine goesL_ (some 15) rfl rfl Try.func81 (by kernel_rfl) rfl #[.int .i64 a0] rfl tm ?_; (with_reducible refine (spec_l01Pow2.calls k a0 t517 _ A7.out).mono ?_); rintro e w' ⟨rfl, ⟨nd, rfl⟩⟩; refine ⟨_, rfl, ?_⟩))
   go_ret
   exact ⟨by rfl, by repeat (first | exact Drawn0.refl _ | apply Drawn0.step)⟩
  ·rw [if_neg c6] at H
   have c6b0 : (a2 == 0) = false := beq_eq_false_iff_ne.mpr c6
   have c6b1 : (a2 != 0) = true := bne_iff_ne.mpr c6
   obtain rfl := oI H
   go_enter Try.func146, Try.ntmps146
   go_wp2_with (first | ((with_reducible refine gate_callee (f := 155) rfl ?_); refine goesL_ (some 10) rfl rfl Try.func155 (by kernel_rfl) rfl #[.int .i64 a0, .int .i64 a1, .int .i64 a2] rfl tm ?_; (with_reducible refine (spec_l01Two.calls k a0 a1 a2 true _ A4.out).mono ?_); rintro e w' ⟨rfl, ⟨nd, rfl⟩⟩; refine ⟨_, rfl, ?_⟩))
   go_ret
   exact ⟨by rfl, by repeat (first | exact Drawn0.refl _ | apply Drawn0.step)⟩
 ·replace c5 := Bool.eq_false_iff.mpr c5
  subst c5
  rw [if_neg (show ¬ (false = true) by decide)] at H
  obtain rfl := oI H
  go_enter Try.func146, Try.ntmps146
  go_wp2_with (first | ((with_reducible refine gate_callee (f := 155) rfl ?_); refine goesL_ (some 10) rfl rfl Try.func155 (by kernel_rfl) rfl #[.int .i64 a0, .int .i64 a1, .int .i64 a2] rfl tm ?_; (with_reducible refine (spec_l01Two.calls k a0 a1 a2 false _ A4.out).mono ?_); rintro e w' ⟨rfl, ⟨nd, rfl⟩⟩; refine ⟨_, rfl, ?_⟩))
  go_ret
  exact ⟨by rfl, by repeat (first | exact Drawn0.refl _ | apply Drawn0.step)⟩
/-! ### spec_Rem: function 147 -/
def spec_Rem.f (k : Nat) (a0 : Int) (a1 : Int) (a2 : Int) : Option (Int) := (spec_l01Two.f k a0 a1 a2).bind fun t518 => (if t518 = true then (if a2 = 0 then (some a1) else (some (Int.tmod a1 a2))) else (some 0))
set_option maxHeartbeats 8000000 in
set_option maxRecDepth 100000 in
theorem spec_Rem.calls (k : Nat) (a0 : Int) (a1 : Int) (a2 : Int) (r : Int) (w : World) (h : spec_Rem.f k a0 a1 a2 = some r) :
  Calls Try.prog 147 #[.int .i64 a0, .int .i64 a1, .int .i64 a2] w fun e w' => e = .returned (.int .i64 r) ∧ Drawn0 w w' := by
 have H : ((spec_l01Two.f k a0 a1 a2).bind fun t518 => (if t518 = true then (if a2 = 0 then (some a1) else (some (Int.tmod a1 a2))) else (some 0))) = some r := h
 clear h
 replace H := oB H
 obtain ⟨t518, A40, H⟩ := H
 have A4 := am A40
 clear A40
 by_cases c5 : t518 = true
 ·subst c5
  rw [if_pos rfl] at H
  by_cases c6 : a2 = 0
  ·rw [if_pos c6] at H
   have c6b0 : (a2 == 0) = true := beq_iff_eq.mpr c6
   have c6b1 : (a2 != 0) = false := bne_eq_false_iff_eq.mpr c6
   clear c6
   obtain rfl := oI H
   go_enter Try.func147, Try.ntmps147
   go_wp2_with (first | ((with_reducible refine gate_callee (f := 155) rfl ?_); refine goesL_ (some 10) rfl rfl Try.func155 (by kernel_rfl) rfl #[.int .i64 a0, .int .i64 a1, .int .i64 a2] rfl tm ?_; (with_reducible refine (spec_l01Two.calls k a0 a1 a2 true _ A4.out).mono ?_); rintro e w' ⟨rfl, ⟨nd, rfl⟩⟩; refine ⟨_, rfl, ?_⟩))
   go_ret
   exact ⟨by rfl, by repeat (first | exact Drawn0.refl _ | apply Drawn0.step)⟩
  ·rw [if_neg c6] at H
   have c6b0 : (a2 == 0) = false := beq_eq_false_iff_ne.mpr c6
   have c6b1 : (a2 != 0) = true := bne_iff_ne.mpr c6
   obtain rfl := oI H
   go_enter Try.func147, Try.ntmps147
   go_wp2_with (first | ((with_reducible refine gate_callee (f := 155) rfl ?_); refine goesL_ (some 10) rfl rfl Try.func155 (by kernel_rfl) rfl #[.int .i64 a0, .int .i64 a1, .int .i64 a2] rfl tm ?_; (with_reducible refine (spec_l01Two.calls k a0 a1 a2 true _ A4.out).mono ?_); rintro e w' ⟨rfl, ⟨nd, rfl⟩⟩; refine ⟨_, rfl, ?_⟩))
   go_ret
   exact ⟨by rfl, by repeat (first | exact Drawn0.refl _ | apply Drawn0.step)⟩
 ·replace c5 := Bool.eq_false_iff.mpr c5
  subst c5
  rw [if_neg (show ¬ (false = true) by decide)] at H
  obtain rfl := oI H
  go_enter Try.func147, Try.ntmps147
  go_wp2_with (first | ((with_reducible refine gate_callee (f := 155) rfl ?_); refine goesL_ (some 10) rfl rfl Try.func155 (by kernel_rfl) rfl #[.int .i64 a0, .int .i64 a1, .int .i64 a2] rfl tm ?_; (with_reducible refine (spec_l01Two.calls k a0 a1 a2 false _ A4.out).mono ?_); rintro e w' ⟨rfl, ⟨nd, rfl⟩⟩; refine ⟨_, rfl, ?_⟩))
  go_ret
  exact ⟨by rfl, by repeat (first | exact Drawn0.refl _ | apply Drawn0.step)⟩
/-! ### spec_Shl: function 148 -/
def spec_Shl.j0 : Nat → Int → Int → Int → Bool → Option (Int)
 | 0, _, _, _, _ => none
 | k + 1, x0, x1, x2, x16 => if x16 = true then (some 0) else ((spec_l01Pow2.f k x2).bind fun t520 => ((spec_l01Pow2.f k x0).bind fun t521 => (if t521 = 0 then (none) else (some (Int.tmod (wrap64 (x1 * t520)) t521)))))
def spec_Shl.f (k : Nat) (a0 : Int) (a1 : Int) (a2 : Int) : Option (Int) := (spec_l01Two.f k a0 a1 a2).bind fun t519 => (if t519 = true then (spec_Shl.j0 k a0 a1 a2 (decide (a2 ≥ a0))) else (spec_Shl.j0 k a0 a1 a2 true))
set_option maxHeartbeats 8000000 in
set_option maxRecDepth 100000 in
theorem spec_Shl.calls (k : Nat) (a0 : Int) (a1 : Int) (a2 : Int) (r : Int) (w : World) (h : spec_Shl.f k a0 a1 a2 = some r) :
  Calls Try.prog 148 #[.int .i64 a0, .int .i64 a1, .int .i64 a2] w fun e w' => e = .returned (.int .i64 r) ∧ Drawn0 w w' := by
 have H : ((spec_l01Two.f k a0 a1 a2).bind fun t519 => (if t519 = true then (spec_Shl.j0 k a0 a1 a2 (decide (a2 ≥ a0))) else (spec_Shl.j0 k a0 a1 a2 true))) = some r := h
 clear h
 have HC4 := am H
 clear H
 go_enter Try.func148, Try.ntmps148
 go_upto_region 1 with (fail)
 go_cut [16] (fun v16 wc => ∃ (kq : Nat) (x16_3 : Bool), v16 = .bool x16_3 ∧ Aside0 (spec_Shl.j0 kq a0 a1 a2 x16_3 = some r) ∧ Aside0 (kq ≤ k) ∧ Drawn0 w wc)
 case first =>
  have H := HC4.out
  clear HC4
  replace H := oB H
  obtain ⟨t519, A50, H⟩ := H
  have A5 := am A50
  clear A50
  by_cases c6 : t519 = true
  ·subst c6
   rw [if_pos rfl] at H
   have H' := am H
   clear H
   go_wp2_with (first | ((with_reducible refine gate_callee (f := 155) rfl ?_); refine goesL_ (some 10) rfl rfl Try.func155 (by kernel_rfl) rfl #[.int .i64 a0, .int .i64 a1, .int .i64 a2] rfl tm ?_; (with_reducible refine (spec_l01Two.calls k a0 a1 a2 true _ A5.out).mono ?_); rintro e w' ⟨rfl, ⟨nd, rfl⟩⟩; refine ⟨_, rfl, ?_⟩))
   go_meet
   case rel => exact ⟨_, (decide (a2 ≥ a0)), (by rfl), H', ⟨by omega⟩, by repeat (first | exact Drawn0.refl _ | apply Drawn0.step)⟩
  ·replace c6 := Bool.eq_false_iff.mpr c6
   subst c6
   rw [if_neg (show ¬ (false = true) by decide)] at H
   have H' := am H
   clear H
   go_wp2_with (first | ((with_reducible refine gate_callee (f := 155) rfl ?_); refine goesL_ (some 10) rfl rfl Try.func155 (by kernel_rfl) rfl #[.int .i64 a0, .int .i64 a1, .int .i64 a2] rfl tm ?_; (with_reducible refine (spec_l01Two.calls k a0 a1 a2 false _ A5.out).mono ?_); rintro e w' ⟨rfl, ⟨nd, rfl⟩⟩; refine ⟨_, rfl, ?_⟩))
   go_meet
   case rel => exact ⟨_, (true), (by rfl), H', ⟨by omega⟩, by repeat (first | exact Drawn0.refl _ | apply Drawn0.step)⟩
 case rest =>
  clear HC4
  obtain ⟨kq, x16_3, rfl, HA, HJ3, ⟨mc3, rfl⟩⟩ := hcut
  cases kq with
  | zero => exact absurd HA.out (by simp [spec_Shl.j0])
  | succ kj3 =>
   have H := HA.out
   clear HA
   simp only [spec_Shl.j0] at H
   by_cases c7 : x16_3 = true
   ·subst c7
    rw [if_pos rfl] at H
    obtain rfl := oI H
    go_wp2
    go_ret
    exact ⟨by rfl, by repeat (first | exact Drawn0.refl _ | apply Drawn0.step)⟩
   ·replace c7 := Bool.eq_false_iff.mpr c7
    subst c7
    rw [if_neg (show ¬ (false = true) by decide)] at H
    replace H := oB H
    obtain ⟨t520, A80, H⟩ := H
    have A8 := am A80
    clear A80
    replace H := oB H
    obtain ⟨t521, A90, H⟩ := H
    have A9 := am A90
    clear A90
    by_cases c10 : t521 = 0
    ·rw [if_pos c10] at H
     exact absurd H (by simp)
    ·rw [if_neg c10] at H
     have c10b0 : (t521 == 0) = false := beq_eq_false_iff_ne.mpr c10
     have c10b1 : (t521 != 0) = true := bne_iff_ne.mpr c10
     obtain rfl := oI H
     go_wp2_with (first | ((with_reducible refine gate_callee (f := 81) rfl ?_); refine goesL_ (some 19) rfl rfl Try.func81 (by kernel_rfl) rfl #[.int .i64 a2] rfl tm ?_; (with_reducible refine (spec_l01Pow2.calls kj3 a2 t520 _ A8.out).mono ?_); rintro e w' ⟨rfl, ⟨nd, rfl⟩⟩; refine ⟨_, rfl, ?_⟩) | ((with_reducible refine gate_callee (f := 81) rfl ?_); refine goesL_ (some 22) rfl rfl Try.func81 (by kernel_rfl) rfl #[.int .i64 a0] rfl tm ?_; (with_reducible refine (spec_l01Pow2.calls kj3 a0 t521 _ A9.out).mono ?_); rintro e w' ⟨rfl, ⟨nd, rfl⟩⟩; refine ⟨_, rfl, ?_⟩))
     go_ret
     exact ⟨by rfl, by repeat (first | exact Drawn0.refl _ | apply Drawn0.step)⟩
/-! ### spec_Shr: function 149 -/
def spec_Shr.f (k : Nat) (a0 : Int) (a1 : Int) (a2 : Int) : Option (Int) := (spec_l01Two.f k a0 a1 a2).bind fun t522 => (if t522 = true then (if a2 ≥ a0 then (some 0) else ((spec_l01Pow2.f k a2).bind fun t523 => (if t523 = 0 then (none) else (some (wrap64 (Int.tdiv a1 t523)))))) else (some 0))
set_option maxHeartbeats 8000000 in
set_option maxRecDepth 100000 in
theorem spec_Shr.calls (k : Nat) (a0 : Int) (a1 : Int) (a2 : Int) (r : Int) (w : World) (h : spec_Shr.f k a0 a1 a2 = some r) :
  Calls Try.prog 149 #[.int .i64 a0, .int .i64 a1, .int .i64 a2] w fun e w' => e = .returned (.int .i64 r) ∧ Drawn0 w w' := by
 have H : ((spec_l01Two.f k a0 a1 a2).bind fun t522 => (if t522 = true then (if a2 ≥ a0 then (some 0) else ((spec_l01Pow2.f k a2).bind fun t523 => (if t523 = 0 then (none) else (some (wrap64 (Int.tdiv a1 t523)))))) else (some 0))) = some r := h
 clear h
 replace H := oB H
 obtain ⟨t522, A40, H⟩ := H
 have A4 := am A40
 clear A40
 by_cases c5 : t522 = true
 ·subst c5
  rw [if_pos rfl] at H
  by_cases c6 : a2 ≥ a0
  ·rw [if_pos c6] at H
   have c6b0 : decide (a0 ≤ a2) = true := decide_eq_true c6
   clear c6
   obtain rfl := oI H
   go_enter Try.func149, Try.ntmps149
   go_wp2_with (first | ((with_reducible refine gate_callee (f := 155) rfl ?_); refine goesL_ (some 10) rfl rfl Try.func155 (by kernel_rfl) rfl #[.int .i64 a0, .int .i64 a1, .int .i64 a2] rfl tm ?_; (with_reducible refine (spec_l01Two.calls k a0 a1 a2 true _ A4.out).mono ?_); rintro e w' ⟨rfl, ⟨nd, rfl⟩⟩; refine ⟨_, rfl, ?_⟩))
   go_ret
   exact ⟨by rfl, by repeat (first | exact Drawn0.refl _ | apply Drawn0.step)⟩
  ·rw [if_neg c6] at H
   have c6b0 : decide (a0 ≤ a2) = false := decide_eq_false c6
   clear c6
   replace H := oB H
   obtain ⟨t523, A70, H⟩ := H
   have A7 := am A70
   clear A70
   by_cases c8 : t523 = 0
   ·rw [if_pos c8] at H
    exact absurd H (by simp)
   ·rw [if_neg c8] at H
    have c8b0 : (t523 == 0) = false := beq_eq_false_iff_ne.mpr c8
    have c8b1 : (t523 != 0) = true := bne_iff_ne.mpr c8
    obtain rfl := oI H
    go_enter Try.func149, Try.ntmps149
    go_wp2_with (first | ((with_reducible refine gate_callee (f := 155) rfl ?_); refine goesL_ (some 10) rfl rfl Try.func155 (by kernel_rfl) rfl #[.int .i64 a0, .int .i64 a1, .int .i64 a2] rfl tm ?_; (with_reducible refine (spec_l01Two.calls k a0 a1 a2 true _ A4.out).mono ?_); rintro e w' ⟨rfl, ⟨nd, rfl⟩⟩; refine ⟨_, rfl, ?_⟩) | ((with_reducible refine gate_callee (f := 81) rfl ?_); refine goesL_ (some 19) rfl rfl Try.func81 (by kernel_rfl) rfl #[.int .i64 a2] rfl tm ?_; (with_reducible refine (spec_l01Pow2.calls k a2 t523 _ A7.out).mono ?_); rintro e w' ⟨rfl, ⟨nd, rfl⟩⟩; refine ⟨_, rfl, ?_⟩))
    go_ret
    exact ⟨by rfl, by repeat (first | exact Drawn0.refl _ | apply Drawn0.step)⟩
 ·replace c5 := Bool.eq_false_iff.mpr c5
  subst c5
  rw [if_neg (show ¬ (false = true) by decide)] at H
  obtain rfl := oI H
  go_enter Try.func149, Try.ntmps149
  go_wp2_with (first | ((with_reducible refine gate_callee (f := 155) rfl ?_); refine goesL_ (some 10) rfl rfl Try.func155 (by kernel_rfl) rfl #[.int .i64 a0, .int .i64 a1, .int .i64 a2] rfl tm ?_; (with_reducible refine (spec_l01Two.calls k a0 a1 a2 false _ A4.out).mono ?_); rintro e w' ⟨rfl, ⟨nd, rfl⟩⟩; refine ⟨_, rfl, ?_⟩))
  go_ret
  exact ⟨by rfl, by repeat (first | exact Drawn0.refl _ | apply Drawn0.step)⟩
/-! ### spec_l01Bool: function 150 -/
def spec_l01Bool.f (a0 : Bool) : Option (Int) := if a0 = true then (some 1) else (some 0)
set_option maxHeartbeats 8000000 in
set_option maxRecDepth 100000 in
theorem spec_l01Bool.calls (a0 : Bool) (r : Int) (w : World) (h : spec_l01Bool.f a0 = some r) :
  Calls Try.prog 150 #[.bool a0] w fun e w' => e = .returned (.int .i64 r) ∧ Drawn0 w w' := by
 have H : (if a0 = true then (some 1) else (some 0)) = some r := h
 clear h
 by_cases c2 : a0 = true
 ·subst c2
  rw [if_pos rfl] at H
  obtain rfl := oI H
  go_enter Try.func150, Try.ntmps150
  go_wp2
  go_ret
  exact ⟨by rfl, by repeat (first | exact Drawn0.refl _ | apply Drawn0.step)⟩
 ·replace c2 := Bool.eq_false_iff.mpr c2
  subst c2
  rw [if_neg (show ¬ (false = true) by decide)] at H
  obtain rfl := oI H
  go_enter Try.func150, Try.ntmps150
  go_wp2
  go_ret
  exact ⟨by rfl, by repeat (first | exact Drawn0.refl _ | apply Drawn0.step)⟩
/-! ### spec_Less: function 151 -/
def spec_Less.f (k : Nat) (a0 : Int) (a1 : Int) (a2 : Int) : Option (Int) := (spec_l01Two.f k a0 a1 a2).bind fun t524 => (if t524 = true then ((spec_l01Bool.f (decide (a1 < a2))).bind fun t525 => (some t525)) else ((spec_l01Bool.f false).bind fun t526 => (some t526)))
set_option maxHeartbeats 8000000 in
set_option maxRecDepth 100000 in
theorem spec_Less.calls (k : Nat) (a0 : Int) (a1 : Int) (a2 : Int) (r : Int) (w : World) (h : spec_Less.f k a0 a1 a2 = some r) :
  Calls Try.prog 151 #[.int .i64 a0, .int .i64 a1, .int .i64 a2] w fun e w' => e = .returned (.int .i64 r) ∧ Drawn0 w w' := by
 have H : ((spec_l01Two.f k a0 a1 a2).bind fun t524 => (if t524 = true then ((spec_l01Bool.f (decide (a1 < a2))).bind fun t525 => (some t525)) else ((spec_l01Bool.f false).bind fun t526 => (some t526)))) = some r := h
 clear h
 replace H := oB H
 obtain ⟨t524, A40, H⟩ := H
 have A4 := am A40
 clear A40
 by_cases c5 : t524 = true
 ·subst c5
  rw [if_pos rfl] at H
  replace H := oB H
  obtain ⟨t525, A60, H⟩ := H
  have A6 := am A60
  clear A60
  obtain rfl := oI H
  go_enter Try.func151, Try.ntmps151
  go_wp2_with (first | ((with_reducible refine gate_callee (f := 155) rfl ?_); refine goesL_ (some 10) rfl rfl Try.func155 (by kernel_rfl) rfl #[.int .i64 a0, .int .i64 a1, .int .i64 a2] rfl tm ?_; (with_reducible refine (spec_l01Two.calls k a0 a1 a2 true _ A4.out).mono ?_); rintro e w' ⟨rfl, ⟨nd, rfl⟩⟩; refine ⟨_, rfl, ?_⟩) | ((with_reducible refine gate_callee (f := 150) rfl ?_); refine goesL_ (some 16) rfl rfl Try.func150 (by kernel_rfl) rfl #[.bool (decide (a1 < a2))] rfl tm ?_; (with_reducible refine (spec_l01Bool.calls (decide (a1 < a2)) t525 _ A6.out).mono ?_); rintro e w' ⟨rfl, ⟨nd, rfl⟩⟩; refine ⟨_, rfl, ?_⟩))
  go_ret
  exact ⟨by rfl, by repeat (first | exact Drawn0.refl _ | apply Drawn0.step)⟩
 ·replace c5 := Bool.eq_false_iff.mpr c5
  subst c5
  rw [if_neg (show ¬ (false = true) by decide)] at H
  replace H := oB H
  obtain ⟨t526, A70, H⟩ := H
  have A7 := am A70
  clear A70
  obtain rfl := oI H
  go_enter Try.func151, Try.ntmps151
  go_wp2_with (first | ((with_reducible refine gate_callee (f := 155) rfl ?_); refine goesL_ (some 10) rfl rfl Try.func155 (by kernel_rfl) rfl #[.int .i64 a0, .int .i64 a1, .int .i64 a2] rfl tm ?_; (with_reducible refine (spec_l01Two.calls k a0 a1 a2 false _ A4.out).mono ?_); rintro e w' ⟨rfl, ⟨nd, rfl⟩⟩; refine ⟨_, rfl, ?_⟩) | ((with_reducible refine gate_callee (f := 150) rfl ?_); refine goesL_ (some 16) rfl rfl Try.func150 (by kernel_rfl) rfl #[.bool false] rfl tm ?_; (with_reducible refine (spec_l01Bool.calls false t526 _ A7.out).mono ?_); rintro e w' ⟨rfl, ⟨nd, rfl⟩⟩; refine ⟨_, rfl, ?_⟩))
  go_ret
  exact ⟨by rfl, by repeat (first | exact Drawn0.refl _ | apply Drawn0.step)⟩
/-! ### spec_Signed: function 156 -/
def spec_Signed.f (k : Nat) (a0 : Int) (a1 : Int) : Option (Int) := (spec_WordOk.f k a0 a1).bind fun t527 => (if t527 = true then ((spec_l01Pow2.f k (wrap64 (a0 - 1))).bind fun t528 => (if a1 ≥ t528 then ((spec_l01Pow2.f k a0).bind fun t529 => (some (wrap64 (a1 - t529)))) else (some a1))) else (some 0))
set_option maxHeartbeats 8000000 in
set_option maxRecDepth 100000 in
theorem spec_Signed.calls (k : Nat) (a0 : Int) (a1 : Int) (r : Int) (w : World) (h : spec_Signed.f k a0 a1 = some r) :
  Calls Try.prog 156 #[.int .i64 a0, .int .i64 a1] w fun e w' => e = .returned (.int .i64 r) ∧ Drawn0 w w' := by
 have H : ((spec_WordOk.f k a0 a1).bind fun t527 => (if t527 = true then ((spec_l01Pow2.f k (wrap64 (a0 - 1))).bind fun t528 => (if a1 ≥ t528 then ((spec_l01Pow2.f k a0).bind fun t529 => (some (wrap64 (a1 - t529)))) else (some a1))) else (some 0))) = some r := h
 clear h
 replace H := oB H
 obtain ⟨t527, A30, H⟩ := H
 have A3 := am A30
 clear A30
 by_cases c4 : t527 = true
 ·subst c4
  rw [if_pos rfl] at H
  replace H := oB H
  obtain ⟨t528, A50, H⟩ := H
  have A5 := am A50
  clear A50
  by_cases c6 : a1 ≥ t528
  ·rw [if_pos c6] at H
   have c6b0 : decide (t528 ≤ a1) = true := decide_eq_true c6
   clear c6
   replace H := oB H
   obtain ⟨t529, A70, H⟩ := H
   have A7 := am A70
   clear A70
   obtain rfl := oI H
   go_enter Try.func156, Try.ntmps156
   go_wp2_with (first | ((with_reducible refine gate_callee (f := 71) rfl ?_); refine goesL_ (some 7) rfl rfl Try.func71 (by kernel_rfl) rfl #[.int .i64 a0, .int .i64 a1] rfl tm ?_; (with_reducible refine (spec_WordOk.calls k a0 a1 true _ A3.out).mono ?_); rintro e w' ⟨rfl, ⟨nd, rfl⟩⟩; refine ⟨_, rfl, ?_⟩) | ((with_reducible refine gate_callee (f := 81) rfl ?_); refine goesL_ (some 12) rfl rfl Try.func81 (by kernel_rfl) rfl #[.int .i64 (wrap64 (a0 - 1))] rfl tm ?_; (with_reducible refine (spec_l01Pow2.calls k (wrap64 (a0 - 1)) t528 _ A5.out).mono ?_); rintro e w' ⟨rfl, ⟨nd, rfl⟩⟩; refine ⟨_, rfl, ?_⟩) | ((with_reducible refine gate_callee (f := 81) rfl ?_); refine goesL_ (some 16) rfl rfl Try.func81 (by kernel_rfl) rfl #[.int .i64 a0] rfl tm ?_; (with_reducible refine (spec_l01Pow2.calls k a0 t529 _ A7.out).mono ?_); rintro e w' ⟨rfl, ⟨nd, rfl⟩⟩; refine ⟨_, rfl, ?_⟩))
   go_ret
   exact ⟨by rfl, by repeat (first | exact Drawn0.refl _ | apply Drawn0.step)⟩
  ·rw [if_neg c6] at H
   have c6b0 : decide (t528 ≤ a1) = false := decide_eq_false c6
   clear c6
   obtain rfl := oI H
   go_enter Try.func156, Try.ntmps156
   go_wp2_with (first | ((with_reducible refine gate_callee (f := 71) rfl ?_); refine goesL_ (some 7) rfl rfl Try.func71 (by kernel_rfl) rfl #[.int .i64 a0, .int .i64 a1] rfl tm ?_; (with_reducible refine (spec_WordOk.calls k a0 a1 true _ A3.out).mono ?_); rintro e w' ⟨rfl, ⟨nd, rfl⟩⟩; refine ⟨_, rfl, ?_⟩) | ((with_reducible refine gate_callee (f := 81) rfl ?_); refine goesL_ (some 12) rfl rfl Try.func81 (by kernel_rfl) rfl #[.int .i64 (wrap64 (a0 - 1))] rfl tm ?_; (with_reducible refine (spec_l01Pow2.calls k (wrap64 (a0 - 1)) t528 _ A5.out).mono ?_); rintro e w' ⟨rfl, ⟨nd, rfl⟩⟩; refine ⟨_, rfl, ?_⟩))
   go_ret
   exact ⟨by rfl, by repeat (first | exact Drawn0.refl _ | apply Drawn0.step)⟩
 ·replace c4 := Bool.eq_false_iff.mpr c4
  subst c4
  rw [if_neg (show ¬ (false = true) by decide)] at H
  obtain rfl := oI H
  go_enter Try.func156, Try.ntmps156
  go_wp2_with (first | ((with_reducible refine gate_callee (f := 71) rfl ?_); refine goesL_ (some 7) rfl rfl Try.func71 (by kernel_rfl) rfl #[.int .i64 a0, .int .i64 a1] rfl tm ?_; (with_reducible refine (spec_WordOk.calls k a0 a1 false _ A3.out).mono ?_); rintro e w' ⟨rfl, ⟨nd, rfl⟩⟩; refine ⟨_, rfl, ?_⟩))
  go_ret
  exact ⟨by rfl, by repeat (first | exact Drawn0.refl _ | apply Drawn0.step)⟩
/-! ### spec_LessSigned: function 152 -/
def spec_LessSigned.f (k : Nat) (a0 : Int) (a1 : Int) (a2 : Int) : Option (Int) := (spec_l01Two.f k a0 a1 a2).bind fun t530 => (if t530 = true then ((spec_Signed.f k a0 a1).bind fun t531 => ((spec_Signed.f k a0 a2).bind fun t532 => ((spec_l01Bool.f (decide (t531 < t532))).bind fun t533 => (some t533)))) else ((spec_l01Bool.f false).bind fun t534 => (some t534)))
set_option maxHeartbeats 8000000 in
set_option maxRecDepth 100000 in
theorem spec_LessSigned.calls (k : Nat) (a0 : Int) (a1 : Int) (a2 : Int) (r : Int) (w : World) (h : spec_LessSigned.f k a0 a1 a2 = some r) :
  Calls Try.prog 152 #[.int .i64 a0, .int .i64 a1, .int .i64 a2] w fun e w' => e = .returned (.int .i64 r) ∧ Drawn0 w w' := by
 have H : ((spec_l01Two.f k a0 a1 a2).bind fun t530 => (if t530 = true then ((spec_Signed.f k a0 a1).bind fun t531 => ((spec_Signed.f k a0 a2).bind fun t532 => ((spec_l01Bool.f (decide (t531 < t532))).bind fun t533 => (some t533)))) else ((spec_l01Bool.f false).bind fun t534 => (some t534)))) = some r := h
 clear h
 replace H := oB H
 obtain ⟨t530, A40, H⟩ := H
 have A4 := am A40
 clear A40
 by_cases c5 : t530 = true
 ·subst c5
  rw [if_pos rfl] at H
  replace H := oB H
  obtain ⟨t531, A60, H⟩ := H
  have A6 := am A60
  clear A60
  replace H := oB H
  obtain ⟨t532, A70, H⟩ := H
  have A7 := am A70
  clear A70
  replace H := oB H
  obtain ⟨t533, A80, H⟩ := H
  have A8 := am A80
  clear A80
  obtain rfl := oI H
  go_enter Try.func152, Try.ntmps152
  go_wp2_with (first | ((with_reducible refine gate_callee (f := 155) rfl ?_); refine goesL_ (some 10) rfl rfl Try.func155 (by kernel_rfl) rfl #[.int .i64 a0, .int .i64 a1, .int .i64 a2] rfl tm ?_; (with_reducible refine (spec_l01Two.calls k a0 a1 a2 true _ A4.out).mono ?_); rintro e w' ⟨rfl, ⟨nd, rfl⟩⟩; refine ⟨_, rfl, ?_⟩) | (go_at_call 156; (with_reducible refine (spec_Signed.calls k a0 a1 t531 _ A6.out).mono ?_); rintro e w' ⟨rfl, ⟨nd, rfl⟩⟩) | (go_at_call 156; (with_reducible refine (spec_Signed.calls k a0 a2 t532 _ A7.out).mono ?_); rintro e w' ⟨rfl, ⟨nd, rfl⟩⟩) | ((with_reducible refine gate_callee (f := 150) rfl ?_); refine goesL_ (some 20) rfl rfl Try.func150 (by kernel_rfl) rfl #[.bool (decide (t531 < t532))] rfl tm ?_; (with_reducible refine (spec_l01Bool.calls (decide (t531 < t532)) t533 _ A8.out).mono ?_); rintro e w' ⟨rfl, ⟨nd, rfl⟩⟩; refine ⟨_, rfl, ?_⟩))
  go_ret
  exact ⟨by rfl, by repeat (first | exact Drawn0.refl _ | apply Drawn0.step)⟩
 ·replace c5 := Bool.eq_false_iff.mpr c5
  subst c5
  rw [if_neg (show ¬ (false = true) by decide)] at H
  replace H := oB H
  obtain ⟨t534, A90, H⟩ := H
  have A9 := am A90
  clear A90
  obtain rfl := oI H
  go_enter Try.func152, Try.ntmps152
  go_wp2_with (first | ((with_reducible refine gate_callee (f := 155) rfl ?_); refine goesL_ (some 10) rfl rfl Try.func155 (by kernel_rfl) rfl #[.int .i64 a0, .int .i64 a1, .int .i64 a2] rfl tm ?_; (with_reducible refine (spec_l01Two.calls k a0 a1 a2 false _ A4.out).mono ?_); rintro e w' ⟨rfl, ⟨nd, rfl⟩⟩; refine ⟨_, rfl, ?_⟩) | ((with_reducible refine gate_callee (f := 150) rfl ?_); refine goesL_ (some 20) rfl rfl Try.func150 (by kernel_rfl) rfl #[.bool false] rfl tm ?_; (with_reducible refine (spec_l01Bool.calls false t534 _ A9.out).mono ?_); rintro e w' ⟨rfl, ⟨nd, rfl⟩⟩; refine ⟨_, rfl, ?_⟩))
  go_ret
  exact ⟨by rfl, by repeat (first | exact Drawn0.refl _ | apply Drawn0.step)⟩
/-! ### spec_Slice: function 153 -/
def spec_Slice.j0 : Nat → Int → Int → Int → Bool → Option (Int)
 | 0, _, _, _, _ => none
 | k + 1, x1, x2, x3, x24 => if x24 = true then (some 0) else ((spec_l01Pow2.f k x2).bind fun t537 => (if t537 = 0 then (none) else ((spec_l01Pow2.f k x3).bind fun t538 => (if t538 = 0 then (none) else (some (Int.tmod (wrap64 (Int.tdiv x1 t537)) t538))))))
def spec_Slice.f (k : Nat) (a0 : Int) (a1 : Int) (a2 : Int) (a3 : Int) : Option (Int) := (spec_WordOk.f k a0 a1).bind fun t535 => (if t535 = true then (if a2 < 0 then (spec_Slice.j0 k a1 a2 a3 true) else ((spec_l01In.f a3 1 (wrap64 (a0 - a2))).bind fun t536 => (spec_Slice.j0 k a1 a2 a3 (!t536)))) else (spec_Slice.j0 k a1 a2 a3 true))
set_option maxHeartbeats 8000000 in
set_option maxRecDepth 100000 in
theorem spec_Slice.calls (k : Nat) (a0 : Int) (a1 : Int) (a2 : Int) (a3 : Int) (r : Int) (w : World) (h : spec_Slice.f k a0 a1 a2 a3 = some r) :
  Calls Try.prog 153 #[.int .i64 a0, .int .i64 a1, .int .i64 a2, .int .i64 a3] w fun e w' => e = .returned (.int .i64 r) ∧ Drawn0 w w' := by
 have H : ((spec_WordOk.f k a0 a1).bind fun t535 => (if t535 = true then (if a2 < 0 then (spec_Slice.j0 k a1 a2 a3 true) else ((spec_l01In.f a3 1 (wrap64 (a0 - a2))).bind fun t536 => (spec_Slice.j0 k a1 a2 a3 (!t536)))) else (spec_Slice.j0 k a1 a2 a3 true))) = some r := h
 clear h
 have HC5 := am H
 clear H
 go_enter Try.func153, Try.ntmps153
 go_upto_region 1 with (fail)
 repeat (go_quiet (fail); go_upto_region 1 with (fail))
 go_cut [24] (fun v24 wc => ∃ (kq : Nat) (x24_4 : Bool), v24 = .bool x24_4 ∧ Aside0 (spec_Slice.j0 kq a1 a2 a3 x24_4 = some r) ∧ Aside0 (kq ≤ k) ∧ Drawn0 w wc)
 case first =>
  have H := HC5.out
  clear HC5
  replace H := oB H
  obtain ⟨t535, A60, H⟩ := H
  have A6 := am A60
  clear A60
  by_cases c7 : t535 = true
  ·subst c7
   rw [if_pos rfl] at H
   by_cases c8 : a2 < 0
   ·rw [if_pos c8] at H
    have c8b0 : decide (a2 < 0) = true := decide_eq_true c8
    clear c8
    (skip)
    have H' := am H
    clear H
    go_wp2_with (first | (go_at_call 71; (with_reducible refine (spec_WordOk.calls k a0 a1 true _ A6.out).mono ?_); rintro e w' ⟨rfl, ⟨nd, rfl⟩⟩; (try first | exact ⟨rfl, _, World.drewN_drewN _ _ _⟩ | exact ⟨rfl, _, Eq.trans (World.drewN_drewN _ _ _) (congrArg (World.drewN _) (Nat.add_assoc _ _ _))⟩)))
    go_meet
    case rel => exact ⟨_, (true), (by rfl), H', ⟨by omega⟩, by repeat (first | exact Drawn0.refl _ | apply Drawn0.step)⟩
   ·rw [if_neg c8] at H
    have c8b0 : decide (a2 < 0) = false := decide_eq_false c8
    clear c8
    (skip)
    replace H := oB H
    obtain ⟨t536, A90, H⟩ := H
    have A9 := am A90
    clear A90
    have H' := am H
    clear H
    go_wp2_with (first | (go_at_call 71; (with_reducible refine (spec_WordOk.calls k a0 a1 true _ A6.out).mono ?_); rintro e w' ⟨rfl, ⟨nd, rfl⟩⟩; (try first | exact ⟨rfl, _, World.drewN_drewN _ _ _⟩ | exact ⟨rfl, _, Eq.trans (World.drewN_drewN _ _ _) (congrArg (World.drewN _) (Nat.add_assoc _ _ _))⟩)) | (go_at_call 42; (with_reducible refine (spec_l01In.calls a3 1 (wrap64 (a0 - a2)) t536 _ A9.out).mono ?_); rintro e w' ⟨rfl, ⟨nd, rfl⟩⟩; (try first | exact ⟨rfl, _, World.drewN_drewN _ _ _⟩ | exact ⟨rfl, _, Eq.trans (World.drewN_drewN _ _ _) (congrArg (World.drewN _) (Nat.add_assoc _ _ _))⟩)))
    go_meet
    case rel => exact ⟨_, (!t536), (by rfl), H', ⟨by omega⟩, by repeat (first | exact Drawn0.refl _ | apply Drawn0.step)⟩
  ·replace c7 := Bool.eq_false_iff.mpr c7
   subst c7
   rw [if_neg (show ¬ (false = true) by decide)] at H
   have H' := am H
   clear H
   go_wp2_with (first | (go_at_call 71; (with_reducible refine (spec_WordOk.calls k a0 a1 false _ A6.out).mono ?_); rintro e w' ⟨rfl, ⟨nd, rfl⟩⟩; (try first | exact ⟨rfl, _, World.drewN_drewN _ _ _⟩ | exact ⟨rfl, _, Eq.trans (World.drewN_drewN _ _ _) (congrArg (World.drewN _) (Nat.add_assoc _ _ _))⟩)))
   go_meet
   case rel => exact ⟨_, (true), (by rfl), H', ⟨by omega⟩, by repeat (first | exact Drawn0.refl _ | apply Drawn0.step)⟩
 case rest =>
  clear HC5
  obtain ⟨kq, x24_4, rfl, HA, HJ4, ⟨mc4, rfl⟩⟩ := hcut
  cases kq with
  | zero => exact absurd HA.out (by simp [spec_Slice.j0])
  | succ kj4 =>
   have H := HA.out
   clear HA
   simp only [spec_Slice.j0] at H
   by_cases c10 : x24_4 = true
   ·subst c10
    rw [if_pos rfl] at H
    obtain rfl := oI H
    go_wp2
    repeat (go_quiet (fail); try go_wp2)
    go_ret
    exact ⟨by rfl, by repeat (first | exact Drawn0.refl _ | apply Drawn0.step)⟩
   ·replace c10 := Bool.eq_false_iff.mpr c10
    subst c10
    rw [if_neg (show ¬ (false = true) by decide)] at H
    replace H := oB H
    obtain ⟨t537, A110, H⟩ := H
    have A11 := am A110
    clear A110
    by_cases c12 : t537 = 0
    ·rw [if_pos c12] at H
     exact absurd H (by simp)
    ·rw [if_neg c12] at H
     have c12b0 : (t537 == 0) = false := beq_eq_false_iff_ne.mpr c12
     have c12b1 : (t537 != 0) = true := bne_iff_ne.mpr c12
     replace H := oB H
     obtain ⟨t538, A130, H⟩ := H
     have A13 := am A130
     clear A130
     by_cases c14 : t538 = 0
     ·rw [if_pos c14] at H
      exact absurd H (by simp)
     ·rw [if_neg c14] at H
      have c14b0 : (t538 == 0) = false := beq_eq_false_iff_ne.mpr c14
      have c14b1 : (t538 != 0) = true := bne_iff_ne.mpr c14
      obtain rfl := oI H
      go_wp2_with (first | (go_at_call 81; (with_reducible refine (spec_l01Pow2.calls kj4 a2 t537 _ A11.out).mono ?_); rintro e w' ⟨rfl, ⟨nd, rfl⟩⟩; (try first | exact ⟨rfl, _, World.drewN_drewN _ _ _⟩ | exact ⟨rfl, _, Eq.trans (World.drewN_drewN _ _ _) (congrArg (World.drewN _) (Nat.add_assoc _ _ _))⟩)) | (go_at_call 81; (with_reducible refine (spec_l01Pow2.calls kj4 a3 t538 _ A13.out).mono ?_); rintro e w' ⟨rfl, ⟨nd, rfl⟩⟩; (try first | exact ⟨rfl, _, World.drewN_drewN _ _ _⟩ | exact ⟨rfl, _, Eq.trans (World.drewN_drewN _ _ _) (congrArg (World.drewN _) (Nat.add_assoc _ _ _))⟩)))
      repeat (go_quiet (first | (go_at_call 81; (with_reducible refine (spec_l01Pow2.calls kj4 a2 t537 _ A11.out).mono ?_); rintro e w' ⟨rfl, ⟨nd, rfl⟩⟩; (try first | exact ⟨rfl, _, World.drewN_drewN _ _ _⟩ | exact ⟨rfl, _, Eq.trans (World.drewN_drewN _ _ _) (congrArg (World.drewN _) (Nat.add_assoc _ _ _))⟩)) | (go_at_call 81; (with_reducible refine (spec_l01Pow2.calls kj4 a3 t538 _ A13.out).mono ?_); rintro e w' ⟨rfl, ⟨nd, rfl⟩⟩; (try first | exact ⟨rfl, _, World.drewN_drewN _ _ _⟩ | exact ⟨rfl, _, Eq.trans (World.drewN_drewN _ _ _) (congrArg (World.drewN _) (Nat.add_assoc _ _ _))⟩))); try go_wp2_with (first | (go_at_call 81; (with_reducible refine (spec_l01Pow2.calls kj4 a2 t537 _ A11.out).mono ?_); rintro e w' ⟨rfl, ⟨nd, rfl⟩⟩; (try first | exact ⟨rfl, _, World.drewN_drewN _ _ _⟩ | exact ⟨rfl, _, Eq.trans (World.drewN_drewN _ _ _) (congrArg (World.drewN _) (Nat.add_assoc _ _ _))⟩)) | (go_at_call 81; (with_reducible refine (spec_l01Pow2.calls kj4 a3 t538 _ A13.out).mono ?_); rintro e w' ⟨rfl, ⟨nd, rfl⟩⟩; (try first | exact ⟨rfl, _, World.drewN_drewN _ _ _⟩ | exact ⟨rfl, _, Eq.trans (World.drewN_drewN _ _ _) (congrArg (World.drewN _) (Nat.add_assoc _ _ _))⟩))))
      go_ret
      exact ⟨by rfl, by repeat (first | exact Drawn0.refl _ | apply Drawn0.step)⟩
end Go.Proofs.Ytkpipmojkhikaaa.PAll
