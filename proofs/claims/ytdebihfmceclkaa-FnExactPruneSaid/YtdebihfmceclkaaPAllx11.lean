/- Written by a program of this session over the loaded program: Go functions as plain Lean functions, and that a call comes to what they say. -/
import Derived.Test.YtdebihfmceclkaaPAllx0
import Derived.Test.YtdebihfmceclkaaPAllx7
import Derived.Test.YtdebihfmceclkaaPAllx9
import Derived.Test.YtdebihfmceclkaaPAllx10
import Derived.Test.YtdebihfmceclkaaSq
namespace Go.Proofs.Ytdebihfmceclkaa.PAll
open Go.RowKit Go.Proofs.YtdebihfmceclkaaW.PrintWords Go.Proofs.YtdebihfmceclkaaW.PrintLast Go.Proofs.YtdebihfmceclkaaW.PrintMore Go.Proofs.YtdebihfmceclkaaW.Sq
attribute [local go_sem] max2_int min2_int max_two min_two max_three min_three max_four min_four   -- for this text's walks alone
set_option linter.unusedVariables false
set_option linter.unusedSimpArgs false

/-! ### spec_Prune: function 36 -/
mutual
def spec_Prune.l0 : Nat → List (S36) → List (S36) → List Bool → List Int → Int → Option ((List (S36)))
 | 0, _, _, _, _, _ => none
 | k + 1, x0, x3, x4, x5, x6 => if x6 < (x0.length : Int) then (if x5.length < 17592186044416 then ((some (x5 ++ [(x3.length : Int)] : List Int)).bind fun y208 => (if 0 ≤ x6 then (if x6 < (x4.length : Int) then (if rdOf false x4 x6 = true then ((spec_Parts.f k ((rd_T36 x0 x6).f0) ((rd_T36 x0 x6).f1) ((rd_T36 x0 x6).f2) ((rd_T36 x0 x6).f3) ((rd_T36 x0 x6).f4) ((rd_T36 x0 x6).f5)).bind fun t214 => (if (t214.length : Int) > 0 then (if 0 ≤ ((rd_T36 x0 x6).f3) then (if ((rd_T36 x0 x6).f3) < (y208.length : Int) then (spec_Prune.j1 k x0 x3 x4 y208 x6 t214 ((rd_T36 x0 x6).f0) ((rd_T36 x0 x6).f1) ((rd_T36 x0 x6).f2) (rd y208 ((rd_T36 x0 x6).f3)) ((rd_T36 x0 x6).f4) ((rd_T36 x0 x6).f5)) else (none)) else (none)) else (spec_Prune.j1 k x0 x3 x4 y208 x6 t214 ((rd_T36 x0 x6).f0) ((rd_T36 x0 x6).f1) ((rd_T36 x0 x6).f2) ((rd_T36 x0 x6).f3) ((rd_T36 x0 x6).f4) ((rd_T36 x0 x6).f5)))) else (spec_Prune.l0 k x0 x3 x4 y208 (wrap64 (x6 + 1)))) else (none)) else (none))) else (none)) else (some x3)
def spec_Prune.j1 : Nat → List (S36) → List (S36) → List Bool → List Int → Int → List Int → Int → Int → Int → Int → Int → Int → Option ((List (S36)))
 | 0, _, _, _, _, _, _, _, _, _, _, _, _ => none
 | k + 1, x0, x3, x4, x5, x6, x8, x214000, x214001, x214002, x214003, x214004, x214005 => if (x8.length : Int) > 1 then (if 0 ≤ x214004 then (if x214004 < (x5.length : Int) then (if (x8.length : Int) > 2 then (if 0 ≤ x214005 then (if x214005 < (x5.length : Int) then (if x3.length < 2932031007402 then (spec_Prune.l0 k x0 (x3 ++ [(⟨x214000, x214001, x214002, x214003, rd x5 x214004, rd x5 x214005⟩ : S36)]) x4 x5 (wrap64 (x6 + 1))) else (none)) else (none)) else (none)) else (if x3.length < 2932031007402 then (spec_Prune.l0 k x0 (x3 ++ [(⟨x214000, x214001, x214002, x214003, rd x5 x214004, x214005⟩ : S36)]) x4 x5 (wrap64 (x6 + 1))) else (none))) else (none)) else (none)) else (if (x8.length : Int) > 2 then (if 0 ≤ x214005 then (if x214005 < (x5.length : Int) then (if x3.length < 2932031007402 then (spec_Prune.l0 k x0 (x3 ++ [(⟨x214000, x214001, x214002, x214003, x214004, rd x5 x214005⟩ : S36)]) x4 x5 (wrap64 (x6 + 1))) else (none)) else (none)) else (none)) else (if x3.length < 2932031007402 then (spec_Prune.l0 k x0 (x3 ++ [(⟨x214000, x214001, x214002, x214003, x214004, x214005⟩ : S36)]) x4 x5 (wrap64 (x6 + 1))) else (none)))
end
def spec_Prune.f (k : Nat) (l0 : List (S36)) : Option ((List (S36))) := (some (([] : List (S36)) : List (S36))).bind fun y198 => ((spec_TermOk.f k l0).bind fun t201 => (if t201 = true then ((spec_l02Reach.f k l0).bind fun t202 => (spec_Prune.l0 k l0 y198 t202 (([] : List Int)) 0)) else (some y198)))
theorem spec_Prune.mono_l : ∀ k, (∀ y0 y1 y2 y3 y4, LeO (spec_Prune.l0 k y0 y1 y2 y3 y4) (spec_Prune.l0 (k + 1) y0 y1 y2 y3 y4)) ∧ (∀ y0 y1 y2 y3 y4 y5 y6 y7 y8 y9 y10 y11, LeO (spec_Prune.j1 k y0 y1 y2 y3 y4 y5 y6 y7 y8 y9 y10 y11) (spec_Prune.j1 (k + 1) y0 y1 y2 y3 y4 y5 y6 y7 y8 y9 y10 y11))
 | 0 => ⟨fun _ _ _ _ _ r h => by simp [spec_Prune.l0] at h, fun _ _ _ _ _ _ _ _ _ _ _ _ r h => by simp [spec_Prune.j1] at h⟩
 | k + 1 => by
  obtain ⟨ih0, ih1⟩ := spec_Prune.mono_l k
  refine ⟨?_, ?_⟩
  ·intro y0 y1 y2 y3 y4
   unfold spec_Prune.l0
   repeat' first
   | (with_reducible exact ih0 _ _ _ _ _)
   | (with_reducible exact ih1 _ _ _ _ _ _ _ _ _ _ _ _)
   | (with_reducible exact spec_Parts.mono _ _ _ _ _ _ _)
   | (with_reducible exact spec_TermOk.mono _ _)
   | (with_reducible exact spec_l02Reach.mono _ _)
   | (with_reducible exact LeO.refl _)
   | (with_reducible exact LeO.none _)
   | (with_reducible refine LeO.ite ?_ ?_)
   | (with_reducible refine LeO.bind ?_ (fun _ => ?_))
   | exact ih0 _ _ _ _ _
   | exact ih1 _ _ _ _ _ _ _ _ _ _ _ _
   | exact spec_Parts.mono _ _ _ _ _ _ _
   | exact spec_TermOk.mono _ _
   | exact spec_l02Reach.mono _ _
   | exact LeO.none _
   | refine LeO.ite ?_ ?_
   | refine LeO.bind ?_ (fun _ => ?_)
  ·intro y0 y1 y2 y3 y4 y5 y6 y7 y8 y9 y10 y11
   unfold spec_Prune.j1
   repeat' first
   | (with_reducible exact ih0 _ _ _ _ _)
   | (with_reducible exact ih1 _ _ _ _ _ _ _ _ _ _ _ _)
   | (with_reducible exact spec_Parts.mono _ _ _ _ _ _ _)
   | (with_reducible exact spec_TermOk.mono _ _)
   | (with_reducible exact spec_l02Reach.mono _ _)
   | (with_reducible exact LeO.refl _)
   | (with_reducible exact LeO.none _)
   | (with_reducible refine LeO.ite ?_ ?_)
   | (with_reducible refine LeO.bind ?_ (fun _ => ?_))
   | exact ih0 _ _ _ _ _
   | exact ih1 _ _ _ _ _ _ _ _ _ _ _ _
   | exact spec_Parts.mono _ _ _ _ _ _ _
   | exact spec_TermOk.mono _ _
   | exact spec_l02Reach.mono _ _
   | exact LeO.none _
   | refine LeO.ite ?_ ?_
   | refine LeO.bind ?_ (fun _ => ?_)
theorem spec_Prune.mono : ∀ a0 k, LeO (spec_Prune.f k a0) (spec_Prune.f (k + 1) a0) := by
 intro a0 k
 obtain ⟨ih0, ih1⟩ := spec_Prune.mono_l k
 unfold spec_Prune.f
 repeat' first
   | (with_reducible exact ih0 _ _ _ _ _)
   | (with_reducible exact ih1 _ _ _ _ _ _ _ _ _ _ _ _)
   | (with_reducible exact spec_Parts.mono _ _ _ _ _ _ _)
   | (with_reducible exact spec_TermOk.mono _ _)
   | (with_reducible exact spec_l02Reach.mono _ _)
   | (with_reducible exact LeO.refl _)
   | (with_reducible exact LeO.none _)
   | (with_reducible refine LeO.ite ?_ ?_)
   | (with_reducible refine LeO.bind ?_ (fun _ => ?_))
   | exact ih0 _ _ _ _ _
   | exact ih1 _ _ _ _ _ _ _ _ _ _ _ _
   | exact spec_Parts.mono _ _ _ _ _ _ _
   | exact spec_TermOk.mono _ _
   | exact spec_l02Reach.mono _ _
   | exact LeO.none _
   | refine LeO.ite ?_ ?_
   | refine LeO.bind ?_ (fun _ => ?_)
set_option maxHeartbeats 8000000 in
set_option maxRecDepth 100000 in
theorem spec_Prune.calls (k : Nat) (A0 : Option Addr) (c0 : Nat) (l0 : List (S36)) (r : List (S36)) (w : World) (hr0 : Kd.C k36 w A0 l0.length l0) (hc0 : l0.length ≤ c0) (h : spec_Prune.f k l0 = some r) :
  Calls Try.prog 36 #[.slice A0 l0.length c0] w fun e w' => ∃ v0_ : Value, e = .returned (v0_) ∧ Kd.R k36 36 w' w.heap.size (fun _ => True) v0_ r ∧ Below w.heap.size w w' := by
 have hu36 := Try.underlying36
 have HR0 := Aside0.mk hr0
 have HC0 := Aside0.mk hc0
 clear hr0 hc0
 have HB := Aside0.mk (Below.refl w.heap.size w)
 have H : ((some (([] : List (S36)) : List (S36))).bind fun y198 => ((spec_TermOk.f k l0).bind fun t201 => (if t201 = true then ((spec_l02Reach.f k l0).bind fun t202 => (spec_Prune.l0 k l0 y198 t202 (([] : List Int)) 0)) else (some y198)))) = some r := h
 clear h
 obtain ⟨y198, hy198⟩ : ∃ y_ : List (S36), y_ = (([] : List (S36))) := ⟨_, rfl⟩
 replace H : ((spec_TermOk.f k l0).bind fun t201 => (if t201 = true then ((spec_l02Reach.f k l0).bind fun t202 => (spec_Prune.l0 k l0 y198 t202 (([] : List Int)) 0)) else (some y198))) = some r := by (have H2_ := (Option.bind_some _ _).symm.trans H; rw [hy198]; with_reducible exact H2_)
 have Ny198 := Aside0.mk hy198
 clear hy198
 replace H := Option.bind_eq_some_iff.mp H
 obtain ⟨t201, A20, H⟩ := H
 replace H : (if t201 = true then ((spec_l02Reach.f k l0).bind fun t202 => (spec_Prune.l0 k l0 y198 t202 (([] : List Int)) 0)) else (some y198)) = some r := H
 have A2 := Aside0.mk A20
 clear A20
 by_cases c3 : t201 = true
 ·subst c3
  have H1 : ((spec_l02Reach.f k l0).bind fun t202 => (spec_Prune.l0 k l0 y198 t202 (([] : List Int)) 0)) = some r := by rw [if_pos rfl] at H; exact H
  clear H
  have H := H1
  clear H1
  replace H := Option.bind_eq_some_iff.mp H
  obtain ⟨t202, A40, H⟩ := H
  replace H : (spec_Prune.l0 k l0 y198 t202 (([] : List Int)) 0) = some r := H
  have A4 := Aside0.mk A40
  clear A40
  obtain ⟨y205, hy205⟩ : ∃ y_ : List Int, y_ = (([] : List Int)) := ⟨_, rfl⟩
  replace H : (spec_Prune.l0 k l0 y198 t202 y205 0) = some r := by (rw [hy205]; with_reducible exact H)
  have Ny205 := Aside0.mk hy205
  clear hy205
  have H' := Aside0.mk H
  clear H
  go_enter Try.func36, Try.ntmps36
  go_wp2_with (first | ((with_reducible refine gate_dst (N := 9) rfl ?_); refine Kd.R_lit k36 _ 36 ?hg (N := 9) ?hd (xs := ([] : List (S36))) (inner := []) (ok := fun _ => True) (okp := fun _ => True) ?hr ?hp (fun _ hk => hk) trivial (Below.refl _ _) (Nat.le_refl _) (by simp) ?_; (case hd => rfl); (case hg => rfl); (case hr => (go_simp; done)); (case hp => exact (Reps.none _ _)); intro v199 w5 ho6 hb hg_ hnew_; clear hg_ hnew_; (rw [← Ny198.out] at ho6); have n0_ := Aside0.mk (Kd.R_lower ho6 (below_size (by repeat (first | (with_reducible first | exact HB.out | apply below_alloc | apply pw_below_drewN | apply below_drew1))))); have n1_ := Aside0.mk (below_step (by repeat (first | (with_reducible first | exact HB.out | apply below_alloc | apply pw_below_drewN | apply below_drew1))) hb); clear HB; have HO200 := n0_; have HB := n1_; clear n0_ n1_; clear hb ho6) | ((with_reducible refine gate_callee (f := 13) rfl ?_); refine goesL_ (some 11) rfl rfl Try.func13 (by kernel_rfl) rfl #[.slice A0 l0.length c0] rfl (by (try simp only [List.map_toArray, List.map_cons, List.map_nil]); rfl) ?_; (with_reducible refine (spec_TermOk.calls k _ _ l0 true _ ?side1 ?side2 A2.out).mono ?_); (case side1 => repeat (first | exact (Kd.C_below HR0.out HB.out) | (with_reducible refine Kd.C_alloc ?_ _) | (with_reducible refine Kd.C_drewN ?_ _) | (with_reducible refine Kd.C_drew ?_))); (case side2 => exact HC0.out); rintro e w7 ⟨rfl, hb⟩; refine ⟨_, rfl, ?_⟩; have n0_ := Aside0.mk (Kd.R_below (by (with_reducible repeat (first | apply Kd.R_alloc | apply Kd.R_drewN | apply Kd.R_drew)); exact HO200.out) hb); have n1_ := Aside0.mk (below_step (by repeat (first | (with_reducible first | exact HB.out | apply below_alloc | apply pw_below_drewN | apply below_drew1))) hb); clear HO200; clear HB; have HO200 := n0_; have HB := n1_; clear n0_ n1_; (try clear hb); (try clear hb2); (try clear hk); (try clear hi)) | ((with_reducible refine gate_callee (f := 76) rfl ?_); refine goesL_ (some 15) rfl rfl Try.func76 (by kernel_rfl) rfl #[.slice A0 l0.length c0] rfl (by (try simp only [List.map_toArray, List.map_cons, List.map_nil]); rfl) ?_; (with_reducible refine (spec_l02Reach.calls k _ _ l0 t202 _ ?side1 ?side2 A4.out).mono ?_); (case side1 => repeat (first | exact (Kd.C_below HR0.out HB.out) | (with_reducible refine Kd.C_alloc ?_ _) | (with_reducible refine Kd.C_drewN ?_ _) | (with_reducible refine Kd.C_drew ?_))); (case side2 => exact HC0.out); rintro e w8 ⟨v203, rfl, ho0, hb⟩; refine ⟨_, rfl, ?_⟩; have n0_ := Aside0.mk (Kd.R_below (by (with_reducible repeat (first | apply Kd.R_alloc | apply Kd.R_drewN | apply Kd.R_drew)); exact HO200.out) hb); have n1_ := Aside0.mk (Kd.R_lower ho0 (below_size (by repeat (first | (with_reducible first | exact HB.out | apply below_alloc | apply pw_below_drewN | apply below_drew1))))); have n2_ := Aside0.mk (below_step (by repeat (first | (with_reducible first | exact HB.out | apply below_alloc | apply pw_below_drewN | apply below_drew1))) hb); clear HO200; clear HB; have HO200 := n0_; have HO204 := n1_; have HB := n2_; clear n0_ n1_ n2_; (try clear hb); (try clear hb2); (try clear hk); (try clear hi); (try clear ho0)) | ((with_reducible refine gate_dst (N := 16) rfl ?_); refine Kd.R_lit (Kd.int .i64) _ 3 ?hg (N := 16) ?hd (xs := ([] : List Int)) (inner := []) (ok := fun _ => True) (okp := fun _ => True) ?hr ?hp (fun _ hk => hk) trivial (Below.refl _ _) (Nat.le_refl _) (by simp) ?_; (case hd => rfl); (case hg => rfl); (case hr => (go_simp; done)); (case hp => exact (Reps.none _ _)); intro v206 w9 ho10 hb hg_ hnew_; clear hg_ hnew_; (rw [← Ny205.out] at ho10); have n0_ := Aside0.mk (Kd.R_below (by (with_reducible repeat (first | apply Kd.R_alloc | apply Kd.R_drewN | apply Kd.R_drew)); exact HO200.out) hb); have n1_ := Aside0.mk (Kd.R_below (by (with_reducible repeat (first | apply Kd.R_alloc | apply Kd.R_drewN | apply Kd.R_drew)); exact HO204.out) hb); have n2_ := Aside0.mk (Kd.R_lower ho10 (below_size (by repeat (first | (with_reducible first | exact HB.out | apply below_alloc | apply pw_below_drewN | apply below_drew1))))); have n3_ := Aside0.mk (below_step (by repeat (first | (with_reducible first | exact HB.out | apply below_alloc | apply pw_below_drewN | apply below_drew1))) hb); clear HO200; clear HO204; clear HB; have HO200 := n0_; have HO204 := n1_; have HO207 := n2_; have HB := n3_; clear n0_ n1_ n2_ n3_; clear hb ho10))
  go_loopg [3, 5, 6] k (fun kq v3 v5 v6 w' => ∃ (x3_1 : List (S36)) (x5_1 : List Int) (x6_1 : Int), v6 = .int .i64 x6_1 ∧ Aside0 (spec_Prune.l0 kq l0 x3_1 t202 x5_1 x6_1 = some r) ∧ Aside0 (kq ≤ k) ∧ Aside0 (Kd.R k36 36 w' w.heap.size (fun _ => True) v3 x3_1) ∧ Aside0 (Kd.R Kd.bool 4 w' w.heap.size (fun _ => True) v203 t202) ∧ Aside0 (Kd.R (Kd.int .i64) 3 w' w.heap.size (fun _ => True) v5 x5_1) ∧ Aside0 (Below w.heap.size w w'))
  case atStart => exact ⟨(y198), (y205), (0), (by rfl), H', ⟨Nat.le_refl _⟩, ⟨by (with_reducible repeat (first | apply Kd.R_alloc | apply Kd.R_drewN | apply Kd.R_drew)); exact HO200.out⟩, ⟨by (with_reducible repeat (first | apply Kd.R_alloc | apply Kd.R_drewN | apply Kd.R_drew)); exact HO204.out⟩, ⟨by (with_reducible repeat (first | apply Kd.R_alloc | apply Kd.R_drewN | apply Kd.R_drew)); exact HO207.out⟩, ⟨by repeat (first | (with_reducible first | exact HB.out | apply below_alloc | apply pw_below_drewN | apply below_drew1))⟩⟩
  case round =>
   clear H'
   obtain ⟨x3_1, x5_1, x6_1, rfl, HA, HK1, HO_3, HO_4, HO_5, HB⟩ := hrel
   cases gk with
   | zero => exact absurd HA.out (by simp [spec_Prune.l0])
   | succ k1 =>
    have H := HA.out
    clear HA
    simp only [spec_Prune.l0] at H
    by_cases c11 : x6_1 < (l0.length : Int)
    ·rw [if_pos c11] at H
     have c11b0 : decide (x6_1 < (l0.length : Int)) = true := decide_eq_true c11
     clear c11
     by_cases c12 : x5_1.length < 17592186044416
     ·rw [if_pos c12] at H
      have LMc12 := Aside0.mk c12
      clear c12
      obtain ⟨y208, hy208⟩ : ∃ y_ : List Int, y_ = (x5_1 ++ [(x3_1.length : Int)]) := ⟨_, rfl⟩
      replace H : (if 0 ≤ x6_1 then (if x6_1 < (t202.length : Int) then (if rdOf false t202 x6_1 = true then ((spec_Parts.f k1 ((rd_T36 l0 x6_1).f0) ((rd_T36 l0 x6_1).f1) ((rd_T36 l0 x6_1).f2) ((rd_T36 l0 x6_1).f3) ((rd_T36 l0 x6_1).f4) ((rd_T36 l0 x6_1).f5)).bind fun t214 => (if (t214.length : Int) > 0 then (if 0 ≤ ((rd_T36 l0 x6_1).f3) then (if ((rd_T36 l0 x6_1).f3) < (y208.length : Int) then (spec_Prune.j1 k1 l0 x3_1 t202 y208 x6_1 t214 ((rd_T36 l0 x6_1).f0) ((rd_T36 l0 x6_1).f1) ((rd_T36 l0 x6_1).f2) (rd y208 ((rd_T36 l0 x6_1).f3)) ((rd_T36 l0 x6_1).f4) ((rd_T36 l0 x6_1).f5)) else (none)) else (none)) else (spec_Prune.j1 k1 l0 x3_1 t202 y208 x6_1 t214 ((rd_T36 l0 x6_1).f0) ((rd_T36 l0 x6_1).f1) ((rd_T36 l0 x6_1).f2) ((rd_T36 l0 x6_1).f3) ((rd_T36 l0 x6_1).f4) ((rd_T36 l0 x6_1).f5)))) else (spec_Prune.l0 k1 l0 x3_1 t202 y208 (wrap64 (x6_1 + 1)))) else (none)) else (none)) = some r := by (have H2_ := (Option.bind_some _ _).symm.trans H; rw [hy208]; with_reducible exact H2_)
      have Ny208 := Aside0.mk hy208
      clear hy208
      by_cases c13 : 0 ≤ x6_1
      ·rw [if_pos c13] at H
       have c13b0 : decide (0 ≤ x6_1) = true := decide_eq_true c13
       clear c13
       by_cases c14 : x6_1 < (t202.length : Int)
       ·rw [if_pos c14] at H
        have c14b0 : decide (x6_1 < (t202.length : Int)) = true := decide_eq_true c14
        clear c14
        obtain ⟨bq15, hbq15⟩ : ∃ b_ : Bool, b_ = (rdOf false t202 x6_1) := ⟨_, rfl⟩
        replace H : (if bq15 = true then ((spec_Parts.f k1 ((rd_T36 l0 x6_1).f0) ((rd_T36 l0 x6_1).f1) ((rd_T36 l0 x6_1).f2) ((rd_T36 l0 x6_1).f3) ((rd_T36 l0 x6_1).f4) ((rd_T36 l0 x6_1).f5)).bind fun t214 => (if (t214.length : Int) > 0 then (if 0 ≤ ((rd_T36 l0 x6_1).f3) then (if ((rd_T36 l0 x6_1).f3) < (y208.length : Int) then (spec_Prune.j1 k1 l0 x3_1 t202 y208 x6_1 t214 ((rd_T36 l0 x6_1).f0) ((rd_T36 l0 x6_1).f1) ((rd_T36 l0 x6_1).f2) (rd y208 ((rd_T36 l0 x6_1).f3)) ((rd_T36 l0 x6_1).f4) ((rd_T36 l0 x6_1).f5)) else (none)) else (none)) else (spec_Prune.j1 k1 l0 x3_1 t202 y208 x6_1 t214 ((rd_T36 l0 x6_1).f0) ((rd_T36 l0 x6_1).f1) ((rd_T36 l0 x6_1).f2) ((rd_T36 l0 x6_1).f3) ((rd_T36 l0 x6_1).f4) ((rd_T36 l0 x6_1).f5)))) else (spec_Prune.l0 k1 l0 x3_1 t202 y208 (wrap64 (x6_1 + 1)))) = some r := by rw [← hbq15] at H; exact H
        have Nbq15 := Aside0.mk hbq15
        clear hbq15
        by_cases c16 : bq15 = true
        ·subst c16
         have H1 : ((spec_Parts.f k1 ((rd_T36 l0 x6_1).f0) ((rd_T36 l0 x6_1).f1) ((rd_T36 l0 x6_1).f2) ((rd_T36 l0 x6_1).f3) ((rd_T36 l0 x6_1).f4) ((rd_T36 l0 x6_1).f5)).bind fun t214 => (if (t214.length : Int) > 0 then (if 0 ≤ ((rd_T36 l0 x6_1).f3) then (if ((rd_T36 l0 x6_1).f3) < (y208.length : Int) then (spec_Prune.j1 k1 l0 x3_1 t202 y208 x6_1 t214 ((rd_T36 l0 x6_1).f0) ((rd_T36 l0 x6_1).f1) ((rd_T36 l0 x6_1).f2) (rd y208 ((rd_T36 l0 x6_1).f3)) ((rd_T36 l0 x6_1).f4) ((rd_T36 l0 x6_1).f5)) else (none)) else (none)) else (spec_Prune.j1 k1 l0 x3_1 t202 y208 x6_1 t214 ((rd_T36 l0 x6_1).f0) ((rd_T36 l0 x6_1).f1) ((rd_T36 l0 x6_1).f2) ((rd_T36 l0 x6_1).f3) ((rd_T36 l0 x6_1).f4) ((rd_T36 l0 x6_1).f5)))) = some r := by rw [if_pos rfl] at H; exact H
         clear H
         have H := H1
         clear H1
         replace H := Option.bind_eq_some_iff.mp H
         obtain ⟨t214, A170, H⟩ := H
         replace H : (if (t214.length : Int) > 0 then (if 0 ≤ ((rd_T36 l0 x6_1).f3) then (if ((rd_T36 l0 x6_1).f3) < (y208.length : Int) then (spec_Prune.j1 k1 l0 x3_1 t202 y208 x6_1 t214 ((rd_T36 l0 x6_1).f0) ((rd_T36 l0 x6_1).f1) ((rd_T36 l0 x6_1).f2) (rd y208 ((rd_T36 l0 x6_1).f3)) ((rd_T36 l0 x6_1).f4) ((rd_T36 l0 x6_1).f5)) else (none)) else (none)) else (spec_Prune.j1 k1 l0 x3_1 t202 y208 x6_1 t214 ((rd_T36 l0 x6_1).f0) ((rd_T36 l0 x6_1).f1) ((rd_T36 l0 x6_1).f2) ((rd_T36 l0 x6_1).f3) ((rd_T36 l0 x6_1).f4) ((rd_T36 l0 x6_1).f5))) = some r := H
         have A17 := Aside0.mk A170
         clear A170
         have HC18 := Aside0.mk H
         clear H
         obtain ⟨Ao19, co19, eo19⟩ := Kd.R_slice HO_3.out
         subst eo19
         go_upto_if 41 with (first | ((with_reducible refine gate_builtin (b := .append) (xs := #[.tmp 23, .tmp 26]) rfl ?_); at_builtin; refine Kd.R_append (Kd.int .i64) (w0 := w) w.heap.size rfl (.tmp 23) (.tmp 26) 39 3 (.int .i64 0) 8 rfl Try.underlying39 info3 rfl (by decide) (by omega) u5 x5_1 (x3_1.length : Int) [.int .i64 (x3_1.length : Int)] (fun _ => True) (fun _ => False) rfl rfl ?aP (fun _ hk => hk.elim) ?aF ?aO ?aB ?aS ?aL ?_; (case aP => exact rfl); (case aB => exact (by repeat (first | (with_reducible first | exact HB.out | apply below_alloc | apply pw_below_drewN | apply below_drew1)))); (case aF => exact (fun _ _ => trivial)); (case aO => exact (by (with_reducible repeat (first | apply Kd.R_alloc | apply Kd.R_drewN | apply Kd.R_drew)); exact HO_5.out)); (case aS => exact (below_size (by repeat (first | (with_reducible first | exact HB.out | apply below_alloc | apply pw_below_drewN | apply below_drew1))))); (case aL => have := LMc12.out; omega); intro v209 w20 ho hb hg hat; rw [← Ny208.out] at ho; have n0_ := Aside0.mk (Kd.R_over' (by (with_reducible repeat (first | apply Kd.R_alloc | apply Kd.R_drewN | apply Kd.R_drew)); exact HO_3.out) (Kd.R_typed (by (with_reducible repeat (first | apply Kd.R_alloc | apply Kd.R_drewN | apply Kd.R_drew)); exact HO_5.out)) (by decide) hg); have n1_ := Aside0.mk (Kd.R_over' (by (with_reducible repeat (first | apply Kd.R_alloc | apply Kd.R_drewN | apply Kd.R_drew)); exact HO_4.out) (Kd.R_typed (by (with_reducible repeat (first | apply Kd.R_alloc | apply Kd.R_drewN | apply Kd.R_drew)); exact HO_5.out)) (by decide) hg); have n2_ := Aside0.mk (hb); have n3_ := Aside0.mk (ho); clear HO_3; clear HO_4; clear HB; clear HO_5; have HO_3 := n0_; have HO_4 := n1_; have HB := n2_; have HO210 := n3_; clear n0_ n1_ n2_ n3_; clear ho hb hg hat; obtain ⟨Ao21, co21, eo21⟩ := Kd.R_slice HO_4.out; subst eo21; have p211 : 0 ≤ (x6_1 : Int) := of_decide_eq_true (by assumption); have q211 : x6_1 < (t202.length : Int) := of_decide_eq_true (by assumption); obtain ⟨ad211, e211, hx211_0⟩ := Kd.at_bool (Kd.R_reads' HO_4.out).2.2 x6_1 p211 q211; (try rw [← Nbq15.out] at hx211_0); cases e211; replace p211 := eq_true p211; replace q211 := eq_true q211; have p212 : 0 ≤ (x6_1 : Int) := of_decide_eq_true (by assumption); have q212 : x6_1 < (l0.length : Int) := of_decide_eq_true (by assumption); obtain ⟨ad212, e212, hx212_0, hx212_1, hx212_2, hx212_3, hx212_4, hx212_5⟩ := at_T36 HR0.out x6_1 p212 q212; cases e212; replace hx212_0 := pw_cell_below HB.out hx212_0; replace hx212_1 := pw_cell_below HB.out hx212_1; replace hx212_2 := pw_cell_below HB.out hx212_2; replace hx212_3 := pw_cell_below HB.out hx212_3; replace hx212_4 := pw_cell_below HB.out hx212_4; replace hx212_5 := pw_cell_below HB.out hx212_5; replace p212 := eq_true p212; replace q212 := eq_true q212) | ((with_reducible refine gate_dst (N := 7) rfl ?_); refine box_event ?hg (N := 7) ?hd (cs := #[.int .i64 0, .int .i64 0, .int .i64 0, .int .i64 0, .int .i64 0, .int .i64 0]) (t := 36) ?hr ?_; (case hd => rfl); (case hg => rfl); (case hr => first | (go_simp; done) | (go_simp; rfl)); intro gb213 hg w22 hbox hb; have n0_ := Aside0.mk (Kd.R_below (Kd.R_elderB (by (with_reducible repeat (first | apply Kd.R_alloc | apply Kd.R_drewN | apply Kd.R_drew)); exact HO_3.out) gb213 (Nat.le_of_eq hg.symm)) hb); have n1_ := Aside0.mk (Kd.R_below (by (with_reducible repeat (first | apply Kd.R_alloc | apply Kd.R_drewN | apply Kd.R_drew)); exact HO_4.out) hb); have n2_ := Aside0.mk (Kd.R_below (by (with_reducible repeat (first | apply Kd.R_alloc | apply Kd.R_drewN | apply Kd.R_drew)); exact HO210.out) hb); have n3_ := Aside0.mk (below_step (by repeat (first | (with_reducible first | exact HB.out | apply below_alloc | apply pw_below_drewN | apply below_drew1))) hb); have n4_ := Aside0.mk (hbox); have n5_ := Aside0.mk ((by rw [hg]; exact (below_size (by repeat (first | (with_reducible first | exact HB.out | apply below_alloc | apply pw_below_drewN | apply below_drew1)))) : w.heap.size ≤ gb213)); have n6_ := Aside0.mk ((by rw [hg]; exact (below_size (by repeat (first | (with_reducible first | exact HB.out | apply below_alloc | apply pw_below_drewN | apply below_drew1)))) : w.heap.size ≤ gb213)); clear HO_3; clear HO_4; clear HO210; clear HB; have HO_3 := n0_; have HO_4 := n1_; have HO210 := n2_; have HB := n3_; have BK213 := n4_; have GW213 := n5_; have GE213 := n6_; clear n0_ n1_ n2_ n3_ n4_ n5_ n6_; clear hb hbox hg; obtain ⟨hcz23_0, hcz23_1, hcz23_2, hcz23_3, hcz23_4, hcz23_5⟩ := cz6 BK213.out; obtain ⟨hfz23_0, hfz23_1, hfz23_2, hfz23_3, hfz23_4, hfz23_5⟩ := fz6 BK213.out) | ((with_reducible refine gate_callee (f := 84) rfl ?_); refine goesL_ (some 38) rfl rfl Try.func84 (by kernel_rfl) rfl #[.agg #[.int .i64 ((rd_T36 l0 x6_1).f0), .int .i64 ((rd_T36 l0 x6_1).f1), .int .i64 ((rd_T36 l0 x6_1).f2), .int .i64 ((rd_T36 l0 x6_1).f3), .int .i64 ((rd_T36 l0 x6_1).f4), .int .i64 ((rd_T36 l0 x6_1).f5)]] rfl (by (try simp only [List.map_toArray, List.map_cons, List.map_nil]); first | done | rfl | (simp only [List.length_drop, List.length_take]; rfl)) ?_; (with_reducible refine (spec_Parts.calls k1 ((rd_T36 l0 x6_1).f0) ((rd_T36 l0 x6_1).f1) ((rd_T36 l0 x6_1).f2) ((rd_T36 l0 x6_1).f3) ((rd_T36 l0 x6_1).f4) ((rd_T36 l0 x6_1).f5) t214 _ A17.out).mono ?_); rintro e w24 ⟨v215, rfl, ho0, hb⟩; refine ⟨_, rfl, ?_⟩; have n0_ := Aside0.mk (Kd.R_below (by (with_reducible repeat (first | apply Kd.R_alloc | apply Kd.R_drewN | apply Kd.R_drew)); exact (Kd.R_mono (Kd.R_far (p := ⟨gb213, 5, none⟩) (Kd.R_far (p := ⟨gb213, 4, none⟩) (Kd.R_far (p := ⟨gb213, 3, none⟩) (Kd.R_far (p := ⟨gb213, 2, none⟩) (Kd.R_far (p := ⟨gb213, 1, none⟩) (Kd.R_far (p := ⟨gb213, 0, none⟩) (Kd.R_mono HO_3.out (fun k_ hk => (⟨hk, hk.2⟩ : _ ∧ k_ ≠ gb213))) (fun _ hk => hk.2) (.int .i64 ((rd_T36 l0 x6_1).f0))) (fun _ hk => hk.2) (.int .i64 ((rd_T36 l0 x6_1).f1))) (fun _ hk => hk.2) (.int .i64 ((rd_T36 l0 x6_1).f2))) (fun _ hk => hk.2) (.int .i64 ((rd_T36 l0 x6_1).f3))) (fun _ hk => hk.2) (.int .i64 ((rd_T36 l0 x6_1).f4))) (fun _ hk => hk.2) (.int .i64 ((rd_T36 l0 x6_1).f5))) (fun _ h_ => h_.1))) hb); have n1_ := Aside0.mk (Kd.R_below (by (with_reducible repeat (first | apply Kd.R_alloc | apply Kd.R_drewN | apply Kd.R_drew)); exact (Kd.R_mono (Kd.R_far (p := ⟨gb213, 5, none⟩) (Kd.R_far (p := ⟨gb213, 4, none⟩) (Kd.R_far (p := ⟨gb213, 3, none⟩) (Kd.R_far (p := ⟨gb213, 2, none⟩) (Kd.R_far (p := ⟨gb213, 1, none⟩) (Kd.R_far (p := ⟨gb213, 0, none⟩) (Kd.R_types HO_4.out BK213.out (by decide)) (fun _ hk => hk.2) (.int .i64 ((rd_T36 l0 x6_1).f0))) (fun _ hk => hk.2) (.int .i64 ((rd_T36 l0 x6_1).f1))) (fun _ hk => hk.2) (.int .i64 ((rd_T36 l0 x6_1).f2))) (fun _ hk => hk.2) (.int .i64 ((rd_T36 l0 x6_1).f3))) (fun _ hk => hk.2) (.int .i64 ((rd_T36 l0 x6_1).f4))) (fun _ hk => hk.2) (.int .i64 ((rd_T36 l0 x6_1).f5))) (fun _ h_ => h_.1))) hb); have n2_ := Aside0.mk (Kd.R_elder' (by (with_reducible repeat (first | apply Kd.R_alloc | apply Kd.R_drewN | apply Kd.R_drew)); exact (Kd.R_mono (Kd.R_far (p := ⟨gb213, 5, none⟩) (Kd.R_far (p := ⟨gb213, 4, none⟩) (Kd.R_far (p := ⟨gb213, 3, none⟩) (Kd.R_far (p := ⟨gb213, 2, none⟩) (Kd.R_far (p := ⟨gb213, 1, none⟩) (Kd.R_far (p := ⟨gb213, 0, none⟩) (Kd.R_types HO210.out BK213.out (by decide)) (fun _ hk => hk.2) (.int .i64 ((rd_T36 l0 x6_1).f0))) (fun _ hk => hk.2) (.int .i64 ((rd_T36 l0 x6_1).f1))) (fun _ hk => hk.2) (.int .i64 ((rd_T36 l0 x6_1).f2))) (fun _ hk => hk.2) (.int .i64 ((rd_T36 l0 x6_1).f3))) (fun _ hk => hk.2) (.int .i64 ((rd_T36 l0 x6_1).f4))) (fun _ hk => hk.2) (.int .i64 ((rd_T36 l0 x6_1).f5))) (fun _ h_ => h_.1))) (Kd.R_base ho0) hb); have n3_ := Aside0.mk (Kd.R_lower (Kd.R_new' ho0 (Kd.R_lt (by (with_reducible repeat (first | apply Kd.R_alloc | apply Kd.R_drewN | apply Kd.R_drew)); exact (Kd.R_mono (Kd.R_far (p := ⟨gb213, 5, none⟩) (Kd.R_far (p := ⟨gb213, 4, none⟩) (Kd.R_far (p := ⟨gb213, 3, none⟩) (Kd.R_far (p := ⟨gb213, 2, none⟩) (Kd.R_far (p := ⟨gb213, 1, none⟩) (Kd.R_far (p := ⟨gb213, 0, none⟩) (Kd.R_types HO210.out BK213.out (by decide)) (fun _ hk => hk.2) (.int .i64 ((rd_T36 l0 x6_1).f0))) (fun _ hk => hk.2) (.int .i64 ((rd_T36 l0 x6_1).f1))) (fun _ hk => hk.2) (.int .i64 ((rd_T36 l0 x6_1).f2))) (fun _ hk => hk.2) (.int .i64 ((rd_T36 l0 x6_1).f3))) (fun _ hk => hk.2) (.int .i64 ((rd_T36 l0 x6_1).f4))) (fun _ hk => hk.2) (.int .i64 ((rd_T36 l0 x6_1).f5))) (fun _ h_ => h_.1))))) (below_size (by repeat (first | (with_reducible first | exact HB.out | apply below_alloc | apply pw_below_drewN | apply below_drew1 | refine below_set ?_ GE213.out) | exact HB.out)))); have n4_ := Aside0.mk (blk_below (g := gb213) (o := .cells #[.int .i64 ((rd_T36 l0 x6_1).f0), .int .i64 ((rd_T36 l0 x6_1).f1), .int .i64 ((rd_T36 l0 x6_1).f2), .int .i64 ((rd_T36 l0 x6_1).f3), .int .i64 ((rd_T36 l0 x6_1).f4), .int .i64 ((rd_T36 l0 x6_1).f5)] 36 (0, 0)) (by (with_reducible repeat (first | refine blk_drewN ?_ _ | refine blk_drew ?_ | refine blk_alloc ?_ _)); refine blk_put (cs := #[.int .i64 ((rd_T36 l0 x6_1).f0), .int .i64 ((rd_T36 l0 x6_1).f1), .int .i64 ((rd_T36 l0 x6_1).f2), .int .i64 ((rd_T36 l0 x6_1).f3), .int .i64 ((rd_T36 l0 x6_1).f4), .int .i64 0]) ?_ 5 _ rfl; (with_reducible repeat (first | refine blk_drewN ?_ _ | refine blk_drew ?_ | refine blk_alloc ?_ _)); refine blk_put (cs := #[.int .i64 ((rd_T36 l0 x6_1).f0), .int .i64 ((rd_T36 l0 x6_1).f1), .int .i64 ((rd_T36 l0 x6_1).f2), .int .i64 ((rd_T36 l0 x6_1).f3), .int .i64 0, .int .i64 0]) ?_ 4 _ rfl; (with_reducible repeat (first | refine blk_drewN ?_ _ | refine blk_drew ?_ | refine blk_alloc ?_ _)); refine blk_put (cs := #[.int .i64 ((rd_T36 l0 x6_1).f0), .int .i64 ((rd_T36 l0 x6_1).f1), .int .i64 ((rd_T36 l0 x6_1).f2), .int .i64 0, .int .i64 0, .int .i64 0]) ?_ 3 _ rfl; (with_reducible repeat (first | refine blk_drewN ?_ _ | refine blk_drew ?_ | refine blk_alloc ?_ _)); refine blk_put (cs := #[.int .i64 ((rd_T36 l0 x6_1).f0), .int .i64 ((rd_T36 l0 x6_1).f1), .int .i64 0, .int .i64 0, .int .i64 0, .int .i64 0]) ?_ 2 _ rfl; (with_reducible repeat (first | refine blk_drewN ?_ _ | refine blk_drew ?_ | refine blk_alloc ?_ _)); refine blk_put (cs := #[.int .i64 ((rd_T36 l0 x6_1).f0), .int .i64 0, .int .i64 0, .int .i64 0, .int .i64 0, .int .i64 0]) ?_ 1 _ rfl; (with_reducible repeat (first | refine blk_drewN ?_ _ | refine blk_drew ?_ | refine blk_alloc ?_ _)); refine blk_put (cs := #[.int .i64 0, .int .i64 0, .int .i64 0, .int .i64 0, .int .i64 0, .int .i64 0]) ?_ 0 _ rfl; (with_reducible repeat (first | refine blk_drewN ?_ _ | refine blk_drew ?_ | refine blk_alloc ?_ _)); exact BK213.out) hb); have n5_ := Aside0.mk (below_step (by repeat (first | (with_reducible first | exact HB.out | apply below_alloc | apply pw_below_drewN | apply below_drew1 | refine below_set ?_ GE213.out) | exact HB.out)) hb); clear HO_3; clear HO_4; clear HO210; clear BK213; clear HB; have HO_3 := n0_; have HO_4 := n1_; have HO210 := n2_; have HO216 := n3_; have BK213 := n4_; have HB := n5_; clear n0_ n1_ n2_ n3_ n4_ n5_; obtain ⟨Ao25, co25, eo25⟩ := Kd.R_slice HO216.out; subst eo25)); clear hb ho0
         (try simp only [Act.put, List.setIfInBounds_toArray, List.set_cons_zero, List.set_cons_succ])
         go_cut [] (fun wc => ∃ (kq : Nat) (x214003_17 : Int), Aside0 (spec_Prune.j1 kq l0 x3_1 t202 y208 x6_1 t214 ((rd_T36 l0 x6_1).f0) ((rd_T36 l0 x6_1).f1) ((rd_T36 l0 x6_1).f2) x214003_17 ((rd_T36 l0 x6_1).f4) ((rd_T36 l0 x6_1).f5) = some r) ∧ Aside0 (kq ≤ k1) ∧ Aside0 (Kd.R k36 36 wc w.heap.size (fun k_ => k_ ≠ gb213) (.slice Ao19 x3_1.length co19) x3_1) ∧ Aside0 (Kd.R Kd.bool 4 wc w.heap.size (fun _ => True) (.slice (some ad211) t202.length co21) t202) ∧ Aside0 (Kd.R (Kd.int .i64) 3 wc w.heap.size (fun k_ => some k_ ≠ ((.slice Ao25 t214.length co25) : Value).ownBlock) v209 y208) ∧ Aside0 (Kd.R (Kd.int .i64) 3 wc w.heap.size (fun k_ => some k_ ≠ (v209 : Value).ownBlock) (.slice Ao25 t214.length co25) t214) ∧ Aside0 (wc.heap[gb213]? = some (.cells #[.int .i64 ((rd_T36 l0 x6_1).f0), .int .i64 ((rd_T36 l0 x6_1).f1), .int .i64 ((rd_T36 l0 x6_1).f2), .int .i64 x214003_17, .int .i64 ((rd_T36 l0 x6_1).f4), .int .i64 ((rd_T36 l0 x6_1).f5)] 36 (0, 0))) ∧ Aside0 (Below w.heap.size w wc))
         case first =>
          have H := HC18.out
          clear HC18
          by_cases c26 : (t214.length : Int) > 0
          ·rw [if_pos c26] at H
           have c26b0 : decide (0 < (t214.length : Int)) = true := decide_eq_true c26
           have c26b1 : decide (0 < t214.length) = true := decide_eq_true (by omega)
           have c26p : 0 < t214.length := by omega
           clear c26
           (skip)
           by_cases c27 : 0 ≤ ((rd_T36 l0 x6_1).f3)
           ·rw [if_pos c27] at H
            have c27b0 : decide (0 ≤ ((rd_T36 l0 x6_1).f3)) = true := decide_eq_true c27
            clear c27
            by_cases c28 : ((rd_T36 l0 x6_1).f3) < (y208.length : Int)
            ·rw [if_pos c28] at H
             have c28b0 : decide (((rd_T36 l0 x6_1).f3) < (y208.length : Int)) = true := decide_eq_true c28
             clear c28
             have H' := Aside0.mk H
             clear H
             obtain ⟨hcz29_0, hcz29_1, hcz29_2, hcz29_3, hcz29_4, hcz29_5⟩ := cz6 BK213.out
             obtain ⟨hfz29_0, hfz29_1, hfz29_2, hfz29_3, hfz29_4, hfz29_5⟩ := fz6 BK213.out
             obtain ⟨Ao30, co30, eo30⟩ := Kd.R_slice HO210.out
             subst eo30
             have p217 : 0 ≤ (((rd_T36 l0 x6_1).f3) : Int) := of_decide_eq_true (by assumption)
             have q217 : ((rd_T36 l0 x6_1).f3) < (y208.length : Int) := of_decide_eq_true (by assumption)
             obtain ⟨ad217, e217, hx217_0⟩ := Kd.at_int (Kd.R_reads' HO210.out).2.2 ((rd_T36 l0 x6_1).f3) p217 q217
             cases e217
             replace p217 := eq_true p217
             replace q217 := eq_true q217
             go_wp2
             go_meet
             case rel => exact ⟨_, (rd y208 ((rd_T36 l0 x6_1).f3)), H', ⟨by have := HK1.out; omega⟩, ⟨by (with_reducible repeat (first | apply Kd.R_alloc | apply Kd.R_drewN | apply Kd.R_drew)); exact Kd.R_mono (Kd.R_far (p := ⟨gb213, 3, none⟩) (Kd.R_mono HO_3.out (fun k_ hk => (⟨hk, hk.2⟩ : _ ∧ k_ ≠ gb213))) (fun _ hk => hk.2) (.int .i64 (rd y208 ((rd_T36 l0 x6_1).f3)))) (fun _ hk => hk.1.2)⟩, ⟨by (with_reducible repeat (first | apply Kd.R_alloc | apply Kd.R_drewN | apply Kd.R_drew)); exact Kd.R_mono (Kd.R_far (p := ⟨gb213, 3, none⟩) (Kd.R_types HO_4.out BK213.out (by decide)) (fun _ hk => hk.2) (.int .i64 (rd y208 ((rd_T36 l0 x6_1).f3)))) (fun _ hk => trivial)⟩, ⟨by (with_reducible repeat (first | apply Kd.R_alloc | apply Kd.R_drewN | apply Kd.R_drew)); exact Kd.R_mono (Kd.R_far (p := ⟨gb213, 3, none⟩) (Kd.R_types HO210.out BK213.out (by decide)) (fun _ hk => hk.2) (.int .i64 (rd y208 ((rd_T36 l0 x6_1).f3)))) (fun _ hk => hk.1.2)⟩, ⟨by (with_reducible repeat (first | apply Kd.R_alloc | apply Kd.R_drewN | apply Kd.R_drew)); exact Kd.R_mono (Kd.R_far (p := ⟨gb213, 3, none⟩) (Kd.R_types HO216.out BK213.out (by decide)) (fun _ hk => hk.2) (.int .i64 (rd y208 ((rd_T36 l0 x6_1).f3)))) (fun _ hk => hk.1.2)⟩, ⟨by (with_reducible repeat (first | refine blk_drewN ?_ _ | refine blk_drew ?_ | refine blk_alloc ?_ _)); refine blk_put (cs := #[.int .i64 ((rd_T36 l0 x6_1).f0), .int .i64 ((rd_T36 l0 x6_1).f1), .int .i64 ((rd_T36 l0 x6_1).f2), .int .i64 ((rd_T36 l0 x6_1).f3), .int .i64 ((rd_T36 l0 x6_1).f4), .int .i64 ((rd_T36 l0 x6_1).f5)]) ?_ 3 _ rfl; (with_reducible repeat (first | refine blk_drewN ?_ _ | refine blk_drew ?_ | refine blk_alloc ?_ _)); exact BK213.out⟩, ⟨by repeat (first | (with_reducible first | exact HB.out | apply below_alloc | apply pw_below_drewN | apply below_drew1 | refine below_set ?_ GE213.out) | exact HB.out)⟩⟩
            ·rw [if_neg c28] at H
             exact absurd H (by simp)
           ·rw [if_neg c27] at H
            exact absurd H (by simp)
          ·rw [if_neg c26] at H
           have c26b0 : decide (0 < (t214.length : Int)) = false := decide_eq_false c26
           have c26b1 : decide (0 < t214.length) = false := decide_eq_false (by omega)
           have c26p : ¬ 0 < t214.length := by omega
           clear c26
           (skip)
           have H' := Aside0.mk H
           clear H
           go_wp2
           go_meet
           case rel => exact ⟨_, ((rd_T36 l0 x6_1).f3), H', ⟨by have := HK1.out; omega⟩, ⟨by (with_reducible repeat (first | apply Kd.R_alloc | apply Kd.R_drewN | apply Kd.R_drew)); exact Kd.R_mono HO_3.out (fun _ hk => hk.2)⟩, ⟨by (with_reducible repeat (first | apply Kd.R_alloc | apply Kd.R_drewN | apply Kd.R_drew)); exact HO_4.out⟩, ⟨by (with_reducible repeat (first | apply Kd.R_alloc | apply Kd.R_drewN | apply Kd.R_drew)); exact Kd.R_mono HO210.out (fun _ hk => hk.2)⟩, ⟨by (with_reducible repeat (first | apply Kd.R_alloc | apply Kd.R_drewN | apply Kd.R_drew)); exact Kd.R_mono HO216.out (fun _ hk => hk.2)⟩, ⟨by (with_reducible repeat (first | refine blk_drewN ?_ _ | refine blk_drew ?_ | refine blk_alloc ?_ _)); exact BK213.out⟩, ⟨by repeat (first | (with_reducible first | exact HB.out | apply below_alloc | apply pw_below_drewN | apply below_drew1 | refine below_set ?_ GE213.out) | exact HB.out)⟩⟩
         case rest =>
          clear HC18
          clear c11b0 c13b0 c14b0 hcz23_0 hcz23_1 hcz23_2 hcz23_3 hcz23_4 hcz23_5 hfz23_0 hfz23_1 hfz23_2 hfz23_3 hfz23_4 hfz23_5 hx211_0 hx212_0 hx212_1 hx212_2 hx212_3 hx212_4 hx212_5 p211 p212 q211 q212
          obtain ⟨kq, x214003_17, HA, HJ17, HO_3, HO_4, HO_5, HO_8, BK213, HB⟩ := hcut
          cases kq with
          | zero => exact absurd HA.out (by simp [spec_Prune.j1])
          | succ kj17 =>
           have H := HA.out
           clear HA
           simp only [spec_Prune.j1] at H
           by_cases c31 : (t214.length : Int) > 1
           ·rw [if_pos c31] at H
            have c31b0 : decide (1 < (t214.length : Int)) = true := decide_eq_true c31
            have c31b1 : decide (1 < t214.length) = true := decide_eq_true (by omega)
            clear c31
            by_cases c32 : 0 ≤ ((rd_T36 l0 x6_1).f4)
            ·rw [if_pos c32] at H
             have c32b0 : decide (0 ≤ ((rd_T36 l0 x6_1).f4)) = true := decide_eq_true c32
             clear c32
             by_cases c33 : ((rd_T36 l0 x6_1).f4) < (y208.length : Int)
             ·rw [if_pos c33] at H
              have c33b0 : decide (((rd_T36 l0 x6_1).f4) < (y208.length : Int)) = true := decide_eq_true c33
              clear c33
              by_cases c34 : (t214.length : Int) > 2
              ·rw [if_pos c34] at H
               have c34b0 : decide (2 < (t214.length : Int)) = true := decide_eq_true c34
               have c34b1 : decide (2 < t214.length) = true := decide_eq_true (by omega)
               clear c34
               by_cases c35 : 0 ≤ ((rd_T36 l0 x6_1).f5)
               ·rw [if_pos c35] at H
                have c35b0 : decide (0 ≤ ((rd_T36 l0 x6_1).f5)) = true := decide_eq_true c35
                clear c35
                by_cases c36 : ((rd_T36 l0 x6_1).f5) < (y208.length : Int)
                ·rw [if_pos c36] at H
                 have c36b0 : decide (((rd_T36 l0 x6_1).f5) < (y208.length : Int)) = true := decide_eq_true c36
                 clear c36
                 by_cases c37 : x3_1.length < 2932031007402
                 ·rw [if_pos c37] at H
                  have LMc37 := Aside0.mk c37
                  clear c37
                  obtain ⟨y220, hy220⟩ : ∃ y_ : List (S36), y_ = (x3_1 ++ [(⟨((rd_T36 l0 x6_1).f0), ((rd_T36 l0 x6_1).f1), ((rd_T36 l0 x6_1).f2), x214003_17, rd y208 ((rd_T36 l0 x6_1).f4), rd y208 ((rd_T36 l0 x6_1).f5)⟩ : S36)]) := ⟨_, rfl⟩
                  replace H : (spec_Prune.l0 kj17 l0 y220 t202 y208 (wrap64 (x6_1 + 1))) = some r := by (rw [hy220]; with_reducible exact H)
                  have Ny220 := Aside0.mk hy220
                  clear hy220
                  have H' := Aside0.mk H
                  clear H
                  obtain ⟨hcz38_0, hcz38_1, hcz38_2, hcz38_3, hcz38_4, hcz38_5⟩ := cz6 BK213.out
                  obtain ⟨hfz38_0, hfz38_1, hfz38_2, hfz38_3, hfz38_4, hfz38_5⟩ := fz6 BK213.out
                  obtain ⟨Ao39, co39, eo39⟩ := Kd.R_slice HO_5.out
                  subst eo39
                  have p218 : 0 ≤ (((rd_T36 l0 x6_1).f4) : Int) := of_decide_eq_true (by assumption)
                  have q218 : ((rd_T36 l0 x6_1).f4) < (y208.length : Int) := of_decide_eq_true (by assumption)
                  obtain ⟨ad218, e218, hx218_0⟩ := Kd.at_int (Kd.R_reads' HO_5.out).2.2 ((rd_T36 l0 x6_1).f4) p218 q218
                  cases e218
                  replace p218 := eq_true p218
                  replace q218 := eq_true q218
                  have p219 : 0 ≤ (((rd_T36 l0 x6_1).f5) : Int) := of_decide_eq_true (by assumption)
                  have q219 : ((rd_T36 l0 x6_1).f5) < (y208.length : Int) := of_decide_eq_true (by assumption)
                  obtain ⟨ad219, e219, hx219_0⟩ := Kd.at_int (Kd.R_reads' HO_5.out).2.2 ((rd_T36 l0 x6_1).f5) p219 q219
                  obtain rfl : ad218 = ad219 := (by injection e219)
                  have hn219_0 : ad218.block ≠ gb213 := Kd.own_blk (Kd.R_ne HO_5.out BK213.out (by decide))
                  replace hx219_0 := (cell_far (p := ⟨gb213, 4, none⟩) (by (rw [add_block]; exact hn219_0)) (.int .i64 (rd y208 ((rd_T36 l0 x6_1).f4)))).trans hx219_0
                  clear hn219_0
                  replace p219 := eq_true p219
                  replace q219 := eq_true q219
                  go_wp2_with (first | ((with_reducible refine gate_builtin (b := .append) (xs := #[.tmp 66, .tmp 68]) rfl ?_); at_builtin; refine Kd.R_append k36 (w0 := w) w.heap.size rfl (.tmp 66) (.tmp 68) 25 36 (.agg #[(.int .i64 0), (.int .i64 0), (.int .i64 0), (.int .i64 0), (.int .i64 0), (.int .i64 0)]) 48 rfl Try.underlying25 info36 rfl (by decide) (by omega) (.slice Ao19 x3_1.length co19) x3_1 (⟨((rd_T36 l0 x6_1).f0), ((rd_T36 l0 x6_1).f1), ((rd_T36 l0 x6_1).f2), x214003_17, rd y208 ((rd_T36 l0 x6_1).f4), rd y208 ((rd_T36 l0 x6_1).f5)⟩ : S36) [.int .i64 ((rd_T36 l0 x6_1).f0), .int .i64 ((rd_T36 l0 x6_1).f1), .int .i64 ((rd_T36 l0 x6_1).f2), .int .i64 x214003_17, .int .i64 (rd y208 ((rd_T36 l0 x6_1).f4)), .int .i64 (rd y208 ((rd_T36 l0 x6_1).f5))] (fun k_ => k_ ≠ gb213) (fun _ => False) rfl (by (go_simp; done)) ?aP (fun _ hk => hk.elim) ?aF ?aO ?aB ?aS ?aL ?_; (case aP => exact k36_mkM _ _ _ (⟨((rd_T36 l0 x6_1).f0), ((rd_T36 l0 x6_1).f1), ((rd_T36 l0 x6_1).f2), x214003_17, rd y208 ((rd_T36 l0 x6_1).f4), rd y208 ((rd_T36 l0 x6_1).f5)⟩ : S36)); (case aB => exact (by repeat (first | (with_reducible first | exact HB.out | apply below_alloc | apply pw_below_drewN | apply below_drew1 | refine below_set ?_ GE213.out) | exact HB.out))); (case aF => exact (fun k_ hk => Kd.freshB (g := gb213) (o := .cells #[.int .i64 ((rd_T36 l0 x6_1).f0), .int .i64 ((rd_T36 l0 x6_1).f1), .int .i64 ((rd_T36 l0 x6_1).f2), .int .i64 x214003_17, .int .i64 (rd y208 ((rd_T36 l0 x6_1).f4)), .int .i64 (rd y208 ((rd_T36 l0 x6_1).f5))] 36 (0, 0)) (by (with_reducible repeat (first | refine blk_drewN ?_ _ | refine blk_drew ?_ | refine blk_alloc ?_ _)); refine blk_put (cs := #[.int .i64 ((rd_T36 l0 x6_1).f0), .int .i64 ((rd_T36 l0 x6_1).f1), .int .i64 ((rd_T36 l0 x6_1).f2), .int .i64 x214003_17, .int .i64 (rd y208 ((rd_T36 l0 x6_1).f4)), .int .i64 ((rd_T36 l0 x6_1).f5)]) ?_ 5 _ rfl; (with_reducible repeat (first | refine blk_drewN ?_ _ | refine blk_drew ?_ | refine blk_alloc ?_ _)); refine blk_put (cs := #[.int .i64 ((rd_T36 l0 x6_1).f0), .int .i64 ((rd_T36 l0 x6_1).f1), .int .i64 ((rd_T36 l0 x6_1).f2), .int .i64 x214003_17, .int .i64 ((rd_T36 l0 x6_1).f4), .int .i64 ((rd_T36 l0 x6_1).f5)]) ?_ 4 _ rfl; (with_reducible repeat (first | refine blk_drewN ?_ _ | refine blk_drew ?_ | refine blk_alloc ?_ _)); exact BK213.out) k_ hk)); (case aO => exact (by (with_reducible repeat (first | apply Kd.R_alloc | apply Kd.R_drewN | apply Kd.R_drew)); exact Kd.R_mono (Kd.R_far (p := ⟨gb213, 5, none⟩) (Kd.R_far (p := ⟨gb213, 4, none⟩) (Kd.R_mono HO_3.out (fun k_ hk => (⟨hk, hk⟩ : _ ∧ k_ ≠ gb213))) (fun _ hk => hk.2) (.int .i64 (rd y208 ((rd_T36 l0 x6_1).f4)))) (fun _ hk => hk.2) (.int .i64 (rd y208 ((rd_T36 l0 x6_1).f5)))) (fun _ hk => hk.1))); (case aS => exact (below_size (by repeat (first | (with_reducible first | exact HB.out | apply below_alloc | apply pw_below_drewN | apply below_drew1 | refine below_set ?_ GE213.out) | exact HB.out)))); (case aL => have := LMc37.out; omega); intro v221 w40 ho hb hg hat; rw [← Ny220.out] at ho; have n0_ := Aside0.mk (Kd.R_over' (by (with_reducible repeat (first | apply Kd.R_alloc | apply Kd.R_drewN | apply Kd.R_drew)); exact (Kd.R_mono (Kd.R_far (p := ⟨gb213, 5, none⟩) (Kd.R_far (p := ⟨gb213, 4, none⟩) (Kd.R_types HO_4.out BK213.out (by decide)) (fun _ hk => hk.2) (.int .i64 (rd y208 ((rd_T36 l0 x6_1).f4)))) (fun _ hk => hk.2) (.int .i64 (rd y208 ((rd_T36 l0 x6_1).f5)))) (fun _ h_ => h_.1))) (Kd.R_typed (by (with_reducible repeat (first | apply Kd.R_alloc | apply Kd.R_drewN | apply Kd.R_drew)); exact (Kd.R_mono (Kd.R_far (p := ⟨gb213, 5, none⟩) (Kd.R_far (p := ⟨gb213, 4, none⟩) (Kd.R_mono HO_3.out (fun k_ hk => (⟨hk, hk⟩ : _ ∧ k_ ≠ gb213))) (fun _ hk => hk.2) (.int .i64 (rd y208 ((rd_T36 l0 x6_1).f4)))) (fun _ hk => hk.2) (.int .i64 (rd y208 ((rd_T36 l0 x6_1).f5)))) (fun _ h_ => h_.1)))) (by decide) hg); have n1_ := Aside0.mk (Kd.R_over' (by (with_reducible repeat (first | apply Kd.R_alloc | apply Kd.R_drewN | apply Kd.R_drew)); exact (Kd.R_mono (Kd.R_far (p := ⟨gb213, 5, none⟩) (Kd.R_far (p := ⟨gb213, 4, none⟩) (Kd.R_types HO_5.out BK213.out (by decide)) (fun _ hk => hk.2) (.int .i64 (rd y208 ((rd_T36 l0 x6_1).f4)))) (fun _ hk => hk.2) (.int .i64 (rd y208 ((rd_T36 l0 x6_1).f5)))) (fun _ h_ => h_.1))) (Kd.R_typed (by (with_reducible repeat (first | apply Kd.R_alloc | apply Kd.R_drewN | apply Kd.R_drew)); exact (Kd.R_mono (Kd.R_far (p := ⟨gb213, 5, none⟩) (Kd.R_far (p := ⟨gb213, 4, none⟩) (Kd.R_mono HO_3.out (fun k_ hk => (⟨hk, hk⟩ : _ ∧ k_ ≠ gb213))) (fun _ hk => hk.2) (.int .i64 (rd y208 ((rd_T36 l0 x6_1).f4)))) (fun _ hk => hk.2) (.int .i64 (rd y208 ((rd_T36 l0 x6_1).f5)))) (fun _ h_ => h_.1)))) (by decide) hg); have n2_ := Aside0.mk (Kd.R_over' (by (with_reducible repeat (first | apply Kd.R_alloc | apply Kd.R_drewN | apply Kd.R_drew)); exact (Kd.R_mono (Kd.R_far (p := ⟨gb213, 5, none⟩) (Kd.R_far (p := ⟨gb213, 4, none⟩) (Kd.R_types HO_8.out BK213.out (by decide)) (fun _ hk => hk.2) (.int .i64 (rd y208 ((rd_T36 l0 x6_1).f4)))) (fun _ hk => hk.2) (.int .i64 (rd y208 ((rd_T36 l0 x6_1).f5)))) (fun _ h_ => h_.1))) (Kd.R_typed (by (with_reducible repeat (first | apply Kd.R_alloc | apply Kd.R_drewN | apply Kd.R_drew)); exact (Kd.R_mono (Kd.R_far (p := ⟨gb213, 5, none⟩) (Kd.R_far (p := ⟨gb213, 4, none⟩) (Kd.R_mono HO_3.out (fun k_ hk => (⟨hk, hk⟩ : _ ∧ k_ ≠ gb213))) (fun _ hk => hk.2) (.int .i64 (rd y208 ((rd_T36 l0 x6_1).f4)))) (fun _ hk => hk.2) (.int .i64 (rd y208 ((rd_T36 l0 x6_1).f5)))) (fun _ h_ => h_.1)))) (by decide) hg); have n3_ := Aside0.mk (blk_grown (g := gb213) (o := .cells #[.int .i64 ((rd_T36 l0 x6_1).f0), .int .i64 ((rd_T36 l0 x6_1).f1), .int .i64 ((rd_T36 l0 x6_1).f2), .int .i64 x214003_17, .int .i64 (rd y208 ((rd_T36 l0 x6_1).f4)), .int .i64 (rd y208 ((rd_T36 l0 x6_1).f5))] 36 (0, 0)) (by (with_reducible repeat (first | refine blk_drewN ?_ _ | refine blk_drew ?_ | refine blk_alloc ?_ _)); refine blk_put (cs := #[.int .i64 ((rd_T36 l0 x6_1).f0), .int .i64 ((rd_T36 l0 x6_1).f1), .int .i64 ((rd_T36 l0 x6_1).f2), .int .i64 x214003_17, .int .i64 (rd y208 ((rd_T36 l0 x6_1).f4)), .int .i64 ((rd_T36 l0 x6_1).f5)]) ?_ 5 _ rfl; (with_reducible repeat (first | refine blk_drewN ?_ _ | refine blk_drew ?_ | refine blk_alloc ?_ _)); refine blk_put (cs := #[.int .i64 ((rd_T36 l0 x6_1).f0), .int .i64 ((rd_T36 l0 x6_1).f1), .int .i64 ((rd_T36 l0 x6_1).f2), .int .i64 x214003_17, .int .i64 ((rd_T36 l0 x6_1).f4), .int .i64 ((rd_T36 l0 x6_1).f5)]) ?_ 4 _ rfl; (with_reducible repeat (first | refine blk_drewN ?_ _ | refine blk_drew ?_ | refine blk_alloc ?_ _)); exact BK213.out) hg (Kd.R_away HO_3.out (fun _ hk => hk))); have n4_ := Aside0.mk (hb); have n5_ := Aside0.mk (ho); clear HO_4; clear HO_5; clear HO_8; clear BK213; clear HB; clear HO_3; have HO_4 := n0_; have HO_5 := n1_; have HO_8 := n2_; have BK213 := n3_; have HB := n4_; have HO222 := n5_; clear n0_ n1_ n2_ n3_ n4_ n5_; clear ho hb hg hat))
                  go_roundg kj17
                  case measure => have := HK1.out; have := HJ17.out; omega
                  case rel => exact ⟨(y220), (y208), (wrap64 (x6_1 + 1)), (by rfl), H', ⟨by have := HK1.out; have := HJ17.out; omega⟩, ⟨by (with_reducible repeat (first | apply Kd.R_alloc | apply Kd.R_drewN | apply Kd.R_drew)); exact Kd.R_mono HO222.out (fun _ hk => trivial)⟩, ⟨by (with_reducible repeat (first | apply Kd.R_alloc | apply Kd.R_drewN | apply Kd.R_drew)); exact HO_4.out⟩, ⟨by (with_reducible repeat (first | apply Kd.R_alloc | apply Kd.R_drewN | apply Kd.R_drew)); exact Kd.R_mono HO_5.out (fun _ hk => trivial)⟩, ⟨by repeat (first | (with_reducible first | exact HB.out | apply below_alloc | apply pw_below_drewN | apply below_drew1 | refine below_set ?_ GE213.out) | exact HB.out)⟩⟩
                 ·rw [if_neg c37] at H
                  exact absurd H (by simp)
                ·rw [if_neg c36] at H
                 exact absurd H (by simp)
               ·rw [if_neg c35] at H
                exact absurd H (by simp)
              ·rw [if_neg c34] at H
               have c34b0 : decide (2 < (t214.length : Int)) = false := decide_eq_false c34
               have c34b1 : decide (2 < t214.length) = false := decide_eq_false (by omega)
               clear c34
               by_cases c41 : x3_1.length < 2932031007402
               ·rw [if_pos c41] at H
                have LMc41 := Aside0.mk c41
                clear c41
                obtain ⟨y223, hy223⟩ : ∃ y_ : List (S36), y_ = (x3_1 ++ [(⟨((rd_T36 l0 x6_1).f0), ((rd_T36 l0 x6_1).f1), ((rd_T36 l0 x6_1).f2), x214003_17, rd y208 ((rd_T36 l0 x6_1).f4), ((rd_T36 l0 x6_1).f5)⟩ : S36)]) := ⟨_, rfl⟩
                replace H : (spec_Prune.l0 kj17 l0 y223 t202 y208 (wrap64 (x6_1 + 1))) = some r := by (rw [hy223]; with_reducible exact H)
                have Ny223 := Aside0.mk hy223
                clear hy223
                have H' := Aside0.mk H
                clear H
                obtain ⟨hcz42_0, hcz42_1, hcz42_2, hcz42_3, hcz42_4, hcz42_5⟩ := cz6 BK213.out
                obtain ⟨hfz42_0, hfz42_1, hfz42_2, hfz42_3, hfz42_4, hfz42_5⟩ := fz6 BK213.out
                obtain ⟨Ao43, co43, eo43⟩ := Kd.R_slice HO_5.out
                subst eo43
                have p218 : 0 ≤ (((rd_T36 l0 x6_1).f4) : Int) := of_decide_eq_true (by assumption)
                have q218 : ((rd_T36 l0 x6_1).f4) < (y208.length : Int) := of_decide_eq_true (by assumption)
                obtain ⟨ad218, e218, hx218_0⟩ := Kd.at_int (Kd.R_reads' HO_5.out).2.2 ((rd_T36 l0 x6_1).f4) p218 q218
                cases e218
                replace p218 := eq_true p218
                replace q218 := eq_true q218
                go_wp2_with (first | ((with_reducible refine gate_builtin (b := .append) (xs := #[.tmp 66, .tmp 68]) rfl ?_); at_builtin; refine Kd.R_append k36 (w0 := w) w.heap.size rfl (.tmp 66) (.tmp 68) 25 36 (.agg #[(.int .i64 0), (.int .i64 0), (.int .i64 0), (.int .i64 0), (.int .i64 0), (.int .i64 0)]) 48 rfl Try.underlying25 info36 rfl (by decide) (by omega) (.slice Ao19 x3_1.length co19) x3_1 (⟨((rd_T36 l0 x6_1).f0), ((rd_T36 l0 x6_1).f1), ((rd_T36 l0 x6_1).f2), x214003_17, rd y208 ((rd_T36 l0 x6_1).f4), ((rd_T36 l0 x6_1).f5)⟩ : S36) [.int .i64 ((rd_T36 l0 x6_1).f0), .int .i64 ((rd_T36 l0 x6_1).f1), .int .i64 ((rd_T36 l0 x6_1).f2), .int .i64 x214003_17, .int .i64 (rd y208 ((rd_T36 l0 x6_1).f4)), .int .i64 ((rd_T36 l0 x6_1).f5)] (fun k_ => k_ ≠ gb213) (fun _ => False) rfl (by (go_simp; done)) ?aP (fun _ hk => hk.elim) ?aF ?aO ?aB ?aS ?aL ?_; (case aP => exact k36_mkM _ _ _ (⟨((rd_T36 l0 x6_1).f0), ((rd_T36 l0 x6_1).f1), ((rd_T36 l0 x6_1).f2), x214003_17, rd y208 ((rd_T36 l0 x6_1).f4), ((rd_T36 l0 x6_1).f5)⟩ : S36)); (case aB => exact (by repeat (first | (with_reducible first | exact HB.out | apply below_alloc | apply pw_below_drewN | apply below_drew1 | refine below_set ?_ GE213.out) | exact HB.out))); (case aF => exact (fun k_ hk => Kd.freshB (g := gb213) (o := .cells #[.int .i64 ((rd_T36 l0 x6_1).f0), .int .i64 ((rd_T36 l0 x6_1).f1), .int .i64 ((rd_T36 l0 x6_1).f2), .int .i64 x214003_17, .int .i64 (rd y208 ((rd_T36 l0 x6_1).f4)), .int .i64 ((rd_T36 l0 x6_1).f5)] 36 (0, 0)) (by (with_reducible repeat (first | refine blk_drewN ?_ _ | refine blk_drew ?_ | refine blk_alloc ?_ _)); refine blk_put (cs := #[.int .i64 ((rd_T36 l0 x6_1).f0), .int .i64 ((rd_T36 l0 x6_1).f1), .int .i64 ((rd_T36 l0 x6_1).f2), .int .i64 x214003_17, .int .i64 ((rd_T36 l0 x6_1).f4), .int .i64 ((rd_T36 l0 x6_1).f5)]) ?_ 4 _ rfl; (with_reducible repeat (first | refine blk_drewN ?_ _ | refine blk_drew ?_ | refine blk_alloc ?_ _)); exact BK213.out) k_ hk)); (case aO => exact (by (with_reducible repeat (first | apply Kd.R_alloc | apply Kd.R_drewN | apply Kd.R_drew)); exact Kd.R_mono (Kd.R_far (p := ⟨gb213, 4, none⟩) (Kd.R_mono HO_3.out (fun k_ hk => (⟨hk, hk⟩ : _ ∧ k_ ≠ gb213))) (fun _ hk => hk.2) (.int .i64 (rd y208 ((rd_T36 l0 x6_1).f4)))) (fun _ hk => hk.1))); (case aS => exact (below_size (by repeat (first | (with_reducible first | exact HB.out | apply below_alloc | apply pw_below_drewN | apply below_drew1 | refine below_set ?_ GE213.out) | exact HB.out)))); (case aL => have := LMc41.out; omega); intro v224 w44 ho hb hg hat; rw [← Ny223.out] at ho; have n0_ := Aside0.mk (Kd.R_over' (by (with_reducible repeat (first | apply Kd.R_alloc | apply Kd.R_drewN | apply Kd.R_drew)); exact (Kd.R_mono (Kd.R_far (p := ⟨gb213, 4, none⟩) (Kd.R_types HO_4.out BK213.out (by decide)) (fun _ hk => hk.2) (.int .i64 (rd y208 ((rd_T36 l0 x6_1).f4)))) (fun _ h_ => h_.1))) (Kd.R_typed (by (with_reducible repeat (first | apply Kd.R_alloc | apply Kd.R_drewN | apply Kd.R_drew)); exact (Kd.R_mono (Kd.R_far (p := ⟨gb213, 4, none⟩) (Kd.R_mono HO_3.out (fun k_ hk => (⟨hk, hk⟩ : _ ∧ k_ ≠ gb213))) (fun _ hk => hk.2) (.int .i64 (rd y208 ((rd_T36 l0 x6_1).f4)))) (fun _ h_ => h_.1)))) (by decide) hg); have n1_ := Aside0.mk (Kd.R_over' (by (with_reducible repeat (first | apply Kd.R_alloc | apply Kd.R_drewN | apply Kd.R_drew)); exact (Kd.R_mono (Kd.R_far (p := ⟨gb213, 4, none⟩) (Kd.R_types HO_5.out BK213.out (by decide)) (fun _ hk => hk.2) (.int .i64 (rd y208 ((rd_T36 l0 x6_1).f4)))) (fun _ h_ => h_.1))) (Kd.R_typed (by (with_reducible repeat (first | apply Kd.R_alloc | apply Kd.R_drewN | apply Kd.R_drew)); exact (Kd.R_mono (Kd.R_far (p := ⟨gb213, 4, none⟩) (Kd.R_mono HO_3.out (fun k_ hk => (⟨hk, hk⟩ : _ ∧ k_ ≠ gb213))) (fun _ hk => hk.2) (.int .i64 (rd y208 ((rd_T36 l0 x6_1).f4)))) (fun _ h_ => h_.1)))) (by decide) hg); have n2_ := Aside0.mk (Kd.R_over' (by (with_reducible repeat (first | apply Kd.R_alloc | apply Kd.R_drewN | apply Kd.R_drew)); exact (Kd.R_mono (Kd.R_far (p := ⟨gb213, 4, none⟩) (Kd.R_types HO_8.out BK213.out (by decide)) (fun _ hk => hk.2) (.int .i64 (rd y208 ((rd_T36 l0 x6_1).f4)))) (fun _ h_ => h_.1))) (Kd.R_typed (by (with_reducible repeat (first | apply Kd.R_alloc | apply Kd.R_drewN | apply Kd.R_drew)); exact (Kd.R_mono (Kd.R_far (p := ⟨gb213, 4, none⟩) (Kd.R_mono HO_3.out (fun k_ hk => (⟨hk, hk⟩ : _ ∧ k_ ≠ gb213))) (fun _ hk => hk.2) (.int .i64 (rd y208 ((rd_T36 l0 x6_1).f4)))) (fun _ h_ => h_.1)))) (by decide) hg); have n3_ := Aside0.mk (blk_grown (g := gb213) (o := .cells #[.int .i64 ((rd_T36 l0 x6_1).f0), .int .i64 ((rd_T36 l0 x6_1).f1), .int .i64 ((rd_T36 l0 x6_1).f2), .int .i64 x214003_17, .int .i64 (rd y208 ((rd_T36 l0 x6_1).f4)), .int .i64 ((rd_T36 l0 x6_1).f5)] 36 (0, 0)) (by (with_reducible repeat (first | refine blk_drewN ?_ _ | refine blk_drew ?_ | refine blk_alloc ?_ _)); refine blk_put (cs := #[.int .i64 ((rd_T36 l0 x6_1).f0), .int .i64 ((rd_T36 l0 x6_1).f1), .int .i64 ((rd_T36 l0 x6_1).f2), .int .i64 x214003_17, .int .i64 ((rd_T36 l0 x6_1).f4), .int .i64 ((rd_T36 l0 x6_1).f5)]) ?_ 4 _ rfl; (with_reducible repeat (first | refine blk_drewN ?_ _ | refine blk_drew ?_ | refine blk_alloc ?_ _)); exact BK213.out) hg (Kd.R_away HO_3.out (fun _ hk => hk))); have n4_ := Aside0.mk (hb); have n5_ := Aside0.mk (ho); clear HO_4; clear HO_5; clear HO_8; clear BK213; clear HB; clear HO_3; have HO_4 := n0_; have HO_5 := n1_; have HO_8 := n2_; have BK213 := n3_; have HB := n4_; have HO225 := n5_; clear n0_ n1_ n2_ n3_ n4_ n5_; clear ho hb hg hat))
                go_roundg kj17
                case measure => have := HK1.out; have := HJ17.out; omega
                case rel => exact ⟨(y223), (y208), (wrap64 (x6_1 + 1)), (by rfl), H', ⟨by have := HK1.out; have := HJ17.out; omega⟩, ⟨by (with_reducible repeat (first | apply Kd.R_alloc | apply Kd.R_drewN | apply Kd.R_drew)); exact Kd.R_mono HO225.out (fun _ hk => trivial)⟩, ⟨by (with_reducible repeat (first | apply Kd.R_alloc | apply Kd.R_drewN | apply Kd.R_drew)); exact HO_4.out⟩, ⟨by (with_reducible repeat (first | apply Kd.R_alloc | apply Kd.R_drewN | apply Kd.R_drew)); exact Kd.R_mono HO_5.out (fun _ hk => trivial)⟩, ⟨by repeat (first | (with_reducible first | exact HB.out | apply below_alloc | apply pw_below_drewN | apply below_drew1 | refine below_set ?_ GE213.out) | exact HB.out)⟩⟩
               ·rw [if_neg c41] at H
                exact absurd H (by simp)
             ·rw [if_neg c33] at H
              exact absurd H (by simp)
            ·rw [if_neg c32] at H
             exact absurd H (by simp)
           ·rw [if_neg c31] at H
            have c31b0 : decide (1 < (t214.length : Int)) = false := decide_eq_false c31
            have c31b1 : decide (1 < t214.length) = false := decide_eq_false (by omega)
            clear c31
            by_cases c45 : (t214.length : Int) > 2
            ·rw [if_pos c45] at H
             have c45b0 : decide (2 < (t214.length : Int)) = true := decide_eq_true c45
             have c45b1 : decide (2 < t214.length) = true := decide_eq_true (by omega)
             clear c45
             by_cases c46 : 0 ≤ ((rd_T36 l0 x6_1).f5)
             ·rw [if_pos c46] at H
              have c46b0 : decide (0 ≤ ((rd_T36 l0 x6_1).f5)) = true := decide_eq_true c46
              clear c46
              by_cases c47 : ((rd_T36 l0 x6_1).f5) < (y208.length : Int)
              ·rw [if_pos c47] at H
               have c47b0 : decide (((rd_T36 l0 x6_1).f5) < (y208.length : Int)) = true := decide_eq_true c47
               clear c47
               by_cases c48 : x3_1.length < 2932031007402
               ·rw [if_pos c48] at H
                have LMc48 := Aside0.mk c48
                clear c48
                obtain ⟨y227, hy227⟩ : ∃ y_ : List (S36), y_ = (x3_1 ++ [(⟨((rd_T36 l0 x6_1).f0), ((rd_T36 l0 x6_1).f1), ((rd_T36 l0 x6_1).f2), x214003_17, ((rd_T36 l0 x6_1).f4), rd y208 ((rd_T36 l0 x6_1).f5)⟩ : S36)]) := ⟨_, rfl⟩
                replace H : (spec_Prune.l0 kj17 l0 y227 t202 y208 (wrap64 (x6_1 + 1))) = some r := by (rw [hy227]; with_reducible exact H)
                have Ny227 := Aside0.mk hy227
                clear hy227
                have H' := Aside0.mk H
                clear H
                obtain ⟨hcz49_0, hcz49_1, hcz49_2, hcz49_3, hcz49_4, hcz49_5⟩ := cz6 BK213.out
                obtain ⟨hfz49_0, hfz49_1, hfz49_2, hfz49_3, hfz49_4, hfz49_5⟩ := fz6 BK213.out
                obtain ⟨Ao50, co50, eo50⟩ := Kd.R_slice HO_5.out
                subst eo50
                have p226 : 0 ≤ (((rd_T36 l0 x6_1).f5) : Int) := of_decide_eq_true (by assumption)
                have q226 : ((rd_T36 l0 x6_1).f5) < (y208.length : Int) := of_decide_eq_true (by assumption)
                obtain ⟨ad226, e226, hx226_0⟩ := Kd.at_int (Kd.R_reads' HO_5.out).2.2 ((rd_T36 l0 x6_1).f5) p226 q226
                cases e226
                replace p226 := eq_true p226
                replace q226 := eq_true q226
                go_wp2_with (first | ((with_reducible refine gate_builtin (b := .append) (xs := #[.tmp 66, .tmp 68]) rfl ?_); at_builtin; refine Kd.R_append k36 (w0 := w) w.heap.size rfl (.tmp 66) (.tmp 68) 25 36 (.agg #[(.int .i64 0), (.int .i64 0), (.int .i64 0), (.int .i64 0), (.int .i64 0), (.int .i64 0)]) 48 rfl Try.underlying25 info36 rfl (by decide) (by omega) (.slice Ao19 x3_1.length co19) x3_1 (⟨((rd_T36 l0 x6_1).f0), ((rd_T36 l0 x6_1).f1), ((rd_T36 l0 x6_1).f2), x214003_17, ((rd_T36 l0 x6_1).f4), rd y208 ((rd_T36 l0 x6_1).f5)⟩ : S36) [.int .i64 ((rd_T36 l0 x6_1).f0), .int .i64 ((rd_T36 l0 x6_1).f1), .int .i64 ((rd_T36 l0 x6_1).f2), .int .i64 x214003_17, .int .i64 ((rd_T36 l0 x6_1).f4), .int .i64 (rd y208 ((rd_T36 l0 x6_1).f5))] (fun k_ => k_ ≠ gb213) (fun _ => False) rfl (by (go_simp; done)) ?aP (fun _ hk => hk.elim) ?aF ?aO ?aB ?aS ?aL ?_; (case aP => exact k36_mkM _ _ _ (⟨((rd_T36 l0 x6_1).f0), ((rd_T36 l0 x6_1).f1), ((rd_T36 l0 x6_1).f2), x214003_17, ((rd_T36 l0 x6_1).f4), rd y208 ((rd_T36 l0 x6_1).f5)⟩ : S36)); (case aB => exact (by repeat (first | (with_reducible first | exact HB.out | apply below_alloc | apply pw_below_drewN | apply below_drew1 | refine below_set ?_ GE213.out) | exact HB.out))); (case aF => exact (fun k_ hk => Kd.freshB (g := gb213) (o := .cells #[.int .i64 ((rd_T36 l0 x6_1).f0), .int .i64 ((rd_T36 l0 x6_1).f1), .int .i64 ((rd_T36 l0 x6_1).f2), .int .i64 x214003_17, .int .i64 ((rd_T36 l0 x6_1).f4), .int .i64 (rd y208 ((rd_T36 l0 x6_1).f5))] 36 (0, 0)) (by (with_reducible repeat (first | refine blk_drewN ?_ _ | refine blk_drew ?_ | refine blk_alloc ?_ _)); refine blk_put (cs := #[.int .i64 ((rd_T36 l0 x6_1).f0), .int .i64 ((rd_T36 l0 x6_1).f1), .int .i64 ((rd_T36 l0 x6_1).f2), .int .i64 x214003_17, .int .i64 ((rd_T36 l0 x6_1).f4), .int .i64 ((rd_T36 l0 x6_1).f5)]) ?_ 5 _ rfl; (with_reducible repeat (first | refine blk_drewN ?_ _ | refine blk_drew ?_ | refine blk_alloc ?_ _)); exact BK213.out) k_ hk)); (case aO => exact (by (with_reducible repeat (first | apply Kd.R_alloc | apply Kd.R_drewN | apply Kd.R_drew)); exact Kd.R_mono (Kd.R_far (p := ⟨gb213, 5, none⟩) (Kd.R_mono HO_3.out (fun k_ hk => (⟨hk, hk⟩ : _ ∧ k_ ≠ gb213))) (fun _ hk => hk.2) (.int .i64 (rd y208 ((rd_T36 l0 x6_1).f5)))) (fun _ hk => hk.1))); (case aS => exact (below_size (by repeat (first | (with_reducible first | exact HB.out | apply below_alloc | apply pw_below_drewN | apply below_drew1 | refine below_set ?_ GE213.out) | exact HB.out)))); (case aL => have := LMc48.out; omega); intro v228 w51 ho hb hg hat; rw [← Ny227.out] at ho; have n0_ := Aside0.mk (Kd.R_over' (by (with_reducible repeat (first | apply Kd.R_alloc | apply Kd.R_drewN | apply Kd.R_drew)); exact (Kd.R_mono (Kd.R_far (p := ⟨gb213, 5, none⟩) (Kd.R_types HO_4.out BK213.out (by decide)) (fun _ hk => hk.2) (.int .i64 (rd y208 ((rd_T36 l0 x6_1).f5)))) (fun _ h_ => h_.1))) (Kd.R_typed (by (with_reducible repeat (first | apply Kd.R_alloc | apply Kd.R_drewN | apply Kd.R_drew)); exact (Kd.R_mono (Kd.R_far (p := ⟨gb213, 5, none⟩) (Kd.R_mono HO_3.out (fun k_ hk => (⟨hk, hk⟩ : _ ∧ k_ ≠ gb213))) (fun _ hk => hk.2) (.int .i64 (rd y208 ((rd_T36 l0 x6_1).f5)))) (fun _ h_ => h_.1)))) (by decide) hg); have n1_ := Aside0.mk (Kd.R_over' (by (with_reducible repeat (first | apply Kd.R_alloc | apply Kd.R_drewN | apply Kd.R_drew)); exact (Kd.R_mono (Kd.R_far (p := ⟨gb213, 5, none⟩) (Kd.R_types HO_5.out BK213.out (by decide)) (fun _ hk => hk.2) (.int .i64 (rd y208 ((rd_T36 l0 x6_1).f5)))) (fun _ h_ => h_.1))) (Kd.R_typed (by (with_reducible repeat (first | apply Kd.R_alloc | apply Kd.R_drewN | apply Kd.R_drew)); exact (Kd.R_mono (Kd.R_far (p := ⟨gb213, 5, none⟩) (Kd.R_mono HO_3.out (fun k_ hk => (⟨hk, hk⟩ : _ ∧ k_ ≠ gb213))) (fun _ hk => hk.2) (.int .i64 (rd y208 ((rd_T36 l0 x6_1).f5)))) (fun _ h_ => h_.1)))) (by decide) hg); have n2_ := Aside0.mk (Kd.R_over' (by (with_reducible repeat (first | apply Kd.R_alloc | apply Kd.R_drewN | apply Kd.R_drew)); exact (Kd.R_mono (Kd.R_far (p := ⟨gb213, 5, none⟩) (Kd.R_types HO_8.out BK213.out (by decide)) (fun _ hk => hk.2) (.int .i64 (rd y208 ((rd_T36 l0 x6_1).f5)))) (fun _ h_ => h_.1))) (Kd.R_typed (by (with_reducible repeat (first | apply Kd.R_alloc | apply Kd.R_drewN | apply Kd.R_drew)); exact (Kd.R_mono (Kd.R_far (p := ⟨gb213, 5, none⟩) (Kd.R_mono HO_3.out (fun k_ hk => (⟨hk, hk⟩ : _ ∧ k_ ≠ gb213))) (fun _ hk => hk.2) (.int .i64 (rd y208 ((rd_T36 l0 x6_1).f5)))) (fun _ h_ => h_.1)))) (by decide) hg); have n3_ := Aside0.mk (blk_grown (g := gb213) (o := .cells #[.int .i64 ((rd_T36 l0 x6_1).f0), .int .i64 ((rd_T36 l0 x6_1).f1), .int .i64 ((rd_T36 l0 x6_1).f2), .int .i64 x214003_17, .int .i64 ((rd_T36 l0 x6_1).f4), .int .i64 (rd y208 ((rd_T36 l0 x6_1).f5))] 36 (0, 0)) (by (with_reducible repeat (first | refine blk_drewN ?_ _ | refine blk_drew ?_ | refine blk_alloc ?_ _)); refine blk_put (cs := #[.int .i64 ((rd_T36 l0 x6_1).f0), .int .i64 ((rd_T36 l0 x6_1).f1), .int .i64 ((rd_T36 l0 x6_1).f2), .int .i64 x214003_17, .int .i64 ((rd_T36 l0 x6_1).f4), .int .i64 ((rd_T36 l0 x6_1).f5)]) ?_ 5 _ rfl; (with_reducible repeat (first | refine blk_drewN ?_ _ | refine blk_drew ?_ | refine blk_alloc ?_ _)); exact BK213.out) hg (Kd.R_away HO_3.out (fun _ hk => hk))); have n4_ := Aside0.mk (hb); have n5_ := Aside0.mk (ho); clear HO_4; clear HO_5; clear HO_8; clear BK213; clear HB; clear HO_3; have HO_4 := n0_; have HO_5 := n1_; have HO_8 := n2_; have BK213 := n3_; have HB := n4_; have HO229 := n5_; clear n0_ n1_ n2_ n3_ n4_ n5_; clear ho hb hg hat))
                go_roundg kj17
                case measure => have := HK1.out; have := HJ17.out; omega
                case rel => exact ⟨(y227), (y208), (wrap64 (x6_1 + 1)), (by rfl), H', ⟨by have := HK1.out; have := HJ17.out; omega⟩, ⟨by (with_reducible repeat (first | apply Kd.R_alloc | apply Kd.R_drewN | apply Kd.R_drew)); exact Kd.R_mono HO229.out (fun _ hk => trivial)⟩, ⟨by (with_reducible repeat (first | apply Kd.R_alloc | apply Kd.R_drewN | apply Kd.R_drew)); exact HO_4.out⟩, ⟨by (with_reducible repeat (first | apply Kd.R_alloc | apply Kd.R_drewN | apply Kd.R_drew)); exact Kd.R_mono HO_5.out (fun _ hk => trivial)⟩, ⟨by repeat (first | (with_reducible first | exact HB.out | apply below_alloc | apply pw_below_drewN | apply below_drew1 | refine below_set ?_ GE213.out) | exact HB.out)⟩⟩
               ·rw [if_neg c48] at H
                exact absurd H (by simp)
              ·rw [if_neg c47] at H
               exact absurd H (by simp)
             ·rw [if_neg c46] at H
              exact absurd H (by simp)
            ·rw [if_neg c45] at H
             have c45b0 : decide (2 < (t214.length : Int)) = false := decide_eq_false c45
             have c45b1 : decide (2 < t214.length) = false := decide_eq_false (by omega)
             clear c45
             by_cases c52 : x3_1.length < 2932031007402
             ·rw [if_pos c52] at H
              have LMc52 := Aside0.mk c52
              clear c52
              obtain ⟨y230, hy230⟩ : ∃ y_ : List (S36), y_ = (x3_1 ++ [(⟨((rd_T36 l0 x6_1).f0), ((rd_T36 l0 x6_1).f1), ((rd_T36 l0 x6_1).f2), x214003_17, ((rd_T36 l0 x6_1).f4), ((rd_T36 l0 x6_1).f5)⟩ : S36)]) := ⟨_, rfl⟩
              replace H : (spec_Prune.l0 kj17 l0 y230 t202 y208 (wrap64 (x6_1 + 1))) = some r := by (rw [hy230]; with_reducible exact H)
              have Ny230 := Aside0.mk hy230
              clear hy230
              have H' := Aside0.mk H
              clear H
              obtain ⟨hcz53_0, hcz53_1, hcz53_2, hcz53_3, hcz53_4, hcz53_5⟩ := cz6 BK213.out
              obtain ⟨hfz53_0, hfz53_1, hfz53_2, hfz53_3, hfz53_4, hfz53_5⟩ := fz6 BK213.out
              go_wp2_with (first | ((with_reducible refine gate_builtin (b := .append) (xs := #[.tmp 66, .tmp 68]) rfl ?_); at_builtin; refine Kd.R_append k36 (w0 := w) w.heap.size rfl (.tmp 66) (.tmp 68) 25 36 (.agg #[(.int .i64 0), (.int .i64 0), (.int .i64 0), (.int .i64 0), (.int .i64 0), (.int .i64 0)]) 48 rfl Try.underlying25 info36 rfl (by decide) (by omega) (.slice Ao19 x3_1.length co19) x3_1 (⟨((rd_T36 l0 x6_1).f0), ((rd_T36 l0 x6_1).f1), ((rd_T36 l0 x6_1).f2), x214003_17, ((rd_T36 l0 x6_1).f4), ((rd_T36 l0 x6_1).f5)⟩ : S36) [.int .i64 ((rd_T36 l0 x6_1).f0), .int .i64 ((rd_T36 l0 x6_1).f1), .int .i64 ((rd_T36 l0 x6_1).f2), .int .i64 x214003_17, .int .i64 ((rd_T36 l0 x6_1).f4), .int .i64 ((rd_T36 l0 x6_1).f5)] (fun k_ => k_ ≠ gb213) (fun _ => False) rfl rfl ?aP (fun _ hk => hk.elim) ?aF ?aO ?aB ?aS ?aL ?_; (case aP => exact k36_mkM _ _ _ (⟨((rd_T36 l0 x6_1).f0), ((rd_T36 l0 x6_1).f1), ((rd_T36 l0 x6_1).f2), x214003_17, ((rd_T36 l0 x6_1).f4), ((rd_T36 l0 x6_1).f5)⟩ : S36)); (case aB => exact (by repeat (first | (with_reducible first | exact HB.out | apply below_alloc | apply pw_below_drewN | apply below_drew1 | refine below_set ?_ GE213.out) | exact HB.out))); (case aF => exact (fun k_ hk => Kd.freshB (g := gb213) (o := .cells #[.int .i64 ((rd_T36 l0 x6_1).f0), .int .i64 ((rd_T36 l0 x6_1).f1), .int .i64 ((rd_T36 l0 x6_1).f2), .int .i64 x214003_17, .int .i64 ((rd_T36 l0 x6_1).f4), .int .i64 ((rd_T36 l0 x6_1).f5)] 36 (0, 0)) (by (with_reducible repeat (first | refine blk_drewN ?_ _ | refine blk_drew ?_ | refine blk_alloc ?_ _)); exact BK213.out) k_ hk)); (case aO => exact (by (with_reducible repeat (first | apply Kd.R_alloc | apply Kd.R_drewN | apply Kd.R_drew)); exact HO_3.out)); (case aS => exact (below_size (by repeat (first | (with_reducible first | exact HB.out | apply below_alloc | apply pw_below_drewN | apply below_drew1 | refine below_set ?_ GE213.out) | exact HB.out)))); (case aL => have := LMc52.out; omega); intro v231 w54 ho hb hg hat; rw [← Ny230.out] at ho; have n0_ := Aside0.mk (Kd.R_over' (by (with_reducible repeat (first | apply Kd.R_alloc | apply Kd.R_drewN | apply Kd.R_drew)); exact HO_4.out) (Kd.R_typed (by (with_reducible repeat (first | apply Kd.R_alloc | apply Kd.R_drewN | apply Kd.R_drew)); exact HO_3.out)) (by decide) hg); have n1_ := Aside0.mk (Kd.R_over' (by (with_reducible repeat (first | apply Kd.R_alloc | apply Kd.R_drewN | apply Kd.R_drew)); exact HO_5.out) (Kd.R_typed (by (with_reducible repeat (first | apply Kd.R_alloc | apply Kd.R_drewN | apply Kd.R_drew)); exact HO_3.out)) (by decide) hg); have n2_ := Aside0.mk (Kd.R_over' (by (with_reducible repeat (first | apply Kd.R_alloc | apply Kd.R_drewN | apply Kd.R_drew)); exact HO_8.out) (Kd.R_typed (by (with_reducible repeat (first | apply Kd.R_alloc | apply Kd.R_drewN | apply Kd.R_drew)); exact HO_3.out)) (by decide) hg); have n3_ := Aside0.mk (blk_grown (g := gb213) (o := .cells #[.int .i64 ((rd_T36 l0 x6_1).f0), .int .i64 ((rd_T36 l0 x6_1).f1), .int .i64 ((rd_T36 l0 x6_1).f2), .int .i64 x214003_17, .int .i64 ((rd_T36 l0 x6_1).f4), .int .i64 ((rd_T36 l0 x6_1).f5)] 36 (0, 0)) (by (with_reducible repeat (first | refine blk_drewN ?_ _ | refine blk_drew ?_ | refine blk_alloc ?_ _)); exact BK213.out) hg (Kd.R_away HO_3.out (fun _ hk => hk))); have n4_ := Aside0.mk (hb); have n5_ := Aside0.mk (ho); clear HO_4; clear HO_5; clear HO_8; clear BK213; clear HB; clear HO_3; have HO_4 := n0_; have HO_5 := n1_; have HO_8 := n2_; have BK213 := n3_; have HB := n4_; have HO232 := n5_; clear n0_ n1_ n2_ n3_ n4_ n5_; clear ho hb hg hat))
              go_roundg kj17
              case measure => have := HK1.out; have := HJ17.out; omega
              case rel => exact ⟨(y230), (y208), (wrap64 (x6_1 + 1)), (by rfl), H', ⟨by have := HK1.out; have := HJ17.out; omega⟩, ⟨by (with_reducible repeat (first | apply Kd.R_alloc | apply Kd.R_drewN | apply Kd.R_drew)); exact Kd.R_mono HO232.out (fun _ hk => trivial)⟩, ⟨by (with_reducible repeat (first | apply Kd.R_alloc | apply Kd.R_drewN | apply Kd.R_drew)); exact HO_4.out⟩, ⟨by (with_reducible repeat (first | apply Kd.R_alloc | apply Kd.R_drewN | apply Kd.R_drew)); exact Kd.R_mono HO_5.out (fun _ hk => trivial)⟩, ⟨by repeat (first | (with_reducible first | exact HB.out | apply below_alloc | apply pw_below_drewN | apply below_drew1 | refine below_set ?_ GE213.out) | exact HB.out)⟩⟩
             ·rw [if_neg c52] at H
              exact absurd H (by simp)
        ·replace c16 := Bool.eq_false_iff.mpr c16
         subst c16
         have H1 : (spec_Prune.l0 k1 l0 x3_1 t202 y208 (wrap64 (x6_1 + 1))) = some r := by rw [if_neg (show ¬ (false = true) by decide)] at H; exact H
         clear H
         have H := H1
         clear H1
         have H' := Aside0.mk H
         clear H
         obtain ⟨Ao55, co55, eo55⟩ := Kd.R_slice HO_3.out
         subst eo55
         go_wp2_with (first | ((with_reducible refine gate_builtin (b := .append) (xs := #[.tmp 23, .tmp 26]) rfl ?_); at_builtin; refine Kd.R_append (Kd.int .i64) (w0 := w) w.heap.size rfl (.tmp 23) (.tmp 26) 39 3 (.int .i64 0) 8 rfl Try.underlying39 info3 rfl (by decide) (by omega) u5 x5_1 (x3_1.length : Int) [.int .i64 (x3_1.length : Int)] (fun _ => True) (fun _ => False) rfl rfl ?aP (fun _ hk => hk.elim) ?aF ?aO ?aB ?aS ?aL ?_; (case aP => exact rfl); (case aB => exact (by repeat (first | (with_reducible first | exact HB.out | apply below_alloc | apply pw_below_drewN | apply below_drew1)))); (case aF => exact (fun _ _ => trivial)); (case aO => exact (by (with_reducible repeat (first | apply Kd.R_alloc | apply Kd.R_drewN | apply Kd.R_drew)); exact HO_5.out)); (case aS => exact (below_size (by repeat (first | (with_reducible first | exact HB.out | apply below_alloc | apply pw_below_drewN | apply below_drew1))))); (case aL => have := LMc12.out; omega); intro v209 w56 ho hb hg hat; rw [← Ny208.out] at ho; have n0_ := Aside0.mk (Kd.R_over' (by (with_reducible repeat (first | apply Kd.R_alloc | apply Kd.R_drewN | apply Kd.R_drew)); exact HO_3.out) (Kd.R_typed (by (with_reducible repeat (first | apply Kd.R_alloc | apply Kd.R_drewN | apply Kd.R_drew)); exact HO_5.out)) (by decide) hg); have n1_ := Aside0.mk (Kd.R_over' (by (with_reducible repeat (first | apply Kd.R_alloc | apply Kd.R_drewN | apply Kd.R_drew)); exact HO_4.out) (Kd.R_typed (by (with_reducible repeat (first | apply Kd.R_alloc | apply Kd.R_drewN | apply Kd.R_drew)); exact HO_5.out)) (by decide) hg); have n2_ := Aside0.mk (hb); have n3_ := Aside0.mk (ho); clear HO_3; clear HO_4; clear HB; clear HO_5; have HO_3 := n0_; have HO_4 := n1_; have HB := n2_; have HO210 := n3_; clear n0_ n1_ n2_ n3_; clear ho hb hg hat; obtain ⟨Ao57, co57, eo57⟩ := Kd.R_slice HO_4.out; subst eo57; have p211 : 0 ≤ (x6_1 : Int) := of_decide_eq_true (by assumption); have q211 : x6_1 < (t202.length : Int) := of_decide_eq_true (by assumption); obtain ⟨ad211, e211, hx211_0⟩ := Kd.at_bool (Kd.R_reads' HO_4.out).2.2 x6_1 p211 q211; (try rw [← Nbq15.out] at hx211_0); cases e211; replace p211 := eq_true p211; replace q211 := eq_true q211))
         go_roundg k1
         case measure => have := HK1.out; omega
         case rel => exact ⟨(x3_1), (y208), (wrap64 (x6_1 + 1)), (by rfl), H', ⟨by have := HK1.out; omega⟩, ⟨by (with_reducible repeat (first | apply Kd.R_alloc | apply Kd.R_drewN | apply Kd.R_drew)); exact HO_3.out⟩, ⟨by (with_reducible repeat (first | apply Kd.R_alloc | apply Kd.R_drewN | apply Kd.R_drew)); exact HO_4.out⟩, ⟨by (with_reducible repeat (first | apply Kd.R_alloc | apply Kd.R_drewN | apply Kd.R_drew)); exact HO210.out⟩, ⟨by repeat (first | (with_reducible first | exact HB.out | apply below_alloc | apply pw_below_drewN | apply below_drew1))⟩⟩
       ·rw [if_neg c14] at H
        exact absurd H (by simp)
      ·rw [if_neg c13] at H
       exact absurd H (by simp)
     ·rw [if_neg c12] at H
      exact absurd H (by simp)
    ·rw [if_neg c11] at H
     have c11b0 : decide (x6_1 < (l0.length : Int)) = false := decide_eq_false c11
     clear c11
     obtain rfl := Option.some.inj H
     go_wp2
     go_ret
     exact ⟨_, by rfl, by (with_reducible repeat (first | apply Kd.R_alloc | apply Kd.R_drewN | apply Kd.R_drew)); exact HO_3.out, by repeat (first | (with_reducible first | exact HB.out | apply below_alloc | apply pw_below_drewN | apply below_drew1))⟩
 ·replace c3 := Bool.eq_false_iff.mpr c3
  subst c3
  have H1 : (some y198) = some r := by rw [if_neg (show ¬ (false = true) by decide)] at H; exact H
  clear H
  have H := H1
  clear H1
  obtain rfl := Option.some.inj H
  go_enter Try.func36, Try.ntmps36
  go_wp2_with (first | ((with_reducible refine gate_dst (N := 9) rfl ?_); refine Kd.R_lit k36 _ 36 ?hg (N := 9) ?hd (xs := ([] : List (S36))) (inner := []) (ok := fun _ => True) (okp := fun _ => True) ?hr ?hp (fun _ hk => hk) trivial (Below.refl _ _) (Nat.le_refl _) (by simp) ?_; (case hd => rfl); (case hg => rfl); (case hr => (go_simp; done)); (case hp => exact (Reps.none _ _)); intro v199 w58 ho59 hb hg_ hnew_; clear hg_ hnew_; (rw [← Ny198.out] at ho59); have n0_ := Aside0.mk (Kd.R_lower ho59 (below_size (by repeat (first | (with_reducible first | exact HB.out | apply below_alloc | apply pw_below_drewN | apply below_drew1))))); have n1_ := Aside0.mk (below_step (by repeat (first | (with_reducible first | exact HB.out | apply below_alloc | apply pw_below_drewN | apply below_drew1))) hb); clear HB; have HO200 := n0_; have HB := n1_; clear n0_ n1_; clear hb ho59) | ((with_reducible refine gate_callee (f := 13) rfl ?_); refine goesL_ (some 11) rfl rfl Try.func13 (by kernel_rfl) rfl #[.slice A0 l0.length c0] rfl (by (try simp only [List.map_toArray, List.map_cons, List.map_nil]); rfl) ?_; (with_reducible refine (spec_TermOk.calls k _ _ l0 false _ ?side1 ?side2 A2.out).mono ?_); (case side1 => repeat (first | exact (Kd.C_below HR0.out HB.out) | (with_reducible refine Kd.C_alloc ?_ _) | (with_reducible refine Kd.C_drewN ?_ _) | (with_reducible refine Kd.C_drew ?_))); (case side2 => exact HC0.out); rintro e w60 ⟨rfl, hb⟩; refine ⟨_, rfl, ?_⟩; have n0_ := Aside0.mk (Kd.R_below (by (with_reducible repeat (first | apply Kd.R_alloc | apply Kd.R_drewN | apply Kd.R_drew)); exact HO200.out) hb); have n1_ := Aside0.mk (below_step (by repeat (first | (with_reducible first | exact HB.out | apply below_alloc | apply pw_below_drewN | apply below_drew1))) hb); clear HO200; clear HB; have HO200 := n0_; have HB := n1_; clear n0_ n1_; (try clear hb); (try clear hb2); (try clear hk); (try clear hi)))
  go_ret
  exact ⟨_, by rfl, by (with_reducible repeat (first | apply Kd.R_alloc | apply Kd.R_drewN | apply Kd.R_drew)); exact HO200.out, by repeat (first | (with_reducible first | exact HB.out | apply below_alloc | apply pw_below_drewN | apply below_drew1))⟩

end Go.Proofs.Ytdebihfmceclkaa.PAll
