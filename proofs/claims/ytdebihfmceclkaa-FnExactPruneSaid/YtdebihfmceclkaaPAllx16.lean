/- Written by a program of this session over the loaded program: Go functions as plain Lean functions, and that a call comes to what they say. -/
import Derived.Test.YtdebihfmceclkaaPAllx0
import Derived.Test.YtdebihfmceclkaaPAllx12
import Derived.Test.YtdebihfmceclkaaPAllx15
import Derived.Test.YtdebihfmceclkaaSq
namespace Go.Proofs.Ytdebihfmceclkaa.PAll
open Go.RowKit Go.Proofs.YtdebihfmceclkaaW.PrintWords Go.Proofs.YtdebihfmceclkaaW.PrintLast Go.Proofs.YtdebihfmceclkaaW.PrintMore Go.Proofs.YtdebihfmceclkaaW.Sq
attribute [local go_sem] max2_int min2_int max_two min_two max_three min_three max_four min_four   -- for this text's walks alone
set_option linter.unusedVariables false
set_option linter.unusedSimpArgs false

/-! ### impl_TermOk: function 15 -/
def impl_TermOk.l0 : Nat → List (S36) → List (S36) → Int → Int → Option (Bool)
 | 0, _, _, _, _ => none
 | k + 1, x0, x9, x10, x11 => if x11 < x10 then (if 0 ≤ x11 then (if x11 < (x9.length : Int) then (if x11 ≤ (x0.length : Int) then ((impl_isRight.f (x0.take (x11 : Int).toNat) ((rd_T36 x9 x11).f0) ((rd_T36 x9 x11).f1) ((rd_T36 x9 x11).f2) ((rd_T36 x9 x11).f3) ((rd_T36 x9 x11).f4) ((rd_T36 x9 x11).f5)).bind fun t266 => (if t266 = true then (impl_TermOk.l0 k x0 x9 x10 (wrap64 (x11 + 1))) else (some false))) else (none)) else (none)) else (none)) else (some true)
def impl_TermOk.f (k : Nat) (l0 : List (S36)) : Option (Bool) := (impl_within.f (l0.length : Int) 1 80).bind fun t259 => (if t259 = true then (impl_TermOk.l0 k l0 l0 (l0.length : Int) 0) else (some false))
theorem impl_TermOk.mono_l : ∀ k, (∀ y0 y1 y2 y3, LeO (impl_TermOk.l0 k y0 y1 y2 y3) (impl_TermOk.l0 (k + 1) y0 y1 y2 y3))
 | 0 => fun _ _ _ _ r h => by simp [impl_TermOk.l0] at h
 | k + 1 => by
  have ih0 := impl_TermOk.mono_l k
  ·intro y0 y1 y2 y3
   unfold impl_TermOk.l0
   repeat' first
   | (with_reducible exact ih0 _ _ _ _)
   | (with_reducible exact LeO.refl _)
   | (with_reducible exact LeO.none _)
   | (with_reducible refine LeO.ite ?_ ?_)
   | (with_reducible refine LeO.bind ?_ (fun _ => ?_))
   | exact ih0 _ _ _ _
   | exact LeO.none _
   | refine LeO.ite ?_ ?_
   | refine LeO.bind ?_ (fun _ => ?_)
theorem impl_TermOk.mono : ∀ a0 k, LeO (impl_TermOk.f k a0) (impl_TermOk.f (k + 1) a0) := by
 intro a0 k
 have ih0 := impl_TermOk.mono_l k
 unfold impl_TermOk.f
 repeat' first
   | (with_reducible exact ih0 _ _ _ _)
   | (with_reducible exact LeO.refl _)
   | (with_reducible exact LeO.none _)
   | (with_reducible refine LeO.ite ?_ ?_)
   | (with_reducible refine LeO.bind ?_ (fun _ => ?_))
   | exact ih0 _ _ _ _
   | exact LeO.none _
   | refine LeO.ite ?_ ?_
   | refine LeO.bind ?_ (fun _ => ?_)
set_option maxHeartbeats 8000000 in
set_option maxRecDepth 100000 in
theorem impl_TermOk.calls (k : Nat) (A0 : Option Addr) (c0 : Nat) (l0 : List (S36)) (r : Bool) (w : World) (hr0 : Kd.C k36 w A0 l0.length l0) (hc0 : l0.length ≤ c0) (h : impl_TermOk.f k l0 = some r) :
  Calls Try.prog 15 #[.slice A0 l0.length c0] w fun e w' => e = .returned (.bool r) ∧ Below w.heap.size w w' := by
 have hu36 := Try.underlying36
 have HR0 := Aside0.mk hr0
 have HC0 := Aside0.mk hc0
 clear hr0 hc0
 have HB := Aside0.mk (Below.refl w.heap.size w)
 have H : ((impl_within.f (l0.length : Int) 1 80).bind fun t259 => (if t259 = true then (impl_TermOk.l0 k l0 l0 (l0.length : Int) 0) else (some false))) = some r := h
 clear h
 replace H := Option.bind_eq_some_iff.mp H
 obtain ⟨t259, A20, H⟩ := H
 replace H : (if t259 = true then (impl_TermOk.l0 k l0 l0 (l0.length : Int) 0) else (some false)) = some r := H
 have A2 := Aside0.mk A20
 clear A20
 by_cases c3 : t259 = true
 ·subst c3
  have H1 : (impl_TermOk.l0 k l0 l0 (l0.length : Int) 0) = some r := by rw [if_pos rfl] at H; exact H
  clear H
  have H := H1
  clear H1
  have H' := Aside0.mk H
  clear H
  go_enter Try.func15, Try.ntmps15
  go_wp2_with (first | ((with_reducible refine gate_callee (f := 48) rfl ?_); refine goesL_ (some 7) rfl rfl Try.func48 (by kernel_rfl) rfl #[.int .i64 (l0.length : Int), .int .i64 1, .int .i64 80] rfl (by (try simp only [List.map_toArray, List.map_cons, List.map_nil]); rfl) ?_; (with_reducible refine (impl_within.calls (l0.length : Int) 1 80 true _ A2.out).mono ?_); rintro e w' ⟨rfl, ⟨nd, rfl⟩⟩; refine ⟨_, rfl, ?_⟩))
  go_loopg [11] k (fun kq v11 w' => ∃ (x11_1 : Int), v11 = .int .i64 x11_1 ∧ Aside0 (impl_TermOk.l0 kq l0 l0 (l0.length : Int) x11_1 = some r) ∧ Aside0 (kq ≤ k) ∧ Aside0 (Below w.heap.size w w'))
  case atStart => exact ⟨(0), (by rfl), H', ⟨Nat.le_refl _⟩, ⟨by repeat (first | (with_reducible first | exact HB.out | apply below_alloc | apply pw_below_drewN | apply below_drew1))⟩⟩
  case round =>
   clear H'
   obtain ⟨x11_1, rfl, HA, HK1, HB⟩ := hrel
   cases gk with
   | zero => exact absurd HA.out (by simp [impl_TermOk.l0])
   | succ k1 =>
    have H := HA.out
    clear HA
    simp only [impl_TermOk.l0] at H
    by_cases c4 : x11_1 < (l0.length : Int)
    ·rw [if_pos c4] at H
     have c4b0 : decide (x11_1 < (l0.length : Int)) = true := decide_eq_true c4
     clear c4
     by_cases c5 : 0 ≤ x11_1
     ·rw [if_pos c5] at H
      have c5b0 : decide (0 ≤ x11_1) = true := decide_eq_true c5
      clear c5
      by_cases c6 : x11_1 < (l0.length : Int)
      ·rw [if_pos c6] at H
       have c6b0 : decide (x11_1 < (l0.length : Int)) = true := decide_eq_true c6
       clear c6
       have c7b0 := eq_true (of_decide_eq_true (by assumption) : 0 ≤ x11_1)
       by_cases c8 : x11_1 ≤ (l0.length : Int)
       ·rw [if_pos c8] at H
        have c8b0 := eq_true c8
        have c8b1 : decide (x11_1 ≤ (l0.length : Int)) = true := decide_eq_true c8
        clear c8
        obtain ⟨y262, hy262⟩ : ∃ y_ : List (S36), y_ = (l0.take (x11_1 : Int).toNat) := ⟨_, rfl⟩
        replace H : ((impl_isRight.f y262 ((rd_T36 l0 x11_1).f0) ((rd_T36 l0 x11_1).f1) ((rd_T36 l0 x11_1).f2) ((rd_T36 l0 x11_1).f3) ((rd_T36 l0 x11_1).f4) ((rd_T36 l0 x11_1).f5)).bind fun t266 => (if t266 = true then (impl_TermOk.l0 k1 l0 l0 (l0.length : Int) (wrap64 (x11_1 + 1))) else (some false))) = some r := by (rw [hy262]; with_reducible exact H)
        have Ny262 := Aside0.mk hy262
        clear hy262
        replace H := Option.bind_eq_some_iff.mp H
        obtain ⟨t266, A90, H⟩ := H
        replace H : (if t266 = true then (impl_TermOk.l0 k1 l0 l0 (l0.length : Int) (wrap64 (x11_1 + 1))) else (some false)) = some r := H
        have A9 := Aside0.mk A90
        clear A90
        by_cases c10 : t266 = true
        ·subst c10
         have H1 : (impl_TermOk.l0 k1 l0 l0 (l0.length : Int) (wrap64 (x11_1 + 1))) = some r := by rw [if_pos rfl] at H; exact H
         clear H
         have H := H1
         clear H1
         have H' := Aside0.mk H
         clear H
         have p260 : 0 ≤ (x11_1 : Int) := of_decide_eq_true (by assumption)
         have q260 : x11_1 < (l0.length : Int) := of_decide_eq_true (by assumption)
         obtain ⟨ad260, e260, hx260_0, hx260_1, hx260_2, hx260_3, hx260_4, hx260_5⟩ := at_T36 HR0.out x11_1 p260 q260
         cases e260
         replace hx260_0 := pw_cell_below HB.out hx260_0
         replace hx260_1 := pw_cell_below HB.out hx260_1
         replace hx260_2 := pw_cell_below HB.out hx260_2
         replace hx260_3 := pw_cell_below HB.out hx260_3
         replace hx260_4 := pw_cell_below HB.out hx260_4
         replace hx260_5 := pw_cell_below HB.out hx260_5
         replace p260 := eq_true p260
         replace q260 := eq_true q260
         try go_wp2_with (first | ((with_reducible refine gate_dst (N := 4) rfl ?_); refine box_event ?hg (N := 4) ?hd (cs := #[.int .i64 0, .int .i64 0, .int .i64 0, .int .i64 0, .int .i64 0, .int .i64 0]) (t := 36) ?hr ?_; (case hd => rfl); (case hg => rfl); (case hr => (go_simp; done)); intro gb261 hg w11 hbox hb; have n0_ := Aside0.mk (below_step (by repeat (first | (with_reducible first | exact HB.out | apply below_alloc | apply pw_below_drewN | apply below_drew1))) hb); have n1_ := Aside0.mk (hbox); have n2_ := Aside0.mk ((by rw [hg]; exact (below_size (by repeat (first | (with_reducible first | exact HB.out | apply below_alloc | apply pw_below_drewN | apply below_drew1)))) : w.heap.size ≤ gb261)); have n3_ := Aside0.mk ((by rw [hg]; exact (below_size (by repeat (first | (with_reducible first | exact HB.out | apply below_alloc | apply pw_below_drewN | apply below_drew1)))) : w.heap.size ≤ gb261)); clear HB; have HB := n0_; have BK261 := n1_; have GW261 := n2_; have GE261 := n3_; clear n0_ n1_ n2_ n3_; clear hb hbox hg; obtain ⟨hcz12_0, hcz12_1, hcz12_2, hcz12_3, hcz12_4, hcz12_5⟩ := cz6 BK261.out; obtain ⟨hfz12_0, hfz12_1, hfz12_2, hfz12_3, hfz12_4, hfz12_5⟩ := fz6 BK261.out))
         have n0_ : Aside0 (((((((w11.setCell ⟨gb261, 0, none⟩ (.int .i64 ((rd_T36 l0 x11_1).f0))).setCell ⟨gb261, 1, none⟩ (.int .i64 ((rd_T36 l0 x11_1).f1))).setCell ⟨gb261, 2, none⟩ (.int .i64 ((rd_T36 l0 x11_1).f2))).setCell ⟨gb261, 3, none⟩ (.int .i64 ((rd_T36 l0 x11_1).f3))).setCell ⟨gb261, 4, none⟩ (.int .i64 ((rd_T36 l0 x11_1).f4))).setCell ⟨gb261, 5, none⟩ (.int .i64 ((rd_T36 l0 x11_1).f5))).heap[gb261]? = some (.cells #[.int .i64 ((rd_T36 l0 x11_1).f0), .int .i64 ((rd_T36 l0 x11_1).f1), .int .i64 ((rd_T36 l0 x11_1).f2), .int .i64 ((rd_T36 l0 x11_1).f3), .int .i64 ((rd_T36 l0 x11_1).f4), .int .i64 ((rd_T36 l0 x11_1).f5)] 36 (0, 0))) := ⟨by (with_reducible repeat (first | refine blk_drewN ?_ _ | refine blk_drew ?_ | refine blk_alloc ?_ _)); refine blk_put (cs := #[.int .i64 ((rd_T36 l0 x11_1).f0), .int .i64 ((rd_T36 l0 x11_1).f1), .int .i64 ((rd_T36 l0 x11_1).f2), .int .i64 ((rd_T36 l0 x11_1).f3), .int .i64 ((rd_T36 l0 x11_1).f4), .int .i64 0]) ?_ 5 _ rfl; (with_reducible repeat (first | refine blk_drewN ?_ _ | refine blk_drew ?_ | refine blk_alloc ?_ _)); refine blk_put (cs := #[.int .i64 ((rd_T36 l0 x11_1).f0), .int .i64 ((rd_T36 l0 x11_1).f1), .int .i64 ((rd_T36 l0 x11_1).f2), .int .i64 ((rd_T36 l0 x11_1).f3), .int .i64 0, .int .i64 0]) ?_ 4 _ rfl; (with_reducible repeat (first | refine blk_drewN ?_ _ | refine blk_drew ?_ | refine blk_alloc ?_ _)); refine blk_put (cs := #[.int .i64 ((rd_T36 l0 x11_1).f0), .int .i64 ((rd_T36 l0 x11_1).f1), .int .i64 ((rd_T36 l0 x11_1).f2), .int .i64 0, .int .i64 0, .int .i64 0]) ?_ 3 _ rfl; (with_reducible repeat (first | refine blk_drewN ?_ _ | refine blk_drew ?_ | refine blk_alloc ?_ _)); refine blk_put (cs := #[.int .i64 ((rd_T36 l0 x11_1).f0), .int .i64 ((rd_T36 l0 x11_1).f1), .int .i64 0, .int .i64 0, .int .i64 0, .int .i64 0]) ?_ 2 _ rfl; (with_reducible repeat (first | refine blk_drewN ?_ _ | refine blk_drew ?_ | refine blk_alloc ?_ _)); refine blk_put (cs := #[.int .i64 ((rd_T36 l0 x11_1).f0), .int .i64 0, .int .i64 0, .int .i64 0, .int .i64 0, .int .i64 0]) ?_ 1 _ rfl; (with_reducible repeat (first | refine blk_drewN ?_ _ | refine blk_drew ?_ | refine blk_alloc ?_ _)); refine blk_put (cs := #[.int .i64 0, .int .i64 0, .int .i64 0, .int .i64 0, .int .i64 0, .int .i64 0]) ?_ 0 _ rfl; (with_reducible repeat (first | refine blk_drewN ?_ _ | refine blk_drew ?_ | refine blk_alloc ?_ _)); exact BK261.out⟩
         have n1_ : Aside0 (Below w.heap.size w ((((((w11.setCell ⟨gb261, 0, none⟩ (.int .i64 ((rd_T36 l0 x11_1).f0))).setCell ⟨gb261, 1, none⟩ (.int .i64 ((rd_T36 l0 x11_1).f1))).setCell ⟨gb261, 2, none⟩ (.int .i64 ((rd_T36 l0 x11_1).f2))).setCell ⟨gb261, 3, none⟩ (.int .i64 ((rd_T36 l0 x11_1).f3))).setCell ⟨gb261, 4, none⟩ (.int .i64 ((rd_T36 l0 x11_1).f4))).setCell ⟨gb261, 5, none⟩ (.int .i64 ((rd_T36 l0 x11_1).f5)))) := ⟨by repeat (first | (with_reducible first | exact HB.out | apply below_alloc | apply pw_below_drewN | apply below_drew1 | refine below_set ?_ GE261.out) | exact HB.out)⟩
         clear BK261
         clear HB
         generalize ((((((w11.setCell ⟨gb261, 0, none⟩ (.int .i64 ((rd_T36 l0 x11_1).f0))).setCell ⟨gb261, 1, none⟩ (.int .i64 ((rd_T36 l0 x11_1).f1))).setCell ⟨gb261, 2, none⟩ (.int .i64 ((rd_T36 l0 x11_1).f2))).setCell ⟨gb261, 3, none⟩ (.int .i64 ((rd_T36 l0 x11_1).f3))).setCell ⟨gb261, 4, none⟩ (.int .i64 ((rd_T36 l0 x11_1).f4))).setCell ⟨gb261, 5, none⟩ (.int .i64 ((rd_T36 l0 x11_1).f5))) = w13 at n0_ n1_ ⊢
         have BK261 := n0_
         have HB := n1_
         clear n0_ n1_
         have n0_ := Aside0.mk (blk_drew BK261.out)
         have n1_ := Aside0.mk (below_drew1 HB.out)
         clear BK261
         clear HB
         have BK261 := n0_
         have HB := n1_
         clear n0_ n1_
         have q15 : (x11_1 : Int) ≤ ((l0.length : Int) : Int) := of_decide_eq_true (by assumption)
         obtain ⟨i015, hi015, _, hsz15, _⟩ := info_parts info36
         have hroom15 : l0.length ≤ c0 := HC0.out
         have hC15 : Kd.C k36 _ (some ad260) l0.length l0 := HR0.out
         have hcut15 := cut_to (P := Try.prog) 25 36 .i64 Try.underlying25 hi015 (some ad260) l0.length c0 x11_1 (of_decide_eq_true (by assumption)) q15 hroom15
         have hr15 := Kd.C_take (m := (x11_1 : Int).toNat) hC15 (by omega)
         have hy15 : y262.length = (x11_1 : Int).toNat := (by rw [Ny262.out, List.length_take]; omega)
         rw [← Ny262.out] at hr15
         rw [← hy15] at hcut15
         have HR265 := Aside0.mk hr15
         have HC265 := Aside0.mk (show y262.length ≤ c0 from by omega)
         clear hr15 hC15 hroom15 hi015 hsz15
         have KY15 := Aside0.mk hy15
         clear hy15
         replace q15 := eq_true q15
         refine start_ (n := 6) (S := fun w' => w'.cell? ⟨gb261, 0, none⟩ = some (.int .i64 ((rd_T36 l0 x11_1).f0)) ∧ w'.cell? ⟨gb261, 1, none⟩ = some (.int .i64 ((rd_T36 l0 x11_1).f1)) ∧ w'.cell? ⟨gb261, 2, none⟩ = some (.int .i64 ((rd_T36 l0 x11_1).f2)) ∧ w'.cell? ⟨gb261, 3, none⟩ = some (.int .i64 ((rd_T36 l0 x11_1).f3)) ∧ w'.cell? ⟨gb261, 4, none⟩ = some (.int .i64 ((rd_T36 l0 x11_1).f4)) ∧ w'.cell? ⟨gb261, 5, none⟩ = some (.int .i64 ((rd_T36 l0 x11_1).f5))) (ds := []) #[false, false, false, false, false, false] (by kernel_rfl) rfl rfl ⟨(blk_cell BK261.out 0).trans rfl, (blk_cell BK261.out 1).trans rfl, (blk_cell BK261.out 2).trans rfl, (blk_cell BK261.out 3).trans rfl, (blk_cell BK261.out 4).trans rfl, (blk_cell BK261.out 5).trans rfl⟩ (fun hHeld => ?_)
         generalize w13.drew = w14 at BK261 HB HR265 hHeld ⊢
         refine pure_ (i := 0) (N := some 16) (v := ?_) (a' := ?_) #[true, false, false, false, false, false] rfl rfl (by kernel_rfl) (fun _ _ _ h => h) (Or.inl ⟨by rfl, ?_⟩) ?_ ?_; rotate_left; (intro w'; go_simp; with_reducible rfl); rotate_left; (simp only [Act.put, List.setIfInBounds_toArray, List.set_cons_zero, List.set_cons_succ, i64_w, i32_w]; rfl)
         refine pure_ (i := 1) (N := some 17) (v := ?_) (a' := ?_) #[true, true, false, false, false, false] rfl rfl (by kernel_rfl) (fun _ _ _ h => h) (Or.inl ⟨by rfl, ?_⟩) ?_ ?_; rotate_left; (intro w'; go_simp; with_reducible rfl); rotate_left; (simp only [Act.put, List.setIfInBounds_toArray, List.set_cons_zero, List.set_cons_succ, i64_w, i32_w]; rfl)
         refine pure_ (i := 2) (N := some 18) (v := ?_) (a' := ?_) #[true, true, true, false, false, false] rfl rfl (by kernel_rfl) (fun _ _ _ h => h) (Or.inl ⟨by rfl, ?_⟩) ?_ ?_; rotate_left; (intro w'; go_simp; with_reducible rfl); rotate_left; (simp only [Act.put, List.setIfInBounds_toArray, List.set_cons_zero, List.set_cons_succ, i64_w, i32_w]; rfl)
         refine take_ (i := 3) (N := some 19) (v := ?_) (a' := ?_) #[true, true, true, true, false, false] rfl rfl (by kernel_rfl) (fun _ _ _ h => h) (Or.inl ⟨by rfl, ?_⟩) hHeld ?_ ?_
         rotate_left
         ·rintro w' ⟨s0, s1, s2, s3, s4, s5⟩
          go_simp
          with_reducible rfl
         rotate_left
         ·simp only [Act.put, List.setIfInBounds_toArray, List.set_cons_zero, List.set_cons_succ, i64_w, i32_w]
          rfl
         refine one_ (i := 4) (N := some 20) #[true, true, true, true, true, false] rfl rfl (by kernel_rfl) (by decide) (fun K hK => ?_)
         refine goes_ Try.func49 (by kernel_rfl) rfl #[.slice (some ad260) y262.length c0, .agg #[.int .i64 ((rd_T36 l0 x11_1).f0), .int .i64 ((rd_T36 l0 x11_1).f1), .int .i64 ((rd_T36 l0 x11_1).f2), .int .i64 ((rd_T36 l0 x11_1).f3), .int .i64 ((rd_T36 l0 x11_1).f4), .int .i64 ((rd_T36 l0 x11_1).f5)]] (by rfl) rfl rfl (by (try simp only [List.map_toArray, List.map_cons, List.map_nil]); rfl) ?_
         with_reducible refine (impl_isRight.calls _ _ y262 ((rd_T36 l0 x11_1).f0) ((rd_T36 l0 x11_1).f1) ((rd_T36 l0 x11_1).f2) ((rd_T36 l0 x11_1).f3) ((rd_T36 l0 x11_1).f4) ((rd_T36 l0 x11_1).f5) true _ ?side1 ?side2 A9.out).mono ?_
         (case side1 => repeat (first | exact (Kd.C_below HR265.out HB.out) | (with_reducible refine Kd.C_alloc ?_ _) | (with_reducible refine Kd.C_drewN ?_ _) | (with_reducible refine Kd.C_drew ?_)))
         (case side2 => exact HC265.out)
         rintro e w16 ⟨rfl, hb⟩
         refine ⟨_, rfl, ?_⟩
         have n0_ := Aside0.mk (blk_below (g := gb261) (o := .cells #[.int .i64 ((rd_T36 l0 x11_1).f0), .int .i64 ((rd_T36 l0 x11_1).f1), .int .i64 ((rd_T36 l0 x11_1).f2), .int .i64 ((rd_T36 l0 x11_1).f3), .int .i64 ((rd_T36 l0 x11_1).f4), .int .i64 ((rd_T36 l0 x11_1).f5)] 36 (0, 0)) (by (with_reducible repeat (first | refine blk_drewN ?_ _ | refine blk_drew ?_ | refine blk_alloc ?_ _)); exact BK261.out) hb)
         have n1_ := Aside0.mk (below_step (by repeat (first | (with_reducible first | exact HB.out | apply below_alloc | apply pw_below_drewN | apply below_drew1 | refine below_set ?_ GE261.out) | exact HB.out)) hb)
         clear BK261
         clear HB
         have BK261 := n0_
         have HB := n1_
         clear n0_ n1_
         clear hb
         refine hK.out _ _ ⟨(blk_cell BK261.out 0).trans rfl, (blk_cell BK261.out 1).trans rfl, (blk_cell BK261.out 2).trans rfl, (blk_cell BK261.out 3).trans rfl, (blk_cell BK261.out 4).trans rfl, (blk_cell BK261.out 5).trans rfl⟩ (fun hHeld => ?_)
         clear hK K
         refine norm_ (a' := ?_) ?_ ?_
         rotate_left
         ·show Act.put _ (some 20) _ = _
          simp only [Act.put, List.setIfInBounds_toArray, List.set_cons_zero, List.set_cons_succ, i64_w, i32_w]
          rfl
         refine pure_ (i := 5) (N := some 21) (v := ?_) (a' := ?_) #[true, true, true, true, true, true] rfl rfl (by kernel_rfl) (fun _ _ _ h => h) (Or.inl ⟨by rfl, ?_⟩) ?_ ?_; rotate_left; (intro w'; go_simp; with_reducible rfl); rotate_left; (simp only [Act.put, List.setIfInBounds_toArray, List.set_cons_zero, List.set_cons_succ, i64_w, i32_w]; rfl)
         refine done_ (by kernel_rfl) ?_
         try go_wp2
         go_roundg k1
         case measure => have := HK1.out; omega
         case rel => exact ⟨(wrap64 (x11_1 + 1)), (by rfl), H', ⟨by have := HK1.out; omega⟩, ⟨by repeat (first | (with_reducible first | exact HB.out | apply below_alloc | apply pw_below_drewN | apply below_drew1 | refine below_set ?_ GE261.out) | exact HB.out)⟩⟩
        ·replace c10 := Bool.eq_false_iff.mpr c10
         subst c10
         have H1 : (some false) = some r := by rw [if_neg (show ¬ (false = true) by decide)] at H; exact H
         clear H
         have H := H1
         clear H1
         obtain rfl := Option.some.inj H
         have p260 : 0 ≤ (x11_1 : Int) := of_decide_eq_true (by assumption)
         have q260 : x11_1 < (l0.length : Int) := of_decide_eq_true (by assumption)
         obtain ⟨ad260, e260, hx260_0, hx260_1, hx260_2, hx260_3, hx260_4, hx260_5⟩ := at_T36 HR0.out x11_1 p260 q260
         cases e260
         replace hx260_0 := pw_cell_below HB.out hx260_0
         replace hx260_1 := pw_cell_below HB.out hx260_1
         replace hx260_2 := pw_cell_below HB.out hx260_2
         replace hx260_3 := pw_cell_below HB.out hx260_3
         replace hx260_4 := pw_cell_below HB.out hx260_4
         replace hx260_5 := pw_cell_below HB.out hx260_5
         replace p260 := eq_true p260
         replace q260 := eq_true q260
         try go_wp2_with (first | ((with_reducible refine gate_dst (N := 4) rfl ?_); refine box_event ?hg (N := 4) ?hd (cs := #[.int .i64 0, .int .i64 0, .int .i64 0, .int .i64 0, .int .i64 0, .int .i64 0]) (t := 36) ?hr ?_; (case hd => rfl); (case hg => rfl); (case hr => (go_simp; done)); intro gb261 hg w17 hbox hb; have n0_ := Aside0.mk (below_step (by repeat (first | (with_reducible first | exact HB.out | apply below_alloc | apply pw_below_drewN | apply below_drew1))) hb); have n1_ := Aside0.mk (hbox); have n2_ := Aside0.mk ((by rw [hg]; exact (below_size (by repeat (first | (with_reducible first | exact HB.out | apply below_alloc | apply pw_below_drewN | apply below_drew1)))) : w.heap.size ≤ gb261)); have n3_ := Aside0.mk ((by rw [hg]; exact (below_size (by repeat (first | (with_reducible first | exact HB.out | apply below_alloc | apply pw_below_drewN | apply below_drew1)))) : w.heap.size ≤ gb261)); clear HB; have HB := n0_; have BK261 := n1_; have GW261 := n2_; have GE261 := n3_; clear n0_ n1_ n2_ n3_; clear hb hbox hg; obtain ⟨hcz18_0, hcz18_1, hcz18_2, hcz18_3, hcz18_4, hcz18_5⟩ := cz6 BK261.out; obtain ⟨hfz18_0, hfz18_1, hfz18_2, hfz18_3, hfz18_4, hfz18_5⟩ := fz6 BK261.out))
         have n0_ : Aside0 (((((((w17.setCell ⟨gb261, 0, none⟩ (.int .i64 ((rd_T36 l0 x11_1).f0))).setCell ⟨gb261, 1, none⟩ (.int .i64 ((rd_T36 l0 x11_1).f1))).setCell ⟨gb261, 2, none⟩ (.int .i64 ((rd_T36 l0 x11_1).f2))).setCell ⟨gb261, 3, none⟩ (.int .i64 ((rd_T36 l0 x11_1).f3))).setCell ⟨gb261, 4, none⟩ (.int .i64 ((rd_T36 l0 x11_1).f4))).setCell ⟨gb261, 5, none⟩ (.int .i64 ((rd_T36 l0 x11_1).f5))).heap[gb261]? = some (.cells #[.int .i64 ((rd_T36 l0 x11_1).f0), .int .i64 ((rd_T36 l0 x11_1).f1), .int .i64 ((rd_T36 l0 x11_1).f2), .int .i64 ((rd_T36 l0 x11_1).f3), .int .i64 ((rd_T36 l0 x11_1).f4), .int .i64 ((rd_T36 l0 x11_1).f5)] 36 (0, 0))) := ⟨by (with_reducible repeat (first | refine blk_drewN ?_ _ | refine blk_drew ?_ | refine blk_alloc ?_ _)); refine blk_put (cs := #[.int .i64 ((rd_T36 l0 x11_1).f0), .int .i64 ((rd_T36 l0 x11_1).f1), .int .i64 ((rd_T36 l0 x11_1).f2), .int .i64 ((rd_T36 l0 x11_1).f3), .int .i64 ((rd_T36 l0 x11_1).f4), .int .i64 0]) ?_ 5 _ rfl; (with_reducible repeat (first | refine blk_drewN ?_ _ | refine blk_drew ?_ | refine blk_alloc ?_ _)); refine blk_put (cs := #[.int .i64 ((rd_T36 l0 x11_1).f0), .int .i64 ((rd_T36 l0 x11_1).f1), .int .i64 ((rd_T36 l0 x11_1).f2), .int .i64 ((rd_T36 l0 x11_1).f3), .int .i64 0, .int .i64 0]) ?_ 4 _ rfl; (with_reducible repeat (first | refine blk_drewN ?_ _ | refine blk_drew ?_ | refine blk_alloc ?_ _)); refine blk_put (cs := #[.int .i64 ((rd_T36 l0 x11_1).f0), .int .i64 ((rd_T36 l0 x11_1).f1), .int .i64 ((rd_T36 l0 x11_1).f2), .int .i64 0, .int .i64 0, .int .i64 0]) ?_ 3 _ rfl; (with_reducible repeat (first | refine blk_drewN ?_ _ | refine blk_drew ?_ | refine blk_alloc ?_ _)); refine blk_put (cs := #[.int .i64 ((rd_T36 l0 x11_1).f0), .int .i64 ((rd_T36 l0 x11_1).f1), .int .i64 0, .int .i64 0, .int .i64 0, .int .i64 0]) ?_ 2 _ rfl; (with_reducible repeat (first | refine blk_drewN ?_ _ | refine blk_drew ?_ | refine blk_alloc ?_ _)); refine blk_put (cs := #[.int .i64 ((rd_T36 l0 x11_1).f0), .int .i64 0, .int .i64 0, .int .i64 0, .int .i64 0, .int .i64 0]) ?_ 1 _ rfl; (with_reducible repeat (first | refine blk_drewN ?_ _ | refine blk_drew ?_ | refine blk_alloc ?_ _)); refine blk_put (cs := #[.int .i64 0, .int .i64 0, .int .i64 0, .int .i64 0, .int .i64 0, .int .i64 0]) ?_ 0 _ rfl; (with_reducible repeat (first | refine blk_drewN ?_ _ | refine blk_drew ?_ | refine blk_alloc ?_ _)); exact BK261.out⟩
         have n1_ : Aside0 (Below w.heap.size w ((((((w17.setCell ⟨gb261, 0, none⟩ (.int .i64 ((rd_T36 l0 x11_1).f0))).setCell ⟨gb261, 1, none⟩ (.int .i64 ((rd_T36 l0 x11_1).f1))).setCell ⟨gb261, 2, none⟩ (.int .i64 ((rd_T36 l0 x11_1).f2))).setCell ⟨gb261, 3, none⟩ (.int .i64 ((rd_T36 l0 x11_1).f3))).setCell ⟨gb261, 4, none⟩ (.int .i64 ((rd_T36 l0 x11_1).f4))).setCell ⟨gb261, 5, none⟩ (.int .i64 ((rd_T36 l0 x11_1).f5)))) := ⟨by repeat (first | (with_reducible first | exact HB.out | apply below_alloc | apply pw_below_drewN | apply below_drew1 | refine below_set ?_ GE261.out) | exact HB.out)⟩
         clear BK261
         clear HB
         generalize ((((((w17.setCell ⟨gb261, 0, none⟩ (.int .i64 ((rd_T36 l0 x11_1).f0))).setCell ⟨gb261, 1, none⟩ (.int .i64 ((rd_T36 l0 x11_1).f1))).setCell ⟨gb261, 2, none⟩ (.int .i64 ((rd_T36 l0 x11_1).f2))).setCell ⟨gb261, 3, none⟩ (.int .i64 ((rd_T36 l0 x11_1).f3))).setCell ⟨gb261, 4, none⟩ (.int .i64 ((rd_T36 l0 x11_1).f4))).setCell ⟨gb261, 5, none⟩ (.int .i64 ((rd_T36 l0 x11_1).f5))) = w19 at n0_ n1_ ⊢
         have BK261 := n0_
         have HB := n1_
         clear n0_ n1_
         have n0_ := Aside0.mk (blk_drew BK261.out)
         have n1_ := Aside0.mk (below_drew1 HB.out)
         clear BK261
         clear HB
         have BK261 := n0_
         have HB := n1_
         clear n0_ n1_
         have q21 : (x11_1 : Int) ≤ ((l0.length : Int) : Int) := of_decide_eq_true (by assumption)
         obtain ⟨i021, hi021, _, hsz21, _⟩ := info_parts info36
         have hroom21 : l0.length ≤ c0 := HC0.out
         have hC21 : Kd.C k36 _ (some ad260) l0.length l0 := HR0.out
         have hcut21 := cut_to (P := Try.prog) 25 36 .i64 Try.underlying25 hi021 (some ad260) l0.length c0 x11_1 (of_decide_eq_true (by assumption)) q21 hroom21
         have hr21 := Kd.C_take (m := (x11_1 : Int).toNat) hC21 (by omega)
         have hy21 : y262.length = (x11_1 : Int).toNat := (by rw [Ny262.out, List.length_take]; omega)
         rw [← Ny262.out] at hr21
         rw [← hy21] at hcut21
         have HR265 := Aside0.mk hr21
         have HC265 := Aside0.mk (show y262.length ≤ c0 from by omega)
         clear hr21 hC21 hroom21 hi021 hsz21
         have KY21 := Aside0.mk hy21
         clear hy21
         replace q21 := eq_true q21
         refine start_ (n := 6) (S := fun w' => w'.cell? ⟨gb261, 0, none⟩ = some (.int .i64 ((rd_T36 l0 x11_1).f0)) ∧ w'.cell? ⟨gb261, 1, none⟩ = some (.int .i64 ((rd_T36 l0 x11_1).f1)) ∧ w'.cell? ⟨gb261, 2, none⟩ = some (.int .i64 ((rd_T36 l0 x11_1).f2)) ∧ w'.cell? ⟨gb261, 3, none⟩ = some (.int .i64 ((rd_T36 l0 x11_1).f3)) ∧ w'.cell? ⟨gb261, 4, none⟩ = some (.int .i64 ((rd_T36 l0 x11_1).f4)) ∧ w'.cell? ⟨gb261, 5, none⟩ = some (.int .i64 ((rd_T36 l0 x11_1).f5))) (ds := []) #[false, false, false, false, false, false] (by kernel_rfl) rfl rfl ⟨(blk_cell BK261.out 0).trans rfl, (blk_cell BK261.out 1).trans rfl, (blk_cell BK261.out 2).trans rfl, (blk_cell BK261.out 3).trans rfl, (blk_cell BK261.out 4).trans rfl, (blk_cell BK261.out 5).trans rfl⟩ (fun hHeld => ?_)
         generalize w19.drew = w20 at BK261 HB HR265 hHeld ⊢
         refine pure_ (i := 0) (N := some 16) (v := ?_) (a' := ?_) #[true, false, false, false, false, false] rfl rfl (by kernel_rfl) (fun _ _ _ h => h) (Or.inl ⟨by rfl, ?_⟩) ?_ ?_; rotate_left; (intro w'; go_simp; with_reducible rfl); rotate_left; (simp only [Act.put, List.setIfInBounds_toArray, List.set_cons_zero, List.set_cons_succ, i64_w, i32_w]; rfl)
         refine pure_ (i := 1) (N := some 17) (v := ?_) (a' := ?_) #[true, true, false, false, false, false] rfl rfl (by kernel_rfl) (fun _ _ _ h => h) (Or.inl ⟨by rfl, ?_⟩) ?_ ?_; rotate_left; (intro w'; go_simp; with_reducible rfl); rotate_left; (simp only [Act.put, List.setIfInBounds_toArray, List.set_cons_zero, List.set_cons_succ, i64_w, i32_w]; rfl)
         refine pure_ (i := 2) (N := some 18) (v := ?_) (a' := ?_) #[true, true, true, false, false, false] rfl rfl (by kernel_rfl) (fun _ _ _ h => h) (Or.inl ⟨by rfl, ?_⟩) ?_ ?_; rotate_left; (intro w'; go_simp; with_reducible rfl); rotate_left; (simp only [Act.put, List.setIfInBounds_toArray, List.set_cons_zero, List.set_cons_succ, i64_w, i32_w]; rfl)
         refine take_ (i := 3) (N := some 19) (v := ?_) (a' := ?_) #[true, true, true, true, false, false] rfl rfl (by kernel_rfl) (fun _ _ _ h => h) (Or.inl ⟨by rfl, ?_⟩) hHeld ?_ ?_
         rotate_left
         ·rintro w' ⟨s0, s1, s2, s3, s4, s5⟩
          go_simp
          with_reducible rfl
         rotate_left
         ·simp only [Act.put, List.setIfInBounds_toArray, List.set_cons_zero, List.set_cons_succ, i64_w, i32_w]
          rfl
         refine one_ (i := 4) (N := some 20) #[true, true, true, true, true, false] rfl rfl (by kernel_rfl) (by decide) (fun K hK => ?_)
         refine goes_ Try.func49 (by kernel_rfl) rfl #[.slice (some ad260) y262.length c0, .agg #[.int .i64 ((rd_T36 l0 x11_1).f0), .int .i64 ((rd_T36 l0 x11_1).f1), .int .i64 ((rd_T36 l0 x11_1).f2), .int .i64 ((rd_T36 l0 x11_1).f3), .int .i64 ((rd_T36 l0 x11_1).f4), .int .i64 ((rd_T36 l0 x11_1).f5)]] (by rfl) rfl rfl (by (try simp only [List.map_toArray, List.map_cons, List.map_nil]); rfl) ?_
         with_reducible refine (impl_isRight.calls _ _ y262 ((rd_T36 l0 x11_1).f0) ((rd_T36 l0 x11_1).f1) ((rd_T36 l0 x11_1).f2) ((rd_T36 l0 x11_1).f3) ((rd_T36 l0 x11_1).f4) ((rd_T36 l0 x11_1).f5) false _ ?side1 ?side2 A9.out).mono ?_
         (case side1 => repeat (first | exact (Kd.C_below HR265.out HB.out) | (with_reducible refine Kd.C_alloc ?_ _) | (with_reducible refine Kd.C_drewN ?_ _) | (with_reducible refine Kd.C_drew ?_)))
         (case side2 => exact HC265.out)
         rintro e w22 ⟨rfl, hb⟩
         refine ⟨_, rfl, ?_⟩
         have n0_ := Aside0.mk (blk_below (g := gb261) (o := .cells #[.int .i64 ((rd_T36 l0 x11_1).f0), .int .i64 ((rd_T36 l0 x11_1).f1), .int .i64 ((rd_T36 l0 x11_1).f2), .int .i64 ((rd_T36 l0 x11_1).f3), .int .i64 ((rd_T36 l0 x11_1).f4), .int .i64 ((rd_T36 l0 x11_1).f5)] 36 (0, 0)) (by (with_reducible repeat (first | refine blk_drewN ?_ _ | refine blk_drew ?_ | refine blk_alloc ?_ _)); exact BK261.out) hb)
         have n1_ := Aside0.mk (below_step (by repeat (first | (with_reducible first | exact HB.out | apply below_alloc | apply pw_below_drewN | apply below_drew1 | refine below_set ?_ GE261.out) | exact HB.out)) hb)
         clear BK261
         clear HB
         have BK261 := n0_
         have HB := n1_
         clear n0_ n1_
         clear hb
         refine hK.out _ _ ⟨(blk_cell BK261.out 0).trans rfl, (blk_cell BK261.out 1).trans rfl, (blk_cell BK261.out 2).trans rfl, (blk_cell BK261.out 3).trans rfl, (blk_cell BK261.out 4).trans rfl, (blk_cell BK261.out 5).trans rfl⟩ (fun hHeld => ?_)
         clear hK K
         refine norm_ (a' := ?_) ?_ ?_
         rotate_left
         ·show Act.put _ (some 20) _ = _
          simp only [Act.put, List.setIfInBounds_toArray, List.set_cons_zero, List.set_cons_succ, i64_w, i32_w]
          rfl
         refine pure_ (i := 5) (N := some 21) (v := ?_) (a' := ?_) #[true, true, true, true, true, true] rfl rfl (by kernel_rfl) (fun _ _ _ h => h) (Or.inl ⟨by rfl, ?_⟩) ?_ ?_; rotate_left; (intro w'; go_simp; with_reducible rfl); rotate_left; (simp only [Act.put, List.setIfInBounds_toArray, List.set_cons_zero, List.set_cons_succ, i64_w, i32_w]; rfl)
         refine done_ (by kernel_rfl) ?_
         try go_wp2
         go_ret
         exact ⟨by rfl, by repeat (first | (with_reducible first | exact HB.out | apply below_alloc | apply pw_below_drewN | apply below_drew1 | refine below_set ?_ GE261.out) | exact HB.out)⟩
       ·rw [if_neg c8] at H
        exact absurd H (by simp)
      ·rw [if_neg c6] at H
       exact absurd H (by simp)
     ·rw [if_neg c5] at H
      exact absurd H (by simp)
    ·rw [if_neg c4] at H
     have c4b0 : decide (x11_1 < (l0.length : Int)) = false := decide_eq_false c4
     clear c4
     obtain rfl := Option.some.inj H
     go_wp2
     go_ret
     exact ⟨by rfl, by repeat (first | (with_reducible first | exact HB.out | apply below_alloc | apply pw_below_drewN | apply below_drew1))⟩
 ·replace c3 := Bool.eq_false_iff.mpr c3
  subst c3
  have H1 : (some false) = some r := by rw [if_neg (show ¬ (false = true) by decide)] at H; exact H
  clear H
  have H := H1
  clear H1
  obtain rfl := Option.some.inj H
  go_enter Try.func15, Try.ntmps15
  go_wp2_with (first | ((with_reducible refine gate_callee (f := 48) rfl ?_); refine goesL_ (some 7) rfl rfl Try.func48 (by kernel_rfl) rfl #[.int .i64 (l0.length : Int), .int .i64 1, .int .i64 80] rfl (by (try simp only [List.map_toArray, List.map_cons, List.map_nil]); rfl) ?_; (with_reducible refine (impl_within.calls (l0.length : Int) 1 80 false _ A2.out).mono ?_); rintro e w' ⟨rfl, ⟨nd, rfl⟩⟩; refine ⟨_, rfl, ?_⟩))
  go_ret
  exact ⟨by rfl, by repeat (first | (with_reducible first | exact HB.out | apply below_alloc | apply pw_below_drewN | apply below_drew1))⟩

end Go.Proofs.Ytdebihfmceclkaa.PAll
