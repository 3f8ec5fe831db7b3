/- Written by a program of this session over the loaded program: Go functions as plain Lean functions, and that a call comes to what they say. -/
import Derived.Test.YtdebihfmceclkaaPFnExactReplacex0
import Derived.Test.YtdebihfmceclkaaPFnExactReplacex5
import Derived.Test.YtdebihfmceclkaaPFnExactReplacex6
import Derived.Test.YtdebihfmceclkaaPFnExactReplacex9
namespace Go.Proofs.Ytdebihfmceclkaa.PFnExactReplace
open Go.RowKit Go.Proofs.YtdebihfmceclkaaW.PrintWords Go.Proofs.YtdebihfmceclkaaW.PrintLast Go.Proofs.YtdebihfmceclkaaW.PrintMore
attribute [local go_sem] max2_int min2_int max_two min_two max_three min_three max_four min_four   -- for this text's walks alone
set_option linter.unusedVariables false
set_option linter.unusedSimpArgs false

/-! ### impl_Replace: function 18 -/
mutual
def impl_Replace.l0 : Nat → Int → Int → List (S36) → List (S36) → Int → Int → Option ((List (S36)) × Bool)
 | 0, _, _, _, _, _, _ => none
 | k + 1, x1, x2, x8, x16, x17, x18 => if x18 < x17 then (if 0 ≤ x18 then (if x18 < (x16.length : Int) then ((impl_isQuant.f ((rd_T36 x16 x18).f0) ((rd_T36 x16 x18).f1) ((rd_T36 x16 x18).f2) ((rd_T36 x16 x18).f3) ((rd_T36 x16 x18).f4) ((rd_T36 x16 x18).f5)).bind fun t233 => (if t233 = true then (if ((rd_T36 x16 x18).f2) = x1 then (impl_Replace.j1 k x1 x2 x8 x18 x16 x17 x18 true ((rd_T36 x16 x18).f0) ((rd_T36 x16 x18).f1) ((rd_T36 x16 x18).f2) ((rd_T36 x16 x18).f3) ((rd_T36 x16 x18).f4) ((rd_T36 x16 x18).f5)) else (if ((rd_T36 x16 x18).f0) = 1 then (impl_Replace.j1 k x1 x2 x8 x18 x16 x17 x18 false ((rd_T36 x16 x18).f0) ((rd_T36 x16 x18).f1) ((rd_T36 x16 x18).f2) ((rd_T36 x16 x18).f3) ((rd_T36 x16 x18).f4) ((rd_T36 x16 x18).f5)) else (impl_Replace.j1 k x1 x2 x8 x18 x16 x17 x18 false ((rd_T36 x16 x18).f0) ((rd_T36 x16 x18).f1) ((rd_T36 x16 x18).f2) ((rd_T36 x16 x18).f3) ((rd_T36 x16 x18).f4) ((rd_T36 x16 x18).f5)))) else (if ((rd_T36 x16 x18).f0) = 1 then (if ((rd_T36 x16 x18).f2) = x1 then ((impl_WordOk.f ((rd_T36 x16 x18).f1) x2).bind fun t234 => (impl_Replace.j1 k x1 x2 x8 x18 x16 x17 x18 (!t234) ((rd_T36 x16 x18).f0) ((rd_T36 x16 x18).f1) ((rd_T36 x16 x18).f2) ((rd_T36 x16 x18).f3) ((rd_T36 x16 x18).f4) ((rd_T36 x16 x18).f5))) else (impl_Replace.j1 k x1 x2 x8 x18 x16 x17 x18 false ((rd_T36 x16 x18).f0) ((rd_T36 x16 x18).f1) ((rd_T36 x16 x18).f2) ((rd_T36 x16 x18).f3) ((rd_T36 x16 x18).f4) ((rd_T36 x16 x18).f5))) else (impl_Replace.j1 k x1 x2 x8 x18 x16 x17 x18 false ((rd_T36 x16 x18).f0) ((rd_T36 x16 x18).f1) ((rd_T36 x16 x18).f2) ((rd_T36 x16 x18).f3) ((rd_T36 x16 x18).f4) ((rd_T36 x16 x18).f5))))) else (none)) else (none)) else (some (x8, true))
def impl_Replace.j1 : Nat → Int → Int → List (S36) → Int → List (S36) → Int → Int → Bool → Int → Int → Int → Int → Int → Int → Option ((List (S36)) × Bool)
 | 0, _, _, _, _, _, _, _, _, _, _, _, _, _, _ => none
 | k + 1, x1, x2, x8, x9, x16, x17, x18, x48, x233000, x233001, x233002, x233003, x233004, x233005 => if x48 = true then (some (([] : List (S36)), false)) else (if x233000 = 1 then (if x233002 = x1 then (if 0 ≤ x9 then (if x9 < (x8.length : Int) then (impl_Replace.l0 k x1 x2 (x8.set (x9 : Int).toNat (⟨0, x233001, x2, 0, 0, 0⟩ : S36)) x16 x17 (wrap64 (x18 + 1))) else (none)) else (none)) else (impl_Replace.l0 k x1 x2 x8 x16 x17 (wrap64 (x18 + 1)))) else (impl_Replace.l0 k x1 x2 x8 x16 x17 (wrap64 (x18 + 1))))
end
def impl_Replace.f (k : Nat) (l0 : List (S36)) (a1 : Int) (a2 : Int) : Option ((List (S36)) × Bool) := (impl_TermOk.f k l0).bind fun t227 => (if t227 = true then (if ([] : List (S36)).length + l0.length < 2932031007402 then (impl_Replace.l0 k a1 a2 (([] : List (S36)) ++ l0) l0 (l0.length : Int) 0) else (none)) else (some (([] : List (S36)), false)))
theorem impl_Replace.mono_l : ∀ k, (∀ y0 y1 y2 y3 y4 y5, LeO (impl_Replace.l0 k y0 y1 y2 y3 y4 y5) (impl_Replace.l0 (k + 1) y0 y1 y2 y3 y4 y5)) ∧ (∀ y0 y1 y2 y3 y4 y5 y6 y7 y8 y9 y10 y11 y12 y13, LeO (impl_Replace.j1 k y0 y1 y2 y3 y4 y5 y6 y7 y8 y9 y10 y11 y12 y13) (impl_Replace.j1 (k + 1) y0 y1 y2 y3 y4 y5 y6 y7 y8 y9 y10 y11 y12 y13))
 | 0 => ⟨fun _ _ _ _ _ _ r h => by simp [impl_Replace.l0] at h, fun _ _ _ _ _ _ _ _ _ _ _ _ _ _ r h => by simp [impl_Replace.j1] at h⟩
 | k + 1 => by
  obtain ⟨ih0, ih1⟩ := impl_Replace.mono_l k
  refine ⟨?_, ?_⟩
  ·intro y0 y1 y2 y3 y4 y5
   unfold impl_Replace.l0
   repeat' first
   | (with_reducible exact ih0 _ _ _ _ _ _)
   | (with_reducible exact ih1 _ _ _ _ _ _ _ _ _ _ _ _ _ _)
   | (with_reducible exact impl_TermOk.mono _ _)
   | (with_reducible exact LeO.refl _)
   | (with_reducible exact LeO.none _)
   | (with_reducible refine LeO.ite ?_ ?_)
   | (with_reducible refine LeO.bind ?_ (fun _ => ?_))
   | exact ih0 _ _ _ _ _ _
   | exact ih1 _ _ _ _ _ _ _ _ _ _ _ _ _ _
   | exact impl_TermOk.mono _ _
   | exact LeO.none _
   | refine LeO.ite ?_ ?_
   | refine LeO.bind ?_ (fun _ => ?_)
  ·intro y0 y1 y2 y3 y4 y5 y6 y7 y8 y9 y10 y11 y12 y13
   unfold impl_Replace.j1
   repeat' first
   | (with_reducible exact ih0 _ _ _ _ _ _)
   | (with_reducible exact ih1 _ _ _ _ _ _ _ _ _ _ _ _ _ _)
   | (with_reducible exact impl_TermOk.mono _ _)
   | (with_reducible exact LeO.refl _)
   | (with_reducible exact LeO.none _)
   | (with_reducible refine LeO.ite ?_ ?_)
   | (with_reducible refine LeO.bind ?_ (fun _ => ?_))
   | exact ih0 _ _ _ _ _ _
   | exact ih1 _ _ _ _ _ _ _ _ _ _ _ _ _ _
   | exact impl_TermOk.mono _ _
   | exact LeO.none _
   | refine LeO.ite ?_ ?_
   | refine LeO.bind ?_ (fun _ => ?_)
theorem impl_Replace.mono : ∀ a0 a1 a2 k, LeO (impl_Replace.f k a0 a1 a2) (impl_Replace.f (k + 1) a0 a1 a2) := by
 intro a0 a1 a2 k
 obtain ⟨ih0, ih1⟩ := impl_Replace.mono_l k
 unfold impl_Replace.f
 repeat' first
   | (with_reducible exact ih0 _ _ _ _ _ _)
   | (with_reducible exact ih1 _ _ _ _ _ _ _ _ _ _ _ _ _ _)
   | (with_reducible exact impl_TermOk.mono _ _)
   | (with_reducible exact LeO.refl _)
   | (with_reducible exact LeO.none _)
   | (with_reducible refine LeO.ite ?_ ?_)
   | (with_reducible refine LeO.bind ?_ (fun _ => ?_))
   | exact ih0 _ _ _ _ _ _
   | exact ih1 _ _ _ _ _ _ _ _ _ _ _ _ _ _
   | exact impl_TermOk.mono _ _
   | exact LeO.none _
   | refine LeO.ite ?_ ?_
   | refine LeO.bind ?_ (fun _ => ?_)
set_option maxHeartbeats 8000000 in
set_option maxRecDepth 100000 in
theorem impl_Replace.calls (k : Nat) (A0 : Option Addr) (c0 : Nat) (l0 : List (S36)) (a1 : Int) (a2 : Int) (r1 : List (S36)) (r2 : Bool) (w : World) (hr0 : Kd.C k36 w A0 l0.length l0) (hc0 : l0.length ≤ c0) (h : impl_Replace.f k l0 a1 a2 = some (r1, r2)) :
  Calls Try.prog 18 #[.slice A0 l0.length c0, .int .i64 a1, .int .i64 a2] w fun e w' => ∃ v0_ : Value, e = .returned (.tuple #[v0_, .bool r2]) ∧ Kd.R k36 36 w' w.heap.size (fun _ => True) v0_ r1 ∧ Below w.heap.size w w' := by
 have hu36 := Try.underlying36
 have HR0 := Aside0.mk hr0
 have HC0 := Aside0.mk hc0
 clear hr0 hc0
 have HB := Aside0.mk (Below.refl w.heap.size w)
 have H : ((impl_TermOk.f k l0).bind fun t227 => (if t227 = true then (if ([] : List (S36)).length + l0.length < 2932031007402 then (impl_Replace.l0 k a1 a2 (([] : List (S36)) ++ l0) l0 (l0.length : Int) 0) else (none)) else (some (([] : List (S36)), false)))) = some (r1, r2) := h
 clear h
 replace H := Option.bind_eq_some_iff.mp H
 obtain ⟨t227, A40, H⟩ := H
 replace H : (if t227 = true then (if ([] : List (S36)).length + l0.length < 2932031007402 then (impl_Replace.l0 k a1 a2 (([] : List (S36)) ++ l0) l0 (l0.length : Int) 0) else (none)) else (some (([] : List (S36)), false))) = some (r1, r2) := H
 have A4 := Aside0.mk A40
 clear A40
 by_cases c5 : t227 = true
 ·subst c5
  have H1 : (if ([] : List (S36)).length + l0.length < 2932031007402 then (impl_Replace.l0 k a1 a2 (([] : List (S36)) ++ l0) l0 (l0.length : Int) 0) else (none)) = some (r1, r2) := by rw [if_pos rfl] at H; exact H
  clear H
  have H := H1
  clear H1
  by_cases c6 : ([] : List (S36)).length + l0.length < 2932031007402
  ·rw [if_pos c6] at H
   have LMc6 := Aside0.mk c6
   clear c6
   obtain ⟨y228, hy228⟩ : ∃ y_ : List (S36), y_ = (([] : List (S36)) ++ l0) := ⟨_, rfl⟩
   replace H : (impl_Replace.l0 k a1 a2 y228 l0 (l0.length : Int) 0) = some (r1, r2) := by first | (rw [hy228]; with_reducible exact H) | (have H2_ := (Option.bind_some _ _).symm.trans H; rw [hy228]; with_reducible exact H2_) | (have H2_ := (Option.bind_some _ _).symm.trans H; with_reducible exact H2_) | with_reducible exact H | (rw [hy228]; exact H) | exact H
   have Ny228 := Aside0.mk hy228
   clear hy228
   have H' := Aside0.mk H
   clear H
   go_enter Try.func18, Try.ntmps18
   go_wp2_with (first | ((with_reducible refine gate_callee (f := 15) rfl ?_); refine goesL_ (some 12) rfl rfl Try.func15 (by kernel_rfl) rfl #[.slice A0 l0.length c0] rfl (by (try simp only [List.map_toArray, List.map_cons, List.map_nil]); first | done | rfl | (simp only [List.length_drop, List.length_take]; rfl)) ?_; (with_reducible refine (impl_TermOk.calls k _ _ l0 true _ ?side1 ?side2 A4.out).mono ?_); (case side1 => repeat (first | exact HR0.out | (with_reducible refine Kd.C_alloc ?_ _) | (with_reducible refine Kd.C_drewN ?_ _) | (with_reducible refine Kd.C_drew ?_))); (case side2 => exact HC0.out); rintro e w7 ⟨rfl, hb⟩; refine ⟨_, rfl, ?_⟩; have n0_ := Aside0.mk (below_step (by repeat (first | (with_reducible first | exact HB.out | apply below_alloc | apply pw_below_drewN | apply below_drew1) | exact HB.out)) hb); clear HB; have HB := n0_; clear n0_; (try clear hb); (try clear hb2); (try clear hk); (try clear hi)) | ((with_reducible refine gate_builtin (b := .append) (xs := #[.const (.slice none 0 0), .tmp 14]) rfl ?_); at_builtin; refine Kd.R_append_rows k36 (w0 := w) w.heap.size rfl (.const (.slice none 0 0)) (.tmp 14) 25 36 (.agg #[(.int .i64 0), (.int .i64 0), (.int .i64 0), (.int .i64 0), (.int .i64 0), (.int .i64 0)]) 48 rfl Try.underlying25 info36 rfl (by decide) (by omega) (.slice none 0 0) ([] : List (S36)) l0 _ _ _ (fun _ => True) (fun _ => False) rfl rfl ?aO ?aR (fun _ _ h => h) (fun _ h => h.elim) ?aF ?aB ?aS ?aL ?_; (case aR => repeat (first | exact (Kd.C_below HR0.out HB.out) | (with_reducible refine Kd.C_alloc ?_ _) | (with_reducible refine Kd.C_drewN ?_ _) | (with_reducible refine Kd.C_drew ?_))); (case aB => exact (by repeat (first | (with_reducible first | exact HB.out | apply below_alloc | apply pw_below_drewN | apply below_drew1) | exact HB.out))); (case aF => exact (fun _ _ => trivial)); (case aO => exact ((Kd.R_nil _ _ _ _ (fun _ => True)))); (case aS => exact (below_size (by repeat (first | (with_reducible first | exact HB.out | apply below_alloc | apply pw_below_drewN | apply below_drew1) | exact HB.out)))); (case aL => have := LMc6.out; omega); intro v229 w8 ho hb hg hat; rw [← Ny228.out] at ho; have n0_ := Aside0.mk (hb); have n1_ := Aside0.mk (ho); clear HB; have HB := n0_; have HO230 := n1_; clear n0_ n1_; clear ho hb hg hat))
   go_loopg [18] k (fun kq v18 w' => ∃ (x8_1 : List (S36)) (x18_1 : Int), v18 = .int .i64 x18_1 ∧ Aside0 (impl_Replace.l0 kq a1 a2 x8_1 l0 (l0.length : Int) x18_1 = some (r1, r2)) ∧ Aside0 (kq ≤ k) ∧ Aside0 (Kd.R k36 36 w' w.heap.size (fun _ => True) v229 x8_1) ∧ Aside0 (Below w.heap.size w w'))
   case atStart => exact ⟨(y228), (0), (by first | rfl | (simp; done) | (simp [*]; done)), H', ⟨Nat.le_refl _⟩, ⟨by (with_reducible repeat (first | apply Kd.R_alloc | apply Kd.R_drewN | apply Kd.R_drew)); exact HO230.out⟩, ⟨by repeat (first | (with_reducible first | exact HB.out | apply below_alloc | apply pw_below_drewN | apply below_drew1) | exact HB.out)⟩⟩
   case round =>
    clear H'
    try clear c1; try clear p2; try clear c5; try clear c6
    obtain ⟨x8_1, x18_1, rfl, HA, HK1, HO_8, HB⟩ := hrel
    cases gk with
    | zero => exact absurd HA.out (by simp [impl_Replace.l0])
    | succ k1 =>
     have H := HA.out
     clear HA
     simp only [impl_Replace.l0] at H
     by_cases c9 : x18_1 < (l0.length : Int)
     ·rw [if_pos c9] at H
      have c9b0 : decide (x18_1 < (l0.length : Int)) = true := decide_eq_true c9
      clear c9
      by_cases c10 : 0 ≤ x18_1
      ·rw [if_pos c10] at H
       have c10b0 : decide (0 ≤ x18_1) = true := decide_eq_true c10
       clear c10
       by_cases c11 : x18_1 < (l0.length : Int)
       ·rw [if_pos c11] at H
        have c11b0 : decide (x18_1 < (l0.length : Int)) = true := decide_eq_true c11
        clear c11
        have HC12 := Aside0.mk H
        clear H
        have p231 : 0 ≤ (x18_1 : Int) := of_decide_eq_true (by first | (with_reducible assumption) | assumption)
        have q231 : x18_1 < (l0.length : Int) := of_decide_eq_true (by first | (with_reducible assumption) | assumption)
        obtain ⟨ad231, e231, hx231_0, hx231_1, hx231_2, hx231_3, hx231_4, hx231_5⟩ := at_T36 HR0.out x18_1 p231 q231
        cases e231
        replace hx231_0 := (HB.out.cell (World.block_lt_of_cell? w _ hx231_0)).trans hx231_0
        replace hx231_1 := (HB.out.cell (World.block_lt_of_cell? w _ hx231_1)).trans hx231_1
        replace hx231_2 := (HB.out.cell (World.block_lt_of_cell? w _ hx231_2)).trans hx231_2
        replace hx231_3 := (HB.out.cell (World.block_lt_of_cell? w _ hx231_3)).trans hx231_3
        replace hx231_4 := (HB.out.cell (World.block_lt_of_cell? w _ hx231_4)).trans hx231_4
        replace hx231_5 := (HB.out.cell (World.block_lt_of_cell? w _ hx231_5)).trans hx231_5
        replace p231 := eq_true p231
        replace q231 := eq_true q231
        go_upto_region 7 with (first | ((with_reducible refine gate_dst (N := 10) rfl ?_); refine box_event ?hg (N := 10) ?hd (cs := #[.int .i64 0, .int .i64 0, .int .i64 0, .int .i64 0, .int .i64 0, .int .i64 0]) (t := 36) ?hr ?_; (case hd => rfl); (case hg => rfl); (case hr => first | (go_simp; done) | (go_simp; rfl)); intro gb232 hg w13 hbox hb; have n0_ := Aside0.mk (Kd.R_below (Kd.R_elderB (by (with_reducible repeat (first | apply Kd.R_alloc | apply Kd.R_drewN | apply Kd.R_drew)); exact HO_8.out) gb232 (Nat.le_of_eq hg.symm)) hb); have n1_ := Aside0.mk (below_step (by repeat (first | (with_reducible first | exact HB.out | apply below_alloc | apply pw_below_drewN | apply below_drew1) | exact HB.out)) hb); have n2_ := Aside0.mk (hbox); have n3_ := Aside0.mk ((by rw [hg]; exact (below_size (by repeat (first | (with_reducible first | exact HB.out | apply below_alloc | apply pw_below_drewN | apply below_drew1) | exact HB.out))) : w.heap.size ≤ gb232)); have n4_ := Aside0.mk ((by rw [hg]; exact (below_size (by repeat (first | (with_reducible first | exact HB.out | apply below_alloc | apply pw_below_drewN | apply below_drew1) | exact HB.out))) : w.heap.size ≤ gb232)); clear HO_8; clear HB; have HO_8 := n0_; have HB := n1_; have BK232 := n2_; have GW232 := n3_; have GE232 := n4_; clear n0_ n1_ n2_ n3_ n4_; clear hb hbox hg; have hcz14_0 : w13.cell? ⟨gb232, 0, none⟩ = some (.int .i64 0) := (blk_cell BK232.out 0).trans rfl; have hcz14_1 : w13.cell? ⟨gb232, 1, none⟩ = some (.int .i64 0) := (blk_cell BK232.out 1).trans rfl; have hcz14_2 : w13.cell? ⟨gb232, 2, none⟩ = some (.int .i64 0) := (blk_cell BK232.out 2).trans rfl; have hcz14_3 : w13.cell? ⟨gb232, 3, none⟩ = some (.int .i64 0) := (blk_cell BK232.out 3).trans rfl; have hcz14_4 : w13.cell? ⟨gb232, 4, none⟩ = some (.int .i64 0) := (blk_cell BK232.out 4).trans rfl; have hcz14_5 : w13.cell? ⟨gb232, 5, none⟩ = some (.int .i64 0) := (blk_cell BK232.out 5).trans rfl; have hfz14_0 := blk_frozen BK232.out 0; have hfz14_1 := blk_frozen BK232.out 1; have hfz14_2 := blk_frozen BK232.out 2; have hfz14_3 := blk_frozen BK232.out 3; have hfz14_4 := blk_frozen BK232.out 4; have hfz14_5 := blk_frozen BK232.out 5))
        (try simp only [Act.put, List.setIfInBounds_toArray, List.set_cons_zero, List.set_cons_succ])
        go_cut [48] (fun v48 wc => ∃ (kq : Nat) (x48_11 : Bool), v48 = .bool x48_11 ∧ Aside0 (impl_Replace.j1 kq a1 a2 x8_1 x18_1 l0 (l0.length : Int) x18_1 x48_11 ((rd_T36 l0 x18_1).f0) ((rd_T36 l0 x18_1).f1) ((rd_T36 l0 x18_1).f2) ((rd_T36 l0 x18_1).f3) ((rd_T36 l0 x18_1).f4) ((rd_T36 l0 x18_1).f5) = some (r1, r2)) ∧ Aside0 (kq ≤ k1) ∧ Aside0 (Kd.R k36 36 wc w.heap.size (fun k_ => k_ ≠ gb232) v229 x8_1) ∧ Aside0 (wc.heap[gb232]? = some (.cells #[.int .i64 ((rd_T36 l0 x18_1).f0), .int .i64 ((rd_T36 l0 x18_1).f1), .int .i64 ((rd_T36 l0 x18_1).f2), .int .i64 ((rd_T36 l0 x18_1).f3), .int .i64 ((rd_T36 l0 x18_1).f4), .int .i64 ((rd_T36 l0 x18_1).f5)] 36 (0, 0))) ∧ Aside0 (Below w.heap.size w wc))
        case first =>
         have H := HC12.out
         clear HC12
         replace H := Option.bind_eq_some_iff.mp H
         obtain ⟨t233, A150, H⟩ := H
         replace H : (if t233 = true then (if ((rd_T36 l0 x18_1).f2) = a1 then (impl_Replace.j1 k1 a1 a2 x8_1 x18_1 l0 (l0.length : Int) x18_1 true ((rd_T36 l0 x18_1).f0) ((rd_T36 l0 x18_1).f1) ((rd_T36 l0 x18_1).f2) ((rd_T36 l0 x18_1).f3) ((rd_T36 l0 x18_1).f4) ((rd_T36 l0 x18_1).f5)) else (if ((rd_T36 l0 x18_1).f0) = 1 then (impl_Replace.j1 k1 a1 a2 x8_1 x18_1 l0 (l0.length : Int) x18_1 false ((rd_T36 l0 x18_1).f0) ((rd_T36 l0 x18_1).f1) ((rd_T36 l0 x18_1).f2) ((rd_T36 l0 x18_1).f3) ((rd_T36 l0 x18_1).f4) ((rd_T36 l0 x18_1).f5)) else (impl_Replace.j1 k1 a1 a2 x8_1 x18_1 l0 (l0.length : Int) x18_1 false ((rd_T36 l0 x18_1).f0) ((rd_T36 l0 x18_1).f1) ((rd_T36 l0 x18_1).f2) ((rd_T36 l0 x18_1).f3) ((rd_T36 l0 x18_1).f4) ((rd_T36 l0 x18_1).f5)))) else (if ((rd_T36 l0 x18_1).f0) = 1 then (if ((rd_T36 l0 x18_1).f2) = a1 then ((impl_WordOk.f ((rd_T36 l0 x18_1).f1) a2).bind fun t234 => (impl_Replace.j1 k1 a1 a2 x8_1 x18_1 l0 (l0.length : Int) x18_1 (!t234) ((rd_T36 l0 x18_1).f0) ((rd_T36 l0 x18_1).f1) ((rd_T36 l0 x18_1).f2) ((rd_T36 l0 x18_1).f3) ((rd_T36 l0 x18_1).f4) ((rd_T36 l0 x18_1).f5))) else (impl_Replace.j1 k1 a1 a2 x8_1 x18_1 l0 (l0.length : Int) x18_1 false ((rd_T36 l0 x18_1).f0) ((rd_T36 l0 x18_1).f1) ((rd_T36 l0 x18_1).f2) ((rd_T36 l0 x18_1).f3) ((rd_T36 l0 x18_1).f4) ((rd_T36 l0 x18_1).f5))) else (impl_Replace.j1 k1 a1 a2 x8_1 x18_1 l0 (l0.length : Int) x18_1 false ((rd_T36 l0 x18_1).f0) ((rd_T36 l0 x18_1).f1) ((rd_T36 l0 x18_1).f2) ((rd_T36 l0 x18_1).f3) ((rd_T36 l0 x18_1).f4) ((rd_T36 l0 x18_1).f5)))) = some (r1, r2) := H
         have A15 := Aside0.mk A150
         clear A150
         by_cases c16 : t233 = true
         ·subst c16
          have H1 : (if ((rd_T36 l0 x18_1).f2) = a1 then (impl_Replace.j1 k1 a1 a2 x8_1 x18_1 l0 (l0.length : Int) x18_1 true ((rd_T36 l0 x18_1).f0) ((rd_T36 l0 x18_1).f1) ((rd_T36 l0 x18_1).f2) ((rd_T36 l0 x18_1).f3) ((rd_T36 l0 x18_1).f4) ((rd_T36 l0 x18_1).f5)) else (if ((rd_T36 l0 x18_1).f0) = 1 then (impl_Replace.j1 k1 a1 a2 x8_1 x18_1 l0 (l0.length : Int) x18_1 false ((rd_T36 l0 x18_1).f0) ((rd_T36 l0 x18_1).f1) ((rd_T36 l0 x18_1).f2) ((rd_T36 l0 x18_1).f3) ((rd_T36 l0 x18_1).f4) ((rd_T36 l0 x18_1).f5)) else (impl_Replace.j1 k1 a1 a2 x8_1 x18_1 l0 (l0.length : Int) x18_1 false ((rd_T36 l0 x18_1).f0) ((rd_T36 l0 x18_1).f1) ((rd_T36 l0 x18_1).f2) ((rd_T36 l0 x18_1).f3) ((rd_T36 l0 x18_1).f4) ((rd_T36 l0 x18_1).f5)))) = some (r1, r2) := by rw [if_pos rfl] at H; exact H
          clear H
          have H := H1
          clear H1
          by_cases c17 : ((rd_T36 l0 x18_1).f2) = a1
          ·rw [if_pos c17] at H
           have c17b0 : (((rd_T36 l0 x18_1).f2) == a1) = true := beq_iff_eq.mpr c17
           have c17b1 : (((rd_T36 l0 x18_1).f2) != a1) = false := bne_eq_false_iff_eq.mpr c17
           clear c17
           (first | rw [c17b0] | (simp only [i64_w, i32_w]; rw [c17b0]) | skip)
           have H' := Aside0.mk H
           clear H
           have hcz18_0 : w13.cell? ⟨gb232, 0, none⟩ = some (.int .i64 0) := (blk_cell BK232.out 0).trans rfl
           have hcz18_1 : w13.cell? ⟨gb232, 1, none⟩ = some (.int .i64 0) := (blk_cell BK232.out 1).trans rfl
           have hcz18_2 : w13.cell? ⟨gb232, 2, none⟩ = some (.int .i64 0) := (blk_cell BK232.out 2).trans rfl
           have hcz18_3 : w13.cell? ⟨gb232, 3, none⟩ = some (.int .i64 0) := (blk_cell BK232.out 3).trans rfl
           have hcz18_4 : w13.cell? ⟨gb232, 4, none⟩ = some (.int .i64 0) := (blk_cell BK232.out 4).trans rfl
           have hcz18_5 : w13.cell? ⟨gb232, 5, none⟩ = some (.int .i64 0) := (blk_cell BK232.out 5).trans rfl
           have hfz18_0 := blk_frozen BK232.out 0
           have hfz18_1 := blk_frozen BK232.out 1
           have hfz18_2 := blk_frozen BK232.out 2
           have hfz18_3 := blk_frozen BK232.out 3
           have hfz18_4 := blk_frozen BK232.out 4
           have hfz18_5 := blk_frozen BK232.out 5
           go_wp2_with (first | ((with_reducible refine gate_callee (f := 53) rfl ?_); refine goesL_ (some 24) rfl rfl Try.func53 (by kernel_rfl) rfl #[.agg #[.int .i64 ((rd_T36 l0 x18_1).f0), .int .i64 ((rd_T36 l0 x18_1).f1), .int .i64 ((rd_T36 l0 x18_1).f2), .int .i64 ((rd_T36 l0 x18_1).f3), .int .i64 ((rd_T36 l0 x18_1).f4), .int .i64 ((rd_T36 l0 x18_1).f5)]] rfl (by (try simp only [List.map_toArray, List.map_cons, List.map_nil]); first | done | rfl | (simp only [List.length_drop, List.length_take]; rfl)) ?_; (with_reducible refine (impl_isQuant.calls ((rd_T36 l0 x18_1).f0) ((rd_T36 l0 x18_1).f1) ((rd_T36 l0 x18_1).f2) ((rd_T36 l0 x18_1).f3) ((rd_T36 l0 x18_1).f4) ((rd_T36 l0 x18_1).f5) true _ A15.out).mono ?_); rintro e w19 ⟨rfl, hb⟩; refine ⟨_, rfl, ?_⟩; have n0_ := Aside0.mk (Kd.R_below (by (with_reducible repeat (first | apply Kd.R_alloc | apply Kd.R_drewN | apply Kd.R_drew)); exact (Kd.R_mono (Kd.R_far (p := ⟨gb232, 5, none⟩) (Kd.R_far (p := ⟨gb232, 4, none⟩) (Kd.R_far (p := ⟨gb232, 3, none⟩) (Kd.R_far (p := ⟨gb232, 2, none⟩) (Kd.R_far (p := ⟨gb232, 1, none⟩) (Kd.R_far (p := ⟨gb232, 0, none⟩) (Kd.R_mono HO_8.out (fun k_ hk => (⟨hk, hk.2⟩ : _ ∧ k_ ≠ gb232))) (fun _ hk => hk.2) (.int .i64 ((rd_T36 l0 x18_1).f0))) (fun _ hk => hk.2) (.int .i64 ((rd_T36 l0 x18_1).f1))) (fun _ hk => hk.2) (.int .i64 ((rd_T36 l0 x18_1).f2))) (fun _ hk => hk.2) (.int .i64 ((rd_T36 l0 x18_1).f3))) (fun _ hk => hk.2) (.int .i64 ((rd_T36 l0 x18_1).f4))) (fun _ hk => hk.2) (.int .i64 ((rd_T36 l0 x18_1).f5))) (fun _ h_ => h_.1))) hb); have n1_ := Aside0.mk (blk_below (g := gb232) (o := .cells #[.int .i64 ((rd_T36 l0 x18_1).f0), .int .i64 ((rd_T36 l0 x18_1).f1), .int .i64 ((rd_T36 l0 x18_1).f2), .int .i64 ((rd_T36 l0 x18_1).f3), .int .i64 ((rd_T36 l0 x18_1).f4), .int .i64 ((rd_T36 l0 x18_1).f5)] 36 (0, 0)) (by (with_reducible repeat (first | refine blk_drewN ?_ _ | refine blk_drew ?_ | refine blk_alloc ?_ _)); refine blk_put (cs := #[.int .i64 ((rd_T36 l0 x18_1).f0), .int .i64 ((rd_T36 l0 x18_1).f1), .int .i64 ((rd_T36 l0 x18_1).f2), .int .i64 ((rd_T36 l0 x18_1).f3), .int .i64 ((rd_T36 l0 x18_1).f4), .int .i64 0]) ?_ 5 _ rfl; (with_reducible repeat (first | refine blk_drewN ?_ _ | refine blk_drew ?_ | refine blk_alloc ?_ _)); refine blk_put (cs := #[.int .i64 ((rd_T36 l0 x18_1).f0), .int .i64 ((rd_T36 l0 x18_1).f1), .int .i64 ((rd_T36 l0 x18_1).f2), .int .i64 ((rd_T36 l0 x18_1).f3), .int .i64 0, .int .i64 0]) ?_ 4 _ rfl; (with_reducible repeat (first | refine blk_drewN ?_ _ | refine blk_drew ?_ | refine blk_alloc ?_ _)); refine blk_put (cs := #[.int .i64 ((rd_T36 l0 x18_1).f0), .int .i64 ((rd_T36 l0 x18_1).f1), .int .i64 ((rd_T36 l0 x18_1).f2), .int .i64 0, .int .i64 0, .int .i64 0]) ?_ 3 _ rfl; (with_reducible repeat (first | refine blk_drewN ?_ _ | refine blk_drew ?_ | refine blk_alloc ?_ _)); refine blk_put (cs := #[.int .i64 ((rd_T36 l0 x18_1).f0), .int .i64 ((rd_T36 l0 x18_1).f1), .int .i64 0, .int .i64 0, .int .i64 0, .int .i64 0]) ?_ 2 _ rfl; (with_reducible repeat (first | refine blk_drewN ?_ _ | refine blk_drew ?_ | refine blk_alloc ?_ _)); refine blk_put (cs := #[.int .i64 ((rd_T36 l0 x18_1).f0), .int .i64 0, .int .i64 0, .int .i64 0, .int .i64 0, .int .i64 0]) ?_ 1 _ rfl; (with_reducible repeat (first | refine blk_drewN ?_ _ | refine blk_drew ?_ | refine blk_alloc ?_ _)); refine blk_put (cs := #[.int .i64 0, .int .i64 0, .int .i64 0, .int .i64 0, .int .i64 0, .int .i64 0]) ?_ 0 _ rfl; (with_reducible repeat (first | refine blk_drewN ?_ _ | refine blk_drew ?_ | refine blk_alloc ?_ _)); exact BK232.out) hb); have n2_ := Aside0.mk (below_step (by repeat (first | (with_reducible first | exact HB.out | apply below_alloc | apply pw_below_drewN | apply below_drew1 | refine below_set ?_ GE232.out) | exact HB.out)) hb); clear HO_8; clear BK232; clear HB; have HO_8 := n0_; have BK232 := n1_; have HB := n2_; clear n0_ n1_ n2_; (try clear hb); (try clear hb2); (try clear hk); (try clear hi); have hcz20_0 : w19.cell? ⟨gb232, 0, none⟩ = some (.int .i64 ((rd_T36 l0 x18_1).f0)) := (blk_cell BK232.out 0).trans rfl; have hcz20_1 : w19.cell? ⟨gb232, 1, none⟩ = some (.int .i64 ((rd_T36 l0 x18_1).f1)) := (blk_cell BK232.out 1).trans rfl; have hcz20_2 : w19.cell? ⟨gb232, 2, none⟩ = some (.int .i64 ((rd_T36 l0 x18_1).f2)) := (blk_cell BK232.out 2).trans rfl; have hcz20_3 : w19.cell? ⟨gb232, 3, none⟩ = some (.int .i64 ((rd_T36 l0 x18_1).f3)) := (blk_cell BK232.out 3).trans rfl; have hcz20_4 : w19.cell? ⟨gb232, 4, none⟩ = some (.int .i64 ((rd_T36 l0 x18_1).f4)) := (blk_cell BK232.out 4).trans rfl; have hcz20_5 : w19.cell? ⟨gb232, 5, none⟩ = some (.int .i64 ((rd_T36 l0 x18_1).f5)) := (blk_cell BK232.out 5).trans rfl; have hfz20_0 := blk_frozen BK232.out 0; have hfz20_1 := blk_frozen BK232.out 1; have hfz20_2 := blk_frozen BK232.out 2; have hfz20_3 := blk_frozen BK232.out 3; have hfz20_4 := blk_frozen BK232.out 4; have hfz20_5 := blk_frozen BK232.out 5))
           go_meet
           case rel => exact ⟨_, (true), (by first | rfl | (simp; done) | (simp [*]; done)), H', ⟨by have := HK1.out; first | omega | exact Nat.le_refl _⟩, ⟨by (with_reducible repeat (first | apply Kd.R_alloc | apply Kd.R_drewN | apply Kd.R_drew)); exact Kd.R_mono HO_8.out (fun _ hk => hk.2)⟩, ⟨by (with_reducible repeat (first | refine blk_drewN ?_ _ | refine blk_drew ?_ | refine blk_alloc ?_ _)); exact BK232.out⟩, ⟨by repeat (first | (with_reducible first | exact HB.out | apply below_alloc | apply pw_below_drewN | apply below_drew1 | refine below_set ?_ GE232.out) | exact HB.out)⟩⟩
          ·rw [if_neg c17] at H
           have c17b0 : (((rd_T36 l0 x18_1).f2) == a1) = false := beq_eq_false_iff_ne.mpr c17
           have c17b1 : (((rd_T36 l0 x18_1).f2) != a1) = true := bne_iff_ne.mpr c17
           (first | rw [c17b0] | (simp only [i64_w, i32_w]; rw [c17b0]) | skip)
           by_cases c21 : ((rd_T36 l0 x18_1).f0) = 1
           ·rw [if_pos c21] at H
            have c21b0 : (((rd_T36 l0 x18_1).f0) == 1) = true := beq_iff_eq.mpr c21
            have c21b1 : (((rd_T36 l0 x18_1).f0) != 1) = false := bne_eq_false_iff_eq.mpr c21
            clear c21
            have H' := Aside0.mk H
            clear H
            have hcz22_0 : w13.cell? ⟨gb232, 0, none⟩ = some (.int .i64 0) := (blk_cell BK232.out 0).trans rfl
            have hcz22_1 : w13.cell? ⟨gb232, 1, none⟩ = some (.int .i64 0) := (blk_cell BK232.out 1).trans rfl
            have hcz22_2 : w13.cell? ⟨gb232, 2, none⟩ = some (.int .i64 0) := (blk_cell BK232.out 2).trans rfl
            have hcz22_3 : w13.cell? ⟨gb232, 3, none⟩ = some (.int .i64 0) := (blk_cell BK232.out 3).trans rfl
            have hcz22_4 : w13.cell? ⟨gb232, 4, none⟩ = some (.int .i64 0) := (blk_cell BK232.out 4).trans rfl
            have hcz22_5 : w13.cell? ⟨gb232, 5, none⟩ = some (.int .i64 0) := (blk_cell BK232.out 5).trans rfl
            have hfz22_0 := blk_frozen BK232.out 0
            have hfz22_1 := blk_frozen BK232.out 1
            have hfz22_2 := blk_frozen BK232.out 2
            have hfz22_3 := blk_frozen BK232.out 3
            have hfz22_4 := blk_frozen BK232.out 4
            have hfz22_5 := blk_frozen BK232.out 5
            go_wp2_with (first | ((with_reducible refine gate_callee (f := 53) rfl ?_); refine goesL_ (some 24) rfl rfl Try.func53 (by kernel_rfl) rfl #[.agg #[.int .i64 ((rd_T36 l0 x18_1).f0), .int .i64 ((rd_T36 l0 x18_1).f1), .int .i64 ((rd_T36 l0 x18_1).f2), .int .i64 ((rd_T36 l0 x18_1).f3), .int .i64 ((rd_T36 l0 x18_1).f4), .int .i64 ((rd_T36 l0 x18_1).f5)]] rfl (by (try simp only [List.map_toArray, List.map_cons, List.map_nil]); first | done | rfl | (simp only [List.length_drop, List.length_take]; rfl)) ?_; (with_reducible refine (impl_isQuant.calls ((rd_T36 l0 x18_1).f0) ((rd_T36 l0 x18_1).f1) ((rd_T36 l0 x18_1).f2) ((rd_T36 l0 x18_1).f3) ((rd_T36 l0 x18_1).f4) ((rd_T36 l0 x18_1).f5) true _ A15.out).mono ?_); rintro e w23 ⟨rfl, hb⟩; refine ⟨_, rfl, ?_⟩; have n0_ := Aside0.mk (Kd.R_below (by (with_reducible repeat (first | apply Kd.R_alloc | apply Kd.R_drewN | apply Kd.R_drew)); exact (Kd.R_mono (Kd.R_far (p := ⟨gb232, 5, none⟩) (Kd.R_far (p := ⟨gb232, 4, none⟩) (Kd.R_far (p := ⟨gb232, 3, none⟩) (Kd.R_far (p := ⟨gb232, 2, none⟩) (Kd.R_far (p := ⟨gb232, 1, none⟩) (Kd.R_far (p := ⟨gb232, 0, none⟩) (Kd.R_mono HO_8.out (fun k_ hk => (⟨hk, hk.2⟩ : _ ∧ k_ ≠ gb232))) (fun _ hk => hk.2) (.int .i64 ((rd_T36 l0 x18_1).f0))) (fun _ hk => hk.2) (.int .i64 ((rd_T36 l0 x18_1).f1))) (fun _ hk => hk.2) (.int .i64 ((rd_T36 l0 x18_1).f2))) (fun _ hk => hk.2) (.int .i64 ((rd_T36 l0 x18_1).f3))) (fun _ hk => hk.2) (.int .i64 ((rd_T36 l0 x18_1).f4))) (fun _ hk => hk.2) (.int .i64 ((rd_T36 l0 x18_1).f5))) (fun _ h_ => h_.1))) hb); have n1_ := Aside0.mk (blk_below (g := gb232) (o := .cells #[.int .i64 ((rd_T36 l0 x18_1).f0), .int .i64 ((rd_T36 l0 x18_1).f1), .int .i64 ((rd_T36 l0 x18_1).f2), .int .i64 ((rd_T36 l0 x18_1).f3), .int .i64 ((rd_T36 l0 x18_1).f4), .int .i64 ((rd_T36 l0 x18_1).f5)] 36 (0, 0)) (by (with_reducible repeat (first | refine blk_drewN ?_ _ | refine blk_drew ?_ | refine blk_alloc ?_ _)); refine blk_put (cs := #[.int .i64 ((rd_T36 l0 x18_1).f0), .int .i64 ((rd_T36 l0 x18_1).f1), .int .i64 ((rd_T36 l0 x18_1).f2), .int .i64 ((rd_T36 l0 x18_1).f3), .int .i64 ((rd_T36 l0 x18_1).f4), .int .i64 0]) ?_ 5 _ rfl; (with_reducible repeat (first | refine blk_drewN ?_ _ | refine blk_drew ?_ | refine blk_alloc ?_ _)); refine blk_put (cs := #[.int .i64 ((rd_T36 l0 x18_1).f0), .int .i64 ((rd_T36 l0 x18_1).f1), .int .i64 ((rd_T36 l0 x18_1).f2), .int .i64 ((rd_T36 l0 x18_1).f3), .int .i64 0, .int .i64 0]) ?_ 4 _ rfl; (with_reducible repeat (first | refine blk_drewN ?_ _ | refine blk_drew ?_ | refine blk_alloc ?_ _)); refine blk_put (cs := #[.int .i64 ((rd_T36 l0 x18_1).f0), .int .i64 ((rd_T36 l0 x18_1).f1), .int .i64 ((rd_T36 l0 x18_1).f2), .int .i64 0, .int .i64 0, .int .i64 0]) ?_ 3 _ rfl; (with_reducible repeat (first | refine blk_drewN ?_ _ | refine blk_drew ?_ | refine blk_alloc ?_ _)); refine blk_put (cs := #[.int .i64 ((rd_T36 l0 x18_1).f0), .int .i64 ((rd_T36 l0 x18_1).f1), .int .i64 0, .int .i64 0, .int .i64 0, .int .i64 0]) ?_ 2 _ rfl; (with_reducible repeat (first | refine blk_drewN ?_ _ | refine blk_drew ?_ | refine blk_alloc ?_ _)); refine blk_put (cs := #[.int .i64 ((rd_T36 l0 x18_1).f0), .int .i64 0, .int .i64 0, .int .i64 0, .int .i64 0, .int .i64 0]) ?_ 1 _ rfl; (with_reducible repeat (first | refine blk_drewN ?_ _ | refine blk_drew ?_ | refine blk_alloc ?_ _)); refine blk_put (cs := #[.int .i64 0, .int .i64 0, .int .i64 0, .int .i64 0, .int .i64 0, .int .i64 0]) ?_ 0 _ rfl; (with_reducible repeat (first | refine blk_drewN ?_ _ | refine blk_drew ?_ | refine blk_alloc ?_ _)); exact BK232.out) hb); have n2_ := Aside0.mk (below_step (by repeat (first | (with_reducible first | exact HB.out | apply below_alloc | apply pw_below_drewN | apply below_drew1 | refine below_set ?_ GE232.out) | exact HB.out)) hb); clear HO_8; clear BK232; clear HB; have HO_8 := n0_; have BK232 := n1_; have HB := n2_; clear n0_ n1_ n2_; (try clear hb); (try clear hb2); (try clear hk); (try clear hi); have hcz24_0 : w23.cell? ⟨gb232, 0, none⟩ = some (.int .i64 ((rd_T36 l0 x18_1).f0)) := (blk_cell BK232.out 0).trans rfl; have hcz24_1 : w23.cell? ⟨gb232, 1, none⟩ = some (.int .i64 ((rd_T36 l0 x18_1).f1)) := (blk_cell BK232.out 1).trans rfl; have hcz24_2 : w23.cell? ⟨gb232, 2, none⟩ = some (.int .i64 ((rd_T36 l0 x18_1).f2)) := (blk_cell BK232.out 2).trans rfl; have hcz24_3 : w23.cell? ⟨gb232, 3, none⟩ = some (.int .i64 ((rd_T36 l0 x18_1).f3)) := (blk_cell BK232.out 3).trans rfl; have hcz24_4 : w23.cell? ⟨gb232, 4, none⟩ = some (.int .i64 ((rd_T36 l0 x18_1).f4)) := (blk_cell BK232.out 4).trans rfl; have hcz24_5 : w23.cell? ⟨gb232, 5, none⟩ = some (.int .i64 ((rd_T36 l0 x18_1).f5)) := (blk_cell BK232.out 5).trans rfl; have hfz24_0 := blk_frozen BK232.out 0; have hfz24_1 := blk_frozen BK232.out 1; have hfz24_2 := blk_frozen BK232.out 2; have hfz24_3 := blk_frozen BK232.out 3; have hfz24_4 := blk_frozen BK232.out 4; have hfz24_5 := blk_frozen BK232.out 5))
            go_meet
            case rel => exact ⟨_, (false), (by first | rfl | (simp; done) | (simp [*]; done)), H', ⟨by have := HK1.out; first | omega | exact Nat.le_refl _⟩, ⟨by (with_reducible repeat (first | apply Kd.R_alloc | apply Kd.R_drewN | apply Kd.R_drew)); exact Kd.R_mono HO_8.out (fun _ hk => hk.2)⟩, ⟨by (with_reducible repeat (first | refine blk_drewN ?_ _ | refine blk_drew ?_ | refine blk_alloc ?_ _)); exact BK232.out⟩, ⟨by repeat (first | (with_reducible first | exact HB.out | apply below_alloc | apply pw_below_drewN | apply below_drew1 | refine below_set ?_ GE232.out) | exact HB.out)⟩⟩
           ·rw [if_neg c21] at H
            have c21b0 : (((rd_T36 l0 x18_1).f0) == 1) = false := beq_eq_false_iff_ne.mpr c21
            have c21b1 : (((rd_T36 l0 x18_1).f0) != 1) = true := bne_iff_ne.mpr c21
            have H' := Aside0.mk H
            clear H
            have hcz25_0 : w13.cell? ⟨gb232, 0, none⟩ = some (.int .i64 0) := (blk_cell BK232.out 0).trans rfl
            have hcz25_1 : w13.cell? ⟨gb232, 1, none⟩ = some (.int .i64 0) := (blk_cell BK232.out 1).trans rfl
            have hcz25_2 : w13.cell? ⟨gb232, 2, none⟩ = some (.int .i64 0) := (blk_cell BK232.out 2).trans rfl
            have hcz25_3 : w13.cell? ⟨gb232, 3, none⟩ = some (.int .i64 0) := (blk_cell BK232.out 3).trans rfl
            have hcz25_4 : w13.cell? ⟨gb232, 4, none⟩ = some (.int .i64 0) := (blk_cell BK232.out 4).trans rfl
            have hcz25_5 : w13.cell? ⟨gb232, 5, none⟩ = some (.int .i64 0) := (blk_cell BK232.out 5).trans rfl
            have hfz25_0 := blk_frozen BK232.out 0
            have hfz25_1 := blk_frozen BK232.out 1
            have hfz25_2 := blk_frozen BK232.out 2
            have hfz25_3 := blk_frozen BK232.out 3
            have hfz25_4 := blk_frozen BK232.out 4
            have hfz25_5 := blk_frozen BK232.out 5
            go_wp2_with (first | ((with_reducible refine gate_callee (f := 53) rfl ?_); refine goesL_ (some 24) rfl rfl Try.func53 (by kernel_rfl) rfl #[.agg #[.int .i64 ((rd_T36 l0 x18_1).f0), .int .i64 ((rd_T36 l0 x18_1).f1), .int .i64 ((rd_T36 l0 x18_1).f2), .int .i64 ((rd_T36 l0 x18_1).f3), .int .i64 ((rd_T36 l0 x18_1).f4), .int .i64 ((rd_T36 l0 x18_1).f5)]] rfl (by (try simp only [List.map_toArray, List.map_cons, List.map_nil]); first | done | rfl | (simp only [List.length_drop, List.length_take]; rfl)) ?_; (with_reducible refine (impl_isQuant.calls ((rd_T36 l0 x18_1).f0) ((rd_T36 l0 x18_1).f1) ((rd_T36 l0 x18_1).f2) ((rd_T36 l0 x18_1).f3) ((rd_T36 l0 x18_1).f4) ((rd_T36 l0 x18_1).f5) true _ A15.out).mono ?_); rintro e w26 ⟨rfl, hb⟩; refine ⟨_, rfl, ?_⟩; have n0_ := Aside0.mk (Kd.R_below (by (with_reducible repeat (first | apply Kd.R_alloc | apply Kd.R_drewN | apply Kd.R_drew)); exact (Kd.R_mono (Kd.R_far (p := ⟨gb232, 5, none⟩) (Kd.R_far (p := ⟨gb232, 4, none⟩) (Kd.R_far (p := ⟨gb232, 3, none⟩) (Kd.R_far (p := ⟨gb232, 2, none⟩) (Kd.R_far (p := ⟨gb232, 1, none⟩) (Kd.R_far (p := ⟨gb232, 0, none⟩) (Kd.R_mono HO_8.out (fun k_ hk => (⟨hk, hk.2⟩ : _ ∧ k_ ≠ gb232))) (fun _ hk => hk.2) (.int .i64 ((rd_T36 l0 x18_1).f0))) (fun _ hk => hk.2) (.int .i64 ((rd_T36 l0 x18_1).f1))) (fun _ hk => hk.2) (.int .i64 ((rd_T36 l0 x18_1).f2))) (fun _ hk => hk.2) (.int .i64 ((rd_T36 l0 x18_1).f3))) (fun _ hk => hk.2) (.int .i64 ((rd_T36 l0 x18_1).f4))) (fun _ hk => hk.2) (.int .i64 ((rd_T36 l0 x18_1).f5))) (fun _ h_ => h_.1))) hb); have n1_ := Aside0.mk (blk_below (g := gb232) (o := .cells #[.int .i64 ((rd_T36 l0 x18_1).f0), .int .i64 ((rd_T36 l0 x18_1).f1), .int .i64 ((rd_T36 l0 x18_1).f2), .int .i64 ((rd_T36 l0 x18_1).f3), .int .i64 ((rd_T36 l0 x18_1).f4), .int .i64 ((rd_T36 l0 x18_1).f5)] 36 (0, 0)) (by (with_reducible repeat (first | refine blk_drewN ?_ _ | refine blk_drew ?_ | refine blk_alloc ?_ _)); refine blk_put (cs := #[.int .i64 ((rd_T36 l0 x18_1).f0), .int .i64 ((rd_T36 l0 x18_1).f1), .int .i64 ((rd_T36 l0 x18_1).f2), .int .i64 ((rd_T36 l0 x18_1).f3), .int .i64 ((rd_T36 l0 x18_1).f4), .int .i64 0]) ?_ 5 _ rfl; (with_reducible repeat (first | refine blk_drewN ?_ _ | refine blk_drew ?_ | refine blk_alloc ?_ _)); refine blk_put (cs := #[.int .i64 ((rd_T36 l0 x18_1).f0), .int .i64 ((rd_T36 l0 x18_1).f1), .int .i64 ((rd_T36 l0 x18_1).f2), .int .i64 ((rd_T36 l0 x18_1).f3), .int .i64 0, .int .i64 0]) ?_ 4 _ rfl; (with_reducible repeat (first | refine blk_drewN ?_ _ | refine blk_drew ?_ | refine blk_alloc ?_ _)); refine blk_put (cs := #[.int .i64 ((rd_T36 l0 x18_1).f0), .int .i64 ((rd_T36 l0 x18_1).f1), .int .i64 ((rd_T36 l0 x18_1).f2), .int .i64 0, .int .i64 0, .int .i64 0]) ?_ 3 _ rfl; (with_reducible repeat (first | refine blk_drewN ?_ _ | refine blk_drew ?_ | refine blk_alloc ?_ _)); refine blk_put (cs := #[.int .i64 ((rd_T36 l0 x18_1).f0), .int .i64 ((rd_T36 l0 x18_1).f1), .int .i64 0, .int .i64 0, .int .i64 0, .int .i64 0]) ?_ 2 _ rfl; (with_reducible repeat (first | refine blk_drewN ?_ _ | refine blk_drew ?_ | refine blk_alloc ?_ _)); refine blk_put (cs := #[.int .i64 ((rd_T36 l0 x18_1).f0), .int .i64 0, .int .i64 0, .int .i64 0, .int .i64 0, .int .i64 0]) ?_ 1 _ rfl; (with_reducible repeat (first | refine blk_drewN ?_ _ | refine blk_drew ?_ | refine blk_alloc ?_ _)); refine blk_put (cs := #[.int .i64 0, .int .i64 0, .int .i64 0, .int .i64 0, .int .i64 0, .int .i64 0]) ?_ 0 _ rfl; (with_reducible repeat (first | refine blk_drewN ?_ _ | refine blk_drew ?_ | refine blk_alloc ?_ _)); exact BK232.out) hb); have n2_ := Aside0.mk (below_step (by repeat (first | (with_reducible first | exact HB.out | apply below_alloc | apply pw_below_drewN | apply below_drew1 | refine below_set ?_ GE232.out) | exact HB.out)) hb); clear HO_8; clear BK232; clear HB; have HO_8 := n0_; have BK232 := n1_; have HB := n2_; clear n0_ n1_ n2_; (try clear hb); (try clear hb2); (try clear hk); (try clear hi); have hcz27_0 : w26.cell? ⟨gb232, 0, none⟩ = some (.int .i64 ((rd_T36 l0 x18_1).f0)) := (blk_cell BK232.out 0).trans rfl; have hcz27_1 : w26.cell? ⟨gb232, 1, none⟩ = some (.int .i64 ((rd_T36 l0 x18_1).f1)) := (blk_cell BK232.out 1).trans rfl; have hcz27_2 : w26.cell? ⟨gb232, 2, none⟩ = some (.int .i64 ((rd_T36 l0 x18_1).f2)) := (blk_cell BK232.out 2).trans rfl; have hcz27_3 : w26.cell? ⟨gb232, 3, none⟩ = some (.int .i64 ((rd_T36 l0 x18_1).f3)) := (blk_cell BK232.out 3).trans rfl; have hcz27_4 : w26.cell? ⟨gb232, 4, none⟩ = some (.int .i64 ((rd_T36 l0 x18_1).f4)) := (blk_cell BK232.out 4).trans rfl; have hcz27_5 : w26.cell? ⟨gb232, 5, none⟩ = some (.int .i64 ((rd_T36 l0 x18_1).f5)) := (blk_cell BK232.out 5).trans rfl; have hfz27_0 := blk_frozen BK232.out 0; have hfz27_1 := blk_frozen BK232.out 1; have hfz27_2 := blk_frozen BK232.out 2; have hfz27_3 := blk_frozen BK232.out 3; have hfz27_4 := blk_frozen BK232.out 4; have hfz27_5 := blk_frozen BK232.out 5))
            go_meet
            case rel => exact ⟨_, (false), (by first | rfl | (simp; done) | (simp [*]; done)), H', ⟨by have := HK1.out; first | omega | exact Nat.le_refl _⟩, ⟨by (with_reducible repeat (first | apply Kd.R_alloc | apply Kd.R_drewN | apply Kd.R_drew)); exact Kd.R_mono HO_8.out (fun _ hk => hk.2)⟩, ⟨by (with_reducible repeat (first | refine blk_drewN ?_ _ | refine blk_drew ?_ | refine blk_alloc ?_ _)); exact BK232.out⟩, ⟨by repeat (first | (with_reducible first | exact HB.out | apply below_alloc | apply pw_below_drewN | apply below_drew1 | refine below_set ?_ GE232.out) | exact HB.out)⟩⟩
         ·replace c16 := Bool.eq_false_iff.mpr c16
          subst c16
          have H1 : (if ((rd_T36 l0 x18_1).f0) = 1 then (if ((rd_T36 l0 x18_1).f2) = a1 then ((impl_WordOk.f ((rd_T36 l0 x18_1).f1) a2).bind fun t234 => (impl_Replace.j1 k1 a1 a2 x8_1 x18_1 l0 (l0.length : Int) x18_1 (!t234) ((rd_T36 l0 x18_1).f0) ((rd_T36 l0 x18_1).f1) ((rd_T36 l0 x18_1).f2) ((rd_T36 l0 x18_1).f3) ((rd_T36 l0 x18_1).f4) ((rd_T36 l0 x18_1).f5))) else (impl_Replace.j1 k1 a1 a2 x8_1 x18_1 l0 (l0.length : Int) x18_1 false ((rd_T36 l0 x18_1).f0) ((rd_T36 l0 x18_1).f1) ((rd_T36 l0 x18_1).f2) ((rd_T36 l0 x18_1).f3) ((rd_T36 l0 x18_1).f4) ((rd_T36 l0 x18_1).f5))) else (impl_Replace.j1 k1 a1 a2 x8_1 x18_1 l0 (l0.length : Int) x18_1 false ((rd_T36 l0 x18_1).f0) ((rd_T36 l0 x18_1).f1) ((rd_T36 l0 x18_1).f2) ((rd_T36 l0 x18_1).f3) ((rd_T36 l0 x18_1).f4) ((rd_T36 l0 x18_1).f5))) = some (r1, r2) := by rw [if_neg (show ¬ (false = true) by decide)] at H; exact H
          clear H
          have H := H1
          clear H1
          by_cases c28 : ((rd_T36 l0 x18_1).f0) = 1
          ·rw [if_pos c28] at H
           have c28b0 : (((rd_T36 l0 x18_1).f0) == 1) = true := beq_iff_eq.mpr c28
           have c28b1 : (((rd_T36 l0 x18_1).f0) != 1) = false := bne_eq_false_iff_eq.mpr c28
           clear c28
           by_cases c29 : ((rd_T36 l0 x18_1).f2) = a1
           ·rw [if_pos c29] at H
            have c29b0 : (((rd_T36 l0 x18_1).f2) == a1) = true := beq_iff_eq.mpr c29
            have c29b1 : (((rd_T36 l0 x18_1).f2) != a1) = false := bne_eq_false_iff_eq.mpr c29
            clear c29
            replace H := Option.bind_eq_some_iff.mp H
            obtain ⟨t234, A300, H⟩ := H
            replace H : (impl_Replace.j1 k1 a1 a2 x8_1 x18_1 l0 (l0.length : Int) x18_1 (!t234) ((rd_T36 l0 x18_1).f0) ((rd_T36 l0 x18_1).f1) ((rd_T36 l0 x18_1).f2) ((rd_T36 l0 x18_1).f3) ((rd_T36 l0 x18_1).f4) ((rd_T36 l0 x18_1).f5)) = some (r1, r2) := H
            have A30 := Aside0.mk A300
            clear A300
            have H' := Aside0.mk H
            clear H
            have hcz31_0 : w13.cell? ⟨gb232, 0, none⟩ = some (.int .i64 0) := (blk_cell BK232.out 0).trans rfl
            have hcz31_1 : w13.cell? ⟨gb232, 1, none⟩ = some (.int .i64 0) := (blk_cell BK232.out 1).trans rfl
            have hcz31_2 : w13.cell? ⟨gb232, 2, none⟩ = some (.int .i64 0) := (blk_cell BK232.out 2).trans rfl
            have hcz31_3 : w13.cell? ⟨gb232, 3, none⟩ = some (.int .i64 0) := (blk_cell BK232.out 3).trans rfl
            have hcz31_4 : w13.cell? ⟨gb232, 4, none⟩ = some (.int .i64 0) := (blk_cell BK232.out 4).trans rfl
            have hcz31_5 : w13.cell? ⟨gb232, 5, none⟩ = some (.int .i64 0) := (blk_cell BK232.out 5).trans rfl
            have hfz31_0 := blk_frozen BK232.out 0
            have hfz31_1 := blk_frozen BK232.out 1
            have hfz31_2 := blk_frozen BK232.out 2
            have hfz31_3 := blk_frozen BK232.out 3
            have hfz31_4 := blk_frozen BK232.out 4
            have hfz31_5 := blk_frozen BK232.out 5
            go_wp2_with (first | ((with_reducible refine gate_callee (f := 53) rfl ?_); refine goesL_ (some 24) rfl rfl Try.func53 (by kernel_rfl) rfl #[.agg #[.int .i64 ((rd_T36 l0 x18_1).f0), .int .i64 ((rd_T36 l0 x18_1).f1), .int .i64 ((rd_T36 l0 x18_1).f2), .int .i64 ((rd_T36 l0 x18_1).f3), .int .i64 ((rd_T36 l0 x18_1).f4), .int .i64 ((rd_T36 l0 x18_1).f5)]] rfl (by (try simp only [List.map_toArray, List.map_cons, List.map_nil]); first | done | rfl | (simp only [List.length_drop, List.length_take]; rfl)) ?_; (with_reducible refine (impl_isQuant.calls ((rd_T36 l0 x18_1).f0) ((rd_T36 l0 x18_1).f1) ((rd_T36 l0 x18_1).f2) ((rd_T36 l0 x18_1).f3) ((rd_T36 l0 x18_1).f4) ((rd_T36 l0 x18_1).f5) false _ A15.out).mono ?_); rintro e w32 ⟨rfl, hb⟩; refine ⟨_, rfl, ?_⟩; have n0_ := Aside0.mk (Kd.R_below (by (with_reducible repeat (first | apply Kd.R_alloc | apply Kd.R_drewN | apply Kd.R_drew)); exact (Kd.R_mono (Kd.R_far (p := ⟨gb232, 5, none⟩) (Kd.R_far (p := ⟨gb232, 4, none⟩) (Kd.R_far (p := ⟨gb232, 3, none⟩) (Kd.R_far (p := ⟨gb232, 2, none⟩) (Kd.R_far (p := ⟨gb232, 1, none⟩) (Kd.R_far (p := ⟨gb232, 0, none⟩) (Kd.R_mono HO_8.out (fun k_ hk => (⟨hk, hk.2⟩ : _ ∧ k_ ≠ gb232))) (fun _ hk => hk.2) (.int .i64 ((rd_T36 l0 x18_1).f0))) (fun _ hk => hk.2) (.int .i64 ((rd_T36 l0 x18_1).f1))) (fun _ hk => hk.2) (.int .i64 ((rd_T36 l0 x18_1).f2))) (fun _ hk => hk.2) (.int .i64 ((rd_T36 l0 x18_1).f3))) (fun _ hk => hk.2) (.int .i64 ((rd_T36 l0 x18_1).f4))) (fun _ hk => hk.2) (.int .i64 ((rd_T36 l0 x18_1).f5))) (fun _ h_ => h_.1))) hb); have n1_ := Aside0.mk (blk_below (g := gb232) (o := .cells #[.int .i64 ((rd_T36 l0 x18_1).f0), .int .i64 ((rd_T36 l0 x18_1).f1), .int .i64 ((rd_T36 l0 x18_1).f2), .int .i64 ((rd_T36 l0 x18_1).f3), .int .i64 ((rd_T36 l0 x18_1).f4), .int .i64 ((rd_T36 l0 x18_1).f5)] 36 (0, 0)) (by (with_reducible repeat (first | refine blk_drewN ?_ _ | refine blk_drew ?_ | refine blk_alloc ?_ _)); refine blk_put (cs := #[.int .i64 ((rd_T36 l0 x18_1).f0), .int .i64 ((rd_T36 l0 x18_1).f1), .int .i64 ((rd_T36 l0 x18_1).f2), .int .i64 ((rd_T36 l0 x18_1).f3), .int .i64 ((rd_T36 l0 x18_1).f4), .int .i64 0]) ?_ 5 _ rfl; (with_reducible repeat (first | refine blk_drewN ?_ _ | refine blk_drew ?_ | refine blk_alloc ?_ _)); refine blk_put (cs := #[.int .i64 ((rd_T36 l0 x18_1).f0), .int .i64 ((rd_T36 l0 x18_1).f1), .int .i64 ((rd_T36 l0 x18_1).f2), .int .i64 ((rd_T36 l0 x18_1).f3), .int .i64 0, .int .i64 0]) ?_ 4 _ rfl; (with_reducible repeat (first | refine blk_drewN ?_ _ | refine blk_drew ?_ | refine blk_alloc ?_ _)); refine blk_put (cs := #[.int .i64 ((rd_T36 l0 x18_1).f0), .int .i64 ((rd_T36 l0 x18_1).f1), .int .i64 ((rd_T36 l0 x18_1).f2), .int .i64 0, .int .i64 0, .int .i64 0]) ?_ 3 _ rfl; (with_reducible repeat (first | refine blk_drewN ?_ _ | refine blk_drew ?_ | refine blk_alloc ?_ _)); refine blk_put (cs := #[.int .i64 ((rd_T36 l0 x18_1).f0), .int .i64 ((rd_T36 l0 x18_1).f1), .int .i64 0, .int .i64 0, .int .i64 0, .int .i64 0]) ?_ 2 _ rfl; (with_reducible repeat (first | refine blk_drewN ?_ _ | refine blk_drew ?_ | refine blk_alloc ?_ _)); refine blk_put (cs := #[.int .i64 ((rd_T36 l0 x18_1).f0), .int .i64 0, .int .i64 0, .int .i64 0, .int .i64 0, .int .i64 0]) ?_ 1 _ rfl; (with_reducible repeat (first | refine blk_drewN ?_ _ | refine blk_drew ?_ | refine blk_alloc ?_ _)); refine blk_put (cs := #[.int .i64 0, .int .i64 0, .int .i64 0, .int .i64 0, .int .i64 0, .int .i64 0]) ?_ 0 _ rfl; (with_reducible repeat (first | refine blk_drewN ?_ _ | refine blk_drew ?_ | refine blk_alloc ?_ _)); exact BK232.out) hb); have n2_ := Aside0.mk (below_step (by repeat (first | (with_reducible first | exact HB.out | apply below_alloc | apply pw_below_drewN | apply below_drew1 | refine below_set ?_ GE232.out) | exact HB.out)) hb); clear HO_8; clear BK232; clear HB; have HO_8 := n0_; have BK232 := n1_; have HB := n2_; clear n0_ n1_ n2_; (try clear hb); (try clear hb2); (try clear hk); (try clear hi); have hcz33_0 : w32.cell? ⟨gb232, 0, none⟩ = some (.int .i64 ((rd_T36 l0 x18_1).f0)) := (blk_cell BK232.out 0).trans rfl; have hcz33_1 : w32.cell? ⟨gb232, 1, none⟩ = some (.int .i64 ((rd_T36 l0 x18_1).f1)) := (blk_cell BK232.out 1).trans rfl; have hcz33_2 : w32.cell? ⟨gb232, 2, none⟩ = some (.int .i64 ((rd_T36 l0 x18_1).f2)) := (blk_cell BK232.out 2).trans rfl; have hcz33_3 : w32.cell? ⟨gb232, 3, none⟩ = some (.int .i64 ((rd_T36 l0 x18_1).f3)) := (blk_cell BK232.out 3).trans rfl; have hcz33_4 : w32.cell? ⟨gb232, 4, none⟩ = some (.int .i64 ((rd_T36 l0 x18_1).f4)) := (blk_cell BK232.out 4).trans rfl; have hcz33_5 : w32.cell? ⟨gb232, 5, none⟩ = some (.int .i64 ((rd_T36 l0 x18_1).f5)) := (blk_cell BK232.out 5).trans rfl; have hfz33_0 := blk_frozen BK232.out 0; have hfz33_1 := blk_frozen BK232.out 1; have hfz33_2 := blk_frozen BK232.out 2; have hfz33_3 := blk_frozen BK232.out 3; have hfz33_4 := blk_frozen BK232.out 4; have hfz33_5 := blk_frozen BK232.out 5) | (go_at_call 54; (with_reducible refine (impl_WordOk.calls ((rd_T36 l0 x18_1).f1) a2 t234 _ A30.out).mono ?_); rintro e w' ⟨rfl, ⟨nd, rfl⟩⟩))
            go_meet
            case rel => exact ⟨_, (!t234), (by first | rfl | (simp; done) | (simp [*]; done)), H', ⟨by have := HK1.out; first | omega | exact Nat.le_refl _⟩, ⟨by (with_reducible repeat (first | apply Kd.R_alloc | apply Kd.R_drewN | apply Kd.R_drew)); exact Kd.R_mono HO_8.out (fun _ hk => hk.2)⟩, ⟨by (with_reducible repeat (first | refine blk_drewN ?_ _ | refine blk_drew ?_ | refine blk_alloc ?_ _)); exact BK232.out⟩, ⟨by repeat (first | (with_reducible first | exact HB.out | apply below_alloc | apply pw_below_drewN | apply below_drew1 | refine below_set ?_ GE232.out) | exact HB.out)⟩⟩
           ·rw [if_neg c29] at H
            have c29b0 : (((rd_T36 l0 x18_1).f2) == a1) = false := beq_eq_false_iff_ne.mpr c29
            have c29b1 : (((rd_T36 l0 x18_1).f2) != a1) = true := bne_iff_ne.mpr c29
            have H' := Aside0.mk H
            clear H
            have hcz34_0 : w13.cell? ⟨gb232, 0, none⟩ = some (.int .i64 0) := (blk_cell BK232.out 0).trans rfl
            have hcz34_1 : w13.cell? ⟨gb232, 1, none⟩ = some (.int .i64 0) := (blk_cell BK232.out 1).trans rfl
            have hcz34_2 : w13.cell? ⟨gb232, 2, none⟩ = some (.int .i64 0) := (blk_cell BK232.out 2).trans rfl
            have hcz34_3 : w13.cell? ⟨gb232, 3, none⟩ = some (.int .i64 0) := (blk_cell BK232.out 3).trans rfl
            have hcz34_4 : w13.cell? ⟨gb232, 4, none⟩ = some (.int .i64 0) := (blk_cell BK232.out 4).trans rfl
            have hcz34_5 : w13.cell? ⟨gb232, 5, none⟩ = some (.int .i64 0) := (blk_cell BK232.out 5).trans rfl
            have hfz34_0 := blk_frozen BK232.out 0
            have hfz34_1 := blk_frozen BK232.out 1
            have hfz34_2 := blk_frozen BK232.out 2
            have hfz34_3 := blk_frozen BK232.out 3
            have hfz34_4 := blk_frozen BK232.out 4
            have hfz34_5 := blk_frozen BK232.out 5
            go_wp2_with (first | ((with_reducible refine gate_callee (f := 53) rfl ?_); refine goesL_ (some 24) rfl rfl Try.func53 (by kernel_rfl) rfl #[.agg #[.int .i64 ((rd_T36 l0 x18_1).f0), .int .i64 ((rd_T36 l0 x18_1).f1), .int .i64 ((rd_T36 l0 x18_1).f2), .int .i64 ((rd_T36 l0 x18_1).f3), .int .i64 ((rd_T36 l0 x18_1).f4), .int .i64 ((rd_T36 l0 x18_1).f5)]] rfl (by (try simp only [List.map_toArray, List.map_cons, List.map_nil]); first | done | rfl | (simp only [List.length_drop, List.length_take]; rfl)) ?_; (with_reducible refine (impl_isQuant.calls ((rd_T36 l0 x18_1).f0) ((rd_T36 l0 x18_1).f1) ((rd_T36 l0 x18_1).f2) ((rd_T36 l0 x18_1).f3) ((rd_T36 l0 x18_1).f4) ((rd_T36 l0 x18_1).f5) false _ A15.out).mono ?_); rintro e w35 ⟨rfl, hb⟩; refine ⟨_, rfl, ?_⟩; have n0_ := Aside0.mk (Kd.R_below (by (with_reducible repeat (first | apply Kd.R_alloc | apply Kd.R_drewN | apply Kd.R_drew)); exact (Kd.R_mono (Kd.R_far (p := ⟨gb232, 5, none⟩) (Kd.R_far (p := ⟨gb232, 4, none⟩) (Kd.R_far (p := ⟨gb232, 3, none⟩) (Kd.R_far (p := ⟨gb232, 2, none⟩) (Kd.R_far (p := ⟨gb232, 1, none⟩) (Kd.R_far (p := ⟨gb232, 0, none⟩) (Kd.R_mono HO_8.out (fun k_ hk => (⟨hk, hk.2⟩ : _ ∧ k_ ≠ gb232))) (fun _ hk => hk.2) (.int .i64 ((rd_T36 l0 x18_1).f0))) (fun _ hk => hk.2) (.int .i64 ((rd_T36 l0 x18_1).f1))) (fun _ hk => hk.2) (.int .i64 ((rd_T36 l0 x18_1).f2))) (fun _ hk => hk.2) (.int .i64 ((rd_T36 l0 x18_1).f3))) (fun _ hk => hk.2) (.int .i64 ((rd_T36 l0 x18_1).f4))) (fun _ hk => hk.2) (.int .i64 ((rd_T36 l0 x18_1).f5))) (fun _ h_ => h_.1))) hb); have n1_ := Aside0.mk (blk_below (g := gb232) (o := .cells #[.int .i64 ((rd_T36 l0 x18_1).f0), .int .i64 ((rd_T36 l0 x18_1).f1), .int .i64 ((rd_T36 l0 x18_1).f2), .int .i64 ((rd_T36 l0 x18_1).f3), .int .i64 ((rd_T36 l0 x18_1).f4), .int .i64 ((rd_T36 l0 x18_1).f5)] 36 (0, 0)) (by (with_reducible repeat (first | refine blk_drewN ?_ _ | refine blk_drew ?_ | refine blk_alloc ?_ _)); refine blk_put (cs := #[.int .i64 ((rd_T36 l0 x18_1).f0), .int .i64 ((rd_T36 l0 x18_1).f1), .int .i64 ((rd_T36 l0 x18_1).f2), .int .i64 ((rd_T36 l0 x18_1).f3), .int .i64 ((rd_T36 l0 x18_1).f4), .int .i64 0]) ?_ 5 _ rfl; (with_reducible repeat (first | refine blk_drewN ?_ _ | refine blk_drew ?_ | refine blk_alloc ?_ _)); refine blk_put (cs := #[.int .i64 ((rd_T36 l0 x18_1).f0), .int .i64 ((rd_T36 l0 x18_1).f1), .int .i64 ((rd_T36 l0 x18_1).f2), .int .i64 ((rd_T36 l0 x18_1).f3), .int .i64 0, .int .i64 0]) ?_ 4 _ rfl; (with_reducible repeat (first | refine blk_drewN ?_ _ | refine blk_drew ?_ | refine blk_alloc ?_ _)); refine blk_put (cs := #[.int .i64 ((rd_T36 l0 x18_1).f0), .int .i64 ((rd_T36 l0 x18_1).f1), .int .i64 ((rd_T36 l0 x18_1).f2), .int .i64 0, .int .i64 0, .int .i64 0]) ?_ 3 _ rfl; (with_reducible repeat (first | refine blk_drewN ?_ _ | refine blk_drew ?_ | refine blk_alloc ?_ _)); refine blk_put (cs := #[.int .i64 ((rd_T36 l0 x18_1).f0), .int .i64 ((rd_T36 l0 x18_1).f1), .int .i64 0, .int .i64 0, .int .i64 0, .int .i64 0]) ?_ 2 _ rfl; (with_reducible repeat (first | refine blk_drewN ?_ _ | refine blk_drew ?_ | refine blk_alloc ?_ _)); refine blk_put (cs := #[.int .i64 ((rd_T36 l0 x18_1).f0), .int .i64 0, .int .i64 0, .int .i64 0, .int .i64 0, .int .i64 0]) ?_ 1 _ rfl; (with_reducible repeat (first | refine blk_drewN ?_ _ | refine blk_drew ?_ | refine blk_alloc ?_ _)); refine blk_put (cs := #[.int .i64 0, .int .i64 0, .int .i64 0, .int .i64 0, .int .i64 0, .int .i64 0]) ?_ 0 _ rfl; (with_reducible repeat (first | refine blk_drewN ?_ _ | refine blk_drew ?_ | refine blk_alloc ?_ _)); exact BK232.out) hb); have n2_ := Aside0.mk (below_step (by repeat (first | (with_reducible first | exact HB.out | apply below_alloc | apply pw_below_drewN | apply below_drew1 | refine below_set ?_ GE232.out) | exact HB.out)) hb); clear HO_8; clear BK232; clear HB; have HO_8 := n0_; have BK232 := n1_; have HB := n2_; clear n0_ n1_ n2_; (try clear hb); (try clear hb2); (try clear hk); (try clear hi); have hcz36_0 : w35.cell? ⟨gb232, 0, none⟩ = some (.int .i64 ((rd_T36 l0 x18_1).f0)) := (blk_cell BK232.out 0).trans rfl; have hcz36_1 : w35.cell? ⟨gb232, 1, none⟩ = some (.int .i64 ((rd_T36 l0 x18_1).f1)) := (blk_cell BK232.out 1).trans rfl; have hcz36_2 : w35.cell? ⟨gb232, 2, none⟩ = some (.int .i64 ((rd_T36 l0 x18_1).f2)) := (blk_cell BK232.out 2).trans rfl; have hcz36_3 : w35.cell? ⟨gb232, 3, none⟩ = some (.int .i64 ((rd_T36 l0 x18_1).f3)) := (blk_cell BK232.out 3).trans rfl; have hcz36_4 : w35.cell? ⟨gb232, 4, none⟩ = some (.int .i64 ((rd_T36 l0 x18_1).f4)) := (blk_cell BK232.out 4).trans rfl; have hcz36_5 : w35.cell? ⟨gb232, 5, none⟩ = some (.int .i64 ((rd_T36 l0 x18_1).f5)) := (blk_cell BK232.out 5).trans rfl; have hfz36_0 := blk_frozen BK232.out 0; have hfz36_1 := blk_frozen BK232.out 1; have hfz36_2 := blk_frozen BK232.out 2; have hfz36_3 := blk_frozen BK232.out 3; have hfz36_4 := blk_frozen BK232.out 4; have hfz36_5 := blk_frozen BK232.out 5))
            go_meet
            case rel => exact ⟨_, (false), (by first | rfl | (simp; done) | (simp [*]; done)), H', ⟨by have := HK1.out; first | omega | exact Nat.le_refl _⟩, ⟨by (with_reducible repeat (first | apply Kd.R_alloc | apply Kd.R_drewN | apply Kd.R_drew)); exact Kd.R_mono HO_8.out (fun _ hk => hk.2)⟩, ⟨by (with_reducible repeat (first | refine blk_drewN ?_ _ | refine blk_drew ?_ | refine blk_alloc ?_ _)); exact BK232.out⟩, ⟨by repeat (first | (with_reducible first | exact HB.out | apply below_alloc | apply pw_below_drewN | apply below_drew1 | refine below_set ?_ GE232.out) | exact HB.out)⟩⟩
          ·rw [if_neg c28] at H
           have c28b0 : (((rd_T36 l0 x18_1).f0) == 1) = false := beq_eq_false_iff_ne.mpr c28
           have c28b1 : (((rd_T36 l0 x18_1).f0) != 1) = true := bne_iff_ne.mpr c28
           have H' := Aside0.mk H
           clear H
           have hcz37_0 : w13.cell? ⟨gb232, 0, none⟩ = some (.int .i64 0) := (blk_cell BK232.out 0).trans rfl
           have hcz37_1 : w13.cell? ⟨gb232, 1, none⟩ = some (.int .i64 0) := (blk_cell BK232.out 1).trans rfl
           have hcz37_2 : w13.cell? ⟨gb232, 2, none⟩ = some (.int .i64 0) := (blk_cell BK232.out 2).trans rfl
           have hcz37_3 : w13.cell? ⟨gb232, 3, none⟩ = some (.int .i64 0) := (blk_cell BK232.out 3).trans rfl
           have hcz37_4 : w13.cell? ⟨gb232, 4, none⟩ = some (.int .i64 0) := (blk_cell BK232.out 4).trans rfl
           have hcz37_5 : w13.cell? ⟨gb232, 5, none⟩ = some (.int .i64 0) := (blk_cell BK232.out 5).trans rfl
           have hfz37_0 := blk_frozen BK232.out 0
           have hfz37_1 := blk_frozen BK232.out 1
           have hfz37_2 := blk_frozen BK232.out 2
           have hfz37_3 := blk_frozen BK232.out 3
           have hfz37_4 := blk_frozen BK232.out 4
           have hfz37_5 := blk_frozen BK232.out 5
           go_wp2_with (first | ((with_reducible refine gate_callee (f := 53) rfl ?_); refine goesL_ (some 24) rfl rfl Try.func53 (by kernel_rfl) rfl #[.agg #[.int .i64 ((rd_T36 l0 x18_1).f0), .int .i64 ((rd_T36 l0 x18_1).f1), .int .i64 ((rd_T36 l0 x18_1).f2), .int .i64 ((rd_T36 l0 x18_1).f3), .int .i64 ((rd_T36 l0 x18_1).f4), .int .i64 ((rd_T36 l0 x18_1).f5)]] rfl (by (try simp only [List.map_toArray, List.map_cons, List.map_nil]); first | done | rfl | (simp only [List.length_drop, List.length_take]; rfl)) ?_; (with_reducible refine (impl_isQuant.calls ((rd_T36 l0 x18_1).f0) ((rd_T36 l0 x18_1).f1) ((rd_T36 l0 x18_1).f2) ((rd_T36 l0 x18_1).f3) ((rd_T36 l0 x18_1).f4) ((rd_T36 l0 x18_1).f5) false _ A15.out).mono ?_); rintro e w38 ⟨rfl, hb⟩; refine ⟨_, rfl, ?_⟩; have n0_ := Aside0.mk (Kd.R_below (by (with_reducible repeat (first | apply Kd.R_alloc | apply Kd.R_drewN | apply Kd.R_drew)); exact (Kd.R_mono (Kd.R_far (p := ⟨gb232, 5, none⟩) (Kd.R_far (p := ⟨gb232, 4, none⟩) (Kd.R_far (p := ⟨gb232, 3, none⟩) (Kd.R_far (p := ⟨gb232, 2, none⟩) (Kd.R_far (p := ⟨gb232, 1, none⟩) (Kd.R_far (p := ⟨gb232, 0, none⟩) (Kd.R_mono HO_8.out (fun k_ hk => (⟨hk, hk.2⟩ : _ ∧ k_ ≠ gb232))) (fun _ hk => hk.2) (.int .i64 ((rd_T36 l0 x18_1).f0))) (fun _ hk => hk.2) (.int .i64 ((rd_T36 l0 x18_1).f1))) (fun _ hk => hk.2) (.int .i64 ((rd_T36 l0 x18_1).f2))) (fun _ hk => hk.2) (.int .i64 ((rd_T36 l0 x18_1).f3))) (fun _ hk => hk.2) (.int .i64 ((rd_T36 l0 x18_1).f4))) (fun _ hk => hk.2) (.int .i64 ((rd_T36 l0 x18_1).f5))) (fun _ h_ => h_.1))) hb); have n1_ := Aside0.mk (blk_below (g := gb232) (o := .cells #[.int .i64 ((rd_T36 l0 x18_1).f0), .int .i64 ((rd_T36 l0 x18_1).f1), .int .i64 ((rd_T36 l0 x18_1).f2), .int .i64 ((rd_T36 l0 x18_1).f3), .int .i64 ((rd_T36 l0 x18_1).f4), .int .i64 ((rd_T36 l0 x18_1).f5)] 36 (0, 0)) (by (with_reducible repeat (first | refine blk_drewN ?_ _ | refine blk_drew ?_ | refine blk_alloc ?_ _)); refine blk_put (cs := #[.int .i64 ((rd_T36 l0 x18_1).f0), .int .i64 ((rd_T36 l0 x18_1).f1), .int .i64 ((rd_T36 l0 x18_1).f2), .int .i64 ((rd_T36 l0 x18_1).f3), .int .i64 ((rd_T36 l0 x18_1).f4), .int .i64 0]) ?_ 5 _ rfl; (with_reducible repeat (first | refine blk_drewN ?_ _ | refine blk_drew ?_ | refine blk_alloc ?_ _)); refine blk_put (cs := #[.int .i64 ((rd_T36 l0 x18_1).f0), .int .i64 ((rd_T36 l0 x18_1).f1), .int .i64 ((rd_T36 l0 x18_1).f2), .int .i64 ((rd_T36 l0 x18_1).f3), .int .i64 0, .int .i64 0]) ?_ 4 _ rfl; (with_reducible repeat (first | refine blk_drewN ?_ _ | refine blk_drew ?_ | refine blk_alloc ?_ _)); refine blk_put (cs := #[.int .i64 ((rd_T36 l0 x18_1).f0), .int .i64 ((rd_T36 l0 x18_1).f1), .int .i64 ((rd_T36 l0 x18_1).f2), .int .i64 0, .int .i64 0, .int .i64 0]) ?_ 3 _ rfl; (with_reducible repeat (first | refine blk_drewN ?_ _ | refine blk_drew ?_ | refine blk_alloc ?_ _)); refine blk_put (cs := #[.int .i64 ((rd_T36 l0 x18_1).f0), .int .i64 ((rd_T36 l0 x18_1).f1), .int .i64 0, .int .i64 0, .int .i64 0, .int .i64 0]) ?_ 2 _ rfl; (with_reducible repeat (first | refine blk_drewN ?_ _ | refine blk_drew ?_ | refine blk_alloc ?_ _)); refine blk_put (cs := #[.int .i64 ((rd_T36 l0 x18_1).f0), .int .i64 0, .int .i64 0, .int .i64 0, .int .i64 0, .int .i64 0]) ?_ 1 _ rfl; (with_reducible repeat (first | refine blk_drewN ?_ _ | refine blk_drew ?_ | refine blk_alloc ?_ _)); refine blk_put (cs := #[.int .i64 0, .int .i64 0, .int .i64 0, .int .i64 0, .int .i64 0, .int .i64 0]) ?_ 0 _ rfl; (with_reducible repeat (first | refine blk_drewN ?_ _ | refine blk_drew ?_ | refine blk_alloc ?_ _)); exact BK232.out) hb); have n2_ := Aside0.mk (below_step (by repeat (first | (with_reducible first | exact HB.out | apply below_alloc | apply pw_below_drewN | apply below_drew1 | refine below_set ?_ GE232.out) | exact HB.out)) hb); clear HO_8; clear BK232; clear HB; have HO_8 := n0_; have BK232 := n1_; have HB := n2_; clear n0_ n1_ n2_; (try clear hb); (try clear hb2); (try clear hk); (try clear hi); have hcz39_0 : w38.cell? ⟨gb232, 0, none⟩ = some (.int .i64 ((rd_T36 l0 x18_1).f0)) := (blk_cell BK232.out 0).trans rfl; have hcz39_1 : w38.cell? ⟨gb232, 1, none⟩ = some (.int .i64 ((rd_T36 l0 x18_1).f1)) := (blk_cell BK232.out 1).trans rfl; have hcz39_2 : w38.cell? ⟨gb232, 2, none⟩ = some (.int .i64 ((rd_T36 l0 x18_1).f2)) := (blk_cell BK232.out 2).trans rfl; have hcz39_3 : w38.cell? ⟨gb232, 3, none⟩ = some (.int .i64 ((rd_T36 l0 x18_1).f3)) := (blk_cell BK232.out 3).trans rfl; have hcz39_4 : w38.cell? ⟨gb232, 4, none⟩ = some (.int .i64 ((rd_T36 l0 x18_1).f4)) := (blk_cell BK232.out 4).trans rfl; have hcz39_5 : w38.cell? ⟨gb232, 5, none⟩ = some (.int .i64 ((rd_T36 l0 x18_1).f5)) := (blk_cell BK232.out 5).trans rfl; have hfz39_0 := blk_frozen BK232.out 0; have hfz39_1 := blk_frozen BK232.out 1; have hfz39_2 := blk_frozen BK232.out 2; have hfz39_3 := blk_frozen BK232.out 3; have hfz39_4 := blk_frozen BK232.out 4; have hfz39_5 := blk_frozen BK232.out 5))
           go_meet
           case rel => exact ⟨_, (false), (by first | rfl | (simp; done) | (simp [*]; done)), H', ⟨by have := HK1.out; first | omega | exact Nat.le_refl _⟩, ⟨by (with_reducible repeat (first | apply Kd.R_alloc | apply Kd.R_drewN | apply Kd.R_drew)); exact Kd.R_mono HO_8.out (fun _ hk => hk.2)⟩, ⟨by (with_reducible repeat (first | refine blk_drewN ?_ _ | refine blk_drew ?_ | refine blk_alloc ?_ _)); exact BK232.out⟩, ⟨by repeat (first | (with_reducible first | exact HB.out | apply below_alloc | apply pw_below_drewN | apply below_drew1 | refine below_set ?_ GE232.out) | exact HB.out)⟩⟩
        case rest =>
         clear HC12
         try clear c1; try clear c2; try clear p2; try clear q2; try clear hx2; try clear c5; try clear c6; try clear c9; try clear c9b0; try clear c10; try clear c10b0; try clear c11; try clear c11b0; try clear c15; try clear c16; try clear c17; try clear c17b0; try clear c17b1; try clear c18; try clear c21; try clear c21b0; try clear c21b1; try clear p23; try clear q23; try clear hx23; try clear c28; try clear c28b0; try clear c28b1; try clear c29; try clear c29b0; try clear c29b1; try clear hcz14_0; try clear hcz14_1; try clear hcz14_2; try clear hcz14_3; try clear hcz14_4; try clear hcz14_5; try clear hcz18_0; try clear hcz18_1; try clear hcz18_2; try clear hcz18_3; try clear hcz18_4; try clear hcz18_5; try clear hcz20_0; try clear hcz20_1; try clear hcz20_2; try clear hcz20_3; try clear hcz20_4; try clear hcz20_5; try clear hcz22_0; try clear hcz22_1; try clear hcz22_2; try clear hcz22_3; try clear hcz22_4; try clear hcz22_5; try clear hcz24_0; try clear hcz24_1; try clear hcz24_2; try clear hcz24_3; try clear hcz24_4; try clear hcz24_5; try clear hcz25_0; try clear hcz25_1; try clear hcz25_2; try clear hcz25_3; try clear hcz25_4; try clear hcz25_5; try clear hcz27_0; try clear hcz27_1; try clear hcz27_2; try clear hcz27_3; try clear hcz27_4; try clear hcz27_5; try clear hcz31_0; try clear hcz31_1; try clear hcz31_2; try clear hcz31_3; try clear hcz31_4; try clear hcz31_5; try clear hcz33_0; try clear hcz33_1; try clear hcz33_2; try clear hcz33_3; try clear hcz33_4; try clear hcz33_5; try clear hcz34_0; try clear hcz34_1; try clear hcz34_2; try clear hcz34_3; try clear hcz34_4; try clear hcz34_5; try clear hcz36_0; try clear hcz36_1; try clear hcz36_2; try clear hcz36_3; try clear hcz36_4; try clear hcz36_5; try clear hcz37_0; try clear hcz37_1; try clear hcz37_2; try clear hcz37_3; try clear hcz37_4; try clear hcz37_5; try clear hcz39_0; try clear hcz39_1; try clear hcz39_2; try clear hcz39_3; try clear hcz39_4; try clear hcz39_5; try clear hfz14_0; try clear hfz14_1; try clear hfz14_2; try clear hfz14_3; try clear hfz14_4; try clear hfz14_5; try clear hfz18_0; try clear hfz18_1; try clear hfz18_2; try clear hfz18_3; try clear hfz18_4; try clear hfz18_5; try clear hfz20_0; try clear hfz20_1; try clear hfz20_2; try clear hfz20_3; try clear hfz20_4; try clear hfz20_5; try clear hfz22_0; try clear hfz22_1; try clear hfz22_2; try clear hfz22_3; try clear hfz22_4; try clear hfz22_5; try clear hfz24_0; try clear hfz24_1; try clear hfz24_2; try clear hfz24_3; try clear hfz24_4; try clear hfz24_5; try clear hfz25_0; try clear hfz25_1; try clear hfz25_2; try clear hfz25_3; try clear hfz25_4; try clear hfz25_5; try clear hfz27_0; try clear hfz27_1; try clear hfz27_2; try clear hfz27_3; try clear hfz27_4; try clear hfz27_5; try clear hfz31_0; try clear hfz31_1; try clear hfz31_2; try clear hfz31_3; try clear hfz31_4; try clear hfz31_5; try clear hfz33_0; try clear hfz33_1; try clear hfz33_2; try clear hfz33_3; try clear hfz33_4; try clear hfz33_5; try clear hfz34_0; try clear hfz34_1; try clear hfz34_2; try clear hfz34_3; try clear hfz34_4; try clear hfz34_5; try clear hfz36_0; try clear hfz36_1; try clear hfz36_2; try clear hfz36_3; try clear hfz36_4; try clear hfz36_5; try clear hfz37_0; try clear hfz37_1; try clear hfz37_2; try clear hfz37_3; try clear hfz37_4; try clear hfz37_5; try clear hfz39_0; try clear hfz39_1; try clear hfz39_2; try clear hfz39_3; try clear hfz39_4; try clear hfz39_5; try clear hx231_0; try clear hx231_1; try clear hx231_2; try clear hx231_3; try clear hx231_4; try clear hx231_5; try clear p2; try clear p231; try clear q231
         obtain ⟨kq, x48_11, rfl, HA, HJ11, HO_8, BK232, HB⟩ := hcut
         cases kq with
         | zero => exact absurd HA.out (by simp [impl_Replace.j1])
         | succ kj11 =>
          have H := HA.out
          clear HA
          simp only [impl_Replace.j1] at H
          by_cases c40 : x48_11 = true
          ·subst c40
           have H1 : (some (([] : List (S36)), false)) = some (r1, r2) := by rw [if_pos rfl] at H; exact H
           clear H
           have H := H1
           clear H1
           simp only [Option.some.injEq, Prod.mk.injEq] at H
           obtain ⟨rfl, rfl⟩ := H
           go_wp2
           go_ret2
           exact ⟨_, by first | rfl | (simp [errW_none, errW_some] <;> rfl) | (simp [*, errW_none, errW_some] <;> rfl), by first | exact Kd.R_nil _ _ _ _ _ | exact Kd.N_nil _ _ _ _ _ | exact Kd.V_nil _ _ _ _ _ | exact Kd.Q_nil _ _ _ _ _ | exact Kd.S_nil _ _ _ _ _, by repeat (first | (with_reducible first | exact HB.out | apply below_alloc | apply pw_below_drewN | apply below_drew1 | refine below_set ?_ GE232.out) | exact HB.out)⟩
          ·replace c40 := Bool.eq_false_iff.mpr c40
           subst c40
           have H1 : (if ((rd_T36 l0 x18_1).f0) = 1 then (if ((rd_T36 l0 x18_1).f2) = a1 then (if 0 ≤ x18_1 then (if x18_1 < (x8_1.length : Int) then (impl_Replace.l0 kj11 a1 a2 (x8_1.set (x18_1 : Int).toNat (⟨0, ((rd_T36 l0 x18_1).f1), a2, 0, 0, 0⟩ : S36)) l0 (l0.length : Int) (wrap64 (x18_1 + 1))) else (none)) else (none)) else (impl_Replace.l0 kj11 a1 a2 x8_1 l0 (l0.length : Int) (wrap64 (x18_1 + 1)))) else (impl_Replace.l0 kj11 a1 a2 x8_1 l0 (l0.length : Int) (wrap64 (x18_1 + 1)))) = some (r1, r2) := by rw [if_neg (show ¬ (false = true) by decide)] at H; exact H
           clear H
           have H := H1
           clear H1
           by_cases c41 : ((rd_T36 l0 x18_1).f0) = 1
           ·rw [if_pos c41] at H
            have c41b0 : (((rd_T36 l0 x18_1).f0) == 1) = true := beq_iff_eq.mpr c41
            have c41b1 : (((rd_T36 l0 x18_1).f0) != 1) = false := bne_eq_false_iff_eq.mpr c41
            clear c41
            by_cases c42 : ((rd_T36 l0 x18_1).f2) = a1
            ·rw [if_pos c42] at H
             have c42b0 : (((rd_T36 l0 x18_1).f2) == a1) = true := beq_iff_eq.mpr c42
             have c42b1 : (((rd_T36 l0 x18_1).f2) != a1) = false := bne_eq_false_iff_eq.mpr c42
             clear c42
             by_cases c43 : 0 ≤ x18_1
             ·rw [if_pos c43] at H
              have c43b0 : decide (0 ≤ x18_1) = true := decide_eq_true c43
              clear c43
              by_cases c44 : x18_1 < (x8_1.length : Int)
              ·rw [if_pos c44] at H
               have c44b0 : decide (x18_1 < (x8_1.length : Int)) = true := decide_eq_true c44
               clear c44
               obtain ⟨y235, hy235⟩ : ∃ y_ : List (S36), y_ = (x8_1.set (x18_1 : Int).toNat (⟨0, ((rd_T36 l0 x18_1).f1), a2, 0, 0, 0⟩ : S36)) := ⟨_, rfl⟩
               replace H : (impl_Replace.l0 kj11 a1 a2 y235 l0 (l0.length : Int) (wrap64 (x18_1 + 1))) = some (r1, r2) := by first | (rw [hy235]; with_reducible exact H) | (have H2_ := (Option.bind_some _ _).symm.trans H; rw [hy235]; with_reducible exact H2_) | (have H2_ := (Option.bind_some _ _).symm.trans H; with_reducible exact H2_) | with_reducible exact H | (rw [hy235]; exact H) | exact H
               have Ny235 := Aside0.mk hy235
               clear hy235
               have H' := Aside0.mk H
               clear H
               have hcz46_0 : wc.cell? ⟨gb232, 0, none⟩ = some (.int .i64 ((rd_T36 l0 x18_1).f0)) := (blk_cell BK232.out 0).trans rfl
               have hcz46_1 : wc.cell? ⟨gb232, 1, none⟩ = some (.int .i64 ((rd_T36 l0 x18_1).f1)) := (blk_cell BK232.out 1).trans rfl
               have hcz46_2 : wc.cell? ⟨gb232, 2, none⟩ = some (.int .i64 ((rd_T36 l0 x18_1).f2)) := (blk_cell BK232.out 2).trans rfl
               have hcz46_3 : wc.cell? ⟨gb232, 3, none⟩ = some (.int .i64 ((rd_T36 l0 x18_1).f3)) := (blk_cell BK232.out 3).trans rfl
               have hcz46_4 : wc.cell? ⟨gb232, 4, none⟩ = some (.int .i64 ((rd_T36 l0 x18_1).f4)) := (blk_cell BK232.out 4).trans rfl
               have hcz46_5 : wc.cell? ⟨gb232, 5, none⟩ = some (.int .i64 ((rd_T36 l0 x18_1).f5)) := (blk_cell BK232.out 5).trans rfl
               have hfz46_0 := blk_frozen BK232.out 0
               have hfz46_1 := blk_frozen BK232.out 1
               have hfz46_2 := blk_frozen BK232.out 2
               have hfz46_3 := blk_frozen BK232.out 3
               have hfz46_4 := blk_frozen BK232.out 4
               have hfz46_5 := blk_frozen BK232.out 5
               have p45 : 0 ≤ (x18_1 : Int) := of_decide_eq_true (by first | (with_reducible assumption) | assumption)
               have q45 : (x18_1 : Int) < ((x8_1.length : Int) : Int) := of_decide_eq_true (by first | (with_reducible assumption) | assumption)
               obtain ⟨go45, co45, eo45, gb45, gl45, cl45, HG45⟩ := Kd.R_form HO_8.out (by omega)
               (first | cases eo45 | (injection eo45 with ea_ en_ ec_; (first | subst ea_ | (injection ea_ with ea_; subst ea_)); subst ec_; clear en_))
               have GB45 := Aside0.mk gb45
               have GG45 := Aside0.mk HG45
               clear gb45 gl45 HG45
               obtain ⟨ce45, hcl45, hM45, hcc45, hfr45⟩ := Kd.R_elem HO_8.out z36 (x18_1 : Int) p45 q45
               obtain rfl := k36_openM hM45
               have hx45_0 : wc.cell? ⟨go45, (x18_1 : Int).toNat * 6, none⟩ = some (.int .i64 ((rd_T36 x8_1 x18_1).f0)) := hcc45 0 _ rfl
               have hx45_1 : wc.cell? ⟨go45, (x18_1 : Int).toNat * 6 + 1, none⟩ = some (.int .i64 ((rd_T36 x8_1 x18_1).f1)) := hcc45 1 _ rfl
               have hx45_2 : wc.cell? ⟨go45, (x18_1 : Int).toNat * 6 + 2, none⟩ = some (.int .i64 ((rd_T36 x8_1 x18_1).f2)) := hcc45 2 _ rfl
               have hx45_3 : wc.cell? ⟨go45, (x18_1 : Int).toNat * 6 + 3, none⟩ = some (.int .i64 ((rd_T36 x8_1 x18_1).f3)) := hcc45 3 _ rfl
               have hx45_4 : wc.cell? ⟨go45, (x18_1 : Int).toNat * 6 + 4, none⟩ = some (.int .i64 ((rd_T36 x8_1 x18_1).f4)) := hcc45 4 _ rfl
               have hx45_5 : wc.cell? ⟨go45, (x18_1 : Int).toNat * 6 + 5, none⟩ = some (.int .i64 ((rd_T36 x8_1 x18_1).f5)) := hcc45 5 _ rfl
               have hf45_0 : wc.frozen? ⟨go45, (x18_1 : Int).toNat * 6, none⟩ = false := hfr45 0
               have hf45_1 : wc.frozen? ⟨go45, (x18_1 : Int).toNat * 6 + 1, none⟩ = false := hfr45 1
               have hf45_2 : wc.frozen? ⟨go45, (x18_1 : Int).toNat * 6 + 2, none⟩ = false := hfr45 2
               have hf45_3 : wc.frozen? ⟨go45, (x18_1 : Int).toNat * 6 + 3, none⟩ = false := hfr45 3
               have hf45_4 : wc.frozen? ⟨go45, (x18_1 : Int).toNat * 6 + 4, none⟩ = false := hfr45 4
               have hf45_5 : wc.frozen? ⟨go45, (x18_1 : Int).toNat * 6 + 5, none⟩ = false := hfr45 5
               clear hcl45 hcc45 hfr45 hM45
               replace p45 := eq_true p45
               replace q45 := eq_true q45
               have HX47 := Aside0.mk (show Kd.R k36 36 wc w.heap.size (fun k_ => k_ ≠ gb232) (.slice (some ⟨go45, 0, none⟩) x8_1.length co45) x8_1 from (by (with_reducible repeat (first | apply Kd.R_alloc | apply Kd.R_drewN | apply Kd.R_drew)); exact HO_8.out))
               obtain ⟨ce47, hcl47, hM47, hcc47, hfr47⟩ := Kd.R_elem HX47.out z36 (x18_1 : Int) (of_decide_eq_true (by first | (with_reducible assumption) | assumption)) (by have h_ : (x18_1 : Int) < ((x8_1.length : Int) : Int) := of_decide_eq_true (by first | (with_reducible assumption) | assumption); first | exact h_ | (have e_ := (Kd.R_reads' HO_8.out).1; omega) | simpa using h_)
               obtain rfl := k36_openM hM47
               have HP47 := Kd.R_seg HX47.out (x18_1 : Int) (of_decide_eq_true (by first | (with_reducible assumption) | assumption)) (by have h_ : (x18_1 : Int) < ((x8_1.length : Int) : Int) := of_decide_eq_true (by first | (with_reducible assumption) | assumption); first | exact h_ | (have e_ := (Kd.R_reads' HO_8.out).1; omega) | simpa using h_) (seg := [.int .i64 0, .int .i64 ((rd_T36 l0 x18_1).f1), .int .i64 a2, .int .i64 0, .int .i64 0, .int .i64 0]) (j := 0) hcl47 hcc47 (show 6 ≤ 6 from by decide) (x' := (⟨0, ((rd_T36 l0 x18_1).f1), a2, 0, 0, 0⟩ : S36)) (k36_mkM _ _ _ (⟨0, ((rd_T36 l0 x18_1).f1), a2, 0, 0, 0⟩ : S36) ) (fun _ hk => hk)
               have hx47_0 := hcc47 0 _ rfl
               (try simp only [show (k36).sz = 6 from rfl, Nat.mul_one, Nat.add_zero] at hx47_0)
               have hf47_0 := hfr47 0
               (try simp only [show (k36).sz = 6 from rfl, Nat.mul_one, Nat.add_zero] at hf47_0)
               have hx47_1 := hcc47 1 _ rfl
               (try simp only [show (k36).sz = 6 from rfl, Nat.mul_one, Nat.add_zero] at hx47_1)
               have hf47_1 := hfr47 1
               (try simp only [show (k36).sz = 6 from rfl, Nat.mul_one, Nat.add_zero] at hf47_1)
               have hx47_2 := hcc47 2 _ rfl
               (try simp only [show (k36).sz = 6 from rfl, Nat.mul_one, Nat.add_zero] at hx47_2)
               have hf47_2 := hfr47 2
               (try simp only [show (k36).sz = 6 from rfl, Nat.mul_one, Nat.add_zero] at hf47_2)
               have hx47_3 := hcc47 3 _ rfl
               (try simp only [show (k36).sz = 6 from rfl, Nat.mul_one, Nat.add_zero] at hx47_3)
               have hf47_3 := hfr47 3
               (try simp only [show (k36).sz = 6 from rfl, Nat.mul_one, Nat.add_zero] at hf47_3)
               have hx47_4 := hcc47 4 _ rfl
               (try simp only [show (k36).sz = 6 from rfl, Nat.mul_one, Nat.add_zero] at hx47_4)
               have hf47_4 := hfr47 4
               (try simp only [show (k36).sz = 6 from rfl, Nat.mul_one, Nat.add_zero] at hf47_4)
               have hx47_5 := hcc47 5 _ rfl
               (try simp only [show (k36).sz = 6 from rfl, Nat.mul_one, Nat.add_zero] at hx47_5)
               have hf47_5 := hfr47 5
               (try simp only [show (k36).sz = 6 from rfl, Nat.mul_one, Nat.add_zero] at hf47_5)
               clear hcl47 hcc47 hfr47 hM47
               go_wp2_with (first | ((with_reducible refine gate_store (t := 36) (p := 64) rfl ?_); refine store_event (t := 36) (p := 64) (v := ?vo_w48) (w1 := ((((((wc.setCell ⟨go45, (x18_1 : Int).toNat * 6, none⟩ (.int .i64 0)).setCell ⟨go45, (x18_1 : Int).toNat * 6 + 1, none⟩ (.int .i64 ((rd_T36 l0 x18_1).f1))).setCell ⟨go45, (x18_1 : Int).toNat * 6 + 2, none⟩ (.int .i64 a2)).setCell ⟨go45, (x18_1 : Int).toNat * 6 + 3, none⟩ (.int .i64 0)).setCell ⟨go45, (x18_1 : Int).toNat * 6 + 4, none⟩ (.int .i64 0)).setCell ⟨go45, (x18_1 : Int).toNat * 6 + 5, none⟩ (.int .i64 0))) ?hg ?ho ?hn ?hr ?_; (case ho => rfl); (case hg => rfl); (case hn => rfl); (case hr => first | (go_simp; done) | (go_simp; rfl)); intro w48 hw; have hg : wc.grownBy w48 (some go45) := (by rw [hw]; exact HP47.2); have hp_ : Kd.R k36 36 w48 w.heap.size (fun k_ => k_ ≠ gb232) (.slice (some ⟨go45, 0, none⟩) x8_1.length co45) y235 := (by rw [hw, Ny235.out]; exact HP47.1); clear HP47; have n0_ := Aside0.mk (hp_); have n1_ := Aside0.mk (blk_grown (g := gb232) (o := .cells #[.int .i64 ((rd_T36 l0 x18_1).f0), .int .i64 ((rd_T36 l0 x18_1).f1), .int .i64 ((rd_T36 l0 x18_1).f2), .int .i64 ((rd_T36 l0 x18_1).f3), .int .i64 ((rd_T36 l0 x18_1).f4), .int .i64 ((rd_T36 l0 x18_1).f5)] 36 (0, 0)) (by (with_reducible repeat (first | refine blk_drewN ?_ _ | refine blk_drew ?_ | refine blk_alloc ?_ _)); exact BK232.out) hg (Kd.R_away HO_8.out (fun _ hk => hk))); have n2_ := Aside0.mk ((by rw [hw]; exact below_set (below_set (below_set (below_set (below_set (below_set (HB.out) GB45.out) GB45.out) GB45.out) GB45.out) GB45.out) GB45.out : Below w.heap.size w w48)); clear HO_8; clear BK232; clear HB; have HO_8 := n0_; have BK232 := n1_; have HB := n2_; clear n0_ n1_ n2_; clear hg hw hp_))
               go_roundg kj11
               case measure => have := HK1.out; have := HJ11.out; omega
               case rel => exact ⟨(y235), (wrap64 (x18_1 + 1)), (by first | rfl | (simp; done) | (simp [*]; done)), H', ⟨by have := HK1.out; have := HJ11.out; omega⟩, ⟨by (with_reducible repeat (first | apply Kd.R_alloc | apply Kd.R_drewN | apply Kd.R_drew)); exact Kd.R_mono HO_8.out (fun _ hk => trivial)⟩, ⟨by repeat (first | (with_reducible first | exact HB.out | apply below_alloc | apply pw_below_drewN | apply below_drew1 | refine below_set ?_ GE232.out) | exact HB.out)⟩⟩
              ·rw [if_neg c44] at H
               exact absurd H (by simp)
             ·rw [if_neg c43] at H
              exact absurd H (by simp)
            ·rw [if_neg c42] at H
             have c42b0 : (((rd_T36 l0 x18_1).f2) == a1) = false := beq_eq_false_iff_ne.mpr c42
             have c42b1 : (((rd_T36 l0 x18_1).f2) != a1) = true := bne_iff_ne.mpr c42
             have H' := Aside0.mk H
             clear H
             have hcz49_0 : wc.cell? ⟨gb232, 0, none⟩ = some (.int .i64 ((rd_T36 l0 x18_1).f0)) := (blk_cell BK232.out 0).trans rfl
             have hcz49_1 : wc.cell? ⟨gb232, 1, none⟩ = some (.int .i64 ((rd_T36 l0 x18_1).f1)) := (blk_cell BK232.out 1).trans rfl
             have hcz49_2 : wc.cell? ⟨gb232, 2, none⟩ = some (.int .i64 ((rd_T36 l0 x18_1).f2)) := (blk_cell BK232.out 2).trans rfl
             have hcz49_3 : wc.cell? ⟨gb232, 3, none⟩ = some (.int .i64 ((rd_T36 l0 x18_1).f3)) := (blk_cell BK232.out 3).trans rfl
             have hcz49_4 : wc.cell? ⟨gb232, 4, none⟩ = some (.int .i64 ((rd_T36 l0 x18_1).f4)) := (blk_cell BK232.out 4).trans rfl
             have hcz49_5 : wc.cell? ⟨gb232, 5, none⟩ = some (.int .i64 ((rd_T36 l0 x18_1).f5)) := (blk_cell BK232.out 5).trans rfl
             have hfz49_0 := blk_frozen BK232.out 0
             have hfz49_1 := blk_frozen BK232.out 1
             have hfz49_2 := blk_frozen BK232.out 2
             have hfz49_3 := blk_frozen BK232.out 3
             have hfz49_4 := blk_frozen BK232.out 4
             have hfz49_5 := blk_frozen BK232.out 5
             go_wp2
             go_roundg kj11
             case measure => have := HK1.out; have := HJ11.out; omega
             case rel => exact ⟨(x8_1), (wrap64 (x18_1 + 1)), (by first | rfl | (simp; done) | (simp [*]; done)), H', ⟨by have := HK1.out; have := HJ11.out; omega⟩, ⟨by (with_reducible repeat (first | apply Kd.R_alloc | apply Kd.R_drewN | apply Kd.R_drew)); exact Kd.R_mono HO_8.out (fun _ hk => trivial)⟩, ⟨by repeat (first | (with_reducible first | exact HB.out | apply below_alloc | apply pw_below_drewN | apply below_drew1 | refine below_set ?_ GE232.out) | exact HB.out)⟩⟩
           ·rw [if_neg c41] at H
            have c41b0 : (((rd_T36 l0 x18_1).f0) == 1) = false := beq_eq_false_iff_ne.mpr c41
            have c41b1 : (((rd_T36 l0 x18_1).f0) != 1) = true := bne_iff_ne.mpr c41
            have H' := Aside0.mk H
            clear H
            have hcz50_0 : wc.cell? ⟨gb232, 0, none⟩ = some (.int .i64 ((rd_T36 l0 x18_1).f0)) := (blk_cell BK232.out 0).trans rfl
            have hcz50_1 : wc.cell? ⟨gb232, 1, none⟩ = some (.int .i64 ((rd_T36 l0 x18_1).f1)) := (blk_cell BK232.out 1).trans rfl
            have hcz50_2 : wc.cell? ⟨gb232, 2, none⟩ = some (.int .i64 ((rd_T36 l0 x18_1).f2)) := (blk_cell BK232.out 2).trans rfl
            have hcz50_3 : wc.cell? ⟨gb232, 3, none⟩ = some (.int .i64 ((rd_T36 l0 x18_1).f3)) := (blk_cell BK232.out 3).trans rfl
            have hcz50_4 : wc.cell? ⟨gb232, 4, none⟩ = some (.int .i64 ((rd_T36 l0 x18_1).f4)) := (blk_cell BK232.out 4).trans rfl
            have hcz50_5 : wc.cell? ⟨gb232, 5, none⟩ = some (.int .i64 ((rd_T36 l0 x18_1).f5)) := (blk_cell BK232.out 5).trans rfl
            have hfz50_0 := blk_frozen BK232.out 0
            have hfz50_1 := blk_frozen BK232.out 1
            have hfz50_2 := blk_frozen BK232.out 2
            have hfz50_3 := blk_frozen BK232.out 3
            have hfz50_4 := blk_frozen BK232.out 4
            have hfz50_5 := blk_frozen BK232.out 5
            go_wp2
            go_roundg kj11
            case measure => have := HK1.out; have := HJ11.out; omega
            case rel => exact ⟨(x8_1), (wrap64 (x18_1 + 1)), (by first | rfl | (simp; done) | (simp [*]; done)), H', ⟨by have := HK1.out; have := HJ11.out; omega⟩, ⟨by (with_reducible repeat (first | apply Kd.R_alloc | apply Kd.R_drewN | apply Kd.R_drew)); exact Kd.R_mono HO_8.out (fun _ hk => trivial)⟩, ⟨by repeat (first | (with_reducible first | exact HB.out | apply below_alloc | apply pw_below_drewN | apply below_drew1 | refine below_set ?_ GE232.out) | exact HB.out)⟩⟩
       ·rw [if_neg c11] at H
        exact absurd H (by simp)
      ·rw [if_neg c10] at H
       exact absurd H (by simp)
     ·rw [if_neg c9] at H
      have c9b0 : decide (x18_1 < (l0.length : Int)) = false := decide_eq_false c9
      clear c9
      simp only [Option.some.injEq, Prod.mk.injEq] at H
      obtain ⟨rfl, rfl⟩ := H
      go_wp2
      go_ret2
      exact ⟨_, by first | rfl | (simp [errW_none, errW_some] <;> rfl) | (simp [*, errW_none, errW_some] <;> rfl), by (with_reducible repeat (first | apply Kd.R_alloc | apply Kd.R_drewN | apply Kd.R_drew)); exact HO_8.out, by repeat (first | (with_reducible first | exact HB.out | apply below_alloc | apply pw_below_drewN | apply below_drew1) | exact HB.out)⟩
  ·rw [if_neg c6] at H
   exact absurd H (by simp)
 ·replace c5 := Bool.eq_false_iff.mpr c5
  subst c5
  have H1 : (some (([] : List (S36)), false)) = some (r1, r2) := by rw [if_neg (show ¬ (false = true) by decide)] at H; exact H
  clear H
  have H := H1
  clear H1
  simp only [Option.some.injEq, Prod.mk.injEq] at H
  obtain ⟨rfl, rfl⟩ := H
  go_enter Try.func18, Try.ntmps18
  go_wp2_with (first | ((with_reducible refine gate_callee (f := 15) rfl ?_); refine goesL_ (some 12) rfl rfl Try.func15 (by kernel_rfl) rfl #[.slice A0 l0.length c0] rfl (by (try simp only [List.map_toArray, List.map_cons, List.map_nil]); first | done | rfl | (simp only [List.length_drop, List.length_take]; rfl)) ?_; (with_reducible refine (impl_TermOk.calls k _ _ l0 false _ ?side1 ?side2 A4.out).mono ?_); (case side1 => repeat (first | exact HR0.out | (with_reducible refine Kd.C_alloc ?_ _) | (with_reducible refine Kd.C_drewN ?_ _) | (with_reducible refine Kd.C_drew ?_))); (case side2 => exact HC0.out); rintro e w51 ⟨rfl, hb⟩; refine ⟨_, rfl, ?_⟩; have n0_ := Aside0.mk (below_step (by repeat (first | (with_reducible first | exact HB.out | apply below_alloc | apply pw_below_drewN | apply below_drew1) | exact HB.out)) hb); clear HB; have HB := n0_; clear n0_; (try clear hb); (try clear hb2); (try clear hk); (try clear hi)))
  go_ret2
  exact ⟨_, by first | rfl | (simp [errW_none, errW_some] <;> rfl) | (simp [*, errW_none, errW_some] <;> rfl), by first | exact Kd.R_nil _ _ _ _ _ | exact Kd.N_nil _ _ _ _ _ | exact Kd.V_nil _ _ _ _ _ | exact Kd.Q_nil _ _ _ _ _ | exact Kd.S_nil _ _ _ _ _, by repeat (first | (with_reducible first | exact HB.out | apply below_alloc | apply pw_below_drewN | apply below_drew1) | exact HB.out)⟩

/-! ### laws_markNodeS: function 19 -/
def laws_markNodeS.l0 : Nat → List (S36) → Int → Int → Option (Int × (List (S36)))
 | 0, _, _, _ => none
 | k + 1, x0, x1, x5 => if x5 < (x0.length : Int) then (if 0 ≤ x5 then ((some (x0.set (x5 : Int).toNat (⟨x1, (rd_T36 x0 x5).f1, (rd_T36 x0 x5).f2, (rd_T36 x0 x5).f3, (rd_T36 x0 x5).f4, (rd_T36 x0 x5).f5⟩ : S36) : List (S36))).bind fun y236 => ((some (y236.set (x5 : Int).toNat (⟨(rd_T36 y236 x5).f0, wrap64 (x1 + 1), (rd_T36 y236 x5).f2, (rd_T36 y236 x5).f3, (rd_T36 y236 x5).f4, (rd_T36 y236 x5).f5⟩ : S36) : List (S36))).bind fun y237 => ((some (y237.set (x5 : Int).toNat (⟨(rd_T36 y237 x5).f0, (rd_T36 y237 x5).f1, wrap64 ((wrap64 (x1 + 1)) + 1), (rd_T36 y237 x5).f3, (rd_T36 y237 x5).f4, (rd_T36 y237 x5).f5⟩ : S36) : List (S36))).bind fun y238 => ((some (y238.set (x5 : Int).toNat (⟨(rd_T36 y238 x5).f0, (rd_T36 y238 x5).f1, (rd_T36 y238 x5).f2, wrap64 ((wrap64 ((wrap64 (x1 + 1)) + 1)) + 1), (rd_T36 y238 x5).f4, (rd_T36 y238 x5).f5⟩ : S36) : List (S36))).bind fun y239 => ((some (y239.set (x5 : Int).toNat (⟨(rd_T36 y239 x5).f0, (rd_T36 y239 x5).f1, (rd_T36 y239 x5).f2, (rd_T36 y239 x5).f3, wrap64 ((wrap64 ((wrap64 ((wrap64 (x1 + 1)) + 1)) + 1)) + 1), (rd_T36 y239 x5).f5⟩ : S36) : List (S36))).bind fun y240 => (laws_markNodeS.l0 k (y240.set (x5 : Int).toNat (⟨(rd_T36 y240 x5).f0, (rd_T36 y240 x5).f1, (rd_T36 y240 x5).f2, (rd_T36 y240 x5).f3, (rd_T36 y240 x5).f4, wrap64 ((wrap64 ((wrap64 ((wrap64 ((wrap64 (x1 + 1)) + 1)) + 1)) + 1)) + 1)⟩ : S36)) (wrap64 ((wrap64 ((wrap64 ((wrap64 ((wrap64 ((wrap64 (x1 + 1)) + 1)) + 1)) + 1)) + 1)) + 1)) (wrap64 (x5 + 1)))))))) else (none)) else (some (x1, x0))
def laws_markNodeS.f (k : Nat) (l0 : List (S36)) (a1 : Int) : Option (Int × (List (S36))) := laws_markNodeS.l0 k l0 a1 0
theorem laws_markNodeS.mono_l : ∀ k, (∀ y0 y1 y2, LeO (laws_markNodeS.l0 k y0 y1 y2) (laws_markNodeS.l0 (k + 1) y0 y1 y2))
 | 0 => fun _ _ _ r h => by simp [laws_markNodeS.l0] at h
 | k + 1 => by
  have ih0 := laws_markNodeS.mono_l k
  ·intro y0 y1 y2
   unfold laws_markNodeS.l0
   repeat' first
   | (with_reducible exact ih0 _ _ _)
   | (with_reducible exact LeO.refl _)
   | (with_reducible exact LeO.none _)
   | (with_reducible refine LeO.ite ?_ ?_)
   | (with_reducible refine LeO.bind ?_ (fun _ => ?_))
   | exact ih0 _ _ _
   | exact LeO.none _
   | refine LeO.ite ?_ ?_
   | refine LeO.bind ?_ (fun _ => ?_)
theorem laws_markNodeS.mono : ∀ a0 a1 k, LeO (laws_markNodeS.f k a0 a1) (laws_markNodeS.f (k + 1) a0 a1) := by
 intro a0 a1 k
 have ih0 := laws_markNodeS.mono_l k
 unfold laws_markNodeS.f
 repeat' first
   | (with_reducible exact ih0 _ _ _)
   | (with_reducible exact LeO.refl _)
   | (with_reducible exact LeO.none _)
   | (with_reducible refine LeO.ite ?_ ?_)
   | (with_reducible refine LeO.bind ?_ (fun _ => ?_))
   | exact ih0 _ _ _
   | exact LeO.none _
   | refine LeO.ite ?_ ?_
   | refine LeO.bind ?_ (fun _ => ?_)
set_option maxHeartbeats 8000000 in
set_option maxRecDepth 100000 in
theorem laws_markNodeS.calls (k : Nat) (P0_ : Nat → Prop) (u9000_ : Value) (l0 : List (S36)) (a1 : Int) (r1 : Int) (r2 : List (S36)) (w0 w : World) (hB : Below w0.heap.size w0 w) (ho0 : Kd.R k36 36 w w0.heap.size P0_ u9000_ l0) (h : laws_markNodeS.f k l0 a1 = some (r1, r2)) :
  Calls Try.prog 19 #[u9000_, .int .i64 a1] w fun e w' => e = .returned (.int .i64 r1) ∧ Kd.R k36 36 w' w0.heap.size (fun k_ => (P0_ k_ ∨ w.heap.size ≤ k_)) u9000_ r2 ∧ Below w0.heap.size w0 w' ∧ Kept w w' (fun k_ => P0_ k_) := by
 have HO0 := Aside0.mk (show Kd.R k36 36 w w0.heap.size (fun k_ => (P0_ k_ ∨ w.heap.size ≤ k_)) u9000_ l0 from Kd.R_mono ho0 (fun k_ hk => (.inl hk)))
 have HK := Aside0.mk (Kept.refl w (fun k_ => P0_ k_))
 have HW0 := Aside0.mk hB.size
 have HB := Aside0.mk hB
 clear hB
 have H : (laws_markNodeS.l0 k l0 a1 0) = some (r1, r2) := h
 clear h
 have H' := Aside0.mk H
 clear H
 go_enter Try.func19, Try.ntmps19
 go_wp2
 go_loopg [1, 5] k (fun kq v1 v5 w' => ∃ (x0_1 : List (S36)) (x1_1 : Int) (x5_1 : Int), v1 = .int .i64 x1_1 ∧ v5 = .int .i64 x5_1 ∧ Aside0 (laws_markNodeS.l0 kq x0_1 x1_1 x5_1 = some (r1, r2)) ∧ Aside0 (kq ≤ k) ∧ Aside0 (Kd.R k36 36 w' w0.heap.size (fun k_ => (P0_ k_ ∨ w.heap.size ≤ k_)) u9000_ x0_1) ∧ Aside0 (Kept w w' (fun k_ => P0_ k_)) ∧ Aside0 (Below w0.heap.size w0 w'))
 case atStart => exact ⟨(l0), (a1), (0), (by first | rfl | (simp; done) | (simp [*]; done)), (by first | rfl | (simp; done) | (simp [*]; done)), H', ⟨Nat.le_refl _⟩, ⟨by (with_reducible repeat (first | apply Kd.R_alloc | apply Kd.R_drewN | apply Kd.R_drew)); exact HO0.out⟩, ⟨by repeat (first | (with_reducible first | exact HK.out | apply Kept.alloc | apply Kept.drewN | apply Kept.drew) | exact HK.out)⟩, ⟨by repeat (first | (with_reducible first | exact HB.out | apply below_alloc | apply pw_below_drewN | apply below_drew1) | exact HB.out)⟩⟩
 case round =>
  clear H'
  try clear c1; try clear p2
  obtain ⟨x0_1, x1_1, x5_1, rfl, rfl, HA, HK1, HO_0, HK, HB⟩ := hrel
  cases gk with
  | zero => exact absurd HA.out (by simp [laws_markNodeS.l0])
  | succ k1 =>
   have H := HA.out
   clear HA
   simp only [laws_markNodeS.l0] at H
   by_cases c3 : x5_1 < (x0_1.length : Int)
   ·rw [if_pos c3] at H
    have c3b0 : decide (x5_1 < (x0_1.length : Int)) = true := decide_eq_true c3
    clear c3
    by_cases c4 : 0 ≤ x5_1
    ·rw [if_pos c4] at H
     have c4b0 : decide (0 ≤ x5_1) = true := decide_eq_true c4
     clear c4
     obtain ⟨y236, hy236⟩ : ∃ y_ : List (S36), y_ = (x0_1.set (x5_1 : Int).toNat (⟨x1_1, (rd_T36 x0_1 x5_1).f1, (rd_T36 x0_1 x5_1).f2, (rd_T36 x0_1 x5_1).f3, (rd_T36 x0_1 x5_1).f4, (rd_T36 x0_1 x5_1).f5⟩ : S36)) := ⟨_, rfl⟩
     replace H : ((some (y236.set (x5_1 : Int).toNat (⟨(rd_T36 y236 x5_1).f0, wrap64 (x1_1 + 1), (rd_T36 y236 x5_1).f2, (rd_T36 y236 x5_1).f3, (rd_T36 y236 x5_1).f4, (rd_T36 y236 x5_1).f5⟩ : S36) : List (S36))).bind fun y237 => ((some (y237.set (x5_1 : Int).toNat (⟨(rd_T36 y237 x5_1).f0, (rd_T36 y237 x5_1).f1, wrap64 ((wrap64 (x1_1 + 1)) + 1), (rd_T36 y237 x5_1).f3, (rd_T36 y237 x5_1).f4, (rd_T36 y237 x5_1).f5⟩ : S36) : List (S36))).bind fun y238 => ((some (y238.set (x5_1 : Int).toNat (⟨(rd_T36 y238 x5_1).f0, (rd_T36 y238 x5_1).f1, (rd_T36 y238 x5_1).f2, wrap64 ((wrap64 ((wrap64 (x1_1 + 1)) + 1)) + 1), (rd_T36 y238 x5_1).f4, (rd_T36 y238 x5_1).f5⟩ : S36) : List (S36))).bind fun y239 => ((some (y239.set (x5_1 : Int).toNat (⟨(rd_T36 y239 x5_1).f0, (rd_T36 y239 x5_1).f1, (rd_T36 y239 x5_1).f2, (rd_T36 y239 x5_1).f3, wrap64 ((wrap64 ((wrap64 ((wrap64 (x1_1 + 1)) + 1)) + 1)) + 1), (rd_T36 y239 x5_1).f5⟩ : S36) : List (S36))).bind fun y240 => (laws_markNodeS.l0 k1 (y240.set (x5_1 : Int).toNat (⟨(rd_T36 y240 x5_1).f0, (rd_T36 y240 x5_1).f1, (rd_T36 y240 x5_1).f2, (rd_T36 y240 x5_1).f3, (rd_T36 y240 x5_1).f4, wrap64 ((wrap64 ((wrap64 ((wrap64 ((wrap64 (x1_1 + 1)) + 1)) + 1)) + 1)) + 1)⟩ : S36)) (wrap64 ((wrap64 ((wrap64 ((wrap64 ((wrap64 ((wrap64 (x1_1 + 1)) + 1)) + 1)) + 1)) + 1)) + 1)) (wrap64 (x5_1 + 1))))))) = some (r1, r2) := by first | (rw [hy236]; with_reducible exact H) | (have H2_ := (Option.bind_some _ _).symm.trans H; rw [hy236]; with_reducible exact H2_) | (have H2_ := (Option.bind_some _ _).symm.trans H; with_reducible exact H2_) | with_reducible exact H | (rw [hy236]; exact H) | exact H
     have Ny236 := Aside0.mk hy236
     clear hy236
     obtain ⟨y237, hy237⟩ : ∃ y_ : List (S36), y_ = (y236.set (x5_1 : Int).toNat (⟨(rd_T36 y236 x5_1).f0, wrap64 (x1_1 + 1), (rd_T36 y236 x5_1).f2, (rd_T36 y236 x5_1).f3, (rd_T36 y236 x5_1).f4, (rd_T36 y236 x5_1).f5⟩ : S36)) := ⟨_, rfl⟩
     replace H : ((some (y237.set (x5_1 : Int).toNat (⟨(rd_T36 y237 x5_1).f0, (rd_T36 y237 x5_1).f1, wrap64 ((wrap64 (x1_1 + 1)) + 1), (rd_T36 y237 x5_1).f3, (rd_T36 y237 x5_1).f4, (rd_T36 y237 x5_1).f5⟩ : S36) : List (S36))).bind fun y238 => ((some (y238.set (x5_1 : Int).toNat (⟨(rd_T36 y238 x5_1).f0, (rd_T36 y238 x5_1).f1, (rd_T36 y238 x5_1).f2, wrap64 ((wrap64 ((wrap64 (x1_1 + 1)) + 1)) + 1), (rd_T36 y238 x5_1).f4, (rd_T36 y238 x5_1).f5⟩ : S36) : List (S36))).bind fun y239 => ((some (y239.set (x5_1 : Int).toNat (⟨(rd_T36 y239 x5_1).f0, (rd_T36 y239 x5_1).f1, (rd_T36 y239 x5_1).f2, (rd_T36 y239 x5_1).f3, wrap64 ((wrap64 ((wrap64 ((wrap64 (x1_1 + 1)) + 1)) + 1)) + 1), (rd_T36 y239 x5_1).f5⟩ : S36) : List (S36))).bind fun y240 => (laws_markNodeS.l0 k1 (y240.set (x5_1 : Int).toNat (⟨(rd_T36 y240 x5_1).f0, (rd_T36 y240 x5_1).f1, (rd_T36 y240 x5_1).f2, (rd_T36 y240 x5_1).f3, (rd_T36 y240 x5_1).f4, wrap64 ((wrap64 ((wrap64 ((wrap64 ((wrap64 (x1_1 + 1)) + 1)) + 1)) + 1)) + 1)⟩ : S36)) (wrap64 ((wrap64 ((wrap64 ((wrap64 ((wrap64 ((wrap64 (x1_1 + 1)) + 1)) + 1)) + 1)) + 1)) + 1)) (wrap64 (x5_1 + 1)))))) = some (r1, r2) := by first | (rw [hy237]; with_reducible exact H) | (have H2_ := (Option.bind_some _ _).symm.trans H; rw [hy237]; with_reducible exact H2_) | (have H2_ := (Option.bind_some _ _).symm.trans H; with_reducible exact H2_) | with_reducible exact H | (rw [hy237]; exact H) | exact H
     have Ny237 := Aside0.mk hy237
     clear hy237
     obtain ⟨y238, hy238⟩ : ∃ y_ : List (S36), y_ = (y237.set (x5_1 : Int).toNat (⟨(rd_T36 y237 x5_1).f0, (rd_T36 y237 x5_1).f1, wrap64 ((wrap64 (x1_1 + 1)) + 1), (rd_T36 y237 x5_1).f3, (rd_T36 y237 x5_1).f4, (rd_T36 y237 x5_1).f5⟩ : S36)) := ⟨_, rfl⟩
     replace H : ((some (y238.set (x5_1 : Int).toNat (⟨(rd_T36 y238 x5_1).f0, (rd_T36 y238 x5_1).f1, (rd_T36 y238 x5_1).f2, wrap64 ((wrap64 ((wrap64 (x1_1 + 1)) + 1)) + 1), (rd_T36 y238 x5_1).f4, (rd_T36 y238 x5_1).f5⟩ : S36) : List (S36))).bind fun y239 => ((some (y239.set (x5_1 : Int).toNat (⟨(rd_T36 y239 x5_1).f0, (rd_T36 y239 x5_1).f1, (rd_T36 y239 x5_1).f2, (rd_T36 y239 x5_1).f3, wrap64 ((wrap64 ((wrap64 ((wrap64 (x1_1 + 1)) + 1)) + 1)) + 1), (rd_T36 y239 x5_1).f5⟩ : S36) : List (S36))).bind fun y240 => (laws_markNodeS.l0 k1 (y240.set (x5_1 : Int).toNat (⟨(rd_T36 y240 x5_1).f0, (rd_T36 y240 x5_1).f1, (rd_T36 y240 x5_1).f2, (rd_T36 y240 x5_1).f3, (rd_T36 y240 x5_1).f4, wrap64 ((wrap64 ((wrap64 ((wrap64 ((wrap64 (x1_1 + 1)) + 1)) + 1)) + 1)) + 1)⟩ : S36)) (wrap64 ((wrap64 ((wrap64 ((wrap64 ((wrap64 ((wrap64 (x1_1 + 1)) + 1)) + 1)) + 1)) + 1)) + 1)) (wrap64 (x5_1 + 1))))) = some (r1, r2) := by first | (rw [hy238]; with_reducible exact H) | (have H2_ := (Option.bind_some _ _).symm.trans H; rw [hy238]; with_reducible exact H2_) | (have H2_ := (Option.bind_some _ _).symm.trans H; with_reducible exact H2_) | with_reducible exact H | (rw [hy238]; exact H) | exact H
     have Ny238 := Aside0.mk hy238
     clear hy238
     obtain ⟨y239, hy239⟩ : ∃ y_ : List (S36), y_ = (y238.set (x5_1 : Int).toNat (⟨(rd_T36 y238 x5_1).f0, (rd_T36 y238 x5_1).f1, (rd_T36 y238 x5_1).f2, wrap64 ((wrap64 ((wrap64 (x1_1 + 1)) + 1)) + 1), (rd_T36 y238 x5_1).f4, (rd_T36 y238 x5_1).f5⟩ : S36)) := ⟨_, rfl⟩
     replace H : ((some (y239.set (x5_1 : Int).toNat (⟨(rd_T36 y239 x5_1).f0, (rd_T36 y239 x5_1).f1, (rd_T36 y239 x5_1).f2, (rd_T36 y239 x5_1).f3, wrap64 ((wrap64 ((wrap64 ((wrap64 (x1_1 + 1)) + 1)) + 1)) + 1), (rd_T36 y239 x5_1).f5⟩ : S36) : List (S36))).bind fun y240 => (laws_markNodeS.l0 k1 (y240.set (x5_1 : Int).toNat (⟨(rd_T36 y240 x5_1).f0, (rd_T36 y240 x5_1).f1, (rd_T36 y240 x5_1).f2, (rd_T36 y240 x5_1).f3, (rd_T36 y240 x5_1).f4, wrap64 ((wrap64 ((wrap64 ((wrap64 ((wrap64 (x1_1 + 1)) + 1)) + 1)) + 1)) + 1)⟩ : S36)) (wrap64 ((wrap64 ((wrap64 ((wrap64 ((wrap64 ((wrap64 (x1_1 + 1)) + 1)) + 1)) + 1)) + 1)) + 1)) (wrap64 (x5_1 + 1)))) = some (r1, r2) := by first | (rw [hy239]; with_reducible exact H) | (have H2_ := (Option.bind_some _ _).symm.trans H; rw [hy239]; with_reducible exact H2_) | (have H2_ := (Option.bind_some _ _).symm.trans H; with_reducible exact H2_) | with_reducible exact H | (rw [hy239]; exact H) | exact H
     have Ny239 := Aside0.mk hy239
     clear hy239
     obtain ⟨y240, hy240⟩ : ∃ y_ : List (S36), y_ = (y239.set (x5_1 : Int).toNat (⟨(rd_T36 y239 x5_1).f0, (rd_T36 y239 x5_1).f1, (rd_T36 y239 x5_1).f2, (rd_T36 y239 x5_1).f3, wrap64 ((wrap64 ((wrap64 ((wrap64 (x1_1 + 1)) + 1)) + 1)) + 1), (rd_T36 y239 x5_1).f5⟩ : S36)) := ⟨_, rfl⟩
     replace H : (laws_markNodeS.l0 k1 (y240.set (x5_1 : Int).toNat (⟨(rd_T36 y240 x5_1).f0, (rd_T36 y240 x5_1).f1, (rd_T36 y240 x5_1).f2, (rd_T36 y240 x5_1).f3, (rd_T36 y240 x5_1).f4, wrap64 ((wrap64 ((wrap64 ((wrap64 ((wrap64 (x1_1 + 1)) + 1)) + 1)) + 1)) + 1)⟩ : S36)) (wrap64 ((wrap64 ((wrap64 ((wrap64 ((wrap64 ((wrap64 (x1_1 + 1)) + 1)) + 1)) + 1)) + 1)) + 1)) (wrap64 (x5_1 + 1))) = some (r1, r2) := by first | (rw [hy240]; with_reducible exact H) | (have H2_ := (Option.bind_some _ _).symm.trans H; rw [hy240]; with_reducible exact H2_) | (have H2_ := (Option.bind_some _ _).symm.trans H; with_reducible exact H2_) | with_reducible exact H | (rw [hy240]; exact H) | exact H
     have Ny240 := Aside0.mk hy240
     clear hy240
     obtain ⟨y241, hy241⟩ : ∃ y_ : List (S36), y_ = (y240.set (x5_1 : Int).toNat (⟨(rd_T36 y240 x5_1).f0, (rd_T36 y240 x5_1).f1, (rd_T36 y240 x5_1).f2, (rd_T36 y240 x5_1).f3, (rd_T36 y240 x5_1).f4, wrap64 ((wrap64 ((wrap64 ((wrap64 ((wrap64 (x1_1 + 1)) + 1)) + 1)) + 1)) + 1)⟩ : S36)) := ⟨_, rfl⟩
     replace H : (laws_markNodeS.l0 k1 y241 (wrap64 ((wrap64 ((wrap64 ((wrap64 ((wrap64 ((wrap64 (x1_1 + 1)) + 1)) + 1)) + 1)) + 1)) + 1)) (wrap64 (x5_1 + 1))) = some (r1, r2) := by first | (rw [hy241]; with_reducible exact H) | (have H2_ := (Option.bind_some _ _).symm.trans H; rw [hy241]; with_reducible exact H2_) | (have H2_ := (Option.bind_some _ _).symm.trans H; with_reducible exact H2_) | with_reducible exact H | (rw [hy241]; exact H) | exact H
     have Ny241 := Aside0.mk hy241
     clear hy241
     have H' := Aside0.mk H
     clear H
     obtain ⟨Ao11, co11, eo11⟩ := Kd.R_slice HO_0.out
     subst eo11
     have p5 : 0 ≤ (x5_1 : Int) := of_decide_eq_true (by first | (with_reducible assumption) | assumption)
     have q5 : (x5_1 : Int) < ((x0_1.length : Int) : Int) := of_decide_eq_true (by first | (with_reducible assumption) | assumption)
     obtain ⟨go5, co5, eo5, gb5, gl5, cl5, HG5⟩ := Kd.R_form HO_0.out (by omega)
     (first | cases eo5 | (injection eo5 with ea_ en_ ec_; (first | subst ea_ | (injection ea_ with ea_; subst ea_)); subst ec_; clear en_))
     have GB5 := Aside0.mk gb5
     have GG5 := Aside0.mk HG5
     clear gb5 gl5 HG5
     have HMgo5 := Aside0.mk (show (P0_ go5 ∨ w.heap.size ≤ go5) from (HO_0.out.1 _ rfl))
     obtain ⟨ce5, hcl5, hM5, hcc5, hfr5⟩ := Kd.R_elem HO_0.out z36 (x5_1 : Int) p5 q5
     obtain rfl := k36_openM hM5
     have hx5_0 : wr.cell? ⟨go5, (x5_1 : Int).toNat * 6, none⟩ = some (.int .i64 ((rd_T36 x0_1 x5_1).f0)) := hcc5 0 _ rfl
     have hx5_1 : wr.cell? ⟨go5, (x5_1 : Int).toNat * 6 + 1, none⟩ = some (.int .i64 ((rd_T36 x0_1 x5_1).f1)) := hcc5 1 _ rfl
     have hx5_2 : wr.cell? ⟨go5, (x5_1 : Int).toNat * 6 + 2, none⟩ = some (.int .i64 ((rd_T36 x0_1 x5_1).f2)) := hcc5 2 _ rfl
     have hx5_3 : wr.cell? ⟨go5, (x5_1 : Int).toNat * 6 + 3, none⟩ = some (.int .i64 ((rd_T36 x0_1 x5_1).f3)) := hcc5 3 _ rfl
     have hx5_4 : wr.cell? ⟨go5, (x5_1 : Int).toNat * 6 + 4, none⟩ = some (.int .i64 ((rd_T36 x0_1 x5_1).f4)) := hcc5 4 _ rfl
     have hx5_5 : wr.cell? ⟨go5, (x5_1 : Int).toNat * 6 + 5, none⟩ = some (.int .i64 ((rd_T36 x0_1 x5_1).f5)) := hcc5 5 _ rfl
     have hf5_0 : wr.frozen? ⟨go5, (x5_1 : Int).toNat * 6, none⟩ = false := hfr5 0
     have hf5_1 : wr.frozen? ⟨go5, (x5_1 : Int).toNat * 6 + 1, none⟩ = false := hfr5 1
     have hf5_2 : wr.frozen? ⟨go5, (x5_1 : Int).toNat * 6 + 2, none⟩ = false := hfr5 2
     have hf5_3 : wr.frozen? ⟨go5, (x5_1 : Int).toNat * 6 + 3, none⟩ = false := hfr5 3
     have hf5_4 : wr.frozen? ⟨go5, (x5_1 : Int).toNat * 6 + 4, none⟩ = false := hfr5 4
     have hf5_5 : wr.frozen? ⟨go5, (x5_1 : Int).toNat * 6 + 5, none⟩ = false := hfr5 5
     clear hcl5 hcc5 hfr5 hM5
     replace p5 := eq_true p5
     replace q5 := eq_true q5
     have HX12 := Aside0.mk (show Kd.R k36 36 wr w0.heap.size (fun k_ => (P0_ k_ ∨ w.heap.size ≤ k_)) (.slice (some ⟨go5, 0, none⟩) x0_1.length co11) x0_1 from (by (with_reducible repeat (first | apply Kd.R_alloc | apply Kd.R_drewN | apply Kd.R_drew)); exact HO_0.out))
     obtain ⟨ce12, hcl12, hM12, hcc12, hfr12⟩ := Kd.R_elem HX12.out z36 (x5_1 : Int) (of_decide_eq_true (by first | (with_reducible assumption) | assumption)) (by have h_ : (x5_1 : Int) < ((x0_1.length : Int) : Int) := of_decide_eq_true (by first | (with_reducible assumption) | assumption); first | exact h_ | (have e_ := (Kd.R_reads' HO_0.out).1; omega) | simpa using h_)
     obtain rfl := k36_openM hM12
     have HP12 := Kd.R_seg HX12.out (x5_1 : Int) (of_decide_eq_true (by first | (with_reducible assumption) | assumption)) (by have h_ : (x5_1 : Int) < ((x0_1.length : Int) : Int) := of_decide_eq_true (by first | (with_reducible assumption) | assumption); first | exact h_ | (have e_ := (Kd.R_reads' HO_0.out).1; omega) | simpa using h_) (seg := [.int .i64 x1_1]) (j := 0) hcl12 hcc12 (show 1 ≤ 6 from by decide) (x' := (⟨x1_1, (rd_T36 x0_1 x5_1).f1, (rd_T36 x0_1 x5_1).f2, (rd_T36 x0_1 x5_1).f3, (rd_T36 x0_1 x5_1).f4, (rd_T36 x0_1 x5_1).f5⟩ : S36)) (k36_mkM _ _ _ (⟨x1_1, (rd_T36 x0_1 x5_1).f1, (rd_T36 x0_1 x5_1).f2, (rd_T36 x0_1 x5_1).f3, (rd_T36 x0_1 x5_1).f4, (rd_T36 x0_1 x5_1).f5⟩ : S36) ) (fun _ hk => hk)
     have hx12_0 := hcc12 0 _ rfl
     (try simp only [show (k36).sz = 6 from rfl, Nat.mul_one, Nat.add_zero] at hx12_0)
     have hf12_0 := hfr12 0
     (try simp only [show (k36).sz = 6 from rfl, Nat.mul_one, Nat.add_zero] at hf12_0)
     clear hcl12 hcc12 hfr12 hM12
     go_wp2_with (first | ((with_reducible refine gate_store (t := 3) (p := 16) rfl ?_); refine store_event (t := 3) (p := 16) (v := ?vo_w13) (w1 := (wr.setCell ⟨go5, (x5_1 : Int).toNat * 6, none⟩ (.int .i64 x1_1))) ?hg ?ho ?hn ?hr ?_; (case ho => rfl); (case hg => rfl); (case hn => rfl); (case hr => first | (go_simp; done) | (go_simp; rfl)); intro w13 hw; have hg : wr.grownBy w13 (some go5) := (by rw [hw]; exact HP12.2); have hp_ : Kd.R k36 36 w13 w0.heap.size (fun k_ => (P0_ k_ ∨ w.heap.size ≤ k_)) (.slice (some ⟨go5, 0, none⟩) x0_1.length co11) y236 := (by rw [hw, Ny236.out]; exact HP12.1); clear HP12; have n0_ := Aside0.mk (hp_); have n1_ := Aside0.mk ((by rw [hw]; exact below_set (HB.out) GB5.out : Below w0.heap.size w0 w13)); have n2_ := Aside0.mk (Kept.of_grown (S := (fun k_ => P0_ k_)) hg (by repeat (first | (with_reducible first | exact HK.out | apply Kept.alloc | apply Kept.drewN | apply Kept.drew) | exact HK.out)) (fun k_ e_ => (HO_0.out.1 k_ e_))); clear HO_0; clear HB; clear HK; have HO_0 := n0_; have HB := n1_; have HK := n2_; clear n0_ n1_ n2_; clear hg hw hp_; have p6 : 0 ≤ (x5_1 : Int) := of_decide_eq_true (by first | (with_reducible assumption) | assumption); have q6 : (x5_1 : Int) < ((x0_1.length : Int) : Int) := of_decide_eq_true (by first | (with_reducible assumption) | assumption); obtain ⟨ce6, hcl6, hM6, hcc6, hfr6⟩ := Kd.R_elem HO_0.out z36 (x5_1 : Int) p6 q6; obtain rfl := k36_openM hM6; have hx6_0 : w13.cell? ⟨go5, (x5_1 : Int).toNat * 6, none⟩ = some (.int .i64 ((rd_T36 y236 x5_1).f0)) := hcc6 0 _ rfl; have hx6_1 : w13.cell? ⟨go5, (x5_1 : Int).toNat * 6 + 1, none⟩ = some (.int .i64 ((rd_T36 y236 x5_1).f1)) := hcc6 1 _ rfl; have hx6_2 : w13.cell? ⟨go5, (x5_1 : Int).toNat * 6 + 2, none⟩ = some (.int .i64 ((rd_T36 y236 x5_1).f2)) := hcc6 2 _ rfl; have hx6_3 : w13.cell? ⟨go5, (x5_1 : Int).toNat * 6 + 3, none⟩ = some (.int .i64 ((rd_T36 y236 x5_1).f3)) := hcc6 3 _ rfl; have hx6_4 : w13.cell? ⟨go5, (x5_1 : Int).toNat * 6 + 4, none⟩ = some (.int .i64 ((rd_T36 y236 x5_1).f4)) := hcc6 4 _ rfl; have hx6_5 : w13.cell? ⟨go5, (x5_1 : Int).toNat * 6 + 5, none⟩ = some (.int .i64 ((rd_T36 y236 x5_1).f5)) := hcc6 5 _ rfl; have hf6_0 : w13.frozen? ⟨go5, (x5_1 : Int).toNat * 6, none⟩ = false := hfr6 0; have hf6_1 : w13.frozen? ⟨go5, (x5_1 : Int).toNat * 6 + 1, none⟩ = false := hfr6 1; have hf6_2 : w13.frozen? ⟨go5, (x5_1 : Int).toNat * 6 + 2, none⟩ = false := hfr6 2; have hf6_3 : w13.frozen? ⟨go5, (x5_1 : Int).toNat * 6 + 3, none⟩ = false := hfr6 3; have hf6_4 : w13.frozen? ⟨go5, (x5_1 : Int).toNat * 6 + 4, none⟩ = false := hfr6 4; have hf6_5 : w13.frozen? ⟨go5, (x5_1 : Int).toNat * 6 + 5, none⟩ = false := hfr6 5; clear hcl6 hcc6 hfr6 hM6; replace p6 := eq_true p6; replace q6 := eq_true q6; have HX14 := Aside0.mk (show Kd.R k36 36 w13 w0.heap.size (fun k_ => (P0_ k_ ∨ w.heap.size ≤ k_)) (.slice (some ⟨go5, 0, none⟩) x0_1.length co11) y236 from (by (with_reducible repeat (first | apply Kd.R_alloc | apply Kd.R_drewN | apply Kd.R_drew)); exact HO_0.out)); obtain ⟨ce14, hcl14, hM14, hcc14, hfr14⟩ := Kd.R_elem HX14.out z36 (x5_1 : Int) (of_decide_eq_true (by first | (with_reducible assumption) | assumption)) (by have h_ : (x5_1 : Int) < ((x0_1.length : Int) : Int) := of_decide_eq_true (by first | (with_reducible assumption) | assumption); first | exact h_ | (have e_ := (Kd.R_reads' HO_0.out).1; omega) | simpa using h_); obtain rfl := k36_openM hM14; have HP14 := Kd.R_seg HX14.out (x5_1 : Int) (of_decide_eq_true (by first | (with_reducible assumption) | assumption)) (by have h_ : (x5_1 : Int) < ((x0_1.length : Int) : Int) := of_decide_eq_true (by first | (with_reducible assumption) | assumption); first | exact h_ | (have e_ := (Kd.R_reads' HO_0.out).1; omega) | simpa using h_) (seg := [.int .i64 (wrap64 (x1_1 + 1))]) (j := 1) hcl14 hcc14 (show 2 ≤ 6 from by decide) (x' := (⟨(rd_T36 y236 x5_1).f0, wrap64 (x1_1 + 1), (rd_T36 y236 x5_1).f2, (rd_T36 y236 x5_1).f3, (rd_T36 y236 x5_1).f4, (rd_T36 y236 x5_1).f5⟩ : S36)) (k36_mkM _ _ _ (⟨(rd_T36 y236 x5_1).f0, wrap64 (x1_1 + 1), (rd_T36 y236 x5_1).f2, (rd_T36 y236 x5_1).f3, (rd_T36 y236 x5_1).f4, (rd_T36 y236 x5_1).f5⟩ : S36) ) (fun _ hk => hk); have hx14_1 := hcc14 1 _ rfl; (try simp only [show (k36).sz = 6 from rfl, Nat.mul_one, Nat.add_zero] at hx14_1); have hf14_1 := hfr14 1; (try simp only [show (k36).sz = 6 from rfl, Nat.mul_one, Nat.add_zero] at hf14_1); clear hcl14 hcc14 hfr14 hM14) | ((with_reducible refine gate_store (t := 3) (p := 23) rfl ?_); refine store_event (t := 3) (p := 23) (v := ?vo_w15) (w1 := (w13.setCell ⟨go5, (x5_1 : Int).toNat * 6 + 1, none⟩ (.int .i64 (wrap64 (x1_1 + 1))))) ?hg ?ho ?hn ?hr ?_; (case ho => rfl); (case hg => rfl); (case hn => rfl); (case hr => first | (go_simp; done) | (go_simp; rfl)); intro w15 hw; have hg : w13.grownBy w15 (some go5) := (by rw [hw]; exact HP14.2); have hp_ : Kd.R k36 36 w15 w0.heap.size (fun k_ => (P0_ k_ ∨ w.heap.size ≤ k_)) (.slice (some ⟨go5, 0, none⟩) x0_1.length co11) y237 := (by rw [hw, Ny237.out]; exact HP14.1); clear HP14; have n0_ := Aside0.mk (hp_); have n1_ := Aside0.mk ((by rw [hw]; exact below_set (HB.out) GB5.out : Below w0.heap.size w0 w15)); have n2_ := Aside0.mk (Kept.of_grown (S := (fun k_ => P0_ k_)) hg (by repeat (first | (with_reducible first | exact HK.out | apply Kept.alloc | apply Kept.drewN | apply Kept.drew) | exact HK.out)) (fun k_ e_ => (HO_0.out.1 k_ e_))); clear HO_0; clear HB; clear HK; have HO_0 := n0_; have HB := n1_; have HK := n2_; clear n0_ n1_ n2_; clear hg hw hp_; have p7 : 0 ≤ (x5_1 : Int) := of_decide_eq_true (by first | (with_reducible assumption) | assumption); have q7 : (x5_1 : Int) < ((x0_1.length : Int) : Int) := of_decide_eq_true (by first | (with_reducible assumption) | assumption); obtain ⟨ce7, hcl7, hM7, hcc7, hfr7⟩ := Kd.R_elem HO_0.out z36 (x5_1 : Int) p7 q7; obtain rfl := k36_openM hM7; have hx7_0 : w15.cell? ⟨go5, (x5_1 : Int).toNat * 6, none⟩ = some (.int .i64 ((rd_T36 y237 x5_1).f0)) := hcc7 0 _ rfl; have hx7_1 : w15.cell? ⟨go5, (x5_1 : Int).toNat * 6 + 1, none⟩ = some (.int .i64 ((rd_T36 y237 x5_1).f1)) := hcc7 1 _ rfl; have hx7_2 : w15.cell? ⟨go5, (x5_1 : Int).toNat * 6 + 2, none⟩ = some (.int .i64 ((rd_T36 y237 x5_1).f2)) := hcc7 2 _ rfl; have hx7_3 : w15.cell? ⟨go5, (x5_1 : Int).toNat * 6 + 3, none⟩ = some (.int .i64 ((rd_T36 y237 x5_1).f3)) := hcc7 3 _ rfl; have hx7_4 : w15.cell? ⟨go5, (x5_1 : Int).toNat * 6 + 4, none⟩ = some (.int .i64 ((rd_T36 y237 x5_1).f4)) := hcc7 4 _ rfl; have hx7_5 : w15.cell? ⟨go5, (x5_1 : Int).toNat * 6 + 5, none⟩ = some (.int .i64 ((rd_T36 y237 x5_1).f5)) := hcc7 5 _ rfl; have hf7_0 : w15.frozen? ⟨go5, (x5_1 : Int).toNat * 6, none⟩ = false := hfr7 0; have hf7_1 : w15.frozen? ⟨go5, (x5_1 : Int).toNat * 6 + 1, none⟩ = false := hfr7 1; have hf7_2 : w15.frozen? ⟨go5, (x5_1 : Int).toNat * 6 + 2, none⟩ = false := hfr7 2; have hf7_3 : w15.frozen? ⟨go5, (x5_1 : Int).toNat * 6 + 3, none⟩ = false := hfr7 3; have hf7_4 : w15.frozen? ⟨go5, (x5_1 : Int).toNat * 6 + 4, none⟩ = false := hfr7 4; have hf7_5 : w15.frozen? ⟨go5, (x5_1 : Int).toNat * 6 + 5, none⟩ = false := hfr7 5; clear hcl7 hcc7 hfr7 hM7; replace p7 := eq_true p7; replace q7 := eq_true q7; have HX16 := Aside0.mk (show Kd.R k36 36 w15 w0.heap.size (fun k_ => (P0_ k_ ∨ w.heap.size ≤ k_)) (.slice (some ⟨go5, 0, none⟩) x0_1.length co11) y237 from (by (with_reducible repeat (first | apply Kd.R_alloc | apply Kd.R_drewN | apply Kd.R_drew)); exact HO_0.out)); obtain ⟨ce16, hcl16, hM16, hcc16, hfr16⟩ := Kd.R_elem HX16.out z36 (x5_1 : Int) (of_decide_eq_true (by first | (with_reducible assumption) | assumption)) (by have h_ : (x5_1 : Int) < ((x0_1.length : Int) : Int) := of_decide_eq_true (by first | (with_reducible assumption) | assumption); first | exact h_ | (have e_ := (Kd.R_reads' HO_0.out).1; omega) | simpa using h_); obtain rfl := k36_openM hM16; have HP16 := Kd.R_seg HX16.out (x5_1 : Int) (of_decide_eq_true (by first | (with_reducible assumption) | assumption)) (by have h_ : (x5_1 : Int) < ((x0_1.length : Int) : Int) := of_decide_eq_true (by first | (with_reducible assumption) | assumption); first | exact h_ | (have e_ := (Kd.R_reads' HO_0.out).1; omega) | simpa using h_) (seg := [.int .i64 (wrap64 ((wrap64 (x1_1 + 1)) + 1))]) (j := 2) hcl16 hcc16 (show 3 ≤ 6 from by decide) (x' := (⟨(rd_T36 y237 x5_1).f0, (rd_T36 y237 x5_1).f1, wrap64 ((wrap64 (x1_1 + 1)) + 1), (rd_T36 y237 x5_1).f3, (rd_T36 y237 x5_1).f4, (rd_T36 y237 x5_1).f5⟩ : S36)) (k36_mkM _ _ _ (⟨(rd_T36 y237 x5_1).f0, (rd_T36 y237 x5_1).f1, wrap64 ((wrap64 (x1_1 + 1)) + 1), (rd_T36 y237 x5_1).f3, (rd_T36 y237 x5_1).f4, (rd_T36 y237 x5_1).f5⟩ : S36) ) (fun _ hk => hk); have hx16_2 := hcc16 2 _ rfl; (try simp only [show (k36).sz = 6 from rfl, Nat.mul_one, Nat.add_zero] at hx16_2); have hf16_2 := hfr16 2; (try simp only [show (k36).sz = 6 from rfl, Nat.mul_one, Nat.add_zero] at hf16_2); clear hcl16 hcc16 hfr16 hM16) | ((with_reducible refine gate_store (t := 3) (p := 30) rfl ?_); refine store_event (t := 3) (p := 30) (v := ?vo_w17) (w1 := (w15.setCell ⟨go5, (x5_1 : Int).toNat * 6 + 2, none⟩ (.int .i64 (wrap64 ((wrap64 (x1_1 + 1)) + 1))))) ?hg ?ho ?hn ?hr ?_; (case ho => rfl); (case hg => rfl); (case hn => rfl); (case hr => first | (go_simp; done) | (go_simp; rfl)); intro w17 hw; have hg : w15.grownBy w17 (some go5) := (by rw [hw]; exact HP16.2); have hp_ : Kd.R k36 36 w17 w0.heap.size (fun k_ => (P0_ k_ ∨ w.heap.size ≤ k_)) (.slice (some ⟨go5, 0, none⟩) x0_1.length co11) y238 := (by rw [hw, Ny238.out]; exact HP16.1); clear HP16; have n0_ := Aside0.mk (hp_); have n1_ := Aside0.mk ((by rw [hw]; exact below_set (HB.out) GB5.out : Below w0.heap.size w0 w17)); have n2_ := Aside0.mk (Kept.of_grown (S := (fun k_ => P0_ k_)) hg (by repeat (first | (with_reducible first | exact HK.out | apply Kept.alloc | apply Kept.drewN | apply Kept.drew) | exact HK.out)) (fun k_ e_ => (HO_0.out.1 k_ e_))); clear HO_0; clear HB; clear HK; have HO_0 := n0_; have HB := n1_; have HK := n2_; clear n0_ n1_ n2_; clear hg hw hp_; have p8 : 0 ≤ (x5_1 : Int) := of_decide_eq_true (by first | (with_reducible assumption) | assumption); have q8 : (x5_1 : Int) < ((x0_1.length : Int) : Int) := of_decide_eq_true (by first | (with_reducible assumption) | assumption); obtain ⟨ce8, hcl8, hM8, hcc8, hfr8⟩ := Kd.R_elem HO_0.out z36 (x5_1 : Int) p8 q8; obtain rfl := k36_openM hM8; have hx8_0 : w17.cell? ⟨go5, (x5_1 : Int).toNat * 6, none⟩ = some (.int .i64 ((rd_T36 y238 x5_1).f0)) := hcc8 0 _ rfl; have hx8_1 : w17.cell? ⟨go5, (x5_1 : Int).toNat * 6 + 1, none⟩ = some (.int .i64 ((rd_T36 y238 x5_1).f1)) := hcc8 1 _ rfl; have hx8_2 : w17.cell? ⟨go5, (x5_1 : Int).toNat * 6 + 2, none⟩ = some (.int .i64 ((rd_T36 y238 x5_1).f2)) := hcc8 2 _ rfl; have hx8_3 : w17.cell? ⟨go5, (x5_1 : Int).toNat * 6 + 3, none⟩ = some (.int .i64 ((rd_T36 y238 x5_1).f3)) := hcc8 3 _ rfl; have hx8_4 : w17.cell? ⟨go5, (x5_1 : Int).toNat * 6 + 4, none⟩ = some (.int .i64 ((rd_T36 y238 x5_1).f4)) := hcc8 4 _ rfl; have hx8_5 : w17.cell? ⟨go5, (x5_1 : Int).toNat * 6 + 5, none⟩ = some (.int .i64 ((rd_T36 y238 x5_1).f5)) := hcc8 5 _ rfl; have hf8_0 : w17.frozen? ⟨go5, (x5_1 : Int).toNat * 6, none⟩ = false := hfr8 0; have hf8_1 : w17.frozen? ⟨go5, (x5_1 : Int).toNat * 6 + 1, none⟩ = false := hfr8 1; have hf8_2 : w17.frozen? ⟨go5, (x5_1 : Int).toNat * 6 + 2, none⟩ = false := hfr8 2; have hf8_3 : w17.frozen? ⟨go5, (x5_1 : Int).toNat * 6 + 3, none⟩ = false := hfr8 3; have hf8_4 : w17.frozen? ⟨go5, (x5_1 : Int).toNat * 6 + 4, none⟩ = false := hfr8 4; have hf8_5 : w17.frozen? ⟨go5, (x5_1 : Int).toNat * 6 + 5, none⟩ = false := hfr8 5; clear hcl8 hcc8 hfr8 hM8; replace p8 := eq_true p8; replace q8 := eq_true q8; have HX18 := Aside0.mk (show Kd.R k36 36 w17 w0.heap.size (fun k_ => (P0_ k_ ∨ w.heap.size ≤ k_)) (.slice (some ⟨go5, 0, none⟩) x0_1.length co11) y238 from (by (with_reducible repeat (first | apply Kd.R_alloc | apply Kd.R_drewN | apply Kd.R_drew)); exact HO_0.out)); obtain ⟨ce18, hcl18, hM18, hcc18, hfr18⟩ := Kd.R_elem HX18.out z36 (x5_1 : Int) (of_decide_eq_true (by first | (with_reducible assumption) | assumption)) (by have h_ : (x5_1 : Int) < ((x0_1.length : Int) : Int) := of_decide_eq_true (by first | (with_reducible assumption) | assumption); first | exact h_ | (have e_ := (Kd.R_reads' HO_0.out).1; omega) | simpa using h_); obtain rfl := k36_openM hM18; have HP18 := Kd.R_seg HX18.out (x5_1 : Int) (of_decide_eq_true (by first | (with_reducible assumption) | assumption)) (by have h_ : (x5_1 : Int) < ((x0_1.length : Int) : Int) := of_decide_eq_true (by first | (with_reducible assumption) | assumption); first | exact h_ | (have e_ := (Kd.R_reads' HO_0.out).1; omega) | simpa using h_) (seg := [.int .i64 (wrap64 ((wrap64 ((wrap64 (x1_1 + 1)) + 1)) + 1))]) (j := 3) hcl18 hcc18 (show 4 ≤ 6 from by decide) (x' := (⟨(rd_T36 y238 x5_1).f0, (rd_T36 y238 x5_1).f1, (rd_T36 y238 x5_1).f2, wrap64 ((wrap64 ((wrap64 (x1_1 + 1)) + 1)) + 1), (rd_T36 y238 x5_1).f4, (rd_T36 y238 x5_1).f5⟩ : S36)) (k36_mkM _ _ _ (⟨(rd_T36 y238 x5_1).f0, (rd_T36 y238 x5_1).f1, (rd_T36 y238 x5_1).f2, wrap64 ((wrap64 ((wrap64 (x1_1 + 1)) + 1)) + 1), (rd_T36 y238 x5_1).f4, (rd_T36 y238 x5_1).f5⟩ : S36) ) (fun _ hk => hk); have hx18_3 := hcc18 3 _ rfl; (try simp only [show (k36).sz = 6 from rfl, Nat.mul_one, Nat.add_zero] at hx18_3); have hf18_3 := hfr18 3; (try simp only [show (k36).sz = 6 from rfl, Nat.mul_one, Nat.add_zero] at hf18_3); clear hcl18 hcc18 hfr18 hM18) | ((with_reducible refine gate_store (t := 3) (p := 37) rfl ?_); refine store_event (t := 3) (p := 37) (v := ?vo_w19) (w1 := (w17.setCell ⟨go5, (x5_1 : Int).toNat * 6 + 3, none⟩ (.int .i64 (wrap64 ((wrap64 ((wrap64 (x1_1 + 1)) + 1)) + 1))))) ?hg ?ho ?hn ?hr ?_; (case ho => rfl); (case hg => rfl); (case hn => rfl); (case hr => first | (go_simp; done) | (go_simp; rfl)); intro w19 hw; have hg : w17.grownBy w19 (some go5) := (by rw [hw]; exact HP18.2); have hp_ : Kd.R k36 36 w19 w0.heap.size (fun k_ => (P0_ k_ ∨ w.heap.size ≤ k_)) (.slice (some ⟨go5, 0, none⟩) x0_1.length co11) y239 := (by rw [hw, Ny239.out]; exact HP18.1); clear HP18; have n0_ := Aside0.mk (hp_); have n1_ := Aside0.mk ((by rw [hw]; exact below_set (HB.out) GB5.out : Below w0.heap.size w0 w19)); have n2_ := Aside0.mk (Kept.of_grown (S := (fun k_ => P0_ k_)) hg (by repeat (first | (with_reducible first | exact HK.out | apply Kept.alloc | apply Kept.drewN | apply Kept.drew) | exact HK.out)) (fun k_ e_ => (HO_0.out.1 k_ e_))); clear HO_0; clear HB; clear HK; have HO_0 := n0_; have HB := n1_; have HK := n2_; clear n0_ n1_ n2_; clear hg hw hp_; have p9 : 0 ≤ (x5_1 : Int) := of_decide_eq_true (by first | (with_reducible assumption) | assumption); have q9 : (x5_1 : Int) < ((x0_1.length : Int) : Int) := of_decide_eq_true (by first | (with_reducible assumption) | assumption); obtain ⟨ce9, hcl9, hM9, hcc9, hfr9⟩ := Kd.R_elem HO_0.out z36 (x5_1 : Int) p9 q9; obtain rfl := k36_openM hM9; have hx9_0 : w19.cell? ⟨go5, (x5_1 : Int).toNat * 6, none⟩ = some (.int .i64 ((rd_T36 y239 x5_1).f0)) := hcc9 0 _ rfl; have hx9_1 : w19.cell? ⟨go5, (x5_1 : Int).toNat * 6 + 1, none⟩ = some (.int .i64 ((rd_T36 y239 x5_1).f1)) := hcc9 1 _ rfl; have hx9_2 : w19.cell? ⟨go5, (x5_1 : Int).toNat * 6 + 2, none⟩ = some (.int .i64 ((rd_T36 y239 x5_1).f2)) := hcc9 2 _ rfl; have hx9_3 : w19.cell? ⟨go5, (x5_1 : Int).toNat * 6 + 3, none⟩ = some (.int .i64 ((rd_T36 y239 x5_1).f3)) := hcc9 3 _ rfl; have hx9_4 : w19.cell? ⟨go5, (x5_1 : Int).toNat * 6 + 4, none⟩ = some (.int .i64 ((rd_T36 y239 x5_1).f4)) := hcc9 4 _ rfl; have hx9_5 : w19.cell? ⟨go5, (x5_1 : Int).toNat * 6 + 5, none⟩ = some (.int .i64 ((rd_T36 y239 x5_1).f5)) := hcc9 5 _ rfl; have hf9_0 : w19.frozen? ⟨go5, (x5_1 : Int).toNat * 6, none⟩ = false := hfr9 0; have hf9_1 : w19.frozen? ⟨go5, (x5_1 : Int).toNat * 6 + 1, none⟩ = false := hfr9 1; have hf9_2 : w19.frozen? ⟨go5, (x5_1 : Int).toNat * 6 + 2, none⟩ = false := hfr9 2; have hf9_3 : w19.frozen? ⟨go5, (x5_1 : Int).toNat * 6 + 3, none⟩ = false := hfr9 3; have hf9_4 : w19.frozen? ⟨go5, (x5_1 : Int).toNat * 6 + 4, none⟩ = false := hfr9 4; have hf9_5 : w19.frozen? ⟨go5, (x5_1 : Int).toNat * 6 + 5, none⟩ = false := hfr9 5; clear hcl9 hcc9 hfr9 hM9; replace p9 := eq_true p9; replace q9 := eq_true q9; have HX20 := Aside0.mk (show Kd.R k36 36 w19 w0.heap.size (fun k_ => (P0_ k_ ∨ w.heap.size ≤ k_)) (.slice (some ⟨go5, 0, none⟩) x0_1.length co11) y239 from (by (with_reducible repeat (first | apply Kd.R_alloc | apply Kd.R_drewN | apply Kd.R_drew)); exact HO_0.out)); obtain ⟨ce20, hcl20, hM20, hcc20, hfr20⟩ := Kd.R_elem HX20.out z36 (x5_1 : Int) (of_decide_eq_true (by first | (with_reducible assumption) | assumption)) (by have h_ : (x5_1 : Int) < ((x0_1.length : Int) : Int) := of_decide_eq_true (by first | (with_reducible assumption) | assumption); first | exact h_ | (have e_ := (Kd.R_reads' HO_0.out).1; omega) | simpa using h_); obtain rfl := k36_openM hM20; have HP20 := Kd.R_seg HX20.out (x5_1 : Int) (of_decide_eq_true (by first | (with_reducible assumption) | assumption)) (by have h_ : (x5_1 : Int) < ((x0_1.length : Int) : Int) := of_decide_eq_true (by first | (with_reducible assumption) | assumption); first | exact h_ | (have e_ := (Kd.R_reads' HO_0.out).1; omega) | simpa using h_) (seg := [.int .i64 (wrap64 ((wrap64 ((wrap64 ((wrap64 (x1_1 + 1)) + 1)) + 1)) + 1))]) (j := 4) hcl20 hcc20 (show 5 ≤ 6 from by decide) (x' := (⟨(rd_T36 y239 x5_1).f0, (rd_T36 y239 x5_1).f1, (rd_T36 y239 x5_1).f2, (rd_T36 y239 x5_1).f3, wrap64 ((wrap64 ((wrap64 ((wrap64 (x1_1 + 1)) + 1)) + 1)) + 1), (rd_T36 y239 x5_1).f5⟩ : S36)) (k36_mkM _ _ _ (⟨(rd_T36 y239 x5_1).f0, (rd_T36 y239 x5_1).f1, (rd_T36 y239 x5_1).f2, (rd_T36 y239 x5_1).f3, wrap64 ((wrap64 ((wrap64 ((wrap64 (x1_1 + 1)) + 1)) + 1)) + 1), (rd_T36 y239 x5_1).f5⟩ : S36) ) (fun _ hk => hk); have hx20_4 := hcc20 4 _ rfl; (try simp only [show (k36).sz = 6 from rfl, Nat.mul_one, Nat.add_zero] at hx20_4); have hf20_4 := hfr20 4; (try simp only [show (k36).sz = 6 from rfl, Nat.mul_one, Nat.add_zero] at hf20_4); clear hcl20 hcc20 hfr20 hM20) | ((with_reducible refine gate_store (t := 3) (p := 44) rfl ?_); refine store_event (t := 3) (p := 44) (v := ?vo_w21) (w1 := (w19.setCell ⟨go5, (x5_1 : Int).toNat * 6 + 4, none⟩ (.int .i64 (wrap64 ((wrap64 ((wrap64 ((wrap64 (x1_1 + 1)) + 1)) + 1)) + 1))))) ?hg ?ho ?hn ?hr ?_; (case ho => rfl); (case hg => rfl); (case hn => rfl); (case hr => first | (go_simp; done) | (go_simp; rfl)); intro w21 hw; have hg : w19.grownBy w21 (some go5) := (by rw [hw]; exact HP20.2); have hp_ : Kd.R k36 36 w21 w0.heap.size (fun k_ => (P0_ k_ ∨ w.heap.size ≤ k_)) (.slice (some ⟨go5, 0, none⟩) x0_1.length co11) y240 := (by rw [hw, Ny240.out]; exact HP20.1); clear HP20; have n0_ := Aside0.mk (hp_); have n1_ := Aside0.mk ((by rw [hw]; exact below_set (HB.out) GB5.out : Below w0.heap.size w0 w21)); have n2_ := Aside0.mk (Kept.of_grown (S := (fun k_ => P0_ k_)) hg (by repeat (first | (with_reducible first | exact HK.out | apply Kept.alloc | apply Kept.drewN | apply Kept.drew) | exact HK.out)) (fun k_ e_ => (HO_0.out.1 k_ e_))); clear HO_0; clear HB; clear HK; have HO_0 := n0_; have HB := n1_; have HK := n2_; clear n0_ n1_ n2_; clear hg hw hp_; have p10 : 0 ≤ (x5_1 : Int) := of_decide_eq_true (by first | (with_reducible assumption) | assumption); have q10 : (x5_1 : Int) < ((x0_1.length : Int) : Int) := of_decide_eq_true (by first | (with_reducible assumption) | assumption); obtain ⟨ce10, hcl10, hM10, hcc10, hfr10⟩ := Kd.R_elem HO_0.out z36 (x5_1 : Int) p10 q10; obtain rfl := k36_openM hM10; have hx10_0 : w21.cell? ⟨go5, (x5_1 : Int).toNat * 6, none⟩ = some (.int .i64 ((rd_T36 y240 x5_1).f0)) := hcc10 0 _ rfl; have hx10_1 : w21.cell? ⟨go5, (x5_1 : Int).toNat * 6 + 1, none⟩ = some (.int .i64 ((rd_T36 y240 x5_1).f1)) := hcc10 1 _ rfl; have hx10_2 : w21.cell? ⟨go5, (x5_1 : Int).toNat * 6 + 2, none⟩ = some (.int .i64 ((rd_T36 y240 x5_1).f2)) := hcc10 2 _ rfl; have hx10_3 : w21.cell? ⟨go5, (x5_1 : Int).toNat * 6 + 3, none⟩ = some (.int .i64 ((rd_T36 y240 x5_1).f3)) := hcc10 3 _ rfl; have hx10_4 : w21.cell? ⟨go5, (x5_1 : Int).toNat * 6 + 4, none⟩ = some (.int .i64 ((rd_T36 y240 x5_1).f4)) := hcc10 4 _ rfl; have hx10_5 : w21.cell? ⟨go5, (x5_1 : Int).toNat * 6 + 5, none⟩ = some (.int .i64 ((rd_T36 y240 x5_1).f5)) := hcc10 5 _ rfl; have hf10_0 : w21.frozen? ⟨go5, (x5_1 : Int).toNat * 6, none⟩ = false := hfr10 0; have hf10_1 : w21.frozen? ⟨go5, (x5_1 : Int).toNat * 6 + 1, none⟩ = false := hfr10 1; have hf10_2 : w21.frozen? ⟨go5, (x5_1 : Int).toNat * 6 + 2, none⟩ = false := hfr10 2; have hf10_3 : w21.frozen? ⟨go5, (x5_1 : Int).toNat * 6 + 3, none⟩ = false := hfr10 3; have hf10_4 : w21.frozen? ⟨go5, (x5_1 : Int).toNat * 6 + 4, none⟩ = false := hfr10 4; have hf10_5 : w21.frozen? ⟨go5, (x5_1 : Int).toNat * 6 + 5, none⟩ = false := hfr10 5; clear hcl10 hcc10 hfr10 hM10; replace p10 := eq_true p10; replace q10 := eq_true q10; have HX22 := Aside0.mk (show Kd.R k36 36 w21 w0.heap.size (fun k_ => (P0_ k_ ∨ w.heap.size ≤ k_)) (.slice (some ⟨go5, 0, none⟩) x0_1.length co11) y240 from (by (with_reducible repeat (first | apply Kd.R_alloc | apply Kd.R_drewN | apply Kd.R_drew)); exact HO_0.out)); obtain ⟨ce22, hcl22, hM22, hcc22, hfr22⟩ := Kd.R_elem HX22.out z36 (x5_1 : Int) (of_decide_eq_true (by first | (with_reducible assumption) | assumption)) (by have h_ : (x5_1 : Int) < ((x0_1.length : Int) : Int) := of_decide_eq_true (by first | (with_reducible assumption) | assumption); first | exact h_ | (have e_ := (Kd.R_reads' HO_0.out).1; omega) | simpa using h_); obtain rfl := k36_openM hM22; have HP22 := Kd.R_seg HX22.out (x5_1 : Int) (of_decide_eq_true (by first | (with_reducible assumption) | assumption)) (by have h_ : (x5_1 : Int) < ((x0_1.length : Int) : Int) := of_decide_eq_true (by first | (with_reducible assumption) | assumption); first | exact h_ | (have e_ := (Kd.R_reads' HO_0.out).1; omega) | simpa using h_) (seg := [.int .i64 (wrap64 ((wrap64 ((wrap64 ((wrap64 ((wrap64 (x1_1 + 1)) + 1)) + 1)) + 1)) + 1))]) (j := 5) hcl22 hcc22 (show 6 ≤ 6 from by decide) (x' := (⟨(rd_T36 y240 x5_1).f0, (rd_T36 y240 x5_1).f1, (rd_T36 y240 x5_1).f2, (rd_T36 y240 x5_1).f3, (rd_T36 y240 x5_1).f4, wrap64 ((wrap64 ((wrap64 ((wrap64 ((wrap64 (x1_1 + 1)) + 1)) + 1)) + 1)) + 1)⟩ : S36)) (k36_mkM _ _ _ (⟨(rd_T36 y240 x5_1).f0, (rd_T36 y240 x5_1).f1, (rd_T36 y240 x5_1).f2, (rd_T36 y240 x5_1).f3, (rd_T36 y240 x5_1).f4, wrap64 ((wrap64 ((wrap64 ((wrap64 ((wrap64 (x1_1 + 1)) + 1)) + 1)) + 1)) + 1)⟩ : S36) ) (fun _ hk => hk); have hx22_5 := hcc22 5 _ rfl; (try simp only [show (k36).sz = 6 from rfl, Nat.mul_one, Nat.add_zero] at hx22_5); have hf22_5 := hfr22 5; (try simp only [show (k36).sz = 6 from rfl, Nat.mul_one, Nat.add_zero] at hf22_5); clear hcl22 hcc22 hfr22 hM22) | ((with_reducible refine gate_store (t := 3) (p := 51) rfl ?_); refine store_event (t := 3) (p := 51) (v := ?vo_w23) (w1 := (w21.setCell ⟨go5, (x5_1 : Int).toNat * 6 + 5, none⟩ (.int .i64 (wrap64 ((wrap64 ((wrap64 ((wrap64 ((wrap64 (x1_1 + 1)) + 1)) + 1)) + 1)) + 1))))) ?hg ?ho ?hn ?hr ?_; (case ho => rfl); (case hg => rfl); (case hn => rfl); (case hr => first | (go_simp; done) | (go_simp; rfl)); intro w23 hw; have hg : w21.grownBy w23 (some go5) := (by rw [hw]; exact HP22.2); have hp_ : Kd.R k36 36 w23 w0.heap.size (fun k_ => (P0_ k_ ∨ w.heap.size ≤ k_)) (.slice (some ⟨go5, 0, none⟩) x0_1.length co11) y241 := (by rw [hw, Ny241.out]; exact HP22.1); clear HP22; have n0_ := Aside0.mk (hp_); have n1_ := Aside0.mk ((by rw [hw]; exact below_set (HB.out) GB5.out : Below w0.heap.size w0 w23)); have n2_ := Aside0.mk (Kept.of_grown (S := (fun k_ => P0_ k_)) hg (by repeat (first | (with_reducible first | exact HK.out | apply Kept.alloc | apply Kept.drewN | apply Kept.drew) | exact HK.out)) (fun k_ e_ => (HO_0.out.1 k_ e_))); clear HO_0; clear HB; clear HK; have HO_0 := n0_; have HB := n1_; have HK := n2_; clear n0_ n1_ n2_; clear hg hw hp_))
     go_roundg k1
     case measure => have := HK1.out; omega
     case rel => exact ⟨(y241), (wrap64 ((wrap64 ((wrap64 ((wrap64 ((wrap64 ((wrap64 (x1_1 + 1)) + 1)) + 1)) + 1)) + 1)) + 1)), (wrap64 (x5_1 + 1)), (by first | rfl | (simp; done) | (simp [*]; done)), (by first | rfl | (simp; done) | (simp [*]; done)), H', ⟨by have := HK1.out; omega⟩, ⟨by (with_reducible repeat (first | apply Kd.R_alloc | apply Kd.R_drewN | apply Kd.R_drew)); exact HO_0.out⟩, ⟨by repeat (first | (with_reducible first | exact HK.out | apply Kept.alloc | apply Kept.drewN | apply Kept.drew) | exact HK.out)⟩, ⟨by repeat (first | (with_reducible first | exact HB.out | apply below_alloc | apply pw_below_drewN | apply below_drew1) | exact HB.out)⟩⟩
    ·rw [if_neg c4] at H
     exact absurd H (by simp)
   ·rw [if_neg c3] at H
    have c3b0 : decide (x5_1 < (x0_1.length : Int)) = false := decide_eq_false c3
    clear c3
    simp only [Option.some.injEq, Prod.mk.injEq] at H
    obtain ⟨rfl, rfl⟩ := H
    obtain ⟨Ao24, co24, eo24⟩ := Kd.R_slice HO_0.out
    subst eo24
    go_wp2
    go_ret
    exact ⟨by first | rfl | (simp [errW_none, errW_some] <;> rfl) | (simp [*, errW_none, errW_some] <;> rfl), by (with_reducible repeat (first | apply Kd.R_alloc | apply Kd.R_drewN | apply Kd.R_drew)); exact HO_0.out, by repeat (first | (with_reducible first | exact HB.out | apply below_alloc | apply pw_below_drewN | apply below_drew1) | exact HB.out), by repeat (first | (with_reducible first | exact HK.out | apply Kept.alloc | apply Kept.drewN | apply Kept.drew) | exact HK.out)⟩

end Go.Proofs.Ytdebihfmceclkaa.PFnExactReplace
