/- Written by a program of this session over the loaded program: Go functions as plain Lean functions, and that a call comes to what they say. -/
import Derived.Test.YtdebihfmceclkaaPFnExactApplyx0
import Derived.Test.YtdebihfmceclkaaPFnExactApplyx1
import Derived.Test.YtdebihfmceclkaaPFnExactApplyx2
namespace Go.Proofs.Ytdebihfmceclkaa.PFnExactApply
open Go.RowKit Go.Proofs.YtdebihfmceclkaaW.PrintWords Go.Proofs.YtdebihfmceclkaaW.PrintLast Go.Proofs.YtdebihfmceclkaaW.PrintMore
attribute [local go_sem] max2_int min2_int max_two min_two max_three min_three max_four min_four   -- for this text's walks alone
set_option linter.unusedVariables false
set_option linter.unusedSimpArgs false

/-! ### spec_Apply: function 21 -/
def spec_Apply.j0 : Nat → Int → Int → Int → Int → Bool → Int → Int → Int → Int → Int → Int → Option (Int)
  | 0, _, _, _, _, _, _, _, _, _, _, _ => none
  | k + 1, x1, x2, x3, x4, x34, x139000, x139001, x139002, x139003, x139004, x139005 => if x34 = true then (some 0) else (if x139000 = 0 then (some x139002) else (if x139000 = 2 then ((spec_Flip.f k x139001 x2).bind fun t144 => (some t144)) else (if x139000 = 3 then (some (Go.bits .and .i64 x2 x3)) else (if x139000 = 4 then (some (Go.bits .or .i64 x2 x3)) else (if x139000 = 5 then (some (Go.bits .xor .i64 x2 x3)) else (if x139000 = 6 then ((spec_Add.f k x139001 x2 x3).bind fun t145 => (some t145)) else (if x139000 = 7 then ((spec_Sub.f k x139001 x2 x3).bind fun t146 => (some t146)) else (if x139000 = 8 then ((spec_Mul.f k x139001 x2 x3).bind fun t147 => (some t147)) else (if x139000 = 9 then ((spec_Div.f k x139001 x2 x3).bind fun t148 => (some t148)) else (if x139000 = 10 then ((spec_Rem.f k x139001 x2 x3).bind fun t149 => (some t149)) else (if x139000 = 11 then ((spec_Shl.f k x139001 x2 x3).bind fun t150 => (some t150)) else (if x139000 = 12 then ((spec_Shr.f k x139001 x2 x3).bind fun t151 => (some t151)) else (if x139000 = 13 then ((spec_l01Bool.f (x2 == x3)).bind fun t152 => (some t152)) else (if x139000 = 14 then ((spec_Less.f k x1 x2 x3).bind fun t153 => (some t153)) else (if x139000 = 15 then ((spec_LessSigned.f k x1 x2 x3).bind fun t154 => (some t154)) else (if x139000 = 16 then (if x139001 < x1 then (some x3) else ((spec_l01Pow2.f k (wrap64 (x139001 - x1))).bind fun t155 => (some (wrap64 ((wrap64 (x2 * t155)) + x3))))) else (if x139000 = 17 then ((spec_Slice.f k x1 x2 x139002 x139001).bind fun t156 => (some t156)) else (if x139000 = 18 then (if x2 = 1 then (some x3) else (some x4)) else (some 0)))))))))))))))))))
def spec_Apply.f (k : Nat) (a0_0 : Int) (a0_1 : Int) (a0_2 : Int) (a0_3 : Int) (a0_4 : Int) (a0_5 : Int) (a1 : Int) (a2 : Int) (a3 : Int) (a4 : Int) : Option (Int) := (spec_l01In.f a0_1 1 8).bind fun t139 => (if t139 = true then ((spec_l01In.f a1 1 8).bind fun t140 => (if t140 = true then ((spec_l01In.f a2 0 255).bind fun t141 => (if t141 = true then ((spec_l01In.f a3 0 255).bind fun t142 => (if t142 = true then ((spec_l01In.f a4 0 255).bind fun t143 => (spec_Apply.j0 k a1 a2 a3 a4 (!t143) a0_0 a0_1 a0_2 a0_3 a0_4 a0_5)) else (spec_Apply.j0 k a1 a2 a3 a4 true a0_0 a0_1 a0_2 a0_3 a0_4 a0_5))) else (spec_Apply.j0 k a1 a2 a3 a4 true a0_0 a0_1 a0_2 a0_3 a0_4 a0_5))) else (spec_Apply.j0 k a1 a2 a3 a4 true a0_0 a0_1 a0_2 a0_3 a0_4 a0_5))) else (spec_Apply.j0 k a1 a2 a3 a4 true a0_0 a0_1 a0_2 a0_3 a0_4 a0_5))
theorem spec_Apply.mono_l : ∀ k, (∀ y0 y1 y2 y3 y4 y5 y6 y7 y8 y9 y10, LeO (spec_Apply.j0 k y0 y1 y2 y3 y4 y5 y6 y7 y8 y9 y10) (spec_Apply.j0 (k + 1) y0 y1 y2 y3 y4 y5 y6 y7 y8 y9 y10))
  | 0 => fun _ _ _ _ _ _ _ _ _ _ _ r h => by simp [spec_Apply.j0] at h
  | k + 1 => by
    have ih0 := spec_Apply.mono_l k
    · intro y0 y1 y2 y3 y4 y5 y6 y7 y8 y9 y10
      unfold spec_Apply.j0
      repeat' first
      | (with_reducible exact ih0 _ _ _ _ _ _ _ _ _ _ _)
      | (with_reducible exact spec_Add.mono _ _ _ _)
      | (with_reducible exact spec_Div.mono _ _ _ _)
      | (with_reducible exact spec_Flip.mono _ _ _)
      | (with_reducible exact spec_Less.mono _ _ _ _)
      | (with_reducible exact spec_LessSigned.mono _ _ _ _)
      | (with_reducible exact spec_Mul.mono _ _ _ _)
      | (with_reducible exact spec_Rem.mono _ _ _ _)
      | (with_reducible exact spec_Shl.mono _ _ _ _)
      | (with_reducible exact spec_Shr.mono _ _ _ _)
      | (with_reducible exact spec_Slice.mono _ _ _ _ _)
      | (with_reducible exact spec_Sub.mono _ _ _ _)
      | (with_reducible exact spec_l01Pow2.mono _ _)
      | (with_reducible exact LeO.refl _)
      | (with_reducible exact LeO.none _)
      | (with_reducible refine LeO.ite ?_ ?_)
      | (with_reducible refine LeO.bind ?_ (fun _ => ?_))
      | exact ih0 _ _ _ _ _ _ _ _ _ _ _
      | exact spec_Add.mono _ _ _ _
      | exact spec_Div.mono _ _ _ _
      | exact spec_Flip.mono _ _ _
      | exact spec_Less.mono _ _ _ _
      | exact spec_LessSigned.mono _ _ _ _
      | exact spec_Mul.mono _ _ _ _
      | exact spec_Rem.mono _ _ _ _
      | exact spec_Shl.mono _ _ _ _
      | exact spec_Shr.mono _ _ _ _
      | exact spec_Slice.mono _ _ _ _ _
      | exact spec_Sub.mono _ _ _ _
      | exact spec_l01Pow2.mono _ _
      | exact LeO.none _
      | refine LeO.ite ?_ ?_
      | refine LeO.bind ?_ (fun _ => ?_)
theorem spec_Apply.mono : ∀ a0 a1 a2 a3 a4 a5 a6 a7 a8 a9 k, LeO (spec_Apply.f k a0 a1 a2 a3 a4 a5 a6 a7 a8 a9) (spec_Apply.f (k + 1) a0 a1 a2 a3 a4 a5 a6 a7 a8 a9) := by
  intro a0 a1 a2 a3 a4 a5 a6 a7 a8 a9 k
  have ih0 := spec_Apply.mono_l k
  unfold spec_Apply.f
  repeat' first
      | (with_reducible exact ih0 _ _ _ _ _ _ _ _ _ _ _)
      | (with_reducible exact spec_Add.mono _ _ _ _)
      | (with_reducible exact spec_Div.mono _ _ _ _)
      | (with_reducible exact spec_Flip.mono _ _ _)
      | (with_reducible exact spec_Less.mono _ _ _ _)
      | (with_reducible exact spec_LessSigned.mono _ _ _ _)
      | (with_reducible exact spec_Mul.mono _ _ _ _)
      | (with_reducible exact spec_Rem.mono _ _ _ _)
      | (with_reducible exact spec_Shl.mono _ _ _ _)
      | (with_reducible exact spec_Shr.mono _ _ _ _)
      | (with_reducible exact spec_Slice.mono _ _ _ _ _)
      | (with_reducible exact spec_Sub.mono _ _ _ _)
      | (with_reducible exact spec_l01Pow2.mono _ _)
      | (with_reducible exact LeO.refl _)
      | (with_reducible exact LeO.none _)
      | (with_reducible refine LeO.ite ?_ ?_)
      | (with_reducible refine LeO.bind ?_ (fun _ => ?_))
      | exact ih0 _ _ _ _ _ _ _ _ _ _ _
      | exact spec_Add.mono _ _ _ _
      | exact spec_Div.mono _ _ _ _
      | exact spec_Flip.mono _ _ _
      | exact spec_Less.mono _ _ _ _
      | exact spec_LessSigned.mono _ _ _ _
      | exact spec_Mul.mono _ _ _ _
      | exact spec_Rem.mono _ _ _ _
      | exact spec_Shl.mono _ _ _ _
      | exact spec_Shr.mono _ _ _ _
      | exact spec_Slice.mono _ _ _ _ _
      | exact spec_Sub.mono _ _ _ _
      | exact spec_l01Pow2.mono _ _
      | exact LeO.none _
      | refine LeO.ite ?_ ?_
      | refine LeO.bind ?_ (fun _ => ?_)
set_option maxHeartbeats 8000000 in
set_option maxRecDepth 100000 in
theorem spec_Apply.calls (k : Nat) (a0_0 : Int) (a0_1 : Int) (a0_2 : Int) (a0_3 : Int) (a0_4 : Int) (a0_5 : Int) (a1 : Int) (a2 : Int) (a3 : Int) (a4 : Int) (r : Int) (w : World) (h : spec_Apply.f k a0_0 a0_1 a0_2 a0_3 a0_4 a0_5 a1 a2 a3 a4 = some r) :
    Calls Try.prog 21 #[.agg #[.int .i64 a0_0, .int .i64 a0_1, .int .i64 a0_2, .int .i64 a0_3, .int .i64 a0_4, .int .i64 a0_5], .int .i64 a1, .int .i64 a2, .int .i64 a3, .int .i64 a4] w fun e w' => e = .returned (.int .i64 r) ∧ Below w.heap.size w w' := by
  have hu36 := Try.underlying36
  have HB := Aside0.mk (Below.refl w.heap.size w)
  have H : ((spec_l01In.f a0_1 1 8).bind fun t139 => (if t139 = true then ((spec_l01In.f a1 1 8).bind fun t140 => (if t140 = true then ((spec_l01In.f a2 0 255).bind fun t141 => (if t141 = true then ((spec_l01In.f a3 0 255).bind fun t142 => (if t142 = true then ((spec_l01In.f a4 0 255).bind fun t143 => (spec_Apply.j0 k a1 a2 a3 a4 (!t143) a0_0 a0_1 a0_2 a0_3 a0_4 a0_5)) else (spec_Apply.j0 k a1 a2 a3 a4 true a0_0 a0_1 a0_2 a0_3 a0_4 a0_5))) else (spec_Apply.j0 k a1 a2 a3 a4 true a0_0 a0_1 a0_2 a0_3 a0_4 a0_5))) else (spec_Apply.j0 k a1 a2 a3 a4 true a0_0 a0_1 a0_2 a0_3 a0_4 a0_5))) else (spec_Apply.j0 k a1 a2 a3 a4 true a0_0 a0_1 a0_2 a0_3 a0_4 a0_5))) = some r := h
  clear h
  have HC6 := Aside0.mk H
  clear H
  go_enter Try.func21, Try.ntmps21
  go_upto_region 1 with (first | ((with_reducible refine gate_dst (N := 5) rfl ?_); refine box_event ?hg (N := 5) ?hd (cs := #[.int .i64 a0_0, .int .i64 a0_1, .int .i64 a0_2, .int .i64 a0_3, .int .i64 a0_4, .int .i64 a0_5]) (t := 36) ?hr ?_; (case hd => rfl); (case hg => rfl); (case hr => first | (go_simp; done) | (go_simp; rfl)); intro gb138 hg w7 hbox hb; have n0_ := Aside0.mk (below_step (by repeat (first | (with_reducible first | exact HB.out | apply below_alloc | apply pw_below_drewN | apply below_drew1) | exact HB.out)) hb); have n1_ := Aside0.mk (hbox); have n2_ := Aside0.mk ((by rw [hg]; exact (below_size (by repeat (first | (with_reducible first | exact HB.out | apply below_alloc | apply pw_below_drewN | apply below_drew1) | exact HB.out))) : w.heap.size ≤ gb138)); have n3_ := Aside0.mk ((by rw [hg]; exact (below_size (by repeat (first | (with_reducible first | exact HB.out | apply below_alloc | apply pw_below_drewN | apply below_drew1) | exact HB.out))) : w.heap.size ≤ gb138)); clear HB; have HB := n0_; have BK138 := n1_; have GW138 := n2_; have GE138 := n3_; clear n0_ n1_ n2_ n3_; clear hb hbox hg))
  (try simp only [Act.put, List.setIfInBounds_toArray, List.set_cons_zero, List.set_cons_succ])
  go_cut [34] (fun v34 wc => ∃ (kq : Nat) (x34_5 : Bool), v34 = .bool x34_5 ∧ Aside0 (spec_Apply.j0 kq a1 a2 a3 a4 x34_5 a0_0 a0_1 a0_2 a0_3 a0_4 a0_5 = some r) ∧ Aside0 (kq ≤ k) ∧ Aside0 (wc.heap[gb138]? = some (.cells #[.int .i64 a0_0, .int .i64 a0_1, .int .i64 a0_2, .int .i64 a0_3, .int .i64 a0_4, .int .i64 a0_5] 36 (0, 0))) ∧ Aside0 (Below w.heap.size w wc))
  case first =>
    have H := HC6.out
    clear HC6
    replace H := Option.bind_eq_some_iff.mp H
    obtain ⟨t139, A80, H⟩ := H
    replace H : (if t139 = true then ((spec_l01In.f a1 1 8).bind fun t140 => (if t140 = true then ((spec_l01In.f a2 0 255).bind fun t141 => (if t141 = true then ((spec_l01In.f a3 0 255).bind fun t142 => (if t142 = true then ((spec_l01In.f a4 0 255).bind fun t143 => (spec_Apply.j0 k a1 a2 a3 a4 (!t143) a0_0 a0_1 a0_2 a0_3 a0_4 a0_5)) else (spec_Apply.j0 k a1 a2 a3 a4 true a0_0 a0_1 a0_2 a0_3 a0_4 a0_5))) else (spec_Apply.j0 k a1 a2 a3 a4 true a0_0 a0_1 a0_2 a0_3 a0_4 a0_5))) else (spec_Apply.j0 k a1 a2 a3 a4 true a0_0 a0_1 a0_2 a0_3 a0_4 a0_5))) else (spec_Apply.j0 k a1 a2 a3 a4 true a0_0 a0_1 a0_2 a0_3 a0_4 a0_5)) = some r := H
    have A8 := Aside0.mk A80
    clear A80
    by_cases c9 : t139 = true
    · subst c9
      have H1 : ((spec_l01In.f a1 1 8).bind fun t140 => (if t140 = true then ((spec_l01In.f a2 0 255).bind fun t141 => (if t141 = true then ((spec_l01In.f a3 0 255).bind fun t142 => (if t142 = true then ((spec_l01In.f a4 0 255).bind fun t143 => (spec_Apply.j0 k a1 a2 a3 a4 (!t143) a0_0 a0_1 a0_2 a0_3 a0_4 a0_5)) else (spec_Apply.j0 k a1 a2 a3 a4 true a0_0 a0_1 a0_2 a0_3 a0_4 a0_5))) else (spec_Apply.j0 k a1 a2 a3 a4 true a0_0 a0_1 a0_2 a0_3 a0_4 a0_5))) else (spec_Apply.j0 k a1 a2 a3 a4 true a0_0 a0_1 a0_2 a0_3 a0_4 a0_5))) = some r := by rw [if_pos rfl] at H; exact H
      clear H
      have H := H1
      clear H1
      replace H := Option.bind_eq_some_iff.mp H
      obtain ⟨t140, A100, H⟩ := H
      replace H : (if t140 = true then ((spec_l01In.f a2 0 255).bind fun t141 => (if t141 = true then ((spec_l01In.f a3 0 255).bind fun t142 => (if t142 = true then ((spec_l01In.f a4 0 255).bind fun t143 => (spec_Apply.j0 k a1 a2 a3 a4 (!t143) a0_0 a0_1 a0_2 a0_3 a0_4 a0_5)) else (spec_Apply.j0 k a1 a2 a3 a4 true a0_0 a0_1 a0_2 a0_3 a0_4 a0_5))) else (spec_Apply.j0 k a1 a2 a3 a4 true a0_0 a0_1 a0_2 a0_3 a0_4 a0_5))) else (spec_Apply.j0 k a1 a2 a3 a4 true a0_0 a0_1 a0_2 a0_3 a0_4 a0_5)) = some r := H
      have A10 := Aside0.mk A100
      clear A100
      by_cases c11 : t140 = true
      · subst c11
        have H1 : ((spec_l01In.f a2 0 255).bind fun t141 => (if t141 = true then ((spec_l01In.f a3 0 255).bind fun t142 => (if t142 = true then ((spec_l01In.f a4 0 255).bind fun t143 => (spec_Apply.j0 k a1 a2 a3 a4 (!t143) a0_0 a0_1 a0_2 a0_3 a0_4 a0_5)) else (spec_Apply.j0 k a1 a2 a3 a4 true a0_0 a0_1 a0_2 a0_3 a0_4 a0_5))) else (spec_Apply.j0 k a1 a2 a3 a4 true a0_0 a0_1 a0_2 a0_3 a0_4 a0_5))) = some r := by rw [if_pos rfl] at H; exact H
        clear H
        have H := H1
        clear H1
        replace H := Option.bind_eq_some_iff.mp H
        obtain ⟨t141, A120, H⟩ := H
        replace H : (if t141 = true then ((spec_l01In.f a3 0 255).bind fun t142 => (if t142 = true then ((spec_l01In.f a4 0 255).bind fun t143 => (spec_Apply.j0 k a1 a2 a3 a4 (!t143) a0_0 a0_1 a0_2 a0_3 a0_4 a0_5)) else (spec_Apply.j0 k a1 a2 a3 a4 true a0_0 a0_1 a0_2 a0_3 a0_4 a0_5))) else (spec_Apply.j0 k a1 a2 a3 a4 true a0_0 a0_1 a0_2 a0_3 a0_4 a0_5)) = some r := H
        have A12 := Aside0.mk A120
        clear A120
        by_cases c13 : t141 = true
        · subst c13
          have H1 : ((spec_l01In.f a3 0 255).bind fun t142 => (if t142 = true then ((spec_l01In.f a4 0 255).bind fun t143 => (spec_Apply.j0 k a1 a2 a3 a4 (!t143) a0_0 a0_1 a0_2 a0_3 a0_4 a0_5)) else (spec_Apply.j0 k a1 a2 a3 a4 true a0_0 a0_1 a0_2 a0_3 a0_4 a0_5))) = some r := by rw [if_pos rfl] at H; exact H
          clear H
          have H := H1
          clear H1
          replace H := Option.bind_eq_some_iff.mp H
          obtain ⟨t142, A140, H⟩ := H
          replace H : (if t142 = true then ((spec_l01In.f a4 0 255).bind fun t143 => (spec_Apply.j0 k a1 a2 a3 a4 (!t143) a0_0 a0_1 a0_2 a0_3 a0_4 a0_5)) else (spec_Apply.j0 k a1 a2 a3 a4 true a0_0 a0_1 a0_2 a0_3 a0_4 a0_5)) = some r := H
          have A14 := Aside0.mk A140
          clear A140
          by_cases c15 : t142 = true
          · subst c15
            have H1 : ((spec_l01In.f a4 0 255).bind fun t143 => (spec_Apply.j0 k a1 a2 a3 a4 (!t143) a0_0 a0_1 a0_2 a0_3 a0_4 a0_5)) = some r := by rw [if_pos rfl] at H; exact H
            clear H
            have H := H1
            clear H1
            replace H := Option.bind_eq_some_iff.mp H
            obtain ⟨t143, A160, H⟩ := H
            replace H : (spec_Apply.j0 k a1 a2 a3 a4 (!t143) a0_0 a0_1 a0_2 a0_3 a0_4 a0_5) = some r := H
            have A16 := Aside0.mk A160
            clear A160
            have H' := Aside0.mk H
            clear H
            have hcz17_0 : w7.cell? ⟨gb138, 0, none⟩ = some (.int .i64 a0_0) := (blk_cell BK138.out 0).trans rfl
            have hcz17_1 : w7.cell? ⟨gb138, 1, none⟩ = some (.int .i64 a0_1) := (blk_cell BK138.out 1).trans rfl
            have hcz17_2 : w7.cell? ⟨gb138, 2, none⟩ = some (.int .i64 a0_2) := (blk_cell BK138.out 2).trans rfl
            have hcz17_3 : w7.cell? ⟨gb138, 3, none⟩ = some (.int .i64 a0_3) := (blk_cell BK138.out 3).trans rfl
            have hcz17_4 : w7.cell? ⟨gb138, 4, none⟩ = some (.int .i64 a0_4) := (blk_cell BK138.out 4).trans rfl
            have hcz17_5 : w7.cell? ⟨gb138, 5, none⟩ = some (.int .i64 a0_5) := (blk_cell BK138.out 5).trans rfl
            have hfz17_0 := blk_frozen BK138.out 0
            have hfz17_1 := blk_frozen BK138.out 1
            have hfz17_2 := blk_frozen BK138.out 2
            have hfz17_3 := blk_frozen BK138.out 3
            have hfz17_4 := blk_frozen BK138.out 4
            have hfz17_5 := blk_frozen BK138.out 5
            go_wp2_with (first | ((with_reducible refine gate_callee (f := 46) rfl ?_); refine goesL_ (some 13) rfl rfl Try.func46 (by kernel_rfl) rfl #[.int .i64 a0_1, .int .i64 1, .int .i64 8] rfl (by (try simp only [List.map_toArray, List.map_cons, List.map_nil]); first | done | rfl | (simp only [List.length_drop, List.length_take]; rfl)) ?_; (with_reducible refine (spec_l01In.calls a0_1 1 8 true _ A8.out).mono ?_); rintro e w' ⟨rfl, ⟨nd, rfl⟩⟩; refine ⟨_, rfl, ?_⟩) | (go_at_call 46; (with_reducible refine (spec_l01In.calls a1 1 8 true _ A10.out).mono ?_); rintro e w' ⟨rfl, ⟨nd, rfl⟩⟩) | (go_at_call 46; (with_reducible refine (spec_l01In.calls a2 0 255 true _ A12.out).mono ?_); rintro e w' ⟨rfl, ⟨nd, rfl⟩⟩) | (go_at_call 46; (with_reducible refine (spec_l01In.calls a3 0 255 true _ A14.out).mono ?_); rintro e w' ⟨rfl, ⟨nd, rfl⟩⟩) | (go_at_call 46; (with_reducible refine (spec_l01In.calls a4 0 255 t143 _ A16.out).mono ?_); rintro e w' ⟨rfl, ⟨nd, rfl⟩⟩))
            go_meet
            case rel => exact ⟨_, (!t143), (by first | rfl | (simp; done) | (simp [*]; done)), H', ⟨by first | omega | exact Nat.le_refl _⟩, ⟨by (with_reducible repeat (first | refine blk_drewN ?_ _ | refine blk_drew ?_ | refine blk_alloc ?_ _)); exact BK138.out⟩, ⟨by repeat (first | (with_reducible first | exact HB.out | apply below_alloc | apply pw_below_drewN | apply below_drew1 | refine below_set ?_ GE138.out) | exact HB.out)⟩⟩
          · replace c15 := Bool.eq_false_iff.mpr c15
            subst c15
            have H1 : (spec_Apply.j0 k a1 a2 a3 a4 true a0_0 a0_1 a0_2 a0_3 a0_4 a0_5) = some r := by rw [if_neg (show ¬ (false = true) by decide)] at H; exact H
            clear H
            have H := H1
            clear H1
            have H' := Aside0.mk H
            clear H
            have hcz18_0 : w7.cell? ⟨gb138, 0, none⟩ = some (.int .i64 a0_0) := (blk_cell BK138.out 0).trans rfl
            have hcz18_1 : w7.cell? ⟨gb138, 1, none⟩ = some (.int .i64 a0_1) := (blk_cell BK138.out 1).trans rfl
            have hcz18_2 : w7.cell? ⟨gb138, 2, none⟩ = some (.int .i64 a0_2) := (blk_cell BK138.out 2).trans rfl
            have hcz18_3 : w7.cell? ⟨gb138, 3, none⟩ = some (.int .i64 a0_3) := (blk_cell BK138.out 3).trans rfl
            have hcz18_4 : w7.cell? ⟨gb138, 4, none⟩ = some (.int .i64 a0_4) := (blk_cell BK138.out 4).trans rfl
            have hcz18_5 : w7.cell? ⟨gb138, 5, none⟩ = some (.int .i64 a0_5) := (blk_cell BK138.out 5).trans rfl
            have hfz18_0 := blk_frozen BK138.out 0
            have hfz18_1 := blk_frozen BK138.out 1
            have hfz18_2 := blk_frozen BK138.out 2
            have hfz18_3 := blk_frozen BK138.out 3
            have hfz18_4 := blk_frozen BK138.out 4
            have hfz18_5 := blk_frozen BK138.out 5
            go_wp2_with (first | ((with_reducible refine gate_callee (f := 46) rfl ?_); refine goesL_ (some 13) rfl rfl Try.func46 (by kernel_rfl) rfl #[.int .i64 a0_1, .int .i64 1, .int .i64 8] rfl (by (try simp only [List.map_toArray, List.map_cons, List.map_nil]); first | done | rfl | (simp only [List.length_drop, List.length_take]; rfl)) ?_; (with_reducible refine (spec_l01In.calls a0_1 1 8 true _ A8.out).mono ?_); rintro e w' ⟨rfl, ⟨nd, rfl⟩⟩; refine ⟨_, rfl, ?_⟩) | (go_at_call 46; (with_reducible refine (spec_l01In.calls a1 1 8 true _ A10.out).mono ?_); rintro e w' ⟨rfl, ⟨nd, rfl⟩⟩) | (go_at_call 46; (with_reducible refine (spec_l01In.calls a2 0 255 true _ A12.out).mono ?_); rintro e w' ⟨rfl, ⟨nd, rfl⟩⟩) | (go_at_call 46; (with_reducible refine (spec_l01In.calls a3 0 255 false _ A14.out).mono ?_); rintro e w' ⟨rfl, ⟨nd, rfl⟩⟩))
            go_meet
            case rel => exact ⟨_, (true), (by first | rfl | (simp; done) | (simp [*]; done)), H', ⟨by first | omega | exact Nat.le_refl _⟩, ⟨by (with_reducible repeat (first | refine blk_drewN ?_ _ | refine blk_drew ?_ | refine blk_alloc ?_ _)); exact BK138.out⟩, ⟨by repeat (first | (with_reducible first | exact HB.out | apply below_alloc | apply pw_below_drewN | apply below_drew1 | refine below_set ?_ GE138.out) | exact HB.out)⟩⟩
        · replace c13 := Bool.eq_false_iff.mpr c13
          subst c13
          have H1 : (spec_Apply.j0 k a1 a2 a3 a4 true a0_0 a0_1 a0_2 a0_3 a0_4 a0_5) = some r := by rw [if_neg (show ¬ (false = true) by decide)] at H; exact H
          clear H
          have H := H1
          clear H1
          have H' := Aside0.mk H
          clear H
          have hcz19_0 : w7.cell? ⟨gb138, 0, none⟩ = some (.int .i64 a0_0) := (blk_cell BK138.out 0).trans rfl
          have hcz19_1 : w7.cell? ⟨gb138, 1, none⟩ = some (.int .i64 a0_1) := (blk_cell BK138.out 1).trans rfl
          have hcz19_2 : w7.cell? ⟨gb138, 2, none⟩ = some (.int .i64 a0_2) := (blk_cell BK138.out 2).trans rfl
          have hcz19_3 : w7.cell? ⟨gb138, 3, none⟩ = some (.int .i64 a0_3) := (blk_cell BK138.out 3).trans rfl
          have hcz19_4 : w7.cell? ⟨gb138, 4, none⟩ = some (.int .i64 a0_4) := (blk_cell BK138.out 4).trans rfl
          have hcz19_5 : w7.cell? ⟨gb138, 5, none⟩ = some (.int .i64 a0_5) := (blk_cell BK138.out 5).trans rfl
          have hfz19_0 := blk_frozen BK138.out 0
          have hfz19_1 := blk_frozen BK138.out 1
          have hfz19_2 := blk_frozen BK138.out 2
          have hfz19_3 := blk_frozen BK138.out 3
          have hfz19_4 := blk_frozen BK138.out 4
          have hfz19_5 := blk_frozen BK138.out 5
          go_wp2_with (first | ((with_reducible refine gate_callee (f := 46) rfl ?_); refine goesL_ (some 13) rfl rfl Try.func46 (by kernel_rfl) rfl #[.int .i64 a0_1, .int .i64 1, .int .i64 8] rfl (by (try simp only [List.map_toArray, List.map_cons, List.map_nil]); first | done | rfl | (simp only [List.length_drop, List.length_take]; rfl)) ?_; (with_reducible refine (spec_l01In.calls a0_1 1 8 true _ A8.out).mono ?_); rintro e w' ⟨rfl, ⟨nd, rfl⟩⟩; refine ⟨_, rfl, ?_⟩) | (go_at_call 46; (with_reducible refine (spec_l01In.calls a1 1 8 true _ A10.out).mono ?_); rintro e w' ⟨rfl, ⟨nd, rfl⟩⟩) | (go_at_call 46; (with_reducible refine (spec_l01In.calls a2 0 255 false _ A12.out).mono ?_); rintro e w' ⟨rfl, ⟨nd, rfl⟩⟩))
          go_meet
          case rel => exact ⟨_, (true), (by first | rfl | (simp; done) | (simp [*]; done)), H', ⟨by first | omega | exact Nat.le_refl _⟩, ⟨by (with_reducible repeat (first | refine blk_drewN ?_ _ | refine blk_drew ?_ | refine blk_alloc ?_ _)); exact BK138.out⟩, ⟨by repeat (first | (with_reducible first | exact HB.out | apply below_alloc | apply pw_below_drewN | apply below_drew1 | refine below_set ?_ GE138.out) | exact HB.out)⟩⟩
      · replace c11 := Bool.eq_false_iff.mpr c11
        subst c11
        have H1 : (spec_Apply.j0 k a1 a2 a3 a4 true a0_0 a0_1 a0_2 a0_3 a0_4 a0_5) = some r := by rw [if_neg (show ¬ (false = true) by decide)] at H; exact H
        clear H
        have H := H1
        clear H1
        have H' := Aside0.mk H
        clear H
        have hcz20_0 : w7.cell? ⟨gb138, 0, none⟩ = some (.int .i64 a0_0) := (blk_cell BK138.out 0).trans rfl
        have hcz20_1 : w7.cell? ⟨gb138, 1, none⟩ = some (.int .i64 a0_1) := (blk_cell BK138.out 1).trans rfl
        have hcz20_2 : w7.cell? ⟨gb138, 2, none⟩ = some (.int .i64 a0_2) := (blk_cell BK138.out 2).trans rfl
        have hcz20_3 : w7.cell? ⟨gb138, 3, none⟩ = some (.int .i64 a0_3) := (blk_cell BK138.out 3).trans rfl
        have hcz20_4 : w7.cell? ⟨gb138, 4, none⟩ = some (.int .i64 a0_4) := (blk_cell BK138.out 4).trans rfl
        have hcz20_5 : w7.cell? ⟨gb138, 5, none⟩ = some (.int .i64 a0_5) := (blk_cell BK138.out 5).trans rfl
        have hfz20_0 := blk_frozen BK138.out 0
        have hfz20_1 := blk_frozen BK138.out 1
        have hfz20_2 := blk_frozen BK138.out 2
        have hfz20_3 := blk_frozen BK138.out 3
        have hfz20_4 := blk_frozen BK138.out 4
        have hfz20_5 := blk_frozen BK138.out 5
        go_wp2_with (first | ((with_reducible refine gate_callee (f := 46) rfl ?_); refine goesL_ (some 13) rfl rfl Try.func46 (by kernel_rfl) rfl #[.int .i64 a0_1, .int .i64 1, .int .i64 8] rfl (by (try simp only [List.map_toArray, List.map_cons, List.map_nil]); first | done | rfl | (simp only [List.length_drop, List.length_take]; rfl)) ?_; (with_reducible refine (spec_l01In.calls a0_1 1 8 true _ A8.out).mono ?_); rintro e w' ⟨rfl, ⟨nd, rfl⟩⟩; refine ⟨_, rfl, ?_⟩) | (go_at_call 46; (with_reducible refine (spec_l01In.calls a1 1 8 false _ A10.out).mono ?_); rintro e w' ⟨rfl, ⟨nd, rfl⟩⟩))
        go_meet
        case rel => exact ⟨_, (true), (by first | rfl | (simp; done) | (simp [*]; done)), H', ⟨by first | omega | exact Nat.le_refl _⟩, ⟨by (with_reducible repeat (first | refine blk_drewN ?_ _ | refine blk_drew ?_ | refine blk_alloc ?_ _)); exact BK138.out⟩, ⟨by repeat (first | (with_reducible first | exact HB.out | apply below_alloc | apply pw_below_drewN | apply below_drew1 | refine below_set ?_ GE138.out) | exact HB.out)⟩⟩
    · replace c9 := Bool.eq_false_iff.mpr c9
      subst c9
      have H1 : (spec_Apply.j0 k a1 a2 a3 a4 true a0_0 a0_1 a0_2 a0_3 a0_4 a0_5) = some r := by rw [if_neg (show ¬ (false = true) by decide)] at H; exact H
      clear H
      have H := H1
      clear H1
      have H' := Aside0.mk H
      clear H
      have hcz21_0 : w7.cell? ⟨gb138, 0, none⟩ = some (.int .i64 a0_0) := (blk_cell BK138.out 0).trans rfl
      have hcz21_1 : w7.cell? ⟨gb138, 1, none⟩ = some (.int .i64 a0_1) := (blk_cell BK138.out 1).trans rfl
      have hcz21_2 : w7.cell? ⟨gb138, 2, none⟩ = some (.int .i64 a0_2) := (blk_cell BK138.out 2).trans rfl
      have hcz21_3 : w7.cell? ⟨gb138, 3, none⟩ = some (.int .i64 a0_3) := (blk_cell BK138.out 3).trans rfl
      have hcz21_4 : w7.cell? ⟨gb138, 4, none⟩ = some (.int .i64 a0_4) := (blk_cell BK138.out 4).trans rfl
      have hcz21_5 : w7.cell? ⟨gb138, 5, none⟩ = some (.int .i64 a0_5) := (blk_cell BK138.out 5).trans rfl
      have hfz21_0 := blk_frozen BK138.out 0
      have hfz21_1 := blk_frozen BK138.out 1
      have hfz21_2 := blk_frozen BK138.out 2
      have hfz21_3 := blk_frozen BK138.out 3
      have hfz21_4 := blk_frozen BK138.out 4
      have hfz21_5 := blk_frozen BK138.out 5
      go_wp2_with (first | ((with_reducible refine gate_callee (f := 46) rfl ?_); refine goesL_ (some 13) rfl rfl Try.func46 (by kernel_rfl) rfl #[.int .i64 a0_1, .int .i64 1, .int .i64 8] rfl (by (try simp only [List.map_toArray, List.map_cons, List.map_nil]); first | done | rfl | (simp only [List.length_drop, List.length_take]; rfl)) ?_; (with_reducible refine (spec_l01In.calls a0_1 1 8 false _ A8.out).mono ?_); rintro e w' ⟨rfl, ⟨nd, rfl⟩⟩; refine ⟨_, rfl, ?_⟩))
      go_meet
      case rel => exact ⟨_, (true), (by first | rfl | (simp; done) | (simp [*]; done)), H', ⟨by first | omega | exact Nat.le_refl _⟩, ⟨by (with_reducible repeat (first | refine blk_drewN ?_ _ | refine blk_drew ?_ | refine blk_alloc ?_ _)); exact BK138.out⟩, ⟨by repeat (first | (with_reducible first | exact HB.out | apply below_alloc | apply pw_below_drewN | apply below_drew1 | refine below_set ?_ GE138.out) | exact HB.out)⟩⟩
  case rest =>
    clear HC6
    try clear c1
    try clear c2
    try clear p2
    try clear c4
    try clear c9
    try clear c11
    try clear c13
    try clear c15
    try clear c21
    try clear hcz17_0
    try clear hcz17_1
    try clear hcz17_2
    try clear hcz17_3
    try clear hcz17_4
    try clear hcz17_5
    try clear hcz18_0
    try clear hcz18_1
    try clear hcz18_2
    try clear hcz18_3
    try clear hcz18_4
    try clear hcz18_5
    try clear hcz19_0
    try clear hcz19_1
    try clear hcz19_2
    try clear hcz19_3
    try clear hcz19_4
    try clear hcz19_5
    try clear hcz20_0
    try clear hcz20_1
    try clear hcz20_2
    try clear hcz20_3
    try clear hcz20_4
    try clear hcz20_5
    try clear hcz21_0
    try clear hcz21_1
    try clear hcz21_2
    try clear hcz21_3
    try clear hcz21_4
    try clear hcz21_5
    try clear hfz17_0
    try clear hfz17_1
    try clear hfz17_2
    try clear hfz17_3
    try clear hfz17_4
    try clear hfz17_5
    try clear hfz18_0
    try clear hfz18_1
    try clear hfz18_2
    try clear hfz18_3
    try clear hfz18_4
    try clear hfz18_5
    try clear hfz19_0
    try clear hfz19_1
    try clear hfz19_2
    try clear hfz19_3
    try clear hfz19_4
    try clear hfz19_5
    try clear hfz20_0
    try clear hfz20_1
    try clear hfz20_2
    try clear hfz20_3
    try clear hfz20_4
    try clear hfz20_5
    try clear hfz21_0
    try clear hfz21_1
    try clear hfz21_2
    try clear hfz21_3
    try clear hfz21_4
    try clear hfz21_5
    obtain ⟨kq, x34_5, rfl, HA, HJ5, BK138, HB⟩ := hcut
    cases kq with
    | zero => exact absurd HA.out (by simp [spec_Apply.j0])
    | succ kj5 =>
      have H := HA.out
      clear HA
      simp only [spec_Apply.j0] at H
      by_cases c22 : x34_5 = true
      · subst c22
        have H1 : (some 0) = some r := by rw [if_pos rfl] at H; exact H
        clear H
        have H := H1
        clear H1
        obtain rfl := Option.some.inj H
        go_wp2
        go_ret
        exact ⟨by first | rfl | (simp [errW_none, errW_some] <;> rfl) | (simp [*, errW_none, errW_some] <;> rfl), by repeat (first | (with_reducible first | exact HB.out | apply below_alloc | apply pw_below_drewN | apply below_drew1 | refine below_set ?_ GE138.out) | exact HB.out)⟩
      · replace c22 := Bool.eq_false_iff.mpr c22
        subst c22
        have H1 : (if a0_0 = 0 then (some a0_2) else (if a0_0 = 2 then ((spec_Flip.f kj5 a0_1 a2).bind fun t144 => (some t144)) else (if a0_0 = 3 then (some (Go.bits .and .i64 a2 a3)) else (if a0_0 = 4 then (some (Go.bits .or .i64 a2 a3)) else (if a0_0 = 5 then (some (Go.bits .xor .i64 a2 a3)) else (if a0_0 = 6 then ((spec_Add.f kj5 a0_1 a2 a3).bind fun t145 => (some t145)) else (if a0_0 = 7 then ((spec_Sub.f kj5 a0_1 a2 a3).bind fun t146 => (some t146)) else (if a0_0 = 8 then ((spec_Mul.f kj5 a0_1 a2 a3).bind fun t147 => (some t147)) else (if a0_0 = 9 then ((spec_Div.f kj5 a0_1 a2 a3).bind fun t148 => (some t148)) else (if a0_0 = 10 then ((spec_Rem.f kj5 a0_1 a2 a3).bind fun t149 => (some t149)) else (if a0_0 = 11 then ((spec_Shl.f kj5 a0_1 a2 a3).bind fun t150 => (some t150)) else (if a0_0 = 12 then ((spec_Shr.f kj5 a0_1 a2 a3).bind fun t151 => (some t151)) else (if a0_0 = 13 then ((spec_l01Bool.f (a2 == a3)).bind fun t152 => (some t152)) else (if a0_0 = 14 then ((spec_Less.f kj5 a1 a2 a3).bind fun t153 => (some t153)) else (if a0_0 = 15 then ((spec_LessSigned.f kj5 a1 a2 a3).bind fun t154 => (some t154)) else (if a0_0 = 16 then (if a0_1 < a1 then (some a3) else ((spec_l01Pow2.f kj5 (wrap64 (a0_1 - a1))).bind fun t155 => (some (wrap64 ((wrap64 (a2 * t155)) + a3))))) else (if a0_0 = 17 then ((spec_Slice.f kj5 a1 a2 a0_2 a0_1).bind fun t156 => (some t156)) else (if a0_0 = 18 then (if a2 = 1 then (some a3) else (some a4)) else (some 0))))))))))))))))))) = some r := by rw [if_neg (show ¬ (false = true) by decide)] at H; exact H
        clear H
        have H := H1
        clear H1
        by_cases c23 : a0_0 = 0
        · rw [if_pos c23] at H
          have c23b0 : (a0_0 == 0) = true := beq_iff_eq.mpr c23
          have c23b1 : (a0_0 != 0) = false := bne_eq_false_iff_eq.mpr c23
          clear c23
          obtain rfl := Option.some.inj H
          have hcz24_0 : wc.cell? ⟨gb138, 0, none⟩ = some (.int .i64 a0_0) := (blk_cell BK138.out 0).trans rfl
          have hcz24_1 : wc.cell? ⟨gb138, 1, none⟩ = some (.int .i64 a0_1) := (blk_cell BK138.out 1).trans rfl
          have hcz24_2 : wc.cell? ⟨gb138, 2, none⟩ = some (.int .i64 a0_2) := (blk_cell BK138.out 2).trans rfl
          have hcz24_3 : wc.cell? ⟨gb138, 3, none⟩ = some (.int .i64 a0_3) := (blk_cell BK138.out 3).trans rfl
          have hcz24_4 : wc.cell? ⟨gb138, 4, none⟩ = some (.int .i64 a0_4) := (blk_cell BK138.out 4).trans rfl
          have hcz24_5 : wc.cell? ⟨gb138, 5, none⟩ = some (.int .i64 a0_5) := (blk_cell BK138.out 5).trans rfl
          have hfz24_0 := blk_frozen BK138.out 0
          have hfz24_1 := blk_frozen BK138.out 1
          have hfz24_2 := blk_frozen BK138.out 2
          have hfz24_3 := blk_frozen BK138.out 3
          have hfz24_4 := blk_frozen BK138.out 4
          have hfz24_5 := blk_frozen BK138.out 5
          go_wp2
          go_ret
          exact ⟨by first | rfl | (simp [errW_none, errW_some] <;> rfl) | (simp [*, errW_none, errW_some] <;> rfl), by repeat (first | (with_reducible first | exact HB.out | apply below_alloc | apply pw_below_drewN | apply below_drew1 | refine below_set ?_ GE138.out) | exact HB.out)⟩
        · rw [if_neg c23] at H
          have c23b0 : (a0_0 == 0) = false := beq_eq_false_iff_ne.mpr c23
          have c23b1 : (a0_0 != 0) = true := bne_iff_ne.mpr c23
          by_cases c25 : a0_0 = 2
          · rw [if_pos c25] at H
            have c25b0 : (a0_0 == 2) = true := beq_iff_eq.mpr c25
            have c25b1 : (a0_0 != 2) = false := bne_eq_false_iff_eq.mpr c25
            clear c25
            replace H := Option.bind_eq_some_iff.mp H
            obtain ⟨t144, A260, H⟩ := H
            replace H : (some t144) = some r := H
            have A26 := Aside0.mk A260
            clear A260
            obtain rfl := Option.some.inj H
            have hcz27_0 : wc.cell? ⟨gb138, 0, none⟩ = some (.int .i64 a0_0) := (blk_cell BK138.out 0).trans rfl
            have hcz27_1 : wc.cell? ⟨gb138, 1, none⟩ = some (.int .i64 a0_1) := (blk_cell BK138.out 1).trans rfl
            have hcz27_2 : wc.cell? ⟨gb138, 2, none⟩ = some (.int .i64 a0_2) := (blk_cell BK138.out 2).trans rfl
            have hcz27_3 : wc.cell? ⟨gb138, 3, none⟩ = some (.int .i64 a0_3) := (blk_cell BK138.out 3).trans rfl
            have hcz27_4 : wc.cell? ⟨gb138, 4, none⟩ = some (.int .i64 a0_4) := (blk_cell BK138.out 4).trans rfl
            have hcz27_5 : wc.cell? ⟨gb138, 5, none⟩ = some (.int .i64 a0_5) := (blk_cell BK138.out 5).trans rfl
            have hfz27_0 := blk_frozen BK138.out 0
            have hfz27_1 := blk_frozen BK138.out 1
            have hfz27_2 := blk_frozen BK138.out 2
            have hfz27_3 := blk_frozen BK138.out 3
            have hfz27_4 := blk_frozen BK138.out 4
            have hfz27_5 := blk_frozen BK138.out 5
            go_wp2_with (first | ((with_reducible refine gate_callee (f := 55) rfl ?_); refine goesL_ (some 46) rfl rfl Try.func55 (by kernel_rfl) rfl #[.int .i64 a0_1, .int .i64 a2] rfl (by (try simp only [List.map_toArray, List.map_cons, List.map_nil]); first | done | rfl | (simp only [List.length_drop, List.length_take]; rfl)) ?_; (with_reducible refine (spec_Flip.calls kj5 a0_1 a2 t144 _ A26.out).mono ?_); rintro e w' ⟨rfl, ⟨nd, rfl⟩⟩; refine ⟨_, rfl, ?_⟩))
            go_ret
            exact ⟨by first | rfl | (simp [errW_none, errW_some] <;> rfl) | (simp [*, errW_none, errW_some] <;> rfl), by repeat (first | (with_reducible first | exact HB.out | apply below_alloc | apply pw_below_drewN | apply below_drew1 | refine below_set ?_ GE138.out) | exact HB.out)⟩
          · rw [if_neg c25] at H
            have c25b0 : (a0_0 == 2) = false := beq_eq_false_iff_ne.mpr c25
            have c25b1 : (a0_0 != 2) = true := bne_iff_ne.mpr c25
            by_cases c28 : a0_0 = 3
            · rw [if_pos c28] at H
              have c28b0 : (a0_0 == 3) = true := beq_iff_eq.mpr c28
              have c28b1 : (a0_0 != 3) = false := bne_eq_false_iff_eq.mpr c28
              clear c28
              obtain rfl := Option.some.inj H
              have hcz29_0 : wc.cell? ⟨gb138, 0, none⟩ = some (.int .i64 a0_0) := (blk_cell BK138.out 0).trans rfl
              have hcz29_1 : wc.cell? ⟨gb138, 1, none⟩ = some (.int .i64 a0_1) := (blk_cell BK138.out 1).trans rfl
              have hcz29_2 : wc.cell? ⟨gb138, 2, none⟩ = some (.int .i64 a0_2) := (blk_cell BK138.out 2).trans rfl
              have hcz29_3 : wc.cell? ⟨gb138, 3, none⟩ = some (.int .i64 a0_3) := (blk_cell BK138.out 3).trans rfl
              have hcz29_4 : wc.cell? ⟨gb138, 4, none⟩ = some (.int .i64 a0_4) := (blk_cell BK138.out 4).trans rfl
              have hcz29_5 : wc.cell? ⟨gb138, 5, none⟩ = some (.int .i64 a0_5) := (blk_cell BK138.out 5).trans rfl
              have hfz29_0 := blk_frozen BK138.out 0
              have hfz29_1 := blk_frozen BK138.out 1
              have hfz29_2 := blk_frozen BK138.out 2
              have hfz29_3 := blk_frozen BK138.out 3
              have hfz29_4 := blk_frozen BK138.out 4
              have hfz29_5 := blk_frozen BK138.out 5
              go_wp2
              go_ret
              exact ⟨by first | rfl | (simp [errW_none, errW_some] <;> rfl) | (simp [*, errW_none, errW_some] <;> rfl), by repeat (first | (with_reducible first | exact HB.out | apply below_alloc | apply pw_below_drewN | apply below_drew1 | refine below_set ?_ GE138.out) | exact HB.out)⟩
            · rw [if_neg c28] at H
              have c28b0 : (a0_0 == 3) = false := beq_eq_false_iff_ne.mpr c28
              have c28b1 : (a0_0 != 3) = true := bne_iff_ne.mpr c28
              by_cases c30 : a0_0 = 4
              · rw [if_pos c30] at H
                have c30b0 : (a0_0 == 4) = true := beq_iff_eq.mpr c30
                have c30b1 : (a0_0 != 4) = false := bne_eq_false_iff_eq.mpr c30
                clear c30
                obtain rfl := Option.some.inj H
                have hcz31_0 : wc.cell? ⟨gb138, 0, none⟩ = some (.int .i64 a0_0) := (blk_cell BK138.out 0).trans rfl
                have hcz31_1 : wc.cell? ⟨gb138, 1, none⟩ = some (.int .i64 a0_1) := (blk_cell BK138.out 1).trans rfl
                have hcz31_2 : wc.cell? ⟨gb138, 2, none⟩ = some (.int .i64 a0_2) := (blk_cell BK138.out 2).trans rfl
                have hcz31_3 : wc.cell? ⟨gb138, 3, none⟩ = some (.int .i64 a0_3) := (blk_cell BK138.out 3).trans rfl
                have hcz31_4 : wc.cell? ⟨gb138, 4, none⟩ = some (.int .i64 a0_4) := (blk_cell BK138.out 4).trans rfl
                have hcz31_5 : wc.cell? ⟨gb138, 5, none⟩ = some (.int .i64 a0_5) := (blk_cell BK138.out 5).trans rfl
                have hfz31_0 := blk_frozen BK138.out 0
                have hfz31_1 := blk_frozen BK138.out 1
                have hfz31_2 := blk_frozen BK138.out 2
                have hfz31_3 := blk_frozen BK138.out 3
                have hfz31_4 := blk_frozen BK138.out 4
                have hfz31_5 := blk_frozen BK138.out 5
                go_wp2
                go_ret
                exact ⟨by first | rfl | (simp [errW_none, errW_some] <;> rfl) | (simp [*, errW_none, errW_some] <;> rfl), by repeat (first | (with_reducible first | exact HB.out | apply below_alloc | apply pw_below_drewN | apply below_drew1 | refine below_set ?_ GE138.out) | exact HB.out)⟩
              · rw [if_neg c30] at H
                have c30b0 : (a0_0 == 4) = false := beq_eq_false_iff_ne.mpr c30
                have c30b1 : (a0_0 != 4) = true := bne_iff_ne.mpr c30
                by_cases c32 : a0_0 = 5
                · rw [if_pos c32] at H
                  have c32b0 : (a0_0 == 5) = true := beq_iff_eq.mpr c32
                  have c32b1 : (a0_0 != 5) = false := bne_eq_false_iff_eq.mpr c32
                  clear c32
                  obtain rfl := Option.some.inj H
                  have hcz33_0 : wc.cell? ⟨gb138, 0, none⟩ = some (.int .i64 a0_0) := (blk_cell BK138.out 0).trans rfl
                  have hcz33_1 : wc.cell? ⟨gb138, 1, none⟩ = some (.int .i64 a0_1) := (blk_cell BK138.out 1).trans rfl
                  have hcz33_2 : wc.cell? ⟨gb138, 2, none⟩ = some (.int .i64 a0_2) := (blk_cell BK138.out 2).trans rfl
                  have hcz33_3 : wc.cell? ⟨gb138, 3, none⟩ = some (.int .i64 a0_3) := (blk_cell BK138.out 3).trans rfl
                  have hcz33_4 : wc.cell? ⟨gb138, 4, none⟩ = some (.int .i64 a0_4) := (blk_cell BK138.out 4).trans rfl
                  have hcz33_5 : wc.cell? ⟨gb138, 5, none⟩ = some (.int .i64 a0_5) := (blk_cell BK138.out 5).trans rfl
                  have hfz33_0 := blk_frozen BK138.out 0
                  have hfz33_1 := blk_frozen BK138.out 1
                  have hfz33_2 := blk_frozen BK138.out 2
                  have hfz33_3 := blk_frozen BK138.out 3
                  have hfz33_4 := blk_frozen BK138.out 4
                  have hfz33_5 := blk_frozen BK138.out 5
                  go_wp2
                  go_ret
                  exact ⟨by first | rfl | (simp [errW_none, errW_some] <;> rfl) | (simp [*, errW_none, errW_some] <;> rfl), by repeat (first | (with_reducible first | exact HB.out | apply below_alloc | apply pw_below_drewN | apply below_drew1 | refine below_set ?_ GE138.out) | exact HB.out)⟩
                · rw [if_neg c32] at H
                  have c32b0 : (a0_0 == 5) = false := beq_eq_false_iff_ne.mpr c32
                  have c32b1 : (a0_0 != 5) = true := bne_iff_ne.mpr c32
                  by_cases c34 : a0_0 = 6
                  · rw [if_pos c34] at H
                    have c34b0 : (a0_0 == 6) = true := beq_iff_eq.mpr c34
                    have c34b1 : (a0_0 != 6) = false := bne_eq_false_iff_eq.mpr c34
                    clear c34
                    replace H := Option.bind_eq_some_iff.mp H
                    obtain ⟨t145, A350, H⟩ := H
                    replace H : (some t145) = some r := H
                    have A35 := Aside0.mk A350
                    clear A350
                    obtain rfl := Option.some.inj H
                    have hcz36_0 : wc.cell? ⟨gb138, 0, none⟩ = some (.int .i64 a0_0) := (blk_cell BK138.out 0).trans rfl
                    have hcz36_1 : wc.cell? ⟨gb138, 1, none⟩ = some (.int .i64 a0_1) := (blk_cell BK138.out 1).trans rfl
                    have hcz36_2 : wc.cell? ⟨gb138, 2, none⟩ = some (.int .i64 a0_2) := (blk_cell BK138.out 2).trans rfl
                    have hcz36_3 : wc.cell? ⟨gb138, 3, none⟩ = some (.int .i64 a0_3) := (blk_cell BK138.out 3).trans rfl
                    have hcz36_4 : wc.cell? ⟨gb138, 4, none⟩ = some (.int .i64 a0_4) := (blk_cell BK138.out 4).trans rfl
                    have hcz36_5 : wc.cell? ⟨gb138, 5, none⟩ = some (.int .i64 a0_5) := (blk_cell BK138.out 5).trans rfl
                    have hfz36_0 := blk_frozen BK138.out 0
                    have hfz36_1 := blk_frozen BK138.out 1
                    have hfz36_2 := blk_frozen BK138.out 2
                    have hfz36_3 := blk_frozen BK138.out 3
                    have hfz36_4 := blk_frozen BK138.out 4
                    have hfz36_5 := blk_frozen BK138.out 5
                    go_wp2_with (first | ((with_reducible refine gate_callee (f := 56) rfl ?_); refine goesL_ (some 68) rfl rfl Try.func56 (by kernel_rfl) rfl #[.int .i64 a0_1, .int .i64 a2, .int .i64 a3] rfl (by (try simp only [List.map_toArray, List.map_cons, List.map_nil]); first | done | rfl | (simp only [List.length_drop, List.length_take]; rfl)) ?_; (with_reducible refine (spec_Add.calls kj5 a0_1 a2 a3 t145 _ A35.out).mono ?_); rintro e w' ⟨rfl, ⟨nd, rfl⟩⟩; refine ⟨_, rfl, ?_⟩))
                    go_ret
                    exact ⟨by first | rfl | (simp [errW_none, errW_some] <;> rfl) | (simp [*, errW_none, errW_some] <;> rfl), by repeat (first | (with_reducible first | exact HB.out | apply below_alloc | apply pw_below_drewN | apply below_drew1 | refine below_set ?_ GE138.out) | exact HB.out)⟩
                  · rw [if_neg c34] at H
                    have c34b0 : (a0_0 == 6) = false := beq_eq_false_iff_ne.mpr c34
                    have c34b1 : (a0_0 != 6) = true := bne_iff_ne.mpr c34
                    by_cases c37 : a0_0 = 7
                    · rw [if_pos c37] at H
                      have c37b0 : (a0_0 == 7) = true := beq_iff_eq.mpr c37
                      have c37b1 : (a0_0 != 7) = false := bne_eq_false_iff_eq.mpr c37
                      clear c37
                      replace H := Option.bind_eq_some_iff.mp H
                      obtain ⟨t146, A380, H⟩ := H
                      replace H : (some t146) = some r := H
                      have A38 := Aside0.mk A380
                      clear A380
                      obtain rfl := Option.some.inj H
                      have hcz39_0 : wc.cell? ⟨gb138, 0, none⟩ = some (.int .i64 a0_0) := (blk_cell BK138.out 0).trans rfl
                      have hcz39_1 : wc.cell? ⟨gb138, 1, none⟩ = some (.int .i64 a0_1) := (blk_cell BK138.out 1).trans rfl
                      have hcz39_2 : wc.cell? ⟨gb138, 2, none⟩ = some (.int .i64 a0_2) := (blk_cell BK138.out 2).trans rfl
                      have hcz39_3 : wc.cell? ⟨gb138, 3, none⟩ = some (.int .i64 a0_3) := (blk_cell BK138.out 3).trans rfl
                      have hcz39_4 : wc.cell? ⟨gb138, 4, none⟩ = some (.int .i64 a0_4) := (blk_cell BK138.out 4).trans rfl
                      have hcz39_5 : wc.cell? ⟨gb138, 5, none⟩ = some (.int .i64 a0_5) := (blk_cell BK138.out 5).trans rfl
                      have hfz39_0 := blk_frozen BK138.out 0
                      have hfz39_1 := blk_frozen BK138.out 1
                      have hfz39_2 := blk_frozen BK138.out 2
                      have hfz39_3 := blk_frozen BK138.out 3
                      have hfz39_4 := blk_frozen BK138.out 4
                      have hfz39_5 := blk_frozen BK138.out 5
                      go_wp2_with (first | ((with_reducible refine gate_callee (f := 57) rfl ?_); refine goesL_ (some 75) rfl rfl Try.func57 (by kernel_rfl) rfl #[.int .i64 a0_1, .int .i64 a2, .int .i64 a3] rfl (by (try simp only [List.map_toArray, List.map_cons, List.map_nil]); first | done | rfl | (simp only [List.length_drop, List.length_take]; rfl)) ?_; (with_reducible refine (spec_Sub.calls kj5 a0_1 a2 a3 t146 _ A38.out).mono ?_); rintro e w' ⟨rfl, ⟨nd, rfl⟩⟩; refine ⟨_, rfl, ?_⟩))
                      go_ret
                      exact ⟨by first | rfl | (simp [errW_none, errW_some] <;> rfl) | (simp [*, errW_none, errW_some] <;> rfl), by repeat (first | (with_reducible first | exact HB.out | apply below_alloc | apply pw_below_drewN | apply below_drew1 | refine below_set ?_ GE138.out) | exact HB.out)⟩
                    · rw [if_neg c37] at H
                      have c37b0 : (a0_0 == 7) = false := beq_eq_false_iff_ne.mpr c37
                      have c37b1 : (a0_0 != 7) = true := bne_iff_ne.mpr c37
                      by_cases c40 : a0_0 = 8
                      · rw [if_pos c40] at H
                        have c40b0 : (a0_0 == 8) = true := beq_iff_eq.mpr c40
                        have c40b1 : (a0_0 != 8) = false := bne_eq_false_iff_eq.mpr c40
                        clear c40
                        replace H := Option.bind_eq_some_iff.mp H
                        obtain ⟨t147, A410, H⟩ := H
                        replace H : (some t147) = some r := H
                        have A41 := Aside0.mk A410
                        clear A410
                        obtain rfl := Option.some.inj H
                        have hcz42_0 : wc.cell? ⟨gb138, 0, none⟩ = some (.int .i64 a0_0) := (blk_cell BK138.out 0).trans rfl
                        have hcz42_1 : wc.cell? ⟨gb138, 1, none⟩ = some (.int .i64 a0_1) := (blk_cell BK138.out 1).trans rfl
                        have hcz42_2 : wc.cell? ⟨gb138, 2, none⟩ = some (.int .i64 a0_2) := (blk_cell BK138.out 2).trans rfl
                        have hcz42_3 : wc.cell? ⟨gb138, 3, none⟩ = some (.int .i64 a0_3) := (blk_cell BK138.out 3).trans rfl
                        have hcz42_4 : wc.cell? ⟨gb138, 4, none⟩ = some (.int .i64 a0_4) := (blk_cell BK138.out 4).trans rfl
                        have hcz42_5 : wc.cell? ⟨gb138, 5, none⟩ = some (.int .i64 a0_5) := (blk_cell BK138.out 5).trans rfl
                        have hfz42_0 := blk_frozen BK138.out 0
                        have hfz42_1 := blk_frozen BK138.out 1
                        have hfz42_2 := blk_frozen BK138.out 2
                        have hfz42_3 := blk_frozen BK138.out 3
                        have hfz42_4 := blk_frozen BK138.out 4
                        have hfz42_5 := blk_frozen BK138.out 5
                        go_wp2_with (first | ((with_reducible refine gate_callee (f := 58) rfl ?_); refine goesL_ (some 82) rfl rfl Try.func58 (by kernel_rfl) rfl #[.int .i64 a0_1, .int .i64 a2, .int .i64 a3] rfl (by (try simp only [List.map_toArray, List.map_cons, List.map_nil]); first | done | rfl | (simp only [List.length_drop, List.length_take]; rfl)) ?_; (with_reducible refine (spec_Mul.calls kj5 a0_1 a2 a3 t147 _ A41.out).mono ?_); rintro e w' ⟨rfl, ⟨nd, rfl⟩⟩; refine ⟨_, rfl, ?_⟩))
                        go_ret
                        exact ⟨by first | rfl | (simp [errW_none, errW_some] <;> rfl) | (simp [*, errW_none, errW_some] <;> rfl), by repeat (first | (with_reducible first | exact HB.out | apply below_alloc | apply pw_below_drewN | apply below_drew1 | refine below_set ?_ GE138.out) | exact HB.out)⟩
                      · rw [if_neg c40] at H
                        have c40b0 : (a0_0 == 8) = false := beq_eq_false_iff_ne.mpr c40
                        have c40b1 : (a0_0 != 8) = true := bne_iff_ne.mpr c40
                        by_cases c43 : a0_0 = 9
                        · rw [if_pos c43] at H
                          have c43b0 : (a0_0 == 9) = true := beq_iff_eq.mpr c43
                          have c43b1 : (a0_0 != 9) = false := bne_eq_false_iff_eq.mpr c43
                          clear c43
                          replace H := Option.bind_eq_some_iff.mp H
                          obtain ⟨t148, A440, H⟩ := H
                          replace H : (some t148) = some r := H
                          have A44 := Aside0.mk A440
                          clear A440
                          obtain rfl := Option.some.inj H
                          have hcz45_0 : wc.cell? ⟨gb138, 0, none⟩ = some (.int .i64 a0_0) := (blk_cell BK138.out 0).trans rfl
                          have hcz45_1 : wc.cell? ⟨gb138, 1, none⟩ = some (.int .i64 a0_1) := (blk_cell BK138.out 1).trans rfl
                          have hcz45_2 : wc.cell? ⟨gb138, 2, none⟩ = some (.int .i64 a0_2) := (blk_cell BK138.out 2).trans rfl
                          have hcz45_3 : wc.cell? ⟨gb138, 3, none⟩ = some (.int .i64 a0_3) := (blk_cell BK138.out 3).trans rfl
                          have hcz45_4 : wc.cell? ⟨gb138, 4, none⟩ = some (.int .i64 a0_4) := (blk_cell BK138.out 4).trans rfl
                          have hcz45_5 : wc.cell? ⟨gb138, 5, none⟩ = some (.int .i64 a0_5) := (blk_cell BK138.out 5).trans rfl
                          have hfz45_0 := blk_frozen BK138.out 0
                          have hfz45_1 := blk_frozen BK138.out 1
                          have hfz45_2 := blk_frozen BK138.out 2
                          have hfz45_3 := blk_frozen BK138.out 3
                          have hfz45_4 := blk_frozen BK138.out 4
                          have hfz45_5 := blk_frozen BK138.out 5
                          go_wp2_with (first | ((with_reducible refine gate_callee (f := 59) rfl ?_); refine goesL_ (some 89) rfl rfl Try.func59 (by kernel_rfl) rfl #[.int .i64 a0_1, .int .i64 a2, .int .i64 a3] rfl (by (try simp only [List.map_toArray, List.map_cons, List.map_nil]); first | done | rfl | (simp only [List.length_drop, List.length_take]; rfl)) ?_; (with_reducible refine (spec_Div.calls kj5 a0_1 a2 a3 t148 _ A44.out).mono ?_); rintro e w' ⟨rfl, ⟨nd, rfl⟩⟩; refine ⟨_, rfl, ?_⟩))
                          go_ret
                          exact ⟨by first | rfl | (simp [errW_none, errW_some] <;> rfl) | (simp [*, errW_none, errW_some] <;> rfl), by repeat (first | (with_reducible first | exact HB.out | apply below_alloc | apply pw_below_drewN | apply below_drew1 | refine below_set ?_ GE138.out) | exact HB.out)⟩
                        · rw [if_neg c43] at H
                          have c43b0 : (a0_0 == 9) = false := beq_eq_false_iff_ne.mpr c43
                          have c43b1 : (a0_0 != 9) = true := bne_iff_ne.mpr c43
                          by_cases c46 : a0_0 = 10
                          · rw [if_pos c46] at H
                            have c46b0 : (a0_0 == 10) = true := beq_iff_eq.mpr c46
                            have c46b1 : (a0_0 != 10) = false := bne_eq_false_iff_eq.mpr c46
                            clear c46
                            replace H := Option.bind_eq_some_iff.mp H
                            obtain ⟨t149, A470, H⟩ := H
                            replace H : (some t149) = some r := H
                            have A47 := Aside0.mk A470
                            clear A470
                            obtain rfl := Option.some.inj H
                            have hcz48_0 : wc.cell? ⟨gb138, 0, none⟩ = some (.int .i64 a0_0) := (blk_cell BK138.out 0).trans rfl
                            have hcz48_1 : wc.cell? ⟨gb138, 1, none⟩ = some (.int .i64 a0_1) := (blk_cell BK138.out 1).trans rfl
                            have hcz48_2 : wc.cell? ⟨gb138, 2, none⟩ = some (.int .i64 a0_2) := (blk_cell BK138.out 2).trans rfl
                            have hcz48_3 : wc.cell? ⟨gb138, 3, none⟩ = some (.int .i64 a0_3) := (blk_cell BK138.out 3).trans rfl
                            have hcz48_4 : wc.cell? ⟨gb138, 4, none⟩ = some (.int .i64 a0_4) := (blk_cell BK138.out 4).trans rfl
                            have hcz48_5 : wc.cell? ⟨gb138, 5, none⟩ = some (.int .i64 a0_5) := (blk_cell BK138.out 5).trans rfl
                            have hfz48_0 := blk_frozen BK138.out 0
                            have hfz48_1 := blk_frozen BK138.out 1
                            have hfz48_2 := blk_frozen BK138.out 2
                            have hfz48_3 := blk_frozen BK138.out 3
                            have hfz48_4 := blk_frozen BK138.out 4
                            have hfz48_5 := blk_frozen BK138.out 5
                            go_wp2_with (first | ((with_reducible refine gate_callee (f := 60) rfl ?_); refine goesL_ (some 96) rfl rfl Try.func60 (by kernel_rfl) rfl #[.int .i64 a0_1, .int .i64 a2, .int .i64 a3] rfl (by (try simp only [List.map_toArray, List.map_cons, List.map_nil]); first | done | rfl | (simp only [List.length_drop, List.length_take]; rfl)) ?_; (with_reducible refine (spec_Rem.calls kj5 a0_1 a2 a3 t149 _ A47.out).mono ?_); rintro e w' ⟨rfl, ⟨nd, rfl⟩⟩; refine ⟨_, rfl, ?_⟩))
                            go_ret
                            exact ⟨by first | rfl | (simp [errW_none, errW_some] <;> rfl) | (simp [*, errW_none, errW_some] <;> rfl), by repeat (first | (with_reducible first | exact HB.out | apply below_alloc | apply pw_below_drewN | apply below_drew1 | refine below_set ?_ GE138.out) | exact HB.out)⟩
                          · rw [if_neg c46] at H
                            have c46b0 : (a0_0 == 10) = false := beq_eq_false_iff_ne.mpr c46
                            have c46b1 : (a0_0 != 10) = true := bne_iff_ne.mpr c46
                            by_cases c49 : a0_0 = 11
                            · rw [if_pos c49] at H
                              have c49b0 : (a0_0 == 11) = true := beq_iff_eq.mpr c49
                              have c49b1 : (a0_0 != 11) = false := bne_eq_false_iff_eq.mpr c49
                              clear c49
                              replace H := Option.bind_eq_some_iff.mp H
                              obtain ⟨t150, A500, H⟩ := H
                              replace H : (some t150) = some r := H
                              have A50 := Aside0.mk A500
                              clear A500
                              obtain rfl := Option.some.inj H
                              have hcz51_0 : wc.cell? ⟨gb138, 0, none⟩ = some (.int .i64 a0_0) := (blk_cell BK138.out 0).trans rfl
                              have hcz51_1 : wc.cell? ⟨gb138, 1, none⟩ = some (.int .i64 a0_1) := (blk_cell BK138.out 1).trans rfl
                              have hcz51_2 : wc.cell? ⟨gb138, 2, none⟩ = some (.int .i64 a0_2) := (blk_cell BK138.out 2).trans rfl
                              have hcz51_3 : wc.cell? ⟨gb138, 3, none⟩ = some (.int .i64 a0_3) := (blk_cell BK138.out 3).trans rfl
                              have hcz51_4 : wc.cell? ⟨gb138, 4, none⟩ = some (.int .i64 a0_4) := (blk_cell BK138.out 4).trans rfl
                              have hcz51_5 : wc.cell? ⟨gb138, 5, none⟩ = some (.int .i64 a0_5) := (blk_cell BK138.out 5).trans rfl
                              have hfz51_0 := blk_frozen BK138.out 0
                              have hfz51_1 := blk_frozen BK138.out 1
                              have hfz51_2 := blk_frozen BK138.out 2
                              have hfz51_3 := blk_frozen BK138.out 3
                              have hfz51_4 := blk_frozen BK138.out 4
                              have hfz51_5 := blk_frozen BK138.out 5
                              go_wp2_with (first | ((with_reducible refine gate_callee (f := 61) rfl ?_); refine goesL_ (some 103) rfl rfl Try.func61 (by kernel_rfl) rfl #[.int .i64 a0_1, .int .i64 a2, .int .i64 a3] rfl (by (try simp only [List.map_toArray, List.map_cons, List.map_nil]); first | done | rfl | (simp only [List.length_drop, List.length_take]; rfl)) ?_; (with_reducible refine (spec_Shl.calls kj5 a0_1 a2 a3 t150 _ A50.out).mono ?_); rintro e w' ⟨rfl, ⟨nd, rfl⟩⟩; refine ⟨_, rfl, ?_⟩))
                              go_ret
                              exact ⟨by first | rfl | (simp [errW_none, errW_some] <;> rfl) | (simp [*, errW_none, errW_some] <;> rfl), by repeat (first | (with_reducible first | exact HB.out | apply below_alloc | apply pw_below_drewN | apply below_drew1 | refine below_set ?_ GE138.out) | exact HB.out)⟩
                            · rw [if_neg c49] at H
                              have c49b0 : (a0_0 == 11) = false := beq_eq_false_iff_ne.mpr c49
                              have c49b1 : (a0_0 != 11) = true := bne_iff_ne.mpr c49
                              by_cases c52 : a0_0 = 12
                              · rw [if_pos c52] at H
                                have c52b0 : (a0_0 == 12) = true := beq_iff_eq.mpr c52
                                have c52b1 : (a0_0 != 12) = false := bne_eq_false_iff_eq.mpr c52
                                clear c52
                                replace H := Option.bind_eq_some_iff.mp H
                                obtain ⟨t151, A530, H⟩ := H
                                replace H : (some t151) = some r := H
                                have A53 := Aside0.mk A530
                                clear A530
                                obtain rfl := Option.some.inj H
                                have hcz54_0 : wc.cell? ⟨gb138, 0, none⟩ = some (.int .i64 a0_0) := (blk_cell BK138.out 0).trans rfl
                                have hcz54_1 : wc.cell? ⟨gb138, 1, none⟩ = some (.int .i64 a0_1) := (blk_cell BK138.out 1).trans rfl
                                have hcz54_2 : wc.cell? ⟨gb138, 2, none⟩ = some (.int .i64 a0_2) := (blk_cell BK138.out 2).trans rfl
                                have hcz54_3 : wc.cell? ⟨gb138, 3, none⟩ = some (.int .i64 a0_3) := (blk_cell BK138.out 3).trans rfl
                                have hcz54_4 : wc.cell? ⟨gb138, 4, none⟩ = some (.int .i64 a0_4) := (blk_cell BK138.out 4).trans rfl
                                have hcz54_5 : wc.cell? ⟨gb138, 5, none⟩ = some (.int .i64 a0_5) := (blk_cell BK138.out 5).trans rfl
                                have hfz54_0 := blk_frozen BK138.out 0
                                have hfz54_1 := blk_frozen BK138.out 1
                                have hfz54_2 := blk_frozen BK138.out 2
                                have hfz54_3 := blk_frozen BK138.out 3
                                have hfz54_4 := blk_frozen BK138.out 4
                                have hfz54_5 := blk_frozen BK138.out 5
                                go_wp2_with (first | ((with_reducible refine gate_callee (f := 62) rfl ?_); refine goesL_ (some 110) rfl rfl Try.func62 (by kernel_rfl) rfl #[.int .i64 a0_1, .int .i64 a2, .int .i64 a3] rfl (by (try simp only [List.map_toArray, List.map_cons, List.map_nil]); first | done | rfl | (simp only [List.length_drop, List.length_take]; rfl)) ?_; (with_reducible refine (spec_Shr.calls kj5 a0_1 a2 a3 t151 _ A53.out).mono ?_); rintro e w' ⟨rfl, ⟨nd, rfl⟩⟩; refine ⟨_, rfl, ?_⟩))
                                go_ret
                                exact ⟨by first | rfl | (simp [errW_none, errW_some] <;> rfl) | (simp [*, errW_none, errW_some] <;> rfl), by repeat (first | (with_reducible first | exact HB.out | apply below_alloc | apply pw_below_drewN | apply below_drew1 | refine below_set ?_ GE138.out) | exact HB.out)⟩
                              · rw [if_neg c52] at H
                                have c52b0 : (a0_0 == 12) = false := beq_eq_false_iff_ne.mpr c52
                                have c52b1 : (a0_0 != 12) = true := bne_iff_ne.mpr c52
                                by_cases c55 : a0_0 = 13
                                · rw [if_pos c55] at H
                                  have c55b0 : (a0_0 == 13) = true := beq_iff_eq.mpr c55
                                  have c55b1 : (a0_0 != 13) = false := bne_eq_false_iff_eq.mpr c55
                                  clear c55
                                  replace H := Option.bind_eq_some_iff.mp H
                                  obtain ⟨t152, A560, H⟩ := H
                                  replace H : (some t152) = some r := H
                                  have A56 := Aside0.mk A560
                                  clear A560
                                  obtain rfl := Option.some.inj H
                                  have hcz57_0 : wc.cell? ⟨gb138, 0, none⟩ = some (.int .i64 a0_0) := (blk_cell BK138.out 0).trans rfl
                                  have hcz57_1 : wc.cell? ⟨gb138, 1, none⟩ = some (.int .i64 a0_1) := (blk_cell BK138.out 1).trans rfl
                                  have hcz57_2 : wc.cell? ⟨gb138, 2, none⟩ = some (.int .i64 a0_2) := (blk_cell BK138.out 2).trans rfl
                                  have hcz57_3 : wc.cell? ⟨gb138, 3, none⟩ = some (.int .i64 a0_3) := (blk_cell BK138.out 3).trans rfl
                                  have hcz57_4 : wc.cell? ⟨gb138, 4, none⟩ = some (.int .i64 a0_4) := (blk_cell BK138.out 4).trans rfl
                                  have hcz57_5 : wc.cell? ⟨gb138, 5, none⟩ = some (.int .i64 a0_5) := (blk_cell BK138.out 5).trans rfl
                                  have hfz57_0 := blk_frozen BK138.out 0
                                  have hfz57_1 := blk_frozen BK138.out 1
                                  have hfz57_2 := blk_frozen BK138.out 2
                                  have hfz57_3 := blk_frozen BK138.out 3
                                  have hfz57_4 := blk_frozen BK138.out 4
                                  have hfz57_5 := blk_frozen BK138.out 5
                                  go_wp2_with (first | ((with_reducible refine gate_callee (f := 63) rfl ?_); refine goesL_ (some 116) rfl rfl Try.func63 (by kernel_rfl) rfl #[.bool (a2 == a3)] rfl (by (try simp only [List.map_toArray, List.map_cons, List.map_nil]); first | done | rfl | (simp only [List.length_drop, List.length_take]; rfl)) ?_; (with_reducible refine (spec_l01Bool.calls (a2 == a3) t152 _ A56.out).mono ?_); rintro e w' ⟨rfl, ⟨nd, rfl⟩⟩; refine ⟨_, rfl, ?_⟩))
                                  go_ret
                                  exact ⟨by first | rfl | (simp [errW_none, errW_some] <;> rfl) | (simp [*, errW_none, errW_some] <;> rfl), by repeat (first | (with_reducible first | exact HB.out | apply below_alloc | apply pw_below_drewN | apply below_drew1 | refine below_set ?_ GE138.out) | exact HB.out)⟩
                                · rw [if_neg c55] at H
                                  have c55b0 : (a0_0 == 13) = false := beq_eq_false_iff_ne.mpr c55
                                  have c55b1 : (a0_0 != 13) = true := bne_iff_ne.mpr c55
                                  by_cases c58 : a0_0 = 14
                                  · rw [if_pos c58] at H
                                    have c58b0 : (a0_0 == 14) = true := beq_iff_eq.mpr c58
                                    have c58b1 : (a0_0 != 14) = false := bne_eq_false_iff_eq.mpr c58
                                    clear c58
                                    replace H := Option.bind_eq_some_iff.mp H
                                    obtain ⟨t153, A590, H⟩ := H
                                    replace H : (some t153) = some r := H
                                    have A59 := Aside0.mk A590
                                    clear A590
                                    obtain rfl := Option.some.inj H
                                    have hcz60_0 : wc.cell? ⟨gb138, 0, none⟩ = some (.int .i64 a0_0) := (blk_cell BK138.out 0).trans rfl
                                    have hcz60_1 : wc.cell? ⟨gb138, 1, none⟩ = some (.int .i64 a0_1) := (blk_cell BK138.out 1).trans rfl
                                    have hcz60_2 : wc.cell? ⟨gb138, 2, none⟩ = some (.int .i64 a0_2) := (blk_cell BK138.out 2).trans rfl
                                    have hcz60_3 : wc.cell? ⟨gb138, 3, none⟩ = some (.int .i64 a0_3) := (blk_cell BK138.out 3).trans rfl
                                    have hcz60_4 : wc.cell? ⟨gb138, 4, none⟩ = some (.int .i64 a0_4) := (blk_cell BK138.out 4).trans rfl
                                    have hcz60_5 : wc.cell? ⟨gb138, 5, none⟩ = some (.int .i64 a0_5) := (blk_cell BK138.out 5).trans rfl
                                    have hfz60_0 := blk_frozen BK138.out 0
                                    have hfz60_1 := blk_frozen BK138.out 1
                                    have hfz60_2 := blk_frozen BK138.out 2
                                    have hfz60_3 := blk_frozen BK138.out 3
                                    have hfz60_4 := blk_frozen BK138.out 4
                                    have hfz60_5 := blk_frozen BK138.out 5
                                    go_wp2_with (first | ((with_reducible refine gate_callee (f := 64) rfl ?_); refine goesL_ (some 122) rfl rfl Try.func64 (by kernel_rfl) rfl #[.int .i64 a1, .int .i64 a2, .int .i64 a3] rfl (by (try simp only [List.map_toArray, List.map_cons, List.map_nil]); first | done | rfl | (simp only [List.length_drop, List.length_take]; rfl)) ?_; (with_reducible refine (spec_Less.calls kj5 a1 a2 a3 t153 _ A59.out).mono ?_); rintro e w' ⟨rfl, ⟨nd, rfl⟩⟩; refine ⟨_, rfl, ?_⟩))
                                    go_ret
                                    exact ⟨by first | rfl | (simp [errW_none, errW_some] <;> rfl) | (simp [*, errW_none, errW_some] <;> rfl), by repeat (first | (with_reducible first | exact HB.out | apply below_alloc | apply pw_below_drewN | apply below_drew1 | refine below_set ?_ GE138.out) | exact HB.out)⟩
                                  · rw [if_neg c58] at H
                                    have c58b0 : (a0_0 == 14) = false := beq_eq_false_iff_ne.mpr c58
                                    have c58b1 : (a0_0 != 14) = true := bne_iff_ne.mpr c58
                                    by_cases c61 : a0_0 = 15
                                    · rw [if_pos c61] at H
                                      have c61b0 : (a0_0 == 15) = true := beq_iff_eq.mpr c61
                                      have c61b1 : (a0_0 != 15) = false := bne_eq_false_iff_eq.mpr c61
                                      clear c61
                                      replace H := Option.bind_eq_some_iff.mp H
                                      obtain ⟨t154, A620, H⟩ := H
                                      replace H : (some t154) = some r := H
                                      have A62 := Aside0.mk A620
                                      clear A620
                                      obtain rfl := Option.some.inj H
                                      have hcz63_0 : wc.cell? ⟨gb138, 0, none⟩ = some (.int .i64 a0_0) := (blk_cell BK138.out 0).trans rfl
                                      have hcz63_1 : wc.cell? ⟨gb138, 1, none⟩ = some (.int .i64 a0_1) := (blk_cell BK138.out 1).trans rfl
                                      have hcz63_2 : wc.cell? ⟨gb138, 2, none⟩ = some (.int .i64 a0_2) := (blk_cell BK138.out 2).trans rfl
                                      have hcz63_3 : wc.cell? ⟨gb138, 3, none⟩ = some (.int .i64 a0_3) := (blk_cell BK138.out 3).trans rfl
                                      have hcz63_4 : wc.cell? ⟨gb138, 4, none⟩ = some (.int .i64 a0_4) := (blk_cell BK138.out 4).trans rfl
                                      have hcz63_5 : wc.cell? ⟨gb138, 5, none⟩ = some (.int .i64 a0_5) := (blk_cell BK138.out 5).trans rfl
                                      have hfz63_0 := blk_frozen BK138.out 0
                                      have hfz63_1 := blk_frozen BK138.out 1
                                      have hfz63_2 := blk_frozen BK138.out 2
                                      have hfz63_3 := blk_frozen BK138.out 3
                                      have hfz63_4 := blk_frozen BK138.out 4
                                      have hfz63_5 := blk_frozen BK138.out 5
                                      go_wp2_with (first | ((with_reducible refine gate_callee (f := 65) rfl ?_); refine goesL_ (some 128) rfl rfl Try.func65 (by kernel_rfl) rfl #[.int .i64 a1, .int .i64 a2, .int .i64 a3] rfl (by (try simp only [List.map_toArray, List.map_cons, List.map_nil]); first | done | rfl | (simp only [List.length_drop, List.length_take]; rfl)) ?_; (with_reducible refine (spec_LessSigned.calls kj5 a1 a2 a3 t154 _ A62.out).mono ?_); rintro e w' ⟨rfl, ⟨nd, rfl⟩⟩; refine ⟨_, rfl, ?_⟩))
                                      go_ret
                                      exact ⟨by first | rfl | (simp [errW_none, errW_some] <;> rfl) | (simp [*, errW_none, errW_some] <;> rfl), by repeat (first | (with_reducible first | exact HB.out | apply below_alloc | apply pw_below_drewN | apply below_drew1 | refine below_set ?_ GE138.out) | exact HB.out)⟩
                                    · rw [if_neg c61] at H
                                      have c61b0 : (a0_0 == 15) = false := beq_eq_false_iff_ne.mpr c61
                                      have c61b1 : (a0_0 != 15) = true := bne_iff_ne.mpr c61
                                      by_cases c64 : a0_0 = 16
                                      · rw [if_pos c64] at H
                                        have c64b0 : (a0_0 == 16) = true := beq_iff_eq.mpr c64
                                        have c64b1 : (a0_0 != 16) = false := bne_eq_false_iff_eq.mpr c64
                                        clear c64
                                        by_cases c65 : a0_1 < a1
                                        · rw [if_pos c65] at H
                                          have c65b0 : decide (a0_1 < a1) = true := decide_eq_true c65
                                          clear c65
                                          obtain rfl := Option.some.inj H
                                          have hcz66_0 : wc.cell? ⟨gb138, 0, none⟩ = some (.int .i64 a0_0) := (blk_cell BK138.out 0).trans rfl
                                          have hcz66_1 : wc.cell? ⟨gb138, 1, none⟩ = some (.int .i64 a0_1) := (blk_cell BK138.out 1).trans rfl
                                          have hcz66_2 : wc.cell? ⟨gb138, 2, none⟩ = some (.int .i64 a0_2) := (blk_cell BK138.out 2).trans rfl
                                          have hcz66_3 : wc.cell? ⟨gb138, 3, none⟩ = some (.int .i64 a0_3) := (blk_cell BK138.out 3).trans rfl
                                          have hcz66_4 : wc.cell? ⟨gb138, 4, none⟩ = some (.int .i64 a0_4) := (blk_cell BK138.out 4).trans rfl
                                          have hcz66_5 : wc.cell? ⟨gb138, 5, none⟩ = some (.int .i64 a0_5) := (blk_cell BK138.out 5).trans rfl
                                          have hfz66_0 := blk_frozen BK138.out 0
                                          have hfz66_1 := blk_frozen BK138.out 1
                                          have hfz66_2 := blk_frozen BK138.out 2
                                          have hfz66_3 := blk_frozen BK138.out 3
                                          have hfz66_4 := blk_frozen BK138.out 4
                                          have hfz66_5 := blk_frozen BK138.out 5
                                          go_wp2
                                          go_ret
                                          exact ⟨by first | rfl | (simp [errW_none, errW_some] <;> rfl) | (simp [*, errW_none, errW_some] <;> rfl), by repeat (first | (with_reducible first | exact HB.out | apply below_alloc | apply pw_below_drewN | apply below_drew1 | refine below_set ?_ GE138.out) | exact HB.out)⟩
                                        · rw [if_neg c65] at H
                                          have c65b0 : decide (a0_1 < a1) = false := decide_eq_false c65
                                          clear c65
                                          replace H := Option.bind_eq_some_iff.mp H
                                          obtain ⟨t155, A670, H⟩ := H
                                          replace H : (some (wrap64 ((wrap64 (a2 * t155)) + a3))) = some r := H
                                          have A67 := Aside0.mk A670
                                          clear A670
                                          obtain rfl := Option.some.inj H
                                          have hcz68_0 : wc.cell? ⟨gb138, 0, none⟩ = some (.int .i64 a0_0) := (blk_cell BK138.out 0).trans rfl
                                          have hcz68_1 : wc.cell? ⟨gb138, 1, none⟩ = some (.int .i64 a0_1) := (blk_cell BK138.out 1).trans rfl
                                          have hcz68_2 : wc.cell? ⟨gb138, 2, none⟩ = some (.int .i64 a0_2) := (blk_cell BK138.out 2).trans rfl
                                          have hcz68_3 : wc.cell? ⟨gb138, 3, none⟩ = some (.int .i64 a0_3) := (blk_cell BK138.out 3).trans rfl
                                          have hcz68_4 : wc.cell? ⟨gb138, 4, none⟩ = some (.int .i64 a0_4) := (blk_cell BK138.out 4).trans rfl
                                          have hcz68_5 : wc.cell? ⟨gb138, 5, none⟩ = some (.int .i64 a0_5) := (blk_cell BK138.out 5).trans rfl
                                          have hfz68_0 := blk_frozen BK138.out 0
                                          have hfz68_1 := blk_frozen BK138.out 1
                                          have hfz68_2 := blk_frozen BK138.out 2
                                          have hfz68_3 := blk_frozen BK138.out 3
                                          have hfz68_4 := blk_frozen BK138.out 4
                                          have hfz68_5 := blk_frozen BK138.out 5
                                          go_wp2_with (first | ((with_reducible refine gate_callee (f := 66) rfl ?_); refine goesL_ (some 141) rfl rfl Try.func66 (by kernel_rfl) rfl #[.int .i64 (wrap64 (a0_1 - a1))] rfl (by (try simp only [List.map_toArray, List.map_cons, List.map_nil]); first | done | rfl | (simp only [List.length_drop, List.length_take]; rfl)) ?_; (with_reducible refine (spec_l01Pow2.calls kj5 (wrap64 (a0_1 - a1)) t155 _ A67.out).mono ?_); rintro e w' ⟨rfl, ⟨nd, rfl⟩⟩; refine ⟨_, rfl, ?_⟩))
                                          go_ret
                                          exact ⟨by first | rfl | (simp [errW_none, errW_some] <;> rfl) | (simp [*, errW_none, errW_some] <;> rfl), by repeat (first | (with_reducible first | exact HB.out | apply below_alloc | apply pw_below_drewN | apply below_drew1 | refine below_set ?_ GE138.out) | exact HB.out)⟩
                                      · rw [if_neg c64] at H
                                        have c64b0 : (a0_0 == 16) = false := beq_eq_false_iff_ne.mpr c64
                                        have c64b1 : (a0_0 != 16) = true := bne_iff_ne.mpr c64
                                        by_cases c69 : a0_0 = 17
                                        · rw [if_pos c69] at H
                                          have c69b0 : (a0_0 == 17) = true := beq_iff_eq.mpr c69
                                          have c69b1 : (a0_0 != 17) = false := bne_eq_false_iff_eq.mpr c69
                                          clear c69
                                          replace H := Option.bind_eq_some_iff.mp H
                                          obtain ⟨t156, A700, H⟩ := H
                                          replace H : (some t156) = some r := H
                                          have A70 := Aside0.mk A700
                                          clear A700
                                          obtain rfl := Option.some.inj H
                                          have hcz71_0 : wc.cell? ⟨gb138, 0, none⟩ = some (.int .i64 a0_0) := (blk_cell BK138.out 0).trans rfl
                                          have hcz71_1 : wc.cell? ⟨gb138, 1, none⟩ = some (.int .i64 a0_1) := (blk_cell BK138.out 1).trans rfl
                                          have hcz71_2 : wc.cell? ⟨gb138, 2, none⟩ = some (.int .i64 a0_2) := (blk_cell BK138.out 2).trans rfl
                                          have hcz71_3 : wc.cell? ⟨gb138, 3, none⟩ = some (.int .i64 a0_3) := (blk_cell BK138.out 3).trans rfl
                                          have hcz71_4 : wc.cell? ⟨gb138, 4, none⟩ = some (.int .i64 a0_4) := (blk_cell BK138.out 4).trans rfl
                                          have hcz71_5 : wc.cell? ⟨gb138, 5, none⟩ = some (.int .i64 a0_5) := (blk_cell BK138.out 5).trans rfl
                                          have hfz71_0 := blk_frozen BK138.out 0
                                          have hfz71_1 := blk_frozen BK138.out 1
                                          have hfz71_2 := blk_frozen BK138.out 2
                                          have hfz71_3 := blk_frozen BK138.out 3
                                          have hfz71_4 := blk_frozen BK138.out 4
                                          have hfz71_5 := blk_frozen BK138.out 5
                                          go_wp2_with (first | ((with_reducible refine gate_callee (f := 67) rfl ?_); refine goesL_ (some 153) rfl rfl Try.func67 (by kernel_rfl) rfl #[.int .i64 a1, .int .i64 a2, .int .i64 a0_2, .int .i64 a0_1] rfl (by (try simp only [List.map_toArray, List.map_cons, List.map_nil]); first | done | rfl | (simp only [List.length_drop, List.length_take]; rfl)) ?_; (with_reducible refine (spec_Slice.calls kj5 a1 a2 a0_2 a0_1 t156 _ A70.out).mono ?_); rintro e w' ⟨rfl, ⟨nd, rfl⟩⟩; refine ⟨_, rfl, ?_⟩))
                                          go_ret
                                          exact ⟨by first | rfl | (simp [errW_none, errW_some] <;> rfl) | (simp [*, errW_none, errW_some] <;> rfl), by repeat (first | (with_reducible first | exact HB.out | apply below_alloc | apply pw_below_drewN | apply below_drew1 | refine below_set ?_ GE138.out) | exact HB.out)⟩
                                        · rw [if_neg c69] at H
                                          have c69b0 : (a0_0 == 17) = false := beq_eq_false_iff_ne.mpr c69
                                          have c69b1 : (a0_0 != 17) = true := bne_iff_ne.mpr c69
                                          by_cases c72 : a0_0 = 18
                                          · rw [if_pos c72] at H
                                            have c72b0 : (a0_0 == 18) = true := beq_iff_eq.mpr c72
                                            have c72b1 : (a0_0 != 18) = false := bne_eq_false_iff_eq.mpr c72
                                            clear c72
                                            by_cases c73 : a2 = 1
                                            · rw [if_pos c73] at H
                                              have c73b0 : (a2 == 1) = true := beq_iff_eq.mpr c73
                                              have c73b1 : (a2 != 1) = false := bne_eq_false_iff_eq.mpr c73
                                              clear c73
                                              obtain rfl := Option.some.inj H
                                              have hcz74_0 : wc.cell? ⟨gb138, 0, none⟩ = some (.int .i64 a0_0) := (blk_cell BK138.out 0).trans rfl
                                              have hcz74_1 : wc.cell? ⟨gb138, 1, none⟩ = some (.int .i64 a0_1) := (blk_cell BK138.out 1).trans rfl
                                              have hcz74_2 : wc.cell? ⟨gb138, 2, none⟩ = some (.int .i64 a0_2) := (blk_cell BK138.out 2).trans rfl
                                              have hcz74_3 : wc.cell? ⟨gb138, 3, none⟩ = some (.int .i64 a0_3) := (blk_cell BK138.out 3).trans rfl
                                              have hcz74_4 : wc.cell? ⟨gb138, 4, none⟩ = some (.int .i64 a0_4) := (blk_cell BK138.out 4).trans rfl
                                              have hcz74_5 : wc.cell? ⟨gb138, 5, none⟩ = some (.int .i64 a0_5) := (blk_cell BK138.out 5).trans rfl
                                              have hfz74_0 := blk_frozen BK138.out 0
                                              have hfz74_1 := blk_frozen BK138.out 1
                                              have hfz74_2 := blk_frozen BK138.out 2
                                              have hfz74_3 := blk_frozen BK138.out 3
                                              have hfz74_4 := blk_frozen BK138.out 4
                                              have hfz74_5 := blk_frozen BK138.out 5
                                              go_wp2
                                              go_ret
                                              exact ⟨by first | rfl | (simp [errW_none, errW_some] <;> rfl) | (simp [*, errW_none, errW_some] <;> rfl), by repeat (first | (with_reducible first | exact HB.out | apply below_alloc | apply pw_below_drewN | apply below_drew1 | refine below_set ?_ GE138.out) | exact HB.out)⟩
                                            · rw [if_neg c73] at H
                                              have c73b0 : (a2 == 1) = false := beq_eq_false_iff_ne.mpr c73
                                              have c73b1 : (a2 != 1) = true := bne_iff_ne.mpr c73
                                              obtain rfl := Option.some.inj H
                                              have hcz75_0 : wc.cell? ⟨gb138, 0, none⟩ = some (.int .i64 a0_0) := (blk_cell BK138.out 0).trans rfl
                                              have hcz75_1 : wc.cell? ⟨gb138, 1, none⟩ = some (.int .i64 a0_1) := (blk_cell BK138.out 1).trans rfl
                                              have hcz75_2 : wc.cell? ⟨gb138, 2, none⟩ = some (.int .i64 a0_2) := (blk_cell BK138.out 2).trans rfl
                                              have hcz75_3 : wc.cell? ⟨gb138, 3, none⟩ = some (.int .i64 a0_3) := (blk_cell BK138.out 3).trans rfl
                                              have hcz75_4 : wc.cell? ⟨gb138, 4, none⟩ = some (.int .i64 a0_4) := (blk_cell BK138.out 4).trans rfl
                                              have hcz75_5 : wc.cell? ⟨gb138, 5, none⟩ = some (.int .i64 a0_5) := (blk_cell BK138.out 5).trans rfl
                                              have hfz75_0 := blk_frozen BK138.out 0
                                              have hfz75_1 := blk_frozen BK138.out 1
                                              have hfz75_2 := blk_frozen BK138.out 2
                                              have hfz75_3 := blk_frozen BK138.out 3
                                              have hfz75_4 := blk_frozen BK138.out 4
                                              have hfz75_5 := blk_frozen BK138.out 5
                                              go_wp2
                                              go_ret
                                              exact ⟨by first | rfl | (simp [errW_none, errW_some] <;> rfl) | (simp [*, errW_none, errW_some] <;> rfl), by repeat (first | (with_reducible first | exact HB.out | apply below_alloc | apply pw_below_drewN | apply below_drew1 | refine below_set ?_ GE138.out) | exact HB.out)⟩
                                          · rw [if_neg c72] at H
                                            have c72b0 : (a0_0 == 18) = false := beq_eq_false_iff_ne.mpr c72
                                            have c72b1 : (a0_0 != 18) = true := bne_iff_ne.mpr c72
                                            obtain rfl := Option.some.inj H
                                            have hcz76_0 : wc.cell? ⟨gb138, 0, none⟩ = some (.int .i64 a0_0) := (blk_cell BK138.out 0).trans rfl
                                            have hcz76_1 : wc.cell? ⟨gb138, 1, none⟩ = some (.int .i64 a0_1) := (blk_cell BK138.out 1).trans rfl
                                            have hcz76_2 : wc.cell? ⟨gb138, 2, none⟩ = some (.int .i64 a0_2) := (blk_cell BK138.out 2).trans rfl
                                            have hcz76_3 : wc.cell? ⟨gb138, 3, none⟩ = some (.int .i64 a0_3) := (blk_cell BK138.out 3).trans rfl
                                            have hcz76_4 : wc.cell? ⟨gb138, 4, none⟩ = some (.int .i64 a0_4) := (blk_cell BK138.out 4).trans rfl
                                            have hcz76_5 : wc.cell? ⟨gb138, 5, none⟩ = some (.int .i64 a0_5) := (blk_cell BK138.out 5).trans rfl
                                            have hfz76_0 := blk_frozen BK138.out 0
                                            have hfz76_1 := blk_frozen BK138.out 1
                                            have hfz76_2 := blk_frozen BK138.out 2
                                            have hfz76_3 := blk_frozen BK138.out 3
                                            have hfz76_4 := blk_frozen BK138.out 4
                                            have hfz76_5 := blk_frozen BK138.out 5
                                            go_wp2
                                            go_ret
                                            exact ⟨by first | rfl | (simp [errW_none, errW_some] <;> rfl) | (simp [*, errW_none, errW_some] <;> rfl), by repeat (first | (with_reducible first | exact HB.out | apply below_alloc | apply pw_below_drewN | apply below_drew1 | refine below_set ?_ GE138.out) | exact HB.out)⟩

end Go.Proofs.Ytdebihfmceclkaa.PFnExactApply
