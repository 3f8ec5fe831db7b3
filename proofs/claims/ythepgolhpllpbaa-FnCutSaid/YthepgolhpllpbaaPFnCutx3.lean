/- Written by a program of this session over the loaded program: Go functions as plain Lean functions, and that a call comes to what they say. -/
import Derived.Test.YthepgolhpllpbaaPFnCutx0
import Derived.Test.YthepgolhpllpbaaPFnCutx1
import Derived.Test.YthepgolhpllpbaaPFnCutx2
namespace Go.Proofs.Ythepgolhpllpbaa.PFnCut
open Go.RowKit Go.Proofs.YthepgolhpllpbaaW.PrintWords Go.Proofs.YthepgolhpllpbaaW.PrintLast Go.Proofs.YthepgolhpllpbaaW.PrintMore
attribute [local go_sem] max2_int min2_int max_two min_two max_three min_three max_four min_four   -- for this text's walks alone
set_option linter.unusedVariables false
set_option linter.unusedSimpArgs false

/-! ### laws_FnCut: function 11 -/
mutual
def laws_FnCut.j0 : Nat → List Int → Int → Int → Int → Int → Bool → Option (Bool)
  | 0, _, _, _, _, _, _ => none
  | k + 1, x0, x3, x4, x5, x6, x35 => if x35 = true then ((impl_Join.f x3 x4 x5 x6).bind fun t197 => (some (t197 == 0))) else ((impl_Join.f x3 x4 x5 x6).bind fun t198 => ((impl_WordOk.f (wrap64 (x3 + x5)) t198).bind fun t199 => (if t199 = true then ((impl_Slice.f (wrap64 (x3 + x5)) t198 x5 x3).bind fun t200 => (if t200 = x4 then ((impl_Slice.f (wrap64 (x3 + x5)) t198 0 x5).bind fun t201 => (if t201 = x6 then ((impl_Slice.f (wrap64 (x3 + x5)) t198 1 (wrap64 (x3 + x5))).bind fun t202 => (laws_FnCut.j1 k x0 x3 x4 (t202 != 0))) else (laws_FnCut.j1 k x0 x3 x4 true))) else (laws_FnCut.j1 k x0 x3 x4 true))) else (laws_FnCut.j1 k x0 x3 x4 true))))
def laws_FnCut.j1 : Nat → List Int → Int → Int → Bool → Option (Bool)
  | 0, _, _, _, _ => none
  | k + 1, x0, x3, x4, x84 => if x84 = true then (some false) else ((laws_at.f x0 3).bind fun t203 => (if (wrap64 (x3 + 2)) = 0 then (none) else (if (Int.tmod t203 (wrap64 (x3 + 2))) < x3 then ((laws_pow.f k (Int.tmod t203 (wrap64 (x3 + 2)))).bind fun t204 => ((impl_Mul.f x3 x4 t204).bind fun t205 => ((laws_pow.f k (Int.tmod t203 (wrap64 (x3 + 2)))).bind fun t206 => ((impl_Div.f x3 x4 t206).bind fun t207 => (laws_FnCut.j2 k x3 x4 (Int.tmod t203 (wrap64 (x3 + 2))) t205 t207))))) else (laws_FnCut.j2 k x3 x4 (Int.tmod t203 (wrap64 (x3 + 2))) 0 0))))
def laws_FnCut.j2 : Nat → Int → Int → Int → Int → Int → Option (Bool)
  | 0, _, _, _, _, _ => none
  | k + 1, x3, x4, x8, x9, x10 => (laws_pow.f k x3).bind fun t208 => (if x8 ≥ t208 then ((impl_Shl.f x3 x4 x8).bind fun t209 => (some (t209 == 0))) else ((impl_Shl.f x3 x4 x8).bind fun t210 => (if t210 = x9 then ((impl_Shr.f x3 x4 x8).bind fun t211 => (some (t211 == x10))) else (some false))))
end
def laws_FnCut.f (k : Nat) (l0 : List Int) : Option (Bool) := (laws_big.f l0).bind fun t190 => (if t190 = true then (some true) else ((spec_DrawJoin.f k l0).bind fun bt191 => ((spec_WordOk.f k bt191.1 bt191.2.1).bind fun t195 => (if t195 = true then ((spec_WordOk.f k bt191.2.2.1 bt191.2.2.2).bind fun t196 => (if t196 = true then (laws_FnCut.j0 k l0 bt191.1 bt191.2.1 bt191.2.2.1 bt191.2.2.2 (decide ((wrap64 (bt191.1 + bt191.2.2.1)) > 8))) else (laws_FnCut.j0 k l0 bt191.1 bt191.2.1 bt191.2.2.1 bt191.2.2.2 true))) else (laws_FnCut.j0 k l0 bt191.1 bt191.2.1 bt191.2.2.1 bt191.2.2.2 true)))))
theorem laws_FnCut.mono_l : ∀ k, (∀ y0 y1 y2 y3 y4 y5, LeO (laws_FnCut.j0 k y0 y1 y2 y3 y4 y5) (laws_FnCut.j0 (k + 1) y0 y1 y2 y3 y4 y5)) ∧ (∀ y0 y1 y2 y3, LeO (laws_FnCut.j1 k y0 y1 y2 y3) (laws_FnCut.j1 (k + 1) y0 y1 y2 y3)) ∧ (∀ y0 y1 y2 y3 y4, LeO (laws_FnCut.j2 k y0 y1 y2 y3 y4) (laws_FnCut.j2 (k + 1) y0 y1 y2 y3 y4))
  | 0 => ⟨fun _ _ _ _ _ _ r h => by simp [laws_FnCut.j0] at h, fun _ _ _ _ r h => by simp [laws_FnCut.j1] at h, fun _ _ _ _ _ r h => by simp [laws_FnCut.j2] at h⟩
  | k + 1 => by
    obtain ⟨ih0, ih1, ih2⟩ := laws_FnCut.mono_l k
    refine ⟨?_, ?_, ?_⟩
    · intro y0 y1 y2 y3 y4 y5
      unfold laws_FnCut.j0
      repeat' first
      | (with_reducible exact ih0 _ _ _ _ _ _)
      | (with_reducible exact ih1 _ _ _ _)
      | (with_reducible exact ih2 _ _ _ _ _)
      | (with_reducible exact laws_pow.mono _ _)
      | (with_reducible exact spec_DrawJoin.mono _ _)
      | (with_reducible exact spec_WordOk.mono _ _ _)
      | (with_reducible exact LeO.refl _)
      | (with_reducible exact LeO.none _)
      | (with_reducible refine LeO.ite ?_ ?_)
      | (with_reducible refine LeO.bind ?_ (fun _ => ?_))
      | exact ih0 _ _ _ _ _ _
      | exact ih1 _ _ _ _
      | exact ih2 _ _ _ _ _
      | exact laws_pow.mono _ _
      | exact spec_DrawJoin.mono _ _
      | exact spec_WordOk.mono _ _ _
      | exact LeO.none _
      | refine LeO.ite ?_ ?_
      | refine LeO.bind ?_ (fun _ => ?_)
    · intro y0 y1 y2 y3
      unfold laws_FnCut.j1
      repeat' first
      | (with_reducible exact ih0 _ _ _ _ _ _)
      | (with_reducible exact ih1 _ _ _ _)
      | (with_reducible exact ih2 _ _ _ _ _)
      | (with_reducible exact laws_pow.mono _ _)
      | (with_reducible exact spec_DrawJoin.mono _ _)
      | (with_reducible exact spec_WordOk.mono _ _ _)
      | (with_reducible exact LeO.refl _)
      | (with_reducible exact LeO.none _)
      | (with_reducible refine LeO.ite ?_ ?_)
      | (with_reducible refine LeO.bind ?_ (fun _ => ?_))
      | exact ih0 _ _ _ _ _ _
      | exact ih1 _ _ _ _
      | exact ih2 _ _ _ _ _
      | exact laws_pow.mono _ _
      | exact spec_DrawJoin.mono _ _
      | exact spec_WordOk.mono _ _ _
      | exact LeO.none _
      | refine LeO.ite ?_ ?_
      | refine LeO.bind ?_ (fun _ => ?_)
    · intro y0 y1 y2 y3 y4
      unfold laws_FnCut.j2
      repeat' first
      | (with_reducible exact ih0 _ _ _ _ _ _)
      | (with_reducible exact ih1 _ _ _ _)
      | (with_reducible exact ih2 _ _ _ _ _)
      | (with_reducible exact laws_pow.mono _ _)
      | (with_reducible exact spec_DrawJoin.mono _ _)
      | (with_reducible exact spec_WordOk.mono _ _ _)
      | (with_reducible exact LeO.refl _)
      | (with_reducible exact LeO.none _)
      | (with_reducible refine LeO.ite ?_ ?_)
      | (with_reducible refine LeO.bind ?_ (fun _ => ?_))
      | exact ih0 _ _ _ _ _ _
      | exact ih1 _ _ _ _
      | exact ih2 _ _ _ _ _
      | exact laws_pow.mono _ _
      | exact spec_DrawJoin.mono _ _
      | exact spec_WordOk.mono _ _ _
      | exact LeO.none _
      | refine LeO.ite ?_ ?_
      | refine LeO.bind ?_ (fun _ => ?_)
theorem laws_FnCut.mono : ∀ a0 k, LeO (laws_FnCut.f k a0) (laws_FnCut.f (k + 1) a0) := by
  intro a0 k
  obtain ⟨ih0, ih1, ih2⟩ := laws_FnCut.mono_l k
  unfold laws_FnCut.f
  repeat' first
      | (with_reducible exact ih0 _ _ _ _ _ _)
      | (with_reducible exact ih1 _ _ _ _)
      | (with_reducible exact ih2 _ _ _ _ _)
      | (with_reducible exact laws_pow.mono _ _)
      | (with_reducible exact spec_DrawJoin.mono _ _)
      | (with_reducible exact spec_WordOk.mono _ _ _)
      | (with_reducible exact LeO.refl _)
      | (with_reducible exact LeO.none _)
      | (with_reducible refine LeO.ite ?_ ?_)
      | (with_reducible refine LeO.bind ?_ (fun _ => ?_))
      | exact ih0 _ _ _ _ _ _
      | exact ih1 _ _ _ _
      | exact ih2 _ _ _ _ _
      | exact laws_pow.mono _ _
      | exact spec_DrawJoin.mono _ _
      | exact spec_WordOk.mono _ _ _
      | exact LeO.none _
      | refine LeO.ite ?_ ?_
      | refine LeO.bind ?_ (fun _ => ?_)
set_option maxHeartbeats 8000000 in
set_option maxRecDepth 100000 in
theorem laws_FnCut.calls (k : Nat) (A0 : Option Addr) (c0 : Nat) (l0 : List Int) (r : Bool) (w : World) (hr0 : Kd.C (Kd.int .u8) w A0 l0.length l0) (hc0 : l0.length ≤ c0) (h : laws_FnCut.f k l0 = some r) :
    Calls Try.prog 11 #[.slice A0 l0.length c0] w fun e w' => e = .returned (.bool r) ∧ Below w.heap.size w w' := by
  have HR0 := Aside0.mk hr0
  have HC0 := Aside0.mk hc0
  clear hr0 hc0
  have HB := Aside0.mk (Below.refl w.heap.size w)
  have H : ((laws_big.f l0).bind fun t190 => (if t190 = true then (some true) else ((spec_DrawJoin.f k l0).bind fun bt191 => ((spec_WordOk.f k bt191.1 bt191.2.1).bind fun t195 => (if t195 = true then ((spec_WordOk.f k bt191.2.2.1 bt191.2.2.2).bind fun t196 => (if t196 = true then (laws_FnCut.j0 k l0 bt191.1 bt191.2.1 bt191.2.2.1 bt191.2.2.2 (decide ((wrap64 (bt191.1 + bt191.2.2.1)) > 8))) else (laws_FnCut.j0 k l0 bt191.1 bt191.2.1 bt191.2.2.1 bt191.2.2.2 true))) else (laws_FnCut.j0 k l0 bt191.1 bt191.2.1 bt191.2.2.1 bt191.2.2.2 true)))))) = some r := h
  clear h
  replace H := Option.bind_eq_some_iff.mp H
  obtain ⟨t190, A20, H⟩ := H
  replace H : (if t190 = true then (some true) else ((spec_DrawJoin.f k l0).bind fun bt191 => ((spec_WordOk.f k bt191.1 bt191.2.1).bind fun t195 => (if t195 = true then ((spec_WordOk.f k bt191.2.2.1 bt191.2.2.2).bind fun t196 => (if t196 = true then (laws_FnCut.j0 k l0 bt191.1 bt191.2.1 bt191.2.2.1 bt191.2.2.2 (decide ((wrap64 (bt191.1 + bt191.2.2.1)) > 8))) else (laws_FnCut.j0 k l0 bt191.1 bt191.2.1 bt191.2.2.1 bt191.2.2.2 true))) else (laws_FnCut.j0 k l0 bt191.1 bt191.2.1 bt191.2.2.1 bt191.2.2.2 true))))) = some r := H
  have A2 := Aside0.mk A20
  clear A20
  by_cases c3 : t190 = true
  · subst c3
    have H1 : (some true) = some r := by rw [if_pos rfl] at H; exact H
    clear H
    have H := H1
    clear H1
    obtain rfl := Option.some.inj H
    go_enter Try.func11, Try.ntmps11
    go_wp2_with (first | ((with_reducible refine gate_callee (f := 38) rfl ?_); refine goesL_ (some 12) rfl rfl Try.func38 (by kernel_rfl) rfl #[.slice A0 l0.length c0] rfl (by (try simp only [List.map_toArray, List.map_cons, List.map_nil]); first | done | rfl | (simp only [List.length_drop, List.length_take]; rfl)) ?_; (with_reducible refine (laws_big.calls _ _ l0 true _ ?side1 ?side2 A2.out).mono ?_); (case side1 => repeat (first | exact HR0.out | (with_reducible refine Kd.C_alloc ?_ _) | (with_reducible refine Kd.C_drewN ?_ _) | (with_reducible refine Kd.C_drew ?_))); (case side2 => exact HC0.out); rintro e w' ⟨rfl, ⟨nd, rfl⟩⟩; refine ⟨_, rfl, ?_⟩))
    go_ret
    exact ⟨by first | rfl | (simp [errW_none, errW_some] <;> rfl) | (simp [*, errW_none, errW_some] <;> rfl), by repeat (first | (with_reducible first | exact HB.out | apply below_alloc | apply pw_below_drewN | apply below_drew1) | exact HB.out)⟩
  · replace c3 := Bool.eq_false_iff.mpr c3
    subst c3
    have H1 : ((spec_DrawJoin.f k l0).bind fun bt191 => ((spec_WordOk.f k bt191.1 bt191.2.1).bind fun t195 => (if t195 = true then ((spec_WordOk.f k bt191.2.2.1 bt191.2.2.2).bind fun t196 => (if t196 = true then (laws_FnCut.j0 k l0 bt191.1 bt191.2.1 bt191.2.2.1 bt191.2.2.2 (decide ((wrap64 (bt191.1 + bt191.2.2.1)) > 8))) else (laws_FnCut.j0 k l0 bt191.1 bt191.2.1 bt191.2.2.1 bt191.2.2.2 true))) else (laws_FnCut.j0 k l0 bt191.1 bt191.2.1 bt191.2.2.1 bt191.2.2.2 true)))) = some r := by rw [if_neg (show ¬ (false = true) by decide)] at H; exact H
    clear H
    have H := H1
    clear H1
    replace H := Option.bind_eq_some_iff.mp H
    obtain ⟨⟨t191, t192, t193, t194⟩, A40, H⟩ := H
    replace H : ((spec_WordOk.f k t191 t192).bind fun t195 => (if t195 = true then ((spec_WordOk.f k t193 t194).bind fun t196 => (if t196 = true then (laws_FnCut.j0 k l0 t191 t192 t193 t194 (decide ((wrap64 (t191 + t193)) > 8))) else (laws_FnCut.j0 k l0 t191 t192 t193 t194 true))) else (laws_FnCut.j0 k l0 t191 t192 t193 t194 true))) = some r := H
    have A4 := Aside0.mk A40
    clear A40
    have HC5 := Aside0.mk H
    clear H
    go_enter Try.func11, Try.ntmps11
    go_upto_region 4 with (first | ((with_reducible refine gate_callee (f := 38) rfl ?_); refine goesL_ (some 12) rfl rfl Try.func38 (by kernel_rfl) rfl #[.slice A0 l0.length c0] rfl (by (try simp only [List.map_toArray, List.map_cons, List.map_nil]); first | done | rfl | (simp only [List.length_drop, List.length_take]; rfl)) ?_; (with_reducible refine (laws_big.calls _ _ l0 false _ ?side1 ?side2 A2.out).mono ?_); (case side1 => repeat (first | exact HR0.out | (with_reducible refine Kd.C_alloc ?_ _) | (with_reducible refine Kd.C_drewN ?_ _) | (with_reducible refine Kd.C_drew ?_))); (case side2 => exact HC0.out); rintro e w' ⟨rfl, ⟨nd, rfl⟩⟩; refine ⟨_, rfl, ?_⟩) | ((with_reducible refine gate_callee (f := 45) rfl ?_); refine goesL_ (some 15) rfl rfl Try.func45 (by kernel_rfl) rfl #[.slice A0 l0.length c0] rfl (by (try simp only [List.map_toArray, List.map_cons, List.map_nil]); first | done | rfl | (simp only [List.length_drop, List.length_take]; rfl)) ?_; (with_reducible refine (spec_DrawJoin.calls k _ _ l0 t191 t192 t193 t194 _ ?side1 ?side2 A4.out).mono ?_); (case side1 => repeat (first | exact HR0.out | (with_reducible refine Kd.C_alloc ?_ _) | (with_reducible refine Kd.C_drewN ?_ _) | (with_reducible refine Kd.C_drew ?_))); (case side2 => exact HC0.out); rintro e w6 ⟨rfl, hb⟩; refine ⟨_, rfl, ?_⟩; have n0_ := Aside0.mk (below_step (by repeat (first | (with_reducible first | exact HB.out | apply below_alloc | apply pw_below_drewN | apply below_drew1) | exact HB.out)) hb); clear HB; have HB := n0_; clear n0_; (try clear hb); (try clear hb2); (try clear hk); (try clear hi)))
    (try simp only [Act.put, List.setIfInBounds_toArray, List.set_cons_zero, List.set_cons_succ])
    go_cut [35] (fun v35 wc => ∃ (kq : Nat) (x35_4 : Bool), v35 = .bool x35_4 ∧ Aside0 (laws_FnCut.j0 kq l0 t191 t192 t193 t194 x35_4 = some r) ∧ Aside0 (kq ≤ k) ∧ Aside0 (Below w.heap.size w wc))
    case first =>
      have H := HC5.out
      clear HC5
      replace H := Option.bind_eq_some_iff.mp H
      obtain ⟨t195, A70, H⟩ := H
      replace H : (if t195 = true then ((spec_WordOk.f k t193 t194).bind fun t196 => (if t196 = true then (laws_FnCut.j0 k l0 t191 t192 t193 t194 (decide ((wrap64 (t191 + t193)) > 8))) else (laws_FnCut.j0 k l0 t191 t192 t193 t194 true))) else (laws_FnCut.j0 k l0 t191 t192 t193 t194 true)) = some r := H
      have A7 := Aside0.mk A70
      clear A70
      by_cases c8 : t195 = true
      · subst c8
        have H1 : ((spec_WordOk.f k t193 t194).bind fun t196 => (if t196 = true then (laws_FnCut.j0 k l0 t191 t192 t193 t194 (decide ((wrap64 (t191 + t193)) > 8))) else (laws_FnCut.j0 k l0 t191 t192 t193 t194 true))) = some r := by rw [if_pos rfl] at H; exact H
        clear H
        have H := H1
        clear H1
        replace H := Option.bind_eq_some_iff.mp H
        obtain ⟨t196, A90, H⟩ := H
        replace H : (if t196 = true then (laws_FnCut.j0 k l0 t191 t192 t193 t194 (decide ((wrap64 (t191 + t193)) > 8))) else (laws_FnCut.j0 k l0 t191 t192 t193 t194 true)) = some r := H
        have A9 := Aside0.mk A90
        clear A90
        by_cases c10 : t196 = true
        · subst c10
          have H1 : (laws_FnCut.j0 k l0 t191 t192 t193 t194 (decide ((wrap64 (t191 + t193)) > 8))) = some r := by rw [if_pos rfl] at H; exact H
          clear H
          have H := H1
          clear H1
          have H' := Aside0.mk H
          clear H
          go_wp2_with (first | ((with_reducible refine gate_callee (f := 40) rfl ?_); refine goesL_ (some 22) rfl rfl Try.func40 (by kernel_rfl) rfl #[.int .i64 t191, .int .i64 t192] rfl (by (try simp only [List.map_toArray, List.map_cons, List.map_nil]); first | done | rfl | (simp only [List.length_drop, List.length_take]; rfl)) ?_; (with_reducible refine (spec_WordOk.calls k t191 t192 true _ A7.out).mono ?_); rintro e w' ⟨rfl, ⟨nd, rfl⟩⟩; refine ⟨_, rfl, ?_⟩) | (go_at_call 40; (with_reducible refine (spec_WordOk.calls k t193 t194 true _ A9.out).mono ?_); rintro e w' ⟨rfl, ⟨nd, rfl⟩⟩))
          go_meet
          case rel => exact ⟨_, (decide ((wrap64 (t191 + t193)) > 8)), (by first | rfl | (simp; done) | (simp [*]; done)), H', ⟨by first | omega | exact Nat.le_refl _⟩, ⟨by repeat (first | (with_reducible first | exact HB.out | apply below_alloc | apply pw_below_drewN | apply below_drew1) | exact HB.out)⟩⟩
        · replace c10 := Bool.eq_false_iff.mpr c10
          subst c10
          have H1 : (laws_FnCut.j0 k l0 t191 t192 t193 t194 true) = some r := by rw [if_neg (show ¬ (false = true) by decide)] at H; exact H
          clear H
          have H := H1
          clear H1
          have H' := Aside0.mk H
          clear H
          go_wp2_with (first | ((with_reducible refine gate_callee (f := 40) rfl ?_); refine goesL_ (some 22) rfl rfl Try.func40 (by kernel_rfl) rfl #[.int .i64 t191, .int .i64 t192] rfl (by (try simp only [List.map_toArray, List.map_cons, List.map_nil]); first | done | rfl | (simp only [List.length_drop, List.length_take]; rfl)) ?_; (with_reducible refine (spec_WordOk.calls k t191 t192 true _ A7.out).mono ?_); rintro e w' ⟨rfl, ⟨nd, rfl⟩⟩; refine ⟨_, rfl, ?_⟩) | (go_at_call 40; (with_reducible refine (spec_WordOk.calls k t193 t194 false _ A9.out).mono ?_); rintro e w' ⟨rfl, ⟨nd, rfl⟩⟩))
          go_meet
          case rel => exact ⟨_, (true), (by first | rfl | (simp; done) | (simp [*]; done)), H', ⟨by first | omega | exact Nat.le_refl _⟩, ⟨by repeat (first | (with_reducible first | exact HB.out | apply below_alloc | apply pw_below_drewN | apply below_drew1) | exact HB.out)⟩⟩
      · replace c8 := Bool.eq_false_iff.mpr c8
        subst c8
        have H1 : (laws_FnCut.j0 k l0 t191 t192 t193 t194 true) = some r := by rw [if_neg (show ¬ (false = true) by decide)] at H; exact H
        clear H
        have H := H1
        clear H1
        have H' := Aside0.mk H
        clear H
        go_wp2_with (first | ((with_reducible refine gate_callee (f := 40) rfl ?_); refine goesL_ (some 22) rfl rfl Try.func40 (by kernel_rfl) rfl #[.int .i64 t191, .int .i64 t192] rfl (by (try simp only [List.map_toArray, List.map_cons, List.map_nil]); first | done | rfl | (simp only [List.length_drop, List.length_take]; rfl)) ?_; (with_reducible refine (spec_WordOk.calls k t191 t192 false _ A7.out).mono ?_); rintro e w' ⟨rfl, ⟨nd, rfl⟩⟩; refine ⟨_, rfl, ?_⟩))
        go_meet
        case rel => exact ⟨_, (true), (by first | rfl | (simp; done) | (simp [*]; done)), H', ⟨by first | omega | exact Nat.le_refl _⟩, ⟨by repeat (first | (with_reducible first | exact HB.out | apply below_alloc | apply pw_below_drewN | apply below_drew1) | exact HB.out)⟩⟩
    case rest =>
      clear HC5
      try clear c1
      try clear p2
      try clear c3
      try clear c4
      try clear p6
      try clear c8
      try clear c10
      obtain ⟨kq, x35_4, rfl, HA, HJ4, HB⟩ := hcut
      cases kq with
      | zero => exact absurd HA.out (by simp [laws_FnCut.j0])
      | succ kj4 =>
        have H := HA.out
        clear HA
        simp only [laws_FnCut.j0] at H
        by_cases c11 : x35_4 = true
        · subst c11
          have H1 : ((impl_Join.f t191 t192 t193 t194).bind fun t197 => (some (t197 == 0))) = some r := by rw [if_pos rfl] at H; exact H
          clear H
          have H := H1
          clear H1
          replace H := Option.bind_eq_some_iff.mp H
          obtain ⟨t197, A120, H⟩ := H
          replace H : (some (t197 == 0)) = some r := H
          have A12 := Aside0.mk A120
          clear A120
          obtain rfl := Option.some.inj H
          go_wp2_with (first | ((with_reducible refine gate_callee (f := 46) rfl ?_); refine goesL_ (some 40) rfl rfl Try.func46 (by kernel_rfl) rfl #[.int .i64 t191, .int .i64 t192, .int .i64 t193, .int .i64 t194] rfl (by (try simp only [List.map_toArray, List.map_cons, List.map_nil]); first | done | rfl | (simp only [List.length_drop, List.length_take]; rfl)) ?_; (with_reducible refine (impl_Join.calls t191 t192 t193 t194 t197 _ A12.out).mono ?_); rintro e w' ⟨rfl, ⟨nd, rfl⟩⟩; refine ⟨_, rfl, ?_⟩))
          go_ret
          exact ⟨by first | rfl | (simp [errW_none, errW_some] <;> rfl) | (simp [*, errW_none, errW_some] <;> rfl), by repeat (first | (with_reducible first | exact HB.out | apply below_alloc | apply pw_below_drewN | apply below_drew1) | exact HB.out)⟩
        · replace c11 := Bool.eq_false_iff.mpr c11
          subst c11
          have H1 : ((impl_Join.f t191 t192 t193 t194).bind fun t198 => ((impl_WordOk.f (wrap64 (t191 + t193)) t198).bind fun t199 => (if t199 = true then ((impl_Slice.f (wrap64 (t191 + t193)) t198 t193 t191).bind fun t200 => (if t200 = t192 then ((impl_Slice.f (wrap64 (t191 + t193)) t198 0 t193).bind fun t201 => (if t201 = t194 then ((impl_Slice.f (wrap64 (t191 + t193)) t198 1 (wrap64 (t191 + t193))).bind fun t202 => (laws_FnCut.j1 kj4 l0 t191 t192 (t202 != 0))) else (laws_FnCut.j1 kj4 l0 t191 t192 true))) else (laws_FnCut.j1 kj4 l0 t191 t192 true))) else (laws_FnCut.j1 kj4 l0 t191 t192 true)))) = some r := by rw [if_neg (show ¬ (false = true) by decide)] at H; exact H
          clear H
          have H := H1
          clear H1
          replace H := Option.bind_eq_some_iff.mp H
          obtain ⟨t198, A130, H⟩ := H
          replace H : ((impl_WordOk.f (wrap64 (t191 + t193)) t198).bind fun t199 => (if t199 = true then ((impl_Slice.f (wrap64 (t191 + t193)) t198 t193 t191).bind fun t200 => (if t200 = t192 then ((impl_Slice.f (wrap64 (t191 + t193)) t198 0 t193).bind fun t201 => (if t201 = t194 then ((impl_Slice.f (wrap64 (t191 + t193)) t198 1 (wrap64 (t191 + t193))).bind fun t202 => (laws_FnCut.j1 kj4 l0 t191 t192 (t202 != 0))) else (laws_FnCut.j1 kj4 l0 t191 t192 true))) else (laws_FnCut.j1 kj4 l0 t191 t192 true))) else (laws_FnCut.j1 kj4 l0 t191 t192 true))) = some r := H
          have A13 := Aside0.mk A130
          clear A130
          have HC14 := Aside0.mk H
          clear H
          go_upto_region 7 with (first | ((with_reducible refine gate_callee (f := 46) rfl ?_); refine goesL_ (some 46) rfl rfl Try.func46 (by kernel_rfl) rfl #[.int .i64 t191, .int .i64 t192, .int .i64 t193, .int .i64 t194] rfl (by (try simp only [List.map_toArray, List.map_cons, List.map_nil]); first | done | rfl | (simp only [List.length_drop, List.length_take]; rfl)) ?_; (with_reducible refine (impl_Join.calls t191 t192 t193 t194 t198 _ A13.out).mono ?_); rintro e w' ⟨rfl, ⟨nd, rfl⟩⟩; refine ⟨_, rfl, ?_⟩))
          (try simp only [Act.put, List.setIfInBounds_toArray, List.set_cons_zero, List.set_cons_succ])
          go_cut [84] (fun v84 wc => ∃ (kq : Nat) (x84_13 : Bool), v84 = .bool x84_13 ∧ Aside0 (laws_FnCut.j1 kq l0 t191 t192 x84_13 = some r) ∧ Aside0 (kq ≤ kj4) ∧ Aside0 (Below w.heap.size w wc))
          case first =>
            have H := HC14.out
            clear HC14
            replace H := Option.bind_eq_some_iff.mp H
            obtain ⟨t199, A150, H⟩ := H
            replace H : (if t199 = true then ((impl_Slice.f (wrap64 (t191 + t193)) t198 t193 t191).bind fun t200 => (if t200 = t192 then ((impl_Slice.f (wrap64 (t191 + t193)) t198 0 t193).bind fun t201 => (if t201 = t194 then ((impl_Slice.f (wrap64 (t191 + t193)) t198 1 (wrap64 (t191 + t193))).bind fun t202 => (laws_FnCut.j1 kj4 l0 t191 t192 (t202 != 0))) else (laws_FnCut.j1 kj4 l0 t191 t192 true))) else (laws_FnCut.j1 kj4 l0 t191 t192 true))) else (laws_FnCut.j1 kj4 l0 t191 t192 true)) = some r := H
            have A15 := Aside0.mk A150
            clear A150
            by_cases c16 : t199 = true
            · subst c16
              have H1 : ((impl_Slice.f (wrap64 (t191 + t193)) t198 t193 t191).bind fun t200 => (if t200 = t192 then ((impl_Slice.f (wrap64 (t191 + t193)) t198 0 t193).bind fun t201 => (if t201 = t194 then ((impl_Slice.f (wrap64 (t191 + t193)) t198 1 (wrap64 (t191 + t193))).bind fun t202 => (laws_FnCut.j1 kj4 l0 t191 t192 (t202 != 0))) else (laws_FnCut.j1 kj4 l0 t191 t192 true))) else (laws_FnCut.j1 kj4 l0 t191 t192 true))) = some r := by rw [if_pos rfl] at H; exact H
              clear H
              have H := H1
              clear H1
              replace H := Option.bind_eq_some_iff.mp H
              obtain ⟨t200, A170, H⟩ := H
              replace H : (if t200 = t192 then ((impl_Slice.f (wrap64 (t191 + t193)) t198 0 t193).bind fun t201 => (if t201 = t194 then ((impl_Slice.f (wrap64 (t191 + t193)) t198 1 (wrap64 (t191 + t193))).bind fun t202 => (laws_FnCut.j1 kj4 l0 t191 t192 (t202 != 0))) else (laws_FnCut.j1 kj4 l0 t191 t192 true))) else (laws_FnCut.j1 kj4 l0 t191 t192 true)) = some r := H
              have A17 := Aside0.mk A170
              clear A170
              by_cases c18 : t200 = t192
              · rw [if_pos c18] at H
                have c18b0 : (t200 == t192) = true := beq_iff_eq.mpr c18
                have c18b1 : (t200 != t192) = false := bne_eq_false_iff_eq.mpr c18
                clear c18
                (first | rw [c18b0] | (simp only [i64_w, i32_w]; rw [c18b0]) | skip)
                replace H := Option.bind_eq_some_iff.mp H
                obtain ⟨t201, A190, H⟩ := H
                replace H : (if t201 = t194 then ((impl_Slice.f (wrap64 (t191 + t193)) t198 1 (wrap64 (t191 + t193))).bind fun t202 => (laws_FnCut.j1 kj4 l0 t191 t192 (t202 != 0))) else (laws_FnCut.j1 kj4 l0 t191 t192 true)) = some r := H
                have A19 := Aside0.mk A190
                clear A190
                by_cases c20 : t201 = t194
                · rw [if_pos c20] at H
                  have c20b0 : (t201 == t194) = true := beq_iff_eq.mpr c20
                  have c20b1 : (t201 != t194) = false := bne_eq_false_iff_eq.mpr c20
                  clear c20
                  replace H := Option.bind_eq_some_iff.mp H
                  obtain ⟨t202, A210, H⟩ := H
                  replace H : (laws_FnCut.j1 kj4 l0 t191 t192 (t202 != 0)) = some r := H
                  have A21 := Aside0.mk A210
                  clear A210
                  have H' := Aside0.mk H
                  clear H
                  go_wp2_with (first | ((with_reducible refine gate_callee (f := 47) rfl ?_); refine goesL_ (some 51) rfl rfl Try.func47 (by kernel_rfl) rfl #[.int .i64 (wrap64 (t191 + t193)), .int .i64 t198] rfl (by (try simp only [List.map_toArray, List.map_cons, List.map_nil]); first | done | rfl | (simp only [List.length_drop, List.length_take]; rfl)) ?_; (with_reducible refine (impl_WordOk.calls (wrap64 (t191 + t193)) t198 true _ A15.out).mono ?_); rintro e w' ⟨rfl, ⟨nd, rfl⟩⟩; refine ⟨_, rfl, ?_⟩) | (go_at_call 48; (with_reducible refine (impl_Slice.calls (wrap64 (t191 + t193)) t198 t193 t191 t200 _ A17.out).mono ?_); rintro e w' ⟨rfl, ⟨nd, rfl⟩⟩) | (go_at_call 48; (with_reducible refine (impl_Slice.calls (wrap64 (t191 + t193)) t198 0 t193 t201 _ A19.out).mono ?_); rintro e w' ⟨rfl, ⟨nd, rfl⟩⟩) | (go_at_call 48; (with_reducible refine (impl_Slice.calls (wrap64 (t191 + t193)) t198 1 (wrap64 (t191 + t193)) t202 _ A21.out).mono ?_); rintro e w' ⟨rfl, ⟨nd, rfl⟩⟩))
                  go_meet
                  case rel => exact ⟨_, ((t202 != 0)), (by first | rfl | (simp; done) | (simp [*]; done)), H', ⟨by have := HJ4.out; first | omega | exact Nat.le_refl _⟩, ⟨by repeat (first | (with_reducible first | exact HB.out | apply below_alloc | apply pw_below_drewN | apply below_drew1) | exact HB.out)⟩⟩
                · rw [if_neg c20] at H
                  have c20b0 : (t201 == t194) = false := beq_eq_false_iff_ne.mpr c20
                  have c20b1 : (t201 != t194) = true := bne_iff_ne.mpr c20
                  have H' := Aside0.mk H
                  clear H
                  go_wp2_with (first | ((with_reducible refine gate_callee (f := 47) rfl ?_); refine goesL_ (some 51) rfl rfl Try.func47 (by kernel_rfl) rfl #[.int .i64 (wrap64 (t191 + t193)), .int .i64 t198] rfl (by (try simp only [List.map_toArray, List.map_cons, List.map_nil]); first | done | rfl | (simp only [List.length_drop, List.length_take]; rfl)) ?_; (with_reducible refine (impl_WordOk.calls (wrap64 (t191 + t193)) t198 true _ A15.out).mono ?_); rintro e w' ⟨rfl, ⟨nd, rfl⟩⟩; refine ⟨_, rfl, ?_⟩) | (go_at_call 48; (with_reducible refine (impl_Slice.calls (wrap64 (t191 + t193)) t198 t193 t191 t200 _ A17.out).mono ?_); rintro e w' ⟨rfl, ⟨nd, rfl⟩⟩) | (go_at_call 48; (with_reducible refine (impl_Slice.calls (wrap64 (t191 + t193)) t198 0 t193 t201 _ A19.out).mono ?_); rintro e w' ⟨rfl, ⟨nd, rfl⟩⟩))
                  go_meet
                  case rel => exact ⟨_, (true), (by first | rfl | (simp; done) | (simp [*]; done)), H', ⟨by have := HJ4.out; first | omega | exact Nat.le_refl _⟩, ⟨by repeat (first | (with_reducible first | exact HB.out | apply below_alloc | apply pw_below_drewN | apply below_drew1) | exact HB.out)⟩⟩
              · rw [if_neg c18] at H
                have c18b0 : (t200 == t192) = false := beq_eq_false_iff_ne.mpr c18
                have c18b1 : (t200 != t192) = true := bne_iff_ne.mpr c18
                (first | rw [c18b0] | (simp only [i64_w, i32_w]; rw [c18b0]) | skip)
                have H' := Aside0.mk H
                clear H
                go_wp2_with (first | ((with_reducible refine gate_callee (f := 47) rfl ?_); refine goesL_ (some 51) rfl rfl Try.func47 (by kernel_rfl) rfl #[.int .i64 (wrap64 (t191 + t193)), .int .i64 t198] rfl (by (try simp only [List.map_toArray, List.map_cons, List.map_nil]); first | done | rfl | (simp only [List.length_drop, List.length_take]; rfl)) ?_; (with_reducible refine (impl_WordOk.calls (wrap64 (t191 + t193)) t198 true _ A15.out).mono ?_); rintro e w' ⟨rfl, ⟨nd, rfl⟩⟩; refine ⟨_, rfl, ?_⟩) | (go_at_call 48; (with_reducible refine (impl_Slice.calls (wrap64 (t191 + t193)) t198 t193 t191 t200 _ A17.out).mono ?_); rintro e w' ⟨rfl, ⟨nd, rfl⟩⟩))
                go_meet
                case rel => exact ⟨_, (true), (by first | rfl | (simp; done) | (simp [*]; done)), H', ⟨by have := HJ4.out; first | omega | exact Nat.le_refl _⟩, ⟨by repeat (first | (with_reducible first | exact HB.out | apply below_alloc | apply pw_below_drewN | apply below_drew1) | exact HB.out)⟩⟩
            · replace c16 := Bool.eq_false_iff.mpr c16
              subst c16
              have H1 : (laws_FnCut.j1 kj4 l0 t191 t192 true) = some r := by rw [if_neg (show ¬ (false = true) by decide)] at H; exact H
              clear H
              have H := H1
              clear H1
              have H' := Aside0.mk H
              clear H
              go_wp2_with (first | ((with_reducible refine gate_callee (f := 47) rfl ?_); refine goesL_ (some 51) rfl rfl Try.func47 (by kernel_rfl) rfl #[.int .i64 (wrap64 (t191 + t193)), .int .i64 t198] rfl (by (try simp only [List.map_toArray, List.map_cons, List.map_nil]); first | done | rfl | (simp only [List.length_drop, List.length_take]; rfl)) ?_; (with_reducible refine (impl_WordOk.calls (wrap64 (t191 + t193)) t198 false _ A15.out).mono ?_); rintro e w' ⟨rfl, ⟨nd, rfl⟩⟩; refine ⟨_, rfl, ?_⟩))
              go_meet
              case rel => exact ⟨_, (true), (by first | rfl | (simp; done) | (simp [*]; done)), H', ⟨by have := HJ4.out; first | omega | exact Nat.le_refl _⟩, ⟨by repeat (first | (with_reducible first | exact HB.out | apply below_alloc | apply pw_below_drewN | apply below_drew1) | exact HB.out)⟩⟩
          case rest =>
            clear HC14
            try clear c1
            try clear c2
            try clear p2
            try clear c3
            try clear c4
            try clear p6
            try clear c8
            try clear c10
            try clear c11
            try clear c16
            try clear c18
            try clear c18b0
            try clear c18b1
            try clear c20
            try clear c20b0
            try clear c20b1
            try clear p2
            try clear p6
            obtain ⟨kq, x84_13, rfl, HA, HJ13, HB⟩ := hcut
            cases kq with
            | zero => exact absurd HA.out (by simp [laws_FnCut.j1])
            | succ kj13 =>
              have H := HA.out
              clear HA
              simp only [laws_FnCut.j1] at H
              by_cases c22 : x84_13 = true
              · subst c22
                have H1 : (some false) = some r := by rw [if_pos rfl] at H; exact H
                clear H
                have H := H1
                clear H1
                obtain rfl := Option.some.inj H
                go_wp2
                go_ret
                exact ⟨by first | rfl | (simp [errW_none, errW_some] <;> rfl) | (simp [*, errW_none, errW_some] <;> rfl), by repeat (first | (with_reducible first | exact HB.out | apply below_alloc | apply pw_below_drewN | apply below_drew1) | exact HB.out)⟩
              · replace c22 := Bool.eq_false_iff.mpr c22
                subst c22
                have H1 : ((laws_at.f l0 3).bind fun t203 => (if (wrap64 (t191 + 2)) = 0 then (none) else (if (Int.tmod t203 (wrap64 (t191 + 2))) < t191 then ((laws_pow.f kj13 (Int.tmod t203 (wrap64 (t191 + 2)))).bind fun t204 => ((impl_Mul.f t191 t192 t204).bind fun t205 => ((laws_pow.f kj13 (Int.tmod t203 (wrap64 (t191 + 2)))).bind fun t206 => ((impl_Div.f t191 t192 t206).bind fun t207 => (laws_FnCut.j2 kj13 t191 t192 (Int.tmod t203 (wrap64 (t191 + 2))) t205 t207))))) else (laws_FnCut.j2 kj13 t191 t192 (Int.tmod t203 (wrap64 (t191 + 2))) 0 0)))) = some r := by rw [if_neg (show ¬ (false = true) by decide)] at H; exact H
                clear H
                have H := H1
                clear H1
                replace H := Option.bind_eq_some_iff.mp H
                obtain ⟨t203, A230, H⟩ := H
                replace H : (if (wrap64 (t191 + 2)) = 0 then (none) else (if (Int.tmod t203 (wrap64 (t191 + 2))) < t191 then ((laws_pow.f kj13 (Int.tmod t203 (wrap64 (t191 + 2)))).bind fun t204 => ((impl_Mul.f t191 t192 t204).bind fun t205 => ((laws_pow.f kj13 (Int.tmod t203 (wrap64 (t191 + 2)))).bind fun t206 => ((impl_Div.f t191 t192 t206).bind fun t207 => (laws_FnCut.j2 kj13 t191 t192 (Int.tmod t203 (wrap64 (t191 + 2))) t205 t207))))) else (laws_FnCut.j2 kj13 t191 t192 (Int.tmod t203 (wrap64 (t191 + 2))) 0 0))) = some r := H
                have A23 := Aside0.mk A230
                clear A230
                by_cases c24 : (wrap64 (t191 + 2)) = 0
                · rw [if_pos c24] at H
                  exact absurd H (by simp)
                · rw [if_neg c24] at H
                  have c24b0 : ((wrap64 (t191 + 2)) == 0) = false := beq_eq_false_iff_ne.mpr c24
                  have c24b1 : ((wrap64 (t191 + 2)) != 0) = true := bne_iff_ne.mpr c24
                  have HC25 := Aside0.mk H
                  clear H
                  go_upto_if 92 with (first | ((with_reducible refine gate_callee (f := 49) rfl ?_); refine goesL_ (some 86) rfl rfl Try.func49 (by kernel_rfl) rfl #[.slice A0 l0.length c0, .int .i64 3] rfl (by (try simp only [List.map_toArray, List.map_cons, List.map_nil]); first | done | rfl | (simp only [List.length_drop, List.length_take]; rfl)) ?_; (with_reducible refine (laws_at.calls _ _ l0 3 t203 _ ?side1 ?side2 A23.out).mono ?_); (case side1 => repeat (first | exact (Kd.C_below HR0.out HB.out) | (with_reducible refine Kd.C_alloc ?_ _) | (with_reducible refine Kd.C_drewN ?_ _) | (with_reducible refine Kd.C_drew ?_))); (case side2 => exact HC0.out); rintro e w' ⟨rfl, ⟨nd, rfl⟩⟩; refine ⟨_, rfl, ?_⟩))
                  (try simp only [Act.put, List.setIfInBounds_toArray, List.set_cons_zero, List.set_cons_succ])
                  go_cut [9, 10] (fun v9 v10 wc => ∃ (kq : Nat) (x9_24 : Int) (x10_24 : Int), v9 = .int .i64 x9_24 ∧ v10 = .int .i64 x10_24 ∧ Aside0 (laws_FnCut.j2 kq t191 t192 (Int.tmod t203 (wrap64 (t191 + 2))) x9_24 x10_24 = some r) ∧ Aside0 (kq ≤ kj13) ∧ Aside0 (Below w.heap.size w wc))
                  case first =>
                    have H := HC25.out
                    clear HC25
                    by_cases c26 : (Int.tmod t203 (wrap64 (t191 + 2))) < t191
                    · rw [if_pos c26] at H
                      have c26b0 : decide ((Int.tmod t203 (wrap64 (t191 + 2))) < t191) = true := decide_eq_true c26
                      clear c26
                      (first | rw [c26b0] | (simp only [i64_w, i32_w]; rw [c26b0]) | skip)
                      replace H := Option.bind_eq_some_iff.mp H
                      obtain ⟨t204, A270, H⟩ := H
                      replace H : ((impl_Mul.f t191 t192 t204).bind fun t205 => ((laws_pow.f kj13 (Int.tmod t203 (wrap64 (t191 + 2)))).bind fun t206 => ((impl_Div.f t191 t192 t206).bind fun t207 => (laws_FnCut.j2 kj13 t191 t192 (Int.tmod t203 (wrap64 (t191 + 2))) t205 t207)))) = some r := H
                      have A27 := Aside0.mk A270
                      clear A270
                      replace H := Option.bind_eq_some_iff.mp H
                      obtain ⟨t205, A280, H⟩ := H
                      replace H : ((laws_pow.f kj13 (Int.tmod t203 (wrap64 (t191 + 2)))).bind fun t206 => ((impl_Div.f t191 t192 t206).bind fun t207 => (laws_FnCut.j2 kj13 t191 t192 (Int.tmod t203 (wrap64 (t191 + 2))) t205 t207))) = some r := H
                      have A28 := Aside0.mk A280
                      clear A280
                      replace H := Option.bind_eq_some_iff.mp H
                      obtain ⟨t206, A290, H⟩ := H
                      replace H : ((impl_Div.f t191 t192 t206).bind fun t207 => (laws_FnCut.j2 kj13 t191 t192 (Int.tmod t203 (wrap64 (t191 + 2))) t205 t207)) = some r := H
                      have A29 := Aside0.mk A290
                      clear A290
                      replace H := Option.bind_eq_some_iff.mp H
                      obtain ⟨t207, A300, H⟩ := H
                      replace H : (laws_FnCut.j2 kj13 t191 t192 (Int.tmod t203 (wrap64 (t191 + 2))) t205 t207) = some r := H
                      have A30 := Aside0.mk A300
                      clear A300
                      have H' := Aside0.mk H
                      clear H
                      go_wp2_with (first | ((with_reducible refine gate_callee (f := 41) rfl ?_); refine goesL_ (some 96) rfl rfl Try.func41 (by kernel_rfl) rfl #[.int .i64 (Int.tmod t203 (wrap64 (t191 + 2)))] rfl (by (try simp only [List.map_toArray, List.map_cons, List.map_nil]); first | done | rfl | (simp only [List.length_drop, List.length_take]; rfl)) ?_; (with_reducible refine (laws_pow.calls kj13 (Int.tmod t203 (wrap64 (t191 + 2))) t204 _ A27.out).mono ?_); rintro e w' ⟨rfl, ⟨nd, rfl⟩⟩; refine ⟨_, rfl, ?_⟩) | ((with_reducible refine gate_callee (f := 50) rfl ?_); refine goesL_ (some 97) rfl rfl Try.func50 (by kernel_rfl) rfl #[.int .i64 t191, .int .i64 t192, .int .i64 t204] rfl (by (try simp only [List.map_toArray, List.map_cons, List.map_nil]); first | done | rfl | (simp only [List.length_drop, List.length_take]; rfl)) ?_; (with_reducible refine (impl_Mul.calls t191 t192 t204 t205 _ A28.out).mono ?_); rintro e w' ⟨rfl, ⟨nd, rfl⟩⟩; refine ⟨_, rfl, ?_⟩) | ((with_reducible refine gate_callee (f := 41) rfl ?_); refine goesL_ (some 101) rfl rfl Try.func41 (by kernel_rfl) rfl #[.int .i64 (Int.tmod t203 (wrap64 (t191 + 2)))] rfl (by (try simp only [List.map_toArray, List.map_cons, List.map_nil]); first | done | rfl | (simp only [List.length_drop, List.length_take]; rfl)) ?_; (with_reducible refine (laws_pow.calls kj13 (Int.tmod t203 (wrap64 (t191 + 2))) t206 _ A29.out).mono ?_); rintro e w' ⟨rfl, ⟨nd, rfl⟩⟩; refine ⟨_, rfl, ?_⟩) | ((with_reducible refine gate_callee (f := 15) rfl ?_); refine goesL_ (some 102) rfl rfl Try.func15 (by kernel_rfl) rfl #[.int .i64 t191, .int .i64 t192, .int .i64 t206] rfl (by (try simp only [List.map_toArray, List.map_cons, List.map_nil]); first | done | rfl | (simp only [List.length_drop, List.length_take]; rfl)) ?_; (with_reducible refine (impl_Div.calls t191 t192 t206 t207 _ A30.out).mono ?_); rintro e w' ⟨rfl, ⟨nd, rfl⟩⟩; refine ⟨_, rfl, ?_⟩))
                      go_meet
                      case rel => exact ⟨_, (t205), (t207), (by first | rfl | (simp; done) | (simp [*]; done)), (by first | rfl | (simp; done) | (simp [*]; done)), H', ⟨by have := HJ4.out; have := HJ13.out; first | omega | exact Nat.le_refl _⟩, ⟨by repeat (first | (with_reducible first | exact HB.out | apply below_alloc | apply pw_below_drewN | apply below_drew1) | exact HB.out)⟩⟩
                    · rw [if_neg c26] at H
                      have c26b0 : decide ((Int.tmod t203 (wrap64 (t191 + 2))) < t191) = false := decide_eq_false c26
                      clear c26
                      (first | rw [c26b0] | (simp only [i64_w, i32_w]; rw [c26b0]) | skip)
                      have H' := Aside0.mk H
                      clear H
                      go_wp2
                      go_meet
                      case rel => exact ⟨_, (0), (0), (by first | rfl | (simp; done) | (simp [*]; done)), (by first | rfl | (simp; done) | (simp [*]; done)), H', ⟨by have := HJ4.out; have := HJ13.out; first | omega | exact Nat.le_refl _⟩, ⟨by repeat (first | (with_reducible first | exact HB.out | apply below_alloc | apply pw_below_drewN | apply below_drew1) | exact HB.out)⟩⟩
                  case rest =>
                    clear HC25
                    try clear c1
                    try clear c2
                    try clear p2
                    try clear c3
                    try clear c4
                    try clear c5
                    try clear p6
                    try clear c8
                    try clear c10
                    try clear c11
                    try clear c15
                    try clear c16
                    try clear c18
                    try clear c18b0
                    try clear c18b1
                    try clear c20
                    try clear c20b0
                    try clear c20b1
                    try clear c22
                    try clear c24
                    try clear c24b0
                    try clear c24b1
                    try clear c26
                    try clear c26b0
                    try clear p2
                    try clear p6
                    obtain ⟨kq, x9_24, x10_24, rfl, rfl, HA, HJ24, HB⟩ := hcut
                    cases kq with
                    | zero => exact absurd HA.out (by simp [laws_FnCut.j2])
                    | succ kj24 =>
                      have H := HA.out
                      clear HA
                      simp only [laws_FnCut.j2] at H
                      replace H := Option.bind_eq_some_iff.mp H
                      obtain ⟨t208, A310, H⟩ := H
                      replace H : (if (Int.tmod t203 (wrap64 (t191 + 2))) ≥ t208 then ((impl_Shl.f t191 t192 (Int.tmod t203 (wrap64 (t191 + 2)))).bind fun t209 => (some (t209 == 0))) else ((impl_Shl.f t191 t192 (Int.tmod t203 (wrap64 (t191 + 2)))).bind fun t210 => (if t210 = x9_24 then ((impl_Shr.f t191 t192 (Int.tmod t203 (wrap64 (t191 + 2)))).bind fun t211 => (some (t211 == x10_24))) else (some false)))) = some r := H
                      have A31 := Aside0.mk A310
                      clear A310
                      by_cases c32 : (Int.tmod t203 (wrap64 (t191 + 2))) ≥ t208
                      · rw [if_pos c32] at H
                        have c32b0 : decide (t208 ≤ (Int.tmod t203 (wrap64 (t191 + 2)))) = true := decide_eq_true c32
                        clear c32
                        replace H := Option.bind_eq_some_iff.mp H
                        obtain ⟨t209, A330, H⟩ := H
                        replace H : (some (t209 == 0)) = some r := H
                        have A33 := Aside0.mk A330
                        clear A330
                        obtain rfl := Option.some.inj H
                        go_wp2_with (first | ((with_reducible refine gate_callee (f := 41) rfl ?_); refine goesL_ (some 105) rfl rfl Try.func41 (by kernel_rfl) rfl #[.int .i64 t191] rfl (by (try simp only [List.map_toArray, List.map_cons, List.map_nil]); first | done | rfl | (simp only [List.length_drop, List.length_take]; rfl)) ?_; (with_reducible refine (laws_pow.calls kj24 t191 t208 _ A31.out).mono ?_); rintro e w' ⟨rfl, ⟨nd, rfl⟩⟩; refine ⟨_, rfl, ?_⟩) | ((with_reducible refine gate_callee (f := 51) rfl ?_); refine goesL_ (some 110) rfl rfl Try.func51 (by kernel_rfl) rfl #[.int .i64 t191, .int .i64 t192, .int .i64 (Int.tmod t203 (wrap64 (t191 + 2)))] rfl (by (try simp only [List.map_toArray, List.map_cons, List.map_nil]); first | done | rfl | (simp only [List.length_drop, List.length_take]; rfl)) ?_; (with_reducible refine (impl_Shl.calls t191 t192 (Int.tmod t203 (wrap64 (t191 + 2))) t209 _ A33.out).mono ?_); rintro e w' ⟨rfl, ⟨nd, rfl⟩⟩; refine ⟨_, rfl, ?_⟩))
                        go_ret
                        exact ⟨by first | rfl | (simp [errW_none, errW_some] <;> rfl) | (simp [*, errW_none, errW_some] <;> rfl), by repeat (first | (with_reducible first | exact HB.out | apply below_alloc | apply pw_below_drewN | apply below_drew1) | exact HB.out)⟩
                      · rw [if_neg c32] at H
                        have c32b0 : decide (t208 ≤ (Int.tmod t203 (wrap64 (t191 + 2)))) = false := decide_eq_false c32
                        clear c32
                        replace H := Option.bind_eq_some_iff.mp H
                        obtain ⟨t210, A340, H⟩ := H
                        replace H : (if t210 = x9_24 then ((impl_Shr.f t191 t192 (Int.tmod t203 (wrap64 (t191 + 2)))).bind fun t211 => (some (t211 == x10_24))) else (some false)) = some r := H
                        have A34 := Aside0.mk A340
                        clear A340
                        by_cases c35 : t210 = x9_24
                        · rw [if_pos c35] at H
                          have c35b0 : (t210 == x9_24) = true := beq_iff_eq.mpr c35
                          have c35b1 : (t210 != x9_24) = false := bne_eq_false_iff_eq.mpr c35
                          clear c35
                          replace H := Option.bind_eq_some_iff.mp H
                          obtain ⟨t211, A360, H⟩ := H
                          replace H : (some (t211 == x10_24)) = some r := H
                          have A36 := Aside0.mk A360
                          clear A360
                          obtain rfl := Option.some.inj H
                          go_wp2_with (first | ((with_reducible refine gate_callee (f := 41) rfl ?_); refine goesL_ (some 105) rfl rfl Try.func41 (by kernel_rfl) rfl #[.int .i64 t191] rfl (by (try simp only [List.map_toArray, List.map_cons, List.map_nil]); first | done | rfl | (simp only [List.length_drop, List.length_take]; rfl)) ?_; (with_reducible refine (laws_pow.calls kj24 t191 t208 _ A31.out).mono ?_); rintro e w' ⟨rfl, ⟨nd, rfl⟩⟩; refine ⟨_, rfl, ?_⟩) | ((with_reducible refine gate_callee (f := 51) rfl ?_); refine goesL_ (some 115) rfl rfl Try.func51 (by kernel_rfl) rfl #[.int .i64 t191, .int .i64 t192, .int .i64 (Int.tmod t203 (wrap64 (t191 + 2)))] rfl (by (try simp only [List.map_toArray, List.map_cons, List.map_nil]); first | done | rfl | (simp only [List.length_drop, List.length_take]; rfl)) ?_; (with_reducible refine (impl_Shl.calls t191 t192 (Int.tmod t203 (wrap64 (t191 + 2))) t210 _ A34.out).mono ?_); rintro e w' ⟨rfl, ⟨nd, rfl⟩⟩; refine ⟨_, rfl, ?_⟩) | (go_at_call 52; (with_reducible refine (impl_Shr.calls t191 t192 (Int.tmod t203 (wrap64 (t191 + 2))) t211 _ A36.out).mono ?_); rintro e w' ⟨rfl, ⟨nd, rfl⟩⟩))
                          go_ret
                          exact ⟨by first | rfl | (simp [errW_none, errW_some] <;> rfl) | (simp [*, errW_none, errW_some] <;> rfl), by repeat (first | (with_reducible first | exact HB.out | apply below_alloc | apply pw_below_drewN | apply below_drew1) | exact HB.out)⟩
                        · rw [if_neg c35] at H
                          have c35b0 : (t210 == x9_24) = false := beq_eq_false_iff_ne.mpr c35
                          have c35b1 : (t210 != x9_24) = true := bne_iff_ne.mpr c35
                          obtain rfl := Option.some.inj H
                          go_wp2_with (first | ((with_reducible refine gate_callee (f := 41) rfl ?_); refine goesL_ (some 105) rfl rfl Try.func41 (by kernel_rfl) rfl #[.int .i64 t191] rfl (by (try simp only [List.map_toArray, List.map_cons, List.map_nil]); first | done | rfl | (simp only [List.length_drop, List.length_take]; rfl)) ?_; (with_reducible refine (laws_pow.calls kj24 t191 t208 _ A31.out).mono ?_); rintro e w' ⟨rfl, ⟨nd, rfl⟩⟩; refine ⟨_, rfl, ?_⟩) | ((with_reducible refine gate_callee (f := 51) rfl ?_); refine goesL_ (some 115) rfl rfl Try.func51 (by kernel_rfl) rfl #[.int .i64 t191, .int .i64 t192, .int .i64 (Int.tmod t203 (wrap64 (t191 + 2)))] rfl (by (try simp only [List.map_toArray, List.map_cons, List.map_nil]); first | done | rfl | (simp only [List.length_drop, List.length_take]; rfl)) ?_; (with_reducible refine (impl_Shl.calls t191 t192 (Int.tmod t203 (wrap64 (t191 + 2))) t210 _ A34.out).mono ?_); rintro e w' ⟨rfl, ⟨nd, rfl⟩⟩; refine ⟨_, rfl, ?_⟩))
                          go_ret
                          exact ⟨by first | rfl | (simp [errW_none, errW_some] <;> rfl) | (simp [*, errW_none, errW_some] <;> rfl), by repeat (first | (with_reducible first | exact HB.out | apply below_alloc | apply pw_below_drewN | apply below_drew1) | exact HB.out)⟩

/-- THE ONE PURE STATEMENT of laws_FnCut: yours. -/
def laws_FnCut.Pure : Prop := ∀ (l0 : List Int), l0.length ≤ maxLen → l0.length * 1 ≤ 140737488351232 → (∀ x ∈ l0, (Lit.int .u8 x).wf = true) → ∃ k, laws_FnCut.f k l0 = some true
theorem laws_FnCut.walk (P : laws_FnCut.Pure) (a0 : Option Addr) (len0 cap0 : Nat) (z0 : List Int) (w : World) (w0 : (a0 = none ∧ len0 = 0 ∧ cap0 = 0 ∧ z0 = []) ∨ ∃ x, a0 = some x ∧ len0 ≤ cap0 ∧ cap0 ≤ maxLen ∧ z0.length = cap0 ∧ (∀ i, i < z0.length → w.cell? (x.add i) = some (.int .u8 (z0.getD i 0))) ∧ ∀ n ∈ z0, (Lit.int .u8 n).wf = true) (y0 : len0 * 1 ≤ 140737488351232) :
    Calls Try.prog 11 #[.slice a0 len0 cap0] w fun e w' => e = .returned (.bool true) ∧ Below w.heap.size w w' := by
  obtain ⟨l0, rfl, hr0, hm0, hw0, hc0⟩ := ReadsInt.ofRowC w0
  obtain ⟨k, h⟩ := P l0 hm0 y0 hw0
  refine (laws_FnCut.calls k _ _ l0 true w (Kd.C_of_reads (d := (0 : Int)) (h1 := fun _ => rfl) hr0) hc0 h).mono ?_
  rintro e w' ⟨rfl, hd⟩
  exact ⟨rfl, hd⟩

end Go.Proofs.Ythepgolhpllpbaa.PFnCut
