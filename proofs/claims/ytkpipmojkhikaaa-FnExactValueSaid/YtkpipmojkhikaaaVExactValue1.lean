/- Written by a program of this session over the loaded program, and by hand: Go functions as plain Lean functions, and that a call comes to what they say. -/
import Derived.Test.YtkpipmojkhikaaaVExactValue0
import Derived.Test.YtkpipmojkhikaaaBase
import Derived.Test.YtkpipmojkhikaaaSq
namespace Go.Proofs.Ytkpipmojkhikaaa.PAll
open Go.RowKit Go.Proofs.YtkpipmojkhikaaaW.PrintWords Go.Proofs.YtkpipmojkhikaaaW.PrintLast Go.Proofs.YtkpipmojkhikaaaW.PrintMore Go.Proofs.YtkpipmojkhikaaaW.Sq
attribute [local go_sem] max2_int min2_int max_two min_two max_three min_three max_four min_four   -- for this text's walks alone
set_option linter.unusedVariables false
set_option linter.unusedSimpArgs false

/-! ### impl_within: function 72 -/
def impl_within.f (a0 : Int) (a1 : Int) (a2 : Int) : Option (Bool) := if a0 ≥ a1 then (some (decide (a0 ≤ a2))) else (some false)
set_option maxHeartbeats 8000000 in
set_option maxRecDepth 100000 in
theorem impl_within.calls (a0 : Int) (a1 : Int) (a2 : Int) (r : Bool) (w : World) (h : impl_within.f a0 a1 a2 = some r) :
  Calls Try.prog 72 #[.int .i64 a0, .int .i64 a1, .int .i64 a2] w fun e w' => e = .returned (.bool r) ∧ Drawn0 w w' := by
 have H : (if a0 ≥ a1 then (some (decide (a0 ≤ a2))) else (some false)) = some r := h
 clear h
 by_cases c4 : a0 ≥ a1
 ·rw [if_pos c4] at H
  have c4b0 : decide (a1 ≤ a0) = true := decide_eq_true c4
  clear c4
  obtain rfl := oI H
  go_enter Try.func72, Try.ntmps72
  go_wp2
  go_ret
  exact ⟨by rfl, by repeat (first | exact Drawn0.refl _ | apply Drawn0.step)⟩
 ·rw [if_neg c4] at H
  have c4b0 : decide (a1 ≤ a0) = false := decide_eq_false c4
  clear c4
  obtain rfl := oI H
  go_enter Try.func72, Try.ntmps72
  go_wp2
  go_ret
  exact ⟨by rfl, by repeat (first | exact Drawn0.refl _ | apply Drawn0.step)⟩
/-! ### impl_isWidth: function 83 -/
def impl_isWidth.f (a0 : Int) : Option (Bool) := (impl_within.f a0 1 8).bind fun t203 => (some t203)
set_option maxHeartbeats 8000000 in
set_option maxRecDepth 100000 in
theorem impl_isWidth.calls (a0 : Int) (r : Bool) (w : World) (h : impl_isWidth.f a0 = some r) :
  Calls Try.prog 83 #[.int .i64 a0] w fun e w' => e = .returned (.bool r) ∧ Drawn0 w w' := by
 have H : ((impl_within.f a0 1 8).bind fun t203 => (some t203)) = some r := h
 clear h
 replace H := oB H
 obtain ⟨t203, A20, H⟩ := H
 have A2 := am A20
 clear A20
 obtain rfl := oI H
 go_enter Try.func83, Try.ntmps83
 go_wp2_with (first | ((with_reducible refine gate_callee (f := 72) rfl ?_); refine goesL_ (some 4) rfl rfl Try.func72 (by kernel_rfl) rfl #[.int .i64 a0, .int .i64 1, .int .i64 8] rfl tm ?_; (with_reducible refine (impl_within.calls a0 1 8 t203 _ A2.out).mono ?_); rintro e w' ⟨rfl, ⟨nd, rfl⟩⟩; refine ⟨_, rfl, ?_⟩))
 go_ret
 exact ⟨by rfl, by repeat (first | exact Drawn0.refl _ | apply Drawn0.step)⟩
/-! ### impl_WordOk: function 54 -/
def impl_WordOk.f (a0 : Int) (a1 : Int) : Option (Bool) := (impl_isWidth.f a0).bind fun t204 => (if t204 = true then (if 0 ≤ (IntKind.u64.wrap (a0)) then ((impl_within.f a1 0 (wrap64 ((shl .i64 1 (IntKind.u64.wrap (a0))) - 1))).bind fun t205 => (some t205)) else (none)) else (some false))
set_option maxHeartbeats 8000000 in
set_option maxRecDepth 100000 in
theorem impl_WordOk.calls (a0 : Int) (a1 : Int) (r : Bool) (w : World) (h : impl_WordOk.f a0 a1 = some r) :
  Calls Try.prog 54 #[.int .i64 a0, .int .i64 a1] w fun e w' => e = .returned (.bool r) ∧ Drawn0 w w' := by
 have H : ((impl_isWidth.f a0).bind fun t204 => (if t204 = true then (if 0 ≤ (IntKind.u64.wrap (a0)) then ((impl_within.f a1 0 (wrap64 ((shl .i64 1 (IntKind.u64.wrap (a0))) - 1))).bind fun t205 => (some t205)) else (none)) else (some false))) = some r := h
 clear h
 replace H := oB H
 obtain ⟨t204, A30, H⟩ := H
 have A3 := am A30
 clear A30
 by_cases c4 : t204 = true
 ·subst c4
  rw [if_pos rfl] at H
  obtain ⟨ji5, hji5⟩ : ∃ j_ : Int, (IntKind.u64.wrap (a0)) = j_ := ⟨_, rfl⟩
  replace H : (if 0 ≤ (ji5) then ((impl_within.f a1 0 (wrap64 ((shl .i64 1 (ji5)) - 1))).bind fun t205 => (some t205)) else (none)) = some r := by (rw [hji5] at H; exact H)
  (try rw [hji5] at A3)
  by_cases c6 : 0 ≤ (ji5)
  ·rw [if_pos c6] at H
   have c6b0 := eq_true c6
   have c6b1 : decide (0 ≤ (ji5)) = true := decide_eq_true c6
   clear c6
   obtain ⟨ji7, hji7⟩ : ∃ j_ : Int, (shl .i64 1 (ji5)) = j_ := ⟨_, rfl⟩
   replace H : ((impl_within.f a1 0 (wrap64 ((ji7) - 1))).bind fun t205 => (some t205)) = some r := by (rw [hji7] at H; exact H)
   (try rw [hji7] at A3)
   have hji7_ : (IntKind.i64.wrap (1 * 2 ^ min (ji5).toNat 64)) = ji7 := hji7
   have hji7z : (ji5) ≤ 64 → (IntKind.i64.wrap (1 * 2 ^ (ji5).toNat)) = ji7 := shl_small hji7
   have hji7u : (IntKind.i64.wrap (2 ^ min (ji5).toNat 64)) = ji7 := by have h_ := hji7_; rw [Int.one_mul] at h_; exact h_
   have hji7v : (ji5) ≤ 64 → (IntKind.i64.wrap (2 ^ (ji5).toNat)) = ji7 := fun hle_ => by have h_ := hji7z hle_; rw [Int.one_mul] at h_; exact h_
   have hji7y : (wrap64 (1 * 2 ^ min (ji5).toNat 64)) = ji7 := (i64_w _).symm.trans hji7_
   have hji7x : (ji5) ≤ 64 → (wrap64 (1 * 2 ^ (ji5).toNat)) = ji7 := fun h_ => (i64_w _).symm.trans (hji7z h_)
   replace H := oB H
   obtain ⟨t205, A80, H⟩ := H
   have A8 := am A80
   clear A80
   obtain rfl := oI H
   go_enter Try.func54, Try.ntmps54
   go_wp2_with (first | ((with_reducible refine gate_callee (f := 83) rfl ?_); refine goesL_ (some 6) rfl rfl Try.func83 (by kernel_rfl) rfl #[.int .i64 a0] rfl tm ?_; (with_reducible refine (impl_isWidth.calls a0 true _ A3.out).mono ?_); rintro e w' ⟨rfl, ⟨nd, rfl⟩⟩; refine ⟨_, rfl, ?_⟩) | (go_at_call 72; (with_reducible refine (impl_within.calls a1 0 (wrap64 ((ji7) - 1)) t205 _ A8.out).mono ?_); rintro e w' ⟨rfl, ⟨nd, rfl⟩⟩))
   go_ret
   exact ⟨by rfl, by repeat (first | exact Drawn0.refl _ | apply Drawn0.step)⟩
  ·rw [if_neg c6] at H
   exact absurd H (by simp)
 ·replace c4 := Bool.eq_false_iff.mpr c4
  subst c4
  rw [if_neg (show ¬ (false = true) by decide)] at H
  obtain rfl := oI H
  go_enter Try.func54, Try.ntmps54
  go_wp2_with (first | ((with_reducible refine gate_callee (f := 83) rfl ?_); refine goesL_ (some 6) rfl rfl Try.func83 (by kernel_rfl) rfl #[.int .i64 a0] rfl tm ?_; (with_reducible refine (impl_isWidth.calls a0 false _ A3.out).mono ?_); rintro e w' ⟨rfl, ⟨nd, rfl⟩⟩; refine ⟨_, rfl, ?_⟩))
  go_ret
  exact ⟨by rfl, by repeat (first | exact Drawn0.refl _ | apply Drawn0.step)⟩
/-! ### impl_isQuant: function 53 -/
def impl_isQuant.f (a0_0 : Int) (a0_1 : Int) (a0_2 : Int) (a0_3 : Int) (a0_4 : Int) (a0_5 : Int) : Option (Bool) := if a0_0 = 19 then (some true) else (some (a0_0 == 20))
set_option maxHeartbeats 8000000 in
set_option maxRecDepth 100000 in
theorem impl_isQuant.calls (a0_0 : Int) (a0_1 : Int) (a0_2 : Int) (a0_3 : Int) (a0_4 : Int) (a0_5 : Int) (r : Bool) (w : World) (h : impl_isQuant.f a0_0 a0_1 a0_2 a0_3 a0_4 a0_5 = some r) :
  Calls Try.prog 53 #[.agg #[.int .i64 a0_0, .int .i64 a0_1, .int .i64 a0_2, .int .i64 a0_3, .int .i64 a0_4, .int .i64 a0_5]] w fun e w' => e = .returned (.bool r) ∧ Below w.heap.size w w' := by
 have hu31 := Try.underlying31
 have HB := am (Below.refl w.heap.size w)
 have H : (if a0_0 = 19 then (some true) else (some (a0_0 == 20))) = some r := h
 clear h
 by_cases c2 : a0_0 = 19
 ·rw [if_pos c2] at H
  have c2b0 : (a0_0 == 19) = true := beq_iff_eq.mpr c2
  have c2b1 : (a0_0 != 19) = false := bne_eq_false_iff_eq.mpr c2
  clear c2
  obtain rfl := oI H
  go_enter Try.func53, Try.ntmps53
  go_wp2_with (first | ((with_reducible refine gate_dst (N := 1) rfl ?_); refine box_event ?hg (N := 1) ?hd (cs := #[.int .i64 a0_0, .int .i64 a0_1, .int .i64 a0_2, .int .i64 a0_3, .int .i64 a0_4, .int .i64 a0_5]) (t := 31) ?hr ?_; (case hd => rfl); (case hg => rfl); (case hr => (go_simp; done)); intro gb206 hg w3 hbox hb; have n0_ := am (below_step (by exact sW HB.out) hb); have n1_ := am (hbox); have n2_ := am ((by rw [hg]; exact (below_size (by exact sW HB.out)) : w.heap.size ≤ gb206)); have n3_ := am ((by rw [hg]; exact (below_size (by exact sW HB.out)) : w.heap.size ≤ gb206)); clear HB; have HB := n0_; have BK206 := n1_; have GW206 := n2_; have GE206 := n3_; clear n0_ n1_ n2_ n3_; clear hb hbox hg; obtain ⟨hcz4_0, hcz4_1, hcz4_2, hcz4_3, hcz4_4, hcz4_5⟩ := cz6 BK206.out; obtain ⟨hfz4_0, hfz4_1, hfz4_2, hfz4_3, hfz4_4, hfz4_5⟩ := fz6 BK206.out))
  go_ret
  exact ⟨by rfl, by exact bW⟩
 ·rw [if_neg c2] at H
  have c2b0 : (a0_0 == 19) = false := beq_eq_false_iff_ne.mpr c2
  have c2b1 : (a0_0 != 19) = true := bne_iff_ne.mpr c2
  obtain rfl := oI H
  go_enter Try.func53, Try.ntmps53
  go_wp2_with (first | ((with_reducible refine gate_dst (N := 1) rfl ?_); refine box_event ?hg (N := 1) ?hd (cs := #[.int .i64 a0_0, .int .i64 a0_1, .int .i64 a0_2, .int .i64 a0_3, .int .i64 a0_4, .int .i64 a0_5]) (t := 31) ?hr ?_; (case hd => rfl); (case hg => rfl); (case hr => (go_simp; done)); intro gb206 hg w5 hbox hb; have n0_ := am (below_step (by exact sW HB.out) hb); have n1_ := am (hbox); have n2_ := am ((by rw [hg]; exact (below_size (by exact sW HB.out)) : w.heap.size ≤ gb206)); have n3_ := am ((by rw [hg]; exact (below_size (by exact sW HB.out)) : w.heap.size ≤ gb206)); clear HB; have HB := n0_; have BK206 := n1_; have GW206 := n2_; have GE206 := n3_; clear n0_ n1_ n2_ n3_; clear hb hbox hg; obtain ⟨hcz6_0, hcz6_1, hcz6_2, hcz6_3, hcz6_4, hcz6_5⟩ := cz6 BK206.out; obtain ⟨hfz6_0, hfz6_1, hfz6_2, hfz6_3, hfz6_4, hfz6_5⟩ := fz6 BK206.out))
  go_ret
  exact ⟨by rfl, by exact bW⟩
/-! ### impl_Parts: function 58 -/
def impl_Parts.j0 : Nat → Bool → Int → Int → Int → Int → Int → Int → Option (List Int)
 | 0, _, _, _, _, _, _, _ => none
 | k + 1, x3, x208000, x208001, x208002, x208003, x208004, x208005 => if x3 = true then (some (([x208003] : List Int))) else ((impl_within.f x208000 3 16).bind fun t212 => (if t212 = true then (some (([x208003, x208004] : List Int))) else (if x208000 = 18 then (some (([x208003, x208004, x208005] : List Int))) else (some (([] : List Int))))))
def impl_Parts.f (k : Nat) (a0_0 : Int) (a0_1 : Int) (a0_2 : Int) (a0_3 : Int) (a0_4 : Int) (a0_5 : Int) : Option (List Int) := if a0_0 = 2 then (impl_Parts.j0 k true a0_0 a0_1 a0_2 a0_3 a0_4 a0_5) else (if a0_0 = 17 then (impl_Parts.j0 k true a0_0 a0_1 a0_2 a0_3 a0_4 a0_5) else ((impl_isQuant.f a0_0 a0_1 a0_2 a0_3 a0_4 a0_5).bind fun t208 => (impl_Parts.j0 k t208 a0_0 a0_1 a0_2 a0_3 a0_4 a0_5)))
set_option maxHeartbeats 8000000 in
set_option maxRecDepth 100000 in
theorem impl_Parts.calls (k : Nat) (a0_0 : Int) (a0_1 : Int) (a0_2 : Int) (a0_3 : Int) (a0_4 : Int) (a0_5 : Int) (r : List Int) (w : World) (h : impl_Parts.f k a0_0 a0_1 a0_2 a0_3 a0_4 a0_5 = some r) :
  Calls Try.prog 58 #[.agg #[.int .i64 a0_0, .int .i64 a0_1, .int .i64 a0_2, .int .i64 a0_3, .int .i64 a0_4, .int .i64 a0_5]] w fun e w' => ∃ v0_ : Value, e = .returned (v0_) ∧ Kd.R (Kd.int .i64) 3 w' w.heap.size (fun _ => True) v0_ r ∧ Below w.heap.size w w' := by
 have hu31 := Try.underlying31
 have HB := am (Below.refl w.heap.size w)
 have H : (if a0_0 = 2 then (impl_Parts.j0 k true a0_0 a0_1 a0_2 a0_3 a0_4 a0_5) else (if a0_0 = 17 then (impl_Parts.j0 k true a0_0 a0_1 a0_2 a0_3 a0_4 a0_5) else ((impl_isQuant.f a0_0 a0_1 a0_2 a0_3 a0_4 a0_5).bind fun t208 => (impl_Parts.j0 k t208 a0_0 a0_1 a0_2 a0_3 a0_4 a0_5)))) = some r := h
 clear h
 have HC2 := am H
 clear H
 go_enter Try.func58, Try.ntmps58
 go_upto_region 1 with (first | ((with_reducible refine gate_dst (N := 1) rfl ?_); refine box_event ?hg (N := 1) ?hd (cs := #[.int .i64 a0_0, .int .i64 a0_1, .int .i64 a0_2, .int .i64 a0_3, .int .i64 a0_4, .int .i64 a0_5]) (t := 31) ?hr ?_; (case hd => rfl); (case hg => rfl); (case hr => (go_simp; done)); intro gb207 hg w3 hbox hb; have n0_ := am (below_step (by exact sW HB.out) hb); have n1_ := am (hbox); have n2_ := am ((by rw [hg]; exact (below_size (by exact sW HB.out)) : w.heap.size ≤ gb207)); have n3_ := am ((by rw [hg]; exact (below_size (by exact sW HB.out)) : w.heap.size ≤ gb207)); clear HB; have HB := n0_; have BK207 := n1_; have GW207 := n2_; have GE207 := n3_; clear n0_ n1_ n2_ n3_; clear hb hbox hg))
 (try simp only [Act.put, List.setIfInBounds_toArray, List.set_cons_zero, List.set_cons_succ])
 go_cut [3] (fun v3 wc => ∃ (kq : Nat) (x3_1 : Bool), v3 = .bool x3_1 ∧ Aside0 (impl_Parts.j0 kq x3_1 a0_0 a0_1 a0_2 a0_3 a0_4 a0_5 = some r) ∧ Aside0 (kq ≤ k) ∧ Aside0 (wc.heap[gb207]? = some (.cells #[.int .i64 a0_0, .int .i64 a0_1, .int .i64 a0_2, .int .i64 a0_3, .int .i64 a0_4, .int .i64 a0_5] 31 (0, 0))) ∧ Aside0 (Below w.heap.size w wc))
 case first =>
  have H := HC2.out
  clear HC2
  by_cases c4 : a0_0 = 2
  ·rw [if_pos c4] at H
   have c4b0 : (a0_0 == 2) = true := beq_iff_eq.mpr c4
   have c4b1 : (a0_0 != 2) = false := bne_eq_false_iff_eq.mpr c4
   clear c4
   (skip)
   have H' := am H
   clear H
   obtain ⟨hcz5_0, hcz5_1, hcz5_2, hcz5_3, hcz5_4, hcz5_5⟩ := cz6 BK207.out
   obtain ⟨hfz5_0, hfz5_1, hfz5_2, hfz5_3, hfz5_4, hfz5_5⟩ := fz6 BK207.out
   go_wp2
   go_meet
   case rel => exact ⟨_, (true), (by rfl), H', ⟨by omega⟩, ⟨by exact sB <| BK207.out⟩, ⟨by exact bW⟩⟩
  ·rw [if_neg c4] at H
   have c4b0 : (a0_0 == 2) = false := beq_eq_false_iff_ne.mpr c4
   have c4b1 : (a0_0 != 2) = true := bne_iff_ne.mpr c4
   (skip)
   by_cases c6 : a0_0 = 17
   ·rw [if_pos c6] at H
    have c6b0 : (a0_0 == 17) = true := beq_iff_eq.mpr c6
    have c6b1 : (a0_0 != 17) = false := bne_eq_false_iff_eq.mpr c6
    clear c6
    have H' := am H
    clear H
    obtain ⟨hcz7_0, hcz7_1, hcz7_2, hcz7_3, hcz7_4, hcz7_5⟩ := cz6 BK207.out
    obtain ⟨hfz7_0, hfz7_1, hfz7_2, hfz7_3, hfz7_4, hfz7_5⟩ := fz6 BK207.out
    go_wp2
    go_meet
    case rel => exact ⟨_, (true), (by rfl), H', ⟨by omega⟩, ⟨by exact sB <| BK207.out⟩, ⟨by exact bW⟩⟩
   ·rw [if_neg c6] at H
    have c6b0 : (a0_0 == 17) = false := beq_eq_false_iff_ne.mpr c6
    have c6b1 : (a0_0 != 17) = true := bne_iff_ne.mpr c6
    replace H := oB H
    obtain ⟨t208, A80, H⟩ := H
    have A8 := am A80
    clear A80
    have H' := am H
    clear H
    obtain ⟨hcz9_0, hcz9_1, hcz9_2, hcz9_3, hcz9_4, hcz9_5⟩ := cz6 BK207.out
    obtain ⟨hfz9_0, hfz9_1, hfz9_2, hfz9_3, hfz9_4, hfz9_5⟩ := fz6 BK207.out
    go_wp2_with (first | (go_at_call 53; (with_reducible refine (impl_isQuant.calls a0_0 a0_1 a0_2 a0_3 a0_4 a0_5 t208 _ A8.out).mono ?_); rintro e w10 ⟨rfl, hb⟩; have n0_ := am (blk_below (g := gb207) (o := .cells #[.int .i64 a0_0, .int .i64 a0_1, .int .i64 a0_2, .int .i64 a0_3, .int .i64 a0_4, .int .i64 a0_5] 31 (0, 0)) (by exact sB <| BK207.out) hb); have n1_ := am (below_step (by exact bW) hb); clear BK207; clear HB; have BK207 := n0_; have HB := n1_; clear n0_ n1_; (try clear hb); (try clear hb2); (try clear hk); (try clear hi)))
    go_meet
    case rel => exact ⟨_, (t208), (by rfl), H', ⟨by omega⟩, ⟨by exact sB <| BK207.out⟩, ⟨by exact bW⟩⟩
 case rest =>
  clear HC2
  obtain ⟨kq, x3_1, rfl, HA, HJ1, BK207, HB⟩ := hcut
  cases kq with
  | zero => exact absurd HA.out (by simp [impl_Parts.j0])
  | succ kj1 =>
   have H := HA.out
   clear HA
   simp only [impl_Parts.j0] at H
   by_cases c11 : x3_1 = true
   ·subst c11
    rw [if_pos rfl] at H
    obtain ⟨y209, hy209⟩ : ∃ y_ : List Int, y_ = (([a0_3] : List Int)) := ⟨_, rfl⟩
    replace H : (some y209) = some r := by (rw [hy209]; with_reducible exact H)
    have Ny209 := am hy209
    clear hy209
    obtain rfl := oI H
    obtain ⟨hcz12_0, hcz12_1, hcz12_2, hcz12_3, hcz12_4, hcz12_5⟩ := cz6 BK207.out
    obtain ⟨hfz12_0, hfz12_1, hfz12_2, hfz12_3, hfz12_4, hfz12_5⟩ := fz6 BK207.out
    go_wp2_with (first | ((with_reducible refine gate_dst (N := 18) rfl ?_); refine Kd.R_lit (Kd.int .i64) _ 3 ?hg (N := 18) ?hd (xs := ([a0_3] : List Int)) (inner := [.int .i64 a0_3]) (ok := fun _ => True) (okp := fun _ => True) ?hr ?hp (fun _ hk => hk) trivial (Below.refl _ _) (Nat.le_refl _) (by simp) ?_; (case hd => rfl); (case hg => rfl); (case hr => (go_simp; done)); (case hp => exact (Reps.one (show Kd.M (Kd.int .i64) _ _ _ a0_3 [.int .i64 a0_3] from rfl) (Reps.none _ _))); intro v210 w13 ho14 hb hg_ hnew_; clear hg_ hnew_; (rw [← Ny209.out] at ho14); have n0_ := am (Kd.R_lower ho14 (below_size (by exact bW))); have n1_ := am (blk_below (g := gb207) (o := .cells #[.int .i64 a0_0, .int .i64 a0_1, .int .i64 a0_2, .int .i64 a0_3, .int .i64 a0_4, .int .i64 a0_5] 31 (0, 0)) (by exact sB <| BK207.out) hb); have n2_ := am (below_step (by exact bW) hb); clear BK207; clear HB; have HO211 := n0_; have BK207 := n1_; have HB := n2_; clear n0_ n1_ n2_; clear hb ho14))
    go_ret
    exact ⟨_, by rfl, by exact sR <| HO211.out, by exact bW⟩
   ·replace c11 := Bool.eq_false_iff.mpr c11
    subst c11
    rw [if_neg (show ¬ (false = true) by decide)] at H
    replace H := oB H
    obtain ⟨t212, A150, H⟩ := H
    have A15 := am A150
    clear A150
    by_cases c16 : t212 = true
    ·subst c16
     rw [if_pos rfl] at H
     obtain ⟨y213, hy213⟩ : ∃ y_ : List Int, y_ = (([a0_3, a0_4] : List Int)) := ⟨_, rfl⟩
     replace H : (some y213) = some r := by (rw [hy213]; with_reducible exact H)
     have Ny213 := am hy213
     clear hy213
     obtain rfl := oI H
     obtain ⟨hcz17_0, hcz17_1, hcz17_2, hcz17_3, hcz17_4, hcz17_5⟩ := cz6 BK207.out
     obtain ⟨hfz17_0, hfz17_1, hfz17_2, hfz17_3, hfz17_4, hfz17_5⟩ := fz6 BK207.out
     go_wp2_with (first | ((with_reducible refine gate_callee (f := 72) rfl ?_); refine goesL_ (some 22) rfl rfl Try.func72 (by kernel_rfl) rfl #[.int .i64 a0_0, .int .i64 3, .int .i64 16] rfl tm ?_; (with_reducible refine (impl_within.calls a0_0 3 16 true _ A15.out).mono ?_); rintro e w' ⟨rfl, ⟨nd, rfl⟩⟩; refine ⟨_, rfl, ?_⟩) | ((with_reducible refine gate_dst (N := 27) rfl ?_); refine Kd.R_lit (Kd.int .i64) _ 3 ?hg (N := 27) ?hd (xs := ([a0_3, a0_4] : List Int)) (inner := [.int .i64 a0_3, .int .i64 a0_4]) (ok := fun _ => True) (okp := fun _ => True) ?hr ?hp (fun _ hk => hk) trivial (Below.refl _ _) (Nat.le_refl _) (by simp) ?_; (case hd => rfl); (case hg => rfl); (case hr => (go_simp; done)); (case hp => exact (Reps.one (show Kd.M (Kd.int .i64) _ _ _ a0_3 [.int .i64 a0_3] from rfl) (Reps.one (show Kd.M (Kd.int .i64) _ _ _ a0_4 [.int .i64 a0_4] from rfl) (Reps.none _ _)))); intro v214 w18 ho19 hb hg_ hnew_; clear hg_ hnew_; (rw [← Ny213.out] at ho19); have n0_ := am (Kd.R_lower ho19 (below_size (by exact bW))); have n1_ := am (blk_below (g := gb207) (o := .cells #[.int .i64 a0_0, .int .i64 a0_1, .int .i64 a0_2, .int .i64 a0_3, .int .i64 a0_4, .int .i64 a0_5] 31 (0, 0)) (by exact sB <| BK207.out) hb); have n2_ := am (below_step (by exact bW) hb); clear BK207; clear HB; have HO215 := n0_; have BK207 := n1_; have HB := n2_; clear n0_ n1_ n2_; clear hb ho19))
     go_ret
     exact ⟨_, by rfl, by exact sR <| HO215.out, by exact bW⟩
    ·replace c16 := Bool.eq_false_iff.mpr c16
     subst c16
     rw [if_neg (show ¬ (false = true) by decide)] at H
     by_cases c20 : a0_0 = 18
     ·rw [if_pos c20] at H
      have c20b0 : (a0_0 == 18) = true := beq_iff_eq.mpr c20
      have c20b1 : (a0_0 != 18) = false := bne_eq_false_iff_eq.mpr c20
      clear c20
      obtain ⟨y216, hy216⟩ : ∃ y_ : List Int, y_ = (([a0_3, a0_4, a0_5] : List Int)) := ⟨_, rfl⟩
      replace H : (some y216) = some r := by (rw [hy216]; with_reducible exact H)
      have Ny216 := am hy216
      clear hy216
      obtain rfl := oI H
      obtain ⟨hcz21_0, hcz21_1, hcz21_2, hcz21_3, hcz21_4, hcz21_5⟩ := cz6 BK207.out
      obtain ⟨hfz21_0, hfz21_1, hfz21_2, hfz21_3, hfz21_4, hfz21_5⟩ := fz6 BK207.out
      go_wp2_with (first | ((with_reducible refine gate_callee (f := 72) rfl ?_); refine goesL_ (some 22) rfl rfl Try.func72 (by kernel_rfl) rfl #[.int .i64 a0_0, .int .i64 3, .int .i64 16] rfl tm ?_; (with_reducible refine (impl_within.calls a0_0 3 16 false _ A15.out).mono ?_); rintro e w' ⟨rfl, ⟨nd, rfl⟩⟩; refine ⟨_, rfl, ?_⟩) | ((with_reducible refine gate_dst (N := 38) rfl ?_); refine Kd.R_lit (Kd.int .i64) _ 3 ?hg (N := 38) ?hd (xs := ([a0_3, a0_4, a0_5] : List Int)) (inner := [.int .i64 a0_3, .int .i64 a0_4, .int .i64 a0_5]) (ok := fun _ => True) (okp := fun _ => True) ?hr ?hp (fun _ hk => hk) trivial (Below.refl _ _) (Nat.le_refl _) (by simp) ?_; (case hd => rfl); (case hg => rfl); (case hr => (go_simp; done)); (case hp => exact (Reps.one (show Kd.M (Kd.int .i64) _ _ _ a0_3 [.int .i64 a0_3] from rfl) (Reps.one (show Kd.M (Kd.int .i64) _ _ _ a0_4 [.int .i64 a0_4] from rfl) (Reps.one (show Kd.M (Kd.int .i64) _ _ _ a0_5 [.int .i64 a0_5] from rfl) (Reps.none _ _))))); intro v217 w22 ho23 hb hg_ hnew_; clear hg_ hnew_; (rw [← Ny216.out] at ho23); have n0_ := am (Kd.R_lower ho23 (below_size (by exact bW))); have n1_ := am (blk_below (g := gb207) (o := .cells #[.int .i64 a0_0, .int .i64 a0_1, .int .i64 a0_2, .int .i64 a0_3, .int .i64 a0_4, .int .i64 a0_5] 31 (0, 0)) (by exact sB <| BK207.out) hb); have n2_ := am (below_step (by exact bW) hb); clear BK207; clear HB; have HO218 := n0_; have BK207 := n1_; have HB := n2_; clear n0_ n1_ n2_; clear hb ho23))
      go_ret
      exact ⟨_, by rfl, by exact sR <| HO218.out, by exact bW⟩
     ·rw [if_neg c20] at H
      have c20b0 : (a0_0 == 18) = false := beq_eq_false_iff_ne.mpr c20
      have c20b1 : (a0_0 != 18) = true := bne_iff_ne.mpr c20
      obtain ⟨y219, hy219⟩ : ∃ y_ : List Int, y_ = (([] : List Int)) := ⟨_, rfl⟩
      replace H : (some y219) = some r := by (rw [hy219]; with_reducible exact H)
      have Ny219 := am hy219
      clear hy219
      obtain rfl := oI H
      obtain ⟨hcz24_0, hcz24_1, hcz24_2, hcz24_3, hcz24_4, hcz24_5⟩ := cz6 BK207.out
      obtain ⟨hfz24_0, hfz24_1, hfz24_2, hfz24_3, hfz24_4, hfz24_5⟩ := fz6 BK207.out
      go_wp2_with (first | ((with_reducible refine gate_callee (f := 72) rfl ?_); refine goesL_ (some 22) rfl rfl Try.func72 (by kernel_rfl) rfl #[.int .i64 a0_0, .int .i64 3, .int .i64 16] rfl tm ?_; (with_reducible refine (impl_within.calls a0_0 3 16 false _ A15.out).mono ?_); rintro e w' ⟨rfl, ⟨nd, rfl⟩⟩; refine ⟨_, rfl, ?_⟩) | ((with_reducible refine gate_dst (N := 39) rfl ?_); refine Kd.R_lit (Kd.int .i64) _ 3 ?hg (N := 39) ?hd (xs := ([] : List Int)) (inner := []) (ok := fun _ => True) (okp := fun _ => True) ?hr ?hp (fun _ hk => hk) trivial (Below.refl _ _) (Nat.le_refl _) (by simp) ?_; (case hd => rfl); (case hg => rfl); (case hr => (go_simp; done)); (case hp => exact (Reps.none _ _)); intro v220 w25 ho26 hb hg_ hnew_; clear hg_ hnew_; (rw [← Ny219.out] at ho26); have n0_ := am (Kd.R_lower ho26 (below_size (by exact bW))); have n1_ := am (blk_below (g := gb207) (o := .cells #[.int .i64 a0_0, .int .i64 a0_1, .int .i64 a0_2, .int .i64 a0_3, .int .i64 a0_4, .int .i64 a0_5] 31 (0, 0)) (by exact sB <| BK207.out) hb); have n2_ := am (below_step (by exact bW) hb); clear BK207; clear HB; have HO221 := n0_; have BK207 := n1_; have HB := n2_; clear n0_ n1_ n2_; clear hb ho26))
      go_ret
      exact ⟨_, by rfl, by exact sR <| HO221.out, by exact bW⟩
theorem eqA31 (d : Nat) (w : World) (x0 y0 : Int) (x1 y1 : Int) (x2 y2 : Int) (x3 y3 : Int) (x4 y4 : Int) (x5 y5 : Int) :
  (Op.equalIn (d + 2) 31 (.agg #[.int .i64 x0, .int .i64 x1, .int .i64 x2, .int .i64 x3, .int .i64 x4, .int .i64 x5]) (.agg #[.int .i64 y0, .int .i64 y1, .int .i64 y2, .int .i64 y3, .int .i64 y4, .int .i64 y5])).run Try.prog w = .ok (x0 == y0 && (x1 == y1 && (x2 == y2 && (x3 == y3 && (x4 == y4 && (x5 == y5)))))) w := by
 refine eqA_of Try.underlying31 (by kernel_rfl) ?_
 refine eqf_cons (by rfl) (by go_simp; rfl) (by go_simp; rfl) (by go_simp) ?_
 refine eqf_cons (by rfl) (by go_simp; rfl) (by go_simp; rfl) (by go_simp) ?_
 refine eqf_cons (by rfl) (by go_simp; rfl) (by go_simp; rfl) (by go_simp) ?_
 refine eqf_cons (by rfl) (by go_simp; rfl) (by go_simp; rfl) (by go_simp) ?_
 refine eqf_cons (by rfl) (by go_simp; rfl) (by go_simp; rfl) (by go_simp) ?_
 exact eqf_last (by rfl) (by go_simp; rfl) (by go_simp; rfl) (by go_simp)
section
attribute [local go_sem high] eqA31
@[reducible] def zA0x11 : Array Bool := #[false, false, false, false, false, false, false, false]
@[reducible] def zA1x11 : Array Bool := #[true, false, false, false, false, false, false, false]
@[reducible] def zA2x11 : Array Bool := #[true, false, true, false, false, false, false, false]
@[reducible] def zA3x11 : Array Bool := #[true, true, true, false, false, false, false, false]
@[reducible] def zA4x11 : Array Bool := #[true, true, true, false, true, false, false, false]
@[reducible] def zA5x11 : Array Bool := #[true, true, true, true, true, false, false, false]
@[reducible] def zA6x11 : Array Bool := #[true, true, true, true, true, true, false, false]
@[reducible] def zA7x11 : Array Bool := #[true, true, true, true, true, true, true, false]
@[reducible] def zA8x11 : Array Bool := #[true, true, true, true, true, true, true, true]
@[reducible] def zA9x11 : Array Bool := #[false, false, false, false, false, false, false, false, false, false, false, false]
@[reducible] def zA10x11 : Array Bool := #[true, false, false, false, false, false, false, false, false, false, false, false]
@[reducible] def zA11x11 : Array Bool := #[true, false, true, false, false, false, false, false, false, false, false, false]
@[reducible] def zA12x11 : Array Bool := #[true, false, true, false, true, false, false, false, false, false, false, false]
@[reducible] def zA13x11 : Array Bool := #[true, true, true, false, true, false, false, false, false, false, false, false]
@[reducible] def zA14x11 : Array Bool := #[true, true, true, false, true, false, true, false, false, false, false, false]
@[reducible] def zA15x11 : Array Bool := #[true, true, true, true, true, false, true, false, false, false, false, false]
@[reducible] def zA16x11 : Array Bool := #[true, true, true, true, true, true, true, false, false, false, false, false]
@[reducible] def zA17x11 : Array Bool := #[true, true, true, true, true, true, true, true, false, false, false, false]
@[reducible] def zA18x11 : Array Bool := #[true, true, true, true, true, true, true, true, true, false, false, false]
@[reducible] def zA19x11 : Array Bool := #[true, true, true, true, true, true, true, true, true, true, false, false]
@[reducible] def zA20x11 : Array Bool := #[true, true, true, true, true, true, true, true, true, true, true, false]
@[reducible] def zA21x11 : Array Bool := #[true, true, true, true, true, true, true, true, true, true, true, true]
/-! ### impl_usesOnly: function 109 -/
def impl_usesOnly.j0 : Nat → Int → Bool → Int → Int → Int → Int → Int → Int → Int → Int → Int → Int → Int → Int → Option (Bool)
 | 0, _, _, _, _, _, _, _, _, _, _, _, _, _, _ => none
 | k + 1, x4, x13, x223000, x223001, x223002, x223003, x223004, x223005, x224000, x224001, x224002, x224003, x224004, x224005 => if x13 = true then (some (x223000 == x224000 && (x223001 == x224001 && (x223003 == x224003 && (x223004 == x224004 && (x223005 == x224005)))))) else (if x223000 = 17 then (some (x223000 == x224000 && (x223001 == x224001 && (x223004 == x224004 && (x223005 == x224005))))) else ((impl_isQuant.f x223000 x223001 x223002 x223003 x223004 x223005).bind fun t227 => (if t227 = true then (some (x223000 == x224000 && (x223001 == x224001 && (x223005 == x224005)))) else (if x4 > 0 then (if x4 > 1 then (if x4 > 2 then (some (x223000 == x224000 && (x223001 == x224001 && (x223002 == x224002)))) else (some (x223000 == x224000 && (x223001 == x224001 && (x223002 == x224002 && (x223005 == x224005)))))) else (if x4 > 2 then (some (x223000 == x224000 && (x223001 == x224001 && (x223002 == x224002 && (x223004 == x224004))))) else (some (x223000 == x224000 && (x223001 == x224001 && (x223002 == x224002 && (x223004 == x224004 && (x223005 == x224005)))))))) else (some (x223000 == x224000 && (x223001 == x224001 && (x223002 == x224002 && (x223003 == x224003 && (x223004 == x224004 && (x223005 == x224005)))))))))))
def impl_usesOnly.f (k : Nat) (a0_0 : Int) (a0_1 : Int) (a0_2 : Int) (a0_3 : Int) (a0_4 : Int) (a0_5 : Int) : Option (Bool) := (impl_Parts.f k a0_0 a0_1 a0_2 a0_3 a0_4 a0_5).bind fun t224 => (if a0_0 = 0 then (impl_usesOnly.j0 k (t224.length : Int) true a0_0 a0_1 a0_2 a0_3 a0_4 a0_5 a0_0 a0_1 0 0 0 0) else (impl_usesOnly.j0 k (t224.length : Int) (a0_0 == 1) a0_0 a0_1 a0_2 a0_3 a0_4 a0_5 a0_0 a0_1 0 0 0 0))
def impl_usesOnly.T6 : Bool × List (List Nat × List Nat) := (true, [([], []), ([0], [0]), ([], []), ([2], [2]), ([0, 1], []), ([4, 1, 0, 1], [1, 4]), ([0, 1, 2, 3, 4, 5], []), ([6, 3, 5, 0, 1, 2, 3, 4, 5], [3, 6])])
def impl_usesOnly.B6 : List Nat := [0, 1, 0, 4, 3, 19, 63, 127]
theorem impl_usesOnly.tab6 : rtab .any (opsOf Try.f109 6) = impl_usesOnly.T6 := by kernel_rfl
theorem impl_usesOnly.bits6 : waitsOk impl_usesOnly.T6.2 impl_usesOnly.B6 = true := by kernel_rfl
def impl_usesOnly.T8 : Bool × List (List Nat × List Nat) := (true, [([], []), ([0], [0]), ([], []), ([2], [2]), ([], []), ([4], [4]), ([0, 1], []), ([6, 1, 0, 1], [1, 6]), ([0, 1, 2, 3, 6, 7], []), ([8, 3, 7, 0, 1, 2, 3, 6, 7], [3, 8]), ([0, 1, 2, 3, 4, 5, 6, 7, 8, 9], []), ([10, 5, 9, 0, 1, 2, 3, 4, 5, 6, 7, 8, 9], [5, 10])])
def impl_usesOnly.B8 : List Nat := [0, 1, 0, 4, 0, 16, 3, 67, 207, 463, 1023, 2047]
theorem impl_usesOnly.tab8 : rtab .any (opsOf Try.f109 8) = impl_usesOnly.T8 := by kernel_rfl
theorem impl_usesOnly.bits8 : waitsOk impl_usesOnly.T8.2 impl_usesOnly.B8 = true := by kernel_rfl
set_option maxHeartbeats 8000000 in
set_option maxRecDepth 100000 in
theorem impl_usesOnly.calls (k : Nat) (a0_0 : Int) (a0_1 : Int) (a0_2 : Int) (a0_3 : Int) (a0_4 : Int) (a0_5 : Int) (r : Bool) (w : World) (h : impl_usesOnly.f k a0_0 a0_1 a0_2 a0_3 a0_4 a0_5 = some r) :
  Calls Try.prog 109 #[.agg #[.int .i64 a0_0, .int .i64 a0_1, .int .i64 a0_2, .int .i64 a0_3, .int .i64 a0_4, .int .i64 a0_5]] w fun e w' => e = .returned (.bool r) ∧ Below w.heap.size w w' := by
 have hu31 := Try.underlying31
 have HB := am (Below.refl w.heap.size w)
 have H : ((impl_Parts.f k a0_0 a0_1 a0_2 a0_3 a0_4 a0_5).bind fun t224 => (if a0_0 = 0 then (impl_usesOnly.j0 k (t224.length : Int) true a0_0 a0_1 a0_2 a0_3 a0_4 a0_5 a0_0 a0_1 0 0 0 0) else (impl_usesOnly.j0 k (t224.length : Int) (a0_0 == 1) a0_0 a0_1 a0_2 a0_3 a0_4 a0_5 a0_0 a0_1 0 0 0 0))) = some r := h
 clear h
 replace H := oB H
 obtain ⟨t224, A20, H⟩ := H
 have A2 := am A20
 clear A20
 have HC3 := am H
 clear H
 go_enter Try.func109, Try.ntmps109
 go_upto_region 3 with (first | ((with_reducible refine gate_dst (N := 1) rfl ?_); refine box_event ?hg (N := 1) ?hd (cs := #[.int .i64 a0_0, .int .i64 a0_1, .int .i64 a0_2, .int .i64 a0_3, .int .i64 a0_4, .int .i64 a0_5]) (t := 31) ?hr ?_; (case hd => rfl); (case hg => rfl); (case hr => first | (go_simp; done) | (go_simp; rfl)); intro gb222 hg w4 hbox hb; have n0_ := am (below_step (by exact sW HB.out) hb); have n1_ := am (hbox); have n2_ := am ((by rw [hg]; exact (below_size (by exact sW HB.out)) : w.heap.size ≤ gb222)); have n3_ := am ((by rw [hg]; exact (below_size (by exact sW HB.out)) : w.heap.size ≤ gb222)); clear HB; have HB := n0_; have BK222 := n1_; have GW222 := n2_; have GE222 := n3_; clear n0_ n1_ n2_ n3_; clear hb hbox hg; obtain ⟨hcz5_0, hcz5_1, hcz5_2, hcz5_3, hcz5_4, hcz5_5⟩ := cz6 BK222.out; obtain ⟨hfz5_0, hfz5_1, hfz5_2, hfz5_3, hfz5_4, hfz5_5⟩ := fz6 BK222.out) | ((with_reducible refine gate_dst (N := 3) rfl ?_); refine box_event ?hg (N := 3) ?hd (cs := #[.int .i64 0, .int .i64 0, .int .i64 0, .int .i64 0, .int .i64 0, .int .i64 0]) (t := 31) ?hr ?_; (case hd => rfl); (case hg => rfl); (case hr => first | (go_simp; done) | (go_simp; rfl)); intro gb223 hg w6 hbox hb; have n0_ := am (blk_below (g := gb222) (o := .cells #[.int .i64 a0_0, .int .i64 a0_1, .int .i64 a0_2, .int .i64 a0_3, .int .i64 a0_4, .int .i64 a0_5] 31 (0, 0)) (by exact sB <| BK222.out) hb); have n1_ := am (below_step (by exact bW) hb); have n2_ := am (hbox); have n3_ := am ((by rw [hg]; exact (below_size (by exact bW)) : w.heap.size ≤ gb223)); have n4_ := am ((by rw [hg]; exact (below_size (by exact bW)) : w.heap.size ≤ gb223)); have n5_ := am ((by rw [hg]; exact Nat.ne_of_lt (blk_lt (g := gb222) (o := .cells #[.int .i64 a0_0, .int .i64 a0_1, .int .i64 a0_2, .int .i64 a0_3, .int .i64 a0_4, .int .i64 a0_5] 31 (0, 0)) (by exact sB <| BK222.out)) : gb222 ≠ gb223)); have n6_ := am ((by rw [hg]; exact Nat.ne_of_gt (blk_lt (g := gb222) (o := .cells #[.int .i64 a0_0, .int .i64 a0_1, .int .i64 a0_2, .int .i64 a0_3, .int .i64 a0_4, .int .i64 a0_5] 31 (0, 0)) (by exact sB <| BK222.out)) : gb223 ≠ gb222)); clear BK222; clear HB; have BK222 := n0_; have HB := n1_; have BK223 := n2_; have GW223 := n3_; have GE223 := n4_; have NB222_223 := n5_; have NB223_222 := n6_; clear n0_ n1_ n2_ n3_ n4_ n5_ n6_; clear hb hbox hg; have hnb7 := NB223_222.out; have hnc7 := NB222_223.out; obtain ⟨hcz8_0, hcz8_1, hcz8_2, hcz8_3, hcz8_4, hcz8_5⟩ := cz6 BK223.out; obtain ⟨hfz8_0, hfz8_1, hfz8_2, hfz8_3, hfz8_4, hfz8_5⟩ := fz6 BK223.out; obtain ⟨hcz9_0, hcz9_1, hcz9_2, hcz9_3, hcz9_4, hcz9_5⟩ := cz6 BK222.out; obtain ⟨hfz9_0, hfz9_1, hfz9_2, hfz9_3, hfz9_4, hfz9_5⟩ := fz6 BK222.out) | ((with_reducible refine gate_callee (f := 58) rfl ?_); refine goesL_ (some 11) rfl rfl Try.func58 (by kernel_rfl) rfl #[.agg #[.int .i64 a0_0, .int .i64 a0_1, .int .i64 a0_2, .int .i64 a0_3, .int .i64 a0_4, .int .i64 a0_5]] rfl (by (try simp only [List.map_toArray, List.map_cons, List.map_nil]); first | done | rfl | (simp only [List.length_drop, List.length_take]; rfl)) ?_; (with_reducible refine (impl_Parts.calls k a0_0 a0_1 a0_2 a0_3 a0_4 a0_5 t224 _ A2.out).mono ?_); rintro e w10 ⟨v225, rfl, ho0, hb⟩; refine ⟨_, rfl, ?_⟩; have n0_ := am (Kd.R_lower ho0 (below_size (by exact bW))); have n1_ := am (blk_below (g := gb222) (o := .cells #[.int .i64 a0_0, .int .i64 a0_1, .int .i64 a0_2, .int .i64 a0_3, .int .i64 a0_4, .int .i64 a0_5] 31 (0, 0)) (by (with_reducible repeat (first | refine blk_drewN ?_ _ | refine blk_drew ?_ | refine blk_alloc ?_ _)); refine blk_far ?_ NB222_223.out _; (with_reducible repeat (first | refine blk_drewN ?_ _ | refine blk_drew ?_ | refine blk_alloc ?_ _)); refine blk_far ?_ NB222_223.out _; (with_reducible repeat (first | refine blk_drewN ?_ _ | refine blk_drew ?_ | refine blk_alloc ?_ _)); refine blk_far ?_ NB222_223.out _; (with_reducible repeat (first | refine blk_drewN ?_ _ | refine blk_drew ?_ | refine blk_alloc ?_ _)); refine blk_far ?_ NB222_223.out _; (with_reducible repeat (first | refine blk_drewN ?_ _ | refine blk_drew ?_ | refine blk_alloc ?_ _)); refine blk_far ?_ NB222_223.out _; (with_reducible repeat (first | refine blk_drewN ?_ _ | refine blk_drew ?_ | refine blk_alloc ?_ _)); refine blk_far ?_ NB222_223.out _; exact sB <| BK222.out) hb); have n2_ := am (blk_below (g := gb223) (o := .cells #[.int .i64 a0_0, .int .i64 a0_1, .int .i64 0, .int .i64 0, .int .i64 0, .int .i64 0] 31 (0, 0)) (by (with_reducible repeat (first | refine blk_drewN ?_ _ | refine blk_drew ?_ | refine blk_alloc ?_ _)); refine blk_put (cs := #[.int .i64 a0_0, .int .i64 a0_1, .int .i64 0, .int .i64 0, .int .i64 0, .int .i64 0]) ?_ 5 _ rfl; (with_reducible repeat (first | refine blk_drewN ?_ _ | refine blk_drew ?_ | refine blk_alloc ?_ _)); refine blk_put (cs := #[.int .i64 a0_0, .int .i64 a0_1, .int .i64 0, .int .i64 0, .int .i64 0, .int .i64 0]) ?_ 4 _ rfl; (with_reducible repeat (first | refine blk_drewN ?_ _ | refine blk_drew ?_ | refine blk_alloc ?_ _)); refine blk_put (cs := #[.int .i64 a0_0, .int .i64 a0_1, .int .i64 0, .int .i64 0, .int .i64 0, .int .i64 0]) ?_ 3 _ rfl; (with_reducible repeat (first | refine blk_drewN ?_ _ | refine blk_drew ?_ | refine blk_alloc ?_ _)); refine blk_put (cs := #[.int .i64 a0_0, .int .i64 a0_1, .int .i64 0, .int .i64 0, .int .i64 0, .int .i64 0]) ?_ 2 _ rfl; (with_reducible repeat (first | refine blk_drewN ?_ _ | refine blk_drew ?_ | refine blk_alloc ?_ _)); refine blk_put (cs := #[.int .i64 a0_0, .int .i64 0, .int .i64 0, .int .i64 0, .int .i64 0, .int .i64 0]) ?_ 1 _ rfl; (with_reducible repeat (first | refine blk_drewN ?_ _ | refine blk_drew ?_ | refine blk_alloc ?_ _)); refine blk_put (cs := #[.int .i64 0, .int .i64 0, .int .i64 0, .int .i64 0, .int .i64 0, .int .i64 0]) ?_ 0 _ rfl; exact sB <| BK223.out) hb); have n3_ := am (below_step (by exact bW) hb); clear BK222; clear BK223; clear HB; have HO226 := n0_; have BK222 := n1_; have BK223 := n2_; have HB := n3_; clear n0_ n1_ n2_ n3_; obtain ⟨Ao11, co11, eo11⟩ := Kd.R_slice HO226.out; subst eo11)); clear hb ho0
 (try simp only [Act.put, List.setIfInBounds_toArray, List.set_cons_zero, List.set_cons_succ])
 go_cut [13] (fun v13 wc => ∃ (kq : Nat) (x13_2 : Bool), v13 = .bool x13_2 ∧ Aside0 (impl_usesOnly.j0 kq (t224.length : Int) x13_2 a0_0 a0_1 a0_2 a0_3 a0_4 a0_5 a0_0 a0_1 0 0 0 0 = some r) ∧ Aside0 (kq ≤ k) ∧ Aside0 (wc.heap[gb222]? = some (.cells #[.int .i64 a0_0, .int .i64 a0_1, .int .i64 a0_2, .int .i64 a0_3, .int .i64 a0_4, .int .i64 a0_5] 31 (0, 0))) ∧ Aside0 (wc.heap[gb223]? = some (.cells #[.int .i64 a0_0, .int .i64 a0_1, .int .i64 0, .int .i64 0, .int .i64 0, .int .i64 0] 31 (0, 0))) ∧ Aside0 (Below w.heap.size w wc))
 case first =>
  have H := HC3.out
  clear HC3
  by_cases c12 : a0_0 = 0
  ·rw [if_pos c12] at H
   have c12b0 : (a0_0 == 0) = true := beq_iff_eq.mpr c12
   have c12b1 : (a0_0 != 0) = false := bne_eq_false_iff_eq.mpr c12
   clear c12
   (skip)
   have H' := am H
   clear H
   have hnb13 := NB222_223.out
   have hnc13 := NB223_222.out
   obtain ⟨hcz14_0, hcz14_1, hcz14_2, hcz14_3, hcz14_4, hcz14_5⟩ := cz6 BK222.out
   obtain ⟨hfz14_0, hfz14_1, hfz14_2, hfz14_3, hfz14_4, hfz14_5⟩ := fz6 BK222.out
   go_wp2
   go_meet
   case rel => exact ⟨_, (true), (by rfl), H', ⟨by omega⟩, ⟨by exact sB <| BK222.out⟩, ⟨by exact sB <| BK223.out⟩, ⟨by exact bW⟩⟩
  ·rw [if_neg c12] at H
   have c12b0 : (a0_0 == 0) = false := beq_eq_false_iff_ne.mpr c12
   have c12b1 : (a0_0 != 0) = true := bne_iff_ne.mpr c12
   (skip)
   have H' := am H
   clear H
   have hnb15 := NB222_223.out
   have hnc15 := NB223_222.out
   obtain ⟨hcz16_0, hcz16_1, hcz16_2, hcz16_3, hcz16_4, hcz16_5⟩ := cz6 BK222.out
   obtain ⟨hfz16_0, hfz16_1, hfz16_2, hfz16_3, hfz16_4, hfz16_5⟩ := fz6 BK222.out
   go_wp2
   go_meet
   case rel => exact ⟨_, ((a0_0 == 1)), (by rfl), H', ⟨by omega⟩, ⟨by exact sB <| BK222.out⟩, ⟨by exact sB <| BK223.out⟩, ⟨by exact bW⟩⟩
 case rest =>
  clear HC3
  clear hcz5_0 hcz5_1 hcz5_2 hcz5_3 hcz5_4 hcz5_5 hcz8_0 hcz8_1 hcz8_2 hcz8_3 hcz8_4 hcz8_5 hcz9_0 hcz9_1 hcz9_2 hcz9_3 hcz9_4 hcz9_5 hfz5_0 hfz5_1 hfz5_2 hfz5_3 hfz5_4 hfz5_5 hfz8_0 hfz8_1 hfz8_2 hfz8_3 hfz8_4 hfz8_5 hfz9_0 hfz9_1 hfz9_2 hfz9_3 hfz9_4 hfz9_5
  obtain ⟨kq, x13_2, rfl, HA, HJ2, BK222, BK223, HB⟩ := hcut
  cases kq with
  | zero => exact absurd HA.out (by simp [impl_usesOnly.j0])
  | succ kj2 =>
   have H := HA.out
   clear HA
   simp only [impl_usesOnly.j0] at H
   by_cases c17 : x13_2 = true
   ·subst c17
    rw [if_pos rfl] at H
    obtain rfl := oI H
    have hnb18 := NB222_223.out
    have hnc18 := NB223_222.out
    obtain ⟨hcz19_0, hcz19_1, hcz19_2, hcz19_3, hcz19_4, hcz19_5⟩ := cz6 BK222.out
    obtain ⟨hfz19_0, hfz19_1, hfz19_2, hfz19_3, hfz19_4, hfz19_5⟩ := fz6 BK222.out
    obtain ⟨hcz20_0, hcz20_1, hcz20_2, hcz20_3, hcz20_4, hcz20_5⟩ := cz6 BK223.out
    obtain ⟨hfz20_0, hfz20_1, hfz20_2, hfz20_3, hfz20_4, hfz20_5⟩ := fz6 BK223.out
    go_wp2
    go_ret
    exact ⟨by rfl, by exact bW⟩
   ·replace c17 := Bool.eq_false_iff.mpr c17
    subst c17
    rw [if_neg (show ¬ (false = true) by decide)] at H
    by_cases c21 : a0_0 = 17
    ·rw [if_pos c21] at H
     have c21b0 : (a0_0 == 17) = true := beq_iff_eq.mpr c21
     have c21b1 : (a0_0 != 17) = false := bne_eq_false_iff_eq.mpr c21
     clear c21
     obtain rfl := oI H
     have hnb22 := NB222_223.out
     have hnc22 := NB223_222.out
     obtain ⟨hcz23_0, hcz23_1, hcz23_2, hcz23_3, hcz23_4, hcz23_5⟩ := cz6 BK222.out
     obtain ⟨hfz23_0, hfz23_1, hfz23_2, hfz23_3, hfz23_4, hfz23_5⟩ := fz6 BK222.out
     try go_wp2
     have n0_ := am (blk_drew BK222.out)
     have n1_ := am (blk_drew BK223.out)
     have n2_ := am (below_drew1 HB.out)
     clear BK222
     clear BK223
     clear HB
     have BK222 := n0_
     have BK223 := n1_
     have HB := n2_
     clear n0_ n1_ n2_
     refine start_ (n := 8) (S := fun w' => w'.cell? ⟨gb222, 0, none⟩ = some (.int .i64 a0_0) ∧ w'.cell? ⟨gb222, 1, none⟩ = some (.int .i64 a0_1) ∧ w'.cell? ⟨gb222, 2, none⟩ = some (.int .i64 a0_2) ∧ w'.cell? ⟨gb222, 3, none⟩ = some (.int .i64 a0_3) ∧ w'.cell? ⟨gb222, 4, none⟩ = some (.int .i64 a0_4) ∧ w'.cell? ⟨gb222, 5, none⟩ = some (.int .i64 a0_5)) (ds := []) zA0x11 (by kernel_rfl) rfl rfl ⟨(blk_cell BK222.out 0).trans rfl, (blk_cell BK222.out 1).trans rfl, (blk_cell BK222.out 2).trans rfl, (blk_cell BK222.out 3).trans rfl, (blk_cell BK222.out 4).trans rfl, (blk_cell BK222.out 5).trans rfl⟩ (fun hHeld => ?_); refine with_tabW impl_usesOnly.tab6 impl_usesOnly.bits6 (fun HT_ HW_ => ?_)
     generalize wc.drew = w24 at BK222 BK223 HB hHeld ⊢
     refine pure_ (i := 0) (N := some 29) (v := ?_) (a' := ?_) zA1x11 rfl rfl (any_of HT_.out (by kernel_rfl)) (fun _ _ _ h => h) (Or.inl ⟨by rfl, ?_⟩) ?_ ?_; rotate_left; (intro w'; go_simp; with_reducible rfl); rotate_left; (simp only [Act.put, List.setIfInBounds_toArray, List.set_cons_zero, List.set_cons_succ, i64_w, i32_w]; rfl)
     refine pure_ (i := 2) (N := some 31) (v := ?_) (a' := ?_) zA2x11 rfl rfl (any_of HT_.out (by kernel_rfl)) (fun _ _ _ h => h) (Or.inl ⟨by rfl, ?_⟩) ?_ ?_; rotate_left; (intro w'; go_simp; with_reducible rfl); rotate_left; (simp only [Act.put, List.setIfInBounds_toArray, List.set_cons_zero, List.set_cons_succ, i64_w, i32_w]; rfl)
     refine take_ (i := 1) (N := some 30) (v := ?_) (a' := ?_) zA3x11 rfl rfl (take_ofW HT_.out HW_.out (by kernel_rfl)) (fun _ _ _ h => h) (Or.inl ⟨by rfl, ?_⟩) hHeld ?_ ?_
     rotate_left
     ·rintro w' ⟨s0, s1, s2, s3, s4, s5⟩
      go_simp
      with_reducible rfl
     rotate_left
     ·simp only [Act.put, List.setIfInBounds_toArray, List.set_cons_zero, List.set_cons_succ, i64_w, i32_w]
      rfl
     refine pure_ (i := 4) (N := some 33) (v := ?_) (a' := ?_) zA4x11 rfl rfl (any_of HT_.out (by kernel_rfl)) (fun _ _ _ h => h) (Or.inl ⟨by rfl, ?_⟩) ?_ ?_; rotate_left; (intro w'; go_simp; with_reducible rfl); rotate_left; (simp only [Act.put, List.setIfInBounds_toArray, List.set_cons_zero, List.set_cons_succ, i64_w, i32_w]; rfl)
     refine take_ (i := 3) (N := some 32) (v := ?_) (a' := ?_) zA5x11 rfl rfl (take_ofW HT_.out HW_.out (by kernel_rfl)) (fun _ _ _ h => h) (Or.inl ⟨by rfl, ?_⟩) hHeld ?_ ?_
     rotate_left
     ·rintro w' ⟨s0, s1, s2, s3, s4, s5⟩
      go_simp
      with_reducible rfl
     rotate_left
     ·simp only [Act.put, List.setIfInBounds_toArray, List.set_cons_zero, List.set_cons_succ, i64_w, i32_w]
      rfl
     refine one_ (i := 5) (N := none) zA6x11 rfl rfl (one_of HT_.out (by kernel_rfl)) (by decide) (fun K hK => ?_)
     have hs25 : w24.cell? ⟨gb223, 2, none⟩ = some (.int .i64 0) := (blk_cell BK223.out 2).trans rfl
     have hfs25 := blk_frozen BK223.out 2
     have hns25_0 := NB222_223.out
     have hms25_0 := NB223_222.out
     refine skip_ (w1 := ?_) (by rfl) rfl ?_ ?_
     rotate_left
     ·go_simp
      rfl
     refine hK.out _ _ ⟨((cell_far (p := ⟨gb223, _, none⟩) NB222_223.out _).trans (hHeld.1)), ((cell_far (p := ⟨gb223, _, none⟩) NB222_223.out _).trans (hHeld.2.1)), ((cell_far (p := ⟨gb223, _, none⟩) NB222_223.out _).trans (hHeld.2.2.1)), ((cell_far (p := ⟨gb223, _, none⟩) NB222_223.out _).trans (hHeld.2.2.2.1)), ((cell_far (p := ⟨gb223, _, none⟩) NB222_223.out _).trans (hHeld.2.2.2.2.1)), ((cell_far (p := ⟨gb223, _, none⟩) NB222_223.out _).trans (hHeld.2.2.2.2.2))⟩ (fun hHeld => ?_)
     clear hK K
     refine pure_ (i := 6) (N := some 34) (v := ?_) (a' := ?_) zA7x11 rfl rfl (any_of HT_.out (by kernel_rfl)) (fun _ _ _ h => h) (Or.inl ⟨by rfl, ?_⟩) ?_ ?_; rotate_left; (intro w'; go_simp; with_reducible rfl); rotate_left; (simp only [Act.put, List.setIfInBounds_toArray, List.set_cons_zero, List.set_cons_succ, i64_w, i32_w]; rfl)
     refine one_ (i := 7) (N := none) zA8x11 rfl rfl (one_of HT_.out (by kernel_rfl)) (by decide) (fun K hK => ?_)
     have hs26 : w24.cell? ⟨gb223, 3, none⟩ = some (.int .i64 0) := (blk_cell BK223.out 3).trans rfl
     have hfs26 := blk_frozen BK223.out 3
     have hns26_0 := NB222_223.out
     have hms26_0 := NB223_222.out
     refine skip_ (w1 := ?_) (by rfl) rfl ?_ ?_
     rotate_left
     ·go_simp
      rfl
     refine hK.out _ _ ⟨((cell_far (p := ⟨gb223, _, none⟩) NB222_223.out _).trans (hHeld.1)), ((cell_far (p := ⟨gb223, _, none⟩) NB222_223.out _).trans (hHeld.2.1)), ((cell_far (p := ⟨gb223, _, none⟩) NB222_223.out _).trans (hHeld.2.2.1)), ((cell_far (p := ⟨gb223, _, none⟩) NB222_223.out _).trans (hHeld.2.2.2.1)), ((cell_far (p := ⟨gb223, _, none⟩) NB222_223.out _).trans (hHeld.2.2.2.2.1)), ((cell_far (p := ⟨gb223, _, none⟩) NB222_223.out _).trans (hHeld.2.2.2.2.2))⟩ (fun hHeld => ?_)
     clear hK K
     refine done_ (done_of HT_.out (by kernel_rfl)) ?_
     obtain ⟨hcz27_0, hcz27_1, hcz27_2, hcz27_3, hcz27_4, hcz27_5⟩ := cz6 BK222.out
     obtain ⟨hfz27_0, hfz27_1, hfz27_2, hfz27_3, hfz27_4, hfz27_5⟩ := fz6 BK222.out
     obtain ⟨hcz28_0, hcz28_1, hcz28_2, hcz28_3, hcz28_4, hcz28_5⟩ := cz6 BK223.out
     obtain ⟨hfz28_0, hfz28_1, hfz28_2, hfz28_3, hfz28_4, hfz28_5⟩ := fz6 BK223.out
     try go_wp2
     go_ret
     exact ⟨by (simp [errW_none, errW_some] <;> rfl), by exact bW⟩
    ·rw [if_neg c21] at H
     have c21b0 : (a0_0 == 17) = false := beq_eq_false_iff_ne.mpr c21
     have c21b1 : (a0_0 != 17) = true := bne_iff_ne.mpr c21
     replace H := oB H
     obtain ⟨t227, A290, H⟩ := H
     have A29 := am A290
     clear A290
     by_cases c30 : t227 = true
     ·subst c30
      rw [if_pos rfl] at H
      obtain rfl := oI H
      have hnb31 := NB222_223.out
      have hnc31 := NB223_222.out
      obtain ⟨hcz32_0, hcz32_1, hcz32_2, hcz32_3, hcz32_4, hcz32_5⟩ := cz6 BK222.out
      obtain ⟨hfz32_0, hfz32_1, hfz32_2, hfz32_3, hfz32_4, hfz32_5⟩ := fz6 BK222.out
      try go_wp2_with (first | ((with_reducible refine gate_callee (f := 53) rfl ?_); refine goesL_ (some 37) rfl rfl Try.func53 (by kernel_rfl) rfl #[.agg #[.int .i64 a0_0, .int .i64 a0_1, .int .i64 a0_2, .int .i64 a0_3, .int .i64 a0_4, .int .i64 a0_5]] rfl tm ?_; (with_reducible refine (impl_isQuant.calls a0_0 a0_1 a0_2 a0_3 a0_4 a0_5 true _ A29.out).mono ?_); rintro e w33 ⟨rfl, hb⟩; refine ⟨_, rfl, ?_⟩; have n0_ := am (blk_below (g := gb222) (o := .cells #[.int .i64 a0_0, .int .i64 a0_1, .int .i64 a0_2, .int .i64 a0_3, .int .i64 a0_4, .int .i64 a0_5] 31 (0, 0)) (by exact sB <| BK222.out) hb); have n1_ := am (blk_below (g := gb223) (o := .cells #[.int .i64 a0_0, .int .i64 a0_1, .int .i64 0, .int .i64 0, .int .i64 0, .int .i64 0] 31 (0, 0)) (by exact sB <| BK223.out) hb); have n2_ := am (below_step (by exact bW) hb); clear BK222; clear BK223; clear HB; have BK222 := n0_; have BK223 := n1_; have HB := n2_; clear n0_ n1_ n2_; (try clear hb); (try clear hb2); (try clear hk); (try clear hi)))
      have n0_ := am (blk_drew BK222.out)
      have n1_ := am (blk_drew BK223.out)
      have n2_ := am (below_drew1 HB.out)
      clear BK222
      clear BK223
      clear HB
      have BK222 := n0_
      have BK223 := n1_
      have HB := n2_
      clear n0_ n1_ n2_
      refine start_ (n := 12) (S := fun w' => w'.cell? ⟨gb222, 0, none⟩ = some (.int .i64 a0_0) ∧ w'.cell? ⟨gb222, 1, none⟩ = some (.int .i64 a0_1) ∧ w'.cell? ⟨gb222, 2, none⟩ = some (.int .i64 a0_2) ∧ w'.cell? ⟨gb222, 3, none⟩ = some (.int .i64 a0_3) ∧ w'.cell? ⟨gb222, 4, none⟩ = some (.int .i64 a0_4) ∧ w'.cell? ⟨gb222, 5, none⟩ = some (.int .i64 a0_5)) (ds := []) zA9x11 (by kernel_rfl) rfl rfl ⟨(blk_cell BK222.out 0).trans rfl, (blk_cell BK222.out 1).trans rfl, (blk_cell BK222.out 2).trans rfl, (blk_cell BK222.out 3).trans rfl, (blk_cell BK222.out 4).trans rfl, (blk_cell BK222.out 5).trans rfl⟩ (fun hHeld => ?_); refine with_tabW impl_usesOnly.tab8 impl_usesOnly.bits8 (fun HT_ HW_ => ?_)
      generalize w33.drew = w34 at BK222 BK223 HB hHeld ⊢
      refine pure_ (i := 0) (N := some 38) (v := ?_) (a' := ?_) zA10x11 rfl rfl (any_of HT_.out (by kernel_rfl)) (fun _ _ _ h => h) (Or.inl ⟨by rfl, ?_⟩) ?_ ?_; rotate_left; (intro w'; go_simp; with_reducible rfl); rotate_left; (simp only [Act.put, List.setIfInBounds_toArray, List.set_cons_zero, List.set_cons_succ, i64_w, i32_w]; rfl)
      refine pure_ (i := 2) (N := some 40) (v := ?_) (a' := ?_) zA11x11 rfl rfl (any_of HT_.out (by kernel_rfl)) (fun _ _ _ h => h) (Or.inl ⟨by rfl, ?_⟩) ?_ ?_; rotate_left; (intro w'; go_simp; with_reducible rfl); rotate_left; (simp only [Act.put, List.setIfInBounds_toArray, List.set_cons_zero, List.set_cons_succ, i64_w, i32_w]; rfl)
      refine pure_ (i := 4) (N := some 42) (v := ?_) (a' := ?_) zA12x11 rfl rfl (any_of HT_.out (by kernel_rfl)) (fun _ _ _ h => h) (Or.inl ⟨by rfl, ?_⟩) ?_ ?_; rotate_left; (intro w'; go_simp; with_reducible rfl); rotate_left; (simp only [Act.put, List.setIfInBounds_toArray, List.set_cons_zero, List.set_cons_succ, i64_w, i32_w]; rfl)
      refine take_ (i := 1) (N := some 39) (v := ?_) (a' := ?_) zA13x11 rfl rfl (take_ofW HT_.out HW_.out (by kernel_rfl)) (fun _ _ _ h => h) (Or.inl ⟨by rfl, ?_⟩) hHeld ?_ ?_
      rotate_left
      ·rintro w' ⟨s0, s1, s2, s3, s4, s5⟩
       go_simp
       with_reducible rfl
      rotate_left
      ·simp only [Act.put, List.setIfInBounds_toArray, List.set_cons_zero, List.set_cons_succ, i64_w, i32_w]
       rfl
      refine pure_ (i := 6) (N := some 44) (v := ?_) (a' := ?_) zA14x11 rfl rfl (any_of HT_.out (by kernel_rfl)) (fun _ _ _ h => h) (Or.inl ⟨by rfl, ?_⟩) ?_ ?_; rotate_left; (intro w'; go_simp; with_reducible rfl); rotate_left; (simp only [Act.put, List.setIfInBounds_toArray, List.set_cons_zero, List.set_cons_succ, i64_w, i32_w]; rfl)
      refine take_ (i := 3) (N := some 41) (v := ?_) (a' := ?_) zA15x11 rfl rfl (take_ofW HT_.out HW_.out (by kernel_rfl)) (fun _ _ _ h => h) (Or.inl ⟨by rfl, ?_⟩) hHeld ?_ ?_
      rotate_left
      ·rintro w' ⟨s0, s1, s2, s3, s4, s5⟩
       go_simp
       with_reducible rfl
      rotate_left
      ·simp only [Act.put, List.setIfInBounds_toArray, List.set_cons_zero, List.set_cons_succ, i64_w, i32_w]
       rfl
      refine take_ (i := 5) (N := some 43) (v := ?_) (a' := ?_) zA16x11 rfl rfl (take_ofW HT_.out HW_.out (by kernel_rfl)) (fun _ _ _ h => h) (Or.inl ⟨by rfl, ?_⟩) hHeld ?_ ?_
      rotate_left
      ·rintro w' ⟨s0, s1, s2, s3, s4, s5⟩
       go_simp
       with_reducible rfl
      rotate_left
      ·simp only [Act.put, List.setIfInBounds_toArray, List.set_cons_zero, List.set_cons_succ, i64_w, i32_w]
       rfl
      refine one_ (i := 7) (N := none) zA17x11 rfl rfl (one_of HT_.out (by kernel_rfl)) (by decide) (fun K hK => ?_)
      have hs35 : w34.cell? ⟨gb223, 2, none⟩ = some (.int .i64 0) := (blk_cell BK223.out 2).trans rfl
      have hfs35 := blk_frozen BK223.out 2
      have hns35_0 := NB222_223.out
      have hms35_0 := NB223_222.out
      refine skip_ (w1 := ?_) (by rfl) rfl ?_ ?_
      rotate_left
      ·go_simp
       rfl
      refine hK.out _ _ ⟨((cell_far (p := ⟨gb223, _, none⟩) NB222_223.out _).trans (hHeld.1)), ((cell_far (p := ⟨gb223, _, none⟩) NB222_223.out _).trans (hHeld.2.1)), ((cell_far (p := ⟨gb223, _, none⟩) NB222_223.out _).trans (hHeld.2.2.1)), ((cell_far (p := ⟨gb223, _, none⟩) NB222_223.out _).trans (hHeld.2.2.2.1)), ((cell_far (p := ⟨gb223, _, none⟩) NB222_223.out _).trans (hHeld.2.2.2.2.1)), ((cell_far (p := ⟨gb223, _, none⟩) NB222_223.out _).trans (hHeld.2.2.2.2.2))⟩ (fun hHeld => ?_)
      clear hK K
      refine pure_ (i := 8) (N := some 45) (v := ?_) (a' := ?_) zA18x11 rfl rfl (any_of HT_.out (by kernel_rfl)) (fun _ _ _ h => h) (Or.inl ⟨by rfl, ?_⟩) ?_ ?_; rotate_left; (intro w'; go_simp; with_reducible rfl); rotate_left; (simp only [Act.put, List.setIfInBounds_toArray, List.set_cons_zero, List.set_cons_succ, i64_w, i32_w]; rfl)
      refine one_ (i := 9) (N := none) zA19x11 rfl rfl (one_of HT_.out (by kernel_rfl)) (by decide) (fun K hK => ?_)
      have hs36 : w34.cell? ⟨gb223, 3, none⟩ = some (.int .i64 0) := (blk_cell BK223.out 3).trans rfl
      have hfs36 := blk_frozen BK223.out 3
      have hns36_0 := NB222_223.out
      have hms36_0 := NB223_222.out
      refine skip_ (w1 := ?_) (by rfl) rfl ?_ ?_
      rotate_left
      ·go_simp
       rfl
      refine hK.out _ _ ⟨((cell_far (p := ⟨gb223, _, none⟩) NB222_223.out _).trans (hHeld.1)), ((cell_far (p := ⟨gb223, _, none⟩) NB222_223.out _).trans (hHeld.2.1)), ((cell_far (p := ⟨gb223, _, none⟩) NB222_223.out _).trans (hHeld.2.2.1)), ((cell_far (p := ⟨gb223, _, none⟩) NB222_223.out _).trans (hHeld.2.2.2.1)), ((cell_far (p := ⟨gb223, _, none⟩) NB222_223.out _).trans (hHeld.2.2.2.2.1)), ((cell_far (p := ⟨gb223, _, none⟩) NB222_223.out _).trans (hHeld.2.2.2.2.2))⟩ (fun hHeld => ?_)
      clear hK K
      refine pure_ (i := 10) (N := some 46) (v := ?_) (a' := ?_) zA20x11 rfl rfl (any_of HT_.out (by kernel_rfl)) (fun _ _ _ h => h) (Or.inl ⟨by rfl, ?_⟩) ?_ ?_; rotate_left; (intro w'; go_simp; with_reducible rfl); rotate_left; (simp only [Act.put, List.setIfInBounds_toArray, List.set_cons_zero, List.set_cons_succ, i64_w, i32_w]; rfl)
      refine one_ (i := 11) (N := none) zA21x11 rfl rfl (one_of HT_.out (by kernel_rfl)) (by decide) (fun K hK => ?_)
      have hs37 : w34.cell? ⟨gb223, 4, none⟩ = some (.int .i64 0) := (blk_cell BK223.out 4).trans rfl
      have hfs37 := blk_frozen BK223.out 4
      have hns37_0 := NB222_223.out
      have hms37_0 := NB223_222.out
      refine skip_ (w1 := ?_) (by rfl) rfl ?_ ?_
      rotate_left
      ·go_simp
       rfl
      refine hK.out _ _ ⟨((cell_far (p := ⟨gb223, _, none⟩) NB222_223.out _).trans (hHeld.1)), ((cell_far (p := ⟨gb223, _, none⟩) NB222_223.out _).trans (hHeld.2.1)), ((cell_far (p := ⟨gb223, _, none⟩) NB222_223.out _).trans (hHeld.2.2.1)), ((cell_far (p := ⟨gb223, _, none⟩) NB222_223.out _).trans (hHeld.2.2.2.1)), ((cell_far (p := ⟨gb223, _, none⟩) NB222_223.out _).trans (hHeld.2.2.2.2.1)), ((cell_far (p := ⟨gb223, _, none⟩) NB222_223.out _).trans (hHeld.2.2.2.2.2))⟩ (fun hHeld => ?_)
      clear hK K
      refine done_ (done_of HT_.out (by kernel_rfl)) ?_
      obtain ⟨hcz38_0, hcz38_1, hcz38_2, hcz38_3, hcz38_4, hcz38_5⟩ := cz6 BK222.out
      obtain ⟨hfz38_0, hfz38_1, hfz38_2, hfz38_3, hfz38_4, hfz38_5⟩ := fz6 BK222.out
      obtain ⟨hcz39_0, hcz39_1, hcz39_2, hcz39_3, hcz39_4, hcz39_5⟩ := cz6 BK223.out
      obtain ⟨hfz39_0, hfz39_1, hfz39_2, hfz39_3, hfz39_4, hfz39_5⟩ := fz6 BK223.out
      try go_wp2
      go_ret
      exact ⟨by (simp [errW_none, errW_some] <;> rfl), by exact bW⟩
     ·replace c30 := Bool.eq_false_iff.mpr c30
      subst c30
      rw [if_neg (show ¬ (false = true) by decide)] at H
      by_cases c40 : (t224.length : Int) > 0
      ·rw [if_pos c40] at H
       have c40b0 : decide (0 < (t224.length : Int)) = true := decide_eq_true c40
       have c40b1 : decide (0 < t224.length) = true := decide_eq_true (by omega)
       have c40p : 0 < t224.length := by omega
       clear c40
       by_cases c41 : (t224.length : Int) > 1
       ·rw [if_pos c41] at H
        have c41b0 : decide (1 < (t224.length : Int)) = true := decide_eq_true c41
        have c41b1 : decide (1 < t224.length) = true := decide_eq_true (by omega)
        clear c41
        by_cases c42 : (t224.length : Int) > 2
        ·rw [if_pos c42] at H
         have c42b0 : decide (2 < (t224.length : Int)) = true := decide_eq_true c42
         have c42b1 : decide (2 < t224.length) = true := decide_eq_true (by omega)
         clear c42
         obtain rfl := oI H
         have hnb43 := NB222_223.out
         have hnc43 := NB223_222.out
         obtain ⟨hcz44_0, hcz44_1, hcz44_2, hcz44_3, hcz44_4, hcz44_5⟩ := cz6 BK222.out
         obtain ⟨hfz44_0, hfz44_1, hfz44_2, hfz44_3, hfz44_4, hfz44_5⟩ := fz6 BK222.out
         go_wp2_with (first | ((with_reducible refine gate_callee (f := 53) rfl ?_); refine goesL_ (some 37) rfl rfl Try.func53 (by kernel_rfl) rfl #[.agg #[.int .i64 a0_0, .int .i64 a0_1, .int .i64 a0_2, .int .i64 a0_3, .int .i64 a0_4, .int .i64 a0_5]] rfl tm ?_; (with_reducible refine (impl_isQuant.calls a0_0 a0_1 a0_2 a0_3 a0_4 a0_5 false _ A29.out).mono ?_); rintro e w45 ⟨rfl, hb⟩; refine ⟨_, rfl, ?_⟩; have n0_ := am (blk_below (g := gb222) (o := .cells #[.int .i64 a0_0, .int .i64 a0_1, .int .i64 a0_2, .int .i64 a0_3, .int .i64 a0_4, .int .i64 a0_5] 31 (0, 0)) (by exact sB <| BK222.out) hb); have n1_ := am (blk_below (g := gb223) (o := .cells #[.int .i64 a0_0, .int .i64 a0_1, .int .i64 0, .int .i64 0, .int .i64 0, .int .i64 0] 31 (0, 0)) (by exact sB <| BK223.out) hb); have n2_ := am (below_step (by exact bW) hb); clear BK222; clear BK223; clear HB; have BK222 := n0_; have BK223 := n1_; have HB := n2_; clear n0_ n1_ n2_; (try clear hb); (try clear hb2); (try clear hk); (try clear hi); obtain ⟨hcz46_0, hcz46_1, hcz46_2, hcz46_3, hcz46_4, hcz46_5⟩ := cz6 BK222.out; obtain ⟨hfz46_0, hfz46_1, hfz46_2, hfz46_3, hfz46_4, hfz46_5⟩ := fz6 BK222.out; obtain ⟨hcz47_0, hcz47_1, hcz47_2, hcz47_3, hcz47_4, hcz47_5⟩ := cz6 BK223.out; obtain ⟨hfz47_0, hfz47_1, hfz47_2, hfz47_3, hfz47_4, hfz47_5⟩ := fz6 BK223.out))
         go_ret
         exact ⟨by rfl, by exact bW⟩
        ·rw [if_neg c42] at H
         have c42b0 : decide (2 < (t224.length : Int)) = false := decide_eq_false c42
         have c42b1 : decide (2 < t224.length) = false := decide_eq_false (by omega)
         clear c42
         obtain rfl := oI H
         have hnb48 := NB222_223.out
         have hnc48 := NB223_222.out
         obtain ⟨hcz49_0, hcz49_1, hcz49_2, hcz49_3, hcz49_4, hcz49_5⟩ := cz6 BK222.out
         obtain ⟨hfz49_0, hfz49_1, hfz49_2, hfz49_3, hfz49_4, hfz49_5⟩ := fz6 BK222.out
         go_wp2_with (first | ((with_reducible refine gate_callee (f := 53) rfl ?_); refine goesL_ (some 37) rfl rfl Try.func53 (by kernel_rfl) rfl #[.agg #[.int .i64 a0_0, .int .i64 a0_1, .int .i64 a0_2, .int .i64 a0_3, .int .i64 a0_4, .int .i64 a0_5]] rfl tm ?_; (with_reducible refine (impl_isQuant.calls a0_0 a0_1 a0_2 a0_3 a0_4 a0_5 false _ A29.out).mono ?_); rintro e w50 ⟨rfl, hb⟩; refine ⟨_, rfl, ?_⟩; have n0_ := am (blk_below (g := gb222) (o := .cells #[.int .i64 a0_0, .int .i64 a0_1, .int .i64 a0_2, .int .i64 a0_3, .int .i64 a0_4, .int .i64 a0_5] 31 (0, 0)) (by exact sB <| BK222.out) hb); have n1_ := am (blk_below (g := gb223) (o := .cells #[.int .i64 a0_0, .int .i64 a0_1, .int .i64 0, .int .i64 0, .int .i64 0, .int .i64 0] 31 (0, 0)) (by exact sB <| BK223.out) hb); have n2_ := am (below_step (by exact bW) hb); clear BK222; clear BK223; clear HB; have BK222 := n0_; have BK223 := n1_; have HB := n2_; clear n0_ n1_ n2_; (try clear hb); (try clear hb2); (try clear hk); (try clear hi); obtain ⟨hcz51_0, hcz51_1, hcz51_2, hcz51_3, hcz51_4, hcz51_5⟩ := cz6 BK222.out; obtain ⟨hfz51_0, hfz51_1, hfz51_2, hfz51_3, hfz51_4, hfz51_5⟩ := fz6 BK222.out; obtain ⟨hcz52_0, hcz52_1, hcz52_2, hcz52_3, hcz52_4, hcz52_5⟩ := cz6 BK223.out; obtain ⟨hfz52_0, hfz52_1, hfz52_2, hfz52_3, hfz52_4, hfz52_5⟩ := fz6 BK223.out))
         go_ret
         exact ⟨by rfl, by exact bW⟩
       ·rw [if_neg c41] at H
        have c41b0 : decide (1 < (t224.length : Int)) = false := decide_eq_false c41
        have c41b1 : decide (1 < t224.length) = false := decide_eq_false (by omega)
        clear c41
        by_cases c53 : (t224.length : Int) > 2
        ·rw [if_pos c53] at H
         have c53b0 : decide (2 < (t224.length : Int)) = true := decide_eq_true c53
         have c53b1 : decide (2 < t224.length) = true := decide_eq_true (by omega)
         clear c53
         obtain rfl := oI H
         have hnb54 := NB222_223.out
         have hnc54 := NB223_222.out
         obtain ⟨hcz55_0, hcz55_1, hcz55_2, hcz55_3, hcz55_4, hcz55_5⟩ := cz6 BK222.out
         obtain ⟨hfz55_0, hfz55_1, hfz55_2, hfz55_3, hfz55_4, hfz55_5⟩ := fz6 BK222.out
         go_wp2_with (first | ((with_reducible refine gate_callee (f := 53) rfl ?_); refine goesL_ (some 37) rfl rfl Try.func53 (by kernel_rfl) rfl #[.agg #[.int .i64 a0_0, .int .i64 a0_1, .int .i64 a0_2, .int .i64 a0_3, .int .i64 a0_4, .int .i64 a0_5]] rfl tm ?_; (with_reducible refine (impl_isQuant.calls a0_0 a0_1 a0_2 a0_3 a0_4 a0_5 false _ A29.out).mono ?_); rintro e w56 ⟨rfl, hb⟩; refine ⟨_, rfl, ?_⟩; have n0_ := am (blk_below (g := gb222) (o := .cells #[.int .i64 a0_0, .int .i64 a0_1, .int .i64 a0_2, .int .i64 a0_3, .int .i64 a0_4, .int .i64 a0_5] 31 (0, 0)) (by exact sB <| BK222.out) hb); have n1_ := am (blk_below (g := gb223) (o := .cells #[.int .i64 a0_0, .int .i64 a0_1, .int .i64 0, .int .i64 0, .int .i64 0, .int .i64 0] 31 (0, 0)) (by exact sB <| BK223.out) hb); have n2_ := am (below_step (by exact bW) hb); clear BK222; clear BK223; clear HB; have BK222 := n0_; have BK223 := n1_; have HB := n2_; clear n0_ n1_ n2_; (try clear hb); (try clear hb2); (try clear hk); (try clear hi); obtain ⟨hcz57_0, hcz57_1, hcz57_2, hcz57_3, hcz57_4, hcz57_5⟩ := cz6 BK222.out; obtain ⟨hfz57_0, hfz57_1, hfz57_2, hfz57_3, hfz57_4, hfz57_5⟩ := fz6 BK222.out; obtain ⟨hcz58_0, hcz58_1, hcz58_2, hcz58_3, hcz58_4, hcz58_5⟩ := cz6 BK223.out; obtain ⟨hfz58_0, hfz58_1, hfz58_2, hfz58_3, hfz58_4, hfz58_5⟩ := fz6 BK223.out))
         go_ret
         exact ⟨by rfl, by exact bW⟩
        ·rw [if_neg c53] at H
         have c53b0 : decide (2 < (t224.length : Int)) = false := decide_eq_false c53
         have c53b1 : decide (2 < t224.length) = false := decide_eq_false (by omega)
         clear c53
         obtain rfl := oI H
         have hnb59 := NB222_223.out
         have hnc59 := NB223_222.out
         obtain ⟨hcz60_0, hcz60_1, hcz60_2, hcz60_3, hcz60_4, hcz60_5⟩ := cz6 BK222.out
         obtain ⟨hfz60_0, hfz60_1, hfz60_2, hfz60_3, hfz60_4, hfz60_5⟩ := fz6 BK222.out
         go_wp2_with (first | ((with_reducible refine gate_callee (f := 53) rfl ?_); refine goesL_ (some 37) rfl rfl Try.func53 (by kernel_rfl) rfl #[.agg #[.int .i64 a0_0, .int .i64 a0_1, .int .i64 a0_2, .int .i64 a0_3, .int .i64 a0_4, .int .i64 a0_5]] rfl tm ?_; (with_reducible refine (impl_isQuant.calls a0_0 a0_1 a0_2 a0_3 a0_4 a0_5 false _ A29.out).mono ?_); rintro e w61 ⟨rfl, hb⟩; refine ⟨_, rfl, ?_⟩; have n0_ := am (blk_below (g := gb222) (o := .cells #[.int .i64 a0_0, .int .i64 a0_1, .int .i64 a0_2, .int .i64 a0_3, .int .i64 a0_4, .int .i64 a0_5] 31 (0, 0)) (by exact sB <| BK222.out) hb); have n1_ := am (blk_below (g := gb223) (o := .cells #[.int .i64 a0_0, .int .i64 a0_1, .int .i64 0, .int .i64 0, .int .i64 0, .int .i64 0] 31 (0, 0)) (by exact sB <| BK223.out) hb); have n2_ := am (below_step (by exact bW) hb); clear BK222; clear BK223; clear HB; have BK222 := n0_; have BK223 := n1_; have HB := n2_; clear n0_ n1_ n2_; (try clear hb); (try clear hb2); (try clear hk); (try clear hi); obtain ⟨hcz62_0, hcz62_1, hcz62_2, hcz62_3, hcz62_4, hcz62_5⟩ := cz6 BK222.out; obtain ⟨hfz62_0, hfz62_1, hfz62_2, hfz62_3, hfz62_4, hfz62_5⟩ := fz6 BK222.out; obtain ⟨hcz63_0, hcz63_1, hcz63_2, hcz63_3, hcz63_4, hcz63_5⟩ := cz6 BK223.out; obtain ⟨hfz63_0, hfz63_1, hfz63_2, hfz63_3, hfz63_4, hfz63_5⟩ := fz6 BK223.out))
         go_ret
         exact ⟨by rfl, by exact bW⟩
      ·rw [if_neg c40] at H
       have c40b0 : decide (0 < (t224.length : Int)) = false := decide_eq_false c40
       have c40b1 : decide (0 < t224.length) = false := decide_eq_false (by omega)
       have c40p : ¬ 0 < t224.length := by omega
       clear c40
       obtain rfl := oI H
       have hnb64 := NB222_223.out
       have hnc64 := NB223_222.out
       obtain ⟨hcz65_0, hcz65_1, hcz65_2, hcz65_3, hcz65_4, hcz65_5⟩ := cz6 BK222.out
       obtain ⟨hfz65_0, hfz65_1, hfz65_2, hfz65_3, hfz65_4, hfz65_5⟩ := fz6 BK222.out
       go_wp2_with (first | ((with_reducible refine gate_callee (f := 53) rfl ?_); refine goesL_ (some 37) rfl rfl Try.func53 (by kernel_rfl) rfl #[.agg #[.int .i64 a0_0, .int .i64 a0_1, .int .i64 a0_2, .int .i64 a0_3, .int .i64 a0_4, .int .i64 a0_5]] rfl tm ?_; (with_reducible refine (impl_isQuant.calls a0_0 a0_1 a0_2 a0_3 a0_4 a0_5 false _ A29.out).mono ?_); rintro e w66 ⟨rfl, hb⟩; refine ⟨_, rfl, ?_⟩; have n0_ := am (blk_below (g := gb222) (o := .cells #[.int .i64 a0_0, .int .i64 a0_1, .int .i64 a0_2, .int .i64 a0_3, .int .i64 a0_4, .int .i64 a0_5] 31 (0, 0)) (by exact sB <| BK222.out) hb); have n1_ := am (blk_below (g := gb223) (o := .cells #[.int .i64 a0_0, .int .i64 a0_1, .int .i64 0, .int .i64 0, .int .i64 0, .int .i64 0] 31 (0, 0)) (by exact sB <| BK223.out) hb); have n2_ := am (below_step (by exact bW) hb); clear BK222; clear BK223; clear HB; have BK222 := n0_; have BK223 := n1_; have HB := n2_; clear n0_ n1_ n2_; (try clear hb); (try clear hb2); (try clear hk); (try clear hi); obtain ⟨hcz67_0, hcz67_1, hcz67_2, hcz67_3, hcz67_4, hcz67_5⟩ := cz6 BK222.out; obtain ⟨hfz67_0, hfz67_1, hfz67_2, hfz67_3, hfz67_4, hfz67_5⟩ := fz6 BK222.out; obtain ⟨hcz68_0, hcz68_1, hcz68_2, hcz68_3, hcz68_4, hcz68_5⟩ := cz6 BK223.out; obtain ⟨hfz68_0, hfz68_1, hfz68_2, hfz68_3, hfz68_4, hfz68_5⟩ := fz6 BK223.out))
       go_ret
       exact ⟨by rfl, by exact bW⟩
end
/-! ### impl_isVar: function 110 -/
def impl_isVar.f (a0 : Int) : Option (Bool) := (impl_within.f a0 0 7).bind fun t228 => (some t228)
set_option maxHeartbeats 8000000 in
set_option maxRecDepth 100000 in
theorem impl_isVar.calls (a0 : Int) (r : Bool) (w : World) (h : impl_isVar.f a0 = some r) :
  Calls Try.prog 110 #[.int .i64 a0] w fun e w' => e = .returned (.bool r) ∧ Drawn0 w w' := by
 have H : ((impl_within.f a0 0 7).bind fun t228 => (some t228)) = some r := h
 clear h
 replace H := oB H
 obtain ⟨t228, A20, H⟩ := H
 have A2 := am A20
 clear A20
 obtain rfl := oI H
 go_enter Try.func110, Try.ntmps110
 go_wp2_with (first | ((with_reducible refine gate_callee (f := 72) rfl ?_); refine goesL_ (some 4) rfl rfl Try.func72 (by kernel_rfl) rfl #[.int .i64 a0, .int .i64 0, .int .i64 7] rfl tm ?_; (with_reducible refine (impl_within.calls a0 0 7 t228 _ A2.out).mono ?_); rintro e w' ⟨rfl, ⟨nd, rfl⟩⟩; refine ⟨_, rfl, ?_⟩))
 go_ret
 exact ⟨by rfl, by repeat (first | exact Drawn0.refl _ | apply Drawn0.step)⟩
/-! ### impl_isRight: by hand -/
def inB (x a b : Int) : Bool := decide (a ≤ x ∧ x ≤ b)
theorem withinI (x a b : Int) : impl_within.f x a b = some (inB x a b) := by
 unfold impl_within.f inB
 by_cases h : x ≥ a
 ·rw [if_pos h]; simp [h]
 ·rw [if_neg h]; simp [h]
theorem widthI (x : Int) : impl_isWidth.f x = some (inB x 1 8) := by
 unfold impl_isWidth.f; rw [withinI]; rfl
theorem varI (x : Int) : impl_isVar.f x = some (inB x 0 7) := by
 unfold impl_isVar.f; rw [withinI]; rfl
open Go.Proofs.Ytkpipmojkhikaaa.Base in
theorem wordOkI (w a : Int) : impl_WordOk.f w a = some (wok w a) := by
 unfold impl_WordOk.f wok
 rw [widthI]; simp only [Option.bind_some]
 by_cases h : 1 ≤ w ∧ w ≤ 8
 ·have hp := P2_pos (by omega : 0 ≤ w) h.2
  rw [if_pos (by simp [inB, h]), if_pos (u64_nonneg w), u64_id (by omega) (by omega), shl_one (by omega) h.2, withinI, wrap_id (by omega) (by omega)]
  simp [inB, h]
 ·rw [if_neg (by simp [inB]; omega)]; simp; omega
/-- The places of a node's parts. -/
def partsL (op a b c : Int) : List Int := if op = 2 ∨ op = 17 ∨ op = 19 ∨ op = 20 then [a] else if 3 ≤ op ∧ op ≤ 16 then [a, b] else if op = 18 then [a, b, c] else []
theorem partsL_len (op a b c : Int) : (partsL op a b c).length ≤ 3 := by
 unfold partsL; split <;> (try split) <;> (try split) <;> simp
theorem partsI (op w q a b c : Int) {k : Nat} (hk : 1 ≤ k) : impl_Parts.f k op w q a b c = some (partsL op a b c) := by
 obtain ⟨k, rfl⟩ : ∃ m, k = m + 1 := ⟨k - 1, by omega⟩
 unfold impl_Parts.f partsL impl_isQuant.f
 simp only [impl_Parts.j0, withinI, inB]
 by_cases h2 : op = 2
 ·subst h2; simp
 ·by_cases h17 : op = 17
  ·subst h17; simp
  ·by_cases h19 : op = 19
   ·subst h19; simp
   ·by_cases h20 : op = 20
    ·subst h20; simp
    ·have hq : ¬ (op = 2 ∨ op = 17 ∨ op = 19 ∨ op = 20) := by omega
     rw [if_neg h2, if_neg h17, if_neg h19, if_neg hq]
     simp only [Option.bind_some, decide_eq_true_eq]
     rw [if_neg (by simpa using h20)]
     by_cases h3 : 3 ≤ op ∧ op ≤ 16
     ·rw [if_pos h3, if_pos h3]
     ·rw [if_neg h3, if_neg h3]
      by_cases h18 : op = 18
      ·rw [if_pos h18, if_pos h18]
      ·rw [if_neg h18, if_neg h18]
/-- What a node has no use for is 0. -/
def usesB (op K A B C : Int) : Bool :=
 if op = 0 ∨ op = 1 then A == 0 && B == 0 && C == 0 else if op = 17 then B == 0 && C == 0 else if op = 19 ∨ op = 20 then C == 0
 else if op = 2 then K == 0 && B == 0 && C == 0 else if 3 ≤ op ∧ op ≤ 16 then K == 0 && C == 0 else if op = 18 then K == 0 else K == 0 && A == 0 && B == 0 && C == 0
theorem usesI (op W K A B C : Int) {k : Nat} (hk : 3 ≤ k) : impl_usesOnly.f k op W K A B C = some (usesB op K A B C) := by
 obtain ⟨k, rfl⟩ : ∃ m, k = m + 1 := ⟨k - 1, by omega⟩
 unfold impl_usesOnly.f usesB
 rw [partsI op W K A B C (by omega)]
 simp only [Option.bind_some, impl_usesOnly.j0]
 unfold impl_isQuant.f partsL
 by_cases h0 : op = 0
 ·subst h0; simp [Bool.and_assoc]
 by_cases h1 : op = 1
 ·subst h1; simp [Bool.and_assoc]
 by_cases h17 : op = 17
 ·subst h17; simp
 by_cases h19 : op = 19
 ·subst h19; simp
 by_cases h20 : op = 20
 ·subst h20; simp
 by_cases h2 : op = 2
 ·subst h2; simp [Bool.and_assoc]
 by_cases h3 : 3 ≤ op ∧ op ≤ 16
 ·have e : ¬ (op = 2 ∨ op = 17 ∨ op = 19 ∨ op = 20) := by omega
  simp [h0, h1, h17, h19, h20, h2, h3]
 by_cases h18 : op = 18
 ·subst h18; simp
 ·simp [h0, h1, h17, h19, h20, h2, h3, h18, Bool.and_assoc]
theorem blk6 {w : World} {g T : Nat} {a b c d e f : Int} (h : w.heap[g]? = some (.cells #[.int .i64 a, .int .i64 b, .int .i64 c, .int .i64 d, .int .i64 e, .int .i64 f] T (0, 0))) :
  w.cell? ⟨g, 0, none⟩ = some (.int .i64 a) ∧ w.cell? ⟨g, 1, none⟩ = some (.int .i64 b) ∧ w.cell? ⟨g, 2, none⟩ = some (.int .i64 c) ∧ w.cell? ⟨g, 3, none⟩ = some (.int .i64 d) ∧ w.cell? ⟨g, 4, none⟩ = some (.int .i64 e) ∧ w.cell? ⟨g, 5, none⟩ = some (.int .i64 f) :=
 ⟨(blk_cell h 0).trans rfl, (blk_cell h 1).trans rfl, (blk_cell h 2).trans rfl, (blk_cell h 3).trans rfl, (blk_cell h 4).trans rfl, (blk_cell h 5).trans rfl⟩
theorem blk_new {w w1 : World} {o : Obj} {n : Nat} (hb : Below ((w.alloc o).drewN n).heap.size ((w.alloc o).drewN n) w1) : w1.heap[w.heap.size]? = some o :=
 (hb.block _ (by simp)).trans (heap_alloc_new w o)
theorem blk_new0 {w w1 : World} {o : Obj} (hb : Below (w.alloc o).heap.size (w.alloc o) w1) : w1.heap[w.heap.size]? = some o :=
 (hb.block _ (by simp)).trans (heap_alloc_new w o)
theorem blk_past0 {w w1 : World} {o o' : Obj} {g : Nat} (h : w.heap[g]? = some o) (hb : Below (w.alloc o').heap.size (w.alloc o') w1) : w1.heap[g]? = some o :=
 (hb.block _ (by have := (Array.getElem?_eq_some_iff.1 h).1; simp; omega)).trans ((Below.heap_alloc w o' g (Array.getElem?_eq_some_iff.1 h).1).trans h)
theorem blk3 {w : World} {g T : Nat} {a b c : Int} (h : w.heap[g]? = some (.cells #[.int .i64 a, .int .i64 b, .int .i64 c] T (0, 0))) :
  w.cell? ⟨g, 0, none⟩ = some (.int .i64 a) ∧ w.cell? ⟨g, 1, none⟩ = some (.int .i64 b) ∧ w.cell? ⟨g, 2, none⟩ = some (.int .i64 c) :=
 ⟨(blk_cell h 0).trans rfl, (blk_cell h 1).trans rfl, (blk_cell h 2).trans rfl⟩
/-- Cell t of the array of widths when j parts are looked at. -/
def wv (l : List (S31)) (ps : List Int) (j t : Nat) : Int := if t < j then (rd_T31 l (rd ps (t : Int))).f1 else 0
/-- What a node's Op asks of the widths of its parts. -/
def rightSw (op W K B : Int) (u v x : Int) : Bool :=
 if op = 0 then Go.Proofs.Ytkpipmojkhikaaa.Base.wok W K else if op = 1 then inB K 0 7 else if op = 2 then u == W
 else if 3 ≤ op ∧ op ≤ 12 then u == W && v == W else if 13 ≤ op ∧ op ≤ 15 then u == v && W == 1
 else if op = 16 then wrap64 (u + v) == W else if op = 17 then inB K 0 (wrap64 (u - W))
 else if op = 18 then u == 1 && v == W && x == W else inB K 0 7 && inB B 1 8 && u == 1 && W == 1
def rightB (l : List (S31)) (op W K A B C : Int) : Bool :=
 inB W 1 8 && inB op 0 20 && usesB op K A B C && (partsL op A B C).all (fun p => inB p 0 ((l.length : Int) - 1)) &&
  rightSw op W K B (wv l (partsL op A B C) (partsL op A B C).length 0) (wv l (partsL op A B C) (partsL op A B C).length 1) (wv l (partsL op A B C) (partsL op A B C).length 2)
def impl_isRight.f (l0 : List (S31)) (a1_0 : Int) (a1_1 : Int) (a1_2 : Int) (a1_3 : Int) (a1_4 : Int) (a1_5 : Int) : Option Bool := some (rightB l0 a1_0 a1_1 a1_2 a1_3 a1_4 a1_5)
set_option maxHeartbeats 2000000 in
set_option maxRecDepth 100000 in
theorem isRight_no1 (A0 : Option Addr) (c0 : Nat) (l0 : List (S31)) (a1_0 : Int) (a1_1 : Int) (a1_2 : Int) (a1_3 : Int) (a1_4 : Int) (a1_5 : Int) (w : World) (hr0 : Kd.C k31 w A0 l0.length l0) (hc0 : l0.length ≤ c0) (b1 : inB a1_1 1 8 = false) :
  Calls Try.prog 73 #[.slice A0 l0.length c0, .agg #[.int .i64 a1_0, .int .i64 a1_1, .int .i64 a1_2, .int .i64 a1_3, .int .i64 a1_4, .int .i64 a1_5]] w fun e w' => e = .returned (.bool (false)) ∧ Below w.heap.size w w' := by
 go_enter Try.func73, Try.ntmps73
 go_wp2_with (first | (go_at_call 83; (with_reducible refine (impl_isWidth.calls _ _ _ (widthI _)).mono ?_); rintro e w' ⟨rfl, ⟨nd, rfl⟩⟩) | (go_at_call 72; (with_reducible refine (impl_within.calls _ _ _ _ _ (withinI _ _ _)).mono ?_); rintro e w' ⟨rfl, ⟨nd, rfl⟩⟩) | (go_at_call 110; (with_reducible refine (impl_isVar.calls _ _ _ (varI _)).mono ?_); rintro e w' ⟨rfl, ⟨nd, rfl⟩⟩) | (go_at_call 54; (with_reducible refine (impl_WordOk.calls _ _ _ _ (wordOkI _ _)).mono ?_); rintro e w' ⟨rfl, ⟨nd, rfl⟩⟩))
 go_ret
 exact ⟨rfl, pw_below_drewN (below_alloc (Below.refl _ _) _) _⟩
set_option maxHeartbeats 2000000 in
set_option maxRecDepth 100000 in
theorem isRight_no2 (A0 : Option Addr) (c0 : Nat) (l0 : List (S31)) (a1_0 : Int) (a1_1 : Int) (a1_2 : Int) (a1_3 : Int) (a1_4 : Int) (a1_5 : Int) (w : World) (hr0 : Kd.C k31 w A0 l0.length l0) (hc0 : l0.length ≤ c0) (b1 : inB a1_1 1 8 = true) (b2 : inB a1_0 0 20 = false) :
  Calls Try.prog 73 #[.slice A0 l0.length c0, .agg #[.int .i64 a1_0, .int .i64 a1_1, .int .i64 a1_2, .int .i64 a1_3, .int .i64 a1_4, .int .i64 a1_5]] w fun e w' => e = .returned (.bool (false)) ∧ Below w.heap.size w w' := by
 go_enter Try.func73, Try.ntmps73
 go_wp2_with (first | (go_at_call 83; (with_reducible refine (impl_isWidth.calls _ _ _ (widthI _)).mono ?_); rintro e w' ⟨rfl, ⟨nd, rfl⟩⟩) | (go_at_call 72; (with_reducible refine (impl_within.calls _ _ _ _ _ (withinI _ _ _)).mono ?_); rintro e w' ⟨rfl, ⟨nd, rfl⟩⟩) | (go_at_call 110; (with_reducible refine (impl_isVar.calls _ _ _ (varI _)).mono ?_); rintro e w' ⟨rfl, ⟨nd, rfl⟩⟩) | (go_at_call 54; (with_reducible refine (impl_WordOk.calls _ _ _ _ (wordOkI _ _)).mono ?_); rintro e w' ⟨rfl, ⟨nd, rfl⟩⟩))
 go_ret
 exact ⟨rfl, pw_below_drewN (below_alloc (Below.refl _ _) _) _⟩
set_option maxHeartbeats 2000000 in
set_option maxRecDepth 100000 in
theorem isRight_no3 (A0 : Option Addr) (c0 : Nat) (l0 : List (S31)) (a1_0 : Int) (a1_1 : Int) (a1_2 : Int) (a1_3 : Int) (a1_4 : Int) (a1_5 : Int) (w : World) (hr0 : Kd.C k31 w A0 l0.length l0) (hc0 : l0.length ≤ c0) (b1 : inB a1_1 1 8 = true) (b2 : inB a1_0 0 20 = true) (b3 : usesB a1_0 a1_2 a1_3 a1_4 a1_5 = false) :
  Calls Try.prog 73 #[.slice A0 l0.length c0, .agg #[.int .i64 a1_0, .int .i64 a1_1, .int .i64 a1_2, .int .i64 a1_3, .int .i64 a1_4, .int .i64 a1_5]] w fun e w' => e = .returned (.bool (false)) ∧ Below w.heap.size w w' := by
 go_enter Try.func73, Try.ntmps73
 go_wp2_with (first | (go_at_call 83; (with_reducible refine (impl_isWidth.calls _ _ _ (widthI _)).mono ?_); rintro e w' ⟨rfl, ⟨nd, rfl⟩⟩) | (go_at_call 72; (with_reducible refine (impl_within.calls _ _ _ _ _ (withinI _ _ _)).mono ?_); rintro e w' ⟨rfl, ⟨nd, rfl⟩⟩) | (go_at_call 110; (with_reducible refine (impl_isVar.calls _ _ _ (varI _)).mono ?_); rintro e w' ⟨rfl, ⟨nd, rfl⟩⟩) | (go_at_call 54; (with_reducible refine (impl_WordOk.calls _ _ _ _ (wordOkI _ _)).mono ?_); rintro e w' ⟨rfl, ⟨nd, rfl⟩⟩) | (go_at_call 109; (with_reducible refine (impl_usesOnly.calls 3 _ _ _ _ _ _ _ _ (usesI _ _ _ _ _ _ (by omega))).mono ?_); rintro e w1 ⟨rfl, hb⟩; have BK := am (blk_new hb); have HB := am (show Below w.heap.size w w1 from (pw_below_drewN (below_alloc (Below.refl _ _) _) _).trans (hb.mono (by simp))); have hlt := (Array.getElem?_eq_some_iff.1 BK.out).1; clear hb; obtain ⟨q0, q1, q2, q3, q4, q5⟩ := blk6 BK.out))
 go_ret
 exact ⟨rfl, HB.out⟩
set_option maxHeartbeats 2000000 in
set_option maxRecDepth 100000 in
theorem isRight_go (A0 : Option Addr) (c0 : Nat) (l0 : List (S31)) (a1_0 : Int) (a1_1 : Int) (a1_2 : Int) (a1_3 : Int) (a1_4 : Int) (a1_5 : Int) (w : World) (hr0 : Kd.C k31 w A0 l0.length l0) (hc0 : l0.length ≤ c0) (b1 : inB a1_1 1 8 = true) (b2 : inB a1_0 0 20 = true) (b3 : usesB a1_0 a1_2 a1_3 a1_4 a1_5 = true) (r : Bool)
  (hno : ¬ (∀ t : Nat, t < (partsL a1_0 a1_3 a1_4 a1_5).length → inB (rd (partsL a1_0 a1_3 a1_4 a1_5) (t : Int)) 0 ((l0.length : Int) - 1) = true) → r = false)
  (hyes : (∀ t : Nat, t < (partsL a1_0 a1_3 a1_4 a1_5).length → inB (rd (partsL a1_0 a1_3 a1_4 a1_5) (t : Int)) 0 ((l0.length : Int) - 1) = true) → r = rightSw a1_0 a1_1 a1_2 a1_4 (wv l0 (partsL a1_0 a1_3 a1_4 a1_5) (partsL a1_0 a1_3 a1_4 a1_5).length 0) (wv l0 (partsL a1_0 a1_3 a1_4 a1_5) (partsL a1_0 a1_3 a1_4 a1_5).length 1) (wv l0 (partsL a1_0 a1_3 a1_4 a1_5) (partsL a1_0 a1_3 a1_4 a1_5).length 2)) :
  Calls Try.prog 73 #[.slice A0 l0.length c0, .agg #[.int .i64 a1_0, .int .i64 a1_1, .int .i64 a1_2, .int .i64 a1_3, .int .i64 a1_4, .int .i64 a1_5]] w fun e w' => e = .returned (.bool (r)) ∧ Below w.heap.size w w' := by
 have HR0 := am hr0
 have HC0 := am hc0
 clear hr0 hc0
 have hl0 : (l0.length : Int) ≤ 9223372036854775807 := by have := HR0.out.2.1; omega
 have HNO := am hno
 have HYES := am hyes
 clear hno hyes
 go_enter Try.func73, Try.ntmps73
 go_wp2_with (first | (go_at_call 83; (with_reducible refine (impl_isWidth.calls _ _ _ (widthI _)).mono ?_); rintro e w' ⟨rfl, ⟨nd, rfl⟩⟩) | (go_at_call 72; (with_reducible refine (impl_within.calls _ _ _ _ _ (withinI _ _ _)).mono ?_); rintro e w' ⟨rfl, ⟨nd, rfl⟩⟩) | (go_at_call 110; (with_reducible refine (impl_isVar.calls _ _ _ (varI _)).mono ?_); rintro e w' ⟨rfl, ⟨nd, rfl⟩⟩) | (go_at_call 54; (with_reducible refine (impl_WordOk.calls _ _ _ _ (wordOkI _ _)).mono ?_); rintro e w' ⟨rfl, ⟨nd, rfl⟩⟩) | (go_at_call 109; (with_reducible refine (impl_usesOnly.calls 3 _ _ _ _ _ _ _ _ (usesI _ _ _ _ _ _ (by omega))).mono ?_); rintro e w1 ⟨rfl, hb⟩; have BK := am (blk_new hb); have HB := am (show Below w.heap.size w w1 from (pw_below_drewN (below_alloc (Below.refl _ _) _) _).trans (hb.mono (by simp))); have hlt := (Array.getElem?_eq_some_iff.1 BK.out).1; clear hb; obtain ⟨q0, q1, q2, q3, q4, q5⟩ := blk6 BK.out))
 refine (impl_Parts.calls 1 _ _ _ _ _ _ _ _ (partsI _ _ _ _ _ _ (by omega))).mono ?_
 rintro e w2 ⟨v0, rfl, HO, hb⟩
 have BK2 := am (blk_past0 BK.out hb)
 have AR := am (blk_new0 hb)
 have HB2 := am ((HB.out.alloc HB.out.size _).trans (hb.mono (by have := HB.out.size; simp; omega)))
 have hw1 := am HB.out.size
 clear q0 q1 q2 q3 q4 q5 hb HB BK
 obtain ⟨A5, c5, rfl, _, _⟩ := Kd.R_reads HO
 have HO2 := am (show Kd.R (Kd.int .i64) 3 w2 (w1.heap.size + 1) (fun k => w1.heap.size + 1 ≤ k) (.slice A5 (partsL a1_0 a1_3 a1_4 a1_5).length c5) (partsL a1_0 a1_3 a1_4 a1_5) from
  Kd.R_mono (Kd.R_bound (Kd.R_lower HO (by simp))) (fun k hk => hk.2.1))
 clear HO
 have hps3 := partsL_len a1_0 a1_3 a1_4 a1_5
 obtain ⟨ps, hps⟩ : ∃ ps, partsL a1_0 a1_3 a1_4 a1_5 = ps := ⟨_, rfl⟩
 rw [hps] at HNO HYES HO2 hps3 ⊢
 clear hps
 have HP3 := am hps3
 clear hps3
 go_wp2
 go_loopg [27] ps.length (fun g v27 w' => ∃ j : Nat, v27 = .int .i64 (j : Int) ∧ Aside0 (g + j = ps.length) ∧ Aside0 (∀ t : Nat, t < j → inB (rd ps (t : Int)) 0 ((l0.length : Int) - 1) = true) ∧
  Aside0 (w'.heap[w1.heap.size]? = some (.cells #[.int .i64 (wv l0 ps j 0), .int .i64 (wv l0 ps j 1), .int .i64 (wv l0 ps j 2)] 101 (0, 0))) ∧
  Aside0 (w'.heap[w.heap.size]? = some (.cells #[.int .i64 a1_0, .int .i64 a1_1, .int .i64 a1_2, .int .i64 a1_3, .int .i64 a1_4, .int .i64 a1_5] 31 (0, 0))) ∧
  Aside0 (Kd.R (Kd.int .i64) 3 w' (w1.heap.size + 1) (fun k => w1.heap.size + 1 ≤ k) (.slice A5 ps.length c5) ps) ∧ Aside0 (Below w.heap.size w w'))
 case atStart => exact ⟨0, rfl, ⟨rfl⟩, ⟨fun t ht => absurd ht (by omega)⟩, AR, BK2, HO2, HB2⟩
 case round =>
  clear AR BK2 HO2 HB2
  obtain ⟨j, rfl, HG, HA, AR, BK, HO, HB⟩ := hrel
  by_cases hj : j < ps.length
  ·have hj3 : j < 3 := by have := HP3.out; omega
   have p1 : (0 : Int) ≤ (j : Int) := by omega
   have p2 : (j : Int) < (ps.length : Int) := by omega
   have t1 : decide ((j : Int) < (ps.length : Int)) = true := decide_eq_true p2
   obtain ⟨A6, c6, e6, _, hr6⟩ := Kd.R_reads HO.out
   cases e6
   obtain ⟨ad5, e5, hx5⟩ := Kd.at_int hr6 (j : Int) p1 p2
   cases e5
   rw [Int.toNat_natCast] at hx5
   clear hr6
   by_cases hin : inB (rd ps (j : Int)) 0 ((l0.length : Int) - 1) = true
   ·have hi2 : 0 ≤ rd ps (j : Int) ∧ rd ps (j : Int) ≤ (l0.length : Int) - 1 := by simpa [inB] using hin
    have p3 : 0 ≤ rd ps (j : Int) := hi2.1
    have p4 : rd ps (j : Int) < (l0.length : Int) := by omega
    clear hi2
    obtain ⟨ad0, e0, y0, y1, y2, y3, y4, y5⟩ := at_T31 HR0.out (rd ps (j : Int)) p3 p4
    cases e0
    replace y1 := pw_cell_below HB.out y1
    clear y0 y2 y3 y4 y5
    have fz : wr.frozen? ⟨w1.heap.size, j, none⟩ = false := by have h := AR.out; simp [World.frozen?, h]
    have old : ∃ v, wr.cell? ⟨w1.heap.size, j, none⟩ = some v := by
     have h := blk_cell AR.out j
     have : j = 0 ∨ j = 1 ∨ j = 2 := by omega
     rcases this with rfl | rfl | rfl <;> exact ⟨_, h.trans rfl⟩
    obtain ⟨ov, old⟩ := old
    go_wp2_with (first | (go_at_call 83; (with_reducible refine (impl_isWidth.calls _ _ _ (widthI _)).mono ?_); rintro e w' ⟨rfl, ⟨nd, rfl⟩⟩) | (go_at_call 72; (with_reducible refine (impl_within.calls _ _ _ _ _ (withinI _ _ _)).mono ?_); rintro e w' ⟨rfl, ⟨nd, rfl⟩⟩) | (go_at_call 110; (with_reducible refine (impl_isVar.calls _ _ _ (varI _)).mono ?_); rintro e w' ⟨rfl, ⟨nd, rfl⟩⟩) | (go_at_call 54; (with_reducible refine (impl_WordOk.calls _ _ _ _ (wordOkI _ _)).mono ?_); rintro e w' ⟨rfl, ⟨nd, rfl⟩⟩))
    obtain ⟨g1, rfl⟩ : ∃ g1, gk = g1 + 1 := ⟨gk - 1, by have := HG.out; omega⟩
    go_roundg g1
    case measure => omega
    case rel =>
     refine ⟨j + 1, by go_num, ⟨by have := HG.out; omega⟩, ⟨fun t ht => ?_⟩, ⟨?_⟩, ⟨?_⟩, ⟨?_⟩, ⟨?_⟩⟩
     ·rcases Nat.lt_or_ge t j with h | h
      ·exact HA.out t h
      ·obtain rfl : t = j := by omega
       exact hin
     ·have h := blk_set (show (wr.drewN nd).heap[w1.heap.size]? = some (.cells _ _ (0, 0)) from AR.out) j (.int .i64 (rd_T31 l0 (rd ps (j : Int))).f1)
      refine h.trans ?_
      have : j = 0 ∨ j = 1 ∨ j = 2 := by omega
      rcases this with rfl | rfl | rfl <;> simp [wv]
     ·exact blk_far (show (wr.drewN nd).heap[w.heap.size]? = some (.cells _ _ (0, 0)) from BK.out) (by simp; omega) _
     ·exact Kd.R_far (Kd.R_drewN HO.out _) (fun k hk => by simp; omega) _
     ·exact below_set (pw_below_drewN HB.out _) hw1.out
   ·have hin' : inB (rd ps (j : Int)) 0 ((l0.length : Int) - 1) = false := by simpa using hin
    go_wp2_with (first | (go_at_call 83; (with_reducible refine (impl_isWidth.calls _ _ _ (widthI _)).mono ?_); rintro e w' ⟨rfl, ⟨nd, rfl⟩⟩) | (go_at_call 72; (with_reducible refine (impl_within.calls _ _ _ _ _ (withinI _ _ _)).mono ?_); rintro e w' ⟨rfl, ⟨nd, rfl⟩⟩) | (go_at_call 110; (with_reducible refine (impl_isVar.calls _ _ _ (varI _)).mono ?_); rintro e w' ⟨rfl, ⟨nd, rfl⟩⟩) | (go_at_call 54; (with_reducible refine (impl_WordOk.calls _ _ _ _ (wordOkI _ _)).mono ?_); rintro e w' ⟨rfl, ⟨nd, rfl⟩⟩))
    go_ret
    exact ⟨by rw [HNO.out (fun h => hin (h j hj))] <;> rfl, pw_below_drewN HB.out _⟩
  ·have t1 : decide ((j : Int) < (ps.length : Int)) = false := decide_eq_false (by omega)
   obtain rfl : j = ps.length := by have := HG.out; omega
   obtain ⟨q0, q1, q2, q3, q4, q5⟩ := blk6 BK.out
   obtain ⟨z0, z1, z2⟩ := blk3 AR.out
   have HR := am (HYES.out HA.out)
   clear HYES HNO HA hj
   generalize wv l0 ps ps.length 0 = u at *
   generalize wv l0 ps ps.length 1 = v at *
   generalize wv l0 ps ps.length 2 = x at *
   have hop : (a1_0 = 0) ∨ (a1_0 = 1) ∨ (a1_0 = 2) ∨ (3 ≤ a1_0 ∧ a1_0 ≤ 12) ∨ (13 ≤ a1_0 ∧ a1_0 ≤ 15) ∨ (a1_0 = 16) ∨ (a1_0 = 17) ∨ (a1_0 = 18) ∨ (a1_0 = 19 ∨ a1_0 = 20) := by
    have h : 0 ≤ a1_0 ∧ a1_0 ≤ 20 := by simpa [inB] using b2
    omega
   clear b1 b2 b3
   have tc := fun (b : Bool) => (Bool.eq_false_or_eq_true b).symm
   rcases hop with h | h | h | h | h | h | h | h | h
   ·have E : rightSw a1_0 a1_1 a1_2 a1_4 u v x = Go.Proofs.Ytkpipmojkhikaaa.Base.wok a1_1 a1_2 := by unfold rightSw; rw [if_pos h]
    have k0 : (a1_0 == 0) = true := by simp [h]
    (go_wp2_with (first | (go_at_call 83; (with_reducible refine (impl_isWidth.calls _ _ _ (widthI _)).mono ?_); rintro e w' ⟨rfl, ⟨nd, rfl⟩⟩) | (go_at_call 72; (with_reducible refine (impl_within.calls _ _ _ _ _ (withinI _ _ _)).mono ?_); rintro e w' ⟨rfl, ⟨nd, rfl⟩⟩) | (go_at_call 110; (with_reducible refine (impl_isVar.calls _ _ _ (varI _)).mono ?_); rintro e w' ⟨rfl, ⟨nd, rfl⟩⟩) | (go_at_call 54; (with_reducible refine (impl_WordOk.calls _ _ _ _ (wordOkI _ _)).mono ?_); rintro e w' ⟨rfl, ⟨nd, rfl⟩⟩)); go_ret; exact ⟨by rw [HR.out, E]; (rfl), by exact pw_below_drewN HB.out _⟩)
   ·have E : rightSw a1_0 a1_1 a1_2 a1_4 u v x = inB a1_2 0 7 := by unfold rightSw; rw [if_neg (by omega), if_pos h]
    have k0 : (a1_0 == 0) = false := by simp [inB]; omega
    have k1 : (a1_0 == 1) = true := by simp [h]
    (go_wp2_with (first | (go_at_call 83; (with_reducible refine (impl_isWidth.calls _ _ _ (widthI _)).mono ?_); rintro e w' ⟨rfl, ⟨nd, rfl⟩⟩) | (go_at_call 72; (with_reducible refine (impl_within.calls _ _ _ _ _ (withinI _ _ _)).mono ?_); rintro e w' ⟨rfl, ⟨nd, rfl⟩⟩) | (go_at_call 110; (with_reducible refine (impl_isVar.calls _ _ _ (varI _)).mono ?_); rintro e w' ⟨rfl, ⟨nd, rfl⟩⟩) | (go_at_call 54; (with_reducible refine (impl_WordOk.calls _ _ _ _ (wordOkI _ _)).mono ?_); rintro e w' ⟨rfl, ⟨nd, rfl⟩⟩)); go_ret; exact ⟨by rw [HR.out, E]; (rfl), by exact pw_below_drewN HB.out _⟩)
   ·have E : rightSw a1_0 a1_1 a1_2 a1_4 u v x = (u == a1_1) := by unfold rightSw; rw [if_neg (by omega), if_neg (by omega), if_pos h]
    have k0 : (a1_0 == 0) = false := by simp [inB]; omega
    have k1 : (a1_0 == 1) = false := by simp [inB]; omega
    have k2 : (a1_0 == 2) = true := by simp [h]
    (go_wp2_with (first | (go_at_call 83; (with_reducible refine (impl_isWidth.calls _ _ _ (widthI _)).mono ?_); rintro e w' ⟨rfl, ⟨nd, rfl⟩⟩) | (go_at_call 72; (with_reducible refine (impl_within.calls _ _ _ _ _ (withinI _ _ _)).mono ?_); rintro e w' ⟨rfl, ⟨nd, rfl⟩⟩) | (go_at_call 110; (with_reducible refine (impl_isVar.calls _ _ _ (varI _)).mono ?_); rintro e w' ⟨rfl, ⟨nd, rfl⟩⟩) | (go_at_call 54; (with_reducible refine (impl_WordOk.calls _ _ _ _ (wordOkI _ _)).mono ?_); rintro e w' ⟨rfl, ⟨nd, rfl⟩⟩)); go_ret; exact ⟨by rw [HR.out, E]; (rfl), by exact HB.out⟩)
   ·have E : rightSw a1_0 a1_1 a1_2 a1_4 u v x = ((u == a1_1) && (v == a1_1)) := by unfold rightSw; rw [if_neg (by omega), if_neg (by omega), if_neg (by omega), if_pos h]
    have k0 : (a1_0 == 0) = false := by simp [inB]; omega
    have k1 : (a1_0 == 1) = false := by simp [inB]; omega
    have k2 : (a1_0 == 2) = false := by simp [inB]; omega
    have k3 : (inB a1_0 3 12) = true := by simp [inB]; omega
    rcases tc (u == a1_1) with g1 | g1
    ·(go_wp2_with (first | (go_at_call 83; (with_reducible refine (impl_isWidth.calls _ _ _ (widthI _)).mono ?_); rintro e w' ⟨rfl, ⟨nd, rfl⟩⟩) | (go_at_call 72; (with_reducible refine (impl_within.calls _ _ _ _ _ (withinI _ _ _)).mono ?_); rintro e w' ⟨rfl, ⟨nd, rfl⟩⟩) | (go_at_call 110; (with_reducible refine (impl_isVar.calls _ _ _ (varI _)).mono ?_); rintro e w' ⟨rfl, ⟨nd, rfl⟩⟩) | (go_at_call 54; (with_reducible refine (impl_WordOk.calls _ _ _ _ (wordOkI _ _)).mono ?_); rintro e w' ⟨rfl, ⟨nd, rfl⟩⟩)); go_ret; exact ⟨by rw [HR.out, E]; ((simp only [g1, Bool.true_and, Bool.false_and, Bool.and_true, Bool.and_false]; rfl)), by exact pw_below_drewN HB.out _⟩)
    ·(go_wp2_with (first | (go_at_call 83; (with_reducible refine (impl_isWidth.calls _ _ _ (widthI _)).mono ?_); rintro e w' ⟨rfl, ⟨nd, rfl⟩⟩) | (go_at_call 72; (with_reducible refine (impl_within.calls _ _ _ _ _ (withinI _ _ _)).mono ?_); rintro e w' ⟨rfl, ⟨nd, rfl⟩⟩) | (go_at_call 110; (with_reducible refine (impl_isVar.calls _ _ _ (varI _)).mono ?_); rintro e w' ⟨rfl, ⟨nd, rfl⟩⟩) | (go_at_call 54; (with_reducible refine (impl_WordOk.calls _ _ _ _ (wordOkI _ _)).mono ?_); rintro e w' ⟨rfl, ⟨nd, rfl⟩⟩)); go_ret; exact ⟨by rw [HR.out, E]; ((simp only [g1, Bool.true_and, Bool.false_and, Bool.and_true, Bool.and_false]; rfl)), by exact pw_below_drewN HB.out _⟩)
   ·have E : rightSw a1_0 a1_1 a1_2 a1_4 u v x = ((u == v) && (a1_1 == 1)) := by unfold rightSw; rw [if_neg (by omega), if_neg (by omega), if_neg (by omega), if_neg (by omega), if_pos h]
    have k0 : (a1_0 == 0) = false := by simp [inB]; omega
    have k1 : (a1_0 == 1) = false := by simp [inB]; omega
    have k2 : (a1_0 == 2) = false := by simp [inB]; omega
    have k3 : (inB a1_0 3 12) = false := by simp [inB]; omega
    have k4 : (inB a1_0 13 15) = true := by simp [inB]; omega
    rcases tc (u == v) with g1 | g1
    ·(go_wp2_with (first | (go_at_call 83; (with_reducible refine (impl_isWidth.calls _ _ _ (widthI _)).mono ?_); rintro e w' ⟨rfl, ⟨nd, rfl⟩⟩) | (go_at_call 72; (with_reducible refine (impl_within.calls _ _ _ _ _ (withinI _ _ _)).mono ?_); rintro e w' ⟨rfl, ⟨nd, rfl⟩⟩) | (go_at_call 110; (with_reducible refine (impl_isVar.calls _ _ _ (varI _)).mono ?_); rintro e w' ⟨rfl, ⟨nd, rfl⟩⟩) | (go_at_call 54; (with_reducible refine (impl_WordOk.calls _ _ _ _ (wordOkI _ _)).mono ?_); rintro e w' ⟨rfl, ⟨nd, rfl⟩⟩)); go_ret; exact ⟨by rw [HR.out, E]; ((simp only [g1, Bool.true_and, Bool.false_and, Bool.and_true, Bool.and_false]; rfl)), by exact pw_below_drewN HB.out _⟩)
    ·(go_wp2_with (first | (go_at_call 83; (with_reducible refine (impl_isWidth.calls _ _ _ (widthI _)).mono ?_); rintro e w' ⟨rfl, ⟨nd, rfl⟩⟩) | (go_at_call 72; (with_reducible refine (impl_within.calls _ _ _ _ _ (withinI _ _ _)).mono ?_); rintro e w' ⟨rfl, ⟨nd, rfl⟩⟩) | (go_at_call 110; (with_reducible refine (impl_isVar.calls _ _ _ (varI _)).mono ?_); rintro e w' ⟨rfl, ⟨nd, rfl⟩⟩) | (go_at_call 54; (with_reducible refine (impl_WordOk.calls _ _ _ _ (wordOkI _ _)).mono ?_); rintro e w' ⟨rfl, ⟨nd, rfl⟩⟩)); go_ret; exact ⟨by rw [HR.out, E]; ((simp only [g1, Bool.true_and, Bool.false_and, Bool.and_true, Bool.and_false]; rfl)), by exact pw_below_drewN HB.out _⟩)
   ·have E : rightSw a1_0 a1_1 a1_2 a1_4 u v x = (wrap64 (u + v) == a1_1) := by unfold rightSw; rw [if_neg (by omega), if_neg (by omega), if_neg (by omega), if_neg (by omega), if_neg (by omega), if_pos h]
    have k0 : (a1_0 == 0) = false := by simp [inB]; omega
    have k1 : (a1_0 == 1) = false := by simp [inB]; omega
    have k2 : (a1_0 == 2) = false := by simp [inB]; omega
    have k3 : (inB a1_0 3 12) = false := by simp [inB]; omega
    have k4 : (inB a1_0 13 15) = false := by simp [inB]; omega
    have k5 : (a1_0 == 16) = true := by simp [h]
    (go_wp2_with (first | (go_at_call 83; (with_reducible refine (impl_isWidth.calls _ _ _ (widthI _)).mono ?_); rintro e w' ⟨rfl, ⟨nd, rfl⟩⟩) | (go_at_call 72; (with_reducible refine (impl_within.calls _ _ _ _ _ (withinI _ _ _)).mono ?_); rintro e w' ⟨rfl, ⟨nd, rfl⟩⟩) | (go_at_call 110; (with_reducible refine (impl_isVar.calls _ _ _ (varI _)).mono ?_); rintro e w' ⟨rfl, ⟨nd, rfl⟩⟩) | (go_at_call 54; (with_reducible refine (impl_WordOk.calls _ _ _ _ (wordOkI _ _)).mono ?_); rintro e w' ⟨rfl, ⟨nd, rfl⟩⟩)); go_ret; exact ⟨by rw [HR.out, E]; (rfl), by exact pw_below_drewN HB.out _⟩)
   ·have E : rightSw a1_0 a1_1 a1_2 a1_4 u v x = inB a1_2 0 (wrap64 (u - a1_1)) := by unfold rightSw; rw [if_neg (by omega), if_neg (by omega), if_neg (by omega), if_neg (by omega), if_neg (by omega), if_neg (by omega), if_pos h]
    have k0 : (a1_0 == 0) = false := by simp [inB]; omega
    have k1 : (a1_0 == 1) = false := by simp [inB]; omega
    have k2 : (a1_0 == 2) = false := by simp [inB]; omega
    have k3 : (inB a1_0 3 12) = false := by simp [inB]; omega
    have k4 : (inB a1_0 13 15) = false := by simp [inB]; omega
    have k5 : (a1_0 == 16) = false := by simp [inB]; omega
    have k6 : (a1_0 == 17) = true := by simp [h]
    (go_wp2_with (first | (go_at_call 83; (with_reducible refine (impl_isWidth.calls _ _ _ (widthI _)).mono ?_); rintro e w' ⟨rfl, ⟨nd, rfl⟩⟩) | (go_at_call 72; (with_reducible refine (impl_within.calls _ _ _ _ _ (withinI _ _ _)).mono ?_); rintro e w' ⟨rfl, ⟨nd, rfl⟩⟩) | (go_at_call 110; (with_reducible refine (impl_isVar.calls _ _ _ (varI _)).mono ?_); rintro e w' ⟨rfl, ⟨nd, rfl⟩⟩) | (go_at_call 54; (with_reducible refine (impl_WordOk.calls _ _ _ _ (wordOkI _ _)).mono ?_); rintro e w' ⟨rfl, ⟨nd, rfl⟩⟩)); go_ret; exact ⟨by rw [HR.out, E]; (rfl), by exact pw_below_drewN HB.out _⟩)
   ·have E : rightSw a1_0 a1_1 a1_2 a1_4 u v x = ((u == 1) && (v == a1_1) && (x == a1_1)) := by unfold rightSw; rw [if_neg (by omega), if_neg (by omega), if_neg (by omega), if_neg (by omega), if_neg (by omega), if_neg (by omega), if_neg (by omega), if_pos h]
    have k0 : (a1_0 == 0) = false := by simp [inB]; omega
    have k1 : (a1_0 == 1) = false := by simp [inB]; omega
    have k2 : (a1_0 == 2) = false := by simp [inB]; omega
    have k3 : (inB a1_0 3 12) = false := by simp [inB]; omega
    have k4 : (inB a1_0 13 15) = false := by simp [inB]; omega
    have k5 : (a1_0 == 16) = false := by simp [inB]; omega
    have k6 : (a1_0 == 17) = false := by simp [inB]; omega
    have k7 : (a1_0 == 18) = true := by simp [h]
    rcases tc (u == 1) with g2 | g2
    ·(go_wp2_with (first | (go_at_call 83; (with_reducible refine (impl_isWidth.calls _ _ _ (widthI _)).mono ?_); rintro e w' ⟨rfl, ⟨nd, rfl⟩⟩) | (go_at_call 72; (with_reducible refine (impl_within.calls _ _ _ _ _ (withinI _ _ _)).mono ?_); rintro e w' ⟨rfl, ⟨nd, rfl⟩⟩) | (go_at_call 110; (with_reducible refine (impl_isVar.calls _ _ _ (varI _)).mono ?_); rintro e w' ⟨rfl, ⟨nd, rfl⟩⟩) | (go_at_call 54; (with_reducible refine (impl_WordOk.calls _ _ _ _ (wordOkI _ _)).mono ?_); rintro e w' ⟨rfl, ⟨nd, rfl⟩⟩)); go_ret; exact ⟨by rw [HR.out, E]; ((simp only [g2, Bool.true_and, Bool.false_and, Bool.and_true, Bool.and_false]; rfl)), by exact pw_below_drewN HB.out _⟩)
    ·rcases tc (v == a1_1) with g1 | g1
     ·(go_wp2_with (first | (go_at_call 83; (with_reducible refine (impl_isWidth.calls _ _ _ (widthI _)).mono ?_); rintro e w' ⟨rfl, ⟨nd, rfl⟩⟩) | (go_at_call 72; (with_reducible refine (impl_within.calls _ _ _ _ _ (withinI _ _ _)).mono ?_); rintro e w' ⟨rfl, ⟨nd, rfl⟩⟩) | (go_at_call 110; (with_reducible refine (impl_isVar.calls _ _ _ (varI _)).mono ?_); rintro e w' ⟨rfl, ⟨nd, rfl⟩⟩) | (go_at_call 54; (with_reducible refine (impl_WordOk.calls _ _ _ _ (wordOkI _ _)).mono ?_); rintro e w' ⟨rfl, ⟨nd, rfl⟩⟩)); go_ret; exact ⟨by rw [HR.out, E]; ((simp only [g2, g1, Bool.true_and, Bool.false_and, Bool.and_true, Bool.and_false]; rfl)), by exact pw_below_drewN HB.out _⟩)
     ·(go_wp2_with (first | (go_at_call 83; (with_reducible refine (impl_isWidth.calls _ _ _ (widthI _)).mono ?_); rintro e w' ⟨rfl, ⟨nd, rfl⟩⟩) | (go_at_call 72; (with_reducible refine (impl_within.calls _ _ _ _ _ (withinI _ _ _)).mono ?_); rintro e w' ⟨rfl, ⟨nd, rfl⟩⟩) | (go_at_call 110; (with_reducible refine (impl_isVar.calls _ _ _ (varI _)).mono ?_); rintro e w' ⟨rfl, ⟨nd, rfl⟩⟩) | (go_at_call 54; (with_reducible refine (impl_WordOk.calls _ _ _ _ (wordOkI _ _)).mono ?_); rintro e w' ⟨rfl, ⟨nd, rfl⟩⟩)); go_ret; exact ⟨by rw [HR.out, E]; ((simp only [g2, g1, Bool.true_and, Bool.false_and, Bool.and_true, Bool.and_false]; rfl)), by exact pw_below_drewN HB.out _⟩)
   ·have E : rightSw a1_0 a1_1 a1_2 a1_4 u v x = (inB a1_2 0 7 && inB a1_4 1 8 && (u == 1) && (a1_1 == 1)) := by unfold rightSw; rw [if_neg (by omega), if_neg (by omega), if_neg (by omega), if_neg (by omega), if_neg (by omega), if_neg (by omega), if_neg (by omega), if_neg (by omega)]
    have k0 : (a1_0 == 0) = false := by rcases h with rfl | rfl <;> rfl
    have k1 : (a1_0 == 1) = false := by rcases h with rfl | rfl <;> rfl
    have k2 : (a1_0 == 2) = false := by rcases h with rfl | rfl <;> rfl
    have k3 : (inB a1_0 3 12) = false := by simp [inB]; omega
    have k4 : (inB a1_0 13 15) = false := by simp [inB]; omega
    have k5 : (a1_0 == 16) = false := by rcases h with rfl | rfl <;> rfl
    have k6 : (a1_0 == 17) = false := by rcases h with rfl | rfl <;> rfl
    have k7 : (a1_0 == 18) = false := by rcases h with rfl | rfl <;> rfl
    rcases tc (inB a1_2 0 7) with g3 | g3
    ·(go_wp2_with (first | (go_at_call 83; (with_reducible refine (impl_isWidth.calls _ _ _ (widthI _)).mono ?_); rintro e w' ⟨rfl, ⟨nd, rfl⟩⟩) | (go_at_call 72; (with_reducible refine (impl_within.calls _ _ _ _ _ (withinI _ _ _)).mono ?_); rintro e w' ⟨rfl, ⟨nd, rfl⟩⟩) | (go_at_call 110; (with_reducible refine (impl_isVar.calls _ _ _ (varI _)).mono ?_); rintro e w' ⟨rfl, ⟨nd, rfl⟩⟩) | (go_at_call 54; (with_reducible refine (impl_WordOk.calls _ _ _ _ (wordOkI _ _)).mono ?_); rintro e w' ⟨rfl, ⟨nd, rfl⟩⟩)); go_ret; exact ⟨by rw [HR.out, E]; ((simp only [g3, Bool.true_and, Bool.false_and, Bool.and_true, Bool.and_false]; rfl)), by exact pw_below_drewN HB.out _⟩)
    ·rcases tc (inB a1_4 1 8) with g2 | g2
     ·(go_wp2_with (first | (go_at_call 83; (with_reducible refine (impl_isWidth.calls _ _ _ (widthI _)).mono ?_); rintro e w' ⟨rfl, ⟨nd, rfl⟩⟩) | (go_at_call 72; (with_reducible refine (impl_within.calls _ _ _ _ _ (withinI _ _ _)).mono ?_); rintro e w' ⟨rfl, ⟨nd, rfl⟩⟩) | (go_at_call 110; (with_reducible refine (impl_isVar.calls _ _ _ (varI _)).mono ?_); rintro e w' ⟨rfl, ⟨nd, rfl⟩⟩) | (go_at_call 54; (with_reducible refine (impl_WordOk.calls _ _ _ _ (wordOkI _ _)).mono ?_); rintro e w' ⟨rfl, ⟨nd, rfl⟩⟩)); go_ret; exact ⟨by rw [HR.out, E]; ((simp only [g3, g2, Bool.true_and, Bool.false_and, Bool.and_true, Bool.and_false]; rfl)), by exact pw_below_drewN HB.out _⟩)
     ·rcases tc (u == 1) with g1 | g1
      ·(go_wp2_with (first | (go_at_call 83; (with_reducible refine (impl_isWidth.calls _ _ _ (widthI _)).mono ?_); rintro e w' ⟨rfl, ⟨nd, rfl⟩⟩) | (go_at_call 72; (with_reducible refine (impl_within.calls _ _ _ _ _ (withinI _ _ _)).mono ?_); rintro e w' ⟨rfl, ⟨nd, rfl⟩⟩) | (go_at_call 110; (with_reducible refine (impl_isVar.calls _ _ _ (varI _)).mono ?_); rintro e w' ⟨rfl, ⟨nd, rfl⟩⟩) | (go_at_call 54; (with_reducible refine (impl_WordOk.calls _ _ _ _ (wordOkI _ _)).mono ?_); rintro e w' ⟨rfl, ⟨nd, rfl⟩⟩)); go_ret; exact ⟨by rw [HR.out, E]; ((simp only [g3, g2, g1, Bool.true_and, Bool.false_and, Bool.and_true, Bool.and_false]; rfl)), by exact pw_below_drewN HB.out _⟩)
      ·(go_wp2_with (first | (go_at_call 83; (with_reducible refine (impl_isWidth.calls _ _ _ (widthI _)).mono ?_); rintro e w' ⟨rfl, ⟨nd, rfl⟩⟩) | (go_at_call 72; (with_reducible refine (impl_within.calls _ _ _ _ _ (withinI _ _ _)).mono ?_); rintro e w' ⟨rfl, ⟨nd, rfl⟩⟩) | (go_at_call 110; (with_reducible refine (impl_isVar.calls _ _ _ (varI _)).mono ?_); rintro e w' ⟨rfl, ⟨nd, rfl⟩⟩) | (go_at_call 54; (with_reducible refine (impl_WordOk.calls _ _ _ _ (wordOkI _ _)).mono ?_); rintro e w' ⟨rfl, ⟨nd, rfl⟩⟩)); go_ret; exact ⟨by rw [HR.out, E]; ((simp only [g3, g2, g1, Bool.true_and, Bool.false_and, Bool.and_true, Bool.and_false]; rfl)), by exact pw_below_drewN HB.out _⟩)
theorem partsAll (l : List Int) (P : Int → Bool) : (∀ t : Nat, t < l.length → P (rd l (t : Int)) = true) ↔ l.all P = true := by
 rw [List.all_eq_true]
 constructor
 ·intro h x hx
  obtain ⟨t, ht, rfl⟩ := List.getElem_of_mem hx
  have := h t ht
  rwa [show rd l (t : Int) = l[t] from by simp [rd, ht]] at this
 ·intro h t ht
  rw [show rd l (t : Int) = l[t] from by simp [rd, ht]]
  exact h _ (List.getElem_mem ht)
theorem impl_isRight.calls (A0 : Option Addr) (c0 : Nat) (l0 : List (S31)) (a1_0 : Int) (a1_1 : Int) (a1_2 : Int) (a1_3 : Int) (a1_4 : Int) (a1_5 : Int) (r : Bool) (w : World) (hr0 : Kd.C k31 w A0 l0.length l0) (hc0 : l0.length ≤ c0) (h : impl_isRight.f l0 a1_0 a1_1 a1_2 a1_3 a1_4 a1_5 = some r) :
  Calls Try.prog 73 #[.slice A0 l0.length c0, .agg #[.int .i64 a1_0, .int .i64 a1_1, .int .i64 a1_2, .int .i64 a1_3, .int .i64 a1_4, .int .i64 a1_5]] w fun e w' => e = .returned (.bool (r)) ∧ Below w.heap.size w w' := by
 obtain rfl : rightB l0 a1_0 a1_1 a1_2 a1_3 a1_4 a1_5 = r := oI h
 cases b1 : inB a1_1 1 8 with
 | false => simpa [rightB, b1] using isRight_no1 A0 c0 l0 a1_0 a1_1 a1_2 a1_3 a1_4 a1_5 w hr0 hc0 b1
 | true =>
  cases b2 : inB a1_0 0 20 with
  | false => simpa [rightB, b1, b2] using isRight_no2 A0 c0 l0 a1_0 a1_1 a1_2 a1_3 a1_4 a1_5 w hr0 hc0 b1 b2
  | true =>
   cases b3 : usesB a1_0 a1_2 a1_3 a1_4 a1_5 with
   | false => simpa [rightB, b1, b2, b3] using isRight_no3 A0 c0 l0 a1_0 a1_1 a1_2 a1_3 a1_4 a1_5 w hr0 hc0 b1 b2 b3
   | true =>
    refine isRight_go A0 c0 l0 a1_0 a1_1 a1_2 a1_3 a1_4 a1_5 w hr0 hc0 b1 b2 b3 _ (fun hn => ?_) (fun hy => ?_)
    ·rw [partsAll _ (fun p => inB p 0 ((l0.length : Int) - 1))] at hn
     simp only [Bool.not_eq_true] at hn
     unfold rightB
     rw [hn]; simp
    ·rw [partsAll _ (fun p => inB p 0 ((l0.length : Int) - 1))] at hy
     unfold rightB
     rw [b1, b2, b3, hy]; simp only [Bool.true_and]
/-! ### impl_TermOk: function 44 -/
def impl_TermOk.l0 : Nat → List (S31) → List (S31) → Int → Int → Option (Bool)
 | 0, _, _, _, _ => none
 | k + 1, x0, x9, x10, x11 => if x11 < x10 then (if 0 ≤ x11 then (if x11 < (x9.length : Int) then (if x11 ≤ (x0.length : Int) then ((impl_isRight.f (x0.take (x11 : Int).toNat) ((rd_T31 x9 x11).f0) ((rd_T31 x9 x11).f1) ((rd_T31 x9 x11).f2) ((rd_T31 x9 x11).f3) ((rd_T31 x9 x11).f4) ((rd_T31 x9 x11).f5)).bind fun t236 => (if t236 = true then (impl_TermOk.l0 k x0 x9 x10 (wrap64 (x11 + 1))) else (some false))) else (none)) else (none)) else (none)) else (some true)
def impl_TermOk.f (k : Nat) (l0 : List (S31)) : Option (Bool) := (impl_within.f (l0.length : Int) 1 80).bind fun t229 => (if t229 = true then (impl_TermOk.l0 k l0 l0 (l0.length : Int) 0) else (some false))
set_option maxHeartbeats 8000000 in
set_option maxRecDepth 100000 in
theorem impl_TermOk.calls (k : Nat) (A0 : Option Addr) (c0 : Nat) (l0 : List (S31)) (r : Bool) (w : World) (hr0 : Kd.C k31 w A0 l0.length l0) (hc0 : l0.length ≤ c0) (h : impl_TermOk.f k l0 = some r) :
  Calls Try.prog 44 #[.slice A0 l0.length c0] w fun e w' => e = .returned (.bool r) ∧ Below w.heap.size w w' := by
 have hu31 := Try.underlying31
 have HR0 := am hr0
 have HC0 := am hc0
 clear hr0 hc0
 have HB := am (Below.refl w.heap.size w)
 have H : ((impl_within.f (l0.length : Int) 1 80).bind fun t229 => (if t229 = true then (impl_TermOk.l0 k l0 l0 (l0.length : Int) 0) else (some false))) = some r := h
 clear h
 replace H := oB H
 obtain ⟨t229, A20, H⟩ := H
 have A2 := am A20
 clear A20
 by_cases c3 : t229 = true
 ·subst c3
  rw [if_pos rfl] at H
  have H' := am H
  clear H
  go_enter Try.func44, Try.ntmps44
  go_wp2_with (first | ((with_reducible refine gate_callee (f := 72) rfl ?_); refine goesL_ (some 7) rfl rfl Try.func72 (by kernel_rfl) rfl #[.int .i64 (l0.length : Int), .int .i64 1, .int .i64 80] rfl tm ?_; (with_reducible refine (impl_within.calls (l0.length : Int) 1 80 true _ A2.out).mono ?_); rintro e w' ⟨rfl, ⟨nd, rfl⟩⟩; refine ⟨_, rfl, ?_⟩))
  go_loopg [11] k (fun kq v11 w' => ∃ (x11_1 : Int), v11 = .int .i64 x11_1 ∧ Aside0 (impl_TermOk.l0 kq l0 l0 (l0.length : Int) x11_1 = some r) ∧ Aside0 (kq ≤ k) ∧ Aside0 (Below w.heap.size w w'))
  case atStart => exact ⟨(0), (by rfl), H', ⟨Nat.le_refl _⟩, ⟨by exact sW HB.out⟩⟩
  case round =>
   clear H'
   obtain ⟨x11_1, rfl, HA, HK1, HB⟩ := hrel
   cases gk with
   | zero => exact absurd HA.out (by simp [impl_TermOk.l0])
   | succ k1 =>
    have H := HA.out
    clear HA
    simp only [impl_TermOk.l0] at H
    by_cases c4 : x11_1 < (l0.length : Int)
    ·rw [if_pos c4] at H
     have c4b0 : decide (x11_1 < (l0.length : Int)) = true := decide_eq_true c4
     clear c4
     by_cases c5 : 0 ≤ x11_1
     ·rw [if_pos c5] at H
      have c5b0 : decide (0 ≤ x11_1) = true := decide_eq_true c5
      clear c5
      by_cases c6 : x11_1 < (l0.length : Int)
      ·rw [if_pos c6] at H
       have c6b0 : decide (x11_1 < (l0.length : Int)) = true := decide_eq_true c6
       clear c6
       have c7b0 := eq_true (oD (by assumption) : 0 ≤ x11_1)
       by_cases c8 : x11_1 ≤ (l0.length : Int)
       ·rw [if_pos c8] at H
        have c8b0 := eq_true c8
        have c8b1 : decide (x11_1 ≤ (l0.length : Int)) = true := decide_eq_true c8
        clear c8
        obtain ⟨y232, hy232⟩ : ∃ y_ : List (S31), y_ = (l0.take (x11_1 : Int).toNat) := ⟨_, rfl⟩
        replace H : ((impl_isRight.f y232 ((rd_T31 l0 x11_1).f0) ((rd_T31 l0 x11_1).f1) ((rd_T31 l0 x11_1).f2) ((rd_T31 l0 x11_1).f3) ((rd_T31 l0 x11_1).f4) ((rd_T31 l0 x11_1).f5)).bind fun t236 => (if t236 = true then (impl_TermOk.l0 k1 l0 l0 (l0.length : Int) (wrap64 (x11_1 + 1))) else (some false))) = some r := by (rw [hy232]; with_reducible exact H)
        have Ny232 := am hy232
        clear hy232
        replace H := oB H
        obtain ⟨t236, A90, H⟩ := H
        have A9 := am A90
        clear A90
        by_cases c10 : t236 = true
        ·subst c10
         rw [if_pos rfl] at H
         have H' := am H
         clear H
         have p230 : 0 ≤ (x11_1 : Int) := oD (by assumption)
         have q230 : x11_1 < (l0.length : Int) := oD (by assumption)
         obtain ⟨ad230, e230, hx230_0, hx230_1, hx230_2, hx230_3, hx230_4, hx230_5⟩ := at_T31 HR0.out x11_1 p230 q230
         cases e230
         replace hx230_0 := pw_cell_below HB.out hx230_0
         replace hx230_1 := pw_cell_below HB.out hx230_1
         replace hx230_2 := pw_cell_below HB.out hx230_2
         replace hx230_3 := pw_cell_below HB.out hx230_3
         replace hx230_4 := pw_cell_below HB.out hx230_4
         replace hx230_5 := pw_cell_below HB.out hx230_5
         replace p230 := eq_true p230
         replace q230 := eq_true q230
         try go_wp2_with (first | ((with_reducible refine gate_dst (N := 4) rfl ?_); refine box_event ?hg (N := 4) ?hd (cs := #[.int .i64 0, .int .i64 0, .int .i64 0, .int .i64 0, .int .i64 0, .int .i64 0]) (t := 31) ?hr ?_; (case hd => rfl); (case hg => rfl); (case hr => (go_simp; done)); intro gb231 hg w11 hbox hb; have n0_ := am (below_step (by exact sW HB.out) hb); have n1_ := am (hbox); have n2_ := am ((by rw [hg]; exact (below_size (by exact sW HB.out)) : w.heap.size ≤ gb231)); have n3_ := am ((by rw [hg]; exact (below_size (by exact sW HB.out)) : w.heap.size ≤ gb231)); clear HB; have HB := n0_; have BK231 := n1_; have GW231 := n2_; have GE231 := n3_; clear n0_ n1_ n2_ n3_; clear hb hbox hg; obtain ⟨hcz12_0, hcz12_1, hcz12_2, hcz12_3, hcz12_4, hcz12_5⟩ := cz6 BK231.out; obtain ⟨hfz12_0, hfz12_1, hfz12_2, hfz12_3, hfz12_4, hfz12_5⟩ := fz6 BK231.out))
         have n0_ : Aside0 (((((((w11.setCell ⟨gb231, 0, none⟩ (.int .i64 ((rd_T31 l0 x11_1).f0))).setCell ⟨gb231, 1, none⟩ (.int .i64 ((rd_T31 l0 x11_1).f1))).setCell ⟨gb231, 2, none⟩ (.int .i64 ((rd_T31 l0 x11_1).f2))).setCell ⟨gb231, 3, none⟩ (.int .i64 ((rd_T31 l0 x11_1).f3))).setCell ⟨gb231, 4, none⟩ (.int .i64 ((rd_T31 l0 x11_1).f4))).setCell ⟨gb231, 5, none⟩ (.int .i64 ((rd_T31 l0 x11_1).f5))).heap[gb231]? = some (.cells #[.int .i64 ((rd_T31 l0 x11_1).f0), .int .i64 ((rd_T31 l0 x11_1).f1), .int .i64 ((rd_T31 l0 x11_1).f2), .int .i64 ((rd_T31 l0 x11_1).f3), .int .i64 ((rd_T31 l0 x11_1).f4), .int .i64 ((rd_T31 l0 x11_1).f5)] 31 (0, 0))) := ⟨by (with_reducible repeat (first | refine blk_drewN ?_ _ | refine blk_drew ?_ | refine blk_alloc ?_ _)); refine blk_put (cs := #[.int .i64 ((rd_T31 l0 x11_1).f0), .int .i64 ((rd_T31 l0 x11_1).f1), .int .i64 ((rd_T31 l0 x11_1).f2), .int .i64 ((rd_T31 l0 x11_1).f3), .int .i64 ((rd_T31 l0 x11_1).f4), .int .i64 0]) ?_ 5 _ rfl; (with_reducible repeat (first | refine blk_drewN ?_ _ | refine blk_drew ?_ | refine blk_alloc ?_ _)); refine blk_put (cs := #[.int .i64 ((rd_T31 l0 x11_1).f0), .int .i64 ((rd_T31 l0 x11_1).f1), .int .i64 ((rd_T31 l0 x11_1).f2), .int .i64 ((rd_T31 l0 x11_1).f3), .int .i64 0, .int .i64 0]) ?_ 4 _ rfl; (with_reducible repeat (first | refine blk_drewN ?_ _ | refine blk_drew ?_ | refine blk_alloc ?_ _)); refine blk_put (cs := #[.int .i64 ((rd_T31 l0 x11_1).f0), .int .i64 ((rd_T31 l0 x11_1).f1), .int .i64 ((rd_T31 l0 x11_1).f2), .int .i64 0, .int .i64 0, .int .i64 0]) ?_ 3 _ rfl; (with_reducible repeat (first | refine blk_drewN ?_ _ | refine blk_drew ?_ | refine blk_alloc ?_ _)); refine blk_put (cs := #[.int .i64 ((rd_T31 l0 x11_1).f0), .int .i64 ((rd_T31 l0 x11_1).f1), .int .i64 0, .int .i64 0, .int .i64 0, .int .i64 0]) ?_ 2 _ rfl; (with_reducible repeat (first | refine blk_drewN ?_ _ | refine blk_drew ?_ | refine blk_alloc ?_ _)); refine blk_put (cs := #[.int .i64 ((rd_T31 l0 x11_1).f0), .int .i64 0, .int .i64 0, .int .i64 0, .int .i64 0, .int .i64 0]) ?_ 1 _ rfl; (with_reducible repeat (first | refine blk_drewN ?_ _ | refine blk_drew ?_ | refine blk_alloc ?_ _)); refine blk_put (cs := #[.int .i64 0, .int .i64 0, .int .i64 0, .int .i64 0, .int .i64 0, .int .i64 0]) ?_ 0 _ rfl; exact sB <| BK231.out⟩
         have n1_ : Aside0 (Below w.heap.size w ((((((w11.setCell ⟨gb231, 0, none⟩ (.int .i64 ((rd_T31 l0 x11_1).f0))).setCell ⟨gb231, 1, none⟩ (.int .i64 ((rd_T31 l0 x11_1).f1))).setCell ⟨gb231, 2, none⟩ (.int .i64 ((rd_T31 l0 x11_1).f2))).setCell ⟨gb231, 3, none⟩ (.int .i64 ((rd_T31 l0 x11_1).f3))).setCell ⟨gb231, 4, none⟩ (.int .i64 ((rd_T31 l0 x11_1).f4))).setCell ⟨gb231, 5, none⟩ (.int .i64 ((rd_T31 l0 x11_1).f5)))) := ⟨by exact bW⟩
         clear BK231
         clear HB
         generalize ((((((w11.setCell ⟨gb231, 0, none⟩ (.int .i64 ((rd_T31 l0 x11_1).f0))).setCell ⟨gb231, 1, none⟩ (.int .i64 ((rd_T31 l0 x11_1).f1))).setCell ⟨gb231, 2, none⟩ (.int .i64 ((rd_T31 l0 x11_1).f2))).setCell ⟨gb231, 3, none⟩ (.int .i64 ((rd_T31 l0 x11_1).f3))).setCell ⟨gb231, 4, none⟩ (.int .i64 ((rd_T31 l0 x11_1).f4))).setCell ⟨gb231, 5, none⟩ (.int .i64 ((rd_T31 l0 x11_1).f5))) = w13 at n0_ n1_ ⊢
         have BK231 := n0_
         have HB := n1_
         clear n0_ n1_
         have n0_ := am (blk_drew BK231.out)
         have n1_ := am (below_drew1 HB.out)
         clear BK231
         clear HB
         have BK231 := n0_
         have HB := n1_
         clear n0_ n1_
         have q15 : (x11_1 : Int) ≤ ((l0.length : Int) : Int) := oD (by assumption)
         obtain ⟨i015, hi015, _, hsz15, _⟩ := info_parts info31
         have hroom15 : l0.length ≤ c0 := HC0.out
         have hC15 : Kd.C k31 _ (some ad230) l0.length l0 := HR0.out
         have hcut15 := cut_to (P := Try.prog) 24 31 .i64 Try.underlying24 hi015 (some ad230) l0.length c0 x11_1 (oD (by assumption)) q15 hroom15
         have hr15 := Kd.C_take (m := (x11_1 : Int).toNat) hC15 (by omega)
         have hy15 : y232.length = (x11_1 : Int).toNat := (by rw [Ny232.out, List.length_take]; omega)
         rw [← Ny232.out] at hr15
         rw [← hy15] at hcut15
         have HR235 := am hr15
         have HC235 := am (show y232.length ≤ c0 from by omega)
         clear hr15 hC15 hroom15 hi015 hsz15
         have KY15 := am hy15
         clear hy15
         replace q15 := eq_true q15
         refine start_ (n := 6) (S := fun w' => w'.cell? ⟨gb231, 0, none⟩ = some (.int .i64 ((rd_T31 l0 x11_1).f0)) ∧ w'.cell? ⟨gb231, 1, none⟩ = some (.int .i64 ((rd_T31 l0 x11_1).f1)) ∧ w'.cell? ⟨gb231, 2, none⟩ = some (.int .i64 ((rd_T31 l0 x11_1).f2)) ∧ w'.cell? ⟨gb231, 3, none⟩ = some (.int .i64 ((rd_T31 l0 x11_1).f3)) ∧ w'.cell? ⟨gb231, 4, none⟩ = some (.int .i64 ((rd_T31 l0 x11_1).f4)) ∧ w'.cell? ⟨gb231, 5, none⟩ = some (.int .i64 ((rd_T31 l0 x11_1).f5))) (ds := []) #[false, false, false, false, false, false] (by kernel_rfl) rfl rfl ⟨(blk_cell BK231.out 0).trans rfl, (blk_cell BK231.out 1).trans rfl, (blk_cell BK231.out 2).trans rfl, (blk_cell BK231.out 3).trans rfl, (blk_cell BK231.out 4).trans rfl, (blk_cell BK231.out 5).trans rfl⟩ (fun hHeld => ?_)
         generalize w13.drew = w14 at BK231 HB HR235 hHeld ⊢
         refine pure_ (i := 0) (N := some 16) (v := ?_) (a' := ?_) #[true, false, false, false, false, false] rfl rfl (by kernel_rfl) (fun _ _ _ h => h) (Or.inl ⟨by rfl, ?_⟩) ?_ ?_; rotate_left; (intro w'; go_simp; with_reducible rfl); rotate_left; (simp only [Act.put, List.setIfInBounds_toArray, List.set_cons_zero, List.set_cons_succ, i64_w, i32_w]; rfl)
         refine pure_ (i := 1) (N := some 17) (v := ?_) (a' := ?_) #[true, true, false, false, false, false] rfl rfl (by kernel_rfl) (fun _ _ _ h => h) (Or.inl ⟨by rfl, ?_⟩) ?_ ?_; rotate_left; (intro w'; go_simp; with_reducible rfl); rotate_left; (simp only [Act.put, List.setIfInBounds_toArray, List.set_cons_zero, List.set_cons_succ, i64_w, i32_w]; rfl)
         refine pure_ (i := 2) (N := some 18) (v := ?_) (a' := ?_) #[true, true, true, false, false, false] rfl rfl (by kernel_rfl) (fun _ _ _ h => h) (Or.inl ⟨by rfl, ?_⟩) ?_ ?_; rotate_left; (intro w'; go_simp; with_reducible rfl); rotate_left; (simp only [Act.put, List.setIfInBounds_toArray, List.set_cons_zero, List.set_cons_succ, i64_w, i32_w]; rfl)
         refine take_ (i := 3) (N := some 19) (v := ?_) (a' := ?_) #[true, true, true, true, false, false] rfl rfl (by kernel_rfl) (fun _ _ _ h => h) (Or.inl ⟨by rfl, ?_⟩) hHeld ?_ ?_
         rotate_left
         ·rintro w' ⟨s0, s1, s2, s3, s4, s5⟩
          go_simp
          with_reducible rfl
         rotate_left
         ·simp only [Act.put, List.setIfInBounds_toArray, List.set_cons_zero, List.set_cons_succ, i64_w, i32_w]
          rfl
         refine one_ (i := 4) (N := some 20) #[true, true, true, true, true, false] rfl rfl (by kernel_rfl) (by decide) (fun K hK => ?_)
         refine goes_ Try.func73 (by kernel_rfl) rfl #[.slice (some ad230) y232.length c0, .agg #[.int .i64 ((rd_T31 l0 x11_1).f0), .int .i64 ((rd_T31 l0 x11_1).f1), .int .i64 ((rd_T31 l0 x11_1).f2), .int .i64 ((rd_T31 l0 x11_1).f3), .int .i64 ((rd_T31 l0 x11_1).f4), .int .i64 ((rd_T31 l0 x11_1).f5)]] (by rfl) rfl rfl tm ?_
         with_reducible refine (impl_isRight.calls _ _ y232 ((rd_T31 l0 x11_1).f0) ((rd_T31 l0 x11_1).f1) ((rd_T31 l0 x11_1).f2) ((rd_T31 l0 x11_1).f3) ((rd_T31 l0 x11_1).f4) ((rd_T31 l0 x11_1).f5) true _ ?side1 ?side2 A9.out).mono ?_
         (case side1 => exact sC (Kd.C_below HR235.out HB.out))
         (case side2 => exact HC235.out)
         rintro e w16 ⟨rfl, hb⟩
         refine ⟨_, rfl, ?_⟩
         have n0_ := am (blk_below (g := gb231) (o := .cells #[.int .i64 ((rd_T31 l0 x11_1).f0), .int .i64 ((rd_T31 l0 x11_1).f1), .int .i64 ((rd_T31 l0 x11_1).f2), .int .i64 ((rd_T31 l0 x11_1).f3), .int .i64 ((rd_T31 l0 x11_1).f4), .int .i64 ((rd_T31 l0 x11_1).f5)] 31 (0, 0)) (by exact sB <| BK231.out) hb)
         have n1_ := am (below_step (by exact bW) hb)
         clear BK231
         clear HB
         have BK231 := n0_
         have HB := n1_
         clear n0_ n1_
         clear hb
         refine hK.out _ _ ⟨(blk_cell BK231.out 0).trans rfl, (blk_cell BK231.out 1).trans rfl, (blk_cell BK231.out 2).trans rfl, (blk_cell BK231.out 3).trans rfl, (blk_cell BK231.out 4).trans rfl, (blk_cell BK231.out 5).trans rfl⟩ (fun hHeld => ?_)
         clear hK K
         refine norm_ (a' := ?_) ?_ ?_
         rotate_left
         ·show Act.put _ (some 20) _ = _
          simp only [Act.put, List.setIfInBounds_toArray, List.set_cons_zero, List.set_cons_succ, i64_w, i32_w]
          rfl
         refine pure_ (i := 5) (N := some 21) (v := ?_) (a' := ?_) #[true, true, true, true, true, true] rfl rfl (by kernel_rfl) (fun _ _ _ h => h) (Or.inl ⟨by rfl, ?_⟩) ?_ ?_; rotate_left; (intro w'; go_simp; with_reducible rfl); rotate_left; (simp only [Act.put, List.setIfInBounds_toArray, List.set_cons_zero, List.set_cons_succ, i64_w, i32_w]; rfl)
         refine done_ (by kernel_rfl) ?_
         try go_wp2
         go_roundg k1
         case measure => have := HK1.out; omega
         case rel => exact ⟨(wrap64 (x11_1 + 1)), (by rfl), H', ⟨by have := HK1.out; omega⟩, ⟨by exact bW⟩⟩
        ·replace c10 := Bool.eq_false_iff.mpr c10
         subst c10
         rw [if_neg (show ¬ (false = true) by decide)] at H
         obtain rfl := oI H
         have p230 : 0 ≤ (x11_1 : Int) := oD (by assumption)
         have q230 : x11_1 < (l0.length : Int) := oD (by assumption)
         obtain ⟨ad230, e230, hx230_0, hx230_1, hx230_2, hx230_3, hx230_4, hx230_5⟩ := at_T31 HR0.out x11_1 p230 q230
         cases e230
         replace hx230_0 := pw_cell_below HB.out hx230_0
         replace hx230_1 := pw_cell_below HB.out hx230_1
         replace hx230_2 := pw_cell_below HB.out hx230_2
         replace hx230_3 := pw_cell_below HB.out hx230_3
         replace hx230_4 := pw_cell_below HB.out hx230_4
         replace hx230_5 := pw_cell_below HB.out hx230_5
         replace p230 := eq_true p230
         replace q230 := eq_true q230
         try go_wp2_with (first | ((with_reducible refine gate_dst (N := 4) rfl ?_); refine box_event ?hg (N := 4) ?hd (cs := #[.int .i64 0, .int .i64 0, .int .i64 0, .int .i64 0, .int .i64 0, .int .i64 0]) (t := 31) ?hr ?_; (case hd => rfl); (case hg => rfl); (case hr => (go_simp; done)); intro gb231 hg w17 hbox hb; have n0_ := am (below_step (by exact sW HB.out) hb); have n1_ := am (hbox); have n2_ := am ((by rw [hg]; exact (below_size (by exact sW HB.out)) : w.heap.size ≤ gb231)); have n3_ := am ((by rw [hg]; exact (below_size (by exact sW HB.out)) : w.heap.size ≤ gb231)); clear HB; have HB := n0_; have BK231 := n1_; have GW231 := n2_; have GE231 := n3_; clear n0_ n1_ n2_ n3_; clear hb hbox hg; obtain ⟨hcz18_0, hcz18_1, hcz18_2, hcz18_3, hcz18_4, hcz18_5⟩ := cz6 BK231.out; obtain ⟨hfz18_0, hfz18_1, hfz18_2, hfz18_3, hfz18_4, hfz18_5⟩ := fz6 BK231.out))
         have n0_ : Aside0 (((((((w17.setCell ⟨gb231, 0, none⟩ (.int .i64 ((rd_T31 l0 x11_1).f0))).setCell ⟨gb231, 1, none⟩ (.int .i64 ((rd_T31 l0 x11_1).f1))).setCell ⟨gb231, 2, none⟩ (.int .i64 ((rd_T31 l0 x11_1).f2))).setCell ⟨gb231, 3, none⟩ (.int .i64 ((rd_T31 l0 x11_1).f3))).setCell ⟨gb231, 4, none⟩ (.int .i64 ((rd_T31 l0 x11_1).f4))).setCell ⟨gb231, 5, none⟩ (.int .i64 ((rd_T31 l0 x11_1).f5))).heap[gb231]? = some (.cells #[.int .i64 ((rd_T31 l0 x11_1).f0), .int .i64 ((rd_T31 l0 x11_1).f1), .int .i64 ((rd_T31 l0 x11_1).f2), .int .i64 ((rd_T31 l0 x11_1).f3), .int .i64 ((rd_T31 l0 x11_1).f4), .int .i64 ((rd_T31 l0 x11_1).f5)] 31 (0, 0))) := ⟨by (with_reducible repeat (first | refine blk_drewN ?_ _ | refine blk_drew ?_ | refine blk_alloc ?_ _)); refine blk_put (cs := #[.int .i64 ((rd_T31 l0 x11_1).f0), .int .i64 ((rd_T31 l0 x11_1).f1), .int .i64 ((rd_T31 l0 x11_1).f2), .int .i64 ((rd_T31 l0 x11_1).f3), .int .i64 ((rd_T31 l0 x11_1).f4), .int .i64 0]) ?_ 5 _ rfl; (with_reducible repeat (first | refine blk_drewN ?_ _ | refine blk_drew ?_ | refine blk_alloc ?_ _)); refine blk_put (cs := #[.int .i64 ((rd_T31 l0 x11_1).f0), .int .i64 ((rd_T31 l0 x11_1).f1), .int .i64 ((rd_T31 l0 x11_1).f2), .int .i64 ((rd_T31 l0 x11_1).f3), .int .i64 0, .int .i64 0]) ?_ 4 _ rfl; (with_reducible repeat (first | refine blk_drewN ?_ _ | refine blk_drew ?_ | refine blk_alloc ?_ _)); refine blk_put (cs := #[.int .i64 ((rd_T31 l0 x11_1).f0), .int .i64 ((rd_T31 l0 x11_1).f1), .int .i64 ((rd_T31 l0 x11_1).f2), .int .i64 0, .int .i64 0, .int .i64 0]) ?_ 3 _ rfl; (with_reducible repeat (first | refine blk_drewN ?_ _ | refine blk_drew ?_ | refine blk_alloc ?_ _)); refine blk_put (cs := #[.int .i64 ((rd_T31 l0 x11_1).f0), .int .i64 ((rd_T31 l0 x11_1).f1), .int .i64 0, .int .i64 0, .int .i64 0, .int .i64 0]) ?_ 2 _ rfl; (with_reducible repeat (first | refine blk_drewN ?_ _ | refine blk_drew ?_ | refine blk_alloc ?_ _)); refine blk_put (cs := #[.int .i64 ((rd_T31 l0 x11_1).f0), .int .i64 0, .int .i64 0, .int .i64 0, .int .i64 0, .int .i64 0]) ?_ 1 _ rfl; (with_reducible repeat (first | refine blk_drewN ?_ _ | refine blk_drew ?_ | refine blk_alloc ?_ _)); refine blk_put (cs := #[.int .i64 0, .int .i64 0, .int .i64 0, .int .i64 0, .int .i64 0, .int .i64 0]) ?_ 0 _ rfl; exact sB <| BK231.out⟩
         have n1_ : Aside0 (Below w.heap.size w ((((((w17.setCell ⟨gb231, 0, none⟩ (.int .i64 ((rd_T31 l0 x11_1).f0))).setCell ⟨gb231, 1, none⟩ (.int .i64 ((rd_T31 l0 x11_1).f1))).setCell ⟨gb231, 2, none⟩ (.int .i64 ((rd_T31 l0 x11_1).f2))).setCell ⟨gb231, 3, none⟩ (.int .i64 ((rd_T31 l0 x11_1).f3))).setCell ⟨gb231, 4, none⟩ (.int .i64 ((rd_T31 l0 x11_1).f4))).setCell ⟨gb231, 5, none⟩ (.int .i64 ((rd_T31 l0 x11_1).f5)))) := ⟨by exact bW⟩
         clear BK231
         clear HB
         generalize ((((((w17.setCell ⟨gb231, 0, none⟩ (.int .i64 ((rd_T31 l0 x11_1).f0))).setCell ⟨gb231, 1, none⟩ (.int .i64 ((rd_T31 l0 x11_1).f1))).setCell ⟨gb231, 2, none⟩ (.int .i64 ((rd_T31 l0 x11_1).f2))).setCell ⟨gb231, 3, none⟩ (.int .i64 ((rd_T31 l0 x11_1).f3))).setCell ⟨gb231, 4, none⟩ (.int .i64 ((rd_T31 l0 x11_1).f4))).setCell ⟨gb231, 5, none⟩ (.int .i64 ((rd_T31 l0 x11_1).f5))) = w19 at n0_ n1_ ⊢
         have BK231 := n0_
         have HB := n1_
         clear n0_ n1_
         have n0_ := am (blk_drew BK231.out)
         have n1_ := am (below_drew1 HB.out)
         clear BK231
         clear HB
         have BK231 := n0_
         have HB := n1_
         clear n0_ n1_
         have q21 : (x11_1 : Int) ≤ ((l0.length : Int) : Int) := oD (by assumption)
         obtain ⟨i021, hi021, _, hsz21, _⟩ := info_parts info31
         have hroom21 : l0.length ≤ c0 := HC0.out
         have hC21 : Kd.C k31 _ (some ad230) l0.length l0 := HR0.out
         have hcut21 := cut_to (P := Try.prog) 24 31 .i64 Try.underlying24 hi021 (some ad230) l0.length c0 x11_1 (oD (by assumption)) q21 hroom21
         have hr21 := Kd.C_take (m := (x11_1 : Int).toNat) hC21 (by omega)
         have hy21 : y232.length = (x11_1 : Int).toNat := (by rw [Ny232.out, List.length_take]; omega)
         rw [← Ny232.out] at hr21
         rw [← hy21] at hcut21
         have HR235 := am hr21
         have HC235 := am (show y232.length ≤ c0 from by omega)
         clear hr21 hC21 hroom21 hi021 hsz21
         have KY21 := am hy21
         clear hy21
         replace q21 := eq_true q21
         refine start_ (n := 6) (S := fun w' => w'.cell? ⟨gb231, 0, none⟩ = some (.int .i64 ((rd_T31 l0 x11_1).f0)) ∧ w'.cell? ⟨gb231, 1, none⟩ = some (.int .i64 ((rd_T31 l0 x11_1).f1)) ∧ w'.cell? ⟨gb231, 2, none⟩ = some (.int .i64 ((rd_T31 l0 x11_1).f2)) ∧ w'.cell? ⟨gb231, 3, none⟩ = some (.int .i64 ((rd_T31 l0 x11_1).f3)) ∧ w'.cell? ⟨gb231, 4, none⟩ = some (.int .i64 ((rd_T31 l0 x11_1).f4)) ∧ w'.cell? ⟨gb231, 5, none⟩ = some (.int .i64 ((rd_T31 l0 x11_1).f5))) (ds := []) #[false, false, false, false, false, false] (by kernel_rfl) rfl rfl ⟨(blk_cell BK231.out 0).trans rfl, (blk_cell BK231.out 1).trans rfl, (blk_cell BK231.out 2).trans rfl, (blk_cell BK231.out 3).trans rfl, (blk_cell BK231.out 4).trans rfl, (blk_cell BK231.out 5).trans rfl⟩ (fun hHeld => ?_)
         generalize w19.drew = w20 at BK231 HB HR235 hHeld ⊢
         refine pure_ (i := 0) (N := some 16) (v := ?_) (a' := ?_) #[true, false, false, false, false, false] rfl rfl (by kernel_rfl) (fun _ _ _ h => h) (Or.inl ⟨by rfl, ?_⟩) ?_ ?_; rotate_left; (intro w'; go_simp; with_reducible rfl); rotate_left; (simp only [Act.put, List.setIfInBounds_toArray, List.set_cons_zero, List.set_cons_succ, i64_w, i32_w]; rfl)
         refine pure_ (i := 1) (N := some 17) (v := ?_) (a' := ?_) #[true, true, false, false, false, false] rfl rfl (by kernel_rfl) (fun _ _ _ h => h) (Or.inl ⟨by rfl, ?_⟩) ?_ ?_; rotate_left; (intro w'; go_simp; with_reducible rfl); rotate_left; (simp only [Act.put, List.setIfInBounds_toArray, List.set_cons_zero, List.set_cons_succ, i64_w, i32_w]; rfl)
         refine pure_ (i := 2) (N := some 18) (v := ?_) (a' := ?_) #[true, true, true, false, false, false] rfl rfl (by kernel_rfl) (fun _ _ _ h => h) (Or.inl ⟨by rfl, ?_⟩) ?_ ?_; rotate_left; (intro w'; go_simp; with_reducible rfl); rotate_left; (simp only [Act.put, List.setIfInBounds_toArray, List.set_cons_zero, List.set_cons_succ, i64_w, i32_w]; rfl)
         refine take_ (i := 3) (N := some 19) (v := ?_) (a' := ?_) #[true, true, true, true, false, false] rfl rfl (by kernel_rfl) (fun _ _ _ h => h) (Or.inl ⟨by rfl, ?_⟩) hHeld ?_ ?_
         rotate_left
         ·rintro w' ⟨s0, s1, s2, s3, s4, s5⟩
          go_simp
          with_reducible rfl
         rotate_left
         ·simp only [Act.put, List.setIfInBounds_toArray, List.set_cons_zero, List.set_cons_succ, i64_w, i32_w]
          rfl
         refine one_ (i := 4) (N := some 20) #[true, true, true, true, true, false] rfl rfl (by kernel_rfl) (by decide) (fun K hK => ?_)
         refine goes_ Try.func73 (by kernel_rfl) rfl #[.slice (some ad230) y232.length c0, .agg #[.int .i64 ((rd_T31 l0 x11_1).f0), .int .i64 ((rd_T31 l0 x11_1).f1), .int .i64 ((rd_T31 l0 x11_1).f2), .int .i64 ((rd_T31 l0 x11_1).f3), .int .i64 ((rd_T31 l0 x11_1).f4), .int .i64 ((rd_T31 l0 x11_1).f5)]] (by rfl) rfl rfl tm ?_
         with_reducible refine (impl_isRight.calls _ _ y232 ((rd_T31 l0 x11_1).f0) ((rd_T31 l0 x11_1).f1) ((rd_T31 l0 x11_1).f2) ((rd_T31 l0 x11_1).f3) ((rd_T31 l0 x11_1).f4) ((rd_T31 l0 x11_1).f5) false _ ?side1 ?side2 A9.out).mono ?_
         (case side1 => exact sC (Kd.C_below HR235.out HB.out))
         (case side2 => exact HC235.out)
         rintro e w22 ⟨rfl, hb⟩
         refine ⟨_, rfl, ?_⟩
         have n0_ := am (blk_below (g := gb231) (o := .cells #[.int .i64 ((rd_T31 l0 x11_1).f0), .int .i64 ((rd_T31 l0 x11_1).f1), .int .i64 ((rd_T31 l0 x11_1).f2), .int .i64 ((rd_T31 l0 x11_1).f3), .int .i64 ((rd_T31 l0 x11_1).f4), .int .i64 ((rd_T31 l0 x11_1).f5)] 31 (0, 0)) (by exact sB <| BK231.out) hb)
         have n1_ := am (below_step (by exact bW) hb)
         clear BK231
         clear HB
         have BK231 := n0_
         have HB := n1_
         clear n0_ n1_
         clear hb
         refine hK.out _ _ ⟨(blk_cell BK231.out 0).trans rfl, (blk_cell BK231.out 1).trans rfl, (blk_cell BK231.out 2).trans rfl, (blk_cell BK231.out 3).trans rfl, (blk_cell BK231.out 4).trans rfl, (blk_cell BK231.out 5).trans rfl⟩ (fun hHeld => ?_)
         clear hK K
         refine norm_ (a' := ?_) ?_ ?_
         rotate_left
         ·show Act.put _ (some 20) _ = _
          simp only [Act.put, List.setIfInBounds_toArray, List.set_cons_zero, List.set_cons_succ, i64_w, i32_w]
          rfl
         refine pure_ (i := 5) (N := some 21) (v := ?_) (a' := ?_) #[true, true, true, true, true, true] rfl rfl (by kernel_rfl) (fun _ _ _ h => h) (Or.inl ⟨by rfl, ?_⟩) ?_ ?_; rotate_left; (intro w'; go_simp; with_reducible rfl); rotate_left; (simp only [Act.put, List.setIfInBounds_toArray, List.set_cons_zero, List.set_cons_succ, i64_w, i32_w]; rfl)
         refine done_ (by kernel_rfl) ?_
         try go_wp2
         go_ret
         exact ⟨by rfl, by exact bW⟩
       ·rw [if_neg c8] at H
        exact absurd H (by simp)
      ·rw [if_neg c6] at H
       exact absurd H (by simp)
     ·rw [if_neg c5] at H
      exact absurd H (by simp)
    ·rw [if_neg c4] at H
     have c4b0 : decide (x11_1 < (l0.length : Int)) = false := decide_eq_false c4
     clear c4
     obtain rfl := oI H
     go_wp2
     go_ret
     exact ⟨by rfl, by exact sW HB.out⟩
 ·replace c3 := Bool.eq_false_iff.mpr c3
  subst c3
  rw [if_neg (show ¬ (false = true) by decide)] at H
  obtain rfl := oI H
  go_enter Try.func44, Try.ntmps44
  go_wp2_with (first | ((with_reducible refine gate_callee (f := 72) rfl ?_); refine goesL_ (some 7) rfl rfl Try.func72 (by kernel_rfl) rfl #[.int .i64 (l0.length : Int), .int .i64 1, .int .i64 80] rfl tm ?_; (with_reducible refine (impl_within.calls (l0.length : Int) 1 80 false _ A2.out).mono ?_); rintro e w' ⟨rfl, ⟨nd, rfl⟩⟩; refine ⟨_, rfl, ?_⟩))
  go_ret
  exact ⟨by rfl, by exact sW HB.out⟩
/-! ### impl_reached_1: by hand -/
def impl_reached_1.f (a0 : Int) : Option (Bool) := some true
theorem impl_reached_1.calls (a0 : Int) (r : Bool) (w : World) (h : impl_reached_1.f a0 = some r) :
  Calls Try.prog 112 #[.int .i64 a0] w fun e w' => e = .returned (.bool r) ∧ Below w.heap.size w w' := by
 obtain rfl := oI h
 go_enter Try.func112, Try.ntmps112
 go_wp2
 go_ret
 exact ⟨rfl, by exact Below.refl _ _⟩
/-! ### impl_reach: function 76 -/
mutual
def impl_reach.l0 (pf : Int → Option Bool) : Nat → List (S31) → List Bool → Int → Option (List Bool)
 | 0, _, _, _ => none
 | k + 1, x0, x7, x8 => if x8 ≥ 0 then (if 0 ≤ x8 then (if x8 < (x7.length : Int) then (if rdOf false x7 x8 = true then ((pf x8).bind fun t358 => (impl_reach.j1 pf k x0 x7 x8 (!t358))) else (impl_reach.j1 pf k x0 x7 x8 true)) else (none)) else (none)) else (some x7)
def impl_reach.j1 (pf : Int → Option Bool) : Nat → List (S31) → List Bool → Int → Bool → Option (List Bool)
 | 0, _, _, _, _ => none
 | k + 1, x0, x7, x8, x32 => if x32 = true then (impl_reach.l0 pf k x0 x7 (wrap64 (x8 - 1))) else (if 0 ≤ x8 then (if x8 < (x0.length : Int) then ((impl_Parts.f k ((rd_T31 x0 x8).f0) ((rd_T31 x0 x8).f1) ((rd_T31 x0 x8).f2) ((rd_T31 x0 x8).f3) ((rd_T31 x0 x8).f4) ((rd_T31 x0 x8).f5)).bind fun t360 => (impl_reach.l1 pf k x0 x7 x8 t360 (t360.length : Int) 0)) else (none)) else (none))
def impl_reach.l1 (pf : Int → Option Bool) : Nat → List (S31) → List Bool → Int → List Int → Int → Int → Option (List Bool)
 | 0, _, _, _, _, _, _ => none
 | k + 1, x0, x7, x8, x37, x38, x39 => if x39 < x38 then (if 0 ≤ x39 then (if x39 < (x37.length : Int) then (if 0 ≤ (rd x37 x39) then (if (rd x37 x39) < (x7.length : Int) then (impl_reach.l1 pf k x0 (x7.set ((rd x37 x39) : Int).toNat true) x8 x37 x38 (wrap64 (x39 + 1))) else (none)) else (none)) else (none)) else (none)) else (impl_reach.l0 pf k x0 x7 (wrap64 (x8 - 1)))
end
def impl_reach.f (pf : Int → Option Bool) (k : Nat) (l0 : List (S31)) (a1 : Int) : Option (List Bool) := if 0 ≤ (l0.length : Int) then (if ((l0.length : Int) : Int).toNat ≤ 281474976710656 then ((some (List.replicate ((l0.length : Int) : Int).toNat false : List Bool)).bind fun y353 => (if 0 ≤ a1 then (if a1 < (y353.length : Int) then (impl_reach.l0 pf k l0 (y353.set (a1 : Int).toNat true) a1) else (none)) else (none))) else (none)) else (none)
set_option maxHeartbeats 8000000 in
set_option maxRecDepth 100000 in
theorem impl_reach.calls (F : Nat) (cp : Array Value) (pf : Int → Option Bool) (k : Nat) (A0 : Option Addr) (c0 : Nat) (l0 : List (S31)) (a1 : Int) (r : List Bool) (w : World) (hr0 : Kd.C k31 w A0 l0.length l0) (hc0 : l0.length ≤ c0) (eg : ∀ args w, (callFunc F args).run Try.prog w = .ok (.enter F args) w) (hp : ∀ (W : World) (i : Int) (b : Bool), Below w.heap.size w W → pf i = some b → Calls Try.prog F (#[.int .i64 i] ++ cp) W fun e w' => e = .returned (.bool b) ∧ Below W.heap.size W w') (h : impl_reach.f pf k l0 a1 = some r) :
  Calls Try.prog 76 #[.slice A0 l0.length c0, .int .i64 a1, .func (.func F) #[] cp] w fun e w' => ∃ v0_ : Value, e = .returned (v0_) ∧ Kd.R Kd.bool 4 w' w.heap.size (fun _ => True) v0_ r ∧ Below w.heap.size w w' := by
 have hu31 := Try.underlying31
 have HR0 := am hr0
 have HC0 := am hc0
 have HPF := am hp
 clear hr0 hc0 hp
 have HB := am (Below.refl w.heap.size w)
 have H : (if 0 ≤ (l0.length : Int) then (if ((l0.length : Int) : Int).toNat ≤ 281474976710656 then ((some (List.replicate ((l0.length : Int) : Int).toNat false : List Bool)).bind fun y353 => (if 0 ≤ a1 then (if a1 < (y353.length : Int) then (impl_reach.l0 pf k l0 (y353.set (a1 : Int).toNat true) a1) else (none)) else (none))) else (none)) else (none)) = some r := h
 clear h
 by_cases c3 : 0 ≤ (l0.length : Int)
 ·rw [if_pos c3] at H
  have c3b0 := eq_true c3
  have c3b1 : decide (0 ≤ (l0.length : Int)) = true := decide_eq_true c3
  clear c3
  by_cases c4 : ((l0.length : Int) : Int).toNat ≤ 281474976710656
  ·rw [if_pos c4] at H
   have c4b0 := eq_true c4
   have c4b1 : decide (((l0.length : Int) : Int).toNat ≤ 281474976710656) = true := decide_eq_true c4
   clear c4
   obtain ⟨y353, hy353⟩ : ∃ y_ : List Bool, y_ = (List.replicate ((l0.length : Int) : Int).toNat false) := ⟨_, rfl⟩
   replace H : (if 0 ≤ a1 then (if a1 < (y353.length : Int) then (impl_reach.l0 pf k l0 (y353.set (a1 : Int).toNat true) a1) else (none)) else (none)) = some r := by (have H2_ := (Option.bind_some _ _).symm.trans H; rw [hy353]; with_reducible exact H2_)
   have Ny353 := am hy353
   clear hy353
   by_cases c5 : 0 ≤ a1
   ·rw [if_pos c5] at H
    have c5b0 : decide (0 ≤ a1) = true := decide_eq_true c5
    clear c5
    by_cases c6 : a1 < (y353.length : Int)
    ·rw [if_pos c6] at H
     have c6b0 : decide (a1 < (y353.length : Int)) = true := decide_eq_true c6
     clear c6
     obtain ⟨y356, hy356⟩ : ∃ y_ : List Bool, y_ = (y353.set (a1 : Int).toNat true) := ⟨_, rfl⟩
     replace H : (impl_reach.l0 pf k l0 y356 a1) = some r := by (rw [hy356]; with_reducible exact H)
     have Ny356 := am hy356
     clear hy356
     have H' := am H
     clear H
     go_enter Try.func76, Try.ntmps76
     go_wp2_with (first | ((with_reducible refine gate_dst (N := 13) rfl ?_); refine Kd.R_make Kd.bool _ 4 rfl (N := 13) rfl 76 _ _ rfl (l0.length : Int) rfl rfl Try.underlying76 (.bool false) 1 info4 rfl (by decide) (by omega) false (ok := fun _ => True) (okp := fun _ => True) rfl (fun _ hk => hk) trivial (oD (by assumption)) (Nat.le_trans (Nat.mul_le_mul_right _ (oD (by assumption) : (l0.length : Int).toNat ≤ 281474976710656)) (by omega)) (Below.refl _ _) (Nat.le_refl _) ?_; intro v354 w8 ho9 hb hg_ hnew_; clear hg_ hnew_; (rw [← Ny353.out] at ho9); have n0_ := am (Kd.R_lower ho9 (below_size (by exact sW HB.out))); have n1_ := am (below_step (by exact sW HB.out) hb); clear HB; have HO355 := n0_; have HB := n1_; clear n0_ n1_; clear hb ho9; have p7 : 0 ≤ (a1 : Int) := oD (by assumption); have q7 : (a1 : Int) < ((y353.length : Int) : Int) := oD (by assumption); obtain ⟨go7, co7, eo7, gb7, gl7, cl7, HG7⟩ := Kd.R_form HO355.out (by omega); (cases eo7); have GB7 := am gb7; have GG7 := am HG7; clear gb7 gl7 HG7; obtain ⟨hx7_0, hf7_0⟩ := Kd.R_celln false HO355.out (a1 : Int) p7 q7; replace p7 := eq_true p7; replace q7 := eq_true q7; obtain ⟨hy10_, hz10_⟩ := Kd.R_celln false HO355.out (a1 : Int) (oD (by assumption)) (oD (by assumption)); have HP10 := Kd.R_putg HO355.out (a1 : Int) true) | ((with_reducible refine gate_store (t := 4) (p := 16) rfl ?_); refine store_event (t := 4) (p := 16) (v := ?vo_w11) (w1 := (w8.setCell ⟨go7, (a1 : Int).toNat, none⟩ (.bool true))) ?hg ?ho ?hn ?hr ?_; (case ho => rfl); (case hg => rfl); (case hn => rfl); (case hr => (go_simp; done)); intro w11 hw; have hg : w8.grownBy w11 (some go7) := (by rw [hw]; exact HP10.2); have hp_ : Kd.R Kd.bool 4 w11 w.heap.size (fun _ => True) (.slice (some ⟨go7, 0, none⟩) y353.length co7) y356 := (by rw [hw, Ny356.out]; exact HP10.1); clear HP10; have n0_ := am (hp_); have n1_ := am ((by rw [hw]; exact below_set (HB.out) GB7.out : Below w.heap.size w w11)); clear HO355; clear HB; have HO355 := n0_; have HB := n1_; clear n0_ n1_; clear hg hw hp_))
     go_loopg [8] k (fun kq v8 w' => ∃ (x7_1 : List Bool) (x8_1 : Int), v8 = .int .i64 x8_1 ∧ Aside0 (impl_reach.l0 pf kq l0 x7_1 x8_1 = some r) ∧ Aside0 (kq ≤ k) ∧ Aside0 (Kd.R Kd.bool 4 w' w.heap.size (fun _ => True) (.slice (some ⟨go7, 0, none⟩) y353.length co7) x7_1) ∧ Aside0 (Below w.heap.size w w'))
     case atStart => exact ⟨(y356), (a1), (by rfl), H', ⟨Nat.le_refl _⟩, ⟨by exact sR <| HO355.out⟩, ⟨by exact sW HB.out⟩⟩
     case round =>
      clear H'
      clear c3b0 c3b1 c4b0 c4b1 c5b0 c6b0 hx7_0; try clear p7; try clear q7; try clear p7; try clear q7
      obtain ⟨x7_1, x8_1, rfl, HA, HK1, HO_7, HB⟩ := hrel
      have hl7_1 := (Kd.R_reads' HO_7.out).1
      rw [hl7_1] at HO_7
      (try simp only [hl7_1])
      cases gk with
      | zero => exact absurd HA.out (by simp [impl_reach.l0])
      | succ k1 =>
       have H := HA.out
       clear HA
       simp only [impl_reach.l0] at H
       by_cases c12 : x8_1 ≥ 0
       ·rw [if_pos c12] at H
        have c12b0 : decide (0 ≤ x8_1) = true := decide_eq_true c12
        clear c12
        have HC13 := am H
        clear H
        go_upto_region 6 with (fail)
        go_cut [32] (fun v32 wc => ∃ (kq : Nat) (x32_12 : Bool), v32 = .bool x32_12 ∧ Aside0 (impl_reach.j1 pf kq l0 x7_1 x8_1 x32_12 = some r) ∧ Aside0 (kq ≤ k1) ∧ Aside0 (Kd.R Kd.bool 4 wc w.heap.size (fun _ => True) (.slice (some ⟨go7, 0, none⟩) x7_1.length co7) x7_1) ∧ Aside0 (Below w.heap.size w wc))
        case first =>
         have H := HC13.out
         clear HC13
         by_cases c14 : 0 ≤ x8_1
         ·rw [if_pos c14] at H
          have c14b0 : decide (0 ≤ x8_1) = true := decide_eq_true c14
          clear c14
          (skip)
          by_cases c15 : x8_1 < (x7_1.length : Int)
          ·rw [if_pos c15] at H
           have c15b0 : decide (x8_1 < (x7_1.length : Int)) = true := decide_eq_true c15
           clear c15
           obtain ⟨bq16, hbq16⟩ : ∃ b_ : Bool, b_ = (rdOf false x7_1 x8_1) := ⟨_, rfl⟩
           replace H : (if bq16 = true then ((pf x8_1).bind fun t358 => (impl_reach.j1 pf k1 l0 x7_1 x8_1 (!t358))) else (impl_reach.j1 pf k1 l0 x7_1 x8_1 true)) = some r := by rw [← hbq16] at H; exact H
           have Nbq16 := am hbq16
           clear hbq16
           by_cases c17 : bq16 = true
           ·subst c17
            rw [if_pos rfl] at H
            replace H := oB H
            obtain ⟨t358, A180, H⟩ := H
            have A18 := am A180
            clear A180
            have H' := am H
            clear H
            have p357 : 0 ≤ (x8_1 : Int) := oD (by assumption)
            have q357 : x8_1 < (x7_1.length : Int) := oD (by assumption)
            obtain ⟨ad357, e357, hx357_0⟩ := Kd.at_bool (Kd.R_reads' HO_7.out).2.2 x8_1 p357 q357
            (try rw [← Nbq16.out] at hx357_0)
            obtain rfl : (⟨go7, 0, none⟩ : Addr) = ad357 := (by injection e357)
            (simp only [add_plain] at hx357_0)
            replace p357 := eq_true p357
            replace q357 := eq_true q357
            go_wp2_with (first | (go_at_fn F; refine (HPF.out _ x8_1 t358 (by exact sW HB.out) A18.out).mono ?_; rintro e w19 ⟨rfl, hb⟩; have n0_ := am (Kd.R_below (by exact sR <| HO_7.out) hb); have n1_ := am (below_step (by exact sW HB.out) hb); clear HO_7; clear HB; have HO_7 := n0_; have HB := n1_; clear n0_ n1_; (try clear hb); (try clear hb2); (try clear hk); (try clear hi)))
            go_meet
            case rel => exact ⟨_, (!t358), (by rfl), H', ⟨by have := HK1.out; omega⟩, ⟨by (try simp only [hl7_1]); exact sR <| HO_7.out⟩, ⟨by exact sW HB.out⟩⟩
           ·replace c17 := Bool.eq_false_iff.mpr c17
            subst c17
            rw [if_neg (show ¬ (false = true) by decide)] at H
            have H' := am H
            clear H
            have p357 : 0 ≤ (x8_1 : Int) := oD (by assumption)
            have q357 : x8_1 < (x7_1.length : Int) := oD (by assumption)
            obtain ⟨ad357, e357, hx357_0⟩ := Kd.at_bool (Kd.R_reads' HO_7.out).2.2 x8_1 p357 q357
            (try rw [← Nbq16.out] at hx357_0)
            obtain rfl : (⟨go7, 0, none⟩ : Addr) = ad357 := (by injection e357)
            (simp only [add_plain] at hx357_0)
            replace p357 := eq_true p357
            replace q357 := eq_true q357
            go_wp2
            go_meet
            case rel => exact ⟨_, (true), (by rfl), H', ⟨by have := HK1.out; omega⟩, ⟨by (try simp only [hl7_1]); exact sR <| HO_7.out⟩, ⟨by exact sW HB.out⟩⟩
          ·rw [if_neg c15] at H
           exact absurd H (by simp)
         ·rw [if_neg c14] at H
          exact absurd H (by simp)
        case rest =>
         clear HC13
         clear c12b0
         obtain ⟨kq, x32_12, rfl, HA, HJ12, HO_7, HB⟩ := hcut
         cases kq with
         | zero => exact absurd HA.out (by simp [impl_reach.j1])
         | succ kj12 =>
          have H := HA.out
          clear HA
          simp only [impl_reach.j1] at H
          by_cases c20 : x32_12 = true
          ·subst c20
           rw [if_pos rfl] at H
           have H' := am H
           clear H
           go_wp2
           (try simp only [← hl7_1])
           go_roundg kj12
           case measure => have := HK1.out; have := HJ12.out; omega
           case rel => exact ⟨(x7_1), (wrap64 (x8_1 - 1)), (by rfl), H', ⟨by have := HK1.out; have := HJ12.out; omega⟩, ⟨by (try simp only [hl7_1]); exact sR <| HO_7.out⟩, ⟨by exact sW HB.out⟩⟩
          ·replace c20 := Bool.eq_false_iff.mpr c20
           subst c20
           rw [if_neg (show ¬ (false = true) by decide)] at H
           by_cases c21 : 0 ≤ x8_1
           ·rw [if_pos c21] at H
            have c21b0 : decide (0 ≤ x8_1) = true := decide_eq_true c21
            clear c21
            by_cases c22 : x8_1 < (l0.length : Int)
            ·rw [if_pos c22] at H
             have c22b0 : decide (x8_1 < (l0.length : Int)) = true := decide_eq_true c22
             clear c22
             replace H := oB H
             obtain ⟨t360, A230, H⟩ := H
             have A23 := am A230
             clear A230
             have H' := am H
             clear H
             have p359 : 0 ≤ (x8_1 : Int) := oD (by assumption)
             have q359 : x8_1 < (l0.length : Int) := oD (by assumption)
             obtain ⟨ad359, e359, hx359_0, hx359_1, hx359_2, hx359_3, hx359_4, hx359_5⟩ := at_T31 HR0.out x8_1 p359 q359
             cases e359
             replace hx359_0 := pw_cell_below HB.out hx359_0
             replace hx359_1 := pw_cell_below HB.out hx359_1
             replace hx359_2 := pw_cell_below HB.out hx359_2
             replace hx359_3 := pw_cell_below HB.out hx359_3
             replace hx359_4 := pw_cell_below HB.out hx359_4
             replace hx359_5 := pw_cell_below HB.out hx359_5
             replace p359 := eq_true p359
             replace q359 := eq_true q359
             go_wp2_with (first | ((with_reducible refine gate_callee (f := 58) rfl ?_); refine goesL_ (some 37) rfl rfl Try.func58 (by kernel_rfl) rfl #[.agg #[.int .i64 ((rd_T31 l0 x8_1).f0), .int .i64 ((rd_T31 l0 x8_1).f1), .int .i64 ((rd_T31 l0 x8_1).f2), .int .i64 ((rd_T31 l0 x8_1).f3), .int .i64 ((rd_T31 l0 x8_1).f4), .int .i64 ((rd_T31 l0 x8_1).f5)]] rfl tm ?_; (with_reducible refine (impl_Parts.calls kj12 ((rd_T31 l0 x8_1).f0) ((rd_T31 l0 x8_1).f1) ((rd_T31 l0 x8_1).f2) ((rd_T31 l0 x8_1).f3) ((rd_T31 l0 x8_1).f4) ((rd_T31 l0 x8_1).f5) t360 _ A23.out).mono ?_); rintro e w24 ⟨v361, rfl, ho0, hb⟩; refine ⟨_, rfl, ?_⟩; have n0_ := am (Kd.R_below (by exact sR <| HO_7.out) hb); have n1_ := am (Kd.R_lower ho0 (below_size (by exact sW HB.out))); have n2_ := am (below_step (by exact sW HB.out) hb); clear HO_7; clear HB; have HO_7 := n0_; have HO362 := n1_; have HB := n2_; clear n0_ n1_ n2_; (try clear hb); (try clear hb2); (try clear hk); (try clear hi); (try clear ho0); obtain ⟨Ao25, co25, eo25⟩ := Kd.R_slice HO362.out; subst eo25))
             go_loopg [39] kj12 (fun kq v39 w' => ∃ (x7_3 : List Bool) (x39_3 : Int), v39 = .int .i64 x39_3 ∧ Aside0 (impl_reach.l1 pf kq l0 x7_3 x8_1 t360 (t360.length : Int) x39_3 = some r) ∧ Aside0 (kq ≤ kj12) ∧ Aside0 (Kd.R Kd.bool 4 w' w.heap.size (fun _ => True) (.slice (some ⟨go7, 0, none⟩) x7_1.length co7) x7_3) ∧ Aside0 (Kd.R (Kd.int .i64) 3 w' w.heap.size (fun _ => True) (.slice Ao25 t360.length co25) t360) ∧ Aside0 (Below w.heap.size w w'))
             case atStart => exact ⟨(x7_1), (0), (by rfl), H', ⟨Nat.le_refl _⟩, ⟨by (try simp only [hl7_1]); exact sR <| HO_7.out⟩, ⟨by (try simp only [hl7_1]); exact sR <| HO362.out⟩, ⟨by exact sW HB.out⟩⟩
             case round =>
              clear H'
              clear c21b0 c22b0 hx359_0 hx359_1 hx359_2 hx359_3 hx359_4 hx359_5 p359 q359
              obtain ⟨x7_3, x39_3, rfl, HA, HK3, HO_7, HO_37, HB⟩ := hrel
              have hl7_3 := (Kd.R_reads' HO_7.out).1
              rw [hl7_3] at HO_7
              (try simp only [hl7_3])
              (try simp only [hl7_3] at HO_37)
              cases gk with
              | zero => exact absurd HA.out (by simp [impl_reach.l1])
              | succ k3 =>
               have H := HA.out
               clear HA
               simp only [impl_reach.l1] at H
               by_cases c26 : x39_3 < (t360.length : Int)
               ·rw [if_pos c26] at H
                have c26b0 : decide (x39_3 < (t360.length : Int)) = true := decide_eq_true c26
                clear c26
                by_cases c27 : 0 ≤ x39_3
                ·rw [if_pos c27] at H
                 have c27b0 : decide (0 ≤ x39_3) = true := decide_eq_true c27
                 clear c27
                 by_cases c28 : x39_3 < (t360.length : Int)
                 ·rw [if_pos c28] at H
                  have c28b0 : decide (x39_3 < (t360.length : Int)) = true := decide_eq_true c28
                  clear c28
                  by_cases c29 : 0 ≤ (rd t360 x39_3)
                  ·rw [if_pos c29] at H
                   have c29b0 : decide (0 ≤ (rd t360 x39_3)) = true := decide_eq_true c29
                   clear c29
                   by_cases c30 : (rd t360 x39_3) < (x7_3.length : Int)
                   ·rw [if_pos c30] at H
                    have c30b0 : decide ((rd t360 x39_3) < (x7_3.length : Int)) = true := decide_eq_true c30
                    clear c30
                    obtain ⟨y364, hy364⟩ : ∃ y_ : List Bool, y_ = (x7_3.set ((rd t360 x39_3) : Int).toNat true) := ⟨_, rfl⟩
                    replace H : (impl_reach.l1 pf k3 l0 y364 x8_1 t360 (t360.length : Int) (wrap64 (x39_3 + 1))) = some r := by (rw [hy364]; with_reducible exact H)
                    have Ny364 := am hy364
                    clear hy364
                    have H' := am H
                    clear H
                    have p363 : 0 ≤ (x39_3 : Int) := oD (by assumption)
                    have q363 : x39_3 < (t360.length : Int) := oD (by assumption)
                    obtain ⟨ad363, e363, hx363_0⟩ := Kd.at_int (Kd.R_reads' HO_37.out).2.2 x39_3 p363 q363
                    cases e363
                    replace p363 := eq_true p363
                    replace q363 := eq_true q363
                    have p31 : 0 ≤ ((rd t360 x39_3) : Int) := oD (by assumption)
                    have q31 : ((rd t360 x39_3) : Int) < ((x7_3.length : Int) : Int) := oD (by assumption)
                    obtain ⟨hx31_0, hf31_0⟩ := Kd.R_celln false HO_7.out ((rd t360 x39_3) : Int) p31 q31
                    replace p31 := eq_true p31
                    replace q31 := eq_true q31
                    have HP32 := Kd.R_putg HO_7.out ((rd t360 x39_3) : Int) true
                    go_wp2_with (first | ((with_reducible refine gate_store (t := 4) (p := 45) rfl ?_); refine store_event (t := 4) (p := 45) (v := ?vo_w33) (w1 := (wr.setCell ⟨go7, ((rd t360 x39_3) : Int).toNat, none⟩ (.bool true))) ?hg ?ho ?hn ?hr ?_; (case ho => rfl); (case hg => rfl); (case hn => rfl); (case hr => (go_simp; done)); intro w33 hw; have hg : wr.grownBy w33 (some go7) := (by rw [hw]; exact HP32.2); have hp_ : Kd.R Kd.bool 4 w33 w.heap.size (fun _ => True) (.slice (some ⟨go7, 0, none⟩) x7_3.length co7) y364 := (by rw [hw, Ny364.out]; exact HP32.1); clear HP32; have n0_ := am (hp_); have n1_ := am (Kd.R_over' (v := (.slice (some ⟨go7, 0, none⟩) x7_3.length co7)) (by exact sR <| HO_37.out) (Kd.R_typed HO_7.out) (by decide) hg); have n2_ := am ((by rw [hw]; exact below_set (HB.out) GB7.out : Below w.heap.size w w33)); clear HO_7; clear HO_37; clear HB; have HO_7 := n0_; have HO_37 := n1_; have HB := n2_; clear n0_ n1_ n2_; clear hg hw hp_))
                    (try simp only [← hl7_3])
                    go_roundg k3
                    case measure => have := HK1.out; have := HJ12.out; have := HK3.out; omega
                    case rel => exact ⟨(y364), (wrap64 (x39_3 + 1)), (by rfl), H', ⟨by have := HK1.out; have := HJ12.out; have := HK3.out; omega⟩, ⟨by (try simp only [hl7_1]); (try simp only [hl7_3]); exact sR <| HO_7.out⟩, ⟨by (try simp only [hl7_1]); (try simp only [hl7_3]); exact sR <| HO_37.out⟩, ⟨by exact sW HB.out⟩⟩
                   ·rw [if_neg c30] at H
                    exact absurd H (by simp)
                  ·rw [if_neg c29] at H
                   exact absurd H (by simp)
                 ·rw [if_neg c28] at H
                  exact absurd H (by simp)
                ·rw [if_neg c27] at H
                 exact absurd H (by simp)
               ·rw [if_neg c26] at H
                have c26b0 : decide (x39_3 < (t360.length : Int)) = false := decide_eq_false c26
                clear c26
                have H' := am H
                clear H
                go_wp2
                (try simp only [← hl7_1, ← hl7_3])
                go_roundg k3
                case measure => have := HK1.out; have := HJ12.out; have := HK3.out; omega
                case rel => exact ⟨(x7_3), (wrap64 (x8_1 - 1)), (by rfl), H', ⟨by have := HK1.out; have := HJ12.out; have := HK3.out; omega⟩, ⟨by (try simp only [hl7_1]); (try simp only [hl7_3]); exact sR <| HO_7.out⟩, ⟨by exact sW HB.out⟩⟩
            ·rw [if_neg c22] at H
             exact absurd H (by simp)
           ·rw [if_neg c21] at H
            exact absurd H (by simp)
       ·rw [if_neg c12] at H
        have c12b0 : decide (0 ≤ x8_1) = false := decide_eq_false c12
        clear c12
        obtain rfl := oI H
        go_wp2
        go_ret
        exact ⟨_, by rfl, by exact sR <| HO_7.out, by exact sW HB.out⟩
    ·rw [if_neg c6] at H
     exact absurd H (by simp)
   ·rw [if_neg c5] at H
    exact absurd H (by simp)
  ·rw [if_neg c4] at H
   exact absurd H (by simp)
 ·rw [if_neg c3] at H
  exact absurd H (by simp)
@[reducible] def zA0x24 : Array Bool := #[false, false, false, false, false, false, false, false, false, false, false, false, false, false, false, false]
@[reducible] def zA1x24 : Array Bool := #[false, true, false, false, false, false, false, false, false, false, false, false, false, false, false, false]
@[reducible] def zA2x24 : Array Bool := #[true, true, false, false, false, false, false, false, false, false, false, false, false, false, false, false]
@[reducible] def zA3x24 : Array Bool := #[true, true, true, false, false, false, false, false, false, false, false, false, false, false, false, false]
@[reducible] def zA4x24 : Array Bool := #[true, true, true, true, false, false, false, false, false, false, false, false, false, false, false, false]
@[reducible] def zA5x24 : Array Bool := #[true, true, true, true, true, false, false, false, false, false, false, false, false, false, false, false]
@[reducible] def zA6x24 : Array Bool := #[true, true, true, true, true, true, false, false, false, false, false, false, false, false, false, false]
@[reducible] def zA7x24 : Array Bool := #[true, true, true, true, true, true, true, false, false, false, false, false, false, false, false, false]
@[reducible] def zA8x24 : Array Bool := #[true, true, true, true, true, true, true, false, true, false, false, false, false, false, false, false]
@[reducible] def zA9x24 : Array Bool := #[true, true, true, true, true, true, true, true, true, false, false, false, false, false, false, false]
@[reducible] def zA10x24 : Array Bool := #[true, true, true, true, true, true, true, true, true, true, false, false, false, false, false, false]
@[reducible] def zA11x24 : Array Bool := #[true, true, true, true, true, true, true, true, true, true, true, false, false, false, false, false]
@[reducible] def zA12x24 : Array Bool := #[true, true, true, true, true, true, true, true, true, true, true, true, false, false, false, false]
@[reducible] def zA13x24 : Array Bool := #[true, true, true, true, true, true, true, true, true, true, true, true, true, false, false, false]
@[reducible] def zA14x24 : Array Bool := #[true, true, true, true, true, true, true, true, true, true, true, true, true, true, false, false]
@[reducible] def zA15x24 : Array Bool := #[true, true, true, true, true, true, true, true, true, true, true, true, true, true, true, false]
@[reducible] def zA16x24 : Array Bool := #[true, true, true, true, true, true, true, true, true, true, true, true, true, true, true, true]
@[reducible] def zA17x24 : Array Bool := #[true, true, true, true, true, true, true, true, false, false, false, false, false, false, false, false]
/-! ### impl_freeAt_1: by hand -/
def impl_freeAt_1.f (l0 : List (S31)) (v i : Int) : Option Bool := if 0 ≤ i then (if i < (l0.length : Int) then some (!(((rd_T31 l0 i).f0 == 19) || ((rd_T31 l0 i).f0 == 20)) || ((rd_T31 l0 i).f2 != v)) else none) else none
theorem isQuantI (a b c d e f : Int) : impl_isQuant.f a b c d e f = some ((a == 19) || (a == 20)) := by
 unfold impl_isQuant.f
 by_cases h : a = 19
 ·rw [if_pos h]; simp [h]
 ·rw [if_neg h]; simp [h]
set_option maxHeartbeats 2000000 in
set_option maxRecDepth 100000 in
theorem impl_freeAt_1.calls (A0 : Option Addr) (c0 : Nat) (l0 : List (S31)) (v i : Int) (b : Bool) (g1 g2 : Nat) (w : World) (hr0 : Kd.C k31 w A0 l0.length l0) (hc0 : l0.length ≤ c0)
  (b1 : w.cell? ⟨g1, 0, none⟩ = some (.slice A0 l0.length c0)) (b2 : w.cell? ⟨g2, 0, none⟩ = some (.int .i64 v)) (h : impl_freeAt_1.f l0 v i = some b) :
  Calls Try.prog 111 #[.int .i64 i, .pointer (some ⟨g1, 0, none⟩), .pointer (some ⟨g2, 0, none⟩)] w fun e w' => e = .returned (.bool b) ∧ Below w.heap.size w w' := by
 unfold impl_freeAt_1.f at h
 by_cases p1 : 0 ≤ i
 ·rw [if_pos p1] at h
  by_cases p2 : i < (l0.length : Int)
  ·rw [if_pos p2] at h
   replace h := oI h
   obtain ⟨ad0, e0, y0, y1, y2, y3, y4, y5⟩ := at_T31 hr0 i p1 p2
   cases e0
   have HR0 := am hr0
   have HC0 := am hc0
   clear hr0 hc0
   generalize (rd_T31 l0 i).f0 = op at *
   generalize (rd_T31 l0 i).f1 = W at *
   generalize (rd_T31 l0 i).f2 = Kq at *
   generalize (rd_T31 l0 i).f3 = A at *
   generalize (rd_T31 l0 i).f4 = B at *
   generalize (rd_T31 l0 i).f5 = Cq at *
   obtain ⟨q, hq⟩ : ∃ q : Bool, ((op == 19) || (op == 20)) = q := ⟨_, rfl⟩
   rw [hq] at h
   have HQ := am hq
   clear hq
   have H := am h
   clear h
   have t1 : decide (0 ≤ i) = true := decide_eq_true p1
   have t2 : decide (i < (l0.length : Int)) = true := decide_eq_true p2
   cases q with
   | true =>
    go_enter Try.func111, Try.ntmps111
    go_wp2
    refine start_ (n := 16) (S := fun w' => w'.cell? ⟨g1, 0, none⟩ = some (.slice (some ad0) l0.length c0) ∧ w'.cell? ⟨g2, 0, none⟩ = some (.int .i64 v) ∧ w'.cell? (ad0.add (i.toNat * 6)) = some (.int .i64 op) ∧ w'.cell? ⟨(ad0.add (i.toNat * 6)).block, (ad0.add (i.toNat * 6)).off + 1, none⟩ = some (.int .i64 W) ∧ w'.cell? ⟨(ad0.add (i.toNat * 6)).block, (ad0.add (i.toNat * 6)).off + 2, none⟩ = some (.int .i64 Kq) ∧ w'.cell? ⟨(ad0.add (i.toNat * 6)).block, (ad0.add (i.toNat * 6)).off + 3, none⟩ = some (.int .i64 A) ∧ w'.cell? ⟨(ad0.add (i.toNat * 6)).block, (ad0.add (i.toNat * 6)).off + 4, none⟩ = some (.int .i64 B) ∧ w'.cell? ⟨(ad0.add (i.toNat * 6)).block, (ad0.add (i.toNat * 6)).off + 5, none⟩ = some (.int .i64 Cq)) (ds := []) zA0x24 (by kernel_rfl) rfl rfl ⟨b1, b2, y0, y1, y2, y3, y4, y5⟩ (fun hHeld => ?_)
    refine pure_ (i := 1) (N := some 6) (v := ?_) (a' := ?_) zA1x24 rfl rfl (by kernel_rfl) (fun _ _ _ h => h) (Or.inl ⟨by rfl, ?_⟩) ?_ ?_; rotate_left; (intro w'; go_simp; with_reducible rfl); rotate_left; (simp only [Act.put, List.setIfInBounds_toArray, List.set_cons_zero, List.set_cons_succ, i64_w, i32_w]; rfl)
    refine take_ (i := 0) (N := some 5) (v := ?_) (a' := ?_) zA2x24 rfl rfl (by kernel_rfl) (fun _ _ _ h => h) (Or.inl ⟨by rfl, ?_⟩) hHeld ?_ ?_
    rotate_left
    ·rintro w' ⟨s0, s1, s2, s3, s4, s5, s6, s7⟩
     go_simp
     with_reducible rfl
    rotate_left
    ·simp only [Act.put, List.setIfInBounds_toArray, List.set_cons_zero, List.set_cons_succ, i64_w, i32_w]
     rfl
    refine pure_ (i := 2) (N := some 7) (v := ?_) (a' := ?_) zA3x24 rfl rfl (by kernel_rfl) (fun _ _ _ h => h) (Or.inl ⟨by rfl, ?_⟩) ?_ ?_; rotate_left; (intro w'; go_simp; with_reducible rfl); rotate_left; (simp only [Act.put, List.setIfInBounds_toArray, List.set_cons_zero, List.set_cons_succ, i64_w, i32_w]; rfl)
    refine take_ (i := 3) (N := some 8) (v := ?_) (a' := ?_) zA4x24 rfl rfl (by kernel_rfl) (fun _ _ _ h => h) (Or.inl ⟨by rfl, ?_⟩) hHeld ?_ ?_
    rotate_left
    ·rintro w' ⟨s0, s1, s2, s3, s4, s5, s6, s7⟩
     go_simp
     with_reducible rfl
    rotate_left
    ·simp only [Act.put, List.setIfInBounds_toArray, List.set_cons_zero, List.set_cons_succ, i64_w, i32_w]
     rfl
    refine one_ (i := 4) (N := some 9) zA5x24 rfl rfl (by kernel_rfl) (by decide) (fun K hK => ?_)
    refine goes_ Try.func53 (by kernel_rfl) rfl #[.agg #[.int .i64 op, .int .i64 W, .int .i64 Kq, .int .i64 A, .int .i64 B, .int .i64 Cq]] (by rfl) rfl rfl (by simp only [List.map_toArray, List.map_cons, List.map_nil]; rfl) ?_
    with_reducible refine (impl_isQuant.calls _ _ _ _ _ _ true _ (by rw [isQuantI, HQ.out])).mono ?_
    rintro e w3 ⟨rfl, hb⟩
    refine ⟨_, rfl, ?_⟩
    have HB3 := am (show Below w.heap.size w w3 from Below.trans (by apply below_drew1; exact Below.refl _ _) (hb.mono (by simp)))
    clear hb
    refine hK.out _ _ ⟨(pw_cell_below HB3.out b1), (pw_cell_below HB3.out b2), (pw_cell_below HB3.out y0), (pw_cell_below HB3.out y1), (pw_cell_below HB3.out y2), (pw_cell_below HB3.out y3), (pw_cell_below HB3.out y4), (pw_cell_below HB3.out y5)⟩ (fun hHeld => ?_)
    clear hK K
    refine norm_ (a' := ?_) ?_ ?_
    rotate_left
    ·show Act.put _ (some 9) _ = _
     simp only [Act.put, List.setIfInBounds_toArray, List.set_cons_zero, List.set_cons_succ, i64_w, i32_w]
     rfl
    refine pure_ (i := 5) (N := some 10) (v := ?_) (a' := ?_) zA6x24 rfl rfl (by kernel_rfl) (fun _ _ _ h => h) (Or.inl ⟨by rfl, ?_⟩) ?_ ?_; rotate_left; (intro w'; go_simp; with_reducible rfl); rotate_left; (simp only [Act.put, List.setIfInBounds_toArray, List.set_cons_zero, List.set_cons_succ, i64_w, i32_w]; rfl)
    refine pure_ (i := 6) (N := some 11) (v := ?_) (a' := ?_) zA7x24 rfl rfl (by kernel_rfl) (fun _ _ _ h => h) (Or.inl ⟨by rfl, ?_⟩) ?_ ?_; rotate_left; (intro w'; go_simp; with_reducible rfl); rotate_left; (simp only [Act.put, List.setIfInBounds_toArray, List.set_cons_zero, List.set_cons_succ, i64_w, i32_w]; rfl)
    refine pure_ (i := 8) (N := some 13) (v := ?_) (a' := ?_) zA8x24 rfl rfl (by kernel_rfl) (fun _ _ _ h => h) (Or.inl ⟨by rfl, ?_⟩) ?_ ?_; rotate_left; (intro w'; go_simp; with_reducible rfl); rotate_left; (simp only [Act.put, List.setIfInBounds_toArray, List.set_cons_zero, List.set_cons_succ, i64_w, i32_w]; rfl)
    refine take_ (i := 7) (N := some 12) (v := ?_) (a' := ?_) zA9x24 rfl rfl (by kernel_rfl) (fun _ _ _ h => h) (Or.inl ⟨by rfl, ?_⟩) hHeld ?_ ?_
    rotate_left
    ·rintro w' ⟨s0, s1, s2, s3, s4, s5, s6, s7⟩
     go_simp
     with_reducible rfl
    rotate_left
    ·simp only [Act.put, List.setIfInBounds_toArray, List.set_cons_zero, List.set_cons_succ, i64_w, i32_w]
     rfl
    refine pure_ (i := 9) (N := some 14) (v := ?_) (a' := ?_) zA10x24 rfl rfl (by kernel_rfl) (fun _ _ _ h => h) (Or.inl ⟨by rfl, ?_⟩) ?_ ?_; rotate_left; (intro w'; go_simp; with_reducible rfl); rotate_left; (simp only [Act.put, List.setIfInBounds_toArray, List.set_cons_zero, List.set_cons_succ, i64_w, i32_w]; rfl)
    refine pure_ (i := 10) (N := some 15) (v := ?_) (a' := ?_) zA11x24 rfl rfl (by kernel_rfl) (fun _ _ _ h => h) (Or.inl ⟨by rfl, ?_⟩) ?_ ?_; rotate_left; (intro w'; go_simp; with_reducible rfl); rotate_left; (simp only [Act.put, List.setIfInBounds_toArray, List.set_cons_zero, List.set_cons_succ, i64_w, i32_w]; rfl)
    refine take_ (i := 11) (N := some 16) (v := ?_) (a' := ?_) zA12x24 rfl rfl (by kernel_rfl) (fun _ _ _ h => h) (Or.inl ⟨by rfl, ?_⟩) hHeld ?_ ?_
    rotate_left
    ·rintro w' ⟨s0, s1, s2, s3, s4, s5, s6, s7⟩
     go_simp
     with_reducible rfl
    rotate_left
    ·simp only [Act.put, List.setIfInBounds_toArray, List.set_cons_zero, List.set_cons_succ, i64_w, i32_w]
     rfl
    refine take_ (i := 12) (N := some 17) (v := ?_) (a' := ?_) zA13x24 rfl rfl (by kernel_rfl) (fun _ _ _ h => h) (Or.inl ⟨by rfl, ?_⟩) hHeld ?_ ?_
    rotate_left
    ·rintro w' ⟨s0, s1, s2, s3, s4, s5, s6, s7⟩
     go_simp
     with_reducible rfl
    rotate_left
    ·simp only [Act.put, List.setIfInBounds_toArray, List.set_cons_zero, List.set_cons_succ, i64_w, i32_w]
     rfl
    refine pure_ (i := 13) (N := some 18) (v := ?_) (a' := ?_) zA14x24 rfl rfl (by kernel_rfl) (fun _ _ _ h => h) (Or.inl ⟨by rfl, ?_⟩) ?_ ?_; rotate_left; (intro w'; go_simp; with_reducible rfl); rotate_left; (simp only [Act.put, List.setIfInBounds_toArray, List.set_cons_zero, List.set_cons_succ, i64_w, i32_w]; rfl)
    refine pure_ (i := 14) (N := some 19) (v := ?_) (a' := ?_) zA15x24 rfl rfl (by kernel_rfl) (fun _ _ _ h => h) (Or.inl ⟨by rfl, ?_⟩) ?_ ?_; rotate_left; (intro w'; go_simp; with_reducible rfl); rotate_left; (simp only [Act.put, List.setIfInBounds_toArray, List.set_cons_zero, List.set_cons_succ, i64_w, i32_w]; rfl)
    refine pure_ (i := 15) (N := some 4) (v := ?_) (a' := ?_) zA16x24 rfl rfl (by kernel_rfl) (fun _ _ _ h => h) (Or.inl ⟨by rfl, ?_⟩) ?_ ?_; rotate_left; (intro w'; go_simp; with_reducible rfl); rotate_left; (simp only [Act.put, List.setIfInBounds_toArray, List.set_cons_zero, List.set_cons_succ, i64_w, i32_w]; rfl)
    refine done_ (by kernel_rfl) ?_

    go_wp2
    go_ret
    exact ⟨by rw [← H.out] <;> rfl, HB3.out⟩
   | false =>
    go_enter Try.func111, Try.ntmps111
    go_wp2
    refine start_ (n := 16) (S := fun w' => w'.cell? ⟨g1, 0, none⟩ = some (.slice (some ad0) l0.length c0) ∧ w'.cell? ⟨g2, 0, none⟩ = some (.int .i64 v) ∧ w'.cell? (ad0.add (i.toNat * 6)) = some (.int .i64 op) ∧ w'.cell? ⟨(ad0.add (i.toNat * 6)).block, (ad0.add (i.toNat * 6)).off + 1, none⟩ = some (.int .i64 W) ∧ w'.cell? ⟨(ad0.add (i.toNat * 6)).block, (ad0.add (i.toNat * 6)).off + 2, none⟩ = some (.int .i64 Kq) ∧ w'.cell? ⟨(ad0.add (i.toNat * 6)).block, (ad0.add (i.toNat * 6)).off + 3, none⟩ = some (.int .i64 A) ∧ w'.cell? ⟨(ad0.add (i.toNat * 6)).block, (ad0.add (i.toNat * 6)).off + 4, none⟩ = some (.int .i64 B) ∧ w'.cell? ⟨(ad0.add (i.toNat * 6)).block, (ad0.add (i.toNat * 6)).off + 5, none⟩ = some (.int .i64 Cq)) (ds := []) zA0x24 (by kernel_rfl) rfl rfl ⟨b1, b2, y0, y1, y2, y3, y4, y5⟩ (fun hHeld => ?_)
    refine pure_ (i := 1) (N := some 6) (v := ?_) (a' := ?_) zA1x24 rfl rfl (by kernel_rfl) (fun _ _ _ h => h) (Or.inl ⟨by rfl, ?_⟩) ?_ ?_; rotate_left; (intro w'; go_simp; with_reducible rfl); rotate_left; (simp only [Act.put, List.setIfInBounds_toArray, List.set_cons_zero, List.set_cons_succ, i64_w, i32_w]; rfl)
    refine take_ (i := 0) (N := some 5) (v := ?_) (a' := ?_) zA2x24 rfl rfl (by kernel_rfl) (fun _ _ _ h => h) (Or.inl ⟨by rfl, ?_⟩) hHeld ?_ ?_
    rotate_left
    ·rintro w' ⟨s0, s1, s2, s3, s4, s5, s6, s7⟩
     go_simp
     with_reducible rfl
    rotate_left
    ·simp only [Act.put, List.setIfInBounds_toArray, List.set_cons_zero, List.set_cons_succ, i64_w, i32_w]
     rfl
    refine pure_ (i := 2) (N := some 7) (v := ?_) (a' := ?_) zA3x24 rfl rfl (by kernel_rfl) (fun _ _ _ h => h) (Or.inl ⟨by rfl, ?_⟩) ?_ ?_; rotate_left; (intro w'; go_simp; with_reducible rfl); rotate_left; (simp only [Act.put, List.setIfInBounds_toArray, List.set_cons_zero, List.set_cons_succ, i64_w, i32_w]; rfl)
    refine take_ (i := 3) (N := some 8) (v := ?_) (a' := ?_) zA4x24 rfl rfl (by kernel_rfl) (fun _ _ _ h => h) (Or.inl ⟨by rfl, ?_⟩) hHeld ?_ ?_
    rotate_left
    ·rintro w' ⟨s0, s1, s2, s3, s4, s5, s6, s7⟩
     go_simp
     with_reducible rfl
    rotate_left
    ·simp only [Act.put, List.setIfInBounds_toArray, List.set_cons_zero, List.set_cons_succ, i64_w, i32_w]
     rfl
    refine one_ (i := 4) (N := some 9) zA5x24 rfl rfl (by kernel_rfl) (by decide) (fun K hK => ?_)
    refine goes_ Try.func53 (by kernel_rfl) rfl #[.agg #[.int .i64 op, .int .i64 W, .int .i64 Kq, .int .i64 A, .int .i64 B, .int .i64 Cq]] (by rfl) rfl rfl (by simp only [List.map_toArray, List.map_cons, List.map_nil]; rfl) ?_
    with_reducible refine (impl_isQuant.calls _ _ _ _ _ _ false _ (by rw [isQuantI, HQ.out])).mono ?_
    rintro e w3 ⟨rfl, hb⟩
    refine ⟨_, rfl, ?_⟩
    have HB3 := am (show Below w.heap.size w w3 from Below.trans (by apply below_drew1; exact Below.refl _ _) (hb.mono (by simp)))
    clear hb
    refine hK.out _ _ ⟨(pw_cell_below HB3.out b1), (pw_cell_below HB3.out b2), (pw_cell_below HB3.out y0), (pw_cell_below HB3.out y1), (pw_cell_below HB3.out y2), (pw_cell_below HB3.out y3), (pw_cell_below HB3.out y4), (pw_cell_below HB3.out y5)⟩ (fun hHeld => ?_)
    clear hK K
    refine norm_ (a' := ?_) ?_ ?_
    rotate_left
    ·show Act.put _ (some 9) _ = _
     simp only [Act.put, List.setIfInBounds_toArray, List.set_cons_zero, List.set_cons_succ, i64_w, i32_w]
     rfl
    refine pure_ (i := 5) (N := some 10) (v := ?_) (a' := ?_) zA6x24 rfl rfl (by kernel_rfl) (fun _ _ _ h => h) (Or.inl ⟨by rfl, ?_⟩) ?_ ?_; rotate_left; (intro w'; go_simp; with_reducible rfl); rotate_left; (simp only [Act.put, List.setIfInBounds_toArray, List.set_cons_zero, List.set_cons_succ, i64_w, i32_w]; rfl)
    refine pure_ (i := 6) (N := some 11) (v := ?_) (a' := ?_) zA7x24 rfl rfl (by kernel_rfl) (fun _ _ _ h => h) (Or.inl ⟨by rfl, ?_⟩) ?_ ?_; rotate_left; (intro w'; go_simp; with_reducible rfl); rotate_left; (simp only [Act.put, List.setIfInBounds_toArray, List.set_cons_zero, List.set_cons_succ, i64_w, i32_w]; rfl)
    refine pure_ (i := 7) (N := some 12) (v := undef) (a' := ?_) zA17x24 rfl rfl (by kernel_rfl) (fun _ _ _ h => h) (Or.inr ⟨by rfl, rfl⟩) ?_ ?_
    rotate_left
    ·simp only [Act.put, List.setIfInBounds_toArray, List.set_cons_zero, List.set_cons_succ, i64_w, i32_w]
     rfl
    refine pure_ (i := 8) (N := some 13) (v := undef) (a' := ?_) zA9x24 rfl rfl (by kernel_rfl) (fun _ _ _ h => h) (Or.inr ⟨by rfl, rfl⟩) ?_ ?_
    rotate_left
    ·simp only [Act.put, List.setIfInBounds_toArray, List.set_cons_zero, List.set_cons_succ, i64_w, i32_w]
     rfl
    refine pure_ (i := 9) (N := some 14) (v := undef) (a' := ?_) zA10x24 rfl rfl (by kernel_rfl) (fun _ _ _ h => h) (Or.inr ⟨by rfl, rfl⟩) ?_ ?_
    rotate_left
    ·simp only [Act.put, List.setIfInBounds_toArray, List.set_cons_zero, List.set_cons_succ, i64_w, i32_w]
     rfl
    refine pure_ (i := 10) (N := some 15) (v := undef) (a' := ?_) zA11x24 rfl rfl (by kernel_rfl) (fun _ _ _ h => h) (Or.inr ⟨by rfl, rfl⟩) ?_ ?_
    rotate_left
    ·simp only [Act.put, List.setIfInBounds_toArray, List.set_cons_zero, List.set_cons_succ, i64_w, i32_w]
     rfl
    refine pure_ (i := 11) (N := some 16) (v := undef) (a' := ?_) zA12x24 rfl rfl (by kernel_rfl) (fun _ _ _ h => h) (Or.inr ⟨by rfl, rfl⟩) ?_ ?_
    rotate_left
    ·simp only [Act.put, List.setIfInBounds_toArray, List.set_cons_zero, List.set_cons_succ, i64_w, i32_w]
     rfl
    refine pure_ (i := 12) (N := some 17) (v := undef) (a' := ?_) zA13x24 rfl rfl (by kernel_rfl) (fun _ _ _ h => h) (Or.inr ⟨by rfl, rfl⟩) ?_ ?_
    rotate_left
    ·simp only [Act.put, List.setIfInBounds_toArray, List.set_cons_zero, List.set_cons_succ, i64_w, i32_w]
     rfl
    refine pure_ (i := 13) (N := some 18) (v := undef) (a' := ?_) zA14x24 rfl rfl (by kernel_rfl) (fun _ _ _ h => h) (Or.inr ⟨by rfl, rfl⟩) ?_ ?_
    rotate_left
    ·simp only [Act.put, List.setIfInBounds_toArray, List.set_cons_zero, List.set_cons_succ, i64_w, i32_w]
     rfl
    refine pure_ (i := 14) (N := some 19) (v := ?_) (a' := ?_) zA15x24 rfl rfl (by kernel_rfl) (fun _ _ _ h => h) (Or.inl ⟨by rfl, ?_⟩) ?_ ?_; rotate_left; (intro w'; go_simp; with_reducible rfl); rotate_left; (simp only [Act.put, List.setIfInBounds_toArray, List.set_cons_zero, List.set_cons_succ, i64_w, i32_w]; rfl)
    refine pure_ (i := 15) (N := some 4) (v := ?_) (a' := ?_) zA16x24 rfl rfl (by kernel_rfl) (fun _ _ _ h => h) (Or.inl ⟨by rfl, ?_⟩) ?_ ?_; rotate_left; (intro w'; go_simp; with_reducible rfl); rotate_left; (simp only [Act.put, List.setIfInBounds_toArray, List.set_cons_zero, List.set_cons_succ, i64_w, i32_w]; rfl)
    refine done_ (by kernel_rfl) ?_

    go_wp2
    go_ret
    exact ⟨by rw [← H.out] <;> rfl, HB3.out⟩
  ·rw [if_neg p2] at h; exact absurd h (by simp)
 ·rw [if_neg p1] at h; exact absurd h (by simp)
/-! ### impl_freeAt: by hand -/
def impl_freeAt.f (k : Nat) (l0 : List (S31)) (a1 : Int) : Option (List Bool) := impl_reach.f (impl_freeAt_1.f l0 a1) k l0 (wrap64 ((l0.length : Int) - 1))
set_option maxHeartbeats 2000000 in
set_option maxRecDepth 100000 in
theorem impl_freeAt.calls (k : Nat) (A0 : Option Addr) (c0 : Nat) (l0 : List (S31)) (a1 : Int) (r : List Bool) (w : World) (hr0 : Kd.C k31 w A0 l0.length l0) (hc0 : l0.length ≤ c0) (h : impl_freeAt.f k l0 a1 = some r) :
  Calls Try.prog 74 #[.slice A0 l0.length c0, .int .i64 a1] w fun e w' => ∃ v0_ : Value, e = .returned (v0_) ∧ Kd.R Kd.bool 4 w' w.heap.size (fun _ => True) v0_ r ∧ Below w.heap.size w w' := by
 have HR0 := am hr0
 have HC0 := am hc0
 have H := am h
 clear hr0 hc0 h
 have hmf : ∀ (fn : Fn) (first cap : Array Value) (w : World), (Instr.makeFunc fn first cap).run Try.prog w = .ok (.func fn first cap) w := fun _ _ _ _ => rfl
 go_enter Try.func74, Try.ntmps74
 go_wp2_with fail
 have hb0 : Below w.heap.size w ((w.alloc (Obj.cells #[Value.slice A0 l0.length c0] 24)).alloc (Obj.cells #[Value.int IntKind.i64 a1] 3)) := below_alloc (below_alloc (Below.refl _ _) _) _
 have h1 : ((w.alloc (Obj.cells #[Value.slice A0 l0.length c0] 24)).alloc (Obj.cells #[Value.int IntKind.i64 a1] 3)).heap[w.heap.size]? = some (Obj.cells #[Value.slice A0 l0.length c0] 24) := blk_alloc (heap_alloc_new w _) _
 have h2 : ((w.alloc (Obj.cells #[Value.slice A0 l0.length c0] 24)).alloc (Obj.cells #[Value.int IntKind.i64 a1] 3)).heap[w.heap.size + 1]? = some (Obj.cells #[Value.int IntKind.i64 a1] 3) := by
  have := heap_alloc_new (w.alloc (Obj.cells #[Value.slice A0 l0.length c0] 24)) (Obj.cells #[Value.int IntKind.i64 a1] 3)
  rwa [show (w.alloc (Obj.cells #[Value.slice A0 l0.length c0] 24)).heap.size = w.heap.size + 1 from by simp] at this
 have hC := Kd.C_alloc (Kd.C_alloc HR0.out (Obj.cells #[Value.slice A0 l0.length c0] 24)) (Obj.cells #[Value.int IntKind.i64 a1] 3)
 refine (impl_reach.calls 111 #[.pointer (some ⟨w.heap.size, 0, none⟩), .pointer (some ⟨w.heap.size + 1, 0, none⟩)] (impl_freeAt_1.f l0 a1) k A0 c0 l0 (wrap64 ((l0.length : Int) - 1)) r _ hC HC0.out (fun _ _ => rfl) ?hp H.out).mono ?_
 case hp =>
  intro W i b hW hb
  exact impl_freeAt_1.calls A0 c0 l0 a1 i b w.heap.size (w.heap.size + 1) W (Kd.C_below hC hW) HC0.out ((blk_cell (blk_below h1 hW) 0).trans rfl) ((blk_cell (blk_below h2 hW) 0).trans rfl) hb
 rintro e w' ⟨v0, rfl, HO, hb⟩
 have HO2 := am (Kd.R_lower HO (below_size hb0))
 have HB2 := am (hb0.trans (hb.mono (below_size hb0)))
 clear HO hb h1 h2 hC hb0
 go_wp2
 go_ret
 exact ⟨v0, rfl, HO2.out, HB2.out⟩
/-! ### impl_reached: function 75 -/
def impl_reached.f (k : Nat) (l0 : List (S31)) : Option (List Bool) := (impl_reach.f impl_reached_1.f k l0 (wrap64 ((l0.length : Int) - 1))).bind fun t365 => (some t365)
set_option maxHeartbeats 8000000 in
set_option maxRecDepth 100000 in
theorem impl_reached.calls (k : Nat) (A0 : Option Addr) (c0 : Nat) (l0 : List (S31)) (r : List Bool) (w : World) (hr0 : Kd.C k31 w A0 l0.length l0) (hc0 : l0.length ≤ c0) (h : impl_reached.f k l0 = some r) :
  Calls Try.prog 75 #[.slice A0 l0.length c0] w fun e w' => ∃ v0_ : Value, e = .returned (v0_) ∧ Kd.R Kd.bool 4 w' w.heap.size (fun _ => True) v0_ r ∧ Below w.heap.size w w' := by
 have HR0 := am hr0
 have HC0 := am hc0
 clear hr0 hc0
 have HB := am (Below.refl w.heap.size w)
 have H : ((impl_reach.f impl_reached_1.f k l0 (wrap64 ((l0.length : Int) - 1))).bind fun t365 => (some t365)) = some r := h
 clear h
 replace H := oB H
 obtain ⟨t365, A20, H⟩ := H
 have A2 := am A20
 clear A20
 obtain rfl := oI H
 go_enter Try.func75, Try.ntmps75
 go_wp2_with (first | ((with_reducible refine gate_callee (f := 76) rfl ?_); refine goesL_ (some 7) rfl rfl Try.func76 (by kernel_rfl) rfl #[.slice A0 l0.length c0, .int .i64 (wrap64 ((l0.length : Int) - 1)), .func (.func 112) #[] #[]] rfl tm ?_; (with_reducible refine (impl_reach.calls 112 #[] impl_reached_1.f k _ _ l0 (wrap64 ((l0.length : Int) - 1)) t365 _ ?side1 ?side2 ?eg ?hp A2.out).mono ?_); (case eg => exact fun _ _ => rfl); (case hp => intro W i b _ h_; refine (impl_reached_1.calls i b W h_).mono ?_; exact fun _ _ h => h); (case side1 => repeat (first | exact HR0.out | (with_reducible refine Kd.C_alloc ?_ _) | (with_reducible refine Kd.C_drewN ?_ _) | (with_reducible refine Kd.C_drew ?_))); (case side2 => exact HC0.out); rintro e w3 ⟨v366, rfl, ho0, hb⟩; refine ⟨_, rfl, ?_⟩; have n0_ := am (Kd.R_lower ho0 (below_size (by exact sW HB.out))); have n1_ := am (below_step (by exact sW HB.out) hb); clear HB; have HO367 := n0_; have HB := n1_; clear n0_ n1_; (try clear hb); (try clear hb2); (try clear hk); (try clear hi); (try clear ho0)))
 go_ret
 exact ⟨_, by rfl, by exact sR <| HO367.out, by exact sW HB.out⟩
/-! ### impl_suits_1: by hand -/
def impl_suits_1.f (l0 : List (S31)) (v i : Int) : Option Bool := if 0 ≤ i then (if i < (l0.length : Int) then some (!(((rd_T31 l0 i).f0 == 19) || ((rd_T31 l0 i).f0 == 20)) || ((rd_T31 l0 i).f2 != v)) else none) else none
set_option maxHeartbeats 2000000 in
set_option maxRecDepth 100000 in
theorem impl_suits_1.calls (A0 : Option Addr) (c0 : Nat) (l0 : List (S31)) (v i : Int) (b : Bool) (g1 g2 : Nat) (w : World) (hr0 : Kd.C k31 w A0 l0.length l0) (hc0 : l0.length ≤ c0)
    (b1 : w.cell? ⟨g1, 0, none⟩ = some (.slice A0 l0.length c0)) (b2 : w.cell? ⟨g2, 2, none⟩ = some (.int .i64 v)) (h : impl_suits_1.f l0 v i = some b) :
    Calls Try.prog 77 #[.int .i64 i, .pointer (some ⟨g1, 0, none⟩), .pointer (some ⟨g2, 0, none⟩)] w fun e w' => e = .returned (.bool b) ∧ Below w.heap.size w w' := by
  unfold impl_suits_1.f at h
  by_cases p1 : 0 ≤ i
  · rw [if_pos p1] at h
    by_cases p2 : i < (l0.length : Int)
    · rw [if_pos p2] at h
      replace h := oI h
      obtain ⟨ad0, e0, y0, y1, y2, y3, y4, y5⟩ := at_T31 hr0 i p1 p2
      cases e0
      have HR0 := am hr0
      have HC0 := am hc0
      clear hr0 hc0
      generalize (rd_T31 l0 i).f0 = op at *
      generalize (rd_T31 l0 i).f1 = W at *
      generalize (rd_T31 l0 i).f2 = Kq at *
      generalize (rd_T31 l0 i).f3 = A at *
      generalize (rd_T31 l0 i).f4 = B at *
      generalize (rd_T31 l0 i).f5 = Cq at *
      obtain ⟨q, hq⟩ : ∃ q : Bool, ((op == 19) || (op == 20)) = q := ⟨_, rfl⟩
      rw [hq] at h
      have HQ := am hq
      clear hq
      have H := am h
      clear h
      have t1 : decide (0 ≤ i) = true := decide_eq_true p1
      have t2 : decide (i < (l0.length : Int)) = true := decide_eq_true p2
      cases q with
      | true =>
        go_enter Try.func77, Try.ntmps77
        go_wp2
        refine start_ (n := 17) (S := fun w' => w'.cell? ⟨g1, 0, none⟩ = some (.slice (some ad0) l0.length c0) ∧ w'.cell? ⟨g2, 2, none⟩ = some (.int .i64 v) ∧ w'.cell? (ad0.add (i.toNat * 6)) = some (.int .i64 op) ∧ w'.cell? ⟨(ad0.add (i.toNat * 6)).block, (ad0.add (i.toNat * 6)).off + 1, none⟩ = some (.int .i64 W) ∧ w'.cell? ⟨(ad0.add (i.toNat * 6)).block, (ad0.add (i.toNat * 6)).off + 2, none⟩ = some (.int .i64 Kq) ∧ w'.cell? ⟨(ad0.add (i.toNat * 6)).block, (ad0.add (i.toNat * 6)).off + 3, none⟩ = some (.int .i64 A) ∧ w'.cell? ⟨(ad0.add (i.toNat * 6)).block, (ad0.add (i.toNat * 6)).off + 4, none⟩ = some (.int .i64 B) ∧ w'.cell? ⟨(ad0.add (i.toNat * 6)).block, (ad0.add (i.toNat * 6)).off + 5, none⟩ = some (.int .i64 Cq)) (ds := []) #[false, false, false, false, false, false, false, false, false, false, false, false, false, false, false, false, false] (by kernel_rfl) rfl rfl ⟨b1, b2, y0, y1, y2, y3, y4, y5⟩ (fun hHeld => ?_)
        refine pure_ (i := 1) (N := some 6) (v := ?_) (a' := ?_) #[false, true, false, false, false, false, false, false, false, false, false, false, false, false, false, false, false] rfl rfl (by kernel_rfl) (fun _ _ _ h => h) (Or.inl ⟨by rfl, ?_⟩) ?_ ?_
        rotate_left
        · intro w'
          go_simp
          with_reducible rfl
        rotate_left
        · simp only [Act.put, List.setIfInBounds_toArray, List.set_cons_zero, List.set_cons_succ, i64_w, i32_w]
          rfl
        refine take_ (i := 0) (N := some 5) (v := ?_) (a' := ?_) #[true, true, false, false, false, false, false, false, false, false, false, false, false, false, false, false, false] rfl rfl (by kernel_rfl) (fun _ _ _ h => h) (Or.inl ⟨by rfl, ?_⟩) hHeld ?_ ?_
        rotate_left
        · rintro w' ⟨s0, s1, s2, s3, s4, s5, s6, s7⟩
          go_simp
          with_reducible rfl
        rotate_left
        · simp only [Act.put, List.setIfInBounds_toArray, List.set_cons_zero, List.set_cons_succ, i64_w, i32_w]
          rfl
        refine pure_ (i := 2) (N := some 7) (v := ?_) (a' := ?_) #[true, true, true, false, false, false, false, false, false, false, false, false, false, false, false, false, false] rfl rfl (by kernel_rfl) (fun _ _ _ h => h) (Or.inl ⟨by rfl, ?_⟩) ?_ ?_
        rotate_left
        · intro w'
          go_simp
          with_reducible rfl
        rotate_left
        · simp only [Act.put, List.setIfInBounds_toArray, List.set_cons_zero, List.set_cons_succ, i64_w, i32_w]
          rfl
        refine take_ (i := 3) (N := some 8) (v := ?_) (a' := ?_) #[true, true, true, true, false, false, false, false, false, false, false, false, false, false, false, false, false] rfl rfl (by kernel_rfl) (fun _ _ _ h => h) (Or.inl ⟨by rfl, ?_⟩) hHeld ?_ ?_
        rotate_left
        · rintro w' ⟨s0, s1, s2, s3, s4, s5, s6, s7⟩
          go_simp
          with_reducible rfl
        rotate_left
        · simp only [Act.put, List.setIfInBounds_toArray, List.set_cons_zero, List.set_cons_succ, i64_w, i32_w]
          rfl
        refine one_ (i := 4) (N := some 9) #[true, true, true, true, true, false, false, false, false, false, false, false, false, false, false, false, false] rfl rfl (by kernel_rfl) (by decide) (fun K hK => ?_)
        refine goes_ Try.func53 (by kernel_rfl) rfl #[.agg #[.int .i64 op, .int .i64 W, .int .i64 Kq, .int .i64 A, .int .i64 B, .int .i64 Cq]] (by rfl) rfl rfl (by simp only [List.map_toArray, List.map_cons, List.map_nil]; rfl) ?_
        with_reducible refine (impl_isQuant.calls _ _ _ _ _ _ true _ (by rw [isQuantI, HQ.out])).mono ?_
        rintro e w3 ⟨rfl, hb⟩
        refine ⟨_, rfl, ?_⟩
        have HB3 := am (show Below w.heap.size w w3 from Below.trans (by apply below_drew1; exact Below.refl _ _) (hb.mono (by simp)))
        clear hb
        refine hK.out _ _ ⟨((HB3.out.cell (World.block_lt_of_cell? w _ b1)).trans b1), ((HB3.out.cell (World.block_lt_of_cell? w _ b2)).trans b2), ((HB3.out.cell (World.block_lt_of_cell? w _ y0)).trans y0), ((HB3.out.cell (World.block_lt_of_cell? w _ y1)).trans y1), ((HB3.out.cell (World.block_lt_of_cell? w _ y2)).trans y2), ((HB3.out.cell (World.block_lt_of_cell? w _ y3)).trans y3), ((HB3.out.cell (World.block_lt_of_cell? w _ y4)).trans y4), ((HB3.out.cell (World.block_lt_of_cell? w _ y5)).trans y5)⟩ (fun hHeld => ?_)
        clear hK K
        refine norm_ (a' := ?_) ?_ ?_
        rotate_left
        · show Act.put _ (some 9) _ = _
          simp only [Act.put, List.setIfInBounds_toArray, List.set_cons_zero, List.set_cons_succ, i64_w, i32_w]
          rfl
        refine pure_ (i := 5) (N := some 10) (v := ?_) (a' := ?_) #[true, true, true, true, true, true, false, false, false, false, false, false, false, false, false, false, false] rfl rfl (by kernel_rfl) (fun _ _ _ h => h) (Or.inl ⟨by rfl, ?_⟩) ?_ ?_
        rotate_left
        · intro w'
          go_simp
          with_reducible rfl
        rotate_left
        · simp only [Act.put, List.setIfInBounds_toArray, List.set_cons_zero, List.set_cons_succ, i64_w, i32_w]
          rfl
        refine pure_ (i := 6) (N := some 11) (v := ?_) (a' := ?_) #[true, true, true, true, true, true, true, false, false, false, false, false, false, false, false, false, false] rfl rfl (by kernel_rfl) (fun _ _ _ h => h) (Or.inl ⟨by rfl, ?_⟩) ?_ ?_
        rotate_left
        · intro w'
          go_simp
          with_reducible rfl
        rotate_left
        · simp only [Act.put, List.setIfInBounds_toArray, List.set_cons_zero, List.set_cons_succ, i64_w, i32_w]
          rfl
        refine pure_ (i := 8) (N := some 13) (v := ?_) (a' := ?_) #[true, true, true, true, true, true, true, false, true, false, false, false, false, false, false, false, false] rfl rfl (by kernel_rfl) (fun _ _ _ h => h) (Or.inl ⟨by rfl, ?_⟩) ?_ ?_
        rotate_left
        · intro w'
          go_simp
          with_reducible rfl
        rotate_left
        · simp only [Act.put, List.setIfInBounds_toArray, List.set_cons_zero, List.set_cons_succ, i64_w, i32_w]
          rfl
        refine pure_ (i := 12) (N := some 17) (v := ?_) (a' := ?_) #[true, true, true, true, true, true, true, false, true, false, false, false, true, false, false, false, false] rfl rfl (by kernel_rfl) (fun _ _ _ h => h) (Or.inl ⟨by rfl, ?_⟩) ?_ ?_
        rotate_left
        · intro w'
          go_simp
          with_reducible rfl
        rotate_left
        · simp only [Act.put, List.setIfInBounds_toArray, List.set_cons_zero, List.set_cons_succ, i64_w, i32_w]
          rfl
        refine take_ (i := 7) (N := some 12) (v := ?_) (a' := ?_) #[true, true, true, true, true, true, true, true, true, false, false, false, true, false, false, false, false] rfl rfl (by kernel_rfl) (fun _ _ _ h => h) (Or.inl ⟨by rfl, ?_⟩) hHeld ?_ ?_
        rotate_left
        · rintro w' ⟨s0, s1, s2, s3, s4, s5, s6, s7⟩
          go_simp
          with_reducible rfl
        rotate_left
        · simp only [Act.put, List.setIfInBounds_toArray, List.set_cons_zero, List.set_cons_succ, i64_w, i32_w]
          rfl
        refine pure_ (i := 9) (N := some 14) (v := ?_) (a' := ?_) #[true, true, true, true, true, true, true, true, true, true, false, false, true, false, false, false, false] rfl rfl (by kernel_rfl) (fun _ _ _ h => h) (Or.inl ⟨by rfl, ?_⟩) ?_ ?_
        rotate_left
        · intro w'
          go_simp
          with_reducible rfl
        rotate_left
        · simp only [Act.put, List.setIfInBounds_toArray, List.set_cons_zero, List.set_cons_succ, i64_w, i32_w]
          rfl
        refine pure_ (i := 10) (N := some 15) (v := ?_) (a' := ?_) #[true, true, true, true, true, true, true, true, true, true, true, false, true, false, false, false, false] rfl rfl (by kernel_rfl) (fun _ _ _ h => h) (Or.inl ⟨by rfl, ?_⟩) ?_ ?_
        rotate_left
        · intro w'
          go_simp
          with_reducible rfl
        rotate_left
        · simp only [Act.put, List.setIfInBounds_toArray, List.set_cons_zero, List.set_cons_succ, i64_w, i32_w]
          rfl
        refine take_ (i := 11) (N := some 16) (v := ?_) (a' := ?_) #[true, true, true, true, true, true, true, true, true, true, true, true, true, false, false, false, false] rfl rfl (by kernel_rfl) (fun _ _ _ h => h) (Or.inl ⟨by rfl, ?_⟩) hHeld ?_ ?_
        rotate_left
        · rintro w' ⟨s0, s1, s2, s3, s4, s5, s6, s7⟩
          go_simp
          with_reducible rfl
        rotate_left
        · simp only [Act.put, List.setIfInBounds_toArray, List.set_cons_zero, List.set_cons_succ, i64_w, i32_w]
          rfl
        refine take_ (i := 13) (N := some 18) (v := ?_) (a' := ?_) #[true, true, true, true, true, true, true, true, true, true, true, true, true, true, false, false, false] rfl rfl (by kernel_rfl) (fun _ _ _ h => h) (Or.inl ⟨by rfl, ?_⟩) hHeld ?_ ?_
        rotate_left
        · rintro w' ⟨s0, s1, s2, s3, s4, s5, s6, s7⟩
          go_simp
          with_reducible rfl
        rotate_left
        · simp only [Act.put, List.setIfInBounds_toArray, List.set_cons_zero, List.set_cons_succ, i64_w, i32_w]
          rfl
        refine pure_ (i := 14) (N := some 19) (v := ?_) (a' := ?_) #[true, true, true, true, true, true, true, true, true, true, true, true, true, true, true, false, false] rfl rfl (by kernel_rfl) (fun _ _ _ h => h) (Or.inl ⟨by rfl, ?_⟩) ?_ ?_
        rotate_left
        · intro w'
          go_simp
          with_reducible rfl
        rotate_left
        · simp only [Act.put, List.setIfInBounds_toArray, List.set_cons_zero, List.set_cons_succ, i64_w, i32_w]
          rfl
        refine pure_ (i := 15) (N := some 20) (v := ?_) (a' := ?_) #[true, true, true, true, true, true, true, true, true, true, true, true, true, true, true, true, false] rfl rfl (by kernel_rfl) (fun _ _ _ h => h) (Or.inl ⟨by rfl, ?_⟩) ?_ ?_
        rotate_left
        · intro w'
          go_simp
          with_reducible rfl
        rotate_left
        · simp only [Act.put, List.setIfInBounds_toArray, List.set_cons_zero, List.set_cons_succ, i64_w, i32_w]
          rfl
        refine pure_ (i := 16) (N := some 4) (v := ?_) (a' := ?_) #[true, true, true, true, true, true, true, true, true, true, true, true, true, true, true, true, true] rfl rfl (by kernel_rfl) (fun _ _ _ h => h) (Or.inl ⟨by rfl, ?_⟩) ?_ ?_
        rotate_left
        · intro w'
          go_simp
          with_reducible rfl
        rotate_left
        · simp only [Act.put, List.setIfInBounds_toArray, List.set_cons_zero, List.set_cons_succ, i64_w, i32_w]
          rfl
        refine done_ (by kernel_rfl) ?_

        go_wp2
        go_ret
        exact ⟨by rw [← H.out] <;> rfl, HB3.out⟩
      | false =>
        go_enter Try.func77, Try.ntmps77
        go_wp2
        refine start_ (n := 17) (S := fun w' => w'.cell? ⟨g1, 0, none⟩ = some (.slice (some ad0) l0.length c0) ∧ w'.cell? ⟨g2, 2, none⟩ = some (.int .i64 v) ∧ w'.cell? (ad0.add (i.toNat * 6)) = some (.int .i64 op) ∧ w'.cell? ⟨(ad0.add (i.toNat * 6)).block, (ad0.add (i.toNat * 6)).off + 1, none⟩ = some (.int .i64 W) ∧ w'.cell? ⟨(ad0.add (i.toNat * 6)).block, (ad0.add (i.toNat * 6)).off + 2, none⟩ = some (.int .i64 Kq) ∧ w'.cell? ⟨(ad0.add (i.toNat * 6)).block, (ad0.add (i.toNat * 6)).off + 3, none⟩ = some (.int .i64 A) ∧ w'.cell? ⟨(ad0.add (i.toNat * 6)).block, (ad0.add (i.toNat * 6)).off + 4, none⟩ = some (.int .i64 B) ∧ w'.cell? ⟨(ad0.add (i.toNat * 6)).block, (ad0.add (i.toNat * 6)).off + 5, none⟩ = some (.int .i64 Cq)) (ds := []) #[false, false, false, false, false, false, false, false, false, false, false, false, false, false, false, false, false] (by kernel_rfl) rfl rfl ⟨b1, b2, y0, y1, y2, y3, y4, y5⟩ (fun hHeld => ?_)
        refine pure_ (i := 1) (N := some 6) (v := ?_) (a' := ?_) #[false, true, false, false, false, false, false, false, false, false, false, false, false, false, false, false, false] rfl rfl (by kernel_rfl) (fun _ _ _ h => h) (Or.inl ⟨by rfl, ?_⟩) ?_ ?_
        rotate_left
        · intro w'
          go_simp
          with_reducible rfl
        rotate_left
        · simp only [Act.put, List.setIfInBounds_toArray, List.set_cons_zero, List.set_cons_succ, i64_w, i32_w]
          rfl
        refine take_ (i := 0) (N := some 5) (v := ?_) (a' := ?_) #[true, true, false, false, false, false, false, false, false, false, false, false, false, false, false, false, false] rfl rfl (by kernel_rfl) (fun _ _ _ h => h) (Or.inl ⟨by rfl, ?_⟩) hHeld ?_ ?_
        rotate_left
        · rintro w' ⟨s0, s1, s2, s3, s4, s5, s6, s7⟩
          go_simp
          with_reducible rfl
        rotate_left
        · simp only [Act.put, List.setIfInBounds_toArray, List.set_cons_zero, List.set_cons_succ, i64_w, i32_w]
          rfl
        refine pure_ (i := 2) (N := some 7) (v := ?_) (a' := ?_) #[true, true, true, false, false, false, false, false, false, false, false, false, false, false, false, false, false] rfl rfl (by kernel_rfl) (fun _ _ _ h => h) (Or.inl ⟨by rfl, ?_⟩) ?_ ?_
        rotate_left
        · intro w'
          go_simp
          with_reducible rfl
        rotate_left
        · simp only [Act.put, List.setIfInBounds_toArray, List.set_cons_zero, List.set_cons_succ, i64_w, i32_w]
          rfl
        refine take_ (i := 3) (N := some 8) (v := ?_) (a' := ?_) #[true, true, true, true, false, false, false, false, false, false, false, false, false, false, false, false, false] rfl rfl (by kernel_rfl) (fun _ _ _ h => h) (Or.inl ⟨by rfl, ?_⟩) hHeld ?_ ?_
        rotate_left
        · rintro w' ⟨s0, s1, s2, s3, s4, s5, s6, s7⟩
          go_simp
          with_reducible rfl
        rotate_left
        · simp only [Act.put, List.setIfInBounds_toArray, List.set_cons_zero, List.set_cons_succ, i64_w, i32_w]
          rfl
        refine one_ (i := 4) (N := some 9) #[true, true, true, true, true, false, false, false, false, false, false, false, false, false, false, false, false] rfl rfl (by kernel_rfl) (by decide) (fun K hK => ?_)
        refine goes_ Try.func53 (by kernel_rfl) rfl #[.agg #[.int .i64 op, .int .i64 W, .int .i64 Kq, .int .i64 A, .int .i64 B, .int .i64 Cq]] (by rfl) rfl rfl (by simp only [List.map_toArray, List.map_cons, List.map_nil]; rfl) ?_
        with_reducible refine (impl_isQuant.calls _ _ _ _ _ _ false _ (by rw [isQuantI, HQ.out])).mono ?_
        rintro e w3 ⟨rfl, hb⟩
        refine ⟨_, rfl, ?_⟩
        have HB3 := am (show Below w.heap.size w w3 from Below.trans (by apply below_drew1; exact Below.refl _ _) (hb.mono (by simp)))
        clear hb
        refine hK.out _ _ ⟨((HB3.out.cell (World.block_lt_of_cell? w _ b1)).trans b1), ((HB3.out.cell (World.block_lt_of_cell? w _ b2)).trans b2), ((HB3.out.cell (World.block_lt_of_cell? w _ y0)).trans y0), ((HB3.out.cell (World.block_lt_of_cell? w _ y1)).trans y1), ((HB3.out.cell (World.block_lt_of_cell? w _ y2)).trans y2), ((HB3.out.cell (World.block_lt_of_cell? w _ y3)).trans y3), ((HB3.out.cell (World.block_lt_of_cell? w _ y4)).trans y4), ((HB3.out.cell (World.block_lt_of_cell? w _ y5)).trans y5)⟩ (fun hHeld => ?_)
        clear hK K
        refine norm_ (a' := ?_) ?_ ?_
        rotate_left
        · show Act.put _ (some 9) _ = _
          simp only [Act.put, List.setIfInBounds_toArray, List.set_cons_zero, List.set_cons_succ, i64_w, i32_w]
          rfl
        refine pure_ (i := 5) (N := some 10) (v := ?_) (a' := ?_) #[true, true, true, true, true, true, false, false, false, false, false, false, false, false, false, false, false] rfl rfl (by kernel_rfl) (fun _ _ _ h => h) (Or.inl ⟨by rfl, ?_⟩) ?_ ?_
        rotate_left
        · intro w'
          go_simp
          with_reducible rfl
        rotate_left
        · simp only [Act.put, List.setIfInBounds_toArray, List.set_cons_zero, List.set_cons_succ, i64_w, i32_w]
          rfl
        refine pure_ (i := 6) (N := some 11) (v := ?_) (a' := ?_) #[true, true, true, true, true, true, true, false, false, false, false, false, false, false, false, false, false] rfl rfl (by kernel_rfl) (fun _ _ _ h => h) (Or.inl ⟨by rfl, ?_⟩) ?_ ?_
        rotate_left
        · intro w'
          go_simp
          with_reducible rfl
        rotate_left
        · simp only [Act.put, List.setIfInBounds_toArray, List.set_cons_zero, List.set_cons_succ, i64_w, i32_w]
          rfl
        refine pure_ (i := 7) (N := some 12) (v := undef) (a' := ?_) #[true, true, true, true, true, true, true, true, false, false, false, false, false, false, false, false, false] rfl rfl (by kernel_rfl) (fun _ _ _ h => h) (Or.inr ⟨by rfl, rfl⟩) ?_ ?_
        rotate_left
        · simp only [Act.put, List.setIfInBounds_toArray, List.set_cons_zero, List.set_cons_succ, i64_w, i32_w]
          rfl
        refine pure_ (i := 8) (N := some 13) (v := undef) (a' := ?_) #[true, true, true, true, true, true, true, true, true, false, false, false, false, false, false, false, false] rfl rfl (by kernel_rfl) (fun _ _ _ h => h) (Or.inr ⟨by rfl, rfl⟩) ?_ ?_
        rotate_left
        · simp only [Act.put, List.setIfInBounds_toArray, List.set_cons_zero, List.set_cons_succ, i64_w, i32_w]
          rfl
        refine pure_ (i := 9) (N := some 14) (v := undef) (a' := ?_) #[true, true, true, true, true, true, true, true, true, true, false, false, false, false, false, false, false] rfl rfl (by kernel_rfl) (fun _ _ _ h => h) (Or.inr ⟨by rfl, rfl⟩) ?_ ?_
        rotate_left
        · simp only [Act.put, List.setIfInBounds_toArray, List.set_cons_zero, List.set_cons_succ, i64_w, i32_w]
          rfl
        refine pure_ (i := 10) (N := some 15) (v := undef) (a' := ?_) #[true, true, true, true, true, true, true, true, true, true, true, false, false, false, false, false, false] rfl rfl (by kernel_rfl) (fun _ _ _ h => h) (Or.inr ⟨by rfl, rfl⟩) ?_ ?_
        rotate_left
        · simp only [Act.put, List.setIfInBounds_toArray, List.set_cons_zero, List.set_cons_succ, i64_w, i32_w]
          rfl
        refine pure_ (i := 11) (N := some 16) (v := undef) (a' := ?_) #[true, true, true, true, true, true, true, true, true, true, true, true, false, false, false, false, false] rfl rfl (by kernel_rfl) (fun _ _ _ h => h) (Or.inr ⟨by rfl, rfl⟩) ?_ ?_
        rotate_left
        · simp only [Act.put, List.setIfInBounds_toArray, List.set_cons_zero, List.set_cons_succ, i64_w, i32_w]
          rfl
        refine pure_ (i := 12) (N := some 17) (v := undef) (a' := ?_) #[true, true, true, true, true, true, true, true, true, true, true, true, true, false, false, false, false] rfl rfl (by kernel_rfl) (fun _ _ _ h => h) (Or.inr ⟨by rfl, rfl⟩) ?_ ?_
        rotate_left
        · simp only [Act.put, List.setIfInBounds_toArray, List.set_cons_zero, List.set_cons_succ, i64_w, i32_w]
          rfl
        refine pure_ (i := 13) (N := some 18) (v := undef) (a' := ?_) #[true, true, true, true, true, true, true, true, true, true, true, true, true, true, false, false, false] rfl rfl (by kernel_rfl) (fun _ _ _ h => h) (Or.inr ⟨by rfl, rfl⟩) ?_ ?_
        rotate_left
        · simp only [Act.put, List.setIfInBounds_toArray, List.set_cons_zero, List.set_cons_succ, i64_w, i32_w]
          rfl
        refine pure_ (i := 14) (N := some 19) (v := undef) (a' := ?_) #[true, true, true, true, true, true, true, true, true, true, true, true, true, true, true, false, false] rfl rfl (by kernel_rfl) (fun _ _ _ h => h) (Or.inr ⟨by rfl, rfl⟩) ?_ ?_
        rotate_left
        · simp only [Act.put, List.setIfInBounds_toArray, List.set_cons_zero, List.set_cons_succ, i64_w, i32_w]
          rfl
        refine pure_ (i := 15) (N := some 20) (v := ?_) (a' := ?_) #[true, true, true, true, true, true, true, true, true, true, true, true, true, true, true, true, false] rfl rfl (by kernel_rfl) (fun _ _ _ h => h) (Or.inl ⟨by rfl, ?_⟩) ?_ ?_
        rotate_left
        · intro w'
          go_simp
          with_reducible rfl
        rotate_left
        · simp only [Act.put, List.setIfInBounds_toArray, List.set_cons_zero, List.set_cons_succ, i64_w, i32_w]
          rfl
        refine pure_ (i := 16) (N := some 4) (v := ?_) (a' := ?_) #[true, true, true, true, true, true, true, true, true, true, true, true, true, true, true, true, true] rfl rfl (by kernel_rfl) (fun _ _ _ h => h) (Or.inl ⟨by rfl, ?_⟩) ?_ ?_
        rotate_left
        · intro w'
          go_simp
          with_reducible rfl
        rotate_left
        · simp only [Act.put, List.setIfInBounds_toArray, List.set_cons_zero, List.set_cons_succ, i64_w, i32_w]
          rfl
        refine done_ (by kernel_rfl) ?_

        go_wp2
        go_ret
        exact ⟨by rw [← H.out] <;> rfl, HB3.out⟩
    · rw [if_neg p2] at h; exact absurd h (by simp)
  · rw [if_neg p1] at h; exact absurd h (by simp)
/-! ### impl_valuer_blank: by hand -/
/-- A valuer's cells. -/
def vcells (A : Option Addr) (n c : Nat) (env : List Int) : Array Value := (Value.slice A n c :: env.map (Value.int .i64)).toArray
theorem vcells_0 (A : Option Addr) (n c : Nat) (env : List Int) : (vcells A n c env)[0]? = some (.slice A n c) := by simp [vcells]
theorem vcells_k (A : Option Addr) (n c : Nat) (env : List Int) (i : Nat) (h : i < env.length) : (vcells A n c env)[i + 1]? = some (.int .i64 (rd env (i : Int))) := by
 simp [vcells, rd, h, List.getD_eq_getElem?_getD]
theorem vcells_set (A : Option Addr) (n c : Nat) (env : List Int) (i : Nat) (x : Int) : (vcells A n c env).setIfInBounds (i + 1) (.int .i64 x) = vcells A n c (env.set i x) := by
 simp [vcells, List.map_set]
/-- What blank has made of the first places. -/
def blankS (n : Nat) (j : Nat) : List Int := List.replicate j (-1) ++ List.replicate (n - j) 0
theorem blankS_set (n j : Nat) (h : j < n) : (blankS n j).set j (-1) = blankS n (j + 1) := by
 unfold blankS
 rw [show n - j = (n - (j + 1)) + 1 by omega, List.replicate_succ, List.set_append_right _ _ (by simp), List.length_replicate, Nat.sub_self, List.set_cons_zero, List.replicate_succ', List.append_assoc]
 rfl
theorem blankS_len (n j : Nat) (h : j ≤ n) : (blankS n j).length = n := by simp [blankS]; omega
set_option maxHeartbeats 4000000 in
set_option maxRecDepth 100000 in
theorem impl_valuer_blank.calls (g : Nat) (A0 : Option Addr) (c0 : Nat) (l0 : List (S31)) (env : List Int) (w : World) (hb : w.heap[g]? = some (.cells (vcells A0 l0.length c0 env) 65 (0, 0))) (hl : 1 ≤ l0.length) (hm : l0.length ≤ 1048576) :
  Calls Try.prog 48 #[.pointer (some ⟨g, 0, none⟩)] w fun e w' => ∃ (hb9 ck : Nat), e = .returned (.slice (some ⟨hb9, 0, none⟩) l0.length ck) ∧ Kd.R (Kd.int .i64) 3 w' w.heap.size (fun k => k = hb9) (.slice (some ⟨hb9, 0, none⟩) l0.length ck) (List.replicate l0.length (-1)) ∧ Below w.heap.size w w' := by
 have hl0 : (l0.length : Int) ≤ 1048576 := by omega
 have hc3 : (0 : Int) ≤ (l0.length : Int) := by omega
 have d3 : decide (0 ≤ (l0.length : Int)) = true := decide_eq_true hc3
 have BK := am hb; have HL := am hl; have HM := am hm
 have x0 := (blk_cell hb 0).trans (vcells_0 _ _ _ _)
 clear hb hl hm hc3
 go_enter Try.func48, Try.ntmps48
 go_wp2_with ((with_reducible refine gate_dst (N := 10) rfl ?_); refine Kd.R_make (Kd.int .i64) (w0 := w) w.heap.size 3 rfl (N := 10) rfl 25 _ _ rfl (l0.length : Int) rfl rfl Try.underlying25 (.int .i64 0) 8 info3 rfl (by decide) (by omega) 0 (ok := fun k => w.heap.size ≤ k) (okp := fun _ => False) rfl (fun _ hk => hk.elim) (by simp) (by omega) (by have := HM.out; omega) (Below.refl _ _) (by simp) ?_; intro v10 w3 ho hb hg hnew; obtain ⟨hb9, ck, ev, gb, gl, cl, HG⟩ := Kd.R_form ho (by rw [List.length_replicate, Int.toNat_natCast]; exact HL.out); rw [List.length_replicate, Int.toNat_natCast] at ev; subst ev; rw [Int.toNat_natCast] at ho)
 have RK := am (show Kd.R (Kd.int .i64) 3 w3 w.heap.size (fun k => k = hb9) (.slice (some ⟨hb9, 0, none⟩) l0.length ck) (blankS l0.length 0) from by
  have h := ho
  rw [show blankS l0.length 0 = List.replicate l0.length 0 by simp [blankS]]
  obtain ⟨_, inner, h1, h2⟩ := h
  exact ⟨fun k hk => (oI hk).symm, inner, h1, h2⟩)
 have HB := am hb; have GB := am gb
 clear ho hb hg hnew HG gb gl
 go_loopg [4, 13] l0.length (fun g v4 v13 w' => ∃ j : Nat, v13 = .int .i64 (j : Int) ∧ Aside0 (g + j = l0.length) ∧ Aside0 (Kd.R (Kd.int .i64) 3 w' w.heap.size (fun k => k = hb9) (.slice (some ⟨hb9, 0, none⟩) l0.length ck) (blankS l0.length j)) ∧ Aside0 (Below w.heap.size w w'))
 case atStart => exact ⟨0, rfl, ⟨rfl⟩, RK, HB⟩
 case round =>
  obtain ⟨j, rfl, HG, RK, HB⟩ := hrel
  by_cases hj : j < l0.length
  ·have p1 : (0 : Int) ≤ (j : Int) := by omega
   have t1 : decide ((0 : Int) ≤ (j : Int)) = true := decide_eq_true p1
   have t2 : decide ((j : Int) < (l0.length : Int)) = true := decide_eq_true (by omega)
   have hbl := blankS_len l0.length j (by omega)
   obtain ⟨adx, ex, hx⟩ := Kd.at_int (Kd.R_reads' RK.out).2.2 (j : Int) p1 (by omega)
   cases ex
   simp only [add_plain, Int.toNat_natCast] at hx
   obtain ⟨g2, c2, e2, gb2, _, cl2, HGO⟩ := Kd.R_form RK.out (by omega)
   rw [hbl] at e2
   cases e2
   have hfx := blk_frozen HGO j
   clear HGO
   go_wp2_with fail
   have hr := Kd.R_putn RK.out (j : Int) (-1)
   rw [Int.toNat_natCast, blankS_set _ _ hj] at hr
   have RK := am hr
   have HB := am (below_set (g := hb9) (j := j) (v := .int .i64 (-1)) HB.out gb2)
   obtain ⟨g1, rfl⟩ : ∃ g1, gk = g1 + 1 := ⟨gk - 1, by have := HG.out; omega⟩
   go_roundg g1
   case measure => omega
   case rel => exact ⟨j + 1, by go_num, ⟨by have := HG.out; omega⟩, RK, HB⟩
  ·obtain rfl : j = l0.length := by have := HG.out; omega
   have t2 : decide ((l0.length : Int) < (l0.length : Int)) = false := decide_eq_false (by omega)
   go_wp2_with fail
   go_ret
   refine ⟨hb9, ck, rfl, ?_, HB.out⟩
   have h := RK.out
   rw [show blankS l0.length l0.length = List.replicate l0.length (-1) by simp [blankS]] at h
   exact h
/-! ### impl_bit: function 113 -/
def impl_bit.f (a0 : Bool) : Option (Int) := if a0 = true then (some 1) else (some 0)
set_option maxHeartbeats 8000000 in
set_option maxRecDepth 100000 in
theorem impl_bit.calls (a0 : Bool) (r : Int) (w : World) (h : impl_bit.f a0 = some r) :
  Calls Try.prog 113 #[.bool a0] w fun e w' => e = .returned (.int .i64 r) ∧ Drawn0 w w' := by
 have H : (if a0 = true then (some 1) else (some 0)) = some r := h
 clear h
 by_cases c2 : a0 = true
 ·subst c2
  rw [if_pos rfl] at H
  obtain rfl := oI H
  go_enter Try.func113, Try.ntmps113
  go_wp2
  go_ret
  exact ⟨by rfl, by repeat (first | exact Drawn0.refl _ | apply Drawn0.step)⟩
 ·replace c2 := Bool.eq_false_iff.mpr c2
  subst c2
  rw [if_neg (show ¬ (false = true) by decide)] at H
  obtain rfl := oI H
  go_enter Try.func113, Try.ntmps113
  go_wp2
  go_ret
  exact ⟨by rfl, by repeat (first | exact Drawn0.refl _ | apply Drawn0.step)⟩
@[reducible] def zA0x31 : Array Bool := #[false, false, false, false, false, false, false, false]
@[reducible] def zA1x31 : Array Bool := #[true, false, false, false, false, false, false, false]
@[reducible] def zA2x31 : Array Bool := #[true, true, false, false, false, false, false, false]
@[reducible] def zA3x31 : Array Bool := #[true, true, false, true, false, false, false, false]
@[reducible] def zA4x31 : Array Bool := #[true, true, false, true, false, false, true, false]
@[reducible] def zA5x31 : Array Bool := #[true, true, true, true, false, false, true, false]
@[reducible] def zA6x31 : Array Bool := #[true, true, true, true, true, false, true, false]
@[reducible] def zA7x31 : Array Bool := #[true, true, true, true, true, true, true, false]
@[reducible] def zA8x31 : Array Bool := #[true, true, true, true, true, true, true, true]
/-! ### impl_valuer_quant: by hand -/
/-- What value is asked to keep, for the valuer at block g. -/
def ValCon (g : Nat) (A0 : Option Addr) (c0 : Nat) (l0 : List (S31)) (V : List Int → Int → List Int → Option (Int × List Int)) : Prop :=
 ∀ (hk ck base : Nat) (env : List Int) (i : Int) (known : List Int) (r : Int) (known' : List Int) (w : World), w.heap[g]? = some (.cells (vcells A0 l0.length c0 env) 65 (0, 0)) → env.length = 8 → g ≠ hk → (∀ W_, Kept w W_ (fun k => k = g ∨ k = hk) → Kd.C k31 W_ A0 l0.length l0) → known.length = l0.length →
  Kd.R (Kd.int .i64) 3 w base (fun k => k = hk) (.slice (some ⟨hk, 0, none⟩) l0.length ck) known → V env i known = some (r, known') →
  Calls Try.prog 47 #[.pointer (some ⟨g, 0, none⟩), .int .i64 i, .slice (some ⟨hk, 0, none⟩) l0.length ck] w fun e w' => e = .returned (.int .i64 r) ∧ Kd.R (Kd.int .i64) 3 w' base (fun k => k = hk) (.slice (some ⟨hk, 0, none⟩) l0.length ck) known' ∧ known'.length = l0.length ∧ Kept w w' (fun k => k = hk) ∧ Below 0 w w'
theorem cz6q {w : World} {g T : Nat} {a b c d e f : Int} (h : w.heap[g]? = some (.cells #[.int .i64 a, .int .i64 b, .int .i64 c, .int .i64 d, .int .i64 e, .int .i64 f] T (0, 0))) :
  (w.cell? ⟨g, 0, none⟩ = some (.int .i64 a) ∧ w.cell? ⟨g, 1, none⟩ = some (.int .i64 b) ∧ w.cell? ⟨g, 2, none⟩ = some (.int .i64 c) ∧ w.cell? ⟨g, 3, none⟩ = some (.int .i64 d) ∧ w.cell? ⟨g, 4, none⟩ = some (.int .i64 e) ∧ w.cell? ⟨g, 5, none⟩ = some (.int .i64 f)) :=
 ⟨(blk_cell h 0).trans rfl, (blk_cell h 1).trans rfl, (blk_cell h 2).trans rfl, (blk_cell h 3).trans rfl, (blk_cell h 4).trans rfl, (blk_cell h 5).trans rfl⟩
theorem quant_back {w w' : World} {g j T : Nat} {cs cs' : Array Value} (hw : w.heap[g]? = some (.cells cs T (0, 0))) (hk : Kept w w' (fun k => k = g)) (h0 : Below 0 w w') (hb : w'.heap[g]? = some (.cells cs' T (0, 0))) (u : Value) (e : cs'.setIfInBounds j u = cs) : Below w.heap.size w (w'.setCell ⟨g, j, none⟩ u) := by
 have h1 : Below 0 w (w'.setCell ⟨g, j, none⟩ u) := h0.setCell (Nat.zero_le _) u
 refine ⟨h1.os, h1.tape, h1.output, h1.size, fun k hlt => ?_⟩
 by_cases hg : k = g
 ·subst hg
  rw [blk_set hb j u, e, hw]
 ·rw [Below.heap_setCell w' ⟨g, j, none⟩ u k hg, hk.2 k hlt hg]
theorem set_self (env : List Int) (Kq : Int) (h0 : 0 ≤ Kq) (h : Kq < (env.length : Int)) : env.set Kq.toNat (rd env Kq) = env := by
 have hl : Kq.toNat < env.length := by omega
 refine List.ext_getElem (by simp) (fun i h1 h2 => ?_)
 rw [List.getElem_set]
 split
 ·subst_vars; simp [rd, hl, List.getD_eq_getElem?_getD]
 ·rfl
theorem two_pow_u (B : Int) (h0 : 0 ≤ B) (h8 : B ≤ 8) : wrap64 (2 ^ min (IntKind.u64.wrap B).toNat 64) = ((2 ^ B.toNat : Nat) : Int) := by
 have h : B = 0 ∨ B = 1 ∨ B = 2 ∨ B = 3 ∨ B = 4 ∨ B = 5 ∨ B = 6 ∨ B = 7 ∨ B = 8 := by omega
 have hw : IntKind.u64.wrap B = B := by
  rw [show IntKind.u64.wrap B = B % 18446744073709551616 by simp [IntKind.wrap, IntKind.bits, IntKind.signed]]; omega
 rw [hw]
 rcases h with rfl | rfl | rfl | rfl | rfl | rfl | rfl | rfl | rfl <;> simp [wrap64]
theorem two_pow_le (B : Int) (h8 : B ≤ 8) : 2 ^ B.toNat ≤ 256 := (Nat.pow_le_pow_right (by decide) (show B.toNat ≤ 8 by omega) : 2 ^ B.toNat ≤ 2 ^ 8)
def qloop (V : List Int → Int → List Int → Option (Int × List Int)) (n : Nat) (env : List Int) (Kq : Nat) (A out : Int) : Nat → Int → Option Int
 | 0, _ => some out
 | m + 1, x => (V (env.set Kq x) A (List.replicate n (-1))).bind fun r => if r.1 = out then qloop V n env Kq A out m (x + 1) else some (1 - out)
def impl_quantR (V : List Int → Int → List Int → Option (Int × List Int)) (n : Nat) (env : List Int) (op Kq A B : Int) : Option Int :=
 if 0 ≤ Kq ∧ Kq < 8 ∧ 0 ≤ B ∧ B ≤ 8 then qloop V n env Kq.toNat A (if op = 19 then 1 else 0) (2 ^ B.toNat) 0 else none
set_option maxHeartbeats 4000000 in
set_option maxRecDepth 100000 in
theorem impl_quantR.calls (g : Nat) (A0 : Option Addr) (c0 : Nat) (l0 : List (S31)) (V : List Int → Int → List Int → Option (Int × List Int)) (hV : ValCon g A0 c0 l0 V) (env : List Int) (op W Kq A B C r : Int) (w : World) (hb : w.heap[g]? = some (.cells (vcells A0 l0.length c0 env) 65 (0, 0))) (he : env.length = 8) (hl : 1 ≤ l0.length) (hm : l0.length ≤ 1048576)
  (hr0 : ∀ W_, Kept w W_ (fun k => k = g) → Kd.C k31 W_ A0 l0.length l0) (h : impl_quantR V l0.length env op Kq A B = some r) :
  Calls Try.prog 78 #[.pointer (some ⟨g, 0, none⟩), .agg #[.int .i64 op, .int .i64 W, .int .i64 Kq, .int .i64 A, .int .i64 B, .int .i64 C]] w fun e w' => e = .returned (.int .i64 r) ∧ Below w.heap.size w w' := by
 unfold impl_quantR at h
 by_cases hc : 0 ≤ Kq ∧ Kq < 8 ∧ 0 ≤ B ∧ B ≤ 8
 ·rw [if_pos hc] at h
  obtain ⟨k0, k8, b0, b8⟩ := hc
  unfold ValCon at hV
  have HH := am h; have HV := am hV; have HE := am he; have HL := am hl; have HM := am hm; have HR0 := am hr0; have B8 := am (And.intro b0 b8)
  clear h hV hl hm hr0 b0 b8
  have t1 : decide (0 ≤ Kq) = true := decide_eq_true k0
  have t2 : decide (Kq < 8) = true := decide_eq_true k8
  have BG := am hb; have BG0 := am hb
  have K8 := am (And.intro k0 k8)
  clear hb k0 k8 he
  go_enter Try.func78, Try.ntmps78
  go_wp2_with fail
  have BN := am (heap_alloc_new w (Obj.cells #[Value.int .i64 op, Value.int .i64 W, Value.int .i64 Kq, Value.int .i64 A, Value.int .i64 B, Value.int .i64 C] 31))
  have BG1 := am (blk_alloc BG.out (Obj.cells #[Value.int .i64 op, Value.int .i64 W, Value.int .i64 Kq, Value.int .i64 A, Value.int .i64 B, Value.int .i64 C] 31))
  obtain ⟨q0, q1, q2, q3, q4, q5⟩ := cz6q BN.out
  have x1 := (blk_cell BG1.out (Kq.toNat + 1)).trans (vcells_k _ _ _ _ Kq.toNat (by rw [HE.out]; have := K8.out; omega))
  rw [Int.toNat_of_nonneg K8.out.1, Nat.add_comm Kq.toNat 1] at x1
  have kk := K8.out
  go_region
  clear q0 q1 q2 q3 q4 q5 x1 kk
  have HB := am (show Below w.heap.size w (w.alloc (Obj.cells #[Value.int .i64 op, Value.int .i64 W, Value.int .i64 Kq, Value.int .i64 A, Value.int .i64 B, Value.int .i64 C] 31)).drew from below_drew (below_alloc (Below.refl _ _) _))
  have BG := am (blk_drew BG1.out); have BN := am (blk_drew BN.out)
  clear BG1
  generalize (w.alloc (Obj.cells #[Value.int .i64 op, Value.int .i64 W, Value.int .i64 Kq, Value.int .i64 A, Value.int .i64 B, Value.int .i64 C] 31)).drew = w1 at *
  obtain ⟨q0, q1, q2, q3, q4, q5⟩ := cz6q BN.out
  obtain ⟨out, hout⟩ : ∃ out : Int, (if op = 19 then 1 else 0) = out := ⟨_, rfl⟩
  rw [hout] at HH
  have h01 : out = 0 ∨ out = 1 := by rw [← hout]; split <;> simp
  have hbt : impl_bit.f (op == 19) = some out := by unfold impl_bit.f; rw [← hout]; by_cases h : op = 19 <;> simp [h]
  have O1 := am h01; have HBT := am hbt
  clear h01 hbt hout
  go_wp2_with fail
  refine (impl_bit.calls _ out _ HBT.out).mono ?_
  rintro e w2 ⟨rfl, nd, hw2⟩
  clear q0 q1 q2 q3 q4 q5
  obtain rfl := hw2
  have HB := am (pw_below_drewN HB.out nd); have BG := am (blk_drewN BG.out nd); have BN := am (blk_drewN BN.out nd)
  generalize w1.drewN nd = w2 at *
  obtain ⟨q0, q1, q2, q3, q4, q5⟩ := cz6q BN.out
  go_wp2_with fail
  rw [two_pow_u B B8.out.1 B8.out.2]
  have hN := two_pow_le B B8.out.2
  generalize 2 ^ B.toNat = N at *
  have HN := am hN
  clear hN q0 q1 q2 q3 q4 q5
  have KW := am (Kept.of_below HB.out (fun k => k = g)); have H0 := am (HB.out.mono (Nat.zero_le _))
  have GL := am (show g < w.heap.size from by have := blk_lt BG0.out; exact this)
  go_loopg [6, 7, 23] N (fun gk v6 v7 v23 w' => ∃ (j : Nat) (y : Int), v23 = .int .i64 (j : Int) ∧ v6 = .int .i64 out ∧ Aside0 (gk + j = N) ∧ Aside0 (qloop V l0.length env Kq.toNat A out gk (j : Int) = some r) ∧
   Aside0 (w'.heap[g]? = some (.cells (vcells A0 l0.length c0 (env.set Kq.toNat y)) 65 (0, 0))) ∧ Aside0 (w'.heap[w.heap.size]? = some (.cells #[.int .i64 op, .int .i64 W, .int .i64 Kq, .int .i64 A, .int .i64 B, .int .i64 C] 31 (0, 0))) ∧ Aside0 (Kept w w' (fun k => k = g)) ∧ Aside0 (Below 0 w w'))
  case atStart => exact ⟨0, rd env Kq, rfl, rfl, ⟨rfl⟩, HH, ⟨by rw [set_self env Kq K8.out.1 (by rw [HE.out]; exact K8.out.2)]; exact BG.out⟩, BN, KW, H0⟩
  case round =>
   obtain ⟨j, y, rfl, rfl, HG, HH, BG, BN, KW, H0⟩ := hrel
   obtain ⟨q0, q1, q2, q3, q4, q5⟩ := cz6q BN.out
   have x1 := (blk_cell BG.out (Kq.toNat + 1)).trans (vcells_k _ _ _ _ Kq.toNat (by rw [List.length_set, HE.out]; have := K8.out; omega))
   rw [Int.toNat_of_nonneg K8.out.1, Nat.add_comm Kq.toNat 1] at x1
   have f1 := blk_frozen BG.out (1 + Kq.toNat)
   have kk := K8.out
   by_cases hj : j < N
   ·have t3 : decide ((j : Int) < (N : Int)) = true := decide_eq_true (by omega)
    go_wp2_with fail
    go_region
    clear q0 q1 q2 q3 q4 q5 x1 f1 kk
    have BG1 := blk_set BG.out (1 + Kq.toNat) (.int .i64 (j : Int))
    rw [Nat.add_comm 1 Kq.toNat, vcells_set, List.set_set, Nat.add_comm Kq.toNat 1] at BG1
    have BG := am (blk_drew BG1)
    have BN := am (blk_drew (blk_far (p := ⟨g, 1 + Kq.toNat, none⟩) BN.out (by have := GL.out; simp; omega) (.int .i64 (j : Int))))
    have KW := am (Kept.drew (KW.out.setCell (p := ⟨g, 1 + Kq.toNat, none⟩) (.inl rfl) (.int .i64 (j : Int))))
    have H0 := am (show Below 0 w (wr.setCell ⟨g, 1 + Kq.toNat, none⟩ (.int .i64 (j : Int))).drew from below_drew (H0.out.setCell (Nat.zero_le _) _))
    clear BG1
    generalize (wr.setCell ⟨g, 1 + Kq.toNat, none⟩ (.int .i64 (j : Int))).drew = wA at *
    obtain ⟨q0, q1, q2, q3, q4, q5⟩ := cz6q BN.out
    go_wp2_with fail
    obtain ⟨g1, rfl⟩ : ∃ g1, gk = g1 + 1 := ⟨gk - 1, by have := HG.out; omega⟩
    have hh := HH.out
    unfold qloop at hh
    obtain ⟨⟨rv, kn⟩, hvr, hh⟩ := oB hh
    have HVR := am hvr; have HN2 := am hh
    clear hvr hh HH q0 q1 q2 q4 q5
    refine start_ (n := 8) (S := fun w' => w'.cell? ⟨w.heap.size, 3, none⟩ = some (.int .i64 A)) (ds := []) zA0x31 (by kernel_rfl) rfl rfl (q3) (fun hHeld => ?_)
    refine pure_ (i := 0) (N := some 33) (v := ?_) (a' := ?_) zA1x31 rfl rfl (by kernel_rfl) (fun _ _ _ h => h) (Or.inl ⟨by rfl, ?_⟩) ?_ ?_; rotate_left; (intro w'; go_simp; with_reducible rfl); rotate_left; (simp only [Act.put, List.setIfInBounds_toArray, List.set_cons_zero, List.set_cons_succ, i64_w, i32_w]; rfl)
    refine pure_ (i := 1) (N := some 34) (v := ?_) (a' := ?_) zA2x31 rfl rfl (by kernel_rfl) (fun _ _ _ h => h) (Or.inl ⟨by rfl, ?_⟩) ?_ ?_; rotate_left; (intro w'; go_simp; with_reducible rfl); rotate_left; (simp only [Act.put, List.setIfInBounds_toArray, List.set_cons_zero, List.set_cons_succ, i64_w, i32_w]; rfl)
    refine pure_ (i := 3) (N := some 36) (v := ?_) (a' := ?_) zA3x31 rfl rfl (by kernel_rfl) (fun _ _ _ h => h) (Or.inl ⟨by rfl, ?_⟩) ?_ ?_; rotate_left; (intro w'; go_simp; with_reducible rfl); rotate_left; (simp only [Act.put, List.setIfInBounds_toArray, List.set_cons_zero, List.set_cons_succ, i64_w, i32_w]; rfl)
    refine pure_ (i := 6) (N := some 39) (v := ?_) (a' := ?_) zA4x31 rfl rfl (by kernel_rfl) (fun _ _ _ h => h) (Or.inl ⟨by rfl, ?_⟩) ?_ ?_; rotate_left; (intro w'; go_simp; with_reducible rfl); rotate_left; (simp only [Act.put, List.setIfInBounds_toArray, List.set_cons_zero, List.set_cons_succ, i64_w, i32_w]; rfl)
    refine take_ (i := 2) (N := some 35) (v := ?_) (a' := ?_) zA5x31 rfl rfl (by kernel_rfl) (fun _ _ _ h => h) (Or.inl ⟨by rfl, ?_⟩) hHeld ?_ ?_
    rotate_left
    ·intro w' s0
     go_simp
     with_reducible rfl
    rotate_left
    ·simp only [Act.put, List.setIfInBounds_toArray, List.set_cons_zero, List.set_cons_succ, i64_w, i32_w]
     rfl
    refine one_ (i := 4) (N := some 37) zA6x31 rfl rfl (by kernel_rfl) (by decide) (fun K hK => ?_)
    refine goes_ Try.func48 (by kernel_rfl) rfl #[.pointer (some ⟨g, 0, none⟩)] (by rfl) rfl rfl (by simp only [List.map_toArray, List.map_cons, List.map_nil]; rfl) ?_
    with_reducible refine (impl_valuer_blank.calls g A0 c0 l0 (env.set Kq.toNat (j : Int)) _ (blk_drew BG.out) HL.out HM.out).mono ?_
    rintro e w3 ⟨hk, ck, rfl, hRK, hb⟩
    refine ⟨_, rfl, ?_⟩
    have RK := am hRK
    have HKN := am (show w.heap.size < hk from by
     obtain ⟨g2, c2, e2, gb2, _⟩ := Kd.R_form hRK (by rw [List.length_replicate]; exact HL.out)
     rw [List.length_replicate] at e2
     cases e2
     exact Nat.lt_of_lt_of_le (blk_lt BN.out) gb2)
    have BG := am (blk_below (blk_drew BG.out) hb)
    have BN := am (blk_below (blk_drew BN.out) hb)
    have KW := am ((Kept.drew KW.out).below hb)
    have H0 := am ((below_drew H0.out).trans (hb.mono (Nat.zero_le _)))
    clear hb hRK
    refine hK.out _ _ (((blk_cell BN.out 3).trans rfl)) (fun hHeld => ?_)
    clear hK K
    refine norm_ (a' := ?_) ?_ ?_
    rotate_left
    ·show Act.put _ (some 37) _ = _
     simp only [Act.put, List.setIfInBounds_toArray, List.set_cons_zero, List.set_cons_succ, i64_w, i32_w]
     rfl
    refine one_ (i := 5) (N := some 38) zA7x31 rfl rfl (by kernel_rfl) (by decide) (fun K hK => ?_)
    refine goes_ Try.func47 (by kernel_rfl) rfl #[.pointer (some ⟨g, 0, none⟩), .int .i64 A, .slice (some ⟨hk, 0, none⟩) l0.length ck] (by rfl) rfl rfl (by simp only [List.map_toArray, List.map_cons, List.map_nil]; rfl) ?_
    with_reducible refine (HV.out hk ck _ (env.set Kq.toNat (j : Int)) A (List.replicate l0.length (-1)) rv kn _ BG.out (by rw [List.length_set]; exact HE.out) (by have := HKN.out; have := GL.out; omega) (fun W_ hW => HR0.out W_ (KW.out.then_ hW (fun k hk' => by have := HKN.out; rcases hk' with rfl | rfl; exact .inl rfl; exact .inr (by omega)))) (by simp) (RK.out) HVR.out).mono ?_
    rintro e w4 ⟨rfl, hR4, _, hK4, h04⟩
    refine ⟨_, rfl, ?_⟩
    have BG := am (blk_kept BG.out hK4 (by have := HKN.out; have := GL.out; omega))
    have BN := am (blk_kept BN.out hK4 (by have := HKN.out; omega))
    have KW := am (KW.out.then_ hK4 (fun k hk' => .inr (by have := HKN.out; omega)))
    have H0 := am (H0.out.trans h04)
    clear hR4 hK4 h04
    refine hK.out _ _ (((blk_cell BN.out 3).trans rfl)) (fun hHeld => ?_)
    clear hK K
    refine norm_ (a' := ?_) ?_ ?_
    rotate_left
    ·show Act.put _ (some 38) _ = _
     simp only [Act.put, List.setIfInBounds_toArray, List.set_cons_zero, List.set_cons_succ, i64_w, i32_w]
     rfl
    refine pure_ (i := 7) (N := some 40) (v := ?_) (a' := ?_) zA8x31 rfl rfl (by kernel_rfl) (fun _ _ _ h => h) (Or.inl ⟨by rfl, ?_⟩) ?_ ?_; rotate_left; (intro w'; go_simp; with_reducible rfl); rotate_left; (simp only [Act.put, List.setIfInBounds_toArray, List.set_cons_zero, List.set_cons_succ, i64_w, i32_w]; rfl)
    refine done_ (by kernel_rfl) ?_

    by_cases hv : rv = out
    ·have t4 : (rv != out) = false := by rw [hv]; exact bne_self_eq_false' _
     have hn := HN2.out
     rw [if_pos hv] at hn
     clear q3 hv
     go_wp2_with fail
     have HH := am hn
     clear hn
     go_roundg g1
     case measure => omega
     case rel => exact ⟨j + 1, (j : Int), by rw [show wrap64 ((j : Int) + 1) = ((j + 1 : Nat) : Int) by have := HN.out; unfold wrap64; omega], rfl, ⟨by have := HG.out; omega⟩, ⟨by have h := HH.out; rw [show ((j + 1 : Nat) : Int) = (j : Int) + 1 by omega]; exact h⟩, BG, BN, KW, H0⟩
    ·have t4 : (rv != out) = true := bne_iff_ne.mpr hv
     have hn := HN2.out
     rw [if_neg hv] at hn
     obtain rfl := oI hn
     clear q3 hv hn
     have hw : wrap64 (1 - out) = 1 - out := by rcases O1.out with h | h <;> rw [h] <;> simp [wrap64]
     go_wp2_with fail
     obtain ⟨q0, q1, q2, q3, q4, q5⟩ := cz6q BN.out
     have x1 := (blk_cell BG.out (Kq.toNat + 1)).trans (vcells_k _ _ _ _ Kq.toNat (by rw [List.length_set, HE.out]; have := K8.out; omega))
     rw [Int.toNat_of_nonneg K8.out.1, Nat.add_comm Kq.toNat 1] at x1
     have f1 := blk_frozen BG.out (1 + Kq.toNat)
     have kk := K8.out
     go_region
     clear q0 q1 q2 q3 q4 q5 x1 f1 kk
     have HE2 := am (below_drew (quant_back (j := 1 + Kq.toNat) BG0.out KW.out H0.out BG.out (.int .i64 (rd env Kq)) (by rw [Nat.add_comm 1 Kq.toNat, vcells_set, List.set_set, set_self env Kq K8.out.1 (by rw [HE.out]; exact K8.out.2)])))
     go_wp2_with fail
     go_ret
     exact ⟨by rw [← hw]; rfl, HE2.out⟩
   ·have t3 : decide ((j : Int) < (N : Int)) = false := decide_eq_false (by omega)
    have hgk : gk = 0 := by have := HG.out; omega
    subst hgk
    have hn := HH.out
    unfold qloop at hn
    obtain rfl := oI hn
    clear hn q0 q1 q2 q3 q4 q5 x1 f1 kk
    go_wp2_with fail
    obtain ⟨q0, q1, q2, q3, q4, q5⟩ := cz6q BN.out
    have x1 := (blk_cell BG.out (Kq.toNat + 1)).trans (vcells_k _ _ _ _ Kq.toNat (by rw [List.length_set, HE.out]; have := K8.out; omega))
    rw [Int.toNat_of_nonneg K8.out.1, Nat.add_comm Kq.toNat 1] at x1
    have f1 := blk_frozen BG.out (1 + Kq.toNat)
    have kk := K8.out
    go_region
    clear q0 q1 q2 q3 q4 q5 x1 f1 kk
    have HE2 := am (below_drew (quant_back (j := 1 + Kq.toNat) BG0.out KW.out H0.out BG.out (.int .i64 (rd env Kq)) (by rw [Nat.add_comm 1 Kq.toNat, vcells_set, List.set_set, set_self env Kq K8.out.1 (by rw [HE.out]; exact K8.out.2)])))
    go_wp2_with fail
    go_ret
    exact ⟨rfl, HE2.out⟩
 ·rw [if_neg hc] at h
  exact absurd h (by simp)
end Go.Proofs.Ytkpipmojkhikaaa.PAll
