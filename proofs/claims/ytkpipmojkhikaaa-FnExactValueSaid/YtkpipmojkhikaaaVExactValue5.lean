/- Written by a program of this session over the loaded program, and by hand: Go functions as plain Lean functions, and that a call comes to what they say. -/
import Derived.Test.YtkpipmojkhikaaaVExactValue0
import Derived.Test.YtkpipmojkhikaaaVExactValue2
import Derived.Test.YtkpipmojkhikaaaVExactValue3
import Derived.Test.YtkpipmojkhikaaaVExactValue4
import Derived.Test.YtkpipmojkhikaaaBase
import Derived.Test.YtkpipmojkhikaaaSq
namespace Go.Proofs.Ytkpipmojkhikaaa.PAll
open Go.RowKit Go.Proofs.YtkpipmojkhikaaaW.PrintWords Go.Proofs.YtkpipmojkhikaaaW.PrintLast Go.Proofs.YtkpipmojkhikaaaW.PrintMore Go.Proofs.YtkpipmojkhikaaaW.Sq
attribute [local go_sem] max2_int min2_int max_two min_two max_three min_three max_four min_four   -- for this text's walks alone
set_option linter.unusedVariables false
set_option linter.unusedSimpArgs false

/-! ### spec_Apply: function 120 -/
def spec_Apply.j0 : Nat → Int → Int → Int → Int → Bool → Int → Int → Int → Int → Int → Int → Option (Int)
 | 0, _, _, _, _, _, _, _, _, _, _, _ => none
 | k + 1, x1, x2, x3, x4, x34, x540000, x540001, x540002, x540003, x540004, x540005 => if x34 = true then (some 0) else (if x540000 = 0 then (some x540002) else (if x540000 = 2 then ((spec_Flip.f k x540001 x2).bind fun t545 => (some t545)) else (if x540000 = 3 then (some (Go.bits .and .i64 x2 x3)) else (if x540000 = 4 then (some (Go.bits .or .i64 x2 x3)) else (if x540000 = 5 then (some (Go.bits .xor .i64 x2 x3)) else (if x540000 = 6 then ((spec_Add.f k x540001 x2 x3).bind fun t546 => (some t546)) else (if x540000 = 7 then ((spec_Sub.f k x540001 x2 x3).bind fun t547 => (some t547)) else (if x540000 = 8 then ((spec_Mul.f k x540001 x2 x3).bind fun t548 => (some t548)) else (if x540000 = 9 then ((spec_Div.f k x540001 x2 x3).bind fun t549 => (some t549)) else (if x540000 = 10 then ((spec_Rem.f k x540001 x2 x3).bind fun t550 => (some t550)) else (if x540000 = 11 then ((spec_Shl.f k x540001 x2 x3).bind fun t551 => (some t551)) else (if x540000 = 12 then ((spec_Shr.f k x540001 x2 x3).bind fun t552 => (some t552)) else (if x540000 = 13 then ((spec_l01Bool.f (x2 == x3)).bind fun t553 => (some t553)) else (if x540000 = 14 then ((spec_Less.f k x1 x2 x3).bind fun t554 => (some t554)) else (if x540000 = 15 then ((spec_LessSigned.f k x1 x2 x3).bind fun t555 => (some t555)) else (if x540000 = 16 then (if x540001 < x1 then (some x3) else ((spec_l01Pow2.f k (wrap64 (x540001 - x1))).bind fun t556 => (some (wrap64 ((wrap64 (x2 * t556)) + x3))))) else (if x540000 = 17 then ((spec_Slice.f k x1 x2 x540002 x540001).bind fun t557 => (some t557)) else (if x540000 = 18 then (if x2 = 1 then (some x3) else (some x4)) else (some 0)))))))))))))))))))
def spec_Apply.f (k : Nat) (a0_0 : Int) (a0_1 : Int) (a0_2 : Int) (a0_3 : Int) (a0_4 : Int) (a0_5 : Int) (a1 : Int) (a2 : Int) (a3 : Int) (a4 : Int) : Option (Int) := (spec_l01In.f a0_1 1 8).bind fun t540 => (if t540 = true then ((spec_l01In.f a1 1 8).bind fun t541 => (if t541 = true then ((spec_l01In.f a2 0 255).bind fun t542 => (if t542 = true then ((spec_l01In.f a3 0 255).bind fun t543 => (if t543 = true then ((spec_l01In.f a4 0 255).bind fun t544 => (spec_Apply.j0 k a1 a2 a3 a4 (!t544) a0_0 a0_1 a0_2 a0_3 a0_4 a0_5)) else (spec_Apply.j0 k a1 a2 a3 a4 true a0_0 a0_1 a0_2 a0_3 a0_4 a0_5))) else (spec_Apply.j0 k a1 a2 a3 a4 true a0_0 a0_1 a0_2 a0_3 a0_4 a0_5))) else (spec_Apply.j0 k a1 a2 a3 a4 true a0_0 a0_1 a0_2 a0_3 a0_4 a0_5))) else (spec_Apply.j0 k a1 a2 a3 a4 true a0_0 a0_1 a0_2 a0_3 a0_4 a0_5))
set_option maxHeartbeats 8000000 in
set_option maxRecDepth 100000 in
theorem spec_Apply.calls (k : Nat) (a0_0 : Int) (a0_1 : Int) (a0_2 : Int) (a0_3 : Int) (a0_4 : Int) (a0_5 : Int) (a1 : Int) (a2 : Int) (a3 : Int) (a4 : Int) (r : Int) (w : World) (h : spec_Apply.f k a0_0 a0_1 a0_2 a0_3 a0_4 a0_5 a1 a2 a3 a4 = some r) :
  Calls Try.prog 120 #[.agg #[.int .i64 a0_0, .int .i64 a0_1, .int .i64 a0_2, .int .i64 a0_3, .int .i64 a0_4, .int .i64 a0_5], .int .i64 a1, .int .i64 a2, .int .i64 a3, .int .i64 a4] w fun e w' => e = .returned (.int .i64 r) ∧ Below w.heap.size w w' := by
 have hu31 := Try.underlying31
 have HB := am (Below.refl w.heap.size w)
 have H : ((spec_l01In.f a0_1 1 8).bind fun t540 => (if t540 = true then ((spec_l01In.f a1 1 8).bind fun t541 => (if t541 = true then ((spec_l01In.f a2 0 255).bind fun t542 => (if t542 = true then ((spec_l01In.f a3 0 255).bind fun t543 => (if t543 = true then ((spec_l01In.f a4 0 255).bind fun t544 => (spec_Apply.j0 k a1 a2 a3 a4 (!t544) a0_0 a0_1 a0_2 a0_3 a0_4 a0_5)) else (spec_Apply.j0 k a1 a2 a3 a4 true a0_0 a0_1 a0_2 a0_3 a0_4 a0_5))) else (spec_Apply.j0 k a1 a2 a3 a4 true a0_0 a0_1 a0_2 a0_3 a0_4 a0_5))) else (spec_Apply.j0 k a1 a2 a3 a4 true a0_0 a0_1 a0_2 a0_3 a0_4 a0_5))) else (spec_Apply.j0 k a1 a2 a3 a4 true a0_0 a0_1 a0_2 a0_3 a0_4 a0_5))) = some r := h
 clear h
 have HC6 := am H
 clear H
 go_enter Try.func120, Try.ntmps120
 go_upto_region 1 with (first | ((with_reducible refine gate_dst (N := 5) rfl ?_); refine box_event ?hg (N := 5) ?hd (cs := #[.int .i64 a0_0, .int .i64 a0_1, .int .i64 a0_2, .int .i64 a0_3, .int .i64 a0_4, .int .i64 a0_5]) (t := 31) ?hr ?_; (case hd => rfl); (case hg => rfl); (case hr => (go_simp; done)); intro gb539 hg w7 hbox hb; have n0_ := am (below_step (by exact sW HB.out) hb); have n1_ := am (hbox); have n2_ := am ((by rw [hg]; exact (below_size (by exact sW HB.out)) : w.heap.size ≤ gb539)); have n3_ := am ((by rw [hg]; exact (below_size (by exact sW HB.out)) : w.heap.size ≤ gb539)); clear HB; have HB := n0_; have BK539 := n1_; have GW539 := n2_; have GE539 := n3_; clear n0_ n1_ n2_ n3_; clear hb hbox hg))
 (try simp only [Act.put, List.setIfInBounds_toArray, List.set_cons_zero, List.set_cons_succ])
 go_cut [34] (fun v34 wc => ∃ (kq : Nat) (x34_5 : Bool), v34 = .bool x34_5 ∧ Aside0 (spec_Apply.j0 kq a1 a2 a3 a4 x34_5 a0_0 a0_1 a0_2 a0_3 a0_4 a0_5 = some r) ∧ Aside0 (kq ≤ k) ∧ Aside0 (wc.heap[gb539]? = some (.cells #[.int .i64 a0_0, .int .i64 a0_1, .int .i64 a0_2, .int .i64 a0_3, .int .i64 a0_4, .int .i64 a0_5] 31 (0, 0))) ∧ Aside0 (Below w.heap.size w wc))
 case first =>
  have H := HC6.out
  clear HC6
  replace H := oB H
  obtain ⟨t540, A80, H⟩ := H
  have A8 := am A80
  clear A80
  by_cases c9 : t540 = true
  ·subst c9
   rw [if_pos rfl] at H
   replace H := oB H
   obtain ⟨t541, A100, H⟩ := H
   have A10 := am A100
   clear A100
   by_cases c11 : t541 = true
   ·subst c11
    rw [if_pos rfl] at H
    replace H := oB H
    obtain ⟨t542, A120, H⟩ := H
    have A12 := am A120
    clear A120
    by_cases c13 : t542 = true
    ·subst c13
     rw [if_pos rfl] at H
     replace H := oB H
     obtain ⟨t543, A140, H⟩ := H
     have A14 := am A140
     clear A140
     by_cases c15 : t543 = true
     ·subst c15
      rw [if_pos rfl] at H
      replace H := oB H
      obtain ⟨t544, A160, H⟩ := H
      have A16 := am A160
      clear A160
      have H' := am H
      clear H
      obtain ⟨hcz17_0, hcz17_1, hcz17_2, hcz17_3, hcz17_4, hcz17_5⟩ := cz6 BK539.out
      obtain ⟨hfz17_0, hfz17_1, hfz17_2, hfz17_3, hfz17_4, hfz17_5⟩ := fz6 BK539.out
      go_wp2_with (first | ((with_reducible refine gate_callee (f := 42) rfl ?_); refine goesL_ (some 13) rfl rfl Try.func42 (by kernel_rfl) rfl #[.int .i64 a0_1, .int .i64 1, .int .i64 8] rfl tm ?_; (with_reducible refine (spec_l01In.calls a0_1 1 8 true _ A8.out).mono ?_); rintro e w' ⟨rfl, ⟨nd, rfl⟩⟩; refine ⟨_, rfl, ?_⟩) | (go_at_call 42; (with_reducible refine (spec_l01In.calls a1 1 8 true _ A10.out).mono ?_); rintro e w' ⟨rfl, ⟨nd, rfl⟩⟩) | (go_at_call 42; (with_reducible refine (spec_l01In.calls a2 0 255 true _ A12.out).mono ?_); rintro e w' ⟨rfl, ⟨nd, rfl⟩⟩) | (go_at_call 42; (with_reducible refine (spec_l01In.calls a3 0 255 true _ A14.out).mono ?_); rintro e w' ⟨rfl, ⟨nd, rfl⟩⟩) | (go_at_call 42; (with_reducible refine (spec_l01In.calls a4 0 255 t544 _ A16.out).mono ?_); rintro e w' ⟨rfl, ⟨nd, rfl⟩⟩))
      go_meet
      case rel => exact ⟨_, (!t544), (by rfl), H', ⟨by omega⟩, ⟨by exact sB <| BK539.out⟩, ⟨by exact bW⟩⟩
     ·replace c15 := Bool.eq_false_iff.mpr c15
      subst c15
      rw [if_neg (show ¬ (false = true) by decide)] at H
      have H' := am H
      clear H
      obtain ⟨hcz18_0, hcz18_1, hcz18_2, hcz18_3, hcz18_4, hcz18_5⟩ := cz6 BK539.out
      obtain ⟨hfz18_0, hfz18_1, hfz18_2, hfz18_3, hfz18_4, hfz18_5⟩ := fz6 BK539.out
      go_wp2_with (first | ((with_reducible refine gate_callee (f := 42) rfl ?_); refine goesL_ (some 13) rfl rfl Try.func42 (by kernel_rfl) rfl #[.int .i64 a0_1, .int .i64 1, .int .i64 8] rfl tm ?_; (with_reducible refine (spec_l01In.calls a0_1 1 8 true _ A8.out).mono ?_); rintro e w' ⟨rfl, ⟨nd, rfl⟩⟩; refine ⟨_, rfl, ?_⟩) | (go_at_call 42; (with_reducible refine (spec_l01In.calls a1 1 8 true _ A10.out).mono ?_); rintro e w' ⟨rfl, ⟨nd, rfl⟩⟩) | (go_at_call 42; (with_reducible refine (spec_l01In.calls a2 0 255 true _ A12.out).mono ?_); rintro e w' ⟨rfl, ⟨nd, rfl⟩⟩) | (go_at_call 42; (with_reducible refine (spec_l01In.calls a3 0 255 false _ A14.out).mono ?_); rintro e w' ⟨rfl, ⟨nd, rfl⟩⟩))
      go_meet
      case rel => exact ⟨_, (true), (by rfl), H', ⟨by omega⟩, ⟨by exact sB <| BK539.out⟩, ⟨by exact bW⟩⟩
    ·replace c13 := Bool.eq_false_iff.mpr c13
     subst c13
     rw [if_neg (show ¬ (false = true) by decide)] at H
     have H' := am H
     clear H
     obtain ⟨hcz19_0, hcz19_1, hcz19_2, hcz19_3, hcz19_4, hcz19_5⟩ := cz6 BK539.out
     obtain ⟨hfz19_0, hfz19_1, hfz19_2, hfz19_3, hfz19_4, hfz19_5⟩ := fz6 BK539.out
     go_wp2_with (first | ((with_reducible refine gate_callee (f := 42) rfl ?_); refine goesL_ (some 13) rfl rfl Try.func42 (by kernel_rfl) rfl #[.int .i64 a0_1, .int .i64 1, .int .i64 8] rfl tm ?_; (with_reducible refine (spec_l01In.calls a0_1 1 8 true _ A8.out).mono ?_); rintro e w' ⟨rfl, ⟨nd, rfl⟩⟩; refine ⟨_, rfl, ?_⟩) | (go_at_call 42; (with_reducible refine (spec_l01In.calls a1 1 8 true _ A10.out).mono ?_); rintro e w' ⟨rfl, ⟨nd, rfl⟩⟩) | (go_at_call 42; (with_reducible refine (spec_l01In.calls a2 0 255 false _ A12.out).mono ?_); rintro e w' ⟨rfl, ⟨nd, rfl⟩⟩))
     go_meet
     case rel => exact ⟨_, (true), (by rfl), H', ⟨by omega⟩, ⟨by exact sB <| BK539.out⟩, ⟨by exact bW⟩⟩
   ·replace c11 := Bool.eq_false_iff.mpr c11
    subst c11
    rw [if_neg (show ¬ (false = true) by decide)] at H
    have H' := am H
    clear H
    obtain ⟨hcz20_0, hcz20_1, hcz20_2, hcz20_3, hcz20_4, hcz20_5⟩ := cz6 BK539.out
    obtain ⟨hfz20_0, hfz20_1, hfz20_2, hfz20_3, hfz20_4, hfz20_5⟩ := fz6 BK539.out
    go_wp2_with (first | ((with_reducible refine gate_callee (f := 42) rfl ?_); refine goesL_ (some 13) rfl rfl Try.func42 (by kernel_rfl) rfl #[.int .i64 a0_1, .int .i64 1, .int .i64 8] rfl tm ?_; (with_reducible refine (spec_l01In.calls a0_1 1 8 true _ A8.out).mono ?_); rintro e w' ⟨rfl, ⟨nd, rfl⟩⟩; refine ⟨_, rfl, ?_⟩) | (go_at_call 42; (with_reducible refine (spec_l01In.calls a1 1 8 false _ A10.out).mono ?_); rintro e w' ⟨rfl, ⟨nd, rfl⟩⟩))
    go_meet
    case rel => exact ⟨_, (true), (by rfl), H', ⟨by omega⟩, ⟨by exact sB <| BK539.out⟩, ⟨by exact bW⟩⟩
  ·replace c9 := Bool.eq_false_iff.mpr c9
   subst c9
   rw [if_neg (show ¬ (false = true) by decide)] at H
   have H' := am H
   clear H
   obtain ⟨hcz21_0, hcz21_1, hcz21_2, hcz21_3, hcz21_4, hcz21_5⟩ := cz6 BK539.out
   obtain ⟨hfz21_0, hfz21_1, hfz21_2, hfz21_3, hfz21_4, hfz21_5⟩ := fz6 BK539.out
   go_wp2_with (first | ((with_reducible refine gate_callee (f := 42) rfl ?_); refine goesL_ (some 13) rfl rfl Try.func42 (by kernel_rfl) rfl #[.int .i64 a0_1, .int .i64 1, .int .i64 8] rfl tm ?_; (with_reducible refine (spec_l01In.calls a0_1 1 8 false _ A8.out).mono ?_); rintro e w' ⟨rfl, ⟨nd, rfl⟩⟩; refine ⟨_, rfl, ?_⟩))
   go_meet
   case rel => exact ⟨_, (true), (by rfl), H', ⟨by omega⟩, ⟨by exact sB <| BK539.out⟩, ⟨by exact bW⟩⟩
 case rest =>
  clear HC6
  obtain ⟨kq, x34_5, rfl, HA, HJ5, BK539, HB⟩ := hcut
  cases kq with
  | zero => exact absurd HA.out (by simp [spec_Apply.j0])
  | succ kj5 =>
   have H := HA.out
   clear HA
   simp only [spec_Apply.j0] at H
   by_cases c22 : x34_5 = true
   ·subst c22
    rw [if_pos rfl] at H
    obtain rfl := oI H
    go_wp2
    go_ret
    exact ⟨by rfl, by exact bW⟩
   ·replace c22 := Bool.eq_false_iff.mpr c22
    subst c22
    rw [if_neg (show ¬ (false = true) by decide)] at H
    by_cases c23 : a0_0 = 0
    ·rw [if_pos c23] at H
     have c23b0 : (a0_0 == 0) = true := beq_iff_eq.mpr c23
     have c23b1 : (a0_0 != 0) = false := bne_eq_false_iff_eq.mpr c23
     clear c23
     obtain rfl := oI H
     obtain ⟨hcz24_0, hcz24_1, hcz24_2, hcz24_3, hcz24_4, hcz24_5⟩ := cz6 BK539.out
     obtain ⟨hfz24_0, hfz24_1, hfz24_2, hfz24_3, hfz24_4, hfz24_5⟩ := fz6 BK539.out
     go_wp2
     go_ret
     exact ⟨by rfl, by exact bW⟩
    ·rw [if_neg c23] at H
     have c23b0 : (a0_0 == 0) = false := beq_eq_false_iff_ne.mpr c23
     have c23b1 : (a0_0 != 0) = true := bne_iff_ne.mpr c23
     by_cases c25 : a0_0 = 2
     ·rw [if_pos c25] at H
      have c25b0 : (a0_0 == 2) = true := beq_iff_eq.mpr c25
      have c25b1 : (a0_0 != 2) = false := bne_eq_false_iff_eq.mpr c25
      clear c25
      replace H := oB H
      obtain ⟨t545, A260, H⟩ := H
      have A26 := am A260
      clear A260
      obtain rfl := oI H
      obtain ⟨hcz27_0, hcz27_1, hcz27_2, hcz27_3, hcz27_4, hcz27_5⟩ := cz6 BK539.out
      obtain ⟨hfz27_0, hfz27_1, hfz27_2, hfz27_3, hfz27_4, hfz27_5⟩ := fz6 BK539.out
      go_wp2_with (first | ((with_reducible refine gate_callee (f := 142) rfl ?_); refine goesL_ (some 46) rfl rfl Try.func142 (by kernel_rfl) rfl #[.int .i64 a0_1, .int .i64 a2] rfl tm ?_; (with_reducible refine (spec_Flip.calls kj5 a0_1 a2 t545 _ A26.out).mono ?_); rintro e w' ⟨rfl, ⟨nd, rfl⟩⟩; refine ⟨_, rfl, ?_⟩))
      go_ret
      exact ⟨by rfl, by exact bW⟩
     ·rw [if_neg c25] at H
      have c25b0 : (a0_0 == 2) = false := beq_eq_false_iff_ne.mpr c25
      have c25b1 : (a0_0 != 2) = true := bne_iff_ne.mpr c25
      by_cases c28 : a0_0 = 3
      ·rw [if_pos c28] at H
       have c28b0 : (a0_0 == 3) = true := beq_iff_eq.mpr c28
       have c28b1 : (a0_0 != 3) = false := bne_eq_false_iff_eq.mpr c28
       clear c28
       obtain rfl := oI H
       obtain ⟨hcz29_0, hcz29_1, hcz29_2, hcz29_3, hcz29_4, hcz29_5⟩ := cz6 BK539.out
       obtain ⟨hfz29_0, hfz29_1, hfz29_2, hfz29_3, hfz29_4, hfz29_5⟩ := fz6 BK539.out
       go_wp2
       go_ret
       exact ⟨by rfl, by exact bW⟩
      ·rw [if_neg c28] at H
       have c28b0 : (a0_0 == 3) = false := beq_eq_false_iff_ne.mpr c28
       have c28b1 : (a0_0 != 3) = true := bne_iff_ne.mpr c28
       by_cases c30 : a0_0 = 4
       ·rw [if_pos c30] at H
        have c30b0 : (a0_0 == 4) = true := beq_iff_eq.mpr c30
        have c30b1 : (a0_0 != 4) = false := bne_eq_false_iff_eq.mpr c30
        clear c30
        obtain rfl := oI H
        obtain ⟨hcz31_0, hcz31_1, hcz31_2, hcz31_3, hcz31_4, hcz31_5⟩ := cz6 BK539.out
        obtain ⟨hfz31_0, hfz31_1, hfz31_2, hfz31_3, hfz31_4, hfz31_5⟩ := fz6 BK539.out
        go_wp2
        go_ret
        exact ⟨by rfl, by exact bW⟩
       ·rw [if_neg c30] at H
        have c30b0 : (a0_0 == 4) = false := beq_eq_false_iff_ne.mpr c30
        have c30b1 : (a0_0 != 4) = true := bne_iff_ne.mpr c30
        by_cases c32 : a0_0 = 5
        ·rw [if_pos c32] at H
         have c32b0 : (a0_0 == 5) = true := beq_iff_eq.mpr c32
         have c32b1 : (a0_0 != 5) = false := bne_eq_false_iff_eq.mpr c32
         clear c32
         obtain rfl := oI H
         obtain ⟨hcz33_0, hcz33_1, hcz33_2, hcz33_3, hcz33_4, hcz33_5⟩ := cz6 BK539.out
         obtain ⟨hfz33_0, hfz33_1, hfz33_2, hfz33_3, hfz33_4, hfz33_5⟩ := fz6 BK539.out
         go_wp2
         go_ret
         exact ⟨by rfl, by exact bW⟩
        ·rw [if_neg c32] at H
         have c32b0 : (a0_0 == 5) = false := beq_eq_false_iff_ne.mpr c32
         have c32b1 : (a0_0 != 5) = true := bne_iff_ne.mpr c32
         by_cases c34 : a0_0 = 6
         ·rw [if_pos c34] at H
          have c34b0 : (a0_0 == 6) = true := beq_iff_eq.mpr c34
          have c34b1 : (a0_0 != 6) = false := bne_eq_false_iff_eq.mpr c34
          clear c34
          replace H := oB H
          obtain ⟨t546, A350, H⟩ := H
          have A35 := am A350
          clear A350
          obtain rfl := oI H
          obtain ⟨hcz36_0, hcz36_1, hcz36_2, hcz36_3, hcz36_4, hcz36_5⟩ := cz6 BK539.out
          obtain ⟨hfz36_0, hfz36_1, hfz36_2, hfz36_3, hfz36_4, hfz36_5⟩ := fz6 BK539.out
          go_wp2_with (first | ((with_reducible refine gate_callee (f := 143) rfl ?_); refine goesL_ (some 68) rfl rfl Try.func143 (by kernel_rfl) rfl #[.int .i64 a0_1, .int .i64 a2, .int .i64 a3] rfl tm ?_; (with_reducible refine (spec_Add.calls kj5 a0_1 a2 a3 t546 _ A35.out).mono ?_); rintro e w' ⟨rfl, ⟨nd, rfl⟩⟩; refine ⟨_, rfl, ?_⟩))
          go_ret
          exact ⟨by rfl, by exact bW⟩
         ·rw [if_neg c34] at H
          have c34b0 : (a0_0 == 6) = false := beq_eq_false_iff_ne.mpr c34
          have c34b1 : (a0_0 != 6) = true := bne_iff_ne.mpr c34
          by_cases c37 : a0_0 = 7
          ·rw [if_pos c37] at H
           have c37b0 : (a0_0 == 7) = true := beq_iff_eq.mpr c37
           have c37b1 : (a0_0 != 7) = false := bne_eq_false_iff_eq.mpr c37
           clear c37
           replace H := oB H
           obtain ⟨t547, A380, H⟩ := H
           have A38 := am A380
           clear A380
           obtain rfl := oI H
           obtain ⟨hcz39_0, hcz39_1, hcz39_2, hcz39_3, hcz39_4, hcz39_5⟩ := cz6 BK539.out
           obtain ⟨hfz39_0, hfz39_1, hfz39_2, hfz39_3, hfz39_4, hfz39_5⟩ := fz6 BK539.out
           go_wp2_with (first | ((with_reducible refine gate_callee (f := 144) rfl ?_); refine goesL_ (some 75) rfl rfl Try.func144 (by kernel_rfl) rfl #[.int .i64 a0_1, .int .i64 a2, .int .i64 a3] rfl tm ?_; (with_reducible refine (spec_Sub.calls kj5 a0_1 a2 a3 t547 _ A38.out).mono ?_); rintro e w' ⟨rfl, ⟨nd, rfl⟩⟩; refine ⟨_, rfl, ?_⟩))
           go_ret
           exact ⟨by rfl, by exact bW⟩
          ·rw [if_neg c37] at H
           have c37b0 : (a0_0 == 7) = false := beq_eq_false_iff_ne.mpr c37
           have c37b1 : (a0_0 != 7) = true := bne_iff_ne.mpr c37
           by_cases c40 : a0_0 = 8
           ·rw [if_pos c40] at H
            have c40b0 : (a0_0 == 8) = true := beq_iff_eq.mpr c40
            have c40b1 : (a0_0 != 8) = false := bne_eq_false_iff_eq.mpr c40
            clear c40
            replace H := oB H
            obtain ⟨t548, A410, H⟩ := H
            have A41 := am A410
            clear A410
            obtain rfl := oI H
            obtain ⟨hcz42_0, hcz42_1, hcz42_2, hcz42_3, hcz42_4, hcz42_5⟩ := cz6 BK539.out
            obtain ⟨hfz42_0, hfz42_1, hfz42_2, hfz42_3, hfz42_4, hfz42_5⟩ := fz6 BK539.out
            go_wp2_with (first | ((with_reducible refine gate_callee (f := 145) rfl ?_); refine goesL_ (some 82) rfl rfl Try.func145 (by kernel_rfl) rfl #[.int .i64 a0_1, .int .i64 a2, .int .i64 a3] rfl tm ?_; (with_reducible refine (spec_Mul.calls kj5 a0_1 a2 a3 t548 _ A41.out).mono ?_); rintro e w' ⟨rfl, ⟨nd, rfl⟩⟩; refine ⟨_, rfl, ?_⟩))
            go_ret
            exact ⟨by rfl, by exact bW⟩
           ·rw [if_neg c40] at H
            have c40b0 : (a0_0 == 8) = false := beq_eq_false_iff_ne.mpr c40
            have c40b1 : (a0_0 != 8) = true := bne_iff_ne.mpr c40
            by_cases c43 : a0_0 = 9
            ·rw [if_pos c43] at H
             have c43b0 : (a0_0 == 9) = true := beq_iff_eq.mpr c43
             have c43b1 : (a0_0 != 9) = false := bne_eq_false_iff_eq.mpr c43
             clear c43
             replace H := oB H
             obtain ⟨t549, A440, H⟩ := H
             have A44 := am A440
             clear A440
             obtain rfl := oI H
             obtain ⟨hcz45_0, hcz45_1, hcz45_2, hcz45_3, hcz45_4, hcz45_5⟩ := cz6 BK539.out
             obtain ⟨hfz45_0, hfz45_1, hfz45_2, hfz45_3, hfz45_4, hfz45_5⟩ := fz6 BK539.out
             go_wp2_with (first | ((with_reducible refine gate_callee (f := 146) rfl ?_); refine goesL_ (some 89) rfl rfl Try.func146 (by kernel_rfl) rfl #[.int .i64 a0_1, .int .i64 a2, .int .i64 a3] rfl tm ?_; (with_reducible refine (spec_Div.calls kj5 a0_1 a2 a3 t549 _ A44.out).mono ?_); rintro e w' ⟨rfl, ⟨nd, rfl⟩⟩; refine ⟨_, rfl, ?_⟩))
             go_ret
             exact ⟨by rfl, by exact bW⟩
            ·rw [if_neg c43] at H
             have c43b0 : (a0_0 == 9) = false := beq_eq_false_iff_ne.mpr c43
             have c43b1 : (a0_0 != 9) = true := bne_iff_ne.mpr c43
             by_cases c46 : a0_0 = 10
             ·rw [if_pos c46] at H
              have c46b0 : (a0_0 == 10) = true := beq_iff_eq.mpr c46
              have c46b1 : (a0_0 != 10) = false := bne_eq_false_iff_eq.mpr c46
              clear c46
              replace H := oB H
              obtain ⟨t550, A470, H⟩ := H
              have A47 := am A470
              clear A470
              obtain rfl := oI H
              obtain ⟨hcz48_0, hcz48_1, hcz48_2, hcz48_3, hcz48_4, hcz48_5⟩ := cz6 BK539.out
              obtain ⟨hfz48_0, hfz48_1, hfz48_2, hfz48_3, hfz48_4, hfz48_5⟩ := fz6 BK539.out
              go_wp2_with (first | ((with_reducible refine gate_callee (f := 147) rfl ?_); refine goesL_ (some 96) rfl rfl Try.func147 (by kernel_rfl) rfl #[.int .i64 a0_1, .int .i64 a2, .int .i64 a3] rfl tm ?_; (with_reducible refine (spec_Rem.calls kj5 a0_1 a2 a3 t550 _ A47.out).mono ?_); rintro e w' ⟨rfl, ⟨nd, rfl⟩⟩; refine ⟨_, rfl, ?_⟩))
              go_ret
              exact ⟨by rfl, by exact bW⟩
             ·rw [if_neg c46] at H
              have c46b0 : (a0_0 == 10) = false := beq_eq_false_iff_ne.mpr c46
              have c46b1 : (a0_0 != 10) = true := bne_iff_ne.mpr c46
              by_cases c49 : a0_0 = 11
              ·rw [if_pos c49] at H
               have c49b0 : (a0_0 == 11) = true := beq_iff_eq.mpr c49
               have c49b1 : (a0_0 != 11) = false := bne_eq_false_iff_eq.mpr c49
               clear c49
               replace H := oB H
               obtain ⟨t551, A500, H⟩ := H
               have A50 := am A500
               clear A500
               obtain rfl := oI H
               obtain ⟨hcz51_0, hcz51_1, hcz51_2, hcz51_3, hcz51_4, hcz51_5⟩ := cz6 BK539.out
               obtain ⟨hfz51_0, hfz51_1, hfz51_2, hfz51_3, hfz51_4, hfz51_5⟩ := fz6 BK539.out
               go_wp2_with (first | ((with_reducible refine gate_callee (f := 148) rfl ?_); refine goesL_ (some 103) rfl rfl Try.func148 (by kernel_rfl) rfl #[.int .i64 a0_1, .int .i64 a2, .int .i64 a3] rfl tm ?_; (with_reducible refine (spec_Shl.calls kj5 a0_1 a2 a3 t551 _ A50.out).mono ?_); rintro e w' ⟨rfl, ⟨nd, rfl⟩⟩; refine ⟨_, rfl, ?_⟩))
               go_ret
               exact ⟨by rfl, by exact bW⟩
              ·rw [if_neg c49] at H
               have c49b0 : (a0_0 == 11) = false := beq_eq_false_iff_ne.mpr c49
               have c49b1 : (a0_0 != 11) = true := bne_iff_ne.mpr c49
               by_cases c52 : a0_0 = 12
               ·rw [if_pos c52] at H
                have c52b0 : (a0_0 == 12) = true := beq_iff_eq.mpr c52
                have c52b1 : (a0_0 != 12) = false := bne_eq_false_iff_eq.mpr c52
                clear c52
                replace H := oB H
                obtain ⟨t552, A530, H⟩ := H
                have A53 := am A530
                clear A530
                obtain rfl := oI H
                obtain ⟨hcz54_0, hcz54_1, hcz54_2, hcz54_3, hcz54_4, hcz54_5⟩ := cz6 BK539.out
                obtain ⟨hfz54_0, hfz54_1, hfz54_2, hfz54_3, hfz54_4, hfz54_5⟩ := fz6 BK539.out
                go_wp2_with (first | ((with_reducible refine gate_callee (f := 149) rfl ?_); refine goesL_ (some 110) rfl rfl Try.func149 (by kernel_rfl) rfl #[.int .i64 a0_1, .int .i64 a2, .int .i64 a3] rfl tm ?_; (with_reducible refine (spec_Shr.calls kj5 a0_1 a2 a3 t552 _ A53.out).mono ?_); rintro e w' ⟨rfl, ⟨nd, rfl⟩⟩; refine ⟨_, rfl, ?_⟩))
                go_ret
                exact ⟨by rfl, by exact bW⟩
               ·rw [if_neg c52] at H
                have c52b0 : (a0_0 == 12) = false := beq_eq_false_iff_ne.mpr c52
                have c52b1 : (a0_0 != 12) = true := bne_iff_ne.mpr c52
                by_cases c55 : a0_0 = 13
                ·rw [if_pos c55] at H
                 have c55b0 : (a0_0 == 13) = true := beq_iff_eq.mpr c55
                 have c55b1 : (a0_0 != 13) = false := bne_eq_false_iff_eq.mpr c55
                 clear c55
                 replace H := oB H
                 obtain ⟨t553, A560, H⟩ := H
                 have A56 := am A560
                 clear A560
                 obtain rfl := oI H
                 obtain ⟨hcz57_0, hcz57_1, hcz57_2, hcz57_3, hcz57_4, hcz57_5⟩ := cz6 BK539.out
                 obtain ⟨hfz57_0, hfz57_1, hfz57_2, hfz57_3, hfz57_4, hfz57_5⟩ := fz6 BK539.out
                 go_wp2_with (first | ((with_reducible refine gate_callee (f := 150) rfl ?_); refine goesL_ (some 116) rfl rfl Try.func150 (by kernel_rfl) rfl #[.bool (a2 == a3)] rfl tm ?_; (with_reducible refine (spec_l01Bool.calls (a2 == a3) t553 _ A56.out).mono ?_); rintro e w' ⟨rfl, ⟨nd, rfl⟩⟩; refine ⟨_, rfl, ?_⟩))
                 go_ret
                 exact ⟨by rfl, by exact bW⟩
                ·rw [if_neg c55] at H
                 have c55b0 : (a0_0 == 13) = false := beq_eq_false_iff_ne.mpr c55
                 have c55b1 : (a0_0 != 13) = true := bne_iff_ne.mpr c55
                 by_cases c58 : a0_0 = 14
                 ·rw [if_pos c58] at H
                  have c58b0 : (a0_0 == 14) = true := beq_iff_eq.mpr c58
                  have c58b1 : (a0_0 != 14) = false := bne_eq_false_iff_eq.mpr c58
                  clear c58
                  replace H := oB H
                  obtain ⟨t554, A590, H⟩ := H
                  have A59 := am A590
                  clear A590
                  obtain rfl := oI H
                  obtain ⟨hcz60_0, hcz60_1, hcz60_2, hcz60_3, hcz60_4, hcz60_5⟩ := cz6 BK539.out
                  obtain ⟨hfz60_0, hfz60_1, hfz60_2, hfz60_3, hfz60_4, hfz60_5⟩ := fz6 BK539.out
                  go_wp2_with (first | ((with_reducible refine gate_callee (f := 151) rfl ?_); refine goesL_ (some 122) rfl rfl Try.func151 (by kernel_rfl) rfl #[.int .i64 a1, .int .i64 a2, .int .i64 a3] rfl tm ?_; (with_reducible refine (spec_Less.calls kj5 a1 a2 a3 t554 _ A59.out).mono ?_); rintro e w' ⟨rfl, ⟨nd, rfl⟩⟩; refine ⟨_, rfl, ?_⟩))
                  go_ret
                  exact ⟨by rfl, by exact bW⟩
                 ·rw [if_neg c58] at H
                  have c58b0 : (a0_0 == 14) = false := beq_eq_false_iff_ne.mpr c58
                  have c58b1 : (a0_0 != 14) = true := bne_iff_ne.mpr c58
                  by_cases c61 : a0_0 = 15
                  ·rw [if_pos c61] at H
                   have c61b0 : (a0_0 == 15) = true := beq_iff_eq.mpr c61
                   have c61b1 : (a0_0 != 15) = false := bne_eq_false_iff_eq.mpr c61
                   clear c61
                   replace H := oB H
                   obtain ⟨t555, A620, H⟩ := H
                   have A62 := am A620
                   clear A620
                   obtain rfl := oI H
                   obtain ⟨hcz63_0, hcz63_1, hcz63_2, hcz63_3, hcz63_4, hcz63_5⟩ := cz6 BK539.out
                   obtain ⟨hfz63_0, hfz63_1, hfz63_2, hfz63_3, hfz63_4, hfz63_5⟩ := fz6 BK539.out
                   go_wp2_with (first | ((with_reducible refine gate_callee (f := 152) rfl ?_); refine goesL_ (some 128) rfl rfl Try.func152 (by kernel_rfl) rfl #[.int .i64 a1, .int .i64 a2, .int .i64 a3] rfl tm ?_; (with_reducible refine (spec_LessSigned.calls kj5 a1 a2 a3 t555 _ A62.out).mono ?_); rintro e w' ⟨rfl, ⟨nd, rfl⟩⟩; refine ⟨_, rfl, ?_⟩))
                   go_ret
                   exact ⟨by rfl, by exact bW⟩
                  ·rw [if_neg c61] at H
                   have c61b0 : (a0_0 == 15) = false := beq_eq_false_iff_ne.mpr c61
                   have c61b1 : (a0_0 != 15) = true := bne_iff_ne.mpr c61
                   by_cases c64 : a0_0 = 16
                   ·rw [if_pos c64] at H
                    have c64b0 : (a0_0 == 16) = true := beq_iff_eq.mpr c64
                    have c64b1 : (a0_0 != 16) = false := bne_eq_false_iff_eq.mpr c64
                    clear c64
                    by_cases c65 : a0_1 < a1
                    ·rw [if_pos c65] at H
                     have c65b0 : decide (a0_1 < a1) = true := decide_eq_true c65
                     clear c65
                     obtain rfl := oI H
                     obtain ⟨hcz66_0, hcz66_1, hcz66_2, hcz66_3, hcz66_4, hcz66_5⟩ := cz6 BK539.out
                     obtain ⟨hfz66_0, hfz66_1, hfz66_2, hfz66_3, hfz66_4, hfz66_5⟩ := fz6 BK539.out
                     go_wp2
                     go_ret
                     exact ⟨by rfl, by exact bW⟩
                    ·rw [if_neg c65] at H
                     have c65b0 : decide (a0_1 < a1) = false := decide_eq_false c65
                     clear c65
                     replace H := oB H
                     obtain ⟨t556, A670, H⟩ := H
                     have A67 := am A670
                     clear A670
                     obtain rfl := oI H
                     obtain ⟨hcz68_0, hcz68_1, hcz68_2, hcz68_3, hcz68_4, hcz68_5⟩ := cz6 BK539.out
                     obtain ⟨hfz68_0, hfz68_1, hfz68_2, hfz68_3, hfz68_4, hfz68_5⟩ := fz6 BK539.out
                     go_wp2_with (first | ((with_reducible refine gate_callee (f := 81) rfl ?_); refine goesL_ (some 141) rfl rfl Try.func81 (by kernel_rfl) rfl #[.int .i64 (wrap64 (a0_1 - a1))] rfl tm ?_; (with_reducible refine (spec_l01Pow2.calls kj5 (wrap64 (a0_1 - a1)) t556 _ A67.out).mono ?_); rintro e w' ⟨rfl, ⟨nd, rfl⟩⟩; refine ⟨_, rfl, ?_⟩))
                     go_ret
                     exact ⟨by rfl, by exact bW⟩
                   ·rw [if_neg c64] at H
                    have c64b0 : (a0_0 == 16) = false := beq_eq_false_iff_ne.mpr c64
                    have c64b1 : (a0_0 != 16) = true := bne_iff_ne.mpr c64
                    by_cases c69 : a0_0 = 17
                    ·rw [if_pos c69] at H
                     have c69b0 : (a0_0 == 17) = true := beq_iff_eq.mpr c69
                     have c69b1 : (a0_0 != 17) = false := bne_eq_false_iff_eq.mpr c69
                     clear c69
                     replace H := oB H
                     obtain ⟨t557, A700, H⟩ := H
                     have A70 := am A700
                     clear A700
                     obtain rfl := oI H
                     obtain ⟨hcz71_0, hcz71_1, hcz71_2, hcz71_3, hcz71_4, hcz71_5⟩ := cz6 BK539.out
                     obtain ⟨hfz71_0, hfz71_1, hfz71_2, hfz71_3, hfz71_4, hfz71_5⟩ := fz6 BK539.out
                     go_wp2_with (first | ((with_reducible refine gate_callee (f := 153) rfl ?_); refine goesL_ (some 153) rfl rfl Try.func153 (by kernel_rfl) rfl #[.int .i64 a1, .int .i64 a2, .int .i64 a0_2, .int .i64 a0_1] rfl tm ?_; (with_reducible refine (spec_Slice.calls kj5 a1 a2 a0_2 a0_1 t557 _ A70.out).mono ?_); rintro e w' ⟨rfl, ⟨nd, rfl⟩⟩; refine ⟨_, rfl, ?_⟩))
                     go_ret
                     exact ⟨by rfl, by exact bW⟩
                    ·rw [if_neg c69] at H
                     have c69b0 : (a0_0 == 17) = false := beq_eq_false_iff_ne.mpr c69
                     have c69b1 : (a0_0 != 17) = true := bne_iff_ne.mpr c69
                     by_cases c72 : a0_0 = 18
                     ·rw [if_pos c72] at H
                      have c72b0 : (a0_0 == 18) = true := beq_iff_eq.mpr c72
                      have c72b1 : (a0_0 != 18) = false := bne_eq_false_iff_eq.mpr c72
                      clear c72
                      by_cases c73 : a2 = 1
                      ·rw [if_pos c73] at H
                       have c73b0 : (a2 == 1) = true := beq_iff_eq.mpr c73
                       have c73b1 : (a2 != 1) = false := bne_eq_false_iff_eq.mpr c73
                       clear c73
                       obtain rfl := oI H
                       obtain ⟨hcz74_0, hcz74_1, hcz74_2, hcz74_3, hcz74_4, hcz74_5⟩ := cz6 BK539.out
                       obtain ⟨hfz74_0, hfz74_1, hfz74_2, hfz74_3, hfz74_4, hfz74_5⟩ := fz6 BK539.out
                       go_wp2
                       go_ret
                       exact ⟨by rfl, by exact bW⟩
                      ·rw [if_neg c73] at H
                       have c73b0 : (a2 == 1) = false := beq_eq_false_iff_ne.mpr c73
                       have c73b1 : (a2 != 1) = true := bne_iff_ne.mpr c73
                       obtain rfl := oI H
                       obtain ⟨hcz75_0, hcz75_1, hcz75_2, hcz75_3, hcz75_4, hcz75_5⟩ := cz6 BK539.out
                       obtain ⟨hfz75_0, hfz75_1, hfz75_2, hfz75_3, hfz75_4, hfz75_5⟩ := fz6 BK539.out
                       go_wp2
                       go_ret
                       exact ⟨by rfl, by exact bW⟩
                     ·rw [if_neg c72] at H
                      have c72b0 : (a0_0 == 18) = false := beq_eq_false_iff_ne.mpr c72
                      have c72b1 : (a0_0 != 18) = true := bne_iff_ne.mpr c72
                      obtain rfl := oI H
                      obtain ⟨hcz76_0, hcz76_1, hcz76_2, hcz76_3, hcz76_4, hcz76_5⟩ := cz6 BK539.out
                      obtain ⟨hfz76_0, hfz76_1, hfz76_2, hfz76_3, hfz76_4, hfz76_5⟩ := fz6 BK539.out
                      go_wp2
                      go_ret
                      exact ⟨by rfl, by exact bW⟩
/-! ### spec_l04One: function 82 -/
mutual
def spec_l04One.l0 (AT : List (S31) → List Int → Int → Option (Int × List Int)) : Nat → List (S31) → List Int → Int → Int → Int → Int → Int → Int → Int → Int → Int → Int → Option (Int × List Int)
 | 0, _, _, _, _, _, _, _, _, _, _, _, _ => none
 | k + 1, x0, x1, x10, x11, x12, x13, x396000, x396001, x396002, x396003, x396004, x396005 => (spec_l01Pow2.f k x396004).bind fun t399 => (if x13 < t399 then (if 0 ≤ x396002 then (if x396002 < (x1.length : Int) then ((AT x0 (x1.set (x396002 : Int).toNat x13) x396003).bind fun bt401 => (if bt401.1 = 1 then (spec_l04One.l0 AT k x0 bt401.2 x10 x11 1 (wrap64 (x13 + 1)) x396000 x396001 x396002 x396003 x396004 x396005) else (spec_l04One.l0 AT k x0 bt401.2 x10 0 x12 (wrap64 (x13 + 1)) x396000 x396001 x396002 x396003 x396004 x396005))) else (none)) else (none)) else (if 0 ≤ x396002 then (if x396002 < (x1.length : Int) then ((some (x1.set (x396002 : Int).toNat x10 : List Int)).bind fun y403 => (if x396000 = 19 then (some (x11, y403)) else (some (x12, y403)))) else (none)) else (none)))
def spec_l04One.l1 (AT : List (S31) → List Int → Int → Option (Int × List Int)) : Nat → List (S31) → List Int → List Int → List Int → Int → List Int → Int → Int → Int → Int → Int → Int → Int → Option (Int × List Int)
 | 0, _, _, _, _, _, _, _, _, _, _, _, _, _ => none
 | k + 1, x0, x1, x2, x14, x15, x16, x17, x396000, x396001, x396002, x396003, x396004, x396005 => if x17 < (x16.length : Int) then (if 0 ≤ x17 then (if 0 ≤ (rd x16 x17) then (if (rd x16 x17) < (x2.length : Int) then (if x17 < (x14.length : Int) then ((some (x14.set (x17 : Int).toNat (rd x2 (rd x16 x17)) : List Int)).bind fun y412 => (if x17 = 0 then (if (rd x16 x17) < (x0.length : Int) then (spec_l04One.l1 AT k x0 x1 x2 y412 ((rd_T31 x0 (rd x16 x17)).f1) x16 (wrap64 (x17 + 1)) x396000 x396001 x396002 x396003 x396004 x396005) else (none)) else (spec_l04One.l1 AT k x0 x1 x2 y412 x15 x16 (wrap64 (x17 + 1)) x396000 x396001 x396002 x396003 x396004 x396005))) else (none)) else (none)) else (none)) else (none)) else (if 0 < (x14.length : Int) then (if 1 < (x14.length : Int) then (if 2 < (x14.length : Int) then ((spec_Apply.f k x396000 x396001 x396002 x396003 x396004 x396005 x15 (rd x14 0) (rd x14 1) (rd x14 2)).bind fun t418 => (some (t418, x1))) else (none)) else (none)) else (none))
end
def spec_l04One.f (AT : List (S31) → List Int → Int → Option (Int × List Int)) (k : Nat) (l0 : List (S31)) (l1 : List Int) (l2 : List Int) (a3 : Int) : Option (Int × List Int) := if 0 ≤ a3 then (if a3 < (l0.length : Int) then (if ((rd_T31 l0 a3).f0) = 1 then (if 0 ≤ ((rd_T31 l0 a3).f2) then (if ((rd_T31 l0 a3).f2) < (l1.length : Int) then (some (rd l1 ((rd_T31 l0 a3).f2), l1)) else (none)) else (none)) else ((spec_l02Quant.f ((rd_T31 l0 a3).f0)).bind fun t397 => (if t397 = true then (if 0 ≤ ((rd_T31 l0 a3).f2) then (if ((rd_T31 l0 a3).f2) < (l1.length : Int) then (spec_l04One.l0 AT k l0 l1 (rd l1 ((rd_T31 l0 a3).f2)) 1 0 0 ((rd_T31 l0 a3).f0) ((rd_T31 l0 a3).f1) ((rd_T31 l0 a3).f2) ((rd_T31 l0 a3).f3) ((rd_T31 l0 a3).f4) ((rd_T31 l0 a3).f5)) else (none)) else (none)) else ((spec_Parts.f k ((rd_T31 l0 a3).f0) ((rd_T31 l0 a3).f1) ((rd_T31 l0 a3).f2) ((rd_T31 l0 a3).f3) ((rd_T31 l0 a3).f4) ((rd_T31 l0 a3).f5)).bind fun t407 => (spec_l04One.l1 AT k l0 l1 l2 (([0, 0, 0] : List Int)) 1 t407 0 ((rd_T31 l0 a3).f0) ((rd_T31 l0 a3).f1) ((rd_T31 l0 a3).f2) ((rd_T31 l0 a3).f3) ((rd_T31 l0 a3).f4) ((rd_T31 l0 a3).f5)))))) else (none)) else (none)
def spec_l04One.T27 : Bool × List (List Nat × List Nat) := (true, [([], []), ([], []), ([], []), ([2], [2]), ([3], [3]), ([], []), ([5], [5]), ([6], [6]), ([], []), ([8], [8]), ([9], [9]), ([0, 1, 4, 7, 10], [0, 1, 4, 7, 10]), ([11, 11, 0, 1, 2, 3, 4, 5, 6, 7, 8, 9, 10, 11], [11])])
def spec_l04One.B27 : List Nat := [0, 0, 0, 4, 12, 0, 32, 96, 0, 256, 768, 2047, 4095]
theorem spec_l04One.tab27 : rtab .any (opsOf Try.f82 27) = spec_l04One.T27 := by kernel_rfl
theorem spec_l04One.bits27 : waitsOk spec_l04One.T27.2 spec_l04One.B27 = true := by kernel_rfl
set_option maxHeartbeats 8000000 in
set_option maxRecDepth 100000 in
theorem spec_l04One.calls (AT : List (S31) → List Int → Int → Option (Int × List Int)) (hAT : ∀ (A0 : Option Addr) (c0 : Nat) (l0 : List (S31)) (P1_ : Nat → Prop) (u9000_ : Value) (l1 : List Int) (a2 : Int) (r1 : Int) (r2 : List Int) (w0 w : World) (hB : Below w0.heap.size w0 w) (hr0 : ∀ W_, Kept w W_ (fun k_ => P1_ k_) → Kd.C k31 W_ A0 l0.length l0) (hc0 : l0.length ≤ c0) (ho1 : Kd.R (Kd.int .i64) 3 w w0.heap.size P1_ u9000_ l1) (h : AT l0 l1 a2 = some (r1, r2)), Calls Try.prog 52 #[.slice A0 l0.length c0, u9000_, .int .i64 a2] w fun e w' => e = .returned (.int .i64 r1) ∧ Kd.R (Kd.int .i64) 3 w' w0.heap.size (fun k_ => (P1_ k_ ∨ w.heap.size ≤ k_)) u9000_ r2 ∧ Below w0.heap.size w0 w' ∧ Kept w w' (fun k_ => P1_ k_)) (k : Nat) (A0 : Option Addr) (c0 : Nat) (l0 : List (S31)) (P1_ : Nat → Prop) (u9000_ : Value) (l1 : List Int) (A2 : Option Addr) (c2 : Nat) (l2 : List Int) (a3 : Int) (r1 : Int) (r2 : List Int) (w0 w : World) (hB : Below w0.heap.size w0 w) (hr0 : ∀ W_, Kept w W_ (fun k_ => P1_ k_) → Kd.C k31 W_ A0 l0.length l0) (hc0 : l0.length ≤ c0) (ho1 : Kd.R (Kd.int .i64) 3 w w0.heap.size P1_ u9000_ l1) (hr2 : ∀ W_, Kept w W_ (fun k_ => P1_ k_) → Kd.C (Kd.int .i64) W_ A2 l2.length l2) (hc2 : l2.length ≤ c2) (h : spec_l04One.f AT k l0 l1 l2 a3 = some (r1, r2)) :
  Calls Try.prog 82 #[.slice A0 l0.length c0, u9000_, .slice A2 l2.length c2, .int .i64 a3] w fun e w' => e = .returned (.int .i64 r1) ∧ Kd.R (Kd.int .i64) 3 w' w0.heap.size (fun k_ => (P1_ k_ ∨ w.heap.size ≤ k_)) u9000_ r2 ∧ Below w0.heap.size w0 w' ∧ Kept w w' (fun k_ => P1_ k_) := by
 have HAT := am hAT
 clear hAT
 have hu31 := Try.underlying31
 have HR0 := am hr0
 have HC0 := am hc0
 clear hr0 hc0
 have HO1 := am (show Kd.R (Kd.int .i64) 3 w w0.heap.size (fun k_ => (P1_ k_ ∨ w.heap.size ≤ k_)) u9000_ l1 from Kd.R_mono ho1 (fun k_ hk => (.inl hk)))
 have HR2 := am hr2
 have HC2 := am hc2
 clear hr2 hc2
 have HK := am (Kept.refl w (fun k_ => P1_ k_))
 have HW0 := am hB.size
 have HB := am hB
 clear hB
 have H : (if 0 ≤ a3 then (if a3 < (l0.length : Int) then (if ((rd_T31 l0 a3).f0) = 1 then (if 0 ≤ ((rd_T31 l0 a3).f2) then (if ((rd_T31 l0 a3).f2) < (l1.length : Int) then (some (rd l1 ((rd_T31 l0 a3).f2), l1)) else (none)) else (none)) else ((spec_l02Quant.f ((rd_T31 l0 a3).f0)).bind fun t397 => (if t397 = true then (if 0 ≤ ((rd_T31 l0 a3).f2) then (if ((rd_T31 l0 a3).f2) < (l1.length : Int) then (spec_l04One.l0 AT k l0 l1 (rd l1 ((rd_T31 l0 a3).f2)) 1 0 0 ((rd_T31 l0 a3).f0) ((rd_T31 l0 a3).f1) ((rd_T31 l0 a3).f2) ((rd_T31 l0 a3).f3) ((rd_T31 l0 a3).f4) ((rd_T31 l0 a3).f5)) else (none)) else (none)) else ((spec_Parts.f k ((rd_T31 l0 a3).f0) ((rd_T31 l0 a3).f1) ((rd_T31 l0 a3).f2) ((rd_T31 l0 a3).f3) ((rd_T31 l0 a3).f4) ((rd_T31 l0 a3).f5)).bind fun t407 => (spec_l04One.l1 AT k l0 l1 l2 (([0, 0, 0] : List Int)) 1 t407 0 ((rd_T31 l0 a3).f0) ((rd_T31 l0 a3).f1) ((rd_T31 l0 a3).f2) ((rd_T31 l0 a3).f3) ((rd_T31 l0 a3).f4) ((rd_T31 l0 a3).f5)))))) else (none)) else (none)) = some (r1, r2) := h
 clear h
 by_cases c5 : 0 ≤ a3
 ·rw [if_pos c5] at H
  have c5b0 : decide (0 ≤ a3) = true := decide_eq_true c5
  clear c5
  by_cases c6 : a3 < (l0.length : Int)
  ·rw [if_pos c6] at H
   have c6b0 : decide (a3 < (l0.length : Int)) = true := decide_eq_true c6
   clear c6
   by_cases c7 : ((rd_T31 l0 a3).f0) = 1
   ·rw [if_pos c7] at H
    have c7b0 : (((rd_T31 l0 a3).f0) == 1) = true := beq_iff_eq.mpr c7
    have c7b1 : (((rd_T31 l0 a3).f0) != 1) = false := bne_eq_false_iff_eq.mpr c7
    clear c7
    by_cases c8 : 0 ≤ ((rd_T31 l0 a3).f2)
    ·rw [if_pos c8] at H
     have c8b0 : decide (0 ≤ ((rd_T31 l0 a3).f2)) = true := decide_eq_true c8
     clear c8
     by_cases c9 : ((rd_T31 l0 a3).f2) < (l1.length : Int)
     ·rw [if_pos c9] at H
      have c9b0 : decide (((rd_T31 l0 a3).f2) < (l1.length : Int)) = true := decide_eq_true c9
      clear c9
      simp only [Option.some.injEq, Prod.mk.injEq] at H
      obtain ⟨rfl, rfl⟩ := H
      have p394 : 0 ≤ (a3 : Int) := oD (by (with_reducible assumption))
      have q394 : a3 < (l0.length : Int) := oD (by (with_reducible assumption))
      obtain ⟨ad394, e394, hx394_0, hx394_1, hx394_2, hx394_3, hx394_4, hx394_5⟩ := at_T31 (Kd.C_kept_now HR0.out HK.out) a3 p394 q394
      cases e394
      replace p394 := eq_true p394
      replace q394 := eq_true q394
      go_enter Try.func82, Try.ntmps82
      go_wp2_with (first | ((with_reducible refine gate_dst (N := 9) rfl ?_); refine box_event ?hg (N := 9) ?hd (cs := #[.int .i64 0, .int .i64 0, .int .i64 0, .int .i64 0, .int .i64 0, .int .i64 0]) (t := 31) ?hr ?_; (case hd => rfl); (case hg => rfl); (case hr => (go_simp; done)); intro gb395 hg w10 hbox hb; have n0_ := am (Kd.R_below (by exact sR <| HO1.out) hb); have n1_ := am (Kept.below (S := (fun k_ => P1_ k_)) (by repeat (first | (with_reducible first | exact HK.out | apply Kept.alloc | apply Kept.drewN | apply Kept.drew) | exact HK.out)) hb); have n2_ := am (below_step (by exact sW HB.out) hb); have n3_ := am (hbox); have n4_ := am ((by rw [hg]; exact (by exact HK.out.1) : w.heap.size ≤ gb395)); have n5_ := am ((by rw [hg]; exact (below_size (by exact sW HB.out)) : w0.heap.size ≤ gb395)); clear HO1; clear HK; clear HB; have HO1 := n0_; have HK := n1_; have HB := n2_; have BK395 := n3_; have GW395 := n4_; have GE395 := n5_; clear n0_ n1_ n2_ n3_ n4_ n5_; clear hb hbox hg; have hcz11_0 : w10.cell? ⟨gb395, 0, none⟩ = some (.int .i64 0) := (blk_cell BK395.out 0).trans rfl; have hcz11_1 : w10.cell? ⟨gb395, 1, none⟩ = some (.int .i64 0) := (blk_cell BK395.out 1).trans rfl; have hcz11_2 : w10.cell? ⟨gb395, 2, none⟩ = some (.int .i64 0) := (blk_cell BK395.out 2).trans rfl; have hcz11_3 : w10.cell? ⟨gb395, 3, none⟩ = some (.int .i64 0) := (blk_cell BK395.out 3).trans rfl; have hcz11_4 : w10.cell? ⟨gb395, 4, none⟩ = some (.int .i64 0) := (blk_cell BK395.out 4).trans rfl; have hcz11_5 : w10.cell? ⟨gb395, 5, none⟩ = some (.int .i64 0) := (blk_cell BK395.out 5).trans rfl; have hfz11_0 := blk_frozen BK395.out 0; have hfz11_1 := blk_frozen BK395.out 1; have hfz11_2 := blk_frozen BK395.out 2; have hfz11_3 := blk_frozen BK395.out 3; have hfz11_4 := blk_frozen BK395.out 4; have hfz11_5 := blk_frozen BK395.out 5; obtain ⟨Ao12, co12, eo12⟩ := Kd.R_slice HO1.out; subst eo12; have p396 : 0 ≤ (((rd_T31 l0 a3).f2) : Int) := oD (by (with_reducible assumption)); have q396 : ((rd_T31 l0 a3).f2) < (l1.length : Int) := oD (by (with_reducible assumption)); obtain ⟨ad396, e396, hx396_0⟩ := Kd.at_int (Kd.R_reads' HO1.out).2.2 ((rd_T31 l0 a3).f2) p396 q396; cases e396; have hn396_0 : ad396.block ≠ gb395 := Kd.own_blk (Kd.R_ne HO1.out BK395.out (by decide)); have hn396_1 : ad396.block ≠ gb395 := Kd.own_blk (Kd.R_ne HO1.out BK395.out (by decide)); have hn396_2 : ad396.block ≠ gb395 := Kd.own_blk (Kd.R_ne HO1.out BK395.out (by decide)); have hn396_3 : ad396.block ≠ gb395 := Kd.own_blk (Kd.R_ne HO1.out BK395.out (by decide)); have hn396_4 : ad396.block ≠ gb395 := Kd.own_blk (Kd.R_ne HO1.out BK395.out (by decide)); have hn396_5 : ad396.block ≠ gb395 := Kd.own_blk (Kd.R_ne HO1.out BK395.out (by decide)); replace hx396_0 := (cell_far (p := ⟨gb395, 0, none⟩) (by (rw [add_block]; exact hn396_0)) (.int .i64 ((rd_T31 l0 a3).f0))).trans hx396_0; replace hx396_0 := (cell_far (p := ⟨gb395, 1, none⟩) (by (rw [add_block]; exact hn396_1)) (.int .i64 ((rd_T31 l0 a3).f1))).trans hx396_0; replace hx396_0 := (cell_far (p := ⟨gb395, 2, none⟩) (by (rw [add_block]; exact hn396_2)) (.int .i64 ((rd_T31 l0 a3).f2))).trans hx396_0; replace hx396_0 := (cell_far (p := ⟨gb395, 3, none⟩) (by (rw [add_block]; exact hn396_3)) (.int .i64 ((rd_T31 l0 a3).f3))).trans hx396_0; replace hx396_0 := (cell_far (p := ⟨gb395, 4, none⟩) (by (rw [add_block]; exact hn396_4)) (.int .i64 ((rd_T31 l0 a3).f4))).trans hx396_0; replace hx396_0 := (cell_far (p := ⟨gb395, 5, none⟩) (by (rw [add_block]; exact hn396_5)) (.int .i64 ((rd_T31 l0 a3).f5))).trans hx396_0; clear hn396_0; clear hn396_1; clear hn396_2; clear hn396_3; clear hn396_4; clear hn396_5; replace p396 := eq_true p396; replace q396 := eq_true q396))
      go_ret
      exact ⟨by rfl, by exact sR <| Kd.R_mono (Kd.R_far (p := ⟨gb395, 5, none⟩) (Kd.R_far (p := ⟨gb395, 4, none⟩) (Kd.R_far (p := ⟨gb395, 3, none⟩) (Kd.R_far (p := ⟨gb395, 2, none⟩) (Kd.R_far (p := ⟨gb395, 1, none⟩) (Kd.R_far (p := ⟨gb395, 0, none⟩) (Kd.R_types HO1.out BK395.out (by decide)) (fun _ hk => hk.2) (.int .i64 ((rd_T31 l0 a3).f0))) (fun _ hk => hk.2) (.int .i64 ((rd_T31 l0 a3).f1))) (fun _ hk => hk.2) (.int .i64 ((rd_T31 l0 a3).f2))) (fun _ hk => hk.2) (.int .i64 ((rd_T31 l0 a3).f3))) (fun _ hk => hk.2) (.int .i64 ((rd_T31 l0 a3).f4))) (fun _ hk => hk.2) (.int .i64 ((rd_T31 l0 a3).f5))) (fun _ hk => hk.1), by exact bW, by repeat (first | (with_reducible first | exact HK.out | apply Kept.alloc | apply Kept.drewN | apply Kept.drew | refine Kept.setCell ?_ (.inr GW395.out) _) | exact HK.out)⟩
     ·rw [if_neg c9] at H
      exact absurd H (by simp)
    ·rw [if_neg c8] at H
     exact absurd H (by simp)
   ·rw [if_neg c7] at H
    have c7b0 : (((rd_T31 l0 a3).f0) == 1) = false := beq_eq_false_iff_ne.mpr c7
    have c7b1 : (((rd_T31 l0 a3).f0) != 1) = true := bne_iff_ne.mpr c7
    clear c7
    replace H := oB H
    obtain ⟨t397, A130, H⟩ := H
    have A13 := am A130
    clear A130
    by_cases c14 : t397 = true
    ·subst c14
     rw [if_pos rfl] at H
     by_cases c15 : 0 ≤ ((rd_T31 l0 a3).f2)
     ·rw [if_pos c15] at H
      have c15b0 : decide (0 ≤ ((rd_T31 l0 a3).f2)) = true := decide_eq_true c15
      clear c15
      by_cases c16 : ((rd_T31 l0 a3).f2) < (l1.length : Int)
      ·rw [if_pos c16] at H
       have c16b0 : decide (((rd_T31 l0 a3).f2) < (l1.length : Int)) = true := decide_eq_true c16
       clear c16
       have H' := am H
       clear H
       have p394 : 0 ≤ (a3 : Int) := oD (by (with_reducible assumption))
       have q394 : a3 < (l0.length : Int) := oD (by (with_reducible assumption))
       obtain ⟨ad394, e394, hx394_0, hx394_1, hx394_2, hx394_3, hx394_4, hx394_5⟩ := at_T31 (Kd.C_kept_now HR0.out HK.out) a3 p394 q394
       cases e394
       replace p394 := eq_true p394
       replace q394 := eq_true q394
       go_enter Try.func82, Try.ntmps82
       go_wp2_with (first | ((with_reducible refine gate_dst (N := 9) rfl ?_); refine box_event ?hg (N := 9) ?hd (cs := #[.int .i64 0, .int .i64 0, .int .i64 0, .int .i64 0, .int .i64 0, .int .i64 0]) (t := 31) ?hr ?_; (case hd => rfl); (case hg => rfl); (case hr => (go_simp; done)); intro gb395 hg w17 hbox hb; have n0_ := am (Kd.R_below (by exact sR <| HO1.out) hb); have n1_ := am (Kept.below (S := (fun k_ => P1_ k_)) (by repeat (first | (with_reducible first | exact HK.out | apply Kept.alloc | apply Kept.drewN | apply Kept.drew) | exact HK.out)) hb); have n2_ := am (below_step (by exact sW HB.out) hb); have n3_ := am (hbox); have n4_ := am ((by rw [hg]; exact (by exact HK.out.1) : w.heap.size ≤ gb395)); have n5_ := am ((by rw [hg]; exact (below_size (by exact sW HB.out)) : w0.heap.size ≤ gb395)); clear HO1; clear HK; clear HB; have HO1 := n0_; have HK := n1_; have HB := n2_; have BK395 := n3_; have GW395 := n4_; have GE395 := n5_; clear n0_ n1_ n2_ n3_ n4_ n5_; clear hb hbox hg; have hcz18_0 : w17.cell? ⟨gb395, 0, none⟩ = some (.int .i64 0) := (blk_cell BK395.out 0).trans rfl; have hcz18_1 : w17.cell? ⟨gb395, 1, none⟩ = some (.int .i64 0) := (blk_cell BK395.out 1).trans rfl; have hcz18_2 : w17.cell? ⟨gb395, 2, none⟩ = some (.int .i64 0) := (blk_cell BK395.out 2).trans rfl; have hcz18_3 : w17.cell? ⟨gb395, 3, none⟩ = some (.int .i64 0) := (blk_cell BK395.out 3).trans rfl; have hcz18_4 : w17.cell? ⟨gb395, 4, none⟩ = some (.int .i64 0) := (blk_cell BK395.out 4).trans rfl; have hcz18_5 : w17.cell? ⟨gb395, 5, none⟩ = some (.int .i64 0) := (blk_cell BK395.out 5).trans rfl; have hfz18_0 := blk_frozen BK395.out 0; have hfz18_1 := blk_frozen BK395.out 1; have hfz18_2 := blk_frozen BK395.out 2; have hfz18_3 := blk_frozen BK395.out 3; have hfz18_4 := blk_frozen BK395.out 4; have hfz18_5 := blk_frozen BK395.out 5) | ((with_reducible refine gate_callee (f := 50) rfl ?_); refine goesL_ (some 32) rfl rfl Try.func50 (by kernel_rfl) rfl #[.int .i64 ((rd_T31 l0 a3).f0)] rfl tm ?_; (with_reducible refine (spec_l02Quant.calls ((rd_T31 l0 a3).f0) true _ A13.out).mono ?_); rintro e w' ⟨rfl, ⟨nd, rfl⟩⟩; refine ⟨_, rfl, ?_⟩; obtain ⟨Ao19, co19, eo19⟩ := Kd.R_slice HO1.out; subst eo19; have p398 : 0 ≤ (((rd_T31 l0 a3).f2) : Int) := oD (by (with_reducible assumption)); have q398 : ((rd_T31 l0 a3).f2) < (l1.length : Int) := oD (by (with_reducible assumption)); obtain ⟨ad398, e398, hx398_0⟩ := Kd.at_int (Kd.R_reads' HO1.out).2.2 ((rd_T31 l0 a3).f2) p398 q398; cases e398; have hn398_0 : ad398.block ≠ gb395 := Kd.own_blk (Kd.R_ne HO1.out BK395.out (by decide)); have hn398_1 : ad398.block ≠ gb395 := Kd.own_blk (Kd.R_ne HO1.out BK395.out (by decide)); have hn398_2 : ad398.block ≠ gb395 := Kd.own_blk (Kd.R_ne HO1.out BK395.out (by decide)); have hn398_3 : ad398.block ≠ gb395 := Kd.own_blk (Kd.R_ne HO1.out BK395.out (by decide)); have hn398_4 : ad398.block ≠ gb395 := Kd.own_blk (Kd.R_ne HO1.out BK395.out (by decide)); have hn398_5 : ad398.block ≠ gb395 := Kd.own_blk (Kd.R_ne HO1.out BK395.out (by decide)); replace hx398_0 := (cell_far (p := ⟨gb395, 0, none⟩) (by (rw [add_block]; exact hn398_0)) (.int .i64 ((rd_T31 l0 a3).f0))).trans hx398_0; replace hx398_0 := (cell_far (p := ⟨gb395, 1, none⟩) (by (rw [add_block]; exact hn398_1)) (.int .i64 ((rd_T31 l0 a3).f1))).trans hx398_0; replace hx398_0 := (cell_far (p := ⟨gb395, 2, none⟩) (by (rw [add_block]; exact hn398_2)) (.int .i64 ((rd_T31 l0 a3).f2))).trans hx398_0; replace hx398_0 := (cell_far (p := ⟨gb395, 3, none⟩) (by (rw [add_block]; exact hn398_3)) (.int .i64 ((rd_T31 l0 a3).f3))).trans hx398_0; replace hx398_0 := (cell_far (p := ⟨gb395, 4, none⟩) (by (rw [add_block]; exact hn398_4)) (.int .i64 ((rd_T31 l0 a3).f4))).trans hx398_0; replace hx398_0 := (cell_far (p := ⟨gb395, 5, none⟩) (by (rw [add_block]; exact hn398_5)) (.int .i64 ((rd_T31 l0 a3).f5))).trans hx398_0; clear hn398_0; clear hn398_1; clear hn398_2; clear hn398_3; clear hn398_4; clear hn398_5; replace p398 := eq_true p398; replace q398 := eq_true q398; have hX2 := (blk_cell (blk_put (cs' := #[.int .i64 ((rd_T31 l0 a3).f0), .int .i64 ((rd_T31 l0 a3).f1), .int .i64 ((rd_T31 l0 a3).f2), .int .i64 ((rd_T31 l0 a3).f3), .int .i64 ((rd_T31 l0 a3).f4), .int .i64 ((rd_T31 l0 a3).f5)]) (blk_put (cs' := #[.int .i64 ((rd_T31 l0 a3).f0), .int .i64 ((rd_T31 l0 a3).f1), .int .i64 ((rd_T31 l0 a3).f2), .int .i64 ((rd_T31 l0 a3).f3), .int .i64 ((rd_T31 l0 a3).f4), .int .i64 0]) (blk_put (cs' := #[.int .i64 ((rd_T31 l0 a3).f0), .int .i64 ((rd_T31 l0 a3).f1), .int .i64 ((rd_T31 l0 a3).f2), .int .i64 ((rd_T31 l0 a3).f3), .int .i64 0, .int .i64 0]) (blk_put (cs' := #[.int .i64 ((rd_T31 l0 a3).f0), .int .i64 ((rd_T31 l0 a3).f1), .int .i64 ((rd_T31 l0 a3).f2), .int .i64 0, .int .i64 0, .int .i64 0]) (blk_put (cs' := #[.int .i64 ((rd_T31 l0 a3).f0), .int .i64 ((rd_T31 l0 a3).f1), .int .i64 0, .int .i64 0, .int .i64 0, .int .i64 0]) (blk_put (cs' := #[.int .i64 ((rd_T31 l0 a3).f0), .int .i64 0, .int .i64 0, .int .i64 0, .int .i64 0, .int .i64 0]) BK395.out 0 (.int .i64 ((rd_T31 l0 a3).f0)) rfl) 1 (.int .i64 ((rd_T31 l0 a3).f1)) rfl) 2 (.int .i64 ((rd_T31 l0 a3).f2)) rfl) 3 (.int .i64 ((rd_T31 l0 a3).f3)) rfl) 4 (.int .i64 ((rd_T31 l0 a3).f4)) rfl) 5 (.int .i64 ((rd_T31 l0 a3).f5)) rfl) 2).trans rfl; generalize hwX : ((((((w17.setCell ⟨gb395, 0, none⟩ (.int .i64 ((rd_T31 l0 a3).f0))).setCell ⟨gb395, 1, none⟩ (.int .i64 ((rd_T31 l0 a3).f1))).setCell ⟨gb395, 2, none⟩ (.int .i64 ((rd_T31 l0 a3).f2))).setCell ⟨gb395, 3, none⟩ (.int .i64 ((rd_T31 l0 a3).f3))).setCell ⟨gb395, 4, none⟩ (.int .i64 ((rd_T31 l0 a3).f4))).setCell ⟨gb395, 5, none⟩ (.int .i64 ((rd_T31 l0 a3).f5))) = wX at hx398_0 hX2 ⊢; have HWX := am hwX; clear hwX))
       obtain hwX := HWX.out
       subst hwX
       clear hx398_0 hX2
       go_loopg [11, 12, 13] k (fun kq v11 v12 v13 w' => ∃ (x1_1 : List Int) (x11_1 : Int) (x12_1 : Int) (x13_1 : Int), v11 = .int .i64 x11_1 ∧ v12 = .int .i64 x12_1 ∧ v13 = .int .i64 x13_1 ∧ Aside0 (spec_l04One.l0 AT kq l0 x1_1 (rd l1 ((rd_T31 l0 a3).f2)) x11_1 x12_1 x13_1 ((rd_T31 l0 a3).f0) ((rd_T31 l0 a3).f1) ((rd_T31 l0 a3).f2) ((rd_T31 l0 a3).f3) ((rd_T31 l0 a3).f4) ((rd_T31 l0 a3).f5) = some (r1, r2)) ∧ Aside0 (kq ≤ k) ∧ Aside0 (Kd.R (Kd.int .i64) 3 w' w0.heap.size (fun k_ => (P1_ k_ ∨ w.heap.size ≤ k_)) (.slice (some ad398) l1.length co19) x1_1) ∧ Aside0 (w'.heap[gb395]? = some (.cells #[.int .i64 ((rd_T31 l0 a3).f0), .int .i64 ((rd_T31 l0 a3).f1), .int .i64 ((rd_T31 l0 a3).f2), .int .i64 ((rd_T31 l0 a3).f3), .int .i64 ((rd_T31 l0 a3).f4), .int .i64 ((rd_T31 l0 a3).f5)] 31 (0, 0))) ∧ Aside0 (Kept w w' (fun k_ => P1_ k_)) ∧ Aside0 (Below w0.heap.size w0 w'))
       case atStart => exact ⟨(l1), (1), (0), (0), (by rfl), (by rfl), (by rfl), H', ⟨Nat.le_refl _⟩, ⟨by exact sR <| Kd.R_mono (Kd.R_far (p := ⟨gb395, 5, none⟩) (Kd.R_far (p := ⟨gb395, 4, none⟩) (Kd.R_far (p := ⟨gb395, 3, none⟩) (Kd.R_far (p := ⟨gb395, 2, none⟩) (Kd.R_far (p := ⟨gb395, 1, none⟩) (Kd.R_far (p := ⟨gb395, 0, none⟩) (Kd.R_types HO1.out BK395.out (by decide)) (fun _ hk => hk.2) (.int .i64 ((rd_T31 l0 a3).f0))) (fun _ hk => hk.2) (.int .i64 ((rd_T31 l0 a3).f1))) (fun _ hk => hk.2) (.int .i64 ((rd_T31 l0 a3).f2))) (fun _ hk => hk.2) (.int .i64 ((rd_T31 l0 a3).f3))) (fun _ hk => hk.2) (.int .i64 ((rd_T31 l0 a3).f4))) (fun _ hk => hk.2) (.int .i64 ((rd_T31 l0 a3).f5))) (fun _ hk => hk.1)⟩, ⟨by (with_reducible repeat (first | refine blk_drewN ?_ _ | refine blk_drew ?_ | refine blk_alloc ?_ _)); refine blk_put (cs := #[.int .i64 ((rd_T31 l0 a3).f0), .int .i64 ((rd_T31 l0 a3).f1), .int .i64 ((rd_T31 l0 a3).f2), .int .i64 ((rd_T31 l0 a3).f3), .int .i64 ((rd_T31 l0 a3).f4), .int .i64 0]) ?_ 5 _ rfl; (with_reducible repeat (first | refine blk_drewN ?_ _ | refine blk_drew ?_ | refine blk_alloc ?_ _)); refine blk_put (cs := #[.int .i64 ((rd_T31 l0 a3).f0), .int .i64 ((rd_T31 l0 a3).f1), .int .i64 ((rd_T31 l0 a3).f2), .int .i64 ((rd_T31 l0 a3).f3), .int .i64 0, .int .i64 0]) ?_ 4 _ rfl; (with_reducible repeat (first | refine blk_drewN ?_ _ | refine blk_drew ?_ | refine blk_alloc ?_ _)); refine blk_put (cs := #[.int .i64 ((rd_T31 l0 a3).f0), .int .i64 ((rd_T31 l0 a3).f1), .int .i64 ((rd_T31 l0 a3).f2), .int .i64 0, .int .i64 0, .int .i64 0]) ?_ 3 _ rfl; (with_reducible repeat (first | refine blk_drewN ?_ _ | refine blk_drew ?_ | refine blk_alloc ?_ _)); refine blk_put (cs := #[.int .i64 ((rd_T31 l0 a3).f0), .int .i64 ((rd_T31 l0 a3).f1), .int .i64 0, .int .i64 0, .int .i64 0, .int .i64 0]) ?_ 2 _ rfl; (with_reducible repeat (first | refine blk_drewN ?_ _ | refine blk_drew ?_ | refine blk_alloc ?_ _)); refine blk_put (cs := #[.int .i64 ((rd_T31 l0 a3).f0), .int .i64 0, .int .i64 0, .int .i64 0, .int .i64 0, .int .i64 0]) ?_ 1 _ rfl; (with_reducible repeat (first | refine blk_drewN ?_ _ | refine blk_drew ?_ | refine blk_alloc ?_ _)); refine blk_put (cs := #[.int .i64 0, .int .i64 0, .int .i64 0, .int .i64 0, .int .i64 0, .int .i64 0]) ?_ 0 _ rfl; exact sB <| BK395.out⟩, ⟨by repeat (first | (with_reducible first | exact HK.out | apply Kept.alloc | apply Kept.drewN | apply Kept.drew | refine Kept.setCell ?_ (.inr GW395.out) _) | exact HK.out)⟩, ⟨by exact bW⟩⟩
       case round => as_aux_lemma =>
        clear H'
        clear c5b0 c6b0 c7b0 c7b1 c15b0 c16b0 hcz18_0 hcz18_1 hcz18_2 hcz18_3 hcz18_4 hcz18_5 hfz18_0 hfz18_1 hfz18_2 hfz18_3 hfz18_4 hfz18_5 hx394_0 hx394_1 hx394_2 hx394_3 hx394_4 hx394_5 p394 p398 q394 q398
        obtain ⟨x1_1, x11_1, x12_1, x13_1, rfl, rfl, rfl, HA, HK1, HO_1, BK395, HK, HB⟩ := hrel
        have hl1_1 := (Kd.R_reads' HO_1.out).1
        rw [hl1_1] at HO_1
        (try simp only [hl1_1])
        (try simp only [hl1_1] at BK395)
        cases gk with
        | zero => exact absurd HA.out (by simp [spec_l04One.l0])
        | succ k1 =>
         have H := HA.out
         clear HA
         simp only [spec_l04One.l0] at H
         replace H := oB H
         obtain ⟨t399, A200, H⟩ := H
         have A20 := am A200
         clear A200
         by_cases c21 : x13_1 < t399
         ·rw [if_pos c21] at H
          have c21b0 : decide (x13_1 < t399) = true := decide_eq_true c21
          clear c21
          by_cases c22 : 0 ≤ ((rd_T31 l0 a3).f2)
          ·rw [if_pos c22] at H
           have c22b0 : decide (0 ≤ ((rd_T31 l0 a3).f2)) = true := decide_eq_true c22
           clear c22
           by_cases c23 : ((rd_T31 l0 a3).f2) < (x1_1.length : Int)
           ·rw [if_pos c23] at H
            have c23b0 : decide (((rd_T31 l0 a3).f2) < (x1_1.length : Int)) = true := decide_eq_true c23
            clear c23
            obtain ⟨y400, hy400⟩ : ∃ y_ : List Int, y_ = (x1_1.set (((rd_T31 l0 a3).f2) : Int).toNat x13_1) := ⟨_, rfl⟩
            replace H : ((AT l0 y400 ((rd_T31 l0 a3).f3)).bind fun bt401 => (if bt401.1 = 1 then (spec_l04One.l0 AT k1 l0 bt401.2 (rd l1 ((rd_T31 l0 a3).f2)) x11_1 1 (wrap64 (x13_1 + 1)) ((rd_T31 l0 a3).f0) ((rd_T31 l0 a3).f1) ((rd_T31 l0 a3).f2) ((rd_T31 l0 a3).f3) ((rd_T31 l0 a3).f4) ((rd_T31 l0 a3).f5)) else (spec_l04One.l0 AT k1 l0 bt401.2 (rd l1 ((rd_T31 l0 a3).f2)) 0 x12_1 (wrap64 (x13_1 + 1)) ((rd_T31 l0 a3).f0) ((rd_T31 l0 a3).f1) ((rd_T31 l0 a3).f2) ((rd_T31 l0 a3).f3) ((rd_T31 l0 a3).f4) ((rd_T31 l0 a3).f5)))) = some (r1, r2) := by (rw [hy400]; with_reducible exact H)
            have Ny400 := am hy400
            clear hy400
            replace H := oB H
            obtain ⟨⟨t401, t402⟩, A250, H⟩ := H
            replace H : (if t401 = 1 then (spec_l04One.l0 AT k1 l0 t402 (rd l1 ((rd_T31 l0 a3).f2)) x11_1 1 (wrap64 (x13_1 + 1)) ((rd_T31 l0 a3).f0) ((rd_T31 l0 a3).f1) ((rd_T31 l0 a3).f2) ((rd_T31 l0 a3).f3) ((rd_T31 l0 a3).f4) ((rd_T31 l0 a3).f5)) else (spec_l04One.l0 AT k1 l0 t402 (rd l1 ((rd_T31 l0 a3).f2)) 0 x12_1 (wrap64 (x13_1 + 1)) ((rd_T31 l0 a3).f0) ((rd_T31 l0 a3).f1) ((rd_T31 l0 a3).f2) ((rd_T31 l0 a3).f3) ((rd_T31 l0 a3).f4) ((rd_T31 l0 a3).f5))) = some (r1, r2) := H
            have A25 := am A250
            clear A250
            by_cases c26 : t401 = 1
            ·rw [if_pos c26] at H
             have c26b0 : (t401 == 1) = true := beq_iff_eq.mpr c26
             have c26b1 : (t401 != 1) = false := bne_eq_false_iff_eq.mpr c26
             clear c26
             have H' := am H
             clear H
             have hcz27_0 : wr.cell? ⟨gb395, 0, none⟩ = some (.int .i64 ((rd_T31 l0 a3).f0)) := (blk_cell BK395.out 0).trans rfl
             have hcz27_1 : wr.cell? ⟨gb395, 1, none⟩ = some (.int .i64 ((rd_T31 l0 a3).f1)) := (blk_cell BK395.out 1).trans rfl
             have hcz27_2 : wr.cell? ⟨gb395, 2, none⟩ = some (.int .i64 ((rd_T31 l0 a3).f2)) := (blk_cell BK395.out 2).trans rfl
             have hcz27_3 : wr.cell? ⟨gb395, 3, none⟩ = some (.int .i64 ((rd_T31 l0 a3).f3)) := (blk_cell BK395.out 3).trans rfl
             have hcz27_4 : wr.cell? ⟨gb395, 4, none⟩ = some (.int .i64 ((rd_T31 l0 a3).f4)) := (blk_cell BK395.out 4).trans rfl
             have hcz27_5 : wr.cell? ⟨gb395, 5, none⟩ = some (.int .i64 ((rd_T31 l0 a3).f5)) := (blk_cell BK395.out 5).trans rfl
             have hfz27_0 := blk_frozen BK395.out 0
             have hfz27_1 := blk_frozen BK395.out 1
             have hfz27_2 := blk_frozen BK395.out 2
             have hfz27_3 := blk_frozen BK395.out 3
             have hfz27_4 := blk_frozen BK395.out 4
             have hfz27_5 := blk_frozen BK395.out 5
             go_wp2_with (first | ((with_reducible refine gate_callee (f := 81) rfl ?_); refine goesL_ (some 41) rfl rfl Try.func81 (by kernel_rfl) rfl #[.int .i64 ((rd_T31 l0 a3).f4)] rfl tm ?_; (with_reducible refine (spec_l01Pow2.calls k1 ((rd_T31 l0 a3).f4) t399 _ A20.out).mono ?_); rintro e w' ⟨rfl, ⟨nd, rfl⟩⟩; refine ⟨_, rfl, ?_⟩; (try (rw [drewN_self wr]; generalize hq_ : World.drewN wr _ = wr; have n0_ : Aside0 (Kd.R (Kd.int .i64) 3 wr w0.heap.size (fun k_ => (P1_ k_ ∨ w.heap.size ≤ k_)) (.slice (some ad398) x1_1.length co19) x1_1) := ⟨by rw [← hq_]; exact (by exact sR <| HO_1.out)⟩; have n1_ : Aside0 (wr.heap[gb395]? = some (.cells #[.int .i64 ((rd_T31 l0 a3).f0), .int .i64 ((rd_T31 l0 a3).f1), .int .i64 ((rd_T31 l0 a3).f2), .int .i64 ((rd_T31 l0 a3).f3), .int .i64 ((rd_T31 l0 a3).f4), .int .i64 ((rd_T31 l0 a3).f5)] 31 (0, 0))) := ⟨by rw [← hq_]; exact (by exact sB <| BK395.out)⟩; have n2_ : Aside0 (Kept w wr (fun k_ => P1_ k_)) := ⟨by rw [← hq_]; exact (by repeat (first | (with_reducible first | exact HK.out | apply Kept.alloc | apply Kept.drewN | apply Kept.drew | refine Kept.setCell ?_ (.inr GW395.out) _) | exact HK.out))⟩; have n3_ : Aside0 (Below w0.heap.size w0 wr) := ⟨by rw [← hq_]; exact (by exact bW)⟩; clear HO_1 BK395 HK HB hq_; have HO_1 := n0_; have BK395 := n1_; have HK := n2_; have HB := n3_; clear n0_ n1_ n2_ n3_)); have hcy_0 := (blk_cell BK395.out 0).trans (show _ = some (Value.int .i64 ((rd_T31 l0 a3).f0)) from rfl); have hcy_2 := (blk_cell BK395.out 2).trans (show _ = some (Value.int .i64 ((rd_T31 l0 a3).f2)) from rfl); have hcy_3 := (blk_cell BK395.out 3).trans (show _ = some (Value.int .i64 ((rd_T31 l0 a3).f3)) from rfl); have hcy_4 := (blk_cell BK395.out 4).trans (show _ = some (Value.int .i64 ((rd_T31 l0 a3).f4)) from rfl); have p24 : 0 ≤ (((rd_T31 l0 a3).f2) : Int) := oD (by (with_reducible assumption)); have q24 : (((rd_T31 l0 a3).f2) : Int) < ((x1_1.length : Int) : Int) := oD (by (with_reducible assumption)); obtain ⟨go24, co24, eo24, gb24, gl24, cl24, HG24⟩ := Kd.R_form HO_1.out (by omega); (cases eo24); have GB24 := am gb24; have GG24 := am HG24; clear gb24 gl24 HG24; have HMgo24 := am (show (P1_ go24 ∨ w.heap.size ≤ go24) from (HO_1.out.1 _ rfl)); (skip); obtain ⟨hx24_0, hf24_0⟩ := Kd.R_celln 0 HO_1.out (((rd_T31 l0 a3).f2) : Int) p24 q24; replace p24 := eq_true p24; replace q24 := eq_true q24; obtain ⟨hy28_, hz28_⟩ := Kd.R_celln 0 HO_1.out (((rd_T31 l0 a3).f2) : Int) (oD (by (with_reducible assumption))) (oD (by (with_reducible assumption))); have HP28 := Kd.R_putg HO_1.out (((rd_T31 l0 a3).f2) : Int) x13_1) | ((with_reducible refine gate_store (t := 3) (p := 49) rfl ?_); refine store_event (t := 3) (p := 49) (v := ?vo_w29) (w1 := (wr.setCell ⟨go24, (((rd_T31 l0 a3).f2) : Int).toNat, none⟩ (.int .i64 x13_1))) ?hg ?ho ?hn ?hr ?_; (case ho => rfl); (case hg => rfl); (case hn => rfl); (case hr => (go_simp; done)); intro w29 hw; have hg : wr.grownBy w29 (some go24) := (by rw [hw]; exact HP28.2); have hp_ : Kd.R (Kd.int .i64) 3 w29 w0.heap.size (fun k_ => (P1_ k_ ∨ w.heap.size ≤ k_)) (.slice (some ⟨go24, 0, none⟩) x1_1.length co19) y400 := (by rw [hw, Ny400.out]; exact HP28.1); clear HP28; have n0_ := am (hp_); have n1_ := am (blk_grown (g := gb395) (o := .cells #[.int .i64 ((rd_T31 l0 a3).f0), .int .i64 ((rd_T31 l0 a3).f1), .int .i64 ((rd_T31 l0 a3).f2), .int .i64 ((rd_T31 l0 a3).f3), .int .i64 ((rd_T31 l0 a3).f4), .int .i64 ((rd_T31 l0 a3).f5)] 31 (0, 0)) (by exact sB <| BK395.out) hg (Kd.R_ne HO_1.out BK395.out (by decide))); have n2_ := am ((by rw [hw]; exact below_set (HB.out) GB24.out : Below w0.heap.size w0 w29)); have n3_ := am (Kept.of_grown (S := (fun k_ => P1_ k_)) hg (by repeat (first | (with_reducible first | exact HK.out | apply Kept.alloc | apply Kept.drewN | apply Kept.drew | refine Kept.setCell ?_ (.inr GW395.out) _) | exact HK.out)) (fun k_ e_ => (HO_1.out.1 k_ e_))); clear HO_1; clear BK395; clear HB; clear HK; have HO_1 := n0_; have BK395 := n1_; have HB := n2_; have HK := n3_; clear n0_ n1_ n2_ n3_; clear hg hw hp_; have hcz30_0 : w29.cell? ⟨gb395, 0, none⟩ = some (.int .i64 ((rd_T31 l0 a3).f0)) := (blk_cell BK395.out 0).trans rfl; have hcz30_1 : w29.cell? ⟨gb395, 1, none⟩ = some (.int .i64 ((rd_T31 l0 a3).f1)) := (blk_cell BK395.out 1).trans rfl; have hcz30_2 : w29.cell? ⟨gb395, 2, none⟩ = some (.int .i64 ((rd_T31 l0 a3).f2)) := (blk_cell BK395.out 2).trans rfl; have hcz30_3 : w29.cell? ⟨gb395, 3, none⟩ = some (.int .i64 ((rd_T31 l0 a3).f3)) := (blk_cell BK395.out 3).trans rfl; have hcz30_4 : w29.cell? ⟨gb395, 4, none⟩ = some (.int .i64 ((rd_T31 l0 a3).f4)) := (blk_cell BK395.out 4).trans rfl; have hcz30_5 : w29.cell? ⟨gb395, 5, none⟩ = some (.int .i64 ((rd_T31 l0 a3).f5)) := (blk_cell BK395.out 5).trans rfl; have hfz30_0 := blk_frozen BK395.out 0; have hfz30_1 := blk_frozen BK395.out 1; have hfz30_2 := blk_frozen BK395.out 2; have hfz30_3 := blk_frozen BK395.out 3; have hfz30_4 := blk_frozen BK395.out 4; have hfz30_5 := blk_frozen BK395.out 5) | ((with_reducible refine gate_callee (f := 52) rfl ?_); refine goesL_ (some 54) rfl rfl Try.func52 (by kernel_rfl) rfl #[.slice (some ad394) l0.length c0, .slice (some ⟨go24, 0, none⟩) x1_1.length co19, .int .i64 ((rd_T31 l0 a3).f3)] rfl tm ?_; (with_reducible refine (HAT.out _ _ l0 (fun k_ => some k_ = (.slice (some ⟨go24, 0, none⟩) x1_1.length co19 : Value).ownBlock) (.slice (some ⟨go24, 0, none⟩) x1_1.length co19) y400 ((rd_T31 l0 a3).f3) t401 t402 w0 _ ?side1 ?side2 ?side3 ?side4 A25.out).mono ?_); (case side1 => exact bW); (case side2 => exact Kd.C_kept_call HR0.out (by repeat (first | (with_reducible first | exact HK.out | apply Kept.alloc | apply Kept.drewN | apply Kept.drew | refine Kept.setCell ?_ (.inr GW395.out) _) | exact HK.out)) (fun k_ hs_ => (fun e_ => (HO_1.out.1 k_ e_.symm)) hs_)); (case side3 => exact HC0.out); (case side4 => exact Kd.R_tight rfl HO_1.out); rintro e w31 ⟨rfl, hy0, hb, hkp⟩; refine ⟨_, rfl, ?_⟩; have n0_ := am (Kd.R_reok rfl hy0 (fun k_ e_ => HO_1.out.1 k_ e_)); have n1_ := am (blk_kept (by exact sB <| BK395.out) hkp (fun hs_ => (fun e_ => (Kd.R_ne HO_1.out BK395.out (by decide)) e_) hs_)); have n2_ := am (Kept.then_ (S := (fun k_ => P1_ k_)) (by repeat (first | (with_reducible first | exact HK.out | apply Kept.alloc | apply Kept.drewN | apply Kept.drew | refine Kept.setCell ?_ (.inr GW395.out) _) | exact HK.out)) hkp (fun k_ hs_ => (fun e_ => (HO_1.out.1 k_ e_.symm)) hs_)); have n3_ := am (hb); clear HO_1; clear BK395; clear HK; clear HB; have HO_1 := n0_; have BK395 := n1_; have HK := n2_; have HB := n3_; clear n0_ n1_ n2_ n3_; (try clear hb); (try clear hkp); (try clear hy0)))
             (try simp only [← hl1_1])
             rw [show (({ block := go24, off := ((rd_T31 l0 a3).f2).toNat } : Addr)) = (⟨go24, 0, none⟩ : Addr).add ((rd_T31 l0 a3).f2).toNat from by simp [add_plain]]
             go_roundg k1
             case measure => have := HK1.out; omega
             case rel => exact ⟨(t402), (x11_1), (1), (wrap64 (x13_1 + 1)), (by rfl), (by rfl), (by rfl), H', ⟨by have := HK1.out; omega⟩, ⟨by (try simp only [hl1_1]); exact sR <| HO_1.out⟩, ⟨by (try simp only [hl1_1]); exact sB <| BK395.out⟩, ⟨by repeat (first | (with_reducible first | exact HK.out | apply Kept.alloc | apply Kept.drewN | apply Kept.drew | refine Kept.setCell ?_ (.inr GW395.out) _) | exact HK.out)⟩, ⟨by exact bW⟩⟩
            ·rw [if_neg c26] at H
             have c26b0 : (t401 == 1) = false := beq_eq_false_iff_ne.mpr c26
             have c26b1 : (t401 != 1) = true := bne_iff_ne.mpr c26
             have H' := am H
             clear H
             have hcz32_0 : wr.cell? ⟨gb395, 0, none⟩ = some (.int .i64 ((rd_T31 l0 a3).f0)) := (blk_cell BK395.out 0).trans rfl
             have hcz32_1 : wr.cell? ⟨gb395, 1, none⟩ = some (.int .i64 ((rd_T31 l0 a3).f1)) := (blk_cell BK395.out 1).trans rfl
             have hcz32_2 : wr.cell? ⟨gb395, 2, none⟩ = some (.int .i64 ((rd_T31 l0 a3).f2)) := (blk_cell BK395.out 2).trans rfl
             have hcz32_3 : wr.cell? ⟨gb395, 3, none⟩ = some (.int .i64 ((rd_T31 l0 a3).f3)) := (blk_cell BK395.out 3).trans rfl
             have hcz32_4 : wr.cell? ⟨gb395, 4, none⟩ = some (.int .i64 ((rd_T31 l0 a3).f4)) := (blk_cell BK395.out 4).trans rfl
             have hcz32_5 : wr.cell? ⟨gb395, 5, none⟩ = some (.int .i64 ((rd_T31 l0 a3).f5)) := (blk_cell BK395.out 5).trans rfl
             have hfz32_0 := blk_frozen BK395.out 0
             have hfz32_1 := blk_frozen BK395.out 1
             have hfz32_2 := blk_frozen BK395.out 2
             have hfz32_3 := blk_frozen BK395.out 3
             have hfz32_4 := blk_frozen BK395.out 4
             have hfz32_5 := blk_frozen BK395.out 5
             go_wp2_with (first | ((with_reducible refine gate_callee (f := 81) rfl ?_); refine goesL_ (some 41) rfl rfl Try.func81 (by kernel_rfl) rfl #[.int .i64 ((rd_T31 l0 a3).f4)] rfl tm ?_; (with_reducible refine (spec_l01Pow2.calls k1 ((rd_T31 l0 a3).f4) t399 _ A20.out).mono ?_); rintro e w' ⟨rfl, ⟨nd, rfl⟩⟩; refine ⟨_, rfl, ?_⟩; (try (rw [drewN_self wr]; generalize hq_ : World.drewN wr _ = wr; have n0_ : Aside0 (Kd.R (Kd.int .i64) 3 wr w0.heap.size (fun k_ => (P1_ k_ ∨ w.heap.size ≤ k_)) (.slice (some ad398) x1_1.length co19) x1_1) := ⟨by rw [← hq_]; exact (by exact sR <| HO_1.out)⟩; have n1_ : Aside0 (wr.heap[gb395]? = some (.cells #[.int .i64 ((rd_T31 l0 a3).f0), .int .i64 ((rd_T31 l0 a3).f1), .int .i64 ((rd_T31 l0 a3).f2), .int .i64 ((rd_T31 l0 a3).f3), .int .i64 ((rd_T31 l0 a3).f4), .int .i64 ((rd_T31 l0 a3).f5)] 31 (0, 0))) := ⟨by rw [← hq_]; exact (by exact sB <| BK395.out)⟩; have n2_ : Aside0 (Kept w wr (fun k_ => P1_ k_)) := ⟨by rw [← hq_]; exact (by repeat (first | (with_reducible first | exact HK.out | apply Kept.alloc | apply Kept.drewN | apply Kept.drew | refine Kept.setCell ?_ (.inr GW395.out) _) | exact HK.out))⟩; have n3_ : Aside0 (Below w0.heap.size w0 wr) := ⟨by rw [← hq_]; exact (by exact bW)⟩; clear HO_1 BK395 HK HB hq_; have HO_1 := n0_; have BK395 := n1_; have HK := n2_; have HB := n3_; clear n0_ n1_ n2_ n3_)); have hcy_0 := (blk_cell BK395.out 0).trans (show _ = some (Value.int .i64 ((rd_T31 l0 a3).f0)) from rfl); have hcy_2 := (blk_cell BK395.out 2).trans (show _ = some (Value.int .i64 ((rd_T31 l0 a3).f2)) from rfl); have hcy_3 := (blk_cell BK395.out 3).trans (show _ = some (Value.int .i64 ((rd_T31 l0 a3).f3)) from rfl); have hcy_4 := (blk_cell BK395.out 4).trans (show _ = some (Value.int .i64 ((rd_T31 l0 a3).f4)) from rfl); have p24 : 0 ≤ (((rd_T31 l0 a3).f2) : Int) := oD (by (with_reducible assumption)); have q24 : (((rd_T31 l0 a3).f2) : Int) < ((x1_1.length : Int) : Int) := oD (by (with_reducible assumption)); obtain ⟨go24, co24, eo24, gb24, gl24, cl24, HG24⟩ := Kd.R_form HO_1.out (by omega); (cases eo24); have GB24 := am gb24; have GG24 := am HG24; clear gb24 gl24 HG24; have HMgo24 := am (show (P1_ go24 ∨ w.heap.size ≤ go24) from (HO_1.out.1 _ rfl)); obtain ⟨hx24_0, hf24_0⟩ := Kd.R_celln 0 HO_1.out (((rd_T31 l0 a3).f2) : Int) p24 q24; replace p24 := eq_true p24; replace q24 := eq_true q24; obtain ⟨hy33_, hz33_⟩ := Kd.R_celln 0 HO_1.out (((rd_T31 l0 a3).f2) : Int) (oD (by (with_reducible assumption))) (oD (by (with_reducible assumption))); have HP33 := Kd.R_putg HO_1.out (((rd_T31 l0 a3).f2) : Int) x13_1) | ((with_reducible refine gate_store (t := 3) (p := 49) rfl ?_); refine store_event (t := 3) (p := 49) (v := ?vo_w34) (w1 := (wr.setCell ⟨go24, (((rd_T31 l0 a3).f2) : Int).toNat, none⟩ (.int .i64 x13_1))) ?hg ?ho ?hn ?hr ?_; (case ho => rfl); (case hg => rfl); (case hn => rfl); (case hr => (go_simp; done)); intro w34 hw; have hg : wr.grownBy w34 (some go24) := (by rw [hw]; exact HP33.2); have hp_ : Kd.R (Kd.int .i64) 3 w34 w0.heap.size (fun k_ => (P1_ k_ ∨ w.heap.size ≤ k_)) (.slice (some ⟨go24, 0, none⟩) x1_1.length co19) y400 := (by rw [hw, Ny400.out]; exact HP33.1); clear HP33; have n0_ := am (hp_); have n1_ := am (blk_grown (g := gb395) (o := .cells #[.int .i64 ((rd_T31 l0 a3).f0), .int .i64 ((rd_T31 l0 a3).f1), .int .i64 ((rd_T31 l0 a3).f2), .int .i64 ((rd_T31 l0 a3).f3), .int .i64 ((rd_T31 l0 a3).f4), .int .i64 ((rd_T31 l0 a3).f5)] 31 (0, 0)) (by exact sB <| BK395.out) hg (Kd.R_ne HO_1.out BK395.out (by decide))); have n2_ := am ((by rw [hw]; exact below_set (HB.out) GB24.out : Below w0.heap.size w0 w34)); have n3_ := am (Kept.of_grown (S := (fun k_ => P1_ k_)) hg (by repeat (first | (with_reducible first | exact HK.out | apply Kept.alloc | apply Kept.drewN | apply Kept.drew | refine Kept.setCell ?_ (.inr GW395.out) _) | exact HK.out)) (fun k_ e_ => (HO_1.out.1 k_ e_))); clear HO_1; clear BK395; clear HB; clear HK; have HO_1 := n0_; have BK395 := n1_; have HB := n2_; have HK := n3_; clear n0_ n1_ n2_ n3_; clear hg hw hp_; have hcz35_0 : w34.cell? ⟨gb395, 0, none⟩ = some (.int .i64 ((rd_T31 l0 a3).f0)) := (blk_cell BK395.out 0).trans rfl; have hcz35_1 : w34.cell? ⟨gb395, 1, none⟩ = some (.int .i64 ((rd_T31 l0 a3).f1)) := (blk_cell BK395.out 1).trans rfl; have hcz35_2 : w34.cell? ⟨gb395, 2, none⟩ = some (.int .i64 ((rd_T31 l0 a3).f2)) := (blk_cell BK395.out 2).trans rfl; have hcz35_3 : w34.cell? ⟨gb395, 3, none⟩ = some (.int .i64 ((rd_T31 l0 a3).f3)) := (blk_cell BK395.out 3).trans rfl; have hcz35_4 : w34.cell? ⟨gb395, 4, none⟩ = some (.int .i64 ((rd_T31 l0 a3).f4)) := (blk_cell BK395.out 4).trans rfl; have hcz35_5 : w34.cell? ⟨gb395, 5, none⟩ = some (.int .i64 ((rd_T31 l0 a3).f5)) := (blk_cell BK395.out 5).trans rfl; have hfz35_0 := blk_frozen BK395.out 0; have hfz35_1 := blk_frozen BK395.out 1; have hfz35_2 := blk_frozen BK395.out 2; have hfz35_3 := blk_frozen BK395.out 3; have hfz35_4 := blk_frozen BK395.out 4; have hfz35_5 := blk_frozen BK395.out 5) | ((with_reducible refine gate_callee (f := 52) rfl ?_); refine goesL_ (some 54) rfl rfl Try.func52 (by kernel_rfl) rfl #[.slice (some ad394) l0.length c0, .slice (some ⟨go24, 0, none⟩) x1_1.length co19, .int .i64 ((rd_T31 l0 a3).f3)] rfl tm ?_; (with_reducible refine (HAT.out _ _ l0 (fun k_ => some k_ = (.slice (some ⟨go24, 0, none⟩) x1_1.length co19 : Value).ownBlock) (.slice (some ⟨go24, 0, none⟩) x1_1.length co19) y400 ((rd_T31 l0 a3).f3) t401 t402 w0 _ ?side1 ?side2 ?side3 ?side4 A25.out).mono ?_); (case side1 => exact bW); (case side2 => exact Kd.C_kept_call HR0.out (by repeat (first | (with_reducible first | exact HK.out | apply Kept.alloc | apply Kept.drewN | apply Kept.drew | refine Kept.setCell ?_ (.inr GW395.out) _) | exact HK.out)) (fun k_ hs_ => (fun e_ => (HO_1.out.1 k_ e_.symm)) hs_)); (case side3 => exact HC0.out); (case side4 => exact Kd.R_tight rfl HO_1.out); rintro e w36 ⟨rfl, hy0, hb, hkp⟩; refine ⟨_, rfl, ?_⟩; have n0_ := am (Kd.R_reok rfl hy0 (fun k_ e_ => HO_1.out.1 k_ e_)); have n1_ := am (blk_kept (by exact sB <| BK395.out) hkp (fun hs_ => (fun e_ => (Kd.R_ne HO_1.out BK395.out (by decide)) e_) hs_)); have n2_ := am (Kept.then_ (S := (fun k_ => P1_ k_)) (by repeat (first | (with_reducible first | exact HK.out | apply Kept.alloc | apply Kept.drewN | apply Kept.drew | refine Kept.setCell ?_ (.inr GW395.out) _) | exact HK.out)) hkp (fun k_ hs_ => (fun e_ => (HO_1.out.1 k_ e_.symm)) hs_)); have n3_ := am (hb); clear HO_1; clear BK395; clear HK; clear HB; have HO_1 := n0_; have BK395 := n1_; have HK := n2_; have HB := n3_; clear n0_ n1_ n2_ n3_; (try clear hb); (try clear hkp); (try clear hy0)))
             (try simp only [← hl1_1])
             rw [show (({ block := go24, off := ((rd_T31 l0 a3).f2).toNat } : Addr)) = (⟨go24, 0, none⟩ : Addr).add ((rd_T31 l0 a3).f2).toNat from by simp [add_plain]]
             go_roundg k1
             case measure => have := HK1.out; omega
             case rel => exact ⟨(t402), (0), (x12_1), (wrap64 (x13_1 + 1)), (by rfl), (by rfl), (by rfl), H', ⟨by have := HK1.out; omega⟩, ⟨by (try simp only [hl1_1]); exact sR <| HO_1.out⟩, ⟨by (try simp only [hl1_1]); exact sB <| BK395.out⟩, ⟨by repeat (first | (with_reducible first | exact HK.out | apply Kept.alloc | apply Kept.drewN | apply Kept.drew | refine Kept.setCell ?_ (.inr GW395.out) _) | exact HK.out)⟩, ⟨by exact bW⟩⟩
           ·rw [if_neg c23] at H
            exact absurd H (by simp)
          ·rw [if_neg c22] at H
           exact absurd H (by simp)
         ·rw [if_neg c21] at H
          have c21b0 : decide (x13_1 < t399) = false := decide_eq_false c21
          clear c21
          by_cases c37 : 0 ≤ ((rd_T31 l0 a3).f2)
          ·rw [if_pos c37] at H
           have c37b0 : decide (0 ≤ ((rd_T31 l0 a3).f2)) = true := decide_eq_true c37
           clear c37
           by_cases c38 : ((rd_T31 l0 a3).f2) < (x1_1.length : Int)
           ·rw [if_pos c38] at H
            have c38b0 : decide (((rd_T31 l0 a3).f2) < (x1_1.length : Int)) = true := decide_eq_true c38
            clear c38
            obtain ⟨y403, hy403⟩ : ∃ y_ : List Int, y_ = (x1_1.set (((rd_T31 l0 a3).f2) : Int).toNat (rd l1 ((rd_T31 l0 a3).f2))) := ⟨_, rfl⟩
            replace H : (if ((rd_T31 l0 a3).f0) = 19 then (some (x11_1, y403)) else (some (x12_1, y403))) = some (r1, r2) := by (have H2_ := (Option.bind_some _ _).symm.trans H; rw [hy403]; with_reducible exact H2_)
            have Ny403 := am hy403
            clear hy403
            by_cases c40 : ((rd_T31 l0 a3).f0) = 19
            ·rw [if_pos c40] at H
             have c40b0 : (((rd_T31 l0 a3).f0) == 19) = true := beq_iff_eq.mpr c40
             have c40b1 : (((rd_T31 l0 a3).f0) != 19) = false := bne_eq_false_iff_eq.mpr c40
             clear c40
             simp only [Option.some.injEq, Prod.mk.injEq] at H
             obtain ⟨rfl, rfl⟩ := H
             have hcz41_0 : wr.cell? ⟨gb395, 0, none⟩ = some (.int .i64 ((rd_T31 l0 a3).f0)) := (blk_cell BK395.out 0).trans rfl
             have hcz41_1 : wr.cell? ⟨gb395, 1, none⟩ = some (.int .i64 ((rd_T31 l0 a3).f1)) := (blk_cell BK395.out 1).trans rfl
             have hcz41_2 : wr.cell? ⟨gb395, 2, none⟩ = some (.int .i64 ((rd_T31 l0 a3).f2)) := (blk_cell BK395.out 2).trans rfl
             have hcz41_3 : wr.cell? ⟨gb395, 3, none⟩ = some (.int .i64 ((rd_T31 l0 a3).f3)) := (blk_cell BK395.out 3).trans rfl
             have hcz41_4 : wr.cell? ⟨gb395, 4, none⟩ = some (.int .i64 ((rd_T31 l0 a3).f4)) := (blk_cell BK395.out 4).trans rfl
             have hcz41_5 : wr.cell? ⟨gb395, 5, none⟩ = some (.int .i64 ((rd_T31 l0 a3).f5)) := (blk_cell BK395.out 5).trans rfl
             have hfz41_0 := blk_frozen BK395.out 0
             have hfz41_1 := blk_frozen BK395.out 1
             have hfz41_2 := blk_frozen BK395.out 2
             have hfz41_3 := blk_frozen BK395.out 3
             have hfz41_4 := blk_frozen BK395.out 4
             have hfz41_5 := blk_frozen BK395.out 5
             go_wp2_with (first | ((with_reducible refine gate_callee (f := 81) rfl ?_); refine goesL_ (some 41) rfl rfl Try.func81 (by kernel_rfl) rfl #[.int .i64 ((rd_T31 l0 a3).f4)] rfl tm ?_; (with_reducible refine (spec_l01Pow2.calls k1 ((rd_T31 l0 a3).f4) t399 _ A20.out).mono ?_); rintro e w' ⟨rfl, ⟨nd, rfl⟩⟩; refine ⟨_, rfl, ?_⟩; (try (rw [drewN_self wr]; generalize hq_ : World.drewN wr _ = wr; have n0_ : Aside0 (Kd.R (Kd.int .i64) 3 wr w0.heap.size (fun k_ => (P1_ k_ ∨ w.heap.size ≤ k_)) (.slice (some ad398) x1_1.length co19) x1_1) := ⟨by rw [← hq_]; exact (by exact sR <| HO_1.out)⟩; have n1_ : Aside0 (wr.heap[gb395]? = some (.cells #[.int .i64 ((rd_T31 l0 a3).f0), .int .i64 ((rd_T31 l0 a3).f1), .int .i64 ((rd_T31 l0 a3).f2), .int .i64 ((rd_T31 l0 a3).f3), .int .i64 ((rd_T31 l0 a3).f4), .int .i64 ((rd_T31 l0 a3).f5)] 31 (0, 0))) := ⟨by rw [← hq_]; exact (by exact sB <| BK395.out)⟩; have n2_ : Aside0 (Kept w wr (fun k_ => P1_ k_)) := ⟨by rw [← hq_]; exact (by repeat (first | (with_reducible first | exact HK.out | apply Kept.alloc | apply Kept.drewN | apply Kept.drew | refine Kept.setCell ?_ (.inr GW395.out) _) | exact HK.out))⟩; have n3_ : Aside0 (Below w0.heap.size w0 wr) := ⟨by rw [← hq_]; exact (by exact bW)⟩; clear HO_1 BK395 HK HB hq_; have HO_1 := n0_; have BK395 := n1_; have HK := n2_; have HB := n3_; clear n0_ n1_ n2_ n3_)); have hcy_0 := (blk_cell BK395.out 0).trans (show _ = some (Value.int .i64 ((rd_T31 l0 a3).f0)) from rfl); have hcy_2 := (blk_cell BK395.out 2).trans (show _ = some (Value.int .i64 ((rd_T31 l0 a3).f2)) from rfl); have hcy_3 := (blk_cell BK395.out 3).trans (show _ = some (Value.int .i64 ((rd_T31 l0 a3).f3)) from rfl); have hcy_4 := (blk_cell BK395.out 4).trans (show _ = some (Value.int .i64 ((rd_T31 l0 a3).f4)) from rfl); have p39 : 0 ≤ (((rd_T31 l0 a3).f2) : Int) := oD (by (with_reducible assumption)); have q39 : (((rd_T31 l0 a3).f2) : Int) < ((x1_1.length : Int) : Int) := oD (by (with_reducible assumption)); obtain ⟨go39, co39, eo39, gb39, gl39, cl39, HG39⟩ := Kd.R_form HO_1.out (by omega); (cases eo39); have GB39 := am gb39; have GG39 := am HG39; clear gb39 gl39 HG39; have HMgo39 := am (show (P1_ go39 ∨ w.heap.size ≤ go39) from (HO_1.out.1 _ rfl)); obtain ⟨hx39_0, hf39_0⟩ := Kd.R_celln 0 HO_1.out (((rd_T31 l0 a3).f2) : Int) p39 q39; replace p39 := eq_true p39; replace q39 := eq_true q39; obtain ⟨hy42_, hz42_⟩ := Kd.R_celln 0 HO_1.out (((rd_T31 l0 a3).f2) : Int) (oD (by (with_reducible assumption))) (oD (by (with_reducible assumption))); have HP42 := Kd.R_putg HO_1.out (((rd_T31 l0 a3).f2) : Int) (rd l1 ((rd_T31 l0 a3).f2))) | ((with_reducible refine gate_store (t := 3) (p := 60) rfl ?_); refine store_event (t := 3) (p := 60) (v := ?vo_w43) (w1 := (wr.setCell ⟨go39, (((rd_T31 l0 a3).f2) : Int).toNat, none⟩ (.int .i64 (rd l1 ((rd_T31 l0 a3).f2))))) ?hg ?ho ?hn ?hr ?_; (case ho => rfl); (case hg => rfl); (case hn => rfl); (case hr => (go_simp; done)); intro w43 hw; have hg : wr.grownBy w43 (some go39) := (by rw [hw]; exact HP42.2); have hp_ : Kd.R (Kd.int .i64) 3 w43 w0.heap.size (fun k_ => (P1_ k_ ∨ w.heap.size ≤ k_)) (.slice (some ⟨go39, 0, none⟩) x1_1.length co19) y403 := (by rw [hw, Ny403.out]; exact HP42.1); clear HP42; have n0_ := am (hp_); have n1_ := am (blk_grown (g := gb395) (o := .cells #[.int .i64 ((rd_T31 l0 a3).f0), .int .i64 ((rd_T31 l0 a3).f1), .int .i64 ((rd_T31 l0 a3).f2), .int .i64 ((rd_T31 l0 a3).f3), .int .i64 ((rd_T31 l0 a3).f4), .int .i64 ((rd_T31 l0 a3).f5)] 31 (0, 0)) (by exact sB <| BK395.out) hg (Kd.R_ne HO_1.out BK395.out (by decide))); have n2_ := am ((by rw [hw]; exact below_set (HB.out) GB39.out : Below w0.heap.size w0 w43)); have n3_ := am (Kept.of_grown (S := (fun k_ => P1_ k_)) hg (by repeat (first | (with_reducible first | exact HK.out | apply Kept.alloc | apply Kept.drewN | apply Kept.drew | refine Kept.setCell ?_ (.inr GW395.out) _) | exact HK.out)) (fun k_ e_ => (HO_1.out.1 k_ e_))); clear HO_1; clear BK395; clear HB; clear HK; have HO_1 := n0_; have BK395 := n1_; have HB := n2_; have HK := n3_; clear n0_ n1_ n2_ n3_; clear hg hw hp_; have hcz44_0 : w43.cell? ⟨gb395, 0, none⟩ = some (.int .i64 ((rd_T31 l0 a3).f0)) := (blk_cell BK395.out 0).trans rfl; have hcz44_1 : w43.cell? ⟨gb395, 1, none⟩ = some (.int .i64 ((rd_T31 l0 a3).f1)) := (blk_cell BK395.out 1).trans rfl; have hcz44_2 : w43.cell? ⟨gb395, 2, none⟩ = some (.int .i64 ((rd_T31 l0 a3).f2)) := (blk_cell BK395.out 2).trans rfl; have hcz44_3 : w43.cell? ⟨gb395, 3, none⟩ = some (.int .i64 ((rd_T31 l0 a3).f3)) := (blk_cell BK395.out 3).trans rfl; have hcz44_4 : w43.cell? ⟨gb395, 4, none⟩ = some (.int .i64 ((rd_T31 l0 a3).f4)) := (blk_cell BK395.out 4).trans rfl; have hcz44_5 : w43.cell? ⟨gb395, 5, none⟩ = some (.int .i64 ((rd_T31 l0 a3).f5)) := (blk_cell BK395.out 5).trans rfl; have hfz44_0 := blk_frozen BK395.out 0; have hfz44_1 := blk_frozen BK395.out 1; have hfz44_2 := blk_frozen BK395.out 2; have hfz44_3 := blk_frozen BK395.out 3; have hfz44_4 := blk_frozen BK395.out 4; have hfz44_5 := blk_frozen BK395.out 5))
             go_ret
             exact ⟨by rfl, (by exact (by exact sR <| HO_1.out)), by exact bW, by repeat (first | (with_reducible first | exact HK.out | apply Kept.alloc | apply Kept.drewN | apply Kept.drew | refine Kept.setCell ?_ (.inr GW395.out) _) | exact HK.out)⟩
            ·rw [if_neg c40] at H
             have c40b0 : (((rd_T31 l0 a3).f0) == 19) = false := beq_eq_false_iff_ne.mpr c40
             have c40b1 : (((rd_T31 l0 a3).f0) != 19) = true := bne_iff_ne.mpr c40
             simp only [Option.some.injEq, Prod.mk.injEq] at H
             obtain ⟨rfl, rfl⟩ := H
             have hcz45_0 : wr.cell? ⟨gb395, 0, none⟩ = some (.int .i64 ((rd_T31 l0 a3).f0)) := (blk_cell BK395.out 0).trans rfl
             have hcz45_1 : wr.cell? ⟨gb395, 1, none⟩ = some (.int .i64 ((rd_T31 l0 a3).f1)) := (blk_cell BK395.out 1).trans rfl
             have hcz45_2 : wr.cell? ⟨gb395, 2, none⟩ = some (.int .i64 ((rd_T31 l0 a3).f2)) := (blk_cell BK395.out 2).trans rfl
             have hcz45_3 : wr.cell? ⟨gb395, 3, none⟩ = some (.int .i64 ((rd_T31 l0 a3).f3)) := (blk_cell BK395.out 3).trans rfl
             have hcz45_4 : wr.cell? ⟨gb395, 4, none⟩ = some (.int .i64 ((rd_T31 l0 a3).f4)) := (blk_cell BK395.out 4).trans rfl
             have hcz45_5 : wr.cell? ⟨gb395, 5, none⟩ = some (.int .i64 ((rd_T31 l0 a3).f5)) := (blk_cell BK395.out 5).trans rfl
             have hfz45_0 := blk_frozen BK395.out 0
             have hfz45_1 := blk_frozen BK395.out 1
             have hfz45_2 := blk_frozen BK395.out 2
             have hfz45_3 := blk_frozen BK395.out 3
             have hfz45_4 := blk_frozen BK395.out 4
             have hfz45_5 := blk_frozen BK395.out 5
             go_wp2_with (first | ((with_reducible refine gate_callee (f := 81) rfl ?_); refine goesL_ (some 41) rfl rfl Try.func81 (by kernel_rfl) rfl #[.int .i64 ((rd_T31 l0 a3).f4)] rfl tm ?_; (with_reducible refine (spec_l01Pow2.calls k1 ((rd_T31 l0 a3).f4) t399 _ A20.out).mono ?_); rintro e w' ⟨rfl, ⟨nd, rfl⟩⟩; refine ⟨_, rfl, ?_⟩; (try (rw [drewN_self wr]; generalize hq_ : World.drewN wr _ = wr; have n0_ : Aside0 (Kd.R (Kd.int .i64) 3 wr w0.heap.size (fun k_ => (P1_ k_ ∨ w.heap.size ≤ k_)) (.slice (some ad398) x1_1.length co19) x1_1) := ⟨by rw [← hq_]; exact (by exact sR <| HO_1.out)⟩; have n1_ : Aside0 (wr.heap[gb395]? = some (.cells #[.int .i64 ((rd_T31 l0 a3).f0), .int .i64 ((rd_T31 l0 a3).f1), .int .i64 ((rd_T31 l0 a3).f2), .int .i64 ((rd_T31 l0 a3).f3), .int .i64 ((rd_T31 l0 a3).f4), .int .i64 ((rd_T31 l0 a3).f5)] 31 (0, 0))) := ⟨by rw [← hq_]; exact (by exact sB <| BK395.out)⟩; have n2_ : Aside0 (Kept w wr (fun k_ => P1_ k_)) := ⟨by rw [← hq_]; exact (by repeat (first | (with_reducible first | exact HK.out | apply Kept.alloc | apply Kept.drewN | apply Kept.drew | refine Kept.setCell ?_ (.inr GW395.out) _) | exact HK.out))⟩; have n3_ : Aside0 (Below w0.heap.size w0 wr) := ⟨by rw [← hq_]; exact (by exact bW)⟩; clear HO_1 BK395 HK HB hq_; have HO_1 := n0_; have BK395 := n1_; have HK := n2_; have HB := n3_; clear n0_ n1_ n2_ n3_)); have hcy_0 := (blk_cell BK395.out 0).trans (show _ = some (Value.int .i64 ((rd_T31 l0 a3).f0)) from rfl); have hcy_2 := (blk_cell BK395.out 2).trans (show _ = some (Value.int .i64 ((rd_T31 l0 a3).f2)) from rfl); have hcy_3 := (blk_cell BK395.out 3).trans (show _ = some (Value.int .i64 ((rd_T31 l0 a3).f3)) from rfl); have hcy_4 := (blk_cell BK395.out 4).trans (show _ = some (Value.int .i64 ((rd_T31 l0 a3).f4)) from rfl); have p39 : 0 ≤ (((rd_T31 l0 a3).f2) : Int) := oD (by (with_reducible assumption)); have q39 : (((rd_T31 l0 a3).f2) : Int) < ((x1_1.length : Int) : Int) := oD (by (with_reducible assumption)); obtain ⟨go39, co39, eo39, gb39, gl39, cl39, HG39⟩ := Kd.R_form HO_1.out (by omega); (cases eo39); have GB39 := am gb39; have GG39 := am HG39; clear gb39 gl39 HG39; have HMgo39 := am (show (P1_ go39 ∨ w.heap.size ≤ go39) from (HO_1.out.1 _ rfl)); obtain ⟨hx39_0, hf39_0⟩ := Kd.R_celln 0 HO_1.out (((rd_T31 l0 a3).f2) : Int) p39 q39; replace p39 := eq_true p39; replace q39 := eq_true q39; obtain ⟨hy46_, hz46_⟩ := Kd.R_celln 0 HO_1.out (((rd_T31 l0 a3).f2) : Int) (oD (by (with_reducible assumption))) (oD (by (with_reducible assumption))); have HP46 := Kd.R_putg HO_1.out (((rd_T31 l0 a3).f2) : Int) (rd l1 ((rd_T31 l0 a3).f2))) | ((with_reducible refine gate_store (t := 3) (p := 60) rfl ?_); refine store_event (t := 3) (p := 60) (v := ?vo_w47) (w1 := (wr.setCell ⟨go39, (((rd_T31 l0 a3).f2) : Int).toNat, none⟩ (.int .i64 (rd l1 ((rd_T31 l0 a3).f2))))) ?hg ?ho ?hn ?hr ?_; (case ho => rfl); (case hg => rfl); (case hn => rfl); (case hr => (go_simp; done)); intro w47 hw; have hg : wr.grownBy w47 (some go39) := (by rw [hw]; exact HP46.2); have hp_ : Kd.R (Kd.int .i64) 3 w47 w0.heap.size (fun k_ => (P1_ k_ ∨ w.heap.size ≤ k_)) (.slice (some ⟨go39, 0, none⟩) x1_1.length co19) y403 := (by rw [hw, Ny403.out]; exact HP46.1); clear HP46; have n0_ := am (hp_); have n1_ := am (blk_grown (g := gb395) (o := .cells #[.int .i64 ((rd_T31 l0 a3).f0), .int .i64 ((rd_T31 l0 a3).f1), .int .i64 ((rd_T31 l0 a3).f2), .int .i64 ((rd_T31 l0 a3).f3), .int .i64 ((rd_T31 l0 a3).f4), .int .i64 ((rd_T31 l0 a3).f5)] 31 (0, 0)) (by exact sB <| BK395.out) hg (Kd.R_ne HO_1.out BK395.out (by decide))); have n2_ := am ((by rw [hw]; exact below_set (HB.out) GB39.out : Below w0.heap.size w0 w47)); have n3_ := am (Kept.of_grown (S := (fun k_ => P1_ k_)) hg (by repeat (first | (with_reducible first | exact HK.out | apply Kept.alloc | apply Kept.drewN | apply Kept.drew | refine Kept.setCell ?_ (.inr GW395.out) _) | exact HK.out)) (fun k_ e_ => (HO_1.out.1 k_ e_))); clear HO_1; clear BK395; clear HB; clear HK; have HO_1 := n0_; have BK395 := n1_; have HB := n2_; have HK := n3_; clear n0_ n1_ n2_ n3_; clear hg hw hp_; have hcz48_0 : w47.cell? ⟨gb395, 0, none⟩ = some (.int .i64 ((rd_T31 l0 a3).f0)) := (blk_cell BK395.out 0).trans rfl; have hcz48_1 : w47.cell? ⟨gb395, 1, none⟩ = some (.int .i64 ((rd_T31 l0 a3).f1)) := (blk_cell BK395.out 1).trans rfl; have hcz48_2 : w47.cell? ⟨gb395, 2, none⟩ = some (.int .i64 ((rd_T31 l0 a3).f2)) := (blk_cell BK395.out 2).trans rfl; have hcz48_3 : w47.cell? ⟨gb395, 3, none⟩ = some (.int .i64 ((rd_T31 l0 a3).f3)) := (blk_cell BK395.out 3).trans rfl; have hcz48_4 : w47.cell? ⟨gb395, 4, none⟩ = some (.int .i64 ((rd_T31 l0 a3).f4)) := (blk_cell BK395.out 4).trans rfl; have hcz48_5 : w47.cell? ⟨gb395, 5, none⟩ = some (.int .i64 ((rd_T31 l0 a3).f5)) := (blk_cell BK395.out 5).trans rfl; have hfz48_0 := blk_frozen BK395.out 0; have hfz48_1 := blk_frozen BK395.out 1; have hfz48_2 := blk_frozen BK395.out 2; have hfz48_3 := blk_frozen BK395.out 3; have hfz48_4 := blk_frozen BK395.out 4; have hfz48_5 := blk_frozen BK395.out 5))
             go_ret
             exact ⟨by rfl, (by exact (by exact sR <| HO_1.out)), by exact bW, by repeat (first | (with_reducible first | exact HK.out | apply Kept.alloc | apply Kept.drewN | apply Kept.drew | refine Kept.setCell ?_ (.inr GW395.out) _) | exact HK.out)⟩
           ·rw [if_neg c38] at H
            exact absurd H (by simp)
          ·rw [if_neg c37] at H
           exact absurd H (by simp)
      ·rw [if_neg c16] at H
       exact absurd H (by simp)
     ·rw [if_neg c15] at H
      exact absurd H (by simp)
    ·replace c14 := Bool.eq_false_iff.mpr c14
     subst c14
     rw [if_neg (show ¬ (false = true) by decide)] at H
     obtain ⟨y404, hy404⟩ : ∃ y_ : List Int, y_ = (([0, 0, 0] : List Int)) := ⟨_, rfl⟩
     replace H : ((spec_Parts.f k ((rd_T31 l0 a3).f0) ((rd_T31 l0 a3).f1) ((rd_T31 l0 a3).f2) ((rd_T31 l0 a3).f3) ((rd_T31 l0 a3).f4) ((rd_T31 l0 a3).f5)).bind fun t407 => (spec_l04One.l1 AT k l0 l1 l2 y404 1 t407 0 ((rd_T31 l0 a3).f0) ((rd_T31 l0 a3).f1) ((rd_T31 l0 a3).f2) ((rd_T31 l0 a3).f3) ((rd_T31 l0 a3).f4) ((rd_T31 l0 a3).f5))) = some (r1, r2) := by (rw [hy404]; with_reducible exact H)
     have Ny404 := am hy404
     clear hy404
     replace H := oB H
     obtain ⟨t407, A490, H⟩ := H
     have A49 := am A490
     clear A490
     have H' := am H
     clear H
     have p394 : 0 ≤ (a3 : Int) := oD (by (with_reducible assumption))
     have q394 : a3 < (l0.length : Int) := oD (by (with_reducible assumption))
     obtain ⟨ad394, e394, hx394_0, hx394_1, hx394_2, hx394_3, hx394_4, hx394_5⟩ := at_T31 (Kd.C_kept_now HR0.out HK.out) a3 p394 q394
     cases e394
     replace p394 := eq_true p394
     replace q394 := eq_true q394
     go_enter Try.func82, Try.ntmps82
     go_wp2_with (first | ((with_reducible refine gate_dst (N := 9) rfl ?_); refine box_event ?hg (N := 9) ?hd (cs := #[.int .i64 0, .int .i64 0, .int .i64 0, .int .i64 0, .int .i64 0, .int .i64 0]) (t := 31) ?hr ?_; (case hd => rfl); (case hg => rfl); (case hr => (go_simp; done)); intro gb395 hg w50 hbox hb; have n0_ := am (Kd.R_below (by exact sR <| HO1.out) hb); have n1_ := am (Kept.below (S := (fun k_ => P1_ k_)) (by repeat (first | (with_reducible first | exact HK.out | apply Kept.alloc | apply Kept.drewN | apply Kept.drew) | exact HK.out)) hb); have n2_ := am (below_step (by exact sW HB.out) hb); have n3_ := am (hbox); have n4_ := am ((by rw [hg]; exact (by exact HK.out.1) : w.heap.size ≤ gb395)); have n5_ := am ((by rw [hg]; exact (below_size (by exact sW HB.out)) : w0.heap.size ≤ gb395)); clear HO1; clear HK; clear HB; have HO1 := n0_; have HK := n1_; have HB := n2_; have BK395 := n3_; have GW395 := n4_; have GE395 := n5_; clear n0_ n1_ n2_ n3_ n4_ n5_; clear hb hbox hg; have hcz51_0 : w50.cell? ⟨gb395, 0, none⟩ = some (.int .i64 0) := (blk_cell BK395.out 0).trans rfl; have hcz51_1 : w50.cell? ⟨gb395, 1, none⟩ = some (.int .i64 0) := (blk_cell BK395.out 1).trans rfl; have hcz51_2 : w50.cell? ⟨gb395, 2, none⟩ = some (.int .i64 0) := (blk_cell BK395.out 2).trans rfl; have hcz51_3 : w50.cell? ⟨gb395, 3, none⟩ = some (.int .i64 0) := (blk_cell BK395.out 3).trans rfl; have hcz51_4 : w50.cell? ⟨gb395, 4, none⟩ = some (.int .i64 0) := (blk_cell BK395.out 4).trans rfl; have hcz51_5 : w50.cell? ⟨gb395, 5, none⟩ = some (.int .i64 0) := (blk_cell BK395.out 5).trans rfl; have hfz51_0 := blk_frozen BK395.out 0; have hfz51_1 := blk_frozen BK395.out 1; have hfz51_2 := blk_frozen BK395.out 2; have hfz51_3 := blk_frozen BK395.out 3; have hfz51_4 := blk_frozen BK395.out 4; have hfz51_5 := blk_frozen BK395.out 5) | ((with_reducible refine gate_callee (f := 50) rfl ?_); refine goesL_ (some 32) rfl rfl Try.func50 (by kernel_rfl) rfl #[.int .i64 ((rd_T31 l0 a3).f0)] rfl tm ?_; (with_reducible refine (spec_l02Quant.calls ((rd_T31 l0 a3).f0) false _ A13.out).mono ?_); rintro e w' ⟨rfl, ⟨nd, rfl⟩⟩; refine ⟨_, rfl, ?_⟩) | ((with_reducible refine gate_dst (N := 66) rfl ?_); refine Kd.R_lit (Kd.int .i64) _ 3 ?hg (N := 66) ?hd (xs := ([0, 0, 0] : List Int)) (inner := [.int .i64 0, .int .i64 0, .int .i64 0]) (ok := fun _ => True) (okp := fun _ => True) ?hr ?hp (fun _ hk => hk) trivial (Below.refl _ _) (Nat.le_refl _) (by simp) ?_; (case hd => rfl); (case hg => rfl); (case hr => (go_simp; done)); (case hp => exact (Reps.one (show Kd.M (Kd.int .i64) _ _ _ 0 [.int .i64 0] from rfl) (Reps.one (show Kd.M (Kd.int .i64) _ _ _ 0 [.int .i64 0] from rfl) (Reps.one (show Kd.M (Kd.int .i64) _ _ _ 0 [.int .i64 0] from rfl) (Reps.none _ _))))); intro v405 w52 ho53 hb hg_ hnew_; clear hg_ hnew_; (rw [← Ny404.out] at ho53); have n0_ := am (Kd.R_elder' (by exact sR <| (Kd.R_mono (Kd.R_far (p := ⟨gb395, 5, none⟩) (Kd.R_far (p := ⟨gb395, 4, none⟩) (Kd.R_far (p := ⟨gb395, 3, none⟩) (Kd.R_far (p := ⟨gb395, 2, none⟩) (Kd.R_far (p := ⟨gb395, 1, none⟩) (Kd.R_far (p := ⟨gb395, 0, none⟩) (Kd.R_types HO1.out BK395.out (by decide)) (fun _ hk => hk.2) (.int .i64 ((rd_T31 l0 a3).f0))) (fun _ hk => hk.2) (.int .i64 ((rd_T31 l0 a3).f1))) (fun _ hk => hk.2) (.int .i64 ((rd_T31 l0 a3).f2))) (fun _ hk => hk.2) (.int .i64 ((rd_T31 l0 a3).f3))) (fun _ hk => hk.2) (.int .i64 ((rd_T31 l0 a3).f4))) (fun _ hk => hk.2) (.int .i64 ((rd_T31 l0 a3).f5))) (fun _ h_ => h_.1))) (Kd.R_base ho53) hb); have n1_ := am (Kd.R_lower (Kd.R_new' (Kd.R_newM (M := fun k_ => (P1_ k_ ∨ w.heap.size ≤ k_)) ho53 (show Kept w _ (fun k_ => P1_ k_) from by repeat (first | (with_reducible first | exact HK.out | apply Kept.alloc | apply Kept.drewN | apply Kept.drew | refine Kept.setCell ?_ (.inr GW395.out) _) | exact HK.out)).1 (fun k_ h_ => .inr h_)) (Kd.R_lt (by exact sR <| (Kd.R_mono (Kd.R_far (p := ⟨gb395, 5, none⟩) (Kd.R_far (p := ⟨gb395, 4, none⟩) (Kd.R_far (p := ⟨gb395, 3, none⟩) (Kd.R_far (p := ⟨gb395, 2, none⟩) (Kd.R_far (p := ⟨gb395, 1, none⟩) (Kd.R_far (p := ⟨gb395, 0, none⟩) (Kd.R_types HO1.out BK395.out (by decide)) (fun _ hk => hk.2) (.int .i64 ((rd_T31 l0 a3).f0))) (fun _ hk => hk.2) (.int .i64 ((rd_T31 l0 a3).f1))) (fun _ hk => hk.2) (.int .i64 ((rd_T31 l0 a3).f2))) (fun _ hk => hk.2) (.int .i64 ((rd_T31 l0 a3).f3))) (fun _ hk => hk.2) (.int .i64 ((rd_T31 l0 a3).f4))) (fun _ hk => hk.2) (.int .i64 ((rd_T31 l0 a3).f5))) (fun _ h_ => h_.1))))) (below_size (by exact bW))); have n2_ := am (blk_below (g := gb395) (o := .cells #[.int .i64 ((rd_T31 l0 a3).f0), .int .i64 ((rd_T31 l0 a3).f1), .int .i64 ((rd_T31 l0 a3).f2), .int .i64 ((rd_T31 l0 a3).f3), .int .i64 ((rd_T31 l0 a3).f4), .int .i64 ((rd_T31 l0 a3).f5)] 31 (0, 0)) (by (with_reducible repeat (first | refine blk_drewN ?_ _ | refine blk_drew ?_ | refine blk_alloc ?_ _)); refine blk_put (cs := #[.int .i64 ((rd_T31 l0 a3).f0), .int .i64 ((rd_T31 l0 a3).f1), .int .i64 ((rd_T31 l0 a3).f2), .int .i64 ((rd_T31 l0 a3).f3), .int .i64 ((rd_T31 l0 a3).f4), .int .i64 0]) ?_ 5 _ rfl; (with_reducible repeat (first | refine blk_drewN ?_ _ | refine blk_drew ?_ | refine blk_alloc ?_ _)); refine blk_put (cs := #[.int .i64 ((rd_T31 l0 a3).f0), .int .i64 ((rd_T31 l0 a3).f1), .int .i64 ((rd_T31 l0 a3).f2), .int .i64 ((rd_T31 l0 a3).f3), .int .i64 0, .int .i64 0]) ?_ 4 _ rfl; (with_reducible repeat (first | refine blk_drewN ?_ _ | refine blk_drew ?_ | refine blk_alloc ?_ _)); refine blk_put (cs := #[.int .i64 ((rd_T31 l0 a3).f0), .int .i64 ((rd_T31 l0 a3).f1), .int .i64 ((rd_T31 l0 a3).f2), .int .i64 0, .int .i64 0, .int .i64 0]) ?_ 3 _ rfl; (with_reducible repeat (first | refine blk_drewN ?_ _ | refine blk_drew ?_ | refine blk_alloc ?_ _)); refine blk_put (cs := #[.int .i64 ((rd_T31 l0 a3).f0), .int .i64 ((rd_T31 l0 a3).f1), .int .i64 0, .int .i64 0, .int .i64 0, .int .i64 0]) ?_ 2 _ rfl; (with_reducible repeat (first | refine blk_drewN ?_ _ | refine blk_drew ?_ | refine blk_alloc ?_ _)); refine blk_put (cs := #[.int .i64 ((rd_T31 l0 a3).f0), .int .i64 0, .int .i64 0, .int .i64 0, .int .i64 0, .int .i64 0]) ?_ 1 _ rfl; (with_reducible repeat (first | refine blk_drewN ?_ _ | refine blk_drew ?_ | refine blk_alloc ?_ _)); refine blk_put (cs := #[.int .i64 0, .int .i64 0, .int .i64 0, .int .i64 0, .int .i64 0, .int .i64 0]) ?_ 0 _ rfl; exact sB <| BK395.out) hb); have n3_ := am (Kept.below (S := (fun k_ => P1_ k_)) (by repeat (first | (with_reducible first | exact HK.out | apply Kept.alloc | apply Kept.drewN | apply Kept.drew | refine Kept.setCell ?_ (.inr GW395.out) _) | exact HK.out)) hb); have n4_ := am (below_step (by exact bW) hb); clear HO1; clear BK395; clear HK; clear HB; have HO1 := n0_; have HO406 := n1_; have BK395 := n2_; have HK := n3_; have HB := n4_; clear n0_ n1_ n2_ n3_ n4_; clear hb ho53; have hcz54_0 : w52.cell? ⟨gb395, 0, none⟩ = some (.int .i64 ((rd_T31 l0 a3).f0)) := (blk_cell BK395.out 0).trans rfl; have hcz54_1 : w52.cell? ⟨gb395, 1, none⟩ = some (.int .i64 ((rd_T31 l0 a3).f1)) := (blk_cell BK395.out 1).trans rfl; have hcz54_2 : w52.cell? ⟨gb395, 2, none⟩ = some (.int .i64 ((rd_T31 l0 a3).f2)) := (blk_cell BK395.out 2).trans rfl; have hcz54_3 : w52.cell? ⟨gb395, 3, none⟩ = some (.int .i64 ((rd_T31 l0 a3).f3)) := (blk_cell BK395.out 3).trans rfl; have hcz54_4 : w52.cell? ⟨gb395, 4, none⟩ = some (.int .i64 ((rd_T31 l0 a3).f4)) := (blk_cell BK395.out 4).trans rfl; have hcz54_5 : w52.cell? ⟨gb395, 5, none⟩ = some (.int .i64 ((rd_T31 l0 a3).f5)) := (blk_cell BK395.out 5).trans rfl; have hfz54_0 := blk_frozen BK395.out 0; have hfz54_1 := blk_frozen BK395.out 1; have hfz54_2 := blk_frozen BK395.out 2; have hfz54_3 := blk_frozen BK395.out 3; have hfz54_4 := blk_frozen BK395.out 4; have hfz54_5 := blk_frozen BK395.out 5) | ((with_reducible refine gate_callee (f := 70) rfl ?_); refine goesL_ (some 68) rfl rfl Try.func70 (by kernel_rfl) rfl #[.agg #[.int .i64 ((rd_T31 l0 a3).f0), .int .i64 ((rd_T31 l0 a3).f1), .int .i64 ((rd_T31 l0 a3).f2), .int .i64 ((rd_T31 l0 a3).f3), .int .i64 ((rd_T31 l0 a3).f4), .int .i64 ((rd_T31 l0 a3).f5)]] rfl tm ?_; (with_reducible refine (spec_Parts.calls k ((rd_T31 l0 a3).f0) ((rd_T31 l0 a3).f1) ((rd_T31 l0 a3).f2) ((rd_T31 l0 a3).f3) ((rd_T31 l0 a3).f4) ((rd_T31 l0 a3).f5) t407 _ A49.out).mono ?_); rintro e w55 ⟨v408, rfl, ho0, hb⟩; refine ⟨_, rfl, ?_⟩; have n0_ := am (Kd.R_elder' (by exact sR <| HO1.out) (Kd.R_base ho0) hb); have n1_ := am (Kd.R_elder' (by exact sR <| HO406.out) (Kd.R_base ho0) hb); have n2_ := am (Kd.R_lower (Kd.R_new' (Kd.R_new' (Kd.R_newM (M := fun k_ => (P1_ k_ ∨ w.heap.size ≤ k_)) ho0 (by exact HK.out.1) (fun k_ h_ => .inr h_)) (Kd.R_lt (by exact sR <| HO1.out))) (Kd.R_lt (by exact sR <| HO406.out))) (below_size (by exact bW))); have n3_ := am (blk_below (g := gb395) (o := .cells #[.int .i64 ((rd_T31 l0 a3).f0), .int .i64 ((rd_T31 l0 a3).f1), .int .i64 ((rd_T31 l0 a3).f2), .int .i64 ((rd_T31 l0 a3).f3), .int .i64 ((rd_T31 l0 a3).f4), .int .i64 ((rd_T31 l0 a3).f5)] 31 (0, 0)) (by exact sB <| BK395.out) hb); have n4_ := am (Kept.below (S := (fun k_ => P1_ k_)) (by repeat (first | (with_reducible first | exact HK.out | apply Kept.alloc | apply Kept.drewN | apply Kept.drew | refine Kept.setCell ?_ (.inr GW395.out) _) | exact HK.out)) hb); have n5_ := am (below_step (by exact bW) hb); clear HO1; clear HO406; clear BK395; clear HK; clear HB; have HO1 := n0_; have HO406 := n1_; have HO409 := n2_; have BK395 := n3_; have HK := n4_; have HB := n5_; clear n0_ n1_ n2_ n3_ n4_ n5_; (try clear hb); (try clear hb2); (try clear hk); (try clear hi); (try clear ho0)))
     go_loopg [15, 17] k (fun kq v15 v17 w' => ∃ (x14_1 : List Int) (x15_1 : Int) (x17_1 : Int), v15 = .int .i64 x15_1 ∧ v17 = .int .i64 x17_1 ∧ Aside0 (spec_l04One.l1 AT kq l0 l1 l2 x14_1 x15_1 t407 x17_1 ((rd_T31 l0 a3).f0) ((rd_T31 l0 a3).f1) ((rd_T31 l0 a3).f2) ((rd_T31 l0 a3).f3) ((rd_T31 l0 a3).f4) ((rd_T31 l0 a3).f5) = some (r1, r2)) ∧ Aside0 (kq ≤ k) ∧ Aside0 (Kd.R (Kd.int .i64) 3 w' w0.heap.size (fun k_ => (P1_ k_ ∨ w.heap.size ≤ k_) ∧ some k_ ≠ (v405 : Value).ownBlock ∧ some k_ ≠ (v408 : Value).ownBlock) u9000_ l1) ∧ Aside0 (Kd.R (Kd.int .i64) 3 w' w0.heap.size (fun k_ => (P1_ k_ ∨ w.heap.size ≤ k_) ∧ some k_ ≠ (u9000_ : Value).ownBlock ∧ some k_ ≠ (v408 : Value).ownBlock) v405 x14_1) ∧ Aside0 (Kd.R (Kd.int .i64) 3 w' w0.heap.size (fun k_ => (P1_ k_ ∨ w.heap.size ≤ k_) ∧ some k_ ≠ (u9000_ : Value).ownBlock ∧ some k_ ≠ (v405 : Value).ownBlock) v408 t407) ∧ Aside0 (w'.heap[gb395]? = some (.cells #[.int .i64 ((rd_T31 l0 a3).f0), .int .i64 ((rd_T31 l0 a3).f1), .int .i64 ((rd_T31 l0 a3).f2), .int .i64 ((rd_T31 l0 a3).f3), .int .i64 ((rd_T31 l0 a3).f4), .int .i64 ((rd_T31 l0 a3).f5)] 31 (0, 0))) ∧ Aside0 (Kept w w' (fun k_ => P1_ k_)) ∧ Aside0 (Below w0.heap.size w0 w'))
     case atStart => exact ⟨(y404), (1), (0), (by rfl), (by rfl), H', ⟨Nat.le_refl _⟩, ⟨by exact sR <| Kd.R_mono HO1.out (fun _ hk => ⟨hk.1.1, ⟨hk.1.2, hk.2⟩⟩)⟩, ⟨by exact sR <| Kd.R_mono HO406.out (fun _ hk => ⟨hk.1.1.1, ⟨hk.1.2, hk.2⟩⟩)⟩, ⟨by exact sR <| Kd.R_mono HO409.out (fun _ hk => ⟨hk.1.1.1, ⟨hk.1.2, hk.2⟩⟩)⟩, ⟨by exact sB <| BK395.out⟩, ⟨by repeat (first | (with_reducible first | exact HK.out | apply Kept.alloc | apply Kept.drewN | apply Kept.drew | refine Kept.setCell ?_ (.inr GW395.out) _) | exact HK.out)⟩, ⟨by exact bW⟩⟩
     case round => as_aux_lemma =>
      clear H'
      clear c5b0 c6b0 c7b0 c7b1 hcz51_0 hcz51_1 hcz51_2 hcz51_3 hcz51_4 hcz51_5 hcz54_0 hcz54_1 hcz54_2 hcz54_3 hcz54_4 hcz54_5 hfz51_0 hfz51_1 hfz51_2 hfz51_3 hfz51_4 hfz51_5 hfz54_0 hfz54_1 hfz54_2 hfz54_3 hfz54_4 hfz54_5 hx394_0 hx394_1 hx394_2 hx394_3 hx394_4 hx394_5 p394 q394
      obtain ⟨x14_1, x15_1, x17_1, rfl, rfl, HA, HK1, HO_1, HO_14, HO_16, BK395, HK, HB⟩ := hrel
      cases gk with
      | zero => exact absurd HA.out (by simp [spec_l04One.l1])
      | succ k1 =>
       have H := HA.out
       clear HA
       simp only [spec_l04One.l1] at H
       by_cases c56 : x17_1 < (t407.length : Int)
       ·rw [if_pos c56] at H
        have c56b0 : decide (x17_1 < (t407.length : Int)) = true := decide_eq_true c56
        clear c56
        by_cases c57 : 0 ≤ x17_1
        ·rw [if_pos c57] at H
         have c57b0 : decide (0 ≤ x17_1) = true := decide_eq_true c57
         clear c57
         by_cases c58 : 0 ≤ (rd t407 x17_1)
         ·rw [if_pos c58] at H
          have c58b0 : decide (0 ≤ (rd t407 x17_1)) = true := decide_eq_true c58
          clear c58
          by_cases c59 : (rd t407 x17_1) < (l2.length : Int)
          ·rw [if_pos c59] at H
           have c59b0 : decide ((rd t407 x17_1) < (l2.length : Int)) = true := decide_eq_true c59
           clear c59
           by_cases c60 : x17_1 < (x14_1.length : Int)
           ·rw [if_pos c60] at H
            have c60b0 : decide (x17_1 < (x14_1.length : Int)) = true := decide_eq_true c60
            clear c60
            obtain ⟨y412, hy412⟩ : ∃ y_ : List Int, y_ = (x14_1.set (x17_1 : Int).toNat (rd l2 (rd t407 x17_1))) := ⟨_, rfl⟩
            replace H : (if x17_1 = 0 then (if (rd t407 x17_1) < (l0.length : Int) then (spec_l04One.l1 AT k1 l0 l1 l2 y412 ((rd_T31 l0 (rd t407 x17_1)).f1) t407 (wrap64 (x17_1 + 1)) ((rd_T31 l0 a3).f0) ((rd_T31 l0 a3).f1) ((rd_T31 l0 a3).f2) ((rd_T31 l0 a3).f3) ((rd_T31 l0 a3).f4) ((rd_T31 l0 a3).f5)) else (none)) else (spec_l04One.l1 AT k1 l0 l1 l2 y412 x15_1 t407 (wrap64 (x17_1 + 1)) ((rd_T31 l0 a3).f0) ((rd_T31 l0 a3).f1) ((rd_T31 l0 a3).f2) ((rd_T31 l0 a3).f3) ((rd_T31 l0 a3).f4) ((rd_T31 l0 a3).f5))) = some (r1, r2) := by (have H2_ := (Option.bind_some _ _).symm.trans H; rw [hy412]; with_reducible exact H2_)
            have Ny412 := am hy412
            clear hy412
            by_cases c62 : x17_1 = 0
            ·rw [if_pos c62] at H
             have c62b0 : (x17_1 == 0) = true := beq_iff_eq.mpr c62
             have c62b1 : (x17_1 != 0) = false := bne_eq_false_iff_eq.mpr c62
             clear c62
             by_cases c63 : (rd t407 x17_1) < (l0.length : Int)
             ·rw [if_pos c63] at H
              have c63b0 : decide ((rd t407 x17_1) < (l0.length : Int)) = true := decide_eq_true c63
              clear c63
              have H' := am H
              clear H
              obtain ⟨Ao64, co64, eo64⟩ := Kd.R_slice HO_16.out
              subst eo64
              have p410 : 0 ≤ (x17_1 : Int) := oD (by (with_reducible assumption))
              have q410 : x17_1 < (t407.length : Int) := oD (by (with_reducible assumption))
              obtain ⟨ad410, e410, hx410_0⟩ := Kd.at_int (Kd.R_reads' HO_16.out).2.2 x17_1 p410 q410
              cases e410
              replace p410 := eq_true p410
              replace q410 := eq_true q410
              have p411 : 0 ≤ ((rd t407 x17_1) : Int) := oD (by (with_reducible assumption))
              have q411 : (rd t407 x17_1) < (l2.length : Int) := oD (by (with_reducible assumption))
              obtain ⟨ad411, e411, hx411_0⟩ := Kd.at_int (Kd.C_kept_now HR2.out HK.out) (rd t407 x17_1) p411 q411
              cases e411
              replace p411 := eq_true p411
              replace q411 := eq_true q411
              have p61 : 0 ≤ (x17_1 : Int) := oD (by (with_reducible assumption))
              have q61 : (x17_1 : Int) < ((x14_1.length : Int) : Int) := oD (by (with_reducible assumption))
              obtain ⟨go61, co61, eo61, gb61, gl61, cl61, HG61⟩ := Kd.R_form HO_14.out (by omega)
              (cases eo61)
              have GB61 := am gb61
              have GG61 := am HG61
              clear gb61 gl61 HG61
              have HMgo61 := am (show (P1_ go61 ∨ w.heap.size ≤ go61) from (HO_14.out.1 _ rfl).1)
              obtain ⟨hx61_0, hf61_0⟩ := Kd.R_celln 0 HO_14.out (x17_1 : Int) p61 q61
              replace p61 := eq_true p61
              replace q61 := eq_true q61
              have HP65 := Kd.R_putg HO_14.out (x17_1 : Int) (rd l2 (rd t407 x17_1))
              go_wp2_with (first | ((with_reducible refine gate_store (t := 3) (p := 84) rfl ?_); refine store_event (t := 3) (p := 84) (v := ?vo_w66) (w1 := (wr.setCell ⟨go61, (x17_1 : Int).toNat, none⟩ (.int .i64 (rd l2 (rd t407 x17_1))))) ?hg ?ho ?hn ?hr ?_; (case ho => rfl); (case hg => rfl); (case hn => rfl); (case hr => (go_simp; done)); intro w66 hw; have hg : wr.grownBy w66 (some go61) := (by rw [hw]; exact HP65.2); have hp_ : Kd.R (Kd.int .i64) 3 w66 w0.heap.size (fun k_ => (P1_ k_ ∨ w.heap.size ≤ k_) ∧ some k_ ≠ (u9000_ : Value).ownBlock ∧ some k_ ≠ (.slice (some ad410) t407.length co64 : Value).ownBlock) (.slice (some ⟨go61, 0, none⟩) x14_1.length co61) y412 := (by rw [hw, Ny412.out]; exact HP65.1); clear HP65; have n0_ := am (Kd.R_after (v := (.slice (some ⟨go61, 0, none⟩) x14_1.length co61)) (v1 := (.slice (some ⟨go61, 0, none⟩) x14_1.length co61)) (ok := (fun k_ => (P1_ k_ ∨ w.heap.size ≤ k_) ∧ some k_ ≠ (.slice (some ad410) t407.length co64 : Value).ownBlock)) (by exact sR <| Kd.R_mono HO_1.out (fun _ hk => ⟨⟨hk.1, hk.2.2⟩, hk.2.1⟩)) hg (.inl rfl)); have n1_ := am (hp_); have n2_ := am (Kd.R_after (v := (.slice (some ⟨go61, 0, none⟩) x14_1.length co61)) (v1 := (.slice (some ⟨go61, 0, none⟩) x14_1.length co61)) (ok := (fun k_ => (P1_ k_ ∨ w.heap.size ≤ k_) ∧ some k_ ≠ (u9000_ : Value).ownBlock)) (by exact sR <| Kd.R_mono HO_16.out (fun _ hk => ⟨⟨hk.1, hk.2.1⟩, hk.2.2⟩)) hg (.inl rfl)); have n3_ := am (blk_grown (g := gb395) (o := .cells #[.int .i64 ((rd_T31 l0 a3).f0), .int .i64 ((rd_T31 l0 a3).f1), .int .i64 ((rd_T31 l0 a3).f2), .int .i64 ((rd_T31 l0 a3).f3), .int .i64 ((rd_T31 l0 a3).f4), .int .i64 ((rd_T31 l0 a3).f5)] 31 (0, 0)) (by exact sB <| BK395.out) hg (Kd.R_ne HO_14.out BK395.out (by decide))); have n4_ := am ((by rw [hw]; exact below_set (HB.out) GB61.out : Below w0.heap.size w0 w66)); have n5_ := am (Kept.of_grown (S := (fun k_ => P1_ k_)) hg (by repeat (first | (with_reducible first | exact HK.out | apply Kept.alloc | apply Kept.drewN | apply Kept.drew | refine Kept.setCell ?_ (.inr GW395.out) _) | exact HK.out)) (fun k_ e_ => (HO_14.out.1 k_ e_).1)); clear HO_1; clear HO_14; clear HO_16; clear BK395; clear HB; clear HK; have HO_1 := n0_; have HO_14 := n1_; have HO_16 := n2_; have BK395 := n3_; have HB := n4_; have HK := n5_; clear n0_ n1_ n2_ n3_ n4_ n5_; clear hg hw hp_; have p413 : 0 ≤ (x17_1 : Int) := oD (by (with_reducible assumption)); have q413 : x17_1 < (t407.length : Int) := oD (by (with_reducible assumption)); obtain ⟨ad413, e413, hx413_0⟩ := Kd.at_int (Kd.R_reads' HO_16.out).2.2 x17_1 p413 q413; obtain rfl : ad410 = ad413 := (by injection e413); replace p413 := eq_true p413; replace q413 := eq_true q413; have p414 : 0 ≤ ((rd t407 x17_1) : Int) := oD (by (with_reducible assumption)); have q414 : (rd t407 x17_1) < (l0.length : Int) := oD (by (with_reducible assumption)); obtain ⟨ad414, e414, hx414_0, hx414_1, hx414_2, hx414_3, hx414_4, hx414_5⟩ := at_T31 (Kd.C_kept_now HR0.out HK.out) (rd t407 x17_1) p414 q414; obtain rfl : ad394 = ad414 := (by injection e414); replace p414 := eq_true p414; replace q414 := eq_true q414))
              go_roundg k1
              case measure => have := HK1.out; omega
              case rel => exact ⟨(y412), ((rd_T31 l0 (rd t407 x17_1)).f1), (wrap64 (x17_1 + 1)), (by rfl), (by rfl), H', ⟨by have := HK1.out; omega⟩, ⟨by exact sR <| Kd.R_mono HO_1.out (fun _ hk => ⟨hk.1.1, ⟨hk.2, hk.1.2⟩⟩)⟩, ⟨by exact sR <| HO_14.out⟩, ⟨by exact sR <| Kd.R_mono HO_16.out (fun _ hk => ⟨hk.1.1, ⟨hk.1.2, hk.2⟩⟩)⟩, ⟨by exact sB <| BK395.out⟩, ⟨by repeat (first | (with_reducible first | exact HK.out | apply Kept.alloc | apply Kept.drewN | apply Kept.drew | refine Kept.setCell ?_ (.inr GW395.out) _) | exact HK.out)⟩, ⟨by exact bW⟩⟩
             ·rw [if_neg c63] at H
              exact absurd H (by simp)
            ·rw [if_neg c62] at H
             have c62b0 : (x17_1 == 0) = false := beq_eq_false_iff_ne.mpr c62
             have c62b1 : (x17_1 != 0) = true := bne_iff_ne.mpr c62
             have H' := am H
             clear H
             obtain ⟨Ao67, co67, eo67⟩ := Kd.R_slice HO_16.out
             subst eo67
             have p410 : 0 ≤ (x17_1 : Int) := oD (by (with_reducible assumption))
             have q410 : x17_1 < (t407.length : Int) := oD (by (with_reducible assumption))
             obtain ⟨ad410, e410, hx410_0⟩ := Kd.at_int (Kd.R_reads' HO_16.out).2.2 x17_1 p410 q410
             cases e410
             replace p410 := eq_true p410
             replace q410 := eq_true q410
             have p411 : 0 ≤ ((rd t407 x17_1) : Int) := oD (by (with_reducible assumption))
             have q411 : (rd t407 x17_1) < (l2.length : Int) := oD (by (with_reducible assumption))
             obtain ⟨ad411, e411, hx411_0⟩ := Kd.at_int (Kd.C_kept_now HR2.out HK.out) (rd t407 x17_1) p411 q411
             cases e411
             replace p411 := eq_true p411
             replace q411 := eq_true q411
             have p61 : 0 ≤ (x17_1 : Int) := oD (by (with_reducible assumption))
             have q61 : (x17_1 : Int) < ((x14_1.length : Int) : Int) := oD (by (with_reducible assumption))
             obtain ⟨go61, co61, eo61, gb61, gl61, cl61, HG61⟩ := Kd.R_form HO_14.out (by omega)
             (cases eo61)
             have GB61 := am gb61
             have GG61 := am HG61
             clear gb61 gl61 HG61
             have HMgo61 := am (show (P1_ go61 ∨ w.heap.size ≤ go61) from (HO_14.out.1 _ rfl).1)
             obtain ⟨hx61_0, hf61_0⟩ := Kd.R_celln 0 HO_14.out (x17_1 : Int) p61 q61
             replace p61 := eq_true p61
             replace q61 := eq_true q61
             have HP68 := Kd.R_putg HO_14.out (x17_1 : Int) (rd l2 (rd t407 x17_1))
             go_wp2_with (first | ((with_reducible refine gate_store (t := 3) (p := 84) rfl ?_); refine store_event (t := 3) (p := 84) (v := ?vo_w69) (w1 := (wr.setCell ⟨go61, (x17_1 : Int).toNat, none⟩ (.int .i64 (rd l2 (rd t407 x17_1))))) ?hg ?ho ?hn ?hr ?_; (case ho => rfl); (case hg => rfl); (case hn => rfl); (case hr => (go_simp; done)); intro w69 hw; have hg : wr.grownBy w69 (some go61) := (by rw [hw]; exact HP68.2); have hp_ : Kd.R (Kd.int .i64) 3 w69 w0.heap.size (fun k_ => (P1_ k_ ∨ w.heap.size ≤ k_) ∧ some k_ ≠ (u9000_ : Value).ownBlock ∧ some k_ ≠ (.slice (some ad410) t407.length co67 : Value).ownBlock) (.slice (some ⟨go61, 0, none⟩) x14_1.length co61) y412 := (by rw [hw, Ny412.out]; exact HP68.1); clear HP68; have n0_ := am (Kd.R_after (v := (.slice (some ⟨go61, 0, none⟩) x14_1.length co61)) (v1 := (.slice (some ⟨go61, 0, none⟩) x14_1.length co61)) (ok := (fun k_ => (P1_ k_ ∨ w.heap.size ≤ k_) ∧ some k_ ≠ (.slice (some ad410) t407.length co67 : Value).ownBlock)) (by exact sR <| Kd.R_mono HO_1.out (fun _ hk => ⟨⟨hk.1, hk.2.2⟩, hk.2.1⟩)) hg (.inl rfl)); have n1_ := am (hp_); have n2_ := am (Kd.R_after (v := (.slice (some ⟨go61, 0, none⟩) x14_1.length co61)) (v1 := (.slice (some ⟨go61, 0, none⟩) x14_1.length co61)) (ok := (fun k_ => (P1_ k_ ∨ w.heap.size ≤ k_) ∧ some k_ ≠ (u9000_ : Value).ownBlock)) (by exact sR <| Kd.R_mono HO_16.out (fun _ hk => ⟨⟨hk.1, hk.2.1⟩, hk.2.2⟩)) hg (.inl rfl)); have n3_ := am (blk_grown (g := gb395) (o := .cells #[.int .i64 ((rd_T31 l0 a3).f0), .int .i64 ((rd_T31 l0 a3).f1), .int .i64 ((rd_T31 l0 a3).f2), .int .i64 ((rd_T31 l0 a3).f3), .int .i64 ((rd_T31 l0 a3).f4), .int .i64 ((rd_T31 l0 a3).f5)] 31 (0, 0)) (by exact sB <| BK395.out) hg (Kd.R_ne HO_14.out BK395.out (by decide))); have n4_ := am ((by rw [hw]; exact below_set (HB.out) GB61.out : Below w0.heap.size w0 w69)); have n5_ := am (Kept.of_grown (S := (fun k_ => P1_ k_)) hg (by repeat (first | (with_reducible first | exact HK.out | apply Kept.alloc | apply Kept.drewN | apply Kept.drew | refine Kept.setCell ?_ (.inr GW395.out) _) | exact HK.out)) (fun k_ e_ => (HO_14.out.1 k_ e_).1)); clear HO_1; clear HO_14; clear HO_16; clear BK395; clear HB; clear HK; have HO_1 := n0_; have HO_14 := n1_; have HO_16 := n2_; have BK395 := n3_; have HB := n4_; have HK := n5_; clear n0_ n1_ n2_ n3_ n4_ n5_; clear hg hw hp_))
             go_roundg k1
             case measure => have := HK1.out; omega
             case rel => exact ⟨(y412), (x15_1), (wrap64 (x17_1 + 1)), (by rfl), (by rfl), H', ⟨by have := HK1.out; omega⟩, ⟨by exact sR <| Kd.R_mono HO_1.out (fun _ hk => ⟨hk.1.1, ⟨hk.2, hk.1.2⟩⟩)⟩, ⟨by exact sR <| HO_14.out⟩, ⟨by exact sR <| Kd.R_mono HO_16.out (fun _ hk => ⟨hk.1.1, ⟨hk.1.2, hk.2⟩⟩)⟩, ⟨by exact sB <| BK395.out⟩, ⟨by repeat (first | (with_reducible first | exact HK.out | apply Kept.alloc | apply Kept.drewN | apply Kept.drew | refine Kept.setCell ?_ (.inr GW395.out) _) | exact HK.out)⟩, ⟨by exact bW⟩⟩
           ·rw [if_neg c60] at H
            exact absurd H (by simp)
          ·rw [if_neg c59] at H
           exact absurd H (by simp)
         ·rw [if_neg c58] at H
          exact absurd H (by simp)
        ·rw [if_neg c57] at H
         exact absurd H (by simp)
       ·rw [if_neg c56] at H
        have c56b0 : decide (x17_1 < (t407.length : Int)) = false := decide_eq_false c56
        clear c56
        by_cases c70 : 0 < (x14_1.length : Int)
        ·rw [if_pos c70] at H
         have c70b0 : decide (0 < (x14_1.length : Int)) = true := decide_eq_true c70
         have c70b1 : decide (0 < x14_1.length) = true := decide_eq_true (by omega)
         have c70p : 0 < x14_1.length := by omega
         clear c70
         by_cases c71 : 1 < (x14_1.length : Int)
         ·rw [if_pos c71] at H
          have c71b0 : decide (1 < (x14_1.length : Int)) = true := decide_eq_true c71
          have c71b1 : decide (1 < x14_1.length) = true := decide_eq_true (by omega)
          clear c71
          by_cases c72 : 2 < (x14_1.length : Int)
          ·rw [if_pos c72] at H
           have c72b0 : decide (2 < (x14_1.length : Int)) = true := decide_eq_true c72
           have c72b1 : decide (2 < x14_1.length) = true := decide_eq_true (by omega)
           clear c72
           replace H := oB H
           obtain ⟨t418, A730, H⟩ := H
           have A73 := am A730
           clear A730
           simp only [Option.some.injEq, Prod.mk.injEq] at H
           obtain ⟨rfl, rfl⟩ := H
           obtain ⟨Ao74, co74, eo74⟩ := Kd.R_slice HO_16.out
           subst eo74
           try go_wp2
           have n0_ := am (Kd.R_drew HO_1.out)
           have n1_ := am (Kd.R_drew HO_14.out)
           have n2_ := am (Kd.R_drew HO_16.out)
           have n3_ := am (blk_drew BK395.out)
           have n4_ := am (Kept.drew HK.out)
           have n5_ := am (below_drew1 HB.out)
           clear HO_1
           clear HO_14
           clear HO_16
           clear BK395
           clear HK
           clear HB
           have HO_1 := n0_
           have HO_14 := n1_
           have HO_16 := n2_
           have BK395 := n3_
           have HK := n4_
           have HB := n5_
           clear n0_ n1_ n2_ n3_ n4_ n5_
           obtain ⟨Ao76, co76, eo76⟩ := Kd.R_slice HO_14.out
           (subst eo76)
           have p415 : 0 ≤ (0 : Int) := (by omega)
           have q415 : 0 < (x14_1.length : Int) := oD (by (with_reducible assumption))
           obtain ⟨ad415, e415, hx415_0⟩ := Kd.at_int (Kd.R_reads' HO_14.out).2.2 0 p415 q415
           cases e415
           have qi415 : (0 < x14_1.length) = True := eq_true (by omega)
           (try rw [tn0] at hx415_0)
           (try rw [Addr.add_zero'] at hx415_0)
           replace p415 := eq_true p415
           replace q415 := eq_true q415
           have p416 : 0 ≤ (1 : Int) := (by omega)
           have q416 : 1 < (x14_1.length : Int) := oD (by (with_reducible assumption))
           obtain ⟨ad416, e416, hx416_0⟩ := Kd.at_int (Kd.R_reads' HO_14.out).2.2 1 p416 q416
           obtain rfl : ad415 = ad416 := (by injection e416)
           (try simp only [show (1 : Int).toNat = 1 from rfl, Nat.reduceMul, Nat.reduceEqDiff, Go.Addr.add, ↓reduceIte] at hx416_0)
           have qi416 : (1 < x14_1.length) = True := eq_true (by omega)
           (try rw [show ((1 : Int)).toNat = 1 from rfl] at hx416_0)
           replace p416 := eq_true p416
           replace q416 := eq_true q416
           have p417 : 0 ≤ (2 : Int) := (by omega)
           have q417 : 2 < (x14_1.length : Int) := oD (by (with_reducible assumption))
           obtain ⟨ad417, e417, hx417_0⟩ := Kd.at_int (Kd.R_reads' HO_14.out).2.2 2 p417 q417
           obtain rfl : ad415 = ad417 := (by injection e417)
           (try simp only [show (2 : Int).toNat = 2 from rfl, Nat.reduceMul, Nat.reduceEqDiff, Go.Addr.add, ↓reduceIte] at hx417_0)
           have qi417 : (2 < x14_1.length) = True := eq_true (by omega)
           (try rw [show ((2 : Int)).toNat = 2 from rfl] at hx417_0)
           replace p417 := eq_true p417
           replace q417 := eq_true q417
           refine start_ (n := 13) (S := fun w' => w'.cell? ⟨gb395, 0, none⟩ = some (.int .i64 ((rd_T31 l0 a3).f0)) ∧ w'.cell? ⟨gb395, 1, none⟩ = some (.int .i64 ((rd_T31 l0 a3).f1)) ∧ w'.cell? ⟨gb395, 2, none⟩ = some (.int .i64 ((rd_T31 l0 a3).f2)) ∧ w'.cell? ⟨gb395, 3, none⟩ = some (.int .i64 ((rd_T31 l0 a3).f3)) ∧ w'.cell? ⟨gb395, 4, none⟩ = some (.int .i64 ((rd_T31 l0 a3).f4)) ∧ w'.cell? ⟨gb395, 5, none⟩ = some (.int .i64 ((rd_T31 l0 a3).f5)) ∧ w'.cell? ad415 = some (.int .i64 (rd x14_1 0)) ∧ w'.cell? ⟨ad415.block, ad415.off + 1, none⟩ = some (.int .i64 (rd x14_1 1)) ∧ w'.cell? ⟨ad415.block, ad415.off + 2, none⟩ = some (.int .i64 (rd x14_1 2))) (ds := []) #[false, false, false, false, false, false, false, false, false, false, false, false, false] (by kernel_rfl) rfl rfl ⟨(blk_cell BK395.out 0).trans rfl, (blk_cell BK395.out 1).trans rfl, (blk_cell BK395.out 2).trans rfl, (blk_cell BK395.out 3).trans rfl, (blk_cell BK395.out 4).trans rfl, (blk_cell BK395.out 5).trans rfl, hx415_0, hx416_0, hx417_0⟩ (fun hHeld => ?_); refine with_tabW spec_l04One.tab27 spec_l04One.bits27 (fun HT_ HW_ => ?_)
           generalize wr.drew = w75 at HO_1 HO_14 HO_16 BK395 HK HB hx415_0 hx416_0 hx417_0 hHeld ⊢
           refine pure_ (i := 1) (N := some 96) (v := ?_) (a' := ?_) #[false, true, false, false, false, false, false, false, false, false, false, false, false] rfl rfl (any_of HT_.out (by kernel_rfl)) (fun _ _ _ h => h) (Or.inl ⟨by rfl, ?_⟩) ?_ ?_
           rotate_left
           ·intro w'
            go_simp
            with_reducible rfl
           rotate_left
           ·simp only [Act.put, List.setIfInBounds_toArray, List.set_cons_zero, List.set_cons_succ, i64_w, i32_w]
            rfl
           refine pure_ (i := 2) (N := some 97) (v := ?_) (a' := ?_) #[false, true, true, false, false, false, false, false, false, false, false, false, false] rfl rfl (any_of HT_.out (by kernel_rfl)) (fun _ _ _ h => h) (Or.inl ⟨by rfl, ?_⟩) ?_ ?_
           rotate_left
           ·intro w'
            go_simp
            with_reducible rfl
           rotate_left
           ·simp only [Act.put, List.setIfInBounds_toArray, List.set_cons_zero, List.set_cons_succ, i64_w, i32_w]
            rfl
           refine pure_ (i := 3) (N := some 98) (v := ?_) (a' := ?_) #[false, true, true, true, false, false, false, false, false, false, false, false, false] rfl rfl (any_of HT_.out (by kernel_rfl)) (fun _ _ _ h => h) (Or.inl ⟨by rfl, ?_⟩) ?_ ?_
           rotate_left
           ·intro w'
            go_simp
            with_reducible rfl
           rotate_left
           ·simp only [Act.put, List.setIfInBounds_toArray, List.set_cons_zero, List.set_cons_succ, i64_w, i32_w]
            rfl
           refine pure_ (i := 5) (N := some 100) (v := ?_) (a' := ?_) #[false, true, true, true, false, true, false, false, false, false, false, false, false] rfl rfl (any_of HT_.out (by kernel_rfl)) (fun _ _ _ h => h) (Or.inl ⟨by rfl, ?_⟩) ?_ ?_
           rotate_left
           ·intro w'
            go_simp
            with_reducible rfl
           rotate_left
           ·simp only [Act.put, List.setIfInBounds_toArray, List.set_cons_zero, List.set_cons_succ, i64_w, i32_w]
            rfl
           refine pure_ (i := 6) (N := some 101) (v := ?_) (a' := ?_) #[false, true, true, true, false, true, true, false, false, false, false, false, false] rfl rfl (any_of HT_.out (by kernel_rfl)) (fun _ _ _ h => h) (Or.inl ⟨by rfl, ?_⟩) ?_ ?_
           rotate_left
           ·intro w'
            go_simp
            with_reducible rfl
           rotate_left
           ·simp only [Act.put, List.setIfInBounds_toArray, List.set_cons_zero, List.set_cons_succ, i64_w, i32_w]
            rfl
           refine pure_ (i := 8) (N := some 103) (v := ?_) (a' := ?_) #[false, true, true, true, false, true, true, false, true, false, false, false, false] rfl rfl (any_of HT_.out (by kernel_rfl)) (fun _ _ _ h => h) (Or.inl ⟨by rfl, ?_⟩) ?_ ?_
           rotate_left
           ·intro w'
            go_simp
            with_reducible rfl
           rotate_left
           ·simp only [Act.put, List.setIfInBounds_toArray, List.set_cons_zero, List.set_cons_succ, i64_w, i32_w]
            rfl
           refine pure_ (i := 9) (N := some 104) (v := ?_) (a' := ?_) #[false, true, true, true, false, true, true, false, true, true, false, false, false] rfl rfl (any_of HT_.out (by kernel_rfl)) (fun _ _ _ h => h) (Or.inl ⟨by rfl, ?_⟩) ?_ ?_
           rotate_left
           ·intro w'
            go_simp
            with_reducible rfl
           rotate_left
           ·simp only [Act.put, List.setIfInBounds_toArray, List.set_cons_zero, List.set_cons_succ, i64_w, i32_w]
            rfl
           refine take_ (i := 0) (N := some 95) (v := ?_) (a' := ?_) #[true, true, true, true, false, true, true, false, true, true, false, false, false] rfl rfl (take_ofW HT_.out HW_.out (by kernel_rfl)) (fun _ _ _ h => h) (Or.inl ⟨by rfl, ?_⟩) hHeld ?_ ?_
           rotate_left
           ·rintro w' ⟨s0, s1, s2, s3, s4, s5, s6, s7, s8⟩
            go_simp
            with_reducible rfl
           rotate_left
           ·simp only [Act.put, List.setIfInBounds_toArray, List.set_cons_zero, List.set_cons_succ, i64_w, i32_w]
            rfl
           refine take_ (i := 4) (N := some 99) (v := ?_) (a' := ?_) #[true, true, true, true, true, true, true, false, true, true, false, false, false] rfl rfl (take_ofW HT_.out HW_.out (by kernel_rfl)) (fun _ _ _ h => h) (Or.inl ⟨by rfl, ?_⟩) hHeld ?_ ?_
           rotate_left
           ·rintro w' ⟨s0, s1, s2, s3, s4, s5, s6, s7, s8⟩
            go_simp
            with_reducible rfl
           rotate_left
           ·simp only [Act.put, List.setIfInBounds_toArray, List.set_cons_zero, List.set_cons_succ, i64_w, i32_w]
            rfl
           refine take_ (i := 7) (N := some 102) (v := ?_) (a' := ?_) #[true, true, true, true, true, true, true, true, true, true, false, false, false] rfl rfl (take_ofW HT_.out HW_.out (by kernel_rfl)) (fun _ _ _ h => h) (Or.inl ⟨by rfl, ?_⟩) hHeld ?_ ?_
           rotate_left
           ·rintro w' ⟨s0, s1, s2, s3, s4, s5, s6, s7, s8⟩
            go_simp
            with_reducible rfl
           rotate_left
           ·simp only [Act.put, List.setIfInBounds_toArray, List.set_cons_zero, List.set_cons_succ, i64_w, i32_w]
            rfl
           refine take_ (i := 10) (N := some 105) (v := ?_) (a' := ?_) #[true, true, true, true, true, true, true, true, true, true, true, false, false] rfl rfl (take_ofW HT_.out HW_.out (by kernel_rfl)) (fun _ _ _ h => h) (Or.inl ⟨by rfl, ?_⟩) hHeld ?_ ?_
           rotate_left
           ·rintro w' ⟨s0, s1, s2, s3, s4, s5, s6, s7, s8⟩
            go_simp
            with_reducible rfl
           rotate_left
           ·simp only [Act.put, List.setIfInBounds_toArray, List.set_cons_zero, List.set_cons_succ, i64_w, i32_w]
            rfl
           refine one_ (i := 11) (N := some 106) #[true, true, true, true, true, true, true, true, true, true, true, true, false] rfl rfl (one_of HT_.out (by kernel_rfl)) (by decide) (fun K hK => ?_)
           refine goes_ Try.func120 (by kernel_rfl) rfl #[.agg #[.int .i64 ((rd_T31 l0 a3).f0), .int .i64 ((rd_T31 l0 a3).f1), .int .i64 ((rd_T31 l0 a3).f2), .int .i64 ((rd_T31 l0 a3).f3), .int .i64 ((rd_T31 l0 a3).f4), .int .i64 ((rd_T31 l0 a3).f5)], .int .i64 x15_1, .int .i64 (rd x14_1 0), .int .i64 (rd x14_1 1), .int .i64 (rd x14_1 2)] (by rfl) rfl rfl tm ?_
           with_reducible refine (spec_Apply.calls k1 ((rd_T31 l0 a3).f0) ((rd_T31 l0 a3).f1) ((rd_T31 l0 a3).f2) ((rd_T31 l0 a3).f3) ((rd_T31 l0 a3).f4) ((rd_T31 l0 a3).f5) x15_1 (rd x14_1 0) (rd x14_1 1) (rd x14_1 2) t418 _ A73.out).mono ?_
           rintro e w77 ⟨rfl, hb⟩
           have HS6_ := (hb.cell (World.block_lt_of_cell? _ _ (hHeld.2.2.2.2.2.2.1))).trans (hHeld.2.2.2.2.2.2.1)
           have HS7_ := (hb.cell (World.block_lt_of_cell? _ _ (hHeld.2.2.2.2.2.2.2.1))).trans (hHeld.2.2.2.2.2.2.2.1)
           have HS8_ := (hb.cell (World.block_lt_of_cell? _ _ (hHeld.2.2.2.2.2.2.2.2))).trans (hHeld.2.2.2.2.2.2.2.2)
           refine ⟨_, rfl, ?_⟩
           have n0_ := am (Kd.R_below (by exact sR <| HO_1.out) hb)
           have n1_ := am (Kd.R_below (by exact sR <| HO_14.out) hb)
           have n2_ := am (Kd.R_below (by exact sR <| HO_16.out) hb)
           have n3_ := am (blk_below (g := gb395) (o := .cells #[.int .i64 ((rd_T31 l0 a3).f0), .int .i64 ((rd_T31 l0 a3).f1), .int .i64 ((rd_T31 l0 a3).f2), .int .i64 ((rd_T31 l0 a3).f3), .int .i64 ((rd_T31 l0 a3).f4), .int .i64 ((rd_T31 l0 a3).f5)] 31 (0, 0)) (by exact sB <| BK395.out) hb)
           have n4_ := am (Kept.below (S := (fun k_ => P1_ k_)) (by repeat (first | (with_reducible first | exact HK.out | apply Kept.alloc | apply Kept.drewN | apply Kept.drew | refine Kept.setCell ?_ (.inr GW395.out) _) | exact HK.out)) hb)
           have n5_ := am (below_step (by exact bW) hb)
           clear HO_1
           clear HO_14
           clear HO_16
           clear BK395
           clear HK
           clear HB
           have HO_1 := n0_
           have HO_14 := n1_
           have HO_16 := n2_
           have BK395 := n3_
           have HK := n4_
           have HB := n5_
           clear n0_ n1_ n2_ n3_ n4_ n5_
           clear hb
           refine hK.out _ _ ⟨(blk_cell BK395.out 0).trans rfl, (blk_cell BK395.out 1).trans rfl, (blk_cell BK395.out 2).trans rfl, (blk_cell BK395.out 3).trans rfl, (blk_cell BK395.out 4).trans rfl, (blk_cell BK395.out 5).trans rfl, HS6_, HS7_, HS8_⟩ (fun hHeld => ?_)
           clear hK K
           refine norm_ (a' := ?_) ?_ ?_
           rotate_left
           ·show Act.put _ (some 106) _ = _
            simp only [Act.put, List.setIfInBounds_toArray, List.set_cons_zero, List.set_cons_succ, i64_w, i32_w]
            rfl
           refine pure_ (i := 12) (N := some 8) (v := ?_) (a' := ?_) #[true, true, true, true, true, true, true, true, true, true, true, true, true] rfl rfl (any_of HT_.out (by kernel_rfl)) (fun _ _ _ h => h) (Or.inl ⟨by rfl, ?_⟩) ?_ ?_
           rotate_left
           ·intro w'
            go_simp
            with_reducible rfl
           rotate_left
           ·simp only [Act.put, List.setIfInBounds_toArray, List.set_cons_zero, List.set_cons_succ, i64_w, i32_w]
            rfl
           refine done_ (done_of HT_.out (by kernel_rfl)) ?_
           try go_wp2
           go_ret
           exact ⟨by rfl, by exact sR <| Kd.R_mono HO_1.out (fun _ hk => hk.1), by exact bW, by repeat (first | (with_reducible first | exact HK.out | apply Kept.alloc | apply Kept.drewN | apply Kept.drew | refine Kept.setCell ?_ (.inr GW395.out) _) | exact HK.out)⟩
          ·rw [if_neg c72] at H
           exact absurd H (by simp)
         ·rw [if_neg c71] at H
          exact absurd H (by simp)
        ·rw [if_neg c70] at H
         exact absurd H (by simp)
  ·rw [if_neg c6] at H
   exact absurd H (by simp)
 ·rw [if_neg c5] at H
  exact absurd H (by simp)
/-! ### spec_l04AtR: function 52 -/
def spec_l04AtR.l0 (AT : List (S31) → List Int → Int → Option (Int × List Int)) : Nat → List (S31) → List Int → Int → List Int → Int → Option (Int × List Int)
 | 0, _, _, _, _, _ => none
 | k + 1, x0, x1, x2, x7, x8 => if x8 ≤ x2 then ((spec_l04One.f AT k x0 x1 x7 x8).bind fun bt586 => (if x7.length < 17592186044416 then (spec_l04AtR.l0 AT k x0 bt586.2 x2 (x7 ++ [bt586.1]) (wrap64 (x8 + 1))) else (none))) else (if 0 ≤ x2 then (if x2 < (x7.length : Int) then (some (rd x7 x2, x1)) else (none)) else (none))
def spec_l04AtR.f (AT : List (S31) → List Int → Int → Option (Int × List Int)) (k : Nat) (l0 : List (S31)) (l1 : List Int) (a2 : Int) : Option (Int × List Int) := spec_l04AtR.l0 AT k l0 l1 a2 (([] : List Int)) 0
set_option maxHeartbeats 8000000 in
set_option maxRecDepth 100000 in
theorem spec_l04AtR.calls (AT : List (S31) → List Int → Int → Option (Int × List Int)) (hAT : ∀ (A0 : Option Addr) (c0 : Nat) (l0 : List (S31)) (P1_ : Nat → Prop) (u9000_ : Value) (l1 : List Int) (a2 : Int) (r1 : Int) (r2 : List Int) (w0 w : World) (hB : Below w0.heap.size w0 w) (hr0 : ∀ W_, Kept w W_ (fun k_ => P1_ k_) → Kd.C k31 W_ A0 l0.length l0) (hc0 : l0.length ≤ c0) (ho1 : Kd.R (Kd.int .i64) 3 w w0.heap.size P1_ u9000_ l1) (h : AT l0 l1 a2 = some (r1, r2)), Calls Try.prog 52 #[.slice A0 l0.length c0, u9000_, .int .i64 a2] w fun e w' => e = .returned (.int .i64 r1) ∧ Kd.R (Kd.int .i64) 3 w' w0.heap.size (fun k_ => (P1_ k_ ∨ w.heap.size ≤ k_)) u9000_ r2 ∧ Below w0.heap.size w0 w' ∧ Kept w w' (fun k_ => P1_ k_)) (k : Nat) (A0 : Option Addr) (c0 : Nat) (l0 : List (S31)) (P1_ : Nat → Prop) (u9000_ : Value) (l1 : List Int) (a2 : Int) (r1 : Int) (r2 : List Int) (w0 w : World) (hB : Below w0.heap.size w0 w) (hr0 : ∀ W_, Kept w W_ (fun k_ => P1_ k_) → Kd.C k31 W_ A0 l0.length l0) (hc0 : l0.length ≤ c0) (ho1 : Kd.R (Kd.int .i64) 3 w w0.heap.size P1_ u9000_ l1) (h : spec_l04AtR.f AT k l0 l1 a2 = some (r1, r2)) :
  Calls Try.prog 52 #[.slice A0 l0.length c0, u9000_, .int .i64 a2] w fun e w' => e = .returned (.int .i64 r1) ∧ Kd.R (Kd.int .i64) 3 w' w0.heap.size (fun k_ => (P1_ k_ ∨ w.heap.size ≤ k_)) u9000_ r2 ∧ Below w0.heap.size w0 w' ∧ Kept w w' (fun k_ => P1_ k_) := by
 have HAT := am hAT
 clear hAT
 have HR0 := am hr0
 have HC0 := am hc0
 clear hr0 hc0
 have HO1 := am (show Kd.R (Kd.int .i64) 3 w w0.heap.size (fun k_ => (P1_ k_ ∨ w.heap.size ≤ k_)) u9000_ l1 from Kd.R_mono ho1 (fun k_ hk => (.inl hk)))
 have HK := am (Kept.refl w (fun k_ => P1_ k_))
 have HW0 := am hB.size
 have HB := am hB
 clear hB
 have H : (spec_l04AtR.l0 AT k l0 l1 a2 (([] : List Int)) 0) = some (r1, r2) := h
 clear h
 obtain ⟨y583, hy583⟩ : ∃ y_ : List Int, y_ = (([] : List Int)) := ⟨_, rfl⟩
 replace H : (spec_l04AtR.l0 AT k l0 l1 a2 y583 0) = some (r1, r2) := by (rw [hy583]; with_reducible exact H)
 have Ny583 := am hy583
 clear hy583
 have H' := am H
 clear H
 go_enter Try.func52, Try.ntmps52
 go_wp2_with (first | ((with_reducible refine gate_dst (N := 9) rfl ?_); refine Kd.R_lit (Kd.int .i64) _ 3 ?hg (N := 9) ?hd (xs := ([] : List Int)) (inner := []) (ok := fun _ => True) (okp := fun _ => True) ?hr ?hp (fun _ hk => hk) trivial (Below.refl _ _) (Nat.le_refl _) (by simp) ?_; (case hd => rfl); (case hg => rfl); (case hr => (go_simp; done)); (case hp => exact (Reps.none _ _)); intro v584 w4 ho5 hb hg_ hnew_; clear hg_ hnew_; (rw [← Ny583.out] at ho5); have n0_ := am (Kd.R_elder' (by exact sR <| HO1.out) (Kd.R_base ho5) hb); have n1_ := am (Kd.R_lower (Kd.R_new' (Kd.R_newM (M := fun k_ => (P1_ k_ ∨ w.heap.size ≤ k_)) ho5 (by exact HK.out.1) (fun k_ h_ => .inr h_)) (Kd.R_lt (by exact sR <| HO1.out))) (below_size (by exact sW HB.out))); have n2_ := am (Kept.below (S := (fun k_ => P1_ k_)) (by repeat (first | (with_reducible first | exact HK.out | apply Kept.alloc | apply Kept.drewN | apply Kept.drew) | exact HK.out)) hb); have n3_ := am (below_step (by exact sW HB.out) hb); clear HO1; clear HK; clear HB; have HO1 := n0_; have HO585 := n1_; have HK := n2_; have HB := n3_; clear n0_ n1_ n2_ n3_; clear hb ho5))
 go_loopg [7, 8] k (fun kq v7 v8 w' => ∃ (x1_1 : List Int) (x7_1 : List Int) (x8_1 : Int), v8 = .int .i64 x8_1 ∧ Aside0 (spec_l04AtR.l0 AT kq l0 x1_1 a2 x7_1 x8_1 = some (r1, r2)) ∧ Aside0 (kq ≤ k) ∧ Aside0 (Kd.R (Kd.int .i64) 3 w' w0.heap.size (fun k_ => (P1_ k_ ∨ w.heap.size ≤ k_) ∧ some k_ ≠ (v7 : Value).ownBlock) u9000_ x1_1) ∧ Aside0 (Kd.R (Kd.int .i64) 3 w' w0.heap.size (fun k_ => (P1_ k_ ∨ w.heap.size ≤ k_) ∧ some k_ ≠ (u9000_ : Value).ownBlock) v7 x7_1) ∧ Aside0 (Kept w w' (fun k_ => P1_ k_)) ∧ Aside0 (Below w0.heap.size w0 w'))
 case atStart => exact ⟨(l1), (y583), (0), (by rfl), H', ⟨Nat.le_refl _⟩, ⟨by exact sR <| HO1.out⟩, ⟨by exact sR <| Kd.R_mono HO585.out (fun _ hk => ⟨hk.1.1, hk.2⟩)⟩, ⟨by repeat (first | (with_reducible first | exact HK.out | apply Kept.alloc | apply Kept.drewN | apply Kept.drew) | exact HK.out)⟩, ⟨by exact sW HB.out⟩⟩
 case round =>
  clear H'
  obtain ⟨x1_1, x7_1, x8_1, rfl, HA, HK1, HO_1, HO_7, HK, HB⟩ := hrel
  cases gk with
  | zero => exact absurd HA.out (by simp [spec_l04AtR.l0])
  | succ k1 =>
   have H := HA.out
   clear HA
   simp only [spec_l04AtR.l0] at H
   by_cases c6 : x8_1 ≤ a2
   ·rw [if_pos c6] at H
    have c6b0 : decide (x8_1 ≤ a2) = true := decide_eq_true c6
    clear c6
    replace H := oB H
    obtain ⟨⟨t586, t587⟩, A70, H⟩ := H
    replace H : (if x7_1.length < 17592186044416 then (spec_l04AtR.l0 AT k1 l0 t587 a2 (x7_1 ++ [t586]) (wrap64 (x8_1 + 1))) else (none)) = some (r1, r2) := H
    have A7 := am A70
    clear A70
    by_cases c8 : x7_1.length < 17592186044416
    ·rw [if_pos c8] at H
     have LMc8 := am c8
     clear c8
     obtain ⟨y588, hy588⟩ : ∃ y_ : List Int, y_ = (x7_1 ++ [t586]) := ⟨_, rfl⟩
     replace H : (spec_l04AtR.l0 AT k1 l0 t587 a2 y588 (wrap64 (x8_1 + 1))) = some (r1, r2) := by (rw [hy588]; with_reducible exact H)
     have Ny588 := am hy588
     clear hy588
     have H' := am H
     clear H
     obtain ⟨Ao9, co9, eo9⟩ := Kd.R_slice HO_1.out
     subst eo9
     obtain ⟨Ao10, co10, eo10⟩ := Kd.R_slice HO_7.out
     subst eo10
     go_wp2_with (first | ((with_reducible refine gate_callee (f := 82) rfl ?_); refine goesL_ (some 20) rfl rfl Try.func82 (by kernel_rfl) rfl #[.slice A0 l0.length c0, .slice Ao9 x1_1.length co9, .slice Ao10 x7_1.length co10, .int .i64 x8_1] rfl tm ?_; (with_reducible refine (spec_l04One.calls AT HAT.out k1 _ _ l0 (fun k_ => some k_ = (.slice Ao9 x1_1.length co9 : Value).ownBlock) (.slice Ao9 x1_1.length co9) x1_1 _ _ x7_1 x8_1 t586 t587 w0 _ ?side1 ?side2 ?side3 ?side4 ?side5 ?side6 A7.out).mono ?_); (case side1 => exact sW HB.out); (case side2 => exact Kd.C_kept_call HR0.out (by repeat (first | (with_reducible first | exact HK.out | apply Kept.alloc | apply Kept.drewN | apply Kept.drew) | exact HK.out)) (fun k_ hs_ => (fun e_ => (HO_1.out.1 k_ e_.symm).1) hs_)); (case side3 => exact HC0.out); (case side4 => exact Kd.R_tight rfl HO_1.out); (case side5 => exact Kd.C_kept_own (HO_7.out) (fun k_ hk_ hs_ => (hk_.2) hs_)); (case side6 => exact (Kd.R_reads' HO_7.out).2.1); rintro e w11 ⟨rfl, hy0, hb, hkp⟩; refine ⟨_, rfl, ?_⟩; have n0_ := am (Kd.R_reok rfl hy0 (fun k_ e_ => HO_1.out.1 k_ e_)); have n1_ := am (Kd.R_mono (ok' := fun k_ => (P1_ k_ ∨ w.heap.size ≤ k_) ∧ some k_ ≠ (.slice Ao9 x1_1.length co9 : Value).ownBlock) (Kd.R_keptB (HO_7.out) hkp (fun k_ hk_ hs_ => (hk_.2) hs_)) (fun k_ hk_ => ⟨hk_.1.1, hk_.1.2⟩)); have n2_ := am (Kept.then_ (S := (fun k_ => P1_ k_)) (by repeat (first | (with_reducible first | exact HK.out | apply Kept.alloc | apply Kept.drewN | apply Kept.drew) | exact HK.out)) hkp (fun k_ hs_ => (fun e_ => (HO_1.out.1 k_ e_.symm).1) hs_)); have n3_ := am (hb); clear HO_1; clear HO_7; clear HK; clear HB; have HO_1 := n0_; have HO_7 := n1_; have HK := n2_; have HB := n3_; clear n0_ n1_ n2_ n3_; (try clear hb); (try clear hkp); (try clear hy0)) | ((with_reducible refine gate_builtin (b := .append) (xs := #[.tmp 15, .tmp 21]) rfl ?_); at_builtin; refine Kd.R_append (Kd.int .i64) (w0 := w0) w0.heap.size rfl (.tmp 15) (.tmp 21) 25 3 (.int .i64 0) 8 rfl Try.underlying25 info3 rfl (by decide) (by omega) (.slice Ao10 x7_1.length co10) x7_1 t586 [.int .i64 t586] (fun k_ => (P1_ k_ ∨ w.heap.size ≤ k_) ∧ some k_ ≠ (.slice Ao9 x1_1.length co9 : Value).ownBlock) (fun _ => False) rfl rfl ?aP (fun _ hk => hk.elim) ?aF ?aO ?aB ?aS ?aL ?_; (case aP => exact rfl); (case aB => exact (by exact sW HB.out)); (case aF => exact (fun k_ hk => ⟨(.inr (Nat.le_trans (by exact HK.out.1) hk)), Kd.fresh' (Kd.R_lt (by exact sR <| HO_1.out)) k_ hk⟩)); (case aO => exact (by exact sR <| HO_7.out)); (case aS => exact (below_size (by exact sW HB.out))); (case aL => have := LMc8.out; omega); intro v589 w12 ho hb hg hat; rw [← Ny588.out] at ho; have n0_ := am (Kd.R_after (ok := (fun k_ => (P1_ k_ ∨ w.heap.size ≤ k_))) (by exact sR <| HO_1.out) hg hat); have n1_ := am (hb); have n2_ := am (Kept.of_grown (S := (fun k_ => P1_ k_)) hg (by repeat (first | (with_reducible first | exact HK.out | apply Kept.alloc | apply Kept.drewN | apply Kept.drew) | exact HK.out)) (fun k_ e_ => (HO_7.out.1 k_ e_).1)); have n3_ := am (ho); clear HO_1; clear HB; clear HK; clear HO_7; have HO_1 := n0_; have HB := n1_; have HK := n2_; have HO590 := n3_; clear n0_ n1_ n2_ n3_; clear ho hb hg hat))
     go_roundg k1
     case measure => have := HK1.out; omega
     case rel => exact ⟨(t587), (y588), (wrap64 (x8_1 + 1)), (by rfl), H', ⟨by have := HK1.out; omega⟩, ⟨by exact sR <| HO_1.out⟩, ⟨by exact sR <| HO590.out⟩, ⟨by repeat (first | (with_reducible first | exact HK.out | apply Kept.alloc | apply Kept.drewN | apply Kept.drew) | exact HK.out)⟩, ⟨by exact sW HB.out⟩⟩
    ·rw [if_neg c8] at H
     exact absurd H (by simp)
   ·rw [if_neg c6] at H
    have c6b0 : decide (x8_1 ≤ a2) = false := decide_eq_false c6
    clear c6
    by_cases c13 : 0 ≤ a2
    ·rw [if_pos c13] at H
     have c13b0 : decide (0 ≤ a2) = true := decide_eq_true c13
     clear c13
     by_cases c14 : a2 < (x7_1.length : Int)
     ·rw [if_pos c14] at H
      have c14b0 : decide (a2 < (x7_1.length : Int)) = true := decide_eq_true c14
      clear c14
      simp only [Option.some.injEq, Prod.mk.injEq] at H
      obtain ⟨rfl, rfl⟩ := H
      obtain ⟨Ao15, co15, eo15⟩ := Kd.R_slice HO_7.out
      subst eo15
      have p591 : 0 ≤ (a2 : Int) := oD (by assumption)
      have q591 : a2 < (x7_1.length : Int) := oD (by assumption)
      obtain ⟨ad591, e591, hx591_0⟩ := Kd.at_int (Kd.R_reads' HO_7.out).2.2 a2 p591 q591
      cases e591
      replace p591 := eq_true p591
      replace q591 := eq_true q591
      go_wp2
      go_ret
      exact ⟨by rfl, by exact sR <| Kd.R_mono HO_1.out (fun _ hk => hk.1), by exact sW HB.out, by repeat (first | (with_reducible first | exact HK.out | apply Kept.alloc | apply Kept.drewN | apply Kept.drew) | exact HK.out)⟩
     ·rw [if_neg c14] at H
      exact absurd H (by simp)
    ·rw [if_neg c13] at H
     exact absurd H (by simp)
/-! ### spec_l04At: the knot of the recursion -/
def spec_l04At.f : Nat → List (S31) → List Int → Int → Option (Int × List Int)
  | 0 => fun _ _ _ => none
  | n + 1 => fun a0 a1 a2 => spec_l04AtR.f (spec_l04At.f n) (n + 1) a0 a1 a2
theorem spec_l04At.calls (k : Nat) : ∀ (A0 : Option Addr) (c0 : Nat) (l0 : List (S31)) (P1_ : Nat → Prop) (u9000_ : Value) (l1 : List Int) (a2 : Int) (r1 : Int) (r2 : List Int) (w0 w : World) (hB : Below w0.heap.size w0 w) (hr0 : ∀ W_, Kept w W_ (fun k_ => P1_ k_) → Kd.C k31 W_ A0 l0.length l0) (hc0 : l0.length ≤ c0) (ho1 : Kd.R (Kd.int .i64) 3 w w0.heap.size P1_ u9000_ l1) (h : spec_l04At.f k l0 l1 a2 = some (r1, r2)), Calls Try.prog 52 #[.slice A0 l0.length c0, u9000_, .int .i64 a2] w fun e w' => e = .returned (.int .i64 r1) ∧ Kd.R (Kd.int .i64) 3 w' w0.heap.size (fun k_ => (P1_ k_ ∨ w.heap.size ≤ k_)) u9000_ r2 ∧ Below w0.heap.size w0 w' ∧ Kept w w' (fun k_ => P1_ k_) := by
  induction k with
  | zero => intro A0 c0 l0 P1_ u9000_ l1 a2 r1 r2 w0 w hB hr0 hc0 ho1 h; exact absurd h (by simp [spec_l04At.f])
  | succ n ih => exact spec_l04AtR.calls _ ih (n + 1)
/-! ### spec_Value: function 15 -/
mutual
def spec_Value.j0 : Nat → List (S31) → List Int → Bool → Option (Int × Bool)
 | 0, _, _, _ => none
 | k + 1, x0, x1, x16 => if x16 = true then (some (0, false)) else ((spec_Prune.f k x0).bind fun t593 => (spec_Value.l0 k x1 t593 0 0))
def spec_Value.l0 : Nat → List Int → List (S31) → Int → Int → Option (Int × Bool)
 | 0, _, _, _, _ => none
 | k + 1, x1, x6, x7, x8 => if x8 < (x6.length : Int) then (if 0 ≤ x8 then ((spec_l02Quant.f ((rd_T31 x6 x8).f0)).bind fun t597 => (if t597 = true then (spec_Value.l0 k x1 x6 (wrap64 (x7 + ((rd_T31 x6 x8).f4))) (wrap64 (x8 + 1))) else (spec_Value.l0 k x1 x6 x7 (wrap64 (x8 + 1))))) else (none)) else (if x7 > 12 then (some (0, false)) else ((spec_l04Fits.f k x6 x1).bind fun t599 => (if t599 = true then ((some (([] : List Int) : List Int)).bind fun y600 => (if y600.length + x1.length < 17592186044416 then ((spec_l04At.f k x6 (y600 ++ x1) (wrap64 ((x6.length : Int) - 1))).bind fun bt606 => (some (bt606.1, true))) else (none))) else (some (0, false)))))
end
def spec_Value.f (k : Nat) (l0 : List (S31)) (l1 : List Int) : Option (Int × Bool) := (spec_TermOk.f k l0).bind fun t592 => (if t592 = true then (spec_Value.j0 k l0 l1 ((l1.length : Int) != 8)) else (spec_Value.j0 k l0 l1 true))
set_option maxHeartbeats 8000000 in
set_option maxRecDepth 100000 in
theorem spec_Value.calls (k : Nat) (A0 : Option Addr) (c0 : Nat) (l0 : List (S31)) (A1 : Option Addr) (c1 : Nat) (l1 : List Int) (r1 : Int) (r2 : Bool) (w : World) (hr0 : Kd.C k31 w A0 l0.length l0) (hc0 : l0.length ≤ c0) (hr1 : Kd.C (Kd.int .i64) w A1 l1.length l1) (hc1 : l1.length ≤ c1) (h : spec_Value.f k l0 l1 = some (r1, r2)) :
  Calls Try.prog 15 #[.slice A0 l0.length c0, .slice A1 l1.length c1] w fun e w' => e = .returned (.tuple #[.int .i64 r1, .bool r2]) ∧ Below w.heap.size w w' := by
 have HR0 := am hr0
 have HC0 := am hc0
 clear hr0 hc0
 have HR1 := am hr1
 have HC1 := am hc1
 clear hr1 hc1
 have HB := am (Below.refl w.heap.size w)
 have H : ((spec_TermOk.f k l0).bind fun t592 => (if t592 = true then (spec_Value.j0 k l0 l1 ((l1.length : Int) != 8)) else (spec_Value.j0 k l0 l1 true))) = some (r1, r2) := h
 clear h
 have HC3 := am H
 clear H
 go_enter Try.func15, Try.ntmps15
 go_upto_region 1 with (fail)
 go_cut [16] (fun v16 wc => ∃ (kq : Nat) (x16_2 : Bool), v16 = .bool x16_2 ∧ Aside0 (spec_Value.j0 kq l0 l1 x16_2 = some (r1, r2)) ∧ Aside0 (kq ≤ k) ∧ Aside0 (Below w.heap.size w wc))
 case first =>
  have H := HC3.out
  clear HC3
  replace H := oB H
  obtain ⟨t592, A40, H⟩ := H
  have A4 := am A40
  clear A40
  by_cases c5 : t592 = true
  ·subst c5
   rw [if_pos rfl] at H
   have H' := am H
   clear H
   go_wp2_with (first | ((with_reducible refine gate_callee (f := 13) rfl ?_); refine goesL_ (some 10) rfl rfl Try.func13 (by kernel_rfl) rfl #[.slice A0 l0.length c0] rfl tm ?_; (with_reducible refine (spec_TermOk.calls k _ _ l0 true _ ?side1 ?side2 A4.out).mono ?_); (case side1 => exact sC (Kd.C_below HR0.out HB.out)); (case side2 => exact HC0.out); rintro e w6 ⟨rfl, hb⟩; refine ⟨_, rfl, ?_⟩; have n0_ := am (below_step (by exact sW HB.out) hb); clear HB; have HB := n0_; clear n0_; (try clear hb); (try clear hb2); (try clear hk); (try clear hi)))
   go_meet
   case rel => exact ⟨_, (((l1.length : Int) != 8)), (by rfl), H', ⟨by omega⟩, ⟨by exact sW HB.out⟩⟩
  ·replace c5 := Bool.eq_false_iff.mpr c5
   subst c5
   rw [if_neg (show ¬ (false = true) by decide)] at H
   have H' := am H
   clear H
   go_wp2_with (first | ((with_reducible refine gate_callee (f := 13) rfl ?_); refine goesL_ (some 10) rfl rfl Try.func13 (by kernel_rfl) rfl #[.slice A0 l0.length c0] rfl tm ?_; (with_reducible refine (spec_TermOk.calls k _ _ l0 false _ ?side1 ?side2 A4.out).mono ?_); (case side1 => exact sC (Kd.C_below HR0.out HB.out)); (case side2 => exact HC0.out); rintro e w7 ⟨rfl, hb⟩; refine ⟨_, rfl, ?_⟩; have n0_ := am (below_step (by exact sW HB.out) hb); clear HB; have HB := n0_; clear n0_; (try clear hb); (try clear hb2); (try clear hk); (try clear hi)))
   go_meet
   case rel => exact ⟨_, (true), (by rfl), H', ⟨by omega⟩, ⟨by exact sW HB.out⟩⟩
 case rest =>
  clear HC3
  obtain ⟨kq, x16_2, rfl, HA, HJ2, HB⟩ := hcut
  cases kq with
  | zero => exact absurd HA.out (by simp [spec_Value.j0])
  | succ kj2 =>
   have H := HA.out
   clear HA
   simp only [spec_Value.j0] at H
   by_cases c8 : x16_2 = true
   ·subst c8
    rw [if_pos rfl] at H
    simp only [Option.some.injEq, Prod.mk.injEq] at H
    obtain ⟨rfl, rfl⟩ := H
    go_wp2
    go_ret2
    exact ⟨by rfl, by exact sW HB.out⟩
   ·replace c8 := Bool.eq_false_iff.mpr c8
    subst c8
    rw [if_neg (show ¬ (false = true) by decide)] at H
    replace H := oB H
    obtain ⟨t593, A90, H⟩ := H
    have A9 := am A90
    clear A90
    have H' := am H
    clear H
    go_wp2_with (first | ((with_reducible refine gate_callee (f := 49) rfl ?_); refine goesL_ (some 18) rfl rfl Try.func49 (by kernel_rfl) rfl #[.slice A0 l0.length c0] rfl tm ?_; (with_reducible refine (spec_Prune.calls kj2 _ _ l0 t593 _ ?side1 ?side2 A9.out).mono ?_); (case side1 => exact sC (Kd.C_below HR0.out HB.out)); (case side2 => exact HC0.out); rintro e w10 ⟨v594, rfl, ho0, hb⟩; refine ⟨_, rfl, ?_⟩; have n0_ := am (Kd.R_lower ho0 (below_size (by exact sW HB.out))); have n1_ := am (below_step (by exact sW HB.out) hb); clear HB; have HO595 := n0_; have HB := n1_; clear n0_ n1_; (try clear hb); (try clear hb2); (try clear hk); (try clear hi); (try clear ho0)))
    go_loopg [7, 8] kj2 (fun kq v7 v8 w' => ∃ (x7_2 : Int) (x8_2 : Int), v7 = .int .i64 x7_2 ∧ v8 = .int .i64 x8_2 ∧ Aside0 (spec_Value.l0 kq l1 t593 x7_2 x8_2 = some (r1, r2)) ∧ Aside0 (kq ≤ kj2) ∧ Aside0 (Kd.R k31 31 w' w.heap.size (fun _ => True) v594 t593) ∧ Aside0 (Below w.heap.size w w'))
    case atStart => exact ⟨(0), (0), (by rfl), (by rfl), H', ⟨Nat.le_refl _⟩, ⟨by exact sR <| HO595.out⟩, ⟨by exact sW HB.out⟩⟩
    case round =>
     clear H'
     obtain ⟨x7_2, x8_2, rfl, rfl, HA, HK2, HO_6, HB⟩ := hrel
     cases gk with
     | zero => exact absurd HA.out (by simp [spec_Value.l0])
     | succ k2 =>
      have H := HA.out
      clear HA
      simp only [spec_Value.l0] at H
      by_cases c11 : x8_2 < (t593.length : Int)
      ·rw [if_pos c11] at H
       have c11b0 : decide (x8_2 < (t593.length : Int)) = true := decide_eq_true c11
       clear c11
       by_cases c12 : 0 ≤ x8_2
       ·rw [if_pos c12] at H
        have c12b0 : decide (0 ≤ x8_2) = true := decide_eq_true c12
        clear c12
        replace H := oB H
        obtain ⟨t597, A130, H⟩ := H
        have A13 := am A130
        clear A130
        by_cases c14 : t597 = true
        ·subst c14
         rw [if_pos rfl] at H
         have H' := am H
         clear H
         obtain ⟨Ao15, co15, eo15⟩ := Kd.R_slice HO_6.out
         subst eo15
         have p596 : 0 ≤ (x8_2 : Int) := oD (by assumption)
         have q596 : x8_2 < (t593.length : Int) := oD (by assumption)
         obtain ⟨ad596, e596, hx596_0, hx596_1, hx596_2, hx596_3, hx596_4, hx596_5⟩ := at_T31 (Kd.R_reads' HO_6.out).2.2 x8_2 p596 q596
         cases e596
         replace p596 := eq_true p596
         replace q596 := eq_true q596
         go_wp2_with (first | ((with_reducible refine gate_callee (f := 50) rfl ?_); refine goesL_ (some 30) rfl rfl Try.func50 (by kernel_rfl) rfl #[.int .i64 ((rd_T31 t593 x8_2).f0)] rfl tm ?_; (with_reducible refine (spec_l02Quant.calls ((rd_T31 t593 x8_2).f0) true _ A13.out).mono ?_); rintro e w' ⟨rfl, ⟨nd, rfl⟩⟩; refine ⟨_, rfl, ?_⟩; have p598 : 0 ≤ (x8_2 : Int) := oD (by assumption); have q598 : x8_2 < (t593.length : Int) := oD (by assumption); obtain ⟨ad598, e598, hx598_0, hx598_1, hx598_2, hx598_3, hx598_4, hx598_5⟩ := at_T31 (Kd.R_reads' HO_6.out).2.2 x8_2 p598 q598; obtain rfl : ad596 = ad598 := (by injection e598); replace p598 := eq_true p598; replace q598 := eq_true q598))
         go_roundg k2
         case measure => have := HJ2.out; have := HK2.out; omega
         case rel => exact ⟨(wrap64 (x7_2 + ((rd_T31 t593 x8_2).f4))), (wrap64 (x8_2 + 1)), (by rfl), (by rfl), H', ⟨by have := HJ2.out; have := HK2.out; omega⟩, ⟨by exact sR <| HO_6.out⟩, ⟨by exact sW HB.out⟩⟩
        ·replace c14 := Bool.eq_false_iff.mpr c14
         subst c14
         rw [if_neg (show ¬ (false = true) by decide)] at H
         have H' := am H
         clear H
         obtain ⟨Ao16, co16, eo16⟩ := Kd.R_slice HO_6.out
         subst eo16
         have p596 : 0 ≤ (x8_2 : Int) := oD (by assumption)
         have q596 : x8_2 < (t593.length : Int) := oD (by assumption)
         obtain ⟨ad596, e596, hx596_0, hx596_1, hx596_2, hx596_3, hx596_4, hx596_5⟩ := at_T31 (Kd.R_reads' HO_6.out).2.2 x8_2 p596 q596
         cases e596
         replace p596 := eq_true p596
         replace q596 := eq_true q596
         go_wp2_with (first | ((with_reducible refine gate_callee (f := 50) rfl ?_); refine goesL_ (some 30) rfl rfl Try.func50 (by kernel_rfl) rfl #[.int .i64 ((rd_T31 t593 x8_2).f0)] rfl tm ?_; (with_reducible refine (spec_l02Quant.calls ((rd_T31 t593 x8_2).f0) false _ A13.out).mono ?_); rintro e w' ⟨rfl, ⟨nd, rfl⟩⟩; refine ⟨_, rfl, ?_⟩))
         go_roundg k2
         case measure => have := HJ2.out; have := HK2.out; omega
         case rel => exact ⟨(x7_2), (wrap64 (x8_2 + 1)), (by rfl), (by rfl), H', ⟨by have := HJ2.out; have := HK2.out; omega⟩, ⟨by exact sR <| HO_6.out⟩, ⟨by exact sW HB.out⟩⟩
       ·rw [if_neg c12] at H
        exact absurd H (by simp)
      ·rw [if_neg c11] at H
       have c11b0 : decide (x8_2 < (t593.length : Int)) = false := decide_eq_false c11
       clear c11
       by_cases c17 : x7_2 > 12
       ·rw [if_pos c17] at H
        have c17b0 : decide (12 < x7_2) = true := decide_eq_true c17
        clear c17
        simp only [Option.some.injEq, Prod.mk.injEq] at H
        obtain ⟨rfl, rfl⟩ := H
        obtain ⟨Ao18, co18, eo18⟩ := Kd.R_slice HO_6.out
        subst eo18
        go_wp2
        go_ret2
        exact ⟨by rfl, by exact sW HB.out⟩
       ·rw [if_neg c17] at H
        have c17b0 : decide (12 < x7_2) = false := decide_eq_false c17
        clear c17
        replace H := oB H
        obtain ⟨t599, A190, H⟩ := H
        have A19 := am A190
        clear A190
        by_cases c20 : t599 = true
        ·subst c20
         rw [if_pos rfl] at H
         obtain ⟨y600, hy600⟩ : ∃ y_ : List Int, y_ = (([] : List Int)) := ⟨_, rfl⟩
         replace H : (if y600.length + l1.length < 17592186044416 then ((spec_l04At.f k2 t593 (y600 ++ l1) (wrap64 ((t593.length : Int) - 1))).bind fun bt606 => (some (bt606.1, true))) else (none)) = some (r1, r2) := by (have H2_ := (Option.bind_some _ _).symm.trans H; rw [hy600]; with_reducible exact H2_)
         have Ny600 := am hy600
         clear hy600
         by_cases c21 : y600.length + l1.length < 17592186044416
         ·rw [if_pos c21] at H
          have LMc21 := am c21
          clear c21
          obtain ⟨y603, hy603⟩ : ∃ y_ : List Int, y_ = (y600 ++ l1) := ⟨_, rfl⟩
          replace H : ((spec_l04At.f k2 t593 y603 (wrap64 ((t593.length : Int) - 1))).bind fun bt606 => (some (bt606.1, true))) = some (r1, r2) := by (rw [hy603]; with_reducible exact H)
          have Ny603 := am hy603
          clear hy603
          replace H := oB H
          obtain ⟨⟨t606, t607⟩, A220, H⟩ := H
          replace H : (some (t606, true)) = some (r1, r2) := H
          have A22 := am A220
          clear A220
          simp only [Option.some.injEq, Prod.mk.injEq] at H
          obtain ⟨rfl, rfl⟩ := H
          obtain ⟨Ao23, co23, eo23⟩ := Kd.R_slice HO_6.out
          subst eo23
          go_wp2_with (first | (go_at_call 51; (with_reducible refine (spec_l04Fits.calls k2 _ _ t593 _ _ l1 true _ ?side1 ?side2 ?side3 ?side4 A19.out).mono ?_); (case side1 => exact sC (Kd.R_reads' HO_6.out).2.2); (case side2 => exact (Kd.R_reads' HO_6.out).2.1); (case side3 => exact sC (Kd.C_below HR1.out HB.out)); (case side4 => exact HC1.out); rintro e w24 ⟨rfl, hb⟩; have n0_ := am (Kd.R_below (by exact sR <| HO_6.out) hb); have n1_ := am (below_step (by exact sW HB.out) hb); clear HO_6; clear HB; have HO_6 := n0_; have HB := n1_; clear n0_ n1_; (try clear hb); (try clear hb2); (try clear hk); (try clear hi)) | ((with_reducible refine gate_dst (N := 47) rfl ?_); (try (refine gate_guard (by rfl) ?_; dsimp only)); refine Kd.R_lit (Kd.int .i64) _ 3 ?hg (N := 47) ?hd (xs := ([] : List Int)) (inner := []) (ok := fun _ => True) (okp := fun _ => True) ?hr ?hp (fun _ hk => hk) trivial (Below.refl _ _) (Nat.le_refl _) (by simp) ?_; (case hd => rfl); (case hg => rfl); (case hr => (go_simp; done)); (case hp => exact (Reps.none _ _)); intro v601 w25 ho26 hb hg_ hnew_; clear hg_ hnew_; (rw [← Ny600.out] at ho26); have n0_ := am (Kd.R_below (by exact sR <| HO_6.out) hb); have n1_ := am (Kd.R_lower ho26 (below_size (by exact sW HB.out))); have n2_ := am (below_step (by exact sW HB.out) hb); clear HO_6; clear HB; have HO_6 := n0_; have HO602 := n1_; have HB := n2_; clear n0_ n1_ n2_; clear hb ho26) | ((with_reducible refine gate_builtin (b := .append) (xs := #[.tmp 47, .tmp 48]) rfl ?_); (try (refine gate_guard (by rfl) ?_; dsimp only)); at_builtin; refine Kd.R_append_rows (Kd.int .i64) (w0 := w) w.heap.size rfl (.tmp 47) (.tmp 48) 25 3 (.int .i64 0) 8 rfl Try.underlying25 info3 rfl (by decide) (by omega) v601 y600 l1 _ _ _ (fun _ => True) (fun _ => False) rfl rfl ?aO ?aR (fun _ _ h => h) (fun _ h => h.elim) ?aF ?aB ?aS ?aL ?_; (case aR => exact sC (Kd.C_below HR1.out HB.out)); (case aB => exact (by exact sW HB.out)); (case aF => exact (fun _ _ => trivial)); (case aO => exact (by exact sR <| HO602.out)); (case aS => exact (below_size (by exact sW HB.out))); (case aL => have := LMc21.out; omega); intro v604 w27 ho hb hg hat; rw [← Ny603.out] at ho; have n0_ := am (Kd.R_over' (by exact sR <| HO_6.out) (Kd.R_typed (by exact sR <| HO602.out)) (by decide) hg); have n1_ := am (hb); have n2_ := am (ho); clear HO_6; clear HB; clear HO602; have HO_6 := n0_; have HB := n1_; have HO605 := n2_; clear n0_ n1_ n2_; clear ho hb hg hat; obtain ⟨Ao28, co28, eo28⟩ := Kd.R_slice HO605.out; subst eo28) | ((with_reducible refine gate_callee (f := 52) rfl ?_); refine goesL_ (some 53) rfl rfl Try.func52 (by kernel_rfl) rfl #[.slice Ao23 t593.length co23, .slice Ao28 y603.length co28, .int .i64 (wrap64 ((t593.length : Int) - 1))] rfl tm ?_; (with_reducible refine (spec_l04At.calls k2 _ _ t593 (fun k_ => some k_ = (.slice Ao28 y603.length co28 : Value).ownBlock) (.slice Ao28 y603.length co28) y603 (wrap64 ((t593.length : Int) - 1)) t606 t607 w _ ?side1 ?side2 ?side3 ?side4 A22.out).mono ?_); (case side1 => exact sW HB.out); (case side2 => exact Kd.C_kept_own ((Kd.R_apart' HO_6.out (Kd.R_typed HO605.out) (by decide))) (fun k_ hk_ hs_ => (hk_.2) hs_)); (case side3 => exact (Kd.R_reads' HO_6.out).2.1); (case side4 => exact Kd.R_tight rfl HO605.out); rintro e w29 ⟨rfl, hy0, hb, hkp⟩; refine ⟨_, rfl, ?_⟩; have n0_ := am (Kd.R_mono (ok' := fun k_ => True) (Kd.R_keptB ((Kd.R_apart' HO_6.out (Kd.R_typed HO605.out) (by decide))) hkp (fun k_ hk_ hs_ => (hk_.2) hs_)) (fun k_ hk_ => trivial)); have n1_ := am (Kd.R_reok rfl hy0 (fun k_ e_ => HO605.out.1 k_ e_)); have n2_ := am (hb); clear HO_6; clear HO605; clear HB; have HO_6 := n0_; have HO605 := n1_; have HB := n2_; clear n0_ n1_ n2_; (try clear hb); (try clear hkp); (try clear hy0)))
          go_ret2
          exact ⟨by rfl, by exact sW HB.out⟩
         ·rw [if_neg c21] at H
          exact absurd H (by simp)
        ·replace c20 := Bool.eq_false_iff.mpr c20
         subst c20
         rw [if_neg (show ¬ (false = true) by decide)] at H
         simp only [Option.some.injEq, Prod.mk.injEq] at H
         obtain ⟨rfl, rfl⟩ := H
         obtain ⟨Ao30, co30, eo30⟩ := Kd.R_slice HO_6.out
         subst eo30
         go_wp2_with (first | (go_at_call 51; (with_reducible refine (spec_l04Fits.calls k2 _ _ t593 _ _ l1 false _ ?side1 ?side2 ?side3 ?side4 A19.out).mono ?_); (case side1 => exact sC (Kd.R_reads' HO_6.out).2.2); (case side2 => exact (Kd.R_reads' HO_6.out).2.1); (case side3 => exact sC (Kd.C_below HR1.out HB.out)); (case side4 => exact HC1.out); rintro e w31 ⟨rfl, hb⟩; have n0_ := am (Kd.R_below (by exact sR <| HO_6.out) hb); have n1_ := am (below_step (by exact sW HB.out) hb); clear HO_6; clear HB; have HO_6 := n0_; have HB := n1_; clear n0_ n1_; (try clear hb); (try clear hb2); (try clear hk); (try clear hi)))
         go_ret2
         exact ⟨by rfl, by exact sW HB.out⟩
/-! ### laws_toIntS: function 25 -/
def laws_toIntS.l0 : Nat → List Int → List Int → Int → Option (List Int)
 | 0, _, _, _ => none
 | k + 1, x0, x3, x4 => if x4 < (x0.length : Int) then (if 0 ≤ x4 then (if x4 < (x3.length : Int) then (laws_toIntS.l0 k x0 (x3.set (x4 : Int).toNat (rd x0 x4)) (wrap64 (x4 + 1))) else (none)) else (none)) else (some x3)
def laws_toIntS.f (k : Nat) (l0 : List Int) : Option (List Int) := if 0 ≤ (l0.length : Int) then (if ((l0.length : Int) : Int).toNat ≤ 35184372088832 then (laws_toIntS.l0 k l0 (List.replicate ((l0.length : Int) : Int).toNat 0) 0) else (none)) else (none)
set_option maxHeartbeats 8000000 in
set_option maxRecDepth 100000 in
theorem laws_toIntS.calls (k : Nat) (A0 : Option Addr) (c0 : Nat) (l0 : List Int) (r : List Int) (w : World) (hr0 : Kd.C (Kd.int .i64) w A0 l0.length l0) (hc0 : l0.length ≤ c0) (h : laws_toIntS.f k l0 = some r) :
  Calls Try.prog 25 #[.slice A0 l0.length c0] w fun e w' => ∃ v0_ : Value, e = .returned (v0_) ∧ Kd.R (Kd.int .i64) 3 w' w.heap.size (fun _ => True) v0_ r ∧ Below w.heap.size w w' := by
 have HR0 := am hr0
 have HC0 := am hc0
 clear hr0 hc0
 have HB := am (Below.refl w.heap.size w)
 have H : (if 0 ≤ (l0.length : Int) then (if ((l0.length : Int) : Int).toNat ≤ 35184372088832 then (laws_toIntS.l0 k l0 (List.replicate ((l0.length : Int) : Int).toNat 0) 0) else (none)) else (none)) = some r := h
 clear h
 by_cases c2 : 0 ≤ (l0.length : Int)
 ·rw [if_pos c2] at H
  have c2b0 := eq_true c2
  have c2b1 : decide (0 ≤ (l0.length : Int)) = true := decide_eq_true c2
  clear c2
  by_cases c3 : ((l0.length : Int) : Int).toNat ≤ 35184372088832
  ·rw [if_pos c3] at H
   have c3b0 := eq_true c3
   have c3b1 : decide (((l0.length : Int) : Int).toNat ≤ 35184372088832) = true := decide_eq_true c3
   clear c3
   obtain ⟨y608, hy608⟩ : ∃ y_ : List Int, y_ = (List.replicate ((l0.length : Int) : Int).toNat 0) := ⟨_, rfl⟩
   replace H : (laws_toIntS.l0 k l0 y608 0) = some r := by (rw [hy608]; with_reducible exact H)
   have Ny608 := am hy608
   clear hy608
   have H' := am H
   clear H
   go_enter Try.func25, Try.ntmps25
   go_wp2_with (first | ((with_reducible refine gate_dst (N := 7) rfl ?_); refine Kd.R_make (Kd.int .i64) _ 3 rfl (N := 7) rfl 25 _ _ rfl (l0.length : Int) rfl rfl Try.underlying25 (.int .i64 0) 8 info3 rfl (by decide) (by omega) 0 (ok := fun _ => True) (okp := fun _ => True) rfl (fun _ hk => hk) trivial (oD (by assumption)) (Nat.le_trans (Nat.mul_le_mul_right _ (oD (by assumption) : (l0.length : Int).toNat ≤ 35184372088832)) (by omega)) (Below.refl _ _) (Nat.le_refl _) ?_; intro v609 w4 ho5 hb hg_ hnew_; clear hg_ hnew_; (rw [← Ny608.out] at ho5); have n0_ := am (Kd.R_lower ho5 (below_size (by exact sW HB.out))); have n1_ := am (below_step (by exact sW HB.out) hb); clear HB; have HO610 := n0_; have HB := n1_; clear n0_ n1_; clear hb ho5))
   go_loopg [4] k (fun kq v4 w' => ∃ (x3_1 : List Int) (x4_1 : Int), v4 = .int .i64 x4_1 ∧ Aside0 (laws_toIntS.l0 kq l0 x3_1 x4_1 = some r) ∧ Aside0 (kq ≤ k) ∧ Aside0 (Kd.R (Kd.int .i64) 3 w' w.heap.size (fun _ => True) v609 x3_1) ∧ Aside0 (Below w.heap.size w w'))
   case atStart => exact ⟨(y608), (0), (by rfl), H', ⟨Nat.le_refl _⟩, ⟨by exact sR <| HO610.out⟩, ⟨by exact sW HB.out⟩⟩
   case round =>
    clear H'
    clear c2b0 c2b1 c3b0 c3b1
    obtain ⟨x3_1, x4_1, rfl, HA, HK1, HO_3, HB⟩ := hrel
    cases gk with
    | zero => exact absurd HA.out (by simp [laws_toIntS.l0])
    | succ k1 =>
     have H := HA.out
     clear HA
     simp only [laws_toIntS.l0] at H
     by_cases c6 : x4_1 < (l0.length : Int)
     ·rw [if_pos c6] at H
      have c6b0 : decide (x4_1 < (l0.length : Int)) = true := decide_eq_true c6
      clear c6
      by_cases c7 : 0 ≤ x4_1
      ·rw [if_pos c7] at H
       have c7b0 : decide (0 ≤ x4_1) = true := decide_eq_true c7
       clear c7
       by_cases c8 : x4_1 < (x3_1.length : Int)
       ·rw [if_pos c8] at H
        have c8b0 : decide (x4_1 < (x3_1.length : Int)) = true := decide_eq_true c8
        clear c8
        obtain ⟨y612, hy612⟩ : ∃ y_ : List Int, y_ = (x3_1.set (x4_1 : Int).toNat (rd l0 x4_1)) := ⟨_, rfl⟩
        replace H : (laws_toIntS.l0 k1 l0 y612 (wrap64 (x4_1 + 1))) = some r := by (rw [hy612]; with_reducible exact H)
        have Ny612 := am hy612
        clear hy612
        have H' := am H
        clear H
        have p611 : 0 ≤ (x4_1 : Int) := oD (by assumption)
        have q611 : x4_1 < (l0.length : Int) := oD (by assumption)
        obtain ⟨ad611, e611, hx611_0⟩ := Kd.at_int HR0.out x4_1 p611 q611
        cases e611
        replace hx611_0 := pw_cell_below HB.out hx611_0
        replace p611 := eq_true p611
        replace q611 := eq_true q611
        have p9 : 0 ≤ (x4_1 : Int) := oD (by assumption)
        have q9 : (x4_1 : Int) < ((x3_1.length : Int) : Int) := oD (by assumption)
        obtain ⟨go9, co9, eo9, gb9, gl9, cl9, HG9⟩ := Kd.R_form HO_3.out (by omega)
        (cases eo9)
        have GB9 := am gb9
        have GG9 := am HG9
        clear gb9 gl9 HG9
        obtain ⟨hx9_0, hf9_0⟩ := Kd.R_celln 0 HO_3.out (x4_1 : Int) p9 q9
        replace p9 := eq_true p9
        replace q9 := eq_true q9
        have HP10 := Kd.R_putg HO_3.out (x4_1 : Int) (rd l0 x4_1)
        go_wp2_with (first | ((with_reducible refine gate_store (t := 3) (p := 20) rfl ?_); refine store_event (t := 3) (p := 20) (v := ?vo_w11) (w1 := (wr.setCell ⟨go9, (x4_1 : Int).toNat, none⟩ (.int .i64 (rd l0 x4_1)))) ?hg ?ho ?hn ?hr ?_; (case ho => rfl); (case hg => rfl); (case hn => rfl); (case hr => (go_simp; done)); intro w11 hw; have hg : wr.grownBy w11 (some go9) := (by rw [hw]; exact HP10.2); have hp_ : Kd.R (Kd.int .i64) 3 w11 w.heap.size (fun _ => True) (.slice (some ⟨go9, 0, none⟩) x3_1.length co9) y612 := (by rw [hw, Ny612.out]; exact HP10.1); clear HP10; have n0_ := am (hp_); have n1_ := am ((by rw [hw]; exact below_set (HB.out) GB9.out : Below w.heap.size w w11)); clear HO_3; clear HB; have HO_3 := n0_; have HB := n1_; clear n0_ n1_; clear hg hw hp_))
        go_roundg k1
        case measure => have := HK1.out; omega
        case rel => exact ⟨(y612), (wrap64 (x4_1 + 1)), (by rfl), H', ⟨by have := HK1.out; omega⟩, ⟨by exact sR <| HO_3.out⟩, ⟨by exact sW HB.out⟩⟩
       ·rw [if_neg c8] at H
        exact absurd H (by simp)
      ·rw [if_neg c7] at H
       exact absurd H (by simp)
     ·rw [if_neg c6] at H
      have c6b0 : decide (x4_1 < (l0.length : Int)) = false := decide_eq_false c6
      clear c6
      obtain rfl := oI H
      go_wp2
      go_ret
      exact ⟨_, by rfl, by exact sR <| HO_3.out, by exact sW HB.out⟩
  ·rw [if_neg c3] at H
   exact absurd H (by simp)
 ·rw [if_neg c2] at H
  exact absurd H (by simp)
/-! ### laws_eqIntS: function 26 -/
def laws_eqIntS.l0 : Nat → List Int → List Int → Int → Option (Bool)
 | 0, _, _, _ => none
 | k + 1, x0, x1, x5 => if x5 < (x0.length : Int) then (if 0 ≤ x5 then (if x5 < (x1.length : Int) then (if (rd x0 x5) = (rd x1 x5) then (laws_eqIntS.l0 k x0 x1 (wrap64 (x5 + 1))) else (some false)) else (none)) else (none)) else (some true)
def laws_eqIntS.f (k : Nat) (l0 : List Int) (l1 : List Int) : Option (Bool) := if (l0.length : Int) = (l1.length : Int) then (laws_eqIntS.l0 k l0 l1 0) else (some false)
set_option maxHeartbeats 8000000 in
set_option maxRecDepth 100000 in
theorem laws_eqIntS.calls (k : Nat) (A0 : Option Addr) (c0 : Nat) (l0 : List Int) (A1 : Option Addr) (c1 : Nat) (l1 : List Int) (r : Bool) (w : World) (hr0 : Kd.C (Kd.int .i64) w A0 l0.length l0) (hc0 : l0.length ≤ c0) (hr1 : Kd.C (Kd.int .i64) w A1 l1.length l1) (hc1 : l1.length ≤ c1) (h : laws_eqIntS.f k l0 l1 = some r) :
  Calls Try.prog 26 #[.slice A0 l0.length c0, .slice A1 l1.length c1] w fun e w' => e = .returned (.bool r) ∧ Drawn0 w w' := by
 have HR0 := am hr0
 have HC0 := am hc0
 clear hr0 hc0
 have HR1 := am hr1
 have HC1 := am hc1
 clear hr1 hc1
 have H : (if (l0.length : Int) = (l1.length : Int) then (laws_eqIntS.l0 k l0 l1 0) else (some false)) = some r := h
 clear h
 by_cases c3 : (l0.length : Int) = (l1.length : Int)
 ·rw [if_pos c3] at H
  have c3b0 : ((l0.length : Int) == (l1.length : Int)) = true := beq_iff_eq.mpr c3
  have c3b1 : ((l0.length : Int) != (l1.length : Int)) = false := bne_eq_false_iff_eq.mpr c3
  have c3b2 : (l0.length == l1.length) = true := by (simp at c3 ⊢; omega)
  clear c3
  have H' := am H
  clear H
  go_enter Try.func26, Try.ntmps26
  go_wp2
  repeat (go_quiet (fail); try go_wp2)
  go_loopg [5] k (fun kq v5 w' => ∃ (x5_1 : Int), v5 = .int .i64 x5_1 ∧ Aside0 (laws_eqIntS.l0 kq l0 l1 x5_1 = some r) ∧ Aside0 (kq ≤ k) ∧ Drawn0 w w')
  case atStart => exact ⟨(0), (by rfl), H', ⟨Nat.le_refl _⟩, by repeat (first | exact Drawn0.refl _ | apply Drawn0.step)⟩
  case round =>
   clear H'
   clear c3b0 c3b1 c3b2
   obtain ⟨x5_1, rfl, HA, HK1, ⟨m1, rfl⟩⟩ := hrel
   cases gk with
   | zero => exact absurd HA.out (by simp [laws_eqIntS.l0])
   | succ k1 =>
    have H := HA.out
    clear HA
    simp only [laws_eqIntS.l0] at H
    by_cases c4 : x5_1 < (l0.length : Int)
    ·rw [if_pos c4] at H
     have c4b0 : decide (x5_1 < (l0.length : Int)) = true := decide_eq_true c4
     clear c4
     by_cases c5 : 0 ≤ x5_1
     ·rw [if_pos c5] at H
      have c5b0 : decide (0 ≤ x5_1) = true := decide_eq_true c5
      clear c5
      by_cases c6 : x5_1 < (l1.length : Int)
      ·rw [if_pos c6] at H
       have c6b0 : decide (x5_1 < (l1.length : Int)) = true := decide_eq_true c6
       clear c6
       by_cases c7 : (rd l0 x5_1) = (rd l1 x5_1)
       ·rw [if_pos c7] at H
        have c7b0 : ((rd l0 x5_1) == (rd l1 x5_1)) = true := beq_iff_eq.mpr c7
        have c7b1 : ((rd l0 x5_1) != (rd l1 x5_1)) = false := bne_eq_false_iff_eq.mpr c7
        clear c7
        have H' := am H
        clear H
        have p613 : 0 ≤ (x5_1 : Int) := oD (by assumption)
        have q613 : x5_1 < (l0.length : Int) := oD (by assumption)
        obtain ⟨ad613, e613, hx613_0⟩ := Kd.at_int HR0.out x5_1 p613 q613
        cases e613
        replace p613 := eq_true p613
        replace q613 := eq_true q613
        have p614 : 0 ≤ (x5_1 : Int) := oD (by assumption)
        have q614 : x5_1 < (l1.length : Int) := oD (by assumption)
        obtain ⟨ad614, e614, hx614_0⟩ := Kd.at_int HR1.out x5_1 p614 q614
        cases e614
        replace p614 := eq_true p614
        replace q614 := eq_true q614
        go_wp2
        repeat (go_quiet (fail); try go_wp2)
        go_roundg k1
        case measure => have := HK1.out; omega
        case rel => exact ⟨(wrap64 (x5_1 + 1)), (by rfl), H', ⟨by have := HK1.out; omega⟩, by repeat (first | exact Drawn0.refl _ | apply Drawn0.step)⟩
       ·rw [if_neg c7] at H
        have c7b0 : ((rd l0 x5_1) == (rd l1 x5_1)) = false := beq_eq_false_iff_ne.mpr c7
        have c7b1 : ((rd l0 x5_1) != (rd l1 x5_1)) = true := bne_iff_ne.mpr c7
        obtain rfl := oI H
        have p613 : 0 ≤ (x5_1 : Int) := oD (by assumption)
        have q613 : x5_1 < (l0.length : Int) := oD (by assumption)
        obtain ⟨ad613, e613, hx613_0⟩ := Kd.at_int HR0.out x5_1 p613 q613
        cases e613
        replace p613 := eq_true p613
        replace q613 := eq_true q613
        have p614 : 0 ≤ (x5_1 : Int) := oD (by assumption)
        have q614 : x5_1 < (l1.length : Int) := oD (by assumption)
        obtain ⟨ad614, e614, hx614_0⟩ := Kd.at_int HR1.out x5_1 p614 q614
        cases e614
        replace p614 := eq_true p614
        replace q614 := eq_true q614
        go_wp2
        repeat (go_quiet (fail); try go_wp2)
        go_ret
        exact ⟨by rfl, by repeat (first | exact Drawn0.refl _ | apply Drawn0.step)⟩
      ·rw [if_neg c6] at H
       exact absurd H (by simp)
     ·rw [if_neg c5] at H
      exact absurd H (by simp)
    ·rw [if_neg c4] at H
     have c4b0 : decide (x5_1 < (l0.length : Int)) = false := decide_eq_false c4
     clear c4
     obtain rfl := oI H
     go_wp2
     repeat (go_quiet (fail); try go_wp2)
     go_ret
     exact ⟨by rfl, by repeat (first | exact Drawn0.refl _ | apply Drawn0.step)⟩
 ·rw [if_neg c3] at H
  have c3b0 : ((l0.length : Int) == (l1.length : Int)) = false := beq_eq_false_iff_ne.mpr c3
  have c3b1 : ((l0.length : Int) != (l1.length : Int)) = true := bne_iff_ne.mpr c3
  have c3b2 : (l0.length == l1.length) = false := by (simp at c3 ⊢; omega)
  obtain rfl := oI H
  go_enter Try.func26, Try.ntmps26
  go_wp2
  repeat (go_quiet (fail); try go_wp2)
  go_ret
  exact ⟨by rfl, by repeat (first | exact Drawn0.refl _ | apply Drawn0.step)⟩
/-! ### laws_FnExactValue: function 6 -/
def laws_FnExactValue.j0 : Nat → List (S75) → List Int → List (S31) → List Int → Bool → Option (Bool)
 | 0, _, _, _, _, _ => none
 | k + 1, x0, x1, x8, x9, x45 => if x45 = true then (some false) else ((laws_toNodeS.f k x0).bind fun t632 => ((laws_eqNodeS.f k x8 t632).bind fun t635 => (if t635 = true then ((laws_toIntS.f k x1).bind fun t636 => ((laws_eqIntS.f k x9 t636).bind fun t639 => (if t639 = true then (some true) else (some false)))) else (some false))))
def laws_FnExactValue.f (k : Nat) (l0 : List (S75)) (l1 : List Int) : Option (Bool) := if (l1.length : Int) > 1048576 then (some true) else ((laws_szNodeS.f l0 1048576).bind fun t615 => (if t615 < 0 then (some true) else ((laws_toNodeS.f k l0).bind fun t616 => ((laws_toIntS.f k l1).bind fun t619 => ((spec_Value.f k t616 t619).bind fun bt622 => ((laws_toNodeS.f k l0).bind fun t624 => ((laws_toIntS.f k l1).bind fun t627 => ((impl_Value.f k t624 t627).bind fun bt630 => (if bt630.1 = bt622.1 then (laws_FnExactValue.j0 k l0 l1 t624 t627 (bt630.2 != bt622.2)) else (laws_FnExactValue.j0 k l0 l1 t624 t627 true))))))))))
set_option maxHeartbeats 8000000 in
set_option maxRecDepth 100000 in
theorem laws_FnExactValue.calls (k : Nat) (A0 : Option Addr) (c0 : Nat) (l0 : List (S75)) (A1 : Option Addr) (c1 : Nat) (l1 : List Int) (r : Bool) (w : World) (hr0 : Kd.C k75 w A0 l0.length l0) (hc0 : l0.length ≤ c0) (hr1 : Kd.C (Kd.int .i64) w A1 l1.length l1) (hc1 : l1.length ≤ c1) (h : laws_FnExactValue.f k l0 l1 = some r) :
  Calls Try.prog 6 #[.slice A0 l0.length c0, .slice A1 l1.length c1] w fun e w' => e = .returned (.bool r) ∧ Below w.heap.size w w' := by
 have HR0 := am hr0
 have HC0 := am hc0
 clear hr0 hc0
 have HR1 := am hr1
 have HC1 := am hc1
 clear hr1 hc1
 have HB := am (Below.refl w.heap.size w)
 have H : (if (l1.length : Int) > 1048576 then (some true) else ((laws_szNodeS.f l0 1048576).bind fun t615 => (if t615 < 0 then (some true) else ((laws_toNodeS.f k l0).bind fun t616 => ((laws_toIntS.f k l1).bind fun t619 => ((spec_Value.f k t616 t619).bind fun bt622 => ((laws_toNodeS.f k l0).bind fun t624 => ((laws_toIntS.f k l1).bind fun t627 => ((impl_Value.f k t624 t627).bind fun bt630 => (if bt630.1 = bt622.1 then (laws_FnExactValue.j0 k l0 l1 t624 t627 (bt630.2 != bt622.2)) else (laws_FnExactValue.j0 k l0 l1 t624 t627 true))))))))))) = some r := h
 clear h
 by_cases c3 : (l1.length : Int) > 1048576
 ·rw [if_pos c3] at H
  have c3b0 : decide (1048576 < (l1.length : Int)) = true := decide_eq_true c3
  have c3b1 : decide (1048576 < l1.length) = true := decide_eq_true (by omega)
  clear c3
  obtain rfl := oI H
  go_enter Try.func6, Try.ntmps6
  go_wp2
  go_ret
  exact ⟨by rfl, by exact sW HB.out⟩
 ·rw [if_neg c3] at H
  have c3b0 : decide (1048576 < (l1.length : Int)) = false := decide_eq_false c3
  have c3b1 : decide (1048576 < l1.length) = false := decide_eq_false (by omega)
  clear c3
  replace H := oB H
  obtain ⟨t615, A40, H⟩ := H
  have A4 := am A40
  clear A40
  by_cases c5 : t615 < 0
  ·rw [if_pos c5] at H
   have c5b0 : decide (t615 < 0) = true := decide_eq_true c5
   clear c5
   obtain rfl := oI H
   go_enter Try.func6, Try.ntmps6
   go_wp2_with (first | ((with_reducible refine gate_callee (f := 18) rfl ?_); refine goesL_ (some 17) rfl rfl Try.func18 (by kernel_rfl) rfl #[.slice A0 l0.length c0, .int .i64 1048576] rfl tm ?_; (with_reducible refine (laws_szNodeS.calls _ _ l0 1048576 t615 _ ?side1 ?side2 A4.out).mono ?_); (case side1 => repeat (first | exact HR0.out | (with_reducible refine Kd.C_alloc ?_ _) | (with_reducible refine Kd.C_drewN ?_ _) | (with_reducible refine Kd.C_drew ?_))); (case side2 => exact HC0.out); rintro e w' ⟨rfl, ⟨nd, rfl⟩⟩; refine ⟨_, rfl, ?_⟩))
   go_ret
   exact ⟨by rfl, by exact sW HB.out⟩
  ·rw [if_neg c5] at H
   have c5b0 : decide (t615 < 0) = false := decide_eq_false c5
   clear c5
   replace H := oB H
   obtain ⟨t616, A60, H⟩ := H
   have A6 := am A60
   clear A60
   replace H := oB H
   obtain ⟨t619, A70, H⟩ := H
   have A7 := am A70
   clear A70
   replace H := oB H
   obtain ⟨⟨t622, t623⟩, A80, H⟩ := H
   replace H : ((laws_toNodeS.f k l0).bind fun t624 => ((laws_toIntS.f k l1).bind fun t627 => ((impl_Value.f k t624 t627).bind fun bt630 => (if bt630.1 = t622 then (laws_FnExactValue.j0 k l0 l1 t624 t627 (bt630.2 != t623)) else (laws_FnExactValue.j0 k l0 l1 t624 t627 true))))) = some r := H
   have A8 := am A80
   clear A80
   replace H := oB H
   obtain ⟨t624, A90, H⟩ := H
   have A9 := am A90
   clear A90
   replace H := oB H
   obtain ⟨t627, A100, H⟩ := H
   have A10 := am A100
   clear A100
   replace H := oB H
   obtain ⟨⟨t630, t631⟩, A110, H⟩ := H
   replace H : (if t630 = t622 then (laws_FnExactValue.j0 k l0 l1 t624 t627 (t631 != t623)) else (laws_FnExactValue.j0 k l0 l1 t624 t627 true)) = some r := H
   have A11 := am A110
   clear A110
   have HC12 := am H
   clear H
   go_enter Try.func6, Try.ntmps6
   go_upto_region 11 with (first | ((with_reducible refine gate_callee (f := 18) rfl ?_); refine goesL_ (some 17) rfl rfl Try.func18 (by kernel_rfl) rfl #[.slice A0 l0.length c0, .int .i64 1048576] rfl (by (try simp only [List.map_toArray, List.map_cons, List.map_nil]); first | done | rfl | (simp only [List.length_drop, List.length_take]; rfl)) ?_; (with_reducible refine (laws_szNodeS.calls _ _ l0 1048576 t615 _ ?side1 ?side2 A4.out).mono ?_); (case side1 => repeat (first | exact HR0.out | (with_reducible refine Kd.C_alloc ?_ _) | (with_reducible refine Kd.C_drewN ?_ _) | (with_reducible refine Kd.C_drew ?_))); (case side2 => exact HC0.out); rintro e w' ⟨rfl, ⟨nd, rfl⟩⟩; refine ⟨_, rfl, ?_⟩) | ((with_reducible refine gate_callee (f := 20) rfl ?_); refine goesL_ (some 22) rfl rfl Try.func20 (by kernel_rfl) rfl #[.slice A0 l0.length c0] rfl (by (try simp only [List.map_toArray, List.map_cons, List.map_nil]); first | done | rfl | (simp only [List.length_drop, List.length_take]; rfl)) ?_; (with_reducible refine (laws_toNodeS.calls k _ _ l0 t616 _ ?side1 ?side2 A6.out).mono ?_); (case side1 => repeat (first | exact HR0.out | (with_reducible refine Kd.C_alloc ?_ _) | (with_reducible refine Kd.C_drewN ?_ _) | (with_reducible refine Kd.C_drew ?_))); (case side2 => exact HC0.out); rintro e w13 ⟨v617, rfl, ho0, hb⟩; refine ⟨_, rfl, ?_⟩; have n0_ := am (Kd.R_lower ho0 (below_size (by exact sW HB.out))); have n1_ := am (below_step (by exact sW HB.out) hb); clear HB; have HO618 := n0_; have HB := n1_; clear n0_ n1_; (try clear ho0)) | ((with_reducible refine gate_callee (f := 25) rfl ?_); refine goesL_ (some 24) rfl rfl Try.func25 (by kernel_rfl) rfl #[.slice A1 l1.length c1] rfl (by (try simp only [List.map_toArray, List.map_cons, List.map_nil]); first | done | rfl | (simp only [List.length_drop, List.length_take]; rfl)) ?_; (with_reducible refine (laws_toIntS.calls k _ _ l1 t619 _ ?side1 ?side2 A7.out).mono ?_); (case side1 => exact sC (Kd.C_below HR1.out HB.out)); (case side2 => exact HC1.out); rintro e w14 ⟨v620, rfl, ho0, hb⟩; refine ⟨_, rfl, ?_⟩; have n0_ := am (Kd.R_below (by exact sR <| HO618.out) hb); have n1_ := am (Kd.R_lower ho0 (below_size (by exact sW HB.out))); have n2_ := am (below_step (by exact sW HB.out) hb); clear HO618; clear HB; have HO618 := n0_; have HO621 := n1_; have HB := n2_; clear n0_ n1_ n2_; obtain ⟨Ao15, co15, eo15⟩ := Kd.R_slice HO618.out; subst eo15; obtain ⟨Ao16, co16, eo16⟩ := Kd.R_slice HO621.out; subst eo16) | ((with_reducible refine gate_callee (f := 15) rfl ?_); refine goesL_ (some 25) rfl rfl Try.func15 (by kernel_rfl) rfl #[.slice Ao15 t616.length co15, .slice Ao16 t619.length co16] rfl (by (try simp only [List.map_toArray, List.map_cons, List.map_nil]); first | done | rfl | (simp only [List.length_drop, List.length_take]; rfl)) ?_; (with_reducible refine (spec_Value.calls k _ _ t616 _ _ t619 t622 t623 _ ?side1 ?side2 ?side3 ?side4 A8.out).mono ?_); (case side1 => exact sC (Kd.R_reads' HO618.out).2.2); (case side2 => exact (Kd.R_reads' HO618.out).2.1); (case side3 => exact sC (Kd.R_reads' HO621.out).2.2); (case side4 => exact (Kd.R_reads' HO621.out).2.1); rintro e w17 ⟨rfl, hb⟩; refine ⟨_, rfl, ?_⟩; have n0_ := am (Kd.R_below (by exact sR <| HO618.out) hb); have n1_ := am (Kd.R_below (by exact sR <| HO621.out) hb); have n2_ := am (below_step (by exact sW HB.out) hb); clear HO618; clear HO621; clear HB; have HO618 := n0_; have HO621 := n1_; have HB := n2_; clear n0_ n1_ n2_; (try clear hi)) | ((with_reducible refine gate_callee (f := 20) rfl ?_); refine goesL_ (some 29) rfl rfl Try.func20 (by kernel_rfl) rfl #[.slice A0 l0.length c0] rfl (by (try simp only [List.map_toArray, List.map_cons, List.map_nil]); first | done | rfl | (simp only [List.length_drop, List.length_take]; rfl)) ?_; (with_reducible refine (laws_toNodeS.calls k _ _ l0 t624 _ ?side1 ?side2 A9.out).mono ?_); (case side1 => exact sC (Kd.C_below HR0.out HB.out)); (case side2 => exact HC0.out); rintro e w18 ⟨v625, rfl, ho0, hb⟩; refine ⟨_, rfl, ?_⟩; have n0_ := am (Kd.R_elder' (by exact sR <| HO618.out) (Kd.R_base ho0) hb); have n1_ := am (Kd.R_below (by exact sR <| HO621.out) hb); have n2_ := am (Kd.R_lower (Kd.R_new' ho0 (Kd.R_lt (by exact sR <| HO618.out))) (below_size (by exact sW HB.out))); have n3_ := am (below_step (by exact sW HB.out) hb); clear HO618; clear HO621; clear HB; have HO618 := n0_; have HO621 := n1_; have HO626 := n2_; have HB := n3_; clear n0_ n1_ n2_ n3_; (try clear ho0)) | ((with_reducible refine gate_callee (f := 25) rfl ?_); refine goesL_ (some 31) rfl rfl Try.func25 (by kernel_rfl) rfl #[.slice A1 l1.length c1] rfl (by (try simp only [List.map_toArray, List.map_cons, List.map_nil]); first | done | rfl | (simp only [List.length_drop, List.length_take]; rfl)) ?_; (with_reducible refine (laws_toIntS.calls k _ _ l1 t627 _ ?side1 ?side2 A10.out).mono ?_); (case side1 => exact sC (Kd.C_below HR1.out HB.out)); (case side2 => exact HC1.out); rintro e w19 ⟨v628, rfl, ho0, hb⟩; refine ⟨_, rfl, ?_⟩; have n0_ := am (Kd.R_below (by exact sR <| HO618.out) hb); have n1_ := am (Kd.R_elder' (by exact sR <| HO621.out) (Kd.R_base ho0) hb); have n2_ := am (Kd.R_below (by exact sR <| HO626.out) hb); have n3_ := am (Kd.R_lower (Kd.R_new' ho0 (Kd.R_lt (by exact sR <| HO621.out))) (below_size (by exact sW HB.out))); have n4_ := am (below_step (by exact sW HB.out) hb); clear HO618; clear HO621; clear HO626; clear HB; have HO618 := n0_; have HO621 := n1_; have HO626 := n2_; have HO629 := n3_; have HB := n4_; clear n0_ n1_ n2_ n3_ n4_; obtain ⟨Ao20, co20, eo20⟩ := Kd.R_slice HO626.out; subst eo20; obtain ⟨Ao21, co21, eo21⟩ := Kd.R_slice HO629.out; subst eo21) | ((with_reducible refine gate_callee (f := 14) rfl ?_); refine goesL_ (some 35) rfl rfl Try.func14 (by kernel_rfl) rfl #[.slice Ao20 t624.length co20, .slice Ao21 t627.length co21] rfl (by (try simp only [List.map_toArray, List.map_cons, List.map_nil]); first | done | rfl | (simp only [List.length_drop, List.length_take]; rfl)) ?_; (with_reducible refine (impl_Value.calls k _ _ t624 _ _ t627 t630 t631 _ ?side1 ?side2 ?side3 ?side4 A11.out).mono ?_); (case side1 => exact sC (Kd.R_reads' HO626.out).2.2); (case side2 => exact (Kd.R_reads' HO626.out).2.1); (case side3 => exact sC (Kd.R_reads' HO629.out).2.2); (case side4 => exact (Kd.R_reads' HO629.out).2.1); rintro e w22 ⟨rfl, hb⟩; refine ⟨_, rfl, ?_⟩; have n0_ := am (Kd.R_below (by exact sR <| HO618.out) hb); have n1_ := am (Kd.R_below (by exact sR <| HO621.out) hb); have n2_ := am (Kd.R_below (by exact sR <| HO626.out) hb); have n3_ := am (Kd.R_below (by exact sR <| HO629.out) hb); have n4_ := am (below_step (by exact sW HB.out) hb); clear HO618; clear HO621; clear HO626; clear HO629; clear HB; have HO618 := n0_; have HO621 := n1_; have HO626 := n2_; have HO629 := n3_; have HB := n4_; clear n0_ n1_ n2_ n3_ n4_; (try clear hi))); clear hb; clear hb ho0; clear hb; clear hb; clear hb ho0; clear hb
   (try simp only [Act.put, List.setIfInBounds_toArray, List.set_cons_zero, List.set_cons_succ])
   go_cut [45] (fun v45 wc => ∃ (kq : Nat) (x45_11 : Bool), v45 = .bool x45_11 ∧ Aside0 (laws_FnExactValue.j0 kq l0 l1 t624 t627 x45_11 = some r) ∧ Aside0 (kq ≤ k) ∧ Aside0 (Kd.R k31 31 wc w.heap.size (fun _ => True) (.slice Ao20 t624.length co20) t624) ∧ Aside0 (Kd.R (Kd.int .i64) 3 wc w.heap.size (fun _ => True) (.slice Ao21 t627.length co21) t627) ∧ Aside0 (Below w.heap.size w wc))
   case first =>
    have H := HC12.out
    clear HC12
    by_cases c23 : t630 = t622
    ·rw [if_pos c23] at H
     have c23b0 : (t630 == t622) = true := beq_iff_eq.mpr c23
     have c23b1 : (t630 != t622) = false := bne_eq_false_iff_eq.mpr c23
     clear c23
     (skip)
     have H' := am H
     clear H
     go_wp2
     go_meet
     case rel => exact ⟨_, ((t631 != t623)), (by rfl), H', ⟨by omega⟩, ⟨by exact sR <| Kd.R_mono HO626.out (fun _ hk => trivial)⟩, ⟨by exact sR <| Kd.R_mono HO629.out (fun _ hk => trivial)⟩, ⟨by exact sW HB.out⟩⟩
    ·rw [if_neg c23] at H
     have c23b0 : (t630 == t622) = false := beq_eq_false_iff_ne.mpr c23
     have c23b1 : (t630 != t622) = true := bne_iff_ne.mpr c23
     (skip)
     have H' := am H
     clear H
     go_wp2
     go_meet
     case rel => exact ⟨_, (true), (by rfl), H', ⟨by omega⟩, ⟨by exact sR <| Kd.R_mono HO626.out (fun _ hk => trivial)⟩, ⟨by exact sR <| Kd.R_mono HO629.out (fun _ hk => trivial)⟩, ⟨by exact sW HB.out⟩⟩
   case rest =>
    clear HC12
    clear c3b0 c3b1 c5b0
    obtain ⟨kq, x45_11, rfl, HA, HJ11, HO_8, HO_9, HB⟩ := hcut
    cases kq with
    | zero => exact absurd HA.out (by simp [laws_FnExactValue.j0])
    | succ kj11 =>
     have H := HA.out
     clear HA
     simp only [laws_FnExactValue.j0] at H
     by_cases c24 : x45_11 = true
     ·subst c24
      rw [if_pos rfl] at H
      obtain rfl := oI H
      go_wp2
      go_ret
      exact ⟨by rfl, by exact sW HB.out⟩
     ·replace c24 := Bool.eq_false_iff.mpr c24
      subst c24
      rw [if_neg (show ¬ (false = true) by decide)] at H
      replace H := oB H
      obtain ⟨t632, A250, H⟩ := H
      have A25 := am A250
      clear A250
      replace H := oB H
      obtain ⟨t635, A260, H⟩ := H
      have A26 := am A260
      clear A260
      by_cases c27 : t635 = true
      ·subst c27
       rw [if_pos rfl] at H
       replace H := oB H
       obtain ⟨t636, A280, H⟩ := H
       have A28 := am A280
       clear A280
       replace H := oB H
       obtain ⟨t639, A290, H⟩ := H
       have A29 := am A290
       clear A290
       by_cases c30 : t639 = true
       ·subst c30
        rw [if_pos rfl] at H
        obtain rfl := oI H
        go_wp2_with (first | ((with_reducible refine gate_callee (f := 20) rfl ?_); refine goesL_ (some 48) rfl rfl Try.func20 (by kernel_rfl) rfl #[.slice A0 l0.length c0] rfl tm ?_; (with_reducible refine (laws_toNodeS.calls kj11 _ _ l0 t632 _ ?side1 ?side2 A25.out).mono ?_); (case side1 => exact sC (Kd.C_below HR0.out HB.out)); (case side2 => exact HC0.out); rintro e w31 ⟨v633, rfl, ho0, hb⟩; refine ⟨_, rfl, ?_⟩; have n0_ := am (Kd.R_elder' (by exact sR <| HO_8.out) (Kd.R_base ho0) hb); have n1_ := am (Kd.R_below (by exact sR <| HO_9.out) hb); have n2_ := am (Kd.R_lower (Kd.R_new' ho0 (Kd.R_lt (by exact sR <| HO_8.out))) (below_size (by exact sW HB.out))); have n3_ := am (below_step (by exact sW HB.out) hb); clear HO_8; clear HO_9; clear HB; have HO_8 := n0_; have HO_9 := n1_; have HO634 := n2_; have HB := n3_; clear n0_ n1_ n2_ n3_; (try clear hb); (try clear hb2); (try clear hk); (try clear hi); (try clear ho0); obtain ⟨Ao32, co32, eo32⟩ := Kd.R_slice HO634.out; subst eo32) | ((with_reducible refine gate_callee (f := 22) rfl ?_); refine goesL_ (some 49) rfl rfl Try.func22 (by kernel_rfl) rfl #[.slice Ao20 t624.length co20, .slice Ao32 t632.length co32] rfl tm ?_; (with_reducible refine (laws_eqNodeS.calls kj11 _ _ t624 _ _ t632 true _ ?side1 ?side2 ?side3 ?side4 A26.out).mono ?_); (case side1 => exact sC (Kd.R_reads' HO_8.out).2.2); (case side2 => exact (Kd.R_reads' HO_8.out).2.1); (case side3 => exact sC (Kd.R_reads' HO634.out).2.2); (case side4 => exact (Kd.R_reads' HO634.out).2.1); rintro e w33 ⟨rfl, hb⟩; refine ⟨_, rfl, ?_⟩; have n0_ := am (Kd.R_below (by exact sR <| HO_8.out) hb); have n1_ := am (Kd.R_below (by exact sR <| HO_9.out) hb); have n2_ := am (Kd.R_below (by exact sR <| HO634.out) hb); have n3_ := am (below_step (by exact sW HB.out) hb); clear HO_8; clear HO_9; clear HO634; clear HB; have HO_8 := n0_; have HO_9 := n1_; have HO634 := n2_; have HB := n3_; clear n0_ n1_ n2_ n3_; (try clear hb); (try clear hb2); (try clear hk); (try clear hi)) | ((with_reducible refine gate_callee (f := 25) rfl ?_); refine goesL_ (some 53) rfl rfl Try.func25 (by kernel_rfl) rfl #[.slice A1 l1.length c1] rfl tm ?_; (with_reducible refine (laws_toIntS.calls kj11 _ _ l1 t636 _ ?side1 ?side2 A28.out).mono ?_); (case side1 => exact sC (Kd.C_below HR1.out HB.out)); (case side2 => exact HC1.out); rintro e w34 ⟨v637, rfl, ho0, hb⟩; refine ⟨_, rfl, ?_⟩; have n0_ := am (Kd.R_below (by exact sR <| HO_8.out) hb); have n1_ := am (Kd.R_elder' (by exact sR <| HO_9.out) (Kd.R_base ho0) hb); have n2_ := am (Kd.R_below (by exact sR <| HO634.out) hb); have n3_ := am (Kd.R_lower (Kd.R_new' ho0 (Kd.R_lt (by exact sR <| HO_9.out))) (below_size (by exact sW HB.out))); have n4_ := am (below_step (by exact sW HB.out) hb); clear HO_8; clear HO_9; clear HO634; clear HB; have HO_8 := n0_; have HO_9 := n1_; have HO634 := n2_; have HO638 := n3_; have HB := n4_; clear n0_ n1_ n2_ n3_ n4_; (try clear hb); (try clear hb2); (try clear hk); (try clear hi); (try clear ho0); obtain ⟨Ao35, co35, eo35⟩ := Kd.R_slice HO638.out; subst eo35) | ((with_reducible refine gate_callee (f := 26) rfl ?_); refine goesL_ (some 54) rfl rfl Try.func26 (by kernel_rfl) rfl #[.slice Ao21 t627.length co21, .slice Ao35 t636.length co35] rfl tm ?_; (with_reducible refine (laws_eqIntS.calls kj11 _ _ t627 _ _ t636 true _ ?side1 ?side2 ?side3 ?side4 A29.out).mono ?_); (case side1 => exact sC (Kd.R_reads' HO_9.out).2.2); (case side2 => exact (Kd.R_reads' HO_9.out).2.1); (case side3 => exact sC (Kd.R_reads' HO638.out).2.2); (case side4 => exact (Kd.R_reads' HO638.out).2.1); rintro e w' ⟨rfl, ⟨nd, rfl⟩⟩; refine ⟨_, rfl, ?_⟩))
        go_ret
        exact ⟨by rfl, by exact sW HB.out⟩
       ·replace c30 := Bool.eq_false_iff.mpr c30
        subst c30
        rw [if_neg (show ¬ (false = true) by decide)] at H
        obtain rfl := oI H
        go_wp2_with (first | ((with_reducible refine gate_callee (f := 20) rfl ?_); refine goesL_ (some 48) rfl rfl Try.func20 (by kernel_rfl) rfl #[.slice A0 l0.length c0] rfl tm ?_; (with_reducible refine (laws_toNodeS.calls kj11 _ _ l0 t632 _ ?side1 ?side2 A25.out).mono ?_); (case side1 => exact sC (Kd.C_below HR0.out HB.out)); (case side2 => exact HC0.out); rintro e w36 ⟨v633, rfl, ho0, hb⟩; refine ⟨_, rfl, ?_⟩; have n0_ := am (Kd.R_elder' (by exact sR <| HO_8.out) (Kd.R_base ho0) hb); have n1_ := am (Kd.R_below (by exact sR <| HO_9.out) hb); have n2_ := am (Kd.R_lower (Kd.R_new' ho0 (Kd.R_lt (by exact sR <| HO_8.out))) (below_size (by exact sW HB.out))); have n3_ := am (below_step (by exact sW HB.out) hb); clear HO_8; clear HO_9; clear HB; have HO_8 := n0_; have HO_9 := n1_; have HO634 := n2_; have HB := n3_; clear n0_ n1_ n2_ n3_; (try clear hb); (try clear hb2); (try clear hk); (try clear hi); (try clear ho0); obtain ⟨Ao37, co37, eo37⟩ := Kd.R_slice HO634.out; subst eo37) | ((with_reducible refine gate_callee (f := 22) rfl ?_); refine goesL_ (some 49) rfl rfl Try.func22 (by kernel_rfl) rfl #[.slice Ao20 t624.length co20, .slice Ao37 t632.length co37] rfl tm ?_; (with_reducible refine (laws_eqNodeS.calls kj11 _ _ t624 _ _ t632 true _ ?side1 ?side2 ?side3 ?side4 A26.out).mono ?_); (case side1 => exact sC (Kd.R_reads' HO_8.out).2.2); (case side2 => exact (Kd.R_reads' HO_8.out).2.1); (case side3 => exact sC (Kd.R_reads' HO634.out).2.2); (case side4 => exact (Kd.R_reads' HO634.out).2.1); rintro e w38 ⟨rfl, hb⟩; refine ⟨_, rfl, ?_⟩; have n0_ := am (Kd.R_below (by exact sR <| HO_8.out) hb); have n1_ := am (Kd.R_below (by exact sR <| HO_9.out) hb); have n2_ := am (Kd.R_below (by exact sR <| HO634.out) hb); have n3_ := am (below_step (by exact sW HB.out) hb); clear HO_8; clear HO_9; clear HO634; clear HB; have HO_8 := n0_; have HO_9 := n1_; have HO634 := n2_; have HB := n3_; clear n0_ n1_ n2_ n3_; (try clear hb); (try clear hb2); (try clear hk); (try clear hi)) | ((with_reducible refine gate_callee (f := 25) rfl ?_); refine goesL_ (some 53) rfl rfl Try.func25 (by kernel_rfl) rfl #[.slice A1 l1.length c1] rfl tm ?_; (with_reducible refine (laws_toIntS.calls kj11 _ _ l1 t636 _ ?side1 ?side2 A28.out).mono ?_); (case side1 => exact sC (Kd.C_below HR1.out HB.out)); (case side2 => exact HC1.out); rintro e w39 ⟨v637, rfl, ho0, hb⟩; refine ⟨_, rfl, ?_⟩; have n0_ := am (Kd.R_below (by exact sR <| HO_8.out) hb); have n1_ := am (Kd.R_elder' (by exact sR <| HO_9.out) (Kd.R_base ho0) hb); have n2_ := am (Kd.R_below (by exact sR <| HO634.out) hb); have n3_ := am (Kd.R_lower (Kd.R_new' ho0 (Kd.R_lt (by exact sR <| HO_9.out))) (below_size (by exact sW HB.out))); have n4_ := am (below_step (by exact sW HB.out) hb); clear HO_8; clear HO_9; clear HO634; clear HB; have HO_8 := n0_; have HO_9 := n1_; have HO634 := n2_; have HO638 := n3_; have HB := n4_; clear n0_ n1_ n2_ n3_ n4_; (try clear hb); (try clear hb2); (try clear hk); (try clear hi); (try clear ho0); obtain ⟨Ao40, co40, eo40⟩ := Kd.R_slice HO638.out; subst eo40) | ((with_reducible refine gate_callee (f := 26) rfl ?_); refine goesL_ (some 54) rfl rfl Try.func26 (by kernel_rfl) rfl #[.slice Ao21 t627.length co21, .slice Ao40 t636.length co40] rfl tm ?_; (with_reducible refine (laws_eqIntS.calls kj11 _ _ t627 _ _ t636 false _ ?side1 ?side2 ?side3 ?side4 A29.out).mono ?_); (case side1 => exact sC (Kd.R_reads' HO_9.out).2.2); (case side2 => exact (Kd.R_reads' HO_9.out).2.1); (case side3 => exact sC (Kd.R_reads' HO638.out).2.2); (case side4 => exact (Kd.R_reads' HO638.out).2.1); rintro e w' ⟨rfl, ⟨nd, rfl⟩⟩; refine ⟨_, rfl, ?_⟩))
        go_ret
        exact ⟨by rfl, by exact sW HB.out⟩
      ·replace c27 := Bool.eq_false_iff.mpr c27
       subst c27
       rw [if_neg (show ¬ (false = true) by decide)] at H
       obtain rfl := oI H
       go_wp2_with (first | ((with_reducible refine gate_callee (f := 20) rfl ?_); refine goesL_ (some 48) rfl rfl Try.func20 (by kernel_rfl) rfl #[.slice A0 l0.length c0] rfl tm ?_; (with_reducible refine (laws_toNodeS.calls kj11 _ _ l0 t632 _ ?side1 ?side2 A25.out).mono ?_); (case side1 => exact sC (Kd.C_below HR0.out HB.out)); (case side2 => exact HC0.out); rintro e w41 ⟨v633, rfl, ho0, hb⟩; refine ⟨_, rfl, ?_⟩; have n0_ := am (Kd.R_elder' (by exact sR <| HO_8.out) (Kd.R_base ho0) hb); have n1_ := am (Kd.R_below (by exact sR <| HO_9.out) hb); have n2_ := am (Kd.R_lower (Kd.R_new' ho0 (Kd.R_lt (by exact sR <| HO_8.out))) (below_size (by exact sW HB.out))); have n3_ := am (below_step (by exact sW HB.out) hb); clear HO_8; clear HO_9; clear HB; have HO_8 := n0_; have HO_9 := n1_; have HO634 := n2_; have HB := n3_; clear n0_ n1_ n2_ n3_; (try clear hb); (try clear hb2); (try clear hk); (try clear hi); (try clear ho0); obtain ⟨Ao42, co42, eo42⟩ := Kd.R_slice HO634.out; subst eo42) | ((with_reducible refine gate_callee (f := 22) rfl ?_); refine goesL_ (some 49) rfl rfl Try.func22 (by kernel_rfl) rfl #[.slice Ao20 t624.length co20, .slice Ao42 t632.length co42] rfl tm ?_; (with_reducible refine (laws_eqNodeS.calls kj11 _ _ t624 _ _ t632 false _ ?side1 ?side2 ?side3 ?side4 A26.out).mono ?_); (case side1 => exact sC (Kd.R_reads' HO_8.out).2.2); (case side2 => exact (Kd.R_reads' HO_8.out).2.1); (case side3 => exact sC (Kd.R_reads' HO634.out).2.2); (case side4 => exact (Kd.R_reads' HO634.out).2.1); rintro e w43 ⟨rfl, hb⟩; refine ⟨_, rfl, ?_⟩; have n0_ := am (Kd.R_below (by exact sR <| HO_8.out) hb); have n1_ := am (Kd.R_below (by exact sR <| HO_9.out) hb); have n2_ := am (Kd.R_below (by exact sR <| HO634.out) hb); have n3_ := am (below_step (by exact sW HB.out) hb); clear HO_8; clear HO_9; clear HO634; clear HB; have HO_8 := n0_; have HO_9 := n1_; have HO634 := n2_; have HB := n3_; clear n0_ n1_ n2_ n3_; (try clear hb); (try clear hb2); (try clear hk); (try clear hi)))
       go_ret
       exact ⟨by rfl, by exact sW HB.out⟩
end Go.Proofs.Ytkpipmojkhikaaa.PAll
