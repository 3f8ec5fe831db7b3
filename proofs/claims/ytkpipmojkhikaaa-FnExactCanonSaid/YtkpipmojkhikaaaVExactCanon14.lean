/- Written by a program of this session over the loaded program, and by hand: Go functions as plain Lean functions, and that a call comes to what they say. -/
import Derived.Test.YtkpipmojkhikaaaVExactCanon0
import Derived.Test.YtkpipmojkhikaaaVExactCanon2
import Derived.Test.YtkpipmojkhikaaaVExactCanon4
import Derived.Test.YtkpipmojkhikaaaVExactCanon6
import Derived.Test.YtkpipmojkhikaaaVExactCanon13
import Derived.Test.YtkpipmojkhikaaaBase
import Derived.Test.YtkpipmojkhikaaaSq
namespace Go.Proofs.Ytkpipmojkhikaaa.PAll
open Go.RowKit Go.Proofs.YtkpipmojkhikaaaW.PrintWords Go.Proofs.YtkpipmojkhikaaaW.PrintLast Go.Proofs.YtkpipmojkhikaaaW.PrintMore Go.Proofs.YtkpipmojkhikaaaW.Sq
attribute [local go_sem] max2_int min2_int max_two min_two max_three min_three max_four min_four   -- for this text's walks alone
set_option linter.unusedVariables false
set_option linter.unusedSimpArgs false

/-! ### spec_l03Num: function 126 -/
mutual
def spec_l03Num.j0 : Nat → ByteArray → Int → Bool → Option (Int)
 | 0, _, _, _ => none
 | k + 1, x0, x3, x12 => if x12 = true then (some (-1)) else (spec_l03Num.l0 k x0 x3 0)
def spec_l03Num.l0 : Nat → ByteArray → Int → Int → Option (Int)
 | 0, _, _, _ => none
 | k + 1, x0, x3, x4 => if x4 < (x0.size : Int) then (if 0 ≤ x4 then ((spec_l01In.f (wrap64 (bt x0 x4)) 48 57).bind fun t208 => (if t208 = true then (spec_l03Num.l0 k x0 (wrap64 ((wrap64 ((wrap64 (10 * x3)) + (wrap64 (bt x0 x4)))) - 48)) (wrap64 (x4 + 1))) else (some (-1)))) else (none)) else ((spec_l03Dec.f k x3).bind fun t209 => (if t209.toList = x0.toList then (some x3) else (some (-1))))
end
def spec_l03Num.f (k : Nat) (a0 : ByteArray) : Option (Int) := if (a0.size : Int) = 0 then (spec_l03Num.j0 k a0 0 true) else (spec_l03Num.j0 k a0 0 (decide ((a0.size : Int) > 9)))
set_option maxHeartbeats 8000000 in
set_option maxRecDepth 100000 in
theorem spec_l03Num.calls (k : Nat) (a0 : ByteArray) (r : Int) (w : World) (h : spec_l03Num.f k a0 = some r) :
  Calls Try.prog 126 #[.string a0] w fun e w' => e = .returned (.int .i64 r) ∧ Drawn0 w w' := by
 have H : (if (a0.size : Int) = 0 then (spec_l03Num.j0 k a0 0 true) else (spec_l03Num.j0 k a0 0 (decide ((a0.size : Int) > 9)))) = some r := h
 clear h
 have HC2 := am H; clear H
 go_enter Try.func126, Try.ntmps126
 go_upto_region 2 with (fail)
 go_cut [12] (fun v12 wc => ∃ (kq : Nat) (x12_1 : Bool), v12 = .bool x12_1 ∧ Aside0 (spec_l03Num.j0 kq a0 0 x12_1 = some r) ∧ Aside0 (kq ≤ k) ∧ Drawn0 w wc)
 case first =>
  have H := HC2.out
  clear HC2
  replace H := iE H; rcases H with ⟨c3b0, c3b1, H⟩ | ⟨c3b0, c3b1, H⟩
  ·have H' := am H
   clear H
   go_wp2
   go_meet
   case rel => exact ⟨_, (true), (by rfl), H', ⟨by omega⟩, by repeat (first | exact Drawn0.refl _ | apply Drawn0.step)⟩
  ·have H' := am H
   clear H
   go_wp2
   go_meet
   case rel => exact ⟨_, (decide ((a0.size : Int) > 9)), (by rfl), H', ⟨by omega⟩, by repeat (first | exact Drawn0.refl _ | apply Drawn0.step)⟩
 case rest =>
  clear HC2
  obtain ⟨kq, x12_1, rfl, HA, HJ1, ⟨mc1, rfl⟩⟩ := hcut
  cases kq with
  | zero => exact absurd HA.out (by simp [spec_l03Num.j0])
  | succ kj1 =>
   have H := HA.out
   clear HA
   simp only [spec_l03Num.j0] at H
   replace H := iB H; rcases H with ⟨rfl, H⟩ | ⟨rfl, H⟩
   ·obtain rfl := oI H
    go_wp2
    go_ret
    exact ⟨by rfl, by repeat (first | exact Drawn0.refl _ | apply Drawn0.step)⟩
   ·have H' := am H
    clear H
    go_wp2
    go_loopg [3, 4] kj1 (fun kq v3 v4 w' => ∃ (x3_2 : Int) (x4_2 : Int), v3 = .int .i64 x3_2 ∧ v4 = .int .i64 x4_2 ∧ Aside0 (spec_l03Num.l0 kq a0 x3_2 x4_2 = some r) ∧ Aside0 (kq ≤ kj1) ∧ Drawn0 w w')
    case atStart => exact ⟨(0), (0), (by rfl), (by rfl), H', ⟨Nat.le_refl _⟩, by repeat (first | exact Drawn0.refl _ | apply Drawn0.step)⟩
    case round =>
     clear H'
     obtain ⟨x3_2, x4_2, rfl, rfl, HA, HK2, ⟨m2, rfl⟩⟩ := hrel
     cases gk with
     | zero => exact absurd HA.out (by simp [spec_l03Num.l0])
     | succ k2 =>
      have H := HA.out
      clear HA
      simp only [spec_l03Num.l0] at H
      replace H := iD H; rcases H with ⟨c5b0, H⟩ | ⟨c5b0, H⟩
      ·replace H := iN H; obtain ⟨c6b0, H⟩ := H
       replace H := oA H; obtain ⟨t208, A8, H⟩ := H
       replace H := iB H; rcases H with ⟨rfl, H⟩ | ⟨rfl, H⟩
       ·have H' := am H
        clear H
        have p7 : 0 ≤ (x4_2 : Int) := oD (by assumption)
        have q7 : x4_2 < (a0.size : Int) := oD (by assumption)
        have hx7 := bt_at a0 x4_2
        replace p7 := eq_true p7
        replace q7 := eq_true q7
        go_wp2_with (first | ((with_reducible refine gate_callee (f := 42) rfl ?_); refine goesL_ (some 23) rfl rfl Try.func42 (by kernel_rfl) rfl #[.int .i64 (wrap64 (bt a0 x4_2)), .int .i64 48, .int .i64 57] rfl tm ?_; refine cD (spec_l01In.calls _ _ _ _ _ A8.out) fun nd => ?_; refine ⟨_, rfl, ?_⟩; have p10 : 0 ≤ (x4_2 : Int) := oD (by assumption); have q10 : x4_2 < (a0.size : Int) := oD (by assumption); have hx10 := bt_at a0 x4_2; replace p10 := eq_true p10; replace q10 := eq_true q10))
        go_roundg k2
        case measure => have := HJ1.out; have := HK2.out; omega
        case rel => exact ⟨(wrap64 ((wrap64 ((wrap64 (10 * x3_2)) + (wrap64 (bt a0 x4_2)))) - 48)), (wrap64 (x4_2 + 1)), (by rfl), (by rfl), H', ⟨by have := HJ1.out; have := HK2.out; omega⟩, by repeat (first | exact Drawn0.refl _ | apply Drawn0.step)⟩
       ·obtain rfl := oI H
        have p7 : 0 ≤ (x4_2 : Int) := oD (by assumption)
        have q7 : x4_2 < (a0.size : Int) := oD (by assumption)
        have hx7 := bt_at a0 x4_2
        replace p7 := eq_true p7
        replace q7 := eq_true q7
        go_wp2_with (first | ((with_reducible refine gate_callee (f := 42) rfl ?_); refine goesL_ (some 23) rfl rfl Try.func42 (by kernel_rfl) rfl #[.int .i64 (wrap64 (bt a0 x4_2)), .int .i64 48, .int .i64 57] rfl tm ?_; refine cD (spec_l01In.calls _ _ _ _ _ A8.out) fun nd => ?_; refine ⟨_, rfl, ?_⟩))
        go_ret
        exact ⟨by rfl, by repeat (first | exact Drawn0.refl _ | apply Drawn0.step)⟩
      ·replace H := oA H; obtain ⟨t209, A11, H⟩ := H
       replace H := iE H; rcases H with ⟨c12b0, c12b1, H⟩ | ⟨c12b0, c12b1, H⟩
       ·obtain rfl := oI H
        go_wp2_with (first | ((with_reducible refine gate_callee (f := 84) rfl ?_); refine goesL_ (some 34) rfl rfl Try.func84 (by kernel_rfl) rfl #[.int .i64 x3_2] rfl tm ?_; refine cD (spec_l03Dec.calls _ _ _ _ A11.out) fun nd => ?_; refine ⟨_, rfl, ?_⟩))
        go_ret
        exact ⟨by rfl, by repeat (first | exact Drawn0.refl _ | apply Drawn0.step)⟩
       ·obtain rfl := oI H
        go_wp2_with (first | ((with_reducible refine gate_callee (f := 84) rfl ?_); refine goesL_ (some 34) rfl rfl Try.func84 (by kernel_rfl) rfl #[.int .i64 x3_2] rfl tm ?_; refine cD (spec_l03Dec.calls _ _ _ _ A11.out) fun nd => ?_; refine ⟨_, rfl, ?_⟩))
        go_ret
        exact ⟨by rfl, by repeat (first | exact Drawn0.refl _ | apply Drawn0.step)⟩
/-! ### spec_l03Two: function 99 -/
mutual
def spec_l03Two.j0 : Nat → ByteArray → Bool → Option (Int × Int)
 | 0, _, _ => none
 | k + 1, x0, x17 => if x17 = true then (some ((-1), (-1))) else (spec_l03Two.l0 k x0 1)
def spec_l03Two.l0 : Nat → ByteArray → Int → Option (Int × Int)
 | 0, _, _ => none
 | k + 1, x0, x6 => if x6 < (x0.size : Int) then (if 0 ≤ x6 then (if (bt x0 x6) = 58 then (if 1 ≤ x6 then (if x6 ≤ (x0.size : Int) then ((spec_l03Num.f k (x0.extract 1 (x6 : Int).toNat)).bind fun t210 => (if 0 ≤ (wrap64 (x6 + 1)) then (if (wrap64 (x6 + 1)) ≤ (x0.size : Int) then ((spec_l03Num.f k (x0.extract ((wrap64 (x6 + 1)) : Int).toNat x0.size)).bind fun t211 => (if t210 < 0 then (some ((-1), (-1))) else (if t211 < 0 then (some ((-1), (-1))) else (some (t210, t211))))) else (none)) else (none))) else (none)) else (none)) else (spec_l03Two.l0 k x0 (wrap64 (x6 + 1)))) else (none)) else (some ((-1), (-1)))
end
def spec_l03Two.f (k : Nat) (a0 : ByteArray) (a1 : Int) : Option (Int × Int) := if (a0.size : Int) = 0 then (spec_l03Two.j0 k a0 true) else (if 0 < (a0.size : Int) then (spec_l03Two.j0 k a0 ((bt a0 0) != a1)) else (none))
set_option maxHeartbeats 8000000 in
set_option maxRecDepth 100000 in
theorem spec_l03Two.calls (k : Nat) (a0 : ByteArray) (a1 : Int) (r1 : Int) (r2 : Int) (w : World) (h : spec_l03Two.f k a0 a1 = some (r1, r2)) :
  Calls Try.prog 99 #[.string a0, .int .u8 a1] w fun e w' => e = .returned (.tuple #[.int .i64 r1, .int .i64 r2]) ∧ Drawn0 w w' := by
 have H : (if (a0.size : Int) = 0 then (spec_l03Two.j0 k a0 true) else (if 0 < (a0.size : Int) then (spec_l03Two.j0 k a0 ((bt a0 0) != a1)) else (none))) = some (r1, r2) := h
 clear h
 have HC3 := am H; clear H
 go_enter Try.func99, Try.ntmps99
 go_upto_region 1 with (fail)
 repeat (go_quiet (fail); go_upto_region 1 with (fail))
 go_cut [17] (fun v17 wc => ∃ (kq : Nat) (x17_2 : Bool), v17 = .bool x17_2 ∧ Aside0 (spec_l03Two.j0 kq a0 x17_2 = some (r1, r2)) ∧ Aside0 (kq ≤ k) ∧ Drawn0 w wc)
 case first =>
  have H := HC3.out
  clear HC3
  replace H := iE H; rcases H with ⟨c4b0, c4b1, H⟩ | ⟨c4b0, c4b1, H⟩
  ·have H' := am H
   clear H
   go_wp2
   repeat (go_quiet (fail); try go_wp2)
   go_meet
   case rel => exact ⟨_, (true), (by rfl), H', ⟨by omega⟩, by repeat (first | exact Drawn0.refl _ | apply Drawn0.step)⟩
  ·replace H := iP H; obtain ⟨c5, H⟩ := H
   have c5b0 : decide (0 < (a0.size : Int)) = true := decide_eq_true c5
   have c5b1 : decide (0 < a0.size) = true := decide_eq_true (by omega)
   clear c5
   have H' := am H
   clear H
   have p6 : 0 ≤ (0 : Int) := (by omega)
   have q6 : 0 < a0.size := (by have : (0 : Int) < (a0.size : Int) := oD (by assumption); omega)
   have hx6 : ∀ h : 0 < a0.size, ((a0[0]'h).toNat : Int) = bt a0 0 := bt_at a0 0
   clear p6
   have qi6 : (0 < (a0.size : Int)) = True := eq_true (oD (by assumption))
   replace q6 := eq_true q6
   go_wp2
   repeat (go_quiet (fail); try go_wp2)
   go_meet
   case rel => exact ⟨_, (((bt a0 0) != a1)), (by rfl), H', ⟨by omega⟩, by repeat (first | exact Drawn0.refl _ | apply Drawn0.step)⟩
 case rest =>
  clear HC3
  obtain ⟨kq, x17_2, rfl, HA, HJ2, ⟨mc2, rfl⟩⟩ := hcut
  cases kq with
  | zero => exact absurd HA.out (by simp [spec_l03Two.j0])
  | succ kj2 =>
   have H := HA.out
   clear HA
   simp only [spec_l03Two.j0] at H
   replace H := iB H; rcases H with ⟨rfl, H⟩ | ⟨rfl, H⟩
   ·simp only [Option.some.injEq, Prod.mk.injEq] at H
    obtain ⟨rfl, rfl⟩ := H
    go_wp2
    repeat (go_quiet (fail); try go_wp2)
    go_ret2
    exact ⟨by rfl, by repeat (first | exact Drawn0.refl _ | apply Drawn0.step)⟩
   ·have H' := am H
    clear H
    go_wp2
    repeat (go_quiet (fail); try go_wp2)
    go_loopg [6] kj2 (fun kq v6 w' => ∃ (x6_2 : Int), v6 = .int .i64 x6_2 ∧ Aside0 (spec_l03Two.l0 kq a0 x6_2 = some (r1, r2)) ∧ Aside0 (kq ≤ kj2) ∧ Drawn0 w w')
    case atStart => exact ⟨(1), (by rfl), H', ⟨Nat.le_refl _⟩, by repeat (first | exact Drawn0.refl _ | apply Drawn0.step)⟩
    case round =>
     clear H'
     obtain ⟨x6_2, rfl, HA, HK2, ⟨m2, rfl⟩⟩ := hrel
     cases gk with
     | zero => exact absurd HA.out (by simp [spec_l03Two.l0])
     | succ k2 =>
      have H := HA.out
      clear HA
      simp only [spec_l03Two.l0] at H
      replace H := iD H; rcases H with ⟨c8b0, H⟩ | ⟨c8b0, H⟩
      ·replace H := iN H; obtain ⟨c9b0, H⟩ := H
       replace H := iE H; rcases H with ⟨c11b0, c11b1, H⟩ | ⟨c11b0, c11b1, H⟩
       ·replace H := iTD H; obtain ⟨c12b0, c12b1, H⟩ := H
        replace H := iTD H; obtain ⟨c13b0, c13b1, H⟩ := H
        replace H := oA H; obtain ⟨t210, A14, H⟩ := H
        obtain ⟨ji15, hji15⟩ : ∃ j_ : Int, (wrap64 (x6_2 + 1)) = j_ := ⟨_, rfl⟩
        replace H : (if 0 ≤ (ji15) then (if (ji15) ≤ (a0.size : Int) then ((spec_l03Num.f k2 (a0.extract ((ji15) : Int).toNat a0.size)).bind fun t211 => (if t210 < 0 then (some ((-1), (-1))) else (if t211 < 0 then (some ((-1), (-1))) else (some (t210, t211))))) else (none)) else (none)) = some (r1, r2) := by (rw [hji15] at H; exact H)
        (try rw [hji15] at A14)
        have hji15w : (IntKind.i64.wrap (x6_2 + 1)) = ji15 := (i64_w _).trans hji15
        replace H := iTD H; obtain ⟨c16b0, c16b1, H⟩ := H
        replace H := iTD H; obtain ⟨c17b0, c17b1, H⟩ := H
        replace H := oA H; obtain ⟨t211, A18, H⟩ := H
        replace H := iD H; rcases H with ⟨c19b0, H⟩ | ⟨c19b0, H⟩
        ·simp only [Option.some.injEq, Prod.mk.injEq] at H
         obtain ⟨rfl, rfl⟩ := H
         have p10 : 0 ≤ (x6_2 : Int) := oD (by assumption)
         have q10 : x6_2 < (a0.size : Int) := oD (by assumption)
         have hx10 := bt_at a0 x6_2
         replace p10 := eq_true p10
         replace q10 := eq_true q10
         go_wp2_with (first | (go_at_call 126; refine cD (spec_l03Num.calls _ _ _ _ A14.out) fun nd => ?_; (try exact dq)) | (go_at_call 126; refine cD (spec_l03Num.calls _ _ _ _ A18.out) fun nd => ?_; (try exact dq)))
         repeat (go_quiet (first | (go_at_call 126; refine cD (spec_l03Num.calls _ _ _ _ A14.out) fun nd => ?_; (try exact dq)) | (go_at_call 126; refine cD (spec_l03Num.calls _ _ _ _ A18.out) fun nd => ?_; (try exact dq))); try go_wp2_with (first | (go_at_call 126; refine cD (spec_l03Num.calls _ _ _ _ A14.out) fun nd => ?_; (try exact dq)) | (go_at_call 126; refine cD (spec_l03Num.calls _ _ _ _ A18.out) fun nd => ?_; (try exact dq))))
         go_ret2
         exact ⟨by rfl, by repeat (first | exact Drawn0.refl _ | apply Drawn0.step)⟩
        ·replace H := iD H; rcases H with ⟨c20b0, H⟩ | ⟨c20b0, H⟩
         ·simp only [Option.some.injEq, Prod.mk.injEq] at H
          obtain ⟨rfl, rfl⟩ := H
          have p10 : 0 ≤ (x6_2 : Int) := oD (by assumption)
          have q10 : x6_2 < (a0.size : Int) := oD (by assumption)
          have hx10 := bt_at a0 x6_2
          replace p10 := eq_true p10
          replace q10 := eq_true q10
          go_wp2_with (first | (go_at_call 126; refine cD (spec_l03Num.calls _ _ _ _ A14.out) fun nd => ?_; (try exact dq)) | (go_at_call 126; refine cD (spec_l03Num.calls _ _ _ _ A18.out) fun nd => ?_; (try exact dq)))
          repeat (go_quiet (first | (go_at_call 126; refine cD (spec_l03Num.calls _ _ _ _ A14.out) fun nd => ?_; (try exact dq)) | (go_at_call 126; refine cD (spec_l03Num.calls _ _ _ _ A18.out) fun nd => ?_; (try exact dq))); try go_wp2_with (first | (go_at_call 126; refine cD (spec_l03Num.calls _ _ _ _ A14.out) fun nd => ?_; (try exact dq)) | (go_at_call 126; refine cD (spec_l03Num.calls _ _ _ _ A18.out) fun nd => ?_; (try exact dq))))
          go_ret2
          exact ⟨by rfl, by repeat (first | exact Drawn0.refl _ | apply Drawn0.step)⟩
         ·simp only [Option.some.injEq, Prod.mk.injEq] at H
          obtain ⟨rfl, rfl⟩ := H
          have p10 : 0 ≤ (x6_2 : Int) := oD (by assumption)
          have q10 : x6_2 < (a0.size : Int) := oD (by assumption)
          have hx10 := bt_at a0 x6_2
          replace p10 := eq_true p10
          replace q10 := eq_true q10
          go_wp2_with (first | (go_at_call 126; refine cD (spec_l03Num.calls _ _ _ _ A14.out) fun nd => ?_; (try exact dq)) | (go_at_call 126; refine cD (spec_l03Num.calls _ _ _ _ A18.out) fun nd => ?_; (try exact dq)))
          repeat (go_quiet (first | (go_at_call 126; refine cD (spec_l03Num.calls _ _ _ _ A14.out) fun nd => ?_; (try exact dq)) | (go_at_call 126; refine cD (spec_l03Num.calls _ _ _ _ A18.out) fun nd => ?_; (try exact dq))); try go_wp2_with (first | (go_at_call 126; refine cD (spec_l03Num.calls _ _ _ _ A14.out) fun nd => ?_; (try exact dq)) | (go_at_call 126; refine cD (spec_l03Num.calls _ _ _ _ A18.out) fun nd => ?_; (try exact dq))))
          go_ret2
          exact ⟨by rfl, by repeat (first | exact Drawn0.refl _ | apply Drawn0.step)⟩
       ·have H' := am H
        clear H
        have p10 : 0 ≤ (x6_2 : Int) := oD (by assumption)
        have q10 : x6_2 < (a0.size : Int) := oD (by assumption)
        have hx10 := bt_at a0 x6_2
        replace p10 := eq_true p10
        replace q10 := eq_true q10
        go_wp2
        repeat (go_quiet (fail); try go_wp2)
        go_roundg k2
        case measure => have := HJ2.out; have := HK2.out; omega
        case rel => exact ⟨(wrap64 (x6_2 + 1)), (by rfl), H', ⟨by have := HJ2.out; have := HK2.out; omega⟩, by repeat (first | exact Drawn0.refl _ | apply Drawn0.step)⟩
      ·simp only [Option.some.injEq, Prod.mk.injEq] at H
       obtain ⟨rfl, rfl⟩ := H
       go_wp2
       repeat (go_quiet (fail); try go_wp2)
       go_ret2
       exact ⟨by rfl, by repeat (first | exact Drawn0.refl _ | apply Drawn0.step)⟩

-- NOT PRINTED: function 100 (spec_l03Put)
variable {Ax : Option Addr} {cx : Nat}
/-! ### spec_l03Word: function 98 -/
def spec_l03Word.l0 : Nat → Int → ByteArray → Int → List (S31) → Int → Int → Option (ByteArray × ByteArray × Int × Int × Int)
 | 0, _, _, _, _, _, _ => none
 | k + 1, x3, x1000, x1001, x1002, x1003, x1004 => if x1001 < (x1000.size : Int) then (if 0 ≤ x1001 then (if (bt x1000 x1001) = 32 then (if 0 ≤ x3 then (if x3 ≤ x1001 then (if x1001 ≤ (x1000.size : Int) then (some (x1000.extract (x3 : Int).toNat (x1001 : Int).toNat, x1000, x1001, x1003, x1004)) else (none)) else (none)) else (none)) else (if (bt x1000 x1001) = 41 then (if 0 ≤ x3 then (if x3 ≤ x1001 then (if x1001 ≤ (x1000.size : Int) then (some (x1000.extract (x3 : Int).toNat (x1001 : Int).toNat, x1000, x1001, x1003, x1004)) else (none)) else (none)) else (none)) else (spec_l03Word.l0 k x3 x1000 (wrap64 (x1001 + 1)) x1002 x1003 x1004))) else (none)) else (if 0 ≤ x3 then (if x3 ≤ x1001 then (if x1001 ≤ (x1000.size : Int) then (some (x1000.extract (x3 : Int).toNat (x1001 : Int).toNat, x1000, x1001, x1003, x1004)) else (none)) else (none)) else (none))
def spec_l03Word.f (k : Nat) (s0_0 : ByteArray) (s0_1 : Int) (s0_2 : List (S31)) (s0_3 : Int) (s0_4 : Int) : Option (ByteArray × ByteArray × Int × Int × Int) := spec_l03Word.l0 k s0_1 s0_0 s0_1 s0_2 s0_3 s0_4
set_option maxHeartbeats 8000000 in
set_option maxRecDepth 100000 in
theorem spec_l03Word.calls (k : Nat) (g : Nat) (s0_0 : ByteArray) (s0_1 : Int) (s0_2 : List (S31)) (s0_3 : Int) (s0_4 : Int) (r1 : ByteArray) (r2 : ByteArray) (r3 : Int) (r4 : Int) (r5 : Int) (w0 w : World) (hI : IsS88 Ax cx w0 w g s0_0 s0_1 s0_2 s0_3 s0_4) (hB : Below w0.heap.size w0 w) (h : spec_l03Word.f k s0_0 s0_1 s0_2 s0_3 s0_4 = some (r1, r2, r3, r4, r5)) :
  Calls Try.prog 98 #[.pointer (some ⟨g, 0, none⟩)] w fun e w' => e = .returned (.string r1) ∧ IsS88 Ax cx w0 w' g r2 r3 s0_2 r4 r5 ∧ Below w0.heap.size w0 w' ∧ KeepBut w w' g none := by
 have HI0 := am hI
 have HK := am (KeepBut.refl w g none)
 have HL := am hB.size
 clear hI
 have HW0 := am hB.size
 have HB := am hB
 clear hB
 have H : (spec_l03Word.l0 k s0_1 s0_0 s0_1 s0_2 s0_3 s0_4) = some (r1, r2, r3, r4, r5) := h
 clear h
 have H' := am H
 clear H
 obtain ⟨ASz2_2, cSz2_2, HGz2, hgz2, HSz2_2⟩ := HI0.out
 have hcz2_0 := cellS88_0 HGz2
 have hcz2_1 := cellS88_1 HGz2
 have hcz2_2 := cellS88_2 HGz2
 have hcz2_3 := cellS88_3 HGz2
 have hcz2_4 := cellS88_4 HGz2
 have hfz2_0 := blk_frozen HGz2 0
 have hfz2_1 := blk_frozen HGz2 1
 have hfz2_3 := blk_frozen HGz2 3
 have hfz2_4 := blk_frozen HGz2 4
 clear HGz2 hgz2
 go_enter Try.func98, Try.ntmps98
 go_wp2
 repeat (go_quiet (fail); try go_wp2)
 go_loopg [] k (fun kq w' => ∃ (x1001_1 : Int), Aside0 (spec_l03Word.l0 kq s0_1 s0_0 x1001_1 s0_2 s0_3 s0_4 = some (r1, r2, r3, r4, r5)) ∧ Aside0 (kq ≤ k) ∧ Aside0 (IsS88 Ax cx w0 w' g s0_0 x1001_1 s0_2 s0_3 s0_4) ∧ Aside0 (KeepBut w w' g none) ∧ Aside0 (Below w0.heap.size w0 w'))
 case atStart => exact ⟨(s0_1), H', ⟨Nat.le_refl _⟩, ⟨by repeat (first | (with_reducible first | exact HI0.out | apply IsS88.alloc | apply IsS88.drewN | apply IsS88.drew | apply IsS88.set_0 | apply IsS88.set_1 | apply IsS88.set_3 | apply IsS88.set_4) | exact HI0.out)⟩, ⟨by exact kB⟩, ⟨by exact bIsS88⟩⟩
 case round =>
  clear H'
  clear hcz2_0 hcz2_1 hcz2_2 hcz2_3 hcz2_4 hfz2_0 hfz2_1 hfz2_3 hfz2_4
  obtain ⟨x1001_1, HA, HK1, HI0, HK, HB⟩ := hrel
  cases gk with
  | zero => exact absurd HA.out (by simp [spec_l03Word.l0])
  | succ k1 =>
   have H := HA.out
   clear HA
   simp only [spec_l03Word.l0] at H
   replace H := iD H; rcases H with ⟨c3b0, H⟩ | ⟨c3b0, H⟩
   ·replace H := iN H; obtain ⟨c4b0, H⟩ := H
    replace H := iE H; rcases H with ⟨c6b0, c6b1, H⟩ | ⟨c6b0, c6b1, H⟩
    ·replace H := iTD H; obtain ⟨c7b0, c7b1, H⟩ := H
     replace H := iTD H; obtain ⟨c8b0, c8b1, H⟩ := H
     replace H := iTD H; obtain ⟨c9b0, c9b1, H⟩ := H
     simp only [Option.some.injEq, Prod.mk.injEq] at H
     obtain ⟨rfl, rfl, rfl, rfl, rfl⟩ := H
     obtain ⟨ASz10_2, cSz10_2, HGz10, hgz10, HSz10_2⟩ := HI0.out
     have hcz10_0 := cellS88_0 HGz10
     have hcz10_1 := cellS88_1 HGz10
     have hcz10_2 := cellS88_2 HGz10
     have hcz10_3 := cellS88_3 HGz10
     have hcz10_4 := cellS88_4 HGz10
     have hfz10_0 := blk_frozen HGz10 0
     have hfz10_1 := blk_frozen HGz10 1
     have hfz10_3 := blk_frozen HGz10 3
     have hfz10_4 := blk_frozen HGz10 4
     clear HGz10 hgz10
     have p5 : 0 ≤ (x1001_1 : Int) := oD (by assumption)
     have q5 : x1001_1 < (s0_0.size : Int) := oD (by assumption)
     have hx5 := bt_at s0_0 x1001_1
     replace p5 := eq_true p5
     replace q5 := eq_true q5
     go_wp2
     repeat (go_quiet (fail); try go_wp2)
     go_ret
     exact ⟨by rfl, by repeat (first | (with_reducible first | exact HI0.out | apply IsS88.alloc | apply IsS88.drewN | apply IsS88.drew | apply IsS88.set_0 | apply IsS88.set_1 | apply IsS88.set_3 | apply IsS88.set_4) | exact HI0.out), by exact bIsS88, by exact kB⟩
    ·replace H := iE H; rcases H with ⟨c12b0, c12b1, H⟩ | ⟨c12b0, c12b1, H⟩
     ·replace H := iTD H; obtain ⟨c13b0, c13b1, H⟩ := H
      replace H := iTD H; obtain ⟨c14b0, c14b1, H⟩ := H
      replace H := iTD H; obtain ⟨c15b0, c15b1, H⟩ := H
      simp only [Option.some.injEq, Prod.mk.injEq] at H
      obtain ⟨rfl, rfl, rfl, rfl, rfl⟩ := H
      obtain ⟨ASz16_2, cSz16_2, HGz16, hgz16, HSz16_2⟩ := HI0.out
      have hcz16_0 := cellS88_0 HGz16
      have hcz16_1 := cellS88_1 HGz16
      have hcz16_2 := cellS88_2 HGz16
      have hcz16_3 := cellS88_3 HGz16
      have hcz16_4 := cellS88_4 HGz16
      have hfz16_0 := blk_frozen HGz16 0
      have hfz16_1 := blk_frozen HGz16 1
      have hfz16_3 := blk_frozen HGz16 3
      have hfz16_4 := blk_frozen HGz16 4
      clear HGz16 hgz16
      have p5 : 0 ≤ (x1001_1 : Int) := oD (by assumption)
      have q5 : x1001_1 < (s0_0.size : Int) := oD (by assumption)
      have hx5 := bt_at s0_0 x1001_1
      replace p5 := eq_true p5
      replace q5 := eq_true q5
      have p11 : 0 ≤ (x1001_1 : Int) := oD (by assumption)
      have q11 : x1001_1 < (s0_0.size : Int) := oD (by assumption)
      have hx11 := bt_at s0_0 x1001_1
      replace p11 := eq_true p11
      replace q11 := eq_true q11
      go_wp2
      repeat (go_quiet (fail); try go_wp2)
      go_ret
      exact ⟨by rfl, by repeat (first | (with_reducible first | exact HI0.out | apply IsS88.alloc | apply IsS88.drewN | apply IsS88.drew | apply IsS88.set_0 | apply IsS88.set_1 | apply IsS88.set_3 | apply IsS88.set_4) | exact HI0.out), by exact bIsS88, by exact kB⟩
     ·have H' := am H
      clear H
      obtain ⟨ASz17_2, cSz17_2, HGz17, hgz17, HSz17_2⟩ := HI0.out
      have hcz17_0 := cellS88_0 HGz17
      have hcz17_1 := cellS88_1 HGz17
      have hcz17_2 := cellS88_2 HGz17
      have hcz17_3 := cellS88_3 HGz17
      have hcz17_4 := cellS88_4 HGz17
      have hfz17_0 := blk_frozen HGz17 0
      have hfz17_1 := blk_frozen HGz17 1
      have hfz17_3 := blk_frozen HGz17 3
      have hfz17_4 := blk_frozen HGz17 4
      clear HGz17 hgz17
      have p5 : 0 ≤ (x1001_1 : Int) := oD (by assumption)
      have q5 : x1001_1 < (s0_0.size : Int) := oD (by assumption)
      have hx5 := bt_at s0_0 x1001_1
      replace p5 := eq_true p5
      replace q5 := eq_true q5
      have p11 : 0 ≤ (x1001_1 : Int) := oD (by assumption)
      have q11 : x1001_1 < (s0_0.size : Int) := oD (by assumption)
      have hx11 := bt_at s0_0 x1001_1
      replace p11 := eq_true p11
      replace q11 := eq_true q11
      go_wp2
      repeat (go_quiet (fail); try go_wp2)
      go_roundg k1
      case measure => have := HK1.out; omega
      case rel => exact ⟨(wrap64 (x1001_1 + 1)), H', ⟨by have := HK1.out; omega⟩, ⟨by repeat (first | (with_reducible first | exact HI0.out | apply IsS88.alloc | apply IsS88.drewN | apply IsS88.drew | apply IsS88.set_0 | apply IsS88.set_1 | apply IsS88.set_3 | apply IsS88.set_4) | exact HI0.out)⟩, ⟨by exact kB⟩, ⟨by exact bIsS88⟩⟩
   ·replace H := iTD H; obtain ⟨c18b0, c18b1, H⟩ := H
    replace H := iTD H; obtain ⟨c19b0, c19b1, H⟩ := H
    replace H := iTD H; obtain ⟨c20b0, c20b1, H⟩ := H
    simp only [Option.some.injEq, Prod.mk.injEq] at H
    obtain ⟨rfl, rfl, rfl, rfl, rfl⟩ := H
    obtain ⟨ASz21_2, cSz21_2, HGz21, hgz21, HSz21_2⟩ := HI0.out
    have hcz21_0 := cellS88_0 HGz21
    have hcz21_1 := cellS88_1 HGz21
    have hcz21_2 := cellS88_2 HGz21
    have hcz21_3 := cellS88_3 HGz21
    have hcz21_4 := cellS88_4 HGz21
    have hfz21_0 := blk_frozen HGz21 0
    have hfz21_1 := blk_frozen HGz21 1
    have hfz21_3 := blk_frozen HGz21 3
    have hfz21_4 := blk_frozen HGz21 4
    clear HGz21 hgz21
    go_wp2
    repeat (go_quiet (fail); try go_wp2)
    go_ret
    exact ⟨by rfl, by repeat (first | (with_reducible first | exact HI0.out | apply IsS88.alloc | apply IsS88.drewN | apply IsS88.drew | apply IsS88.set_0 | apply IsS88.set_1 | apply IsS88.set_3 | apply IsS88.set_4) | exact HI0.out), by exact bIsS88, by exact kB⟩
/-! ### The reference's reader: small steps, by hand -/
variable {Ax : Option Addr} {cx : Nat}
theorem cword_keeps {s : ByteArray} {l : List (S31)} {c b : Int} {r1 r2 : ByteArray} {r3 r4 r5 : Int} {x : Int} (k : Nat) : ∀ a : Int, spec_l03Word.l0 k x s a l c b = some (r1, r2, r3, r4, r5) → r2 = s ∧ r4 = c ∧ r5 = b := by
 induction k with
 | zero => intro a h; simp [spec_l03Word.l0] at h
 | succ k ih =>
  intro a h
  simp only [spec_l03Word.l0] at h
  repeat' split at h
  all_goals first
   | (simp only [Option.some.injEq, Prod.mk.injEq] at h; exact ⟨h.2.1.symm, h.2.2.2.1.symm, h.2.2.2.2.symm⟩)
   | exact ih _ h
   | cases h
theorem cblank_keeps {s : ByteArray} {a : Int} {l : List (S31)} {c b : Int} {r1 : Bool} {r2 : ByteArray} {r3 r4 r5 : Int} (h : spec_l03Blank.f s a l c b = some (r1, r2, r3, r4, r5)) : r2 = s ∧ r4 = c ∧ r5 = b := by
 unfold spec_l03Blank.f at h
 repeat' split at h
 all_goals first
  | (simp only [Option.some.injEq, Prod.mk.injEq] at h; exact ⟨h.2.1.symm, h.2.2.2.1.symm, h.2.2.2.2.symm⟩)
  | cases h
/-- l03Blank: whether there is one, and the place behind it. -/
def cbF (s : ByteArray) (a : Int) (l : List (S31)) : Option (Bool × Int) := (spec_l03Blank.f s a l 0 0).map fun r => (r.1, r.2.2.1)
/-- l03Word: the word and the place behind it. -/
def cwF (k : Nat) (s : ByteArray) (a : Int) (l : List (S31)) : Option (ByteArray × Int) := (spec_l03Word.f k s a l 0 0).map fun r => (r.1, r.2.2.1)
theorem IsCu.below {w0 w w' : World} {g : Nat} {s : ByteArray} {a : Int} {l : List (S31)} {code bad : Int} {A : Option Addr} {c : Nat} (h : IsCu w0 w g s a l code bad A c) (hb : Below w.heap.size w w') : IsCu w0 w' g s a l code bad A c :=
 ⟨IsS88.below h.1 hb, Kd.R_below h.2.1 hb, h.2.2.trans (hb.mono h.2.2.size)⟩
theorem IsCu.far {w0 w : World} {g : Nat} {s : ByteArray} {a : Int} {l : List (S31)} {code bad : Int} {A : Option Addr} {c : Nat} (h : IsCu w0 w g s a l code bad A c) {x j : Nat} (hg : g ≠ x) (ho : ∀ k, (Value.slice A l.length c).ownBlock = some k → k ≠ x) (h0 : w0.heap.size ≤ x) (u : Value) : IsCu w0 (w.setCell ⟨x, j, none⟩ u) g s a l code bad A c := by
 refine ⟨?_, Kd.R_mono (Kd.R_far (p := ⟨x, j, none⟩) (Kd.R_mono (Kd.R_tight rfl h.2.1) (ok' := fun k => k ≠ g ∧ k ≠ x) (fun k e => ⟨h.2.1.1 k e.symm, ho k e.symm⟩)) (fun k h => h.2) u) (fun k h => h.1), below_set h.2.2 h0⟩
 obtain ⟨A2, c2, hb, hg2, hr2⟩ := h.1
 exact ⟨A2, c2, blk_far (p := ⟨x, j, none⟩) hb hg u, hg2, hr2⟩
theorem IsCu.grown {w0 w w' : World} {g : Nat} {s : ByteArray} {a : Int} {l : List (S31)} {code bad : Int} {A : Option Addr} {c : Nat} {row : Option Nat} (h : IsCu w0 w g s a l code bad A c) (hg : w.grownBy w' row) (hne : some g ≠ row) (ho : ∀ k, (Value.slice A l.length c).ownBlock = some k → some k ≠ row) (hb : Below w0.heap.size w0 w') : IsCu w0 w' g s a l code bad A c := by
 refine ⟨IsS88.grown h.1 hg hne, Kd.R_mono (Kd.R_step (Kd.R_mono (Kd.R_tight rfl h.2.1) (ok' := fun k => k ≠ g ∧ some k ≠ row) (fun k e => ⟨h.2.1.1 k e.symm, ho k e.symm⟩)) (fun k hk hl => hg.block k hl hk.2)) (fun k h => h.1), hb⟩
theorem IsCu.keep {w0 w w' : World} {g : Nat} {s : ByteArray} {a a' : Int} {l : List (S31)} {code bad code' bad' : Int} {A : Option Addr} {c : Nat} (h : IsCu w0 w g s a l code bad A c) (hi : IsS88 A c w0 w' g s a' l code' bad') (hb : Below w0.heap.size w0 w') (hk : KeepBut w w' g none) : IsCu w0 w' g s a' l code' bad' A c := ⟨hi, Kd.R_keep h.2.1 hk (fun _ h => h), hb⟩
theorem cblankC (g : Nat) (s : ByteArray) (a : Int) (l : List (S31)) (r : Bool) (a' : Int) (A : Option Addr) (c : Nat) (w0 w : World) (hI : IsCu w0 w g s a l 0 0 A c) (h : cbF s a l = some (r, a')) :
  Calls Try.prog 125 #[.pointer (some ⟨g, 0, none⟩)] w fun e w' => e = .returned (.bool r) ∧ IsCu w0 w' g s a' l 0 0 A c ∧ KeepBut w w' g none := by
 obtain ⟨⟨r1, r2, r3, r4, r5⟩, h1, h2⟩ := Option.map_eq_some_iff.mp h
 simp only [Prod.mk.injEq] at h2
 obtain ⟨rfl, rfl⟩ := h2
 obtain ⟨e1, e2, e3⟩ := cblank_keeps h1
 subst e1 e2 e3
 exact (spec_l03Blank.calls g _ a l 0 0 r1 _ r3 0 0 w0 w hI.1 hI.2.2 h1).mono (fun e w' ⟨h1, h2, h3, h4⟩ => ⟨h1, hI.keep h2 h3 h4, h4⟩)
theorem cwordC (k g : Nat) (s : ByteArray) (a : Int) (l : List (S31)) (r : ByteArray) (a' : Int) (A : Option Addr) (c : Nat) (w0 w : World) (hI : IsCu w0 w g s a l 0 0 A c) (h : cwF k s a l = some (r, a')) :
  Calls Try.prog 98 #[.pointer (some ⟨g, 0, none⟩)] w fun e w' => e = .returned (.string r) ∧ IsCu w0 w' g s a' l 0 0 A c ∧ KeepBut w w' g none := by
 obtain ⟨⟨r1, r2, r3, r4, r5⟩, h1, h2⟩ := Option.map_eq_some_iff.mp h
 simp only [Prod.mk.injEq] at h2
 obtain ⟨rfl, rfl⟩ := h2
 have h1' := h1
 unfold spec_l03Word.f at h1'
 obtain ⟨e1, e2, e3⟩ := cword_keeps k _ h1'
 subst e1 e2 e3
 exact (spec_l03Word.calls k g _ a l 0 0 r1 _ r3 0 0 w0 w hI.1 hI.2.2 h1).mono (fun e w' ⟨h1, h2, h3, h4⟩ => ⟨h1, hI.keep h2 h3 h4, h4⟩)
theorem cfailC (g : Nat) (s : ByteArray) (a : Int) (l : List (S31)) (x y : Int) (A : Option Addr) (c : Nat) (w0 w : World) (hI : IsCu w0 w g s a l 0 0 A c) :
  Calls Try.prog 63 #[.pointer (some ⟨g, 0, none⟩), .int .i64 x, .int .i64 y] w fun e w' => e = .returned (.int .i64 0) ∧ IsCu w0 w' g s a l x y A c ∧ KeepBut w w' g none :=
 (spec_l03Fail.calls g s a l 0 0 x y 0 s a x y w0 w hI.1 hI.2.2 rfl).mono (fun e w' ⟨h1, h2, h3, h4⟩ => ⟨h1, hI.keep h2 h3 h4, h4⟩)
abbrev CdV := Int → List (S31) → Option (Int × Int × List (S31) × Int × Int)
/-- What a call of l03Read does, as V tells. -/
def CNodeCon (s : ByteArray) (V : CdV) : Prop :=
 ∀ (g : Nat) (a : Int) (l : List (S31)) (p a' : Int) (l' : List (S31)) (code' bad' : Int) (A : Option Addr) (c : Nat) (w0 w : World), IsCu w0 w g s a l 0 0 A c → l.length ≤ 80 → V a l = some (p, a', l', code', bad') →
  Calls Try.prog 62 #[.pointer (some ⟨g, 0, none⟩)] w fun e w' => e = .returned (.int .i64 p) ∧ CLeft w0 w w' g s a' l' code' bad' A c l.length
end Go.Proofs.Ytkpipmojkhikaaa.PAll
