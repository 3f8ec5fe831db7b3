/- Written by a program of this session over the loaded program: Go functions as plain Lean functions, and that a call comes to what they say. -/
import Derived.Test.YtkpipmojkhikaaaPAllx0
import Derived.Test.YtkpipmojkhikaaaPAllx3
import Derived.Test.YtkpipmojkhikaaaPAllx6
import Derived.Test.YtkpipmojkhikaaaSq
namespace Go.Proofs.Ytkpipmojkhikaaa.PAll
open Go.RowKit Go.Proofs.YtkpipmojkhikaaaW.PrintWords Go.Proofs.YtkpipmojkhikaaaW.PrintLast Go.Proofs.YtkpipmojkhikaaaW.PrintMore Go.Proofs.YtkpipmojkhikaaaW.Sq
attribute [local go_sem] max2_int min2_int max_two min_two max_three min_three max_four min_four   -- for this text's walks alone
set_option linter.unusedVariables false
set_option linter.unusedSimpArgs false

@[reducible] def zA0x7 : Array Bool := #[false, false, false, false, false, false, false, false, false, false]
@[reducible] def zA1x7 : Array Bool := #[true, false, false, false, false, false, false, false, false, false]
@[reducible] def zA2x7 : Array Bool := #[true, false, false, false, false, true, false, false, false, false]
@[reducible] def zA3x7 : Array Bool := #[true, true, false, false, false, true, false, false, false, false]
@[reducible] def zA4x7 : Array Bool := #[true, true, false, false, false, true, true, false, false, false]
@[reducible] def zA5x7 : Array Bool := #[true, true, true, false, false, true, true, false, false, false]
@[reducible] def zA6x7 : Array Bool := #[true, true, true, true, false, true, true, false, false, false]
@[reducible] def zA7x7 : Array Bool := #[true, true, true, true, true, true, true, false, false, false]
@[reducible] def zA8x7 : Array Bool := #[true, true, true, true, true, true, true, true, false, false]
@[reducible] def zA9x7 : Array Bool := #[true, true, true, true, true, true, true, true, true, false]
@[reducible] def zA10x7 : Array Bool := #[true, true, true, true, true, true, true, true, true, true]
/-! ### spec_l03Show: function 55 -/
mutual
def spec_l03Show.j0 : Nat → List ByteArray → ByteArray → Int → Int → Int → Int → Int → Int → Option (ByteArray)
 | 0, _, _, _, _, _, _, _, _ => none
 | k + 1, x1, x5, x158000, x158001, x158002, x158003, x158004, x158005 => (spec_Parts.f k x158000 x158001 x158002 x158003 x158004 x158005).bind fun t172 => (spec_l03Show.l0 k x1 x5 t172 0)
def spec_l03Show.l0 : Nat → List ByteArray → ByteArray → List Int → Int → Option (ByteArray)
 | 0, _, _, _, _ => none
 | k + 1, x1, x5, x6, x7 => if x7 < (x6.length : Int) then (if 0 ≤ x7 then (if 0 ≤ (rd x6 x7) then (if (rd x6 x7) < (x1.length : Int) then (if (rdOf ByteArray.empty x1 (rd x6 x7)).toList = ([] : List UInt8) then (some (⟨#[]⟩ : ByteArray)) else (if x5.size + 1 ≤ 9223372036854775807 then (if (x5 ++ (⟨#[32]⟩ : ByteArray)).size + (rdOf ByteArray.empty x1 (rd x6 x7)).size ≤ 9223372036854775807 then (spec_l03Show.l0 k x1 ((x5 ++ (⟨#[32]⟩ : ByteArray)) ++ (rdOf ByteArray.empty x1 (rd x6 x7))) x6 (wrap64 (x7 + 1))) else (none)) else (none))) else (none)) else (none)) else (none)) else (if (wrap64 ((x5.size : Int) + 2)) > 4000 then (some (⟨#[]⟩ : ByteArray)) else (if 1 + x5.size ≤ 9223372036854775807 then (if ((⟨#[40]⟩ : ByteArray) ++ x5).size + 1 ≤ 9223372036854775807 then (some (((⟨#[40]⟩ : ByteArray) ++ x5) ++ (⟨#[41]⟩ : ByteArray))) else (none)) else (none)))
end
def spec_l03Show.f (k : Nat) (a0_0 : Int) (a0_1 : Int) (a0_2 : Int) (a0_3 : Int) (a0_4 : Int) (a0_5 : Int) (l1 : List ByteArray) : Option (ByteArray) := if a0_0 = 0 then ((spec_l03Dec.f k a0_1).bind fun t158 => (if 1 + t158.size ≤ 9223372036854775807 then (if ((⟨#[35]⟩ : ByteArray) ++ t158).size + 1 ≤ 9223372036854775807 then ((spec_l03Dec.f k a0_2).bind fun t159 => (if (((⟨#[35]⟩ : ByteArray) ++ t158) ++ (⟨#[58]⟩ : ByteArray)).size + t159.size ≤ 9223372036854775807 then (some ((((⟨#[35]⟩ : ByteArray) ++ t158) ++ (⟨#[58]⟩ : ByteArray)) ++ t159)) else (none))) else (none)) else (none))) else (if a0_0 = 1 then ((spec_l03Dec.f k a0_2).bind fun t160 => (if 1 + t160.size ≤ 9223372036854775807 then (if ((⟨#[118]⟩ : ByteArray) ++ t160).size + 1 ≤ 9223372036854775807 then ((spec_l03Dec.f k a0_1).bind fun t161 => (if (((⟨#[118]⟩ : ByteArray) ++ t160) ++ (⟨#[58]⟩ : ByteArray)).size + t161.size ≤ 9223372036854775807 then (some ((((⟨#[118]⟩ : ByteArray) ++ t160) ++ (⟨#[58]⟩ : ByteArray)) ++ t161)) else (none))) else (none)) else (none))) else (if a0_0 = 2 then (spec_l03Show.j0 k l1 (⟨#[110, 111, 116]⟩ : ByteArray) a0_0 a0_1 a0_2 a0_3 a0_4 a0_5) else (if a0_0 = 17 then ((spec_l03Dec.f k a0_2).bind fun t162 => (if 6 + t162.size ≤ 9223372036854775807 then (if ((⟨#[115, 108, 105, 99, 101, 32]⟩ : ByteArray) ++ t162).size + 1 ≤ 9223372036854775807 then ((spec_l03Dec.f k a0_1).bind fun t163 => (if (((⟨#[115, 108, 105, 99, 101, 32]⟩ : ByteArray) ++ t162) ++ (⟨#[32]⟩ : ByteArray)).size + t163.size ≤ 9223372036854775807 then (spec_l03Show.j0 k l1 ((((⟨#[115, 108, 105, 99, 101, 32]⟩ : ByteArray) ++ t162) ++ (⟨#[32]⟩ : ByteArray)) ++ t163) a0_0 a0_1 a0_2 a0_3 a0_4 a0_5) else (none))) else (none)) else (none))) else (if a0_0 = 18 then (spec_l03Show.j0 k l1 (⟨#[105, 102]⟩ : ByteArray) a0_0 a0_1 a0_2 a0_3 a0_4 a0_5) else (if a0_0 = 19 then ((spec_l03Dec.f k a0_2).bind fun t164 => (if 5 + t164.size ≤ 9223372036854775807 then (if ((⟨#[97, 108, 108, 32, 118]⟩ : ByteArray) ++ t164).size + 1 ≤ 9223372036854775807 then ((spec_l03Dec.f k a0_4).bind fun t165 => (if (((⟨#[97, 108, 108, 32, 118]⟩ : ByteArray) ++ t164) ++ (⟨#[58]⟩ : ByteArray)).size + t165.size ≤ 9223372036854775807 then (spec_l03Show.j0 k l1 ((((⟨#[97, 108, 108, 32, 118]⟩ : ByteArray) ++ t164) ++ (⟨#[58]⟩ : ByteArray)) ++ t165) a0_0 a0_1 a0_2 a0_3 a0_4 a0_5) else (none))) else (none)) else (none))) else (if a0_0 = 20 then ((spec_l03Dec.f k a0_2).bind fun t166 => (if 6 + t166.size ≤ 9223372036854775807 then (if ((⟨#[115, 111, 109, 101, 32, 118]⟩ : ByteArray) ++ t166).size + 1 ≤ 9223372036854775807 then ((spec_l03Dec.f k a0_4).bind fun t167 => (if (((⟨#[115, 111, 109, 101, 32, 118]⟩ : ByteArray) ++ t166) ++ (⟨#[58]⟩ : ByteArray)).size + t167.size ≤ 9223372036854775807 then (spec_l03Show.j0 k l1 ((((⟨#[115, 111, 109, 101, 32, 118]⟩ : ByteArray) ++ t166) ++ (⟨#[58]⟩ : ByteArray)) ++ t167) a0_0 a0_1 a0_2 a0_3 a0_4 a0_5) else (none))) else (none)) else (none))) else ((spec_l03Words.f).bind fun t168 => (if 0 ≤ (wrap64 (a0_0 - 3)) then (if (wrap64 (a0_0 - 3)) < (t168.length : Int) then (spec_l03Show.j0 k l1 (rdOf ByteArray.empty t168 (wrap64 (a0_0 - 3))) a0_0 a0_1 a0_2 a0_3 a0_4 a0_5) else (none)) else (none)))))))))
theorem spec_l03Show.mono_l : ∀ k, (∀ y0 y1 y2 y3 y4 y5 y6 y7, LeO (spec_l03Show.j0 k y0 y1 y2 y3 y4 y5 y6 y7) (spec_l03Show.j0 (k + 1) y0 y1 y2 y3 y4 y5 y6 y7)) ∧ (∀ y0 y1 y2 y3, LeO (spec_l03Show.l0 k y0 y1 y2 y3) (spec_l03Show.l0 (k + 1) y0 y1 y2 y3))
 | 0 => ⟨fun _ _ _ _ _ _ _ _ r h => by simp [spec_l03Show.j0] at h, fun _ _ _ _ r h => by simp [spec_l03Show.l0] at h⟩
 | k + 1 => by
  obtain ⟨ih0, ih1⟩ := spec_l03Show.mono_l k
  refine ⟨?_, ?_⟩
  ·intro y0 y1 y2 y3 y4 y5 y6 y7
   unfold spec_l03Show.j0
   repeat' first
   | (with_reducible exact ih0 _ _ _ _ _ _ _ _)
   | (with_reducible exact ih1 _ _ _ _)
   | (with_reducible exact spec_Parts.mono _ _ _ _ _ _ _)
   | (with_reducible exact spec_l03Dec.mono _ _)
   | (with_reducible exact LeO.refl _)
   | (with_reducible exact LeO.none _)
   | (with_reducible refine LeO.ite ?_ ?_)
   | (with_reducible refine LeO.bind ?_ (fun _ => ?_))
   | exact ih0 _ _ _ _ _ _ _ _
   | exact ih1 _ _ _ _
   | exact spec_Parts.mono _ _ _ _ _ _ _
   | exact spec_l03Dec.mono _ _
   | exact LeO.none _
   | refine LeO.ite ?_ ?_
   | refine LeO.bind ?_ (fun _ => ?_)
  ·intro y0 y1 y2 y3
   unfold spec_l03Show.l0
   repeat' first
   | (with_reducible exact ih0 _ _ _ _ _ _ _ _)
   | (with_reducible exact ih1 _ _ _ _)
   | (with_reducible exact spec_Parts.mono _ _ _ _ _ _ _)
   | (with_reducible exact spec_l03Dec.mono _ _)
   | (with_reducible exact LeO.refl _)
   | (with_reducible exact LeO.none _)
   | (with_reducible refine LeO.ite ?_ ?_)
   | (with_reducible refine LeO.bind ?_ (fun _ => ?_))
   | exact ih0 _ _ _ _ _ _ _ _
   | exact ih1 _ _ _ _
   | exact spec_Parts.mono _ _ _ _ _ _ _
   | exact spec_l03Dec.mono _ _
   | exact LeO.none _
   | refine LeO.ite ?_ ?_
   | refine LeO.bind ?_ (fun _ => ?_)
theorem spec_l03Show.mono : ∀ a0 a1 a2 a3 a4 a5 a6 k, LeO (spec_l03Show.f k a0 a1 a2 a3 a4 a5 a6) (spec_l03Show.f (k + 1) a0 a1 a2 a3 a4 a5 a6) := by
 intro a0 a1 a2 a3 a4 a5 a6 k
 obtain ⟨ih0, ih1⟩ := spec_l03Show.mono_l k
 unfold spec_l03Show.f
 repeat' first
   | (with_reducible exact ih0 _ _ _ _ _ _ _ _)
   | (with_reducible exact ih1 _ _ _ _)
   | (with_reducible exact spec_Parts.mono _ _ _ _ _ _ _)
   | (with_reducible exact spec_l03Dec.mono _ _)
   | (with_reducible exact LeO.refl _)
   | (with_reducible exact LeO.none _)
   | (with_reducible refine LeO.ite ?_ ?_)
   | (with_reducible refine LeO.bind ?_ (fun _ => ?_))
   | exact ih0 _ _ _ _ _ _ _ _
   | exact ih1 _ _ _ _
   | exact spec_Parts.mono _ _ _ _ _ _ _
   | exact spec_l03Dec.mono _ _
   | exact LeO.none _
   | refine LeO.ite ?_ ?_
   | refine LeO.bind ?_ (fun _ => ?_)
def spec_l03Show.T3 : Bool × List (List Nat × List Nat) := (true, [([], []), ([0], [0]), ([1], [1]), ([2], [2]), ([3], [3]), ([], []), ([5], [5]), ([6, 2], [6]), ([4, 7], [4, 7]), ([8, 7, 0, 1, 2, 3, 4, 5, 6, 7, 8], [8])])
def spec_l03Show.B3 : List Nat := [0, 1, 3, 7, 15, 0, 32, 103, 255, 511]
theorem spec_l03Show.tab3 : rtab .any (opsOf Try.f55 3) = spec_l03Show.T3 := by kernel_rfl
theorem spec_l03Show.bits3 : waitsOk spec_l03Show.T3.2 spec_l03Show.B3 = true := by kernel_rfl
def spec_l03Show.T5 : Bool × List (List Nat × List Nat) := (true, [([], []), ([0], [0]), ([1], [1]), ([2], [2]), ([3], [3]), ([], []), ([5], [5]), ([6, 2], [6]), ([4, 7], [4, 7]), ([8, 7, 0, 1, 2, 3, 4, 5, 6, 7, 8], [8])])
def spec_l03Show.B5 : List Nat := [0, 1, 3, 7, 15, 0, 32, 103, 255, 511]
theorem spec_l03Show.tab5 : rtab .any (opsOf Try.f55 5) = spec_l03Show.T5 := by kernel_rfl
theorem spec_l03Show.bits5 : waitsOk spec_l03Show.T5.2 spec_l03Show.B5 = true := by kernel_rfl
def spec_l03Show.T11 : Bool × List (List Nat × List Nat) := (true, [([], []), ([0], [0]), ([1], [1]), ([2], [2]), ([3], [3]), ([], []), ([5], [5]), ([6, 2], [6]), ([4, 7], [4, 7]), ([8, 7, 0, 1, 2, 3, 4, 5, 6, 7, 8], [8])])
def spec_l03Show.B11 : List Nat := [0, 1, 3, 7, 15, 0, 32, 103, 255, 511]
theorem spec_l03Show.tab11 : rtab .any (opsOf Try.f55 11) = spec_l03Show.T11 := by kernel_rfl
theorem spec_l03Show.bits11 : waitsOk spec_l03Show.T11.2 spec_l03Show.B11 = true := by kernel_rfl
def spec_l03Show.T15 : Bool × List (List Nat × List Nat) := (true, [([], []), ([0], [0]), ([1], [1]), ([2], [2]), ([3], [3]), ([], []), ([5], [5]), ([6, 2], [6]), ([4, 7], [4, 7]), ([8, 7, 0, 1, 2, 3, 4, 5, 6, 7, 8], [8])])
def spec_l03Show.B15 : List Nat := [0, 1, 3, 7, 15, 0, 32, 103, 255, 511]
theorem spec_l03Show.tab15 : rtab .any (opsOf Try.f55 15) = spec_l03Show.T15 := by kernel_rfl
theorem spec_l03Show.bits15 : waitsOk spec_l03Show.T15.2 spec_l03Show.B15 = true := by kernel_rfl
def spec_l03Show.T17 : Bool × List (List Nat × List Nat) := (true, [([], []), ([0], [0]), ([1], [1]), ([2], [2]), ([3], [3]), ([], []), ([5], [5]), ([6, 2], [6]), ([4, 7], [4, 7]), ([8, 7, 0, 1, 2, 3, 4, 5, 6, 7, 8], [8])])
def spec_l03Show.B17 : List Nat := [0, 1, 3, 7, 15, 0, 32, 103, 255, 511]
theorem spec_l03Show.tab17 : rtab .any (opsOf Try.f55 17) = spec_l03Show.T17 := by kernel_rfl
theorem spec_l03Show.bits17 : waitsOk spec_l03Show.T17.2 spec_l03Show.B17 = true := by kernel_rfl
set_option maxHeartbeats 8000000 in
set_option maxRecDepth 100000 in
theorem spec_l03Show.calls (k : Nat) (a0_0 : Int) (a0_1 : Int) (a0_2 : Int) (a0_3 : Int) (a0_4 : Int) (a0_5 : Int) (A1 : Option Addr) (c1 : Nat) (l1 : List ByteArray) (r : ByteArray) (w : World) (hr1 : Kd.C Kd.string w A1 l1.length l1) (hc1 : l1.length ≤ c1) (h : spec_l03Show.f k a0_0 a0_1 a0_2 a0_3 a0_4 a0_5 l1 = some r) :
  Calls Try.prog 55 #[.agg #[.int .i64 a0_0, .int .i64 a0_1, .int .i64 a0_2, .int .i64 a0_3, .int .i64 a0_4, .int .i64 a0_5], .slice A1 l1.length c1] w fun e w' => e = .returned (.string r) ∧ Below w.heap.size w w' := by
 have hu31 := Try.underlying31
 have HR1 := Aside0.mk hr1
 have HC1 := Aside0.mk hc1
 clear hr1 hc1
 have HB := Aside0.mk (Below.refl w.heap.size w)
 have H : (if a0_0 = 0 then ((spec_l03Dec.f k a0_1).bind fun t158 => (if 1 + t158.size ≤ 9223372036854775807 then (if ((⟨#[35]⟩ : ByteArray) ++ t158).size + 1 ≤ 9223372036854775807 then ((spec_l03Dec.f k a0_2).bind fun t159 => (if (((⟨#[35]⟩ : ByteArray) ++ t158) ++ (⟨#[58]⟩ : ByteArray)).size + t159.size ≤ 9223372036854775807 then (some ((((⟨#[35]⟩ : ByteArray) ++ t158) ++ (⟨#[58]⟩ : ByteArray)) ++ t159)) else (none))) else (none)) else (none))) else (if a0_0 = 1 then ((spec_l03Dec.f k a0_2).bind fun t160 => (if 1 + t160.size ≤ 9223372036854775807 then (if ((⟨#[118]⟩ : ByteArray) ++ t160).size + 1 ≤ 9223372036854775807 then ((spec_l03Dec.f k a0_1).bind fun t161 => (if (((⟨#[118]⟩ : ByteArray) ++ t160) ++ (⟨#[58]⟩ : ByteArray)).size + t161.size ≤ 9223372036854775807 then (some ((((⟨#[118]⟩ : ByteArray) ++ t160) ++ (⟨#[58]⟩ : ByteArray)) ++ t161)) else (none))) else (none)) else (none))) else (if a0_0 = 2 then (spec_l03Show.j0 k l1 (⟨#[110, 111, 116]⟩ : ByteArray) a0_0 a0_1 a0_2 a0_3 a0_4 a0_5) else (if a0_0 = 17 then ((spec_l03Dec.f k a0_2).bind fun t162 => (if 6 + t162.size ≤ 9223372036854775807 then (if ((⟨#[115, 108, 105, 99, 101, 32]⟩ : ByteArray) ++ t162).size + 1 ≤ 9223372036854775807 then ((spec_l03Dec.f k a0_1).bind fun t163 => (if (((⟨#[115, 108, 105, 99, 101, 32]⟩ : ByteArray) ++ t162) ++ (⟨#[32]⟩ : ByteArray)).size + t163.size ≤ 9223372036854775807 then (spec_l03Show.j0 k l1 ((((⟨#[115, 108, 105, 99, 101, 32]⟩ : ByteArray) ++ t162) ++ (⟨#[32]⟩ : ByteArray)) ++ t163) a0_0 a0_1 a0_2 a0_3 a0_4 a0_5) else (none))) else (none)) else (none))) else (if a0_0 = 18 then (spec_l03Show.j0 k l1 (⟨#[105, 102]⟩ : ByteArray) a0_0 a0_1 a0_2 a0_3 a0_4 a0_5) else (if a0_0 = 19 then ((spec_l03Dec.f k a0_2).bind fun t164 => (if 5 + t164.size ≤ 9223372036854775807 then (if ((⟨#[97, 108, 108, 32, 118]⟩ : ByteArray) ++ t164).size + 1 ≤ 9223372036854775807 then ((spec_l03Dec.f k a0_4).bind fun t165 => (if (((⟨#[97, 108, 108, 32, 118]⟩ : ByteArray) ++ t164) ++ (⟨#[58]⟩ : ByteArray)).size + t165.size ≤ 9223372036854775807 then (spec_l03Show.j0 k l1 ((((⟨#[97, 108, 108, 32, 118]⟩ : ByteArray) ++ t164) ++ (⟨#[58]⟩ : ByteArray)) ++ t165) a0_0 a0_1 a0_2 a0_3 a0_4 a0_5) else (none))) else (none)) else (none))) else (if a0_0 = 20 then ((spec_l03Dec.f k a0_2).bind fun t166 => (if 6 + t166.size ≤ 9223372036854775807 then (if ((⟨#[115, 111, 109, 101, 32, 118]⟩ : ByteArray) ++ t166).size + 1 ≤ 9223372036854775807 then ((spec_l03Dec.f k a0_4).bind fun t167 => (if (((⟨#[115, 111, 109, 101, 32, 118]⟩ : ByteArray) ++ t166) ++ (⟨#[58]⟩ : ByteArray)).size + t167.size ≤ 9223372036854775807 then (spec_l03Show.j0 k l1 ((((⟨#[115, 111, 109, 101, 32, 118]⟩ : ByteArray) ++ t166) ++ (⟨#[58]⟩ : ByteArray)) ++ t167) a0_0 a0_1 a0_2 a0_3 a0_4 a0_5) else (none))) else (none)) else (none))) else ((spec_l03Words.f).bind fun t168 => (if 0 ≤ (wrap64 (a0_0 - 3)) then (if (wrap64 (a0_0 - 3)) < (t168.length : Int) then (spec_l03Show.j0 k l1 (rdOf ByteArray.empty t168 (wrap64 (a0_0 - 3))) a0_0 a0_1 a0_2 a0_3 a0_4 a0_5) else (none)) else (none)))))))))) = some r := h
 clear h
 by_cases c3 : a0_0 = 0
 ·rw [if_pos c3] at H
  have c3b0 : (a0_0 == 0) = true := beq_iff_eq.mpr c3
  have c3b1 : (a0_0 != 0) = false := bne_eq_false_iff_eq.mpr c3
  clear c3
  replace H := Option.bind_eq_some_iff.mp H
  obtain ⟨t158, A40, H⟩ := H
  replace H : (if 1 + t158.size ≤ 9223372036854775807 then (if ((⟨#[35]⟩ : ByteArray) ++ t158).size + 1 ≤ 9223372036854775807 then ((spec_l03Dec.f k a0_2).bind fun t159 => (if (((⟨#[35]⟩ : ByteArray) ++ t158) ++ (⟨#[58]⟩ : ByteArray)).size + t159.size ≤ 9223372036854775807 then (some ((((⟨#[35]⟩ : ByteArray) ++ t158) ++ (⟨#[58]⟩ : ByteArray)) ++ t159)) else (none))) else (none)) else (none)) = some r := H
  have A4 := Aside0.mk A40
  clear A40
  by_cases c5 : 1 + t158.size ≤ 9223372036854775807
  ·rw [if_pos c5] at H
   have c5b0 := eq_true c5
   have c5b1 : decide (1 + t158.size ≤ 9223372036854775807) = true := decide_eq_true c5
   try have c5b2 : (9223372036854775807 < 1 + t158.size) = False := eq_false (Nat.not_lt.2 c5)
   by_cases c6 : ((⟨#[35]⟩ : ByteArray) ++ t158).size + 1 ≤ 9223372036854775807
   ·rw [if_pos c6] at H
    have c6b0 := eq_true c6
    have c6b1 : decide (((⟨#[35]⟩ : ByteArray) ++ t158).size + 1 ≤ 9223372036854775807) = true := decide_eq_true c6
    try have c6b2 : (9223372036854775807 < ((⟨#[35]⟩ : ByteArray) ++ t158).size + 1) = False := eq_false (Nat.not_lt.2 c6)
    have c6s : (9223372036854775807 < 1 + t158.size + 1) = False := eq_false (Nat.not_lt.2 (by have h_ := c6; (repeat rw [ByteArray.size_append] at h_); exact h_))
    replace H := Option.bind_eq_some_iff.mp H
    obtain ⟨t159, A70, H⟩ := H
    replace H : (if (((⟨#[35]⟩ : ByteArray) ++ t158) ++ (⟨#[58]⟩ : ByteArray)).size + t159.size ≤ 9223372036854775807 then (some ((((⟨#[35]⟩ : ByteArray) ++ t158) ++ (⟨#[58]⟩ : ByteArray)) ++ t159)) else (none)) = some r := H
    have A7 := Aside0.mk A70
    clear A70
    by_cases c8 : (((⟨#[35]⟩ : ByteArray) ++ t158) ++ (⟨#[58]⟩ : ByteArray)).size + t159.size ≤ 9223372036854775807
    ·rw [if_pos c8] at H
     have c8b0 := eq_true c8
     have c8b1 : decide ((((⟨#[35]⟩ : ByteArray) ++ t158) ++ (⟨#[58]⟩ : ByteArray)).size + t159.size ≤ 9223372036854775807) = true := decide_eq_true c8
     try have c8b2 : (9223372036854775807 < (((⟨#[35]⟩ : ByteArray) ++ t158) ++ (⟨#[58]⟩ : ByteArray)).size + t159.size) = False := eq_false (Nat.not_lt.2 c8)
     have c8s : (9223372036854775807 < 1 + t158.size + 1 + t159.size) = False := eq_false (Nat.not_lt.2 (by have h_ := c8; (repeat rw [ByteArray.size_append] at h_); exact h_))
     obtain rfl := Option.some.inj H
     go_enter Try.func55, Try.ntmps55
     try go_wp2_with (first | ((with_reducible refine gate_dst (N := 2) rfl ?_); refine box_event ?hg (N := 2) ?hd (cs := #[.int .i64 a0_0, .int .i64 a0_1, .int .i64 a0_2, .int .i64 a0_3, .int .i64 a0_4, .int .i64 a0_5]) (t := 31) ?hr ?_; (case hd => rfl); (case hg => rfl); (case hr => (go_simp; done)); intro gb157 hg w9 hbox hb; have n0_ := Aside0.mk (below_step (by repeat (first | (with_reducible first | exact HB.out | apply below_alloc | apply pw_below_drewN | apply below_drew1))) hb); have n1_ := Aside0.mk (hbox); have n2_ := Aside0.mk ((by rw [hg]; exact (below_size (by repeat (first | (with_reducible first | exact HB.out | apply below_alloc | apply pw_below_drewN | apply below_drew1)))) : w.heap.size ≤ gb157)); have n3_ := Aside0.mk ((by rw [hg]; exact (below_size (by repeat (first | (with_reducible first | exact HB.out | apply below_alloc | apply pw_below_drewN | apply below_drew1)))) : w.heap.size ≤ gb157)); clear HB; have HB := n0_; have BK157 := n1_; have GW157 := n2_; have GE157 := n3_; clear n0_ n1_ n2_ n3_; clear hb hbox hg; obtain ⟨hcz10_0, hcz10_1, hcz10_2, hcz10_3, hcz10_4, hcz10_5⟩ := cz6 BK157.out; obtain ⟨hfz10_0, hfz10_1, hfz10_2, hfz10_3, hfz10_4, hfz10_5⟩ := fz6 BK157.out))
     have n0_ := Aside0.mk (blk_drew BK157.out)
     have n1_ := Aside0.mk (below_drew1 HB.out)
     clear BK157
     clear HB
     have BK157 := n0_
     have HB := n1_
     clear n0_ n1_
     refine start_ (n := 10) (S := fun w' => w'.cell? ⟨gb157, 0, none⟩ = some (.int .i64 a0_0) ∧ w'.cell? ⟨gb157, 1, none⟩ = some (.int .i64 a0_1) ∧ w'.cell? ⟨gb157, 2, none⟩ = some (.int .i64 a0_2) ∧ w'.cell? ⟨gb157, 3, none⟩ = some (.int .i64 a0_3) ∧ w'.cell? ⟨gb157, 4, none⟩ = some (.int .i64 a0_4) ∧ w'.cell? ⟨gb157, 5, none⟩ = some (.int .i64 a0_5)) (ds := []) zA0x7 (by kernel_rfl) rfl rfl ⟨(blk_cell BK157.out 0).trans rfl, (blk_cell BK157.out 1).trans rfl, (blk_cell BK157.out 2).trans rfl, (blk_cell BK157.out 3).trans rfl, (blk_cell BK157.out 4).trans rfl, (blk_cell BK157.out 5).trans rfl⟩ (fun hHeld => ?_); refine with_tabW spec_l03Show.tab3 spec_l03Show.bits3 (fun HT_ HW_ => ?_)
     generalize w9.drew = w11 at BK157 HB hHeld ⊢
     refine pure_ (i := 0) (N := some 12) (v := ?_) (a' := ?_) zA1x7 rfl rfl (any_of HT_.out (by kernel_rfl)) (fun _ _ _ h => h) (Or.inl ⟨by rfl, ?_⟩) ?_ ?_; rotate_left; (intro w'; go_simp; with_reducible rfl); rotate_left; (simp only [Act.put, List.setIfInBounds_toArray, List.set_cons_zero, List.set_cons_succ, i64_w, i32_w]; rfl)
     refine pure_ (i := 5) (N := some 17) (v := ?_) (a' := ?_) zA2x7 rfl rfl (any_of HT_.out (by kernel_rfl)) (fun _ _ _ h => h) (Or.inl ⟨by rfl, ?_⟩) ?_ ?_; rotate_left; (intro w'; go_simp; with_reducible rfl); rotate_left; (simp only [Act.put, List.setIfInBounds_toArray, List.set_cons_zero, List.set_cons_succ, i64_w, i32_w]; rfl)
     refine take_ (i := 1) (N := some 13) (v := ?_) (a' := ?_) zA3x7 rfl rfl (take_ofW HT_.out HW_.out (by kernel_rfl)) (fun _ _ _ h => h) (Or.inl ⟨by rfl, ?_⟩) hHeld ?_ ?_
     rotate_left
     ·rintro w' ⟨s0, s1, s2, s3, s4, s5⟩
      go_simp
      with_reducible rfl
     rotate_left
     ·simp only [Act.put, List.setIfInBounds_toArray, List.set_cons_zero, List.set_cons_succ, i64_w, i32_w]
      rfl
     refine take_ (i := 6) (N := some 18) (v := ?_) (a' := ?_) zA4x7 rfl rfl (take_ofW HT_.out HW_.out (by kernel_rfl)) (fun _ _ _ h => h) (Or.inl ⟨by rfl, ?_⟩) hHeld ?_ ?_
     rotate_left
     ·rintro w' ⟨s0, s1, s2, s3, s4, s5⟩
      go_simp
      with_reducible rfl
     rotate_left
     ·simp only [Act.put, List.setIfInBounds_toArray, List.set_cons_zero, List.set_cons_succ, i64_w, i32_w]
      rfl
     refine one_ (i := 2) (N := some 14) zA5x7 rfl rfl (one_of HT_.out (by kernel_rfl)) (by decide) (fun K hK => ?_)
     refine goes_ Try.func84 (by kernel_rfl) rfl #[.int .i64 a0_1] (by rfl) rfl rfl (by (try simp only [List.map_toArray, List.map_cons, List.map_nil]); rfl) ?_
     with_reducible refine (spec_l03Dec.calls k a0_1 t158 _ A4.out).mono ?_
     rintro e w' ⟨rfl, ⟨nd, rfl⟩⟩
     refine ⟨_, rfl, ?_⟩
     refine hK.out _ _ ⟨(blk_cell BK157.out 0).trans rfl, (blk_cell BK157.out 1).trans rfl, (blk_cell BK157.out 2).trans rfl, (blk_cell BK157.out 3).trans rfl, (blk_cell BK157.out 4).trans rfl, (blk_cell BK157.out 5).trans rfl⟩ (fun hHeld => ?_)
     clear hK K
     refine norm_ (a' := ?_) ?_ ?_
     rotate_left
     ·show Act.put _ (some 14) _ = _
      simp only [Act.put, List.setIfInBounds_toArray, List.set_cons_zero, List.set_cons_succ, i64_w, i32_w]
      rfl
     refine pure_ (i := 3) (N := some 15) (v := ?_) (a' := ?_) zA6x7 rfl rfl (any_of HT_.out (by kernel_rfl)) (fun _ _ _ h => h) (Or.inl ⟨by rfl, ?_⟩) ?_ ?_; rotate_left; (intro w'; go_simp; with_reducible rfl); rotate_left; (simp only [Act.put, List.setIfInBounds_toArray, List.set_cons_zero, List.set_cons_succ, i64_w, i32_w]; rfl)
     refine pure_ (i := 4) (N := some 16) (v := ?_) (a' := ?_) zA7x7 rfl rfl (any_of HT_.out (by kernel_rfl)) (fun _ _ _ h => h) (Or.inl ⟨by rfl, ?_⟩) ?_ ?_; rotate_left; (intro w'; go_simp; with_reducible rfl); rotate_left; (simp only [Act.put, List.setIfInBounds_toArray, List.set_cons_zero, List.set_cons_succ, i64_w, i32_w]; rfl)
     refine one_ (i := 7) (N := some 19) zA8x7 rfl rfl (one_of HT_.out (by kernel_rfl)) (by decide) (fun K hK => ?_)
     refine goes_ Try.func84 (by kernel_rfl) rfl #[.int .i64 a0_2] (by rfl) rfl rfl (by (try simp only [List.map_toArray, List.map_cons, List.map_nil]); rfl) ?_
     with_reducible refine (spec_l03Dec.calls k a0_2 t159 _ A7.out).mono ?_
     rintro e w' ⟨rfl, ⟨nd, rfl⟩⟩
     refine ⟨_, rfl, ?_⟩
     refine hK.out _ _ ⟨(blk_cell BK157.out 0).trans rfl, (blk_cell BK157.out 1).trans rfl, (blk_cell BK157.out 2).trans rfl, (blk_cell BK157.out 3).trans rfl, (blk_cell BK157.out 4).trans rfl, (blk_cell BK157.out 5).trans rfl⟩ (fun hHeld => ?_)
     clear hK K
     refine norm_ (a' := ?_) ?_ ?_
     rotate_left
     ·show Act.put _ (some 19) _ = _
      simp only [Act.put, List.setIfInBounds_toArray, List.set_cons_zero, List.set_cons_succ, i64_w, i32_w]
      rfl
     refine pure_ (i := 8) (N := some 20) (v := ?_) (a' := ?_) zA9x7 rfl rfl (any_of HT_.out (by kernel_rfl)) (fun _ _ _ h => h) (Or.inl ⟨by rfl, ?_⟩) ?_ ?_; rotate_left; (intro w'; go_simp; with_reducible rfl); rotate_left; (simp only [Act.put, List.setIfInBounds_toArray, List.set_cons_zero, List.set_cons_succ, i64_w, i32_w]; rfl)
     refine pure_ (i := 9) (N := some 4) (v := ?_) (a' := ?_) zA10x7 rfl rfl (any_of HT_.out (by kernel_rfl)) (fun _ _ _ h => h) (Or.inl ⟨by rfl, ?_⟩) ?_ ?_; rotate_left; (intro w'; go_simp; with_reducible rfl); rotate_left; (simp only [Act.put, List.setIfInBounds_toArray, List.set_cons_zero, List.set_cons_succ, i64_w, i32_w]; rfl)
     refine done_ (done_of HT_.out (by kernel_rfl)) ?_
     try go_wp2
     go_ret
     exact ⟨by rfl, by repeat (first | (with_reducible first | exact HB.out | apply below_alloc | apply pw_below_drewN | apply below_drew1 | refine below_set ?_ GE157.out) | exact HB.out)⟩
    ·rw [if_neg c8] at H
     exact absurd H (by simp)
   ·rw [if_neg c6] at H
    exact absurd H (by simp)
  ·rw [if_neg c5] at H
   exact absurd H (by simp)
 ·rw [if_neg c3] at H
  have c3b0 : (a0_0 == 0) = false := beq_eq_false_iff_ne.mpr c3
  have c3b1 : (a0_0 != 0) = true := bne_iff_ne.mpr c3
  by_cases c12 : a0_0 = 1
  ·rw [if_pos c12] at H
   have c12b0 : (a0_0 == 1) = true := beq_iff_eq.mpr c12
   have c12b1 : (a0_0 != 1) = false := bne_eq_false_iff_eq.mpr c12
   clear c12
   replace H := Option.bind_eq_some_iff.mp H
   obtain ⟨t160, A130, H⟩ := H
   replace H : (if 1 + t160.size ≤ 9223372036854775807 then (if ((⟨#[118]⟩ : ByteArray) ++ t160).size + 1 ≤ 9223372036854775807 then ((spec_l03Dec.f k a0_1).bind fun t161 => (if (((⟨#[118]⟩ : ByteArray) ++ t160) ++ (⟨#[58]⟩ : ByteArray)).size + t161.size ≤ 9223372036854775807 then (some ((((⟨#[118]⟩ : ByteArray) ++ t160) ++ (⟨#[58]⟩ : ByteArray)) ++ t161)) else (none))) else (none)) else (none)) = some r := H
   have A13 := Aside0.mk A130
   clear A130
   by_cases c14 : 1 + t160.size ≤ 9223372036854775807
   ·rw [if_pos c14] at H
    have c14b0 := eq_true c14
    have c14b1 : decide (1 + t160.size ≤ 9223372036854775807) = true := decide_eq_true c14
    try have c14b2 : (9223372036854775807 < 1 + t160.size) = False := eq_false (Nat.not_lt.2 c14)
    by_cases c15 : ((⟨#[118]⟩ : ByteArray) ++ t160).size + 1 ≤ 9223372036854775807
    ·rw [if_pos c15] at H
     have c15b0 := eq_true c15
     have c15b1 : decide (((⟨#[118]⟩ : ByteArray) ++ t160).size + 1 ≤ 9223372036854775807) = true := decide_eq_true c15
     try have c15b2 : (9223372036854775807 < ((⟨#[118]⟩ : ByteArray) ++ t160).size + 1) = False := eq_false (Nat.not_lt.2 c15)
     have c15s : (9223372036854775807 < 1 + t160.size + 1) = False := eq_false (Nat.not_lt.2 (by have h_ := c15; (repeat rw [ByteArray.size_append] at h_); exact h_))
     replace H := Option.bind_eq_some_iff.mp H
     obtain ⟨t161, A160, H⟩ := H
     replace H : (if (((⟨#[118]⟩ : ByteArray) ++ t160) ++ (⟨#[58]⟩ : ByteArray)).size + t161.size ≤ 9223372036854775807 then (some ((((⟨#[118]⟩ : ByteArray) ++ t160) ++ (⟨#[58]⟩ : ByteArray)) ++ t161)) else (none)) = some r := H
     have A16 := Aside0.mk A160
     clear A160
     by_cases c17 : (((⟨#[118]⟩ : ByteArray) ++ t160) ++ (⟨#[58]⟩ : ByteArray)).size + t161.size ≤ 9223372036854775807
     ·rw [if_pos c17] at H
      have c17b0 := eq_true c17
      have c17b1 : decide ((((⟨#[118]⟩ : ByteArray) ++ t160) ++ (⟨#[58]⟩ : ByteArray)).size + t161.size ≤ 9223372036854775807) = true := decide_eq_true c17
      try have c17b2 : (9223372036854775807 < (((⟨#[118]⟩ : ByteArray) ++ t160) ++ (⟨#[58]⟩ : ByteArray)).size + t161.size) = False := eq_false (Nat.not_lt.2 c17)
      have c17s : (9223372036854775807 < 1 + t160.size + 1 + t161.size) = False := eq_false (Nat.not_lt.2 (by have h_ := c17; (repeat rw [ByteArray.size_append] at h_); exact h_))
      obtain rfl := Option.some.inj H
      go_enter Try.func55, Try.ntmps55
      try go_wp2_with (first | ((with_reducible refine gate_dst (N := 2) rfl ?_); refine box_event ?hg (N := 2) ?hd (cs := #[.int .i64 a0_0, .int .i64 a0_1, .int .i64 a0_2, .int .i64 a0_3, .int .i64 a0_4, .int .i64 a0_5]) (t := 31) ?hr ?_; (case hd => rfl); (case hg => rfl); (case hr => (go_simp; done)); intro gb157 hg w18 hbox hb; have n0_ := Aside0.mk (below_step (by repeat (first | (with_reducible first | exact HB.out | apply below_alloc | apply pw_below_drewN | apply below_drew1))) hb); have n1_ := Aside0.mk (hbox); have n2_ := Aside0.mk ((by rw [hg]; exact (below_size (by repeat (first | (with_reducible first | exact HB.out | apply below_alloc | apply pw_below_drewN | apply below_drew1)))) : w.heap.size ≤ gb157)); have n3_ := Aside0.mk ((by rw [hg]; exact (below_size (by repeat (first | (with_reducible first | exact HB.out | apply below_alloc | apply pw_below_drewN | apply below_drew1)))) : w.heap.size ≤ gb157)); clear HB; have HB := n0_; have BK157 := n1_; have GW157 := n2_; have GE157 := n3_; clear n0_ n1_ n2_ n3_; clear hb hbox hg; obtain ⟨hcz19_0, hcz19_1, hcz19_2, hcz19_3, hcz19_4, hcz19_5⟩ := cz6 BK157.out; obtain ⟨hfz19_0, hfz19_1, hfz19_2, hfz19_3, hfz19_4, hfz19_5⟩ := fz6 BK157.out))
      have n0_ := Aside0.mk (blk_drew BK157.out)
      have n1_ := Aside0.mk (below_drew1 HB.out)
      clear BK157
      clear HB
      have BK157 := n0_
      have HB := n1_
      clear n0_ n1_
      refine start_ (n := 10) (S := fun w' => w'.cell? ⟨gb157, 0, none⟩ = some (.int .i64 a0_0) ∧ w'.cell? ⟨gb157, 1, none⟩ = some (.int .i64 a0_1) ∧ w'.cell? ⟨gb157, 2, none⟩ = some (.int .i64 a0_2) ∧ w'.cell? ⟨gb157, 3, none⟩ = some (.int .i64 a0_3) ∧ w'.cell? ⟨gb157, 4, none⟩ = some (.int .i64 a0_4) ∧ w'.cell? ⟨gb157, 5, none⟩ = some (.int .i64 a0_5)) (ds := []) zA0x7 (by kernel_rfl) rfl rfl ⟨(blk_cell BK157.out 0).trans rfl, (blk_cell BK157.out 1).trans rfl, (blk_cell BK157.out 2).trans rfl, (blk_cell BK157.out 3).trans rfl, (blk_cell BK157.out 4).trans rfl, (blk_cell BK157.out 5).trans rfl⟩ (fun hHeld => ?_); refine with_tabW spec_l03Show.tab5 spec_l03Show.bits5 (fun HT_ HW_ => ?_)
      generalize w18.drew = w20 at BK157 HB hHeld ⊢
      refine pure_ (i := 0) (N := some 23) (v := ?_) (a' := ?_) zA1x7 rfl rfl (any_of HT_.out (by kernel_rfl)) (fun _ _ _ h => h) (Or.inl ⟨by rfl, ?_⟩) ?_ ?_; rotate_left; (intro w'; go_simp; with_reducible rfl); rotate_left; (simp only [Act.put, List.setIfInBounds_toArray, List.set_cons_zero, List.set_cons_succ, i64_w, i32_w]; rfl)
      refine pure_ (i := 5) (N := some 28) (v := ?_) (a' := ?_) zA2x7 rfl rfl (any_of HT_.out (by kernel_rfl)) (fun _ _ _ h => h) (Or.inl ⟨by rfl, ?_⟩) ?_ ?_; rotate_left; (intro w'; go_simp; with_reducible rfl); rotate_left; (simp only [Act.put, List.setIfInBounds_toArray, List.set_cons_zero, List.set_cons_succ, i64_w, i32_w]; rfl)
      refine take_ (i := 1) (N := some 24) (v := ?_) (a' := ?_) zA3x7 rfl rfl (take_ofW HT_.out HW_.out (by kernel_rfl)) (fun _ _ _ h => h) (Or.inl ⟨by rfl, ?_⟩) hHeld ?_ ?_
      rotate_left
      ·rintro w' ⟨s0, s1, s2, s3, s4, s5⟩
       go_simp
       with_reducible rfl
      rotate_left
      ·simp only [Act.put, List.setIfInBounds_toArray, List.set_cons_zero, List.set_cons_succ, i64_w, i32_w]
       rfl
      refine take_ (i := 6) (N := some 29) (v := ?_) (a' := ?_) zA4x7 rfl rfl (take_ofW HT_.out HW_.out (by kernel_rfl)) (fun _ _ _ h => h) (Or.inl ⟨by rfl, ?_⟩) hHeld ?_ ?_
      rotate_left
      ·rintro w' ⟨s0, s1, s2, s3, s4, s5⟩
       go_simp
       with_reducible rfl
      rotate_left
      ·simp only [Act.put, List.setIfInBounds_toArray, List.set_cons_zero, List.set_cons_succ, i64_w, i32_w]
       rfl
      refine one_ (i := 2) (N := some 25) zA5x7 rfl rfl (one_of HT_.out (by kernel_rfl)) (by decide) (fun K hK => ?_)
      refine goes_ Try.func84 (by kernel_rfl) rfl #[.int .i64 a0_2] (by rfl) rfl rfl (by (try simp only [List.map_toArray, List.map_cons, List.map_nil]); rfl) ?_
      with_reducible refine (spec_l03Dec.calls k a0_2 t160 _ A13.out).mono ?_
      rintro e w' ⟨rfl, ⟨nd, rfl⟩⟩
      refine ⟨_, rfl, ?_⟩
      refine hK.out _ _ ⟨(blk_cell BK157.out 0).trans rfl, (blk_cell BK157.out 1).trans rfl, (blk_cell BK157.out 2).trans rfl, (blk_cell BK157.out 3).trans rfl, (blk_cell BK157.out 4).trans rfl, (blk_cell BK157.out 5).trans rfl⟩ (fun hHeld => ?_)
      clear hK K
      refine norm_ (a' := ?_) ?_ ?_
      rotate_left
      ·show Act.put _ (some 25) _ = _
       simp only [Act.put, List.setIfInBounds_toArray, List.set_cons_zero, List.set_cons_succ, i64_w, i32_w]
       rfl
      refine pure_ (i := 3) (N := some 26) (v := ?_) (a' := ?_) zA6x7 rfl rfl (any_of HT_.out (by kernel_rfl)) (fun _ _ _ h => h) (Or.inl ⟨by rfl, ?_⟩) ?_ ?_; rotate_left; (intro w'; go_simp; with_reducible rfl); rotate_left; (simp only [Act.put, List.setIfInBounds_toArray, List.set_cons_zero, List.set_cons_succ, i64_w, i32_w]; rfl)
      refine pure_ (i := 4) (N := some 27) (v := ?_) (a' := ?_) zA7x7 rfl rfl (any_of HT_.out (by kernel_rfl)) (fun _ _ _ h => h) (Or.inl ⟨by rfl, ?_⟩) ?_ ?_; rotate_left; (intro w'; go_simp; with_reducible rfl); rotate_left; (simp only [Act.put, List.setIfInBounds_toArray, List.set_cons_zero, List.set_cons_succ, i64_w, i32_w]; rfl)
      refine one_ (i := 7) (N := some 30) zA8x7 rfl rfl (one_of HT_.out (by kernel_rfl)) (by decide) (fun K hK => ?_)
      refine goes_ Try.func84 (by kernel_rfl) rfl #[.int .i64 a0_1] (by rfl) rfl rfl (by (try simp only [List.map_toArray, List.map_cons, List.map_nil]); rfl) ?_
      with_reducible refine (spec_l03Dec.calls k a0_1 t161 _ A16.out).mono ?_
      rintro e w' ⟨rfl, ⟨nd, rfl⟩⟩
      refine ⟨_, rfl, ?_⟩
      refine hK.out _ _ ⟨(blk_cell BK157.out 0).trans rfl, (blk_cell BK157.out 1).trans rfl, (blk_cell BK157.out 2).trans rfl, (blk_cell BK157.out 3).trans rfl, (blk_cell BK157.out 4).trans rfl, (blk_cell BK157.out 5).trans rfl⟩ (fun hHeld => ?_)
      clear hK K
      refine norm_ (a' := ?_) ?_ ?_
      rotate_left
      ·show Act.put _ (some 30) _ = _
       simp only [Act.put, List.setIfInBounds_toArray, List.set_cons_zero, List.set_cons_succ, i64_w, i32_w]
       rfl
      refine pure_ (i := 8) (N := some 31) (v := ?_) (a' := ?_) zA9x7 rfl rfl (any_of HT_.out (by kernel_rfl)) (fun _ _ _ h => h) (Or.inl ⟨by rfl, ?_⟩) ?_ ?_; rotate_left; (intro w'; go_simp; with_reducible rfl); rotate_left; (simp only [Act.put, List.setIfInBounds_toArray, List.set_cons_zero, List.set_cons_succ, i64_w, i32_w]; rfl)
      refine pure_ (i := 9) (N := some 4) (v := ?_) (a' := ?_) zA10x7 rfl rfl (any_of HT_.out (by kernel_rfl)) (fun _ _ _ h => h) (Or.inl ⟨by rfl, ?_⟩) ?_ ?_; rotate_left; (intro w'; go_simp; with_reducible rfl); rotate_left; (simp only [Act.put, List.setIfInBounds_toArray, List.set_cons_zero, List.set_cons_succ, i64_w, i32_w]; rfl)
      refine done_ (done_of HT_.out (by kernel_rfl)) ?_
      try go_wp2
      go_ret
      exact ⟨by rfl, by repeat (first | (with_reducible first | exact HB.out | apply below_alloc | apply pw_below_drewN | apply below_drew1 | refine below_set ?_ GE157.out) | exact HB.out)⟩
     ·rw [if_neg c17] at H
      exact absurd H (by simp)
    ·rw [if_neg c15] at H
     exact absurd H (by simp)
   ·rw [if_neg c14] at H
    exact absurd H (by simp)
  ·rw [if_neg c12] at H
   have c12b0 : (a0_0 == 1) = false := beq_eq_false_iff_ne.mpr c12
   have c12b1 : (a0_0 != 1) = true := bne_iff_ne.mpr c12
   have HC21 := Aside0.mk H
   clear H
   go_enter Try.func55, Try.ntmps55
   go_upto_block 1 with (first | ((with_reducible refine gate_dst (N := 2) rfl ?_); refine box_event ?hg (N := 2) ?hd (cs := #[.int .i64 a0_0, .int .i64 a0_1, .int .i64 a0_2, .int .i64 a0_3, .int .i64 a0_4, .int .i64 a0_5]) (t := 31) ?hr ?_; (case hd => rfl); (case hg => rfl); (case hr => (go_simp; done)); intro gb157 hg w22 hbox hb; have n0_ := Aside0.mk (below_step (by repeat (first | (with_reducible first | exact HB.out | apply below_alloc | apply pw_below_drewN | apply below_drew1))) hb); have n1_ := Aside0.mk (hbox); have n2_ := Aside0.mk ((by rw [hg]; exact (below_size (by repeat (first | (with_reducible first | exact HB.out | apply below_alloc | apply pw_below_drewN | apply below_drew1)))) : w.heap.size ≤ gb157)); have n3_ := Aside0.mk ((by rw [hg]; exact (below_size (by repeat (first | (with_reducible first | exact HB.out | apply below_alloc | apply pw_below_drewN | apply below_drew1)))) : w.heap.size ≤ gb157)); clear HB; have HB := n0_; have BK157 := n1_; have GW157 := n2_; have GE157 := n3_; clear n0_ n1_ n2_ n3_; clear hb hbox hg; obtain ⟨hcz23_0, hcz23_1, hcz23_2, hcz23_3, hcz23_4, hcz23_5⟩ := cz6 BK157.out; obtain ⟨hfz23_0, hfz23_1, hfz23_2, hfz23_3, hfz23_4, hfz23_5⟩ := fz6 BK157.out))
   (try simp only [Act.put, List.setIfInBounds_toArray, List.set_cons_zero, List.set_cons_succ])
   go_cut [5] (fun v5 wc => ∃ (kq : Nat) (x5_20 : ByteArray), v5 = .string x5_20 ∧ Aside0 (spec_l03Show.j0 kq l1 x5_20 a0_0 a0_1 a0_2 a0_3 a0_4 a0_5 = some r) ∧ Aside0 (kq ≤ k) ∧ Aside0 (wc.heap[gb157]? = some (.cells #[.int .i64 a0_0, .int .i64 a0_1, .int .i64 a0_2, .int .i64 a0_3, .int .i64 a0_4, .int .i64 a0_5] 31 (0, 0))) ∧ Aside0 (Below w.heap.size w wc))
   case first =>
    have H := HC21.out
    clear HC21
    by_cases c24 : a0_0 = 2
    ·rw [if_pos c24] at H
     have c24b0 : (a0_0 == 2) = true := beq_iff_eq.mpr c24
     have c24b1 : (a0_0 != 2) = false := bne_eq_false_iff_eq.mpr c24
     clear c24
     (skip)
     have H' := Aside0.mk H
     clear H
     obtain ⟨hcz25_0, hcz25_1, hcz25_2, hcz25_3, hcz25_4, hcz25_5⟩ := cz6 BK157.out
     obtain ⟨hfz25_0, hfz25_1, hfz25_2, hfz25_3, hfz25_4, hfz25_5⟩ := fz6 BK157.out
     go_wp2
     go_meet
     case rel => exact ⟨_, ((⟨#[110, 111, 116]⟩ : ByteArray)), (by rfl), H', ⟨by omega⟩, ⟨by (with_reducible repeat (first | refine blk_drewN ?_ _ | refine blk_drew ?_ | refine blk_alloc ?_ _)); exact BK157.out⟩, ⟨by repeat (first | (with_reducible first | exact HB.out | apply below_alloc | apply pw_below_drewN | apply below_drew1 | refine below_set ?_ GE157.out) | exact HB.out)⟩⟩
    ·rw [if_neg c24] at H
     have c24b0 : (a0_0 == 2) = false := beq_eq_false_iff_ne.mpr c24
     have c24b1 : (a0_0 != 2) = true := bne_iff_ne.mpr c24
     (skip)
     by_cases c26 : a0_0 = 17
     ·rw [if_pos c26] at H
      have c26b0 : (a0_0 == 17) = true := beq_iff_eq.mpr c26
      have c26b1 : (a0_0 != 17) = false := bne_eq_false_iff_eq.mpr c26
      clear c26
      replace H := Option.bind_eq_some_iff.mp H
      obtain ⟨t162, A270, H⟩ := H
      replace H : (if 6 + t162.size ≤ 9223372036854775807 then (if ((⟨#[115, 108, 105, 99, 101, 32]⟩ : ByteArray) ++ t162).size + 1 ≤ 9223372036854775807 then ((spec_l03Dec.f k a0_1).bind fun t163 => (if (((⟨#[115, 108, 105, 99, 101, 32]⟩ : ByteArray) ++ t162) ++ (⟨#[32]⟩ : ByteArray)).size + t163.size ≤ 9223372036854775807 then (spec_l03Show.j0 k l1 ((((⟨#[115, 108, 105, 99, 101, 32]⟩ : ByteArray) ++ t162) ++ (⟨#[32]⟩ : ByteArray)) ++ t163) a0_0 a0_1 a0_2 a0_3 a0_4 a0_5) else (none))) else (none)) else (none)) = some r := H
      have A27 := Aside0.mk A270
      clear A270
      by_cases c28 : 6 + t162.size ≤ 9223372036854775807
      ·rw [if_pos c28] at H
       have c28b0 := eq_true c28
       have c28b1 : decide (6 + t162.size ≤ 9223372036854775807) = true := decide_eq_true c28
       try have c28b2 : (9223372036854775807 < 6 + t162.size) = False := eq_false (Nat.not_lt.2 c28)
       by_cases c29 : ((⟨#[115, 108, 105, 99, 101, 32]⟩ : ByteArray) ++ t162).size + 1 ≤ 9223372036854775807
       ·rw [if_pos c29] at H
        have c29b0 := eq_true c29
        have c29b1 : decide (((⟨#[115, 108, 105, 99, 101, 32]⟩ : ByteArray) ++ t162).size + 1 ≤ 9223372036854775807) = true := decide_eq_true c29
        try have c29b2 : (9223372036854775807 < ((⟨#[115, 108, 105, 99, 101, 32]⟩ : ByteArray) ++ t162).size + 1) = False := eq_false (Nat.not_lt.2 c29)
        have c29s : (9223372036854775807 < 6 + t162.size + 1) = False := eq_false (Nat.not_lt.2 (by have h_ := c29; (repeat rw [ByteArray.size_append] at h_); exact h_))
        replace H := Option.bind_eq_some_iff.mp H
        obtain ⟨t163, A300, H⟩ := H
        replace H : (if (((⟨#[115, 108, 105, 99, 101, 32]⟩ : ByteArray) ++ t162) ++ (⟨#[32]⟩ : ByteArray)).size + t163.size ≤ 9223372036854775807 then (spec_l03Show.j0 k l1 ((((⟨#[115, 108, 105, 99, 101, 32]⟩ : ByteArray) ++ t162) ++ (⟨#[32]⟩ : ByteArray)) ++ t163) a0_0 a0_1 a0_2 a0_3 a0_4 a0_5) else (none)) = some r := H
        have A30 := Aside0.mk A300
        clear A300
        by_cases c31 : (((⟨#[115, 108, 105, 99, 101, 32]⟩ : ByteArray) ++ t162) ++ (⟨#[32]⟩ : ByteArray)).size + t163.size ≤ 9223372036854775807
        ·rw [if_pos c31] at H
         have c31b0 := eq_true c31
         have c31b1 : decide ((((⟨#[115, 108, 105, 99, 101, 32]⟩ : ByteArray) ++ t162) ++ (⟨#[32]⟩ : ByteArray)).size + t163.size ≤ 9223372036854775807) = true := decide_eq_true c31
         try have c31b2 : (9223372036854775807 < (((⟨#[115, 108, 105, 99, 101, 32]⟩ : ByteArray) ++ t162) ++ (⟨#[32]⟩ : ByteArray)).size + t163.size) = False := eq_false (Nat.not_lt.2 c31)
         have c31s : (9223372036854775807 < 6 + t162.size + 1 + t163.size) = False := eq_false (Nat.not_lt.2 (by have h_ := c31; (repeat rw [ByteArray.size_append] at h_); exact h_))
         have H' := Aside0.mk H
         clear H
         obtain ⟨hcz32_0, hcz32_1, hcz32_2, hcz32_3, hcz32_4, hcz32_5⟩ := cz6 BK157.out
         obtain ⟨hfz32_0, hfz32_1, hfz32_2, hfz32_3, hfz32_4, hfz32_5⟩ := fz6 BK157.out
         try go_wp2
         have n0_ := Aside0.mk (blk_drew BK157.out)
         have n1_ := Aside0.mk (below_drew1 HB.out)
         clear BK157
         clear HB
         have BK157 := n0_
         have HB := n1_
         clear n0_ n1_
         refine start_ (n := 10) (S := fun w' => w'.cell? ⟨gb157, 0, none⟩ = some (.int .i64 a0_0) ∧ w'.cell? ⟨gb157, 1, none⟩ = some (.int .i64 a0_1) ∧ w'.cell? ⟨gb157, 2, none⟩ = some (.int .i64 a0_2) ∧ w'.cell? ⟨gb157, 3, none⟩ = some (.int .i64 a0_3) ∧ w'.cell? ⟨gb157, 4, none⟩ = some (.int .i64 a0_4) ∧ w'.cell? ⟨gb157, 5, none⟩ = some (.int .i64 a0_5)) (ds := []) zA0x7 (by kernel_rfl) rfl rfl ⟨(blk_cell BK157.out 0).trans rfl, (blk_cell BK157.out 1).trans rfl, (blk_cell BK157.out 2).trans rfl, (blk_cell BK157.out 3).trans rfl, (blk_cell BK157.out 4).trans rfl, (blk_cell BK157.out 5).trans rfl⟩ (fun hHeld => ?_); refine with_tabW spec_l03Show.tab11 spec_l03Show.bits11 (fun HT_ HW_ => ?_)
         generalize w22.drew = w33 at BK157 HB hHeld ⊢
         refine pure_ (i := 0) (N := some 46) (v := ?_) (a' := ?_) zA1x7 rfl rfl (any_of HT_.out (by kernel_rfl)) (fun _ _ _ h => h) (Or.inl ⟨by rfl, ?_⟩) ?_ ?_; rotate_left; (intro w'; go_simp; with_reducible rfl); rotate_left; (simp only [Act.put, List.setIfInBounds_toArray, List.set_cons_zero, List.set_cons_succ, i64_w, i32_w]; rfl)
         refine pure_ (i := 5) (N := some 51) (v := ?_) (a' := ?_) zA2x7 rfl rfl (any_of HT_.out (by kernel_rfl)) (fun _ _ _ h => h) (Or.inl ⟨by rfl, ?_⟩) ?_ ?_; rotate_left; (intro w'; go_simp; with_reducible rfl); rotate_left; (simp only [Act.put, List.setIfInBounds_toArray, List.set_cons_zero, List.set_cons_succ, i64_w, i32_w]; rfl)
         refine take_ (i := 1) (N := some 47) (v := ?_) (a' := ?_) zA3x7 rfl rfl (take_ofW HT_.out HW_.out (by kernel_rfl)) (fun _ _ _ h => h) (Or.inl ⟨by rfl, ?_⟩) hHeld ?_ ?_
         rotate_left
         ·rintro w' ⟨s0, s1, s2, s3, s4, s5⟩
          go_simp
          with_reducible rfl
         rotate_left
         ·simp only [Act.put, List.setIfInBounds_toArray, List.set_cons_zero, List.set_cons_succ, i64_w, i32_w]
          rfl
         refine take_ (i := 6) (N := some 52) (v := ?_) (a' := ?_) zA4x7 rfl rfl (take_ofW HT_.out HW_.out (by kernel_rfl)) (fun _ _ _ h => h) (Or.inl ⟨by rfl, ?_⟩) hHeld ?_ ?_
         rotate_left
         ·rintro w' ⟨s0, s1, s2, s3, s4, s5⟩
          go_simp
          with_reducible rfl
         rotate_left
         ·simp only [Act.put, List.setIfInBounds_toArray, List.set_cons_zero, List.set_cons_succ, i64_w, i32_w]
          rfl
         refine one_ (i := 2) (N := some 48) zA5x7 rfl rfl (one_of HT_.out (by kernel_rfl)) (by decide) (fun K hK => ?_)
         refine goes_ Try.func84 (by kernel_rfl) rfl #[.int .i64 a0_2] (by rfl) rfl rfl (by (try simp only [List.map_toArray, List.map_cons, List.map_nil]); rfl) ?_
         with_reducible refine (spec_l03Dec.calls k a0_2 t162 _ A27.out).mono ?_
         rintro e w' ⟨rfl, ⟨nd, rfl⟩⟩
         refine ⟨_, rfl, ?_⟩
         refine hK.out _ _ ⟨(blk_cell BK157.out 0).trans rfl, (blk_cell BK157.out 1).trans rfl, (blk_cell BK157.out 2).trans rfl, (blk_cell BK157.out 3).trans rfl, (blk_cell BK157.out 4).trans rfl, (blk_cell BK157.out 5).trans rfl⟩ (fun hHeld => ?_)
         clear hK K
         refine norm_ (a' := ?_) ?_ ?_
         rotate_left
         ·show Act.put _ (some 48) _ = _
          simp only [Act.put, List.setIfInBounds_toArray, List.set_cons_zero, List.set_cons_succ, i64_w, i32_w]
          rfl
         refine pure_ (i := 3) (N := some 49) (v := ?_) (a' := ?_) zA6x7 rfl rfl (any_of HT_.out (by kernel_rfl)) (fun _ _ _ h => h) (Or.inl ⟨by rfl, ?_⟩) ?_ ?_; rotate_left; (intro w'; go_simp; with_reducible rfl); rotate_left; (simp only [Act.put, List.setIfInBounds_toArray, List.set_cons_zero, List.set_cons_succ, i64_w, i32_w]; rfl)
         refine pure_ (i := 4) (N := some 50) (v := ?_) (a' := ?_) zA7x7 rfl rfl (any_of HT_.out (by kernel_rfl)) (fun _ _ _ h => h) (Or.inl ⟨by rfl, ?_⟩) ?_ ?_; rotate_left; (intro w'; go_simp; with_reducible rfl); rotate_left; (simp only [Act.put, List.setIfInBounds_toArray, List.set_cons_zero, List.set_cons_succ, i64_w, i32_w]; rfl)
         refine one_ (i := 7) (N := some 53) zA8x7 rfl rfl (one_of HT_.out (by kernel_rfl)) (by decide) (fun K hK => ?_)
         refine goes_ Try.func84 (by kernel_rfl) rfl #[.int .i64 a0_1] (by rfl) rfl rfl (by (try simp only [List.map_toArray, List.map_cons, List.map_nil]); rfl) ?_
         with_reducible refine (spec_l03Dec.calls k a0_1 t163 _ A30.out).mono ?_
         rintro e w' ⟨rfl, ⟨nd, rfl⟩⟩
         refine ⟨_, rfl, ?_⟩
         refine hK.out _ _ ⟨(blk_cell BK157.out 0).trans rfl, (blk_cell BK157.out 1).trans rfl, (blk_cell BK157.out 2).trans rfl, (blk_cell BK157.out 3).trans rfl, (blk_cell BK157.out 4).trans rfl, (blk_cell BK157.out 5).trans rfl⟩ (fun hHeld => ?_)
         clear hK K
         refine norm_ (a' := ?_) ?_ ?_
         rotate_left
         ·show Act.put _ (some 53) _ = _
          simp only [Act.put, List.setIfInBounds_toArray, List.set_cons_zero, List.set_cons_succ, i64_w, i32_w]
          rfl
         refine pure_ (i := 8) (N := some 54) (v := ?_) (a' := ?_) zA9x7 rfl rfl (any_of HT_.out (by kernel_rfl)) (fun _ _ _ h => h) (Or.inl ⟨by rfl, ?_⟩) ?_ ?_; rotate_left; (intro w'; go_simp; with_reducible rfl); rotate_left; (simp only [Act.put, List.setIfInBounds_toArray, List.set_cons_zero, List.set_cons_succ, i64_w, i32_w]; rfl)
         refine pure_ (i := 9) (N := some 5) (v := ?_) (a' := ?_) zA10x7 rfl rfl (any_of HT_.out (by kernel_rfl)) (fun _ _ _ h => h) (Or.inl ⟨by rfl, ?_⟩) ?_ ?_; rotate_left; (intro w'; go_simp; with_reducible rfl); rotate_left; (simp only [Act.put, List.setIfInBounds_toArray, List.set_cons_zero, List.set_cons_succ, i64_w, i32_w]; rfl)
         refine done_ (done_of HT_.out (by kernel_rfl)) ?_
         try go_wp2
         go_meet
         case rel => exact ⟨_, ((((⟨#[115, 108, 105, 99, 101, 32]⟩ : ByteArray) ++ t162) ++ (⟨#[32]⟩ : ByteArray)) ++ t163), (by rfl), H', ⟨by omega⟩, ⟨by (with_reducible repeat (first | refine blk_drewN ?_ _ | refine blk_drew ?_ | refine blk_alloc ?_ _)); exact BK157.out⟩, ⟨by repeat (first | (with_reducible first | exact HB.out | apply below_alloc | apply pw_below_drewN | apply below_drew1 | refine below_set ?_ GE157.out) | exact HB.out)⟩⟩
        ·rw [if_neg c31] at H
         exact absurd H (by simp)
       ·rw [if_neg c29] at H
        exact absurd H (by simp)
      ·rw [if_neg c28] at H
       exact absurd H (by simp)
     ·rw [if_neg c26] at H
      have c26b0 : (a0_0 == 17) = false := beq_eq_false_iff_ne.mpr c26
      have c26b1 : (a0_0 != 17) = true := bne_iff_ne.mpr c26
      by_cases c34 : a0_0 = 18
      ·rw [if_pos c34] at H
       have c34b0 : (a0_0 == 18) = true := beq_iff_eq.mpr c34
       have c34b1 : (a0_0 != 18) = false := bne_eq_false_iff_eq.mpr c34
       clear c34
       have H' := Aside0.mk H
       clear H
       obtain ⟨hcz35_0, hcz35_1, hcz35_2, hcz35_3, hcz35_4, hcz35_5⟩ := cz6 BK157.out
       obtain ⟨hfz35_0, hfz35_1, hfz35_2, hfz35_3, hfz35_4, hfz35_5⟩ := fz6 BK157.out
       go_wp2
       go_meet
       case rel => exact ⟨_, ((⟨#[105, 102]⟩ : ByteArray)), (by rfl), H', ⟨by omega⟩, ⟨by (with_reducible repeat (first | refine blk_drewN ?_ _ | refine blk_drew ?_ | refine blk_alloc ?_ _)); exact BK157.out⟩, ⟨by repeat (first | (with_reducible first | exact HB.out | apply below_alloc | apply pw_below_drewN | apply below_drew1 | refine below_set ?_ GE157.out) | exact HB.out)⟩⟩
      ·rw [if_neg c34] at H
       have c34b0 : (a0_0 == 18) = false := beq_eq_false_iff_ne.mpr c34
       have c34b1 : (a0_0 != 18) = true := bne_iff_ne.mpr c34
       by_cases c36 : a0_0 = 19
       ·rw [if_pos c36] at H
        have c36b0 : (a0_0 == 19) = true := beq_iff_eq.mpr c36
        have c36b1 : (a0_0 != 19) = false := bne_eq_false_iff_eq.mpr c36
        clear c36
        replace H := Option.bind_eq_some_iff.mp H
        obtain ⟨t164, A370, H⟩ := H
        replace H : (if 5 + t164.size ≤ 9223372036854775807 then (if ((⟨#[97, 108, 108, 32, 118]⟩ : ByteArray) ++ t164).size + 1 ≤ 9223372036854775807 then ((spec_l03Dec.f k a0_4).bind fun t165 => (if (((⟨#[97, 108, 108, 32, 118]⟩ : ByteArray) ++ t164) ++ (⟨#[58]⟩ : ByteArray)).size + t165.size ≤ 9223372036854775807 then (spec_l03Show.j0 k l1 ((((⟨#[97, 108, 108, 32, 118]⟩ : ByteArray) ++ t164) ++ (⟨#[58]⟩ : ByteArray)) ++ t165) a0_0 a0_1 a0_2 a0_3 a0_4 a0_5) else (none))) else (none)) else (none)) = some r := H
        have A37 := Aside0.mk A370
        clear A370
        by_cases c38 : 5 + t164.size ≤ 9223372036854775807
        ·rw [if_pos c38] at H
         have c38b0 := eq_true c38
         have c38b1 : decide (5 + t164.size ≤ 9223372036854775807) = true := decide_eq_true c38
         try have c38b2 : (9223372036854775807 < 5 + t164.size) = False := eq_false (Nat.not_lt.2 c38)
         by_cases c39 : ((⟨#[97, 108, 108, 32, 118]⟩ : ByteArray) ++ t164).size + 1 ≤ 9223372036854775807
         ·rw [if_pos c39] at H
          have c39b0 := eq_true c39
          have c39b1 : decide (((⟨#[97, 108, 108, 32, 118]⟩ : ByteArray) ++ t164).size + 1 ≤ 9223372036854775807) = true := decide_eq_true c39
          try have c39b2 : (9223372036854775807 < ((⟨#[97, 108, 108, 32, 118]⟩ : ByteArray) ++ t164).size + 1) = False := eq_false (Nat.not_lt.2 c39)
          have c39s : (9223372036854775807 < 5 + t164.size + 1) = False := eq_false (Nat.not_lt.2 (by have h_ := c39; (repeat rw [ByteArray.size_append] at h_); exact h_))
          replace H := Option.bind_eq_some_iff.mp H
          obtain ⟨t165, A400, H⟩ := H
          replace H : (if (((⟨#[97, 108, 108, 32, 118]⟩ : ByteArray) ++ t164) ++ (⟨#[58]⟩ : ByteArray)).size + t165.size ≤ 9223372036854775807 then (spec_l03Show.j0 k l1 ((((⟨#[97, 108, 108, 32, 118]⟩ : ByteArray) ++ t164) ++ (⟨#[58]⟩ : ByteArray)) ++ t165) a0_0 a0_1 a0_2 a0_3 a0_4 a0_5) else (none)) = some r := H
          have A40 := Aside0.mk A400
          clear A400
          by_cases c41 : (((⟨#[97, 108, 108, 32, 118]⟩ : ByteArray) ++ t164) ++ (⟨#[58]⟩ : ByteArray)).size + t165.size ≤ 9223372036854775807
          ·rw [if_pos c41] at H
           have c41b0 := eq_true c41
           have c41b1 : decide ((((⟨#[97, 108, 108, 32, 118]⟩ : ByteArray) ++ t164) ++ (⟨#[58]⟩ : ByteArray)).size + t165.size ≤ 9223372036854775807) = true := decide_eq_true c41
           try have c41b2 : (9223372036854775807 < (((⟨#[97, 108, 108, 32, 118]⟩ : ByteArray) ++ t164) ++ (⟨#[58]⟩ : ByteArray)).size + t165.size) = False := eq_false (Nat.not_lt.2 c41)
           have c41s : (9223372036854775807 < 5 + t164.size + 1 + t165.size) = False := eq_false (Nat.not_lt.2 (by have h_ := c41; (repeat rw [ByteArray.size_append] at h_); exact h_))
           have H' := Aside0.mk H
           clear H
           obtain ⟨hcz42_0, hcz42_1, hcz42_2, hcz42_3, hcz42_4, hcz42_5⟩ := cz6 BK157.out
           obtain ⟨hfz42_0, hfz42_1, hfz42_2, hfz42_3, hfz42_4, hfz42_5⟩ := fz6 BK157.out
           try go_wp2
           have n0_ := Aside0.mk (blk_drew BK157.out)
           have n1_ := Aside0.mk (below_drew1 HB.out)
           clear BK157
           clear HB
           have BK157 := n0_
           have HB := n1_
           clear n0_ n1_
           refine start_ (n := 10) (S := fun w' => w'.cell? ⟨gb157, 0, none⟩ = some (.int .i64 a0_0) ∧ w'.cell? ⟨gb157, 1, none⟩ = some (.int .i64 a0_1) ∧ w'.cell? ⟨gb157, 2, none⟩ = some (.int .i64 a0_2) ∧ w'.cell? ⟨gb157, 3, none⟩ = some (.int .i64 a0_3) ∧ w'.cell? ⟨gb157, 4, none⟩ = some (.int .i64 a0_4) ∧ w'.cell? ⟨gb157, 5, none⟩ = some (.int .i64 a0_5)) (ds := []) zA0x7 (by kernel_rfl) rfl rfl ⟨(blk_cell BK157.out 0).trans rfl, (blk_cell BK157.out 1).trans rfl, (blk_cell BK157.out 2).trans rfl, (blk_cell BK157.out 3).trans rfl, (blk_cell BK157.out 4).trans rfl, (blk_cell BK157.out 5).trans rfl⟩ (fun hHeld => ?_); refine with_tabW spec_l03Show.tab15 spec_l03Show.bits15 (fun HT_ HW_ => ?_)
           generalize w22.drew = w43 at BK157 HB hHeld ⊢
           refine pure_ (i := 0) (N := some 63) (v := ?_) (a' := ?_) zA1x7 rfl rfl (any_of HT_.out (by kernel_rfl)) (fun _ _ _ h => h) (Or.inl ⟨by rfl, ?_⟩) ?_ ?_; rotate_left; (intro w'; go_simp; with_reducible rfl); rotate_left; (simp only [Act.put, List.setIfInBounds_toArray, List.set_cons_zero, List.set_cons_succ, i64_w, i32_w]; rfl)
           refine pure_ (i := 5) (N := some 68) (v := ?_) (a' := ?_) zA2x7 rfl rfl (any_of HT_.out (by kernel_rfl)) (fun _ _ _ h => h) (Or.inl ⟨by rfl, ?_⟩) ?_ ?_; rotate_left; (intro w'; go_simp; with_reducible rfl); rotate_left; (simp only [Act.put, List.setIfInBounds_toArray, List.set_cons_zero, List.set_cons_succ, i64_w, i32_w]; rfl)
           refine take_ (i := 1) (N := some 64) (v := ?_) (a' := ?_) zA3x7 rfl rfl (take_ofW HT_.out HW_.out (by kernel_rfl)) (fun _ _ _ h => h) (Or.inl ⟨by rfl, ?_⟩) hHeld ?_ ?_
           rotate_left
           ·rintro w' ⟨s0, s1, s2, s3, s4, s5⟩
            go_simp
            with_reducible rfl
           rotate_left
           ·simp only [Act.put, List.setIfInBounds_toArray, List.set_cons_zero, List.set_cons_succ, i64_w, i32_w]
            rfl
           refine take_ (i := 6) (N := some 69) (v := ?_) (a' := ?_) zA4x7 rfl rfl (take_ofW HT_.out HW_.out (by kernel_rfl)) (fun _ _ _ h => h) (Or.inl ⟨by rfl, ?_⟩) hHeld ?_ ?_
           rotate_left
           ·rintro w' ⟨s0, s1, s2, s3, s4, s5⟩
            go_simp
            with_reducible rfl
           rotate_left
           ·simp only [Act.put, List.setIfInBounds_toArray, List.set_cons_zero, List.set_cons_succ, i64_w, i32_w]
            rfl
           refine one_ (i := 2) (N := some 65) zA5x7 rfl rfl (one_of HT_.out (by kernel_rfl)) (by decide) (fun K hK => ?_)
           refine goes_ Try.func84 (by kernel_rfl) rfl #[.int .i64 a0_2] (by rfl) rfl rfl (by (try simp only [List.map_toArray, List.map_cons, List.map_nil]); rfl) ?_
           with_reducible refine (spec_l03Dec.calls k a0_2 t164 _ A37.out).mono ?_
           rintro e w' ⟨rfl, ⟨nd, rfl⟩⟩
           refine ⟨_, rfl, ?_⟩
           refine hK.out _ _ ⟨(blk_cell BK157.out 0).trans rfl, (blk_cell BK157.out 1).trans rfl, (blk_cell BK157.out 2).trans rfl, (blk_cell BK157.out 3).trans rfl, (blk_cell BK157.out 4).trans rfl, (blk_cell BK157.out 5).trans rfl⟩ (fun hHeld => ?_)
           clear hK K
           refine norm_ (a' := ?_) ?_ ?_
           rotate_left
           ·show Act.put _ (some 65) _ = _
            simp only [Act.put, List.setIfInBounds_toArray, List.set_cons_zero, List.set_cons_succ, i64_w, i32_w]
            rfl
           refine pure_ (i := 3) (N := some 66) (v := ?_) (a' := ?_) zA6x7 rfl rfl (any_of HT_.out (by kernel_rfl)) (fun _ _ _ h => h) (Or.inl ⟨by rfl, ?_⟩) ?_ ?_; rotate_left; (intro w'; go_simp; with_reducible rfl); rotate_left; (simp only [Act.put, List.setIfInBounds_toArray, List.set_cons_zero, List.set_cons_succ, i64_w, i32_w]; rfl)
           refine pure_ (i := 4) (N := some 67) (v := ?_) (a' := ?_) zA7x7 rfl rfl (any_of HT_.out (by kernel_rfl)) (fun _ _ _ h => h) (Or.inl ⟨by rfl, ?_⟩) ?_ ?_; rotate_left; (intro w'; go_simp; with_reducible rfl); rotate_left; (simp only [Act.put, List.setIfInBounds_toArray, List.set_cons_zero, List.set_cons_succ, i64_w, i32_w]; rfl)
           refine one_ (i := 7) (N := some 70) zA8x7 rfl rfl (one_of HT_.out (by kernel_rfl)) (by decide) (fun K hK => ?_)
           refine goes_ Try.func84 (by kernel_rfl) rfl #[.int .i64 a0_4] (by rfl) rfl rfl (by (try simp only [List.map_toArray, List.map_cons, List.map_nil]); rfl) ?_
           with_reducible refine (spec_l03Dec.calls k a0_4 t165 _ A40.out).mono ?_
           rintro e w' ⟨rfl, ⟨nd, rfl⟩⟩
           refine ⟨_, rfl, ?_⟩
           refine hK.out _ _ ⟨(blk_cell BK157.out 0).trans rfl, (blk_cell BK157.out 1).trans rfl, (blk_cell BK157.out 2).trans rfl, (blk_cell BK157.out 3).trans rfl, (blk_cell BK157.out 4).trans rfl, (blk_cell BK157.out 5).trans rfl⟩ (fun hHeld => ?_)
           clear hK K
           refine norm_ (a' := ?_) ?_ ?_
           rotate_left
           ·show Act.put _ (some 70) _ = _
            simp only [Act.put, List.setIfInBounds_toArray, List.set_cons_zero, List.set_cons_succ, i64_w, i32_w]
            rfl
           refine pure_ (i := 8) (N := some 71) (v := ?_) (a' := ?_) zA9x7 rfl rfl (any_of HT_.out (by kernel_rfl)) (fun _ _ _ h => h) (Or.inl ⟨by rfl, ?_⟩) ?_ ?_; rotate_left; (intro w'; go_simp; with_reducible rfl); rotate_left; (simp only [Act.put, List.setIfInBounds_toArray, List.set_cons_zero, List.set_cons_succ, i64_w, i32_w]; rfl)
           refine pure_ (i := 9) (N := some 5) (v := ?_) (a' := ?_) zA10x7 rfl rfl (any_of HT_.out (by kernel_rfl)) (fun _ _ _ h => h) (Or.inl ⟨by rfl, ?_⟩) ?_ ?_; rotate_left; (intro w'; go_simp; with_reducible rfl); rotate_left; (simp only [Act.put, List.setIfInBounds_toArray, List.set_cons_zero, List.set_cons_succ, i64_w, i32_w]; rfl)
           refine done_ (done_of HT_.out (by kernel_rfl)) ?_
           try go_wp2
           go_meet
           case rel => exact ⟨_, ((((⟨#[97, 108, 108, 32, 118]⟩ : ByteArray) ++ t164) ++ (⟨#[58]⟩ : ByteArray)) ++ t165), (by rfl), H', ⟨by omega⟩, ⟨by (with_reducible repeat (first | refine blk_drewN ?_ _ | refine blk_drew ?_ | refine blk_alloc ?_ _)); exact BK157.out⟩, ⟨by repeat (first | (with_reducible first | exact HB.out | apply below_alloc | apply pw_below_drewN | apply below_drew1 | refine below_set ?_ GE157.out) | exact HB.out)⟩⟩
          ·rw [if_neg c41] at H
           exact absurd H (by simp)
         ·rw [if_neg c39] at H
          exact absurd H (by simp)
        ·rw [if_neg c38] at H
         exact absurd H (by simp)
       ·rw [if_neg c36] at H
        have c36b0 : (a0_0 == 19) = false := beq_eq_false_iff_ne.mpr c36
        have c36b1 : (a0_0 != 19) = true := bne_iff_ne.mpr c36
        by_cases c44 : a0_0 = 20
        ·rw [if_pos c44] at H
         have c44b0 : (a0_0 == 20) = true := beq_iff_eq.mpr c44
         have c44b1 : (a0_0 != 20) = false := bne_eq_false_iff_eq.mpr c44
         clear c44
         replace H := Option.bind_eq_some_iff.mp H
         obtain ⟨t166, A450, H⟩ := H
         replace H : (if 6 + t166.size ≤ 9223372036854775807 then (if ((⟨#[115, 111, 109, 101, 32, 118]⟩ : ByteArray) ++ t166).size + 1 ≤ 9223372036854775807 then ((spec_l03Dec.f k a0_4).bind fun t167 => (if (((⟨#[115, 111, 109, 101, 32, 118]⟩ : ByteArray) ++ t166) ++ (⟨#[58]⟩ : ByteArray)).size + t167.size ≤ 9223372036854775807 then (spec_l03Show.j0 k l1 ((((⟨#[115, 111, 109, 101, 32, 118]⟩ : ByteArray) ++ t166) ++ (⟨#[58]⟩ : ByteArray)) ++ t167) a0_0 a0_1 a0_2 a0_3 a0_4 a0_5) else (none))) else (none)) else (none)) = some r := H
         have A45 := Aside0.mk A450
         clear A450
         by_cases c46 : 6 + t166.size ≤ 9223372036854775807
         ·rw [if_pos c46] at H
          have c46b0 := eq_true c46
          have c46b1 : decide (6 + t166.size ≤ 9223372036854775807) = true := decide_eq_true c46
          try have c46b2 : (9223372036854775807 < 6 + t166.size) = False := eq_false (Nat.not_lt.2 c46)
          by_cases c47 : ((⟨#[115, 111, 109, 101, 32, 118]⟩ : ByteArray) ++ t166).size + 1 ≤ 9223372036854775807
          ·rw [if_pos c47] at H
           have c47b0 := eq_true c47
           have c47b1 : decide (((⟨#[115, 111, 109, 101, 32, 118]⟩ : ByteArray) ++ t166).size + 1 ≤ 9223372036854775807) = true := decide_eq_true c47
           try have c47b2 : (9223372036854775807 < ((⟨#[115, 111, 109, 101, 32, 118]⟩ : ByteArray) ++ t166).size + 1) = False := eq_false (Nat.not_lt.2 c47)
           have c47s : (9223372036854775807 < 6 + t166.size + 1) = False := eq_false (Nat.not_lt.2 (by have h_ := c47; (repeat rw [ByteArray.size_append] at h_); exact h_))
           replace H := Option.bind_eq_some_iff.mp H
           obtain ⟨t167, A480, H⟩ := H
           replace H : (if (((⟨#[115, 111, 109, 101, 32, 118]⟩ : ByteArray) ++ t166) ++ (⟨#[58]⟩ : ByteArray)).size + t167.size ≤ 9223372036854775807 then (spec_l03Show.j0 k l1 ((((⟨#[115, 111, 109, 101, 32, 118]⟩ : ByteArray) ++ t166) ++ (⟨#[58]⟩ : ByteArray)) ++ t167) a0_0 a0_1 a0_2 a0_3 a0_4 a0_5) else (none)) = some r := H
           have A48 := Aside0.mk A480
           clear A480
           by_cases c49 : (((⟨#[115, 111, 109, 101, 32, 118]⟩ : ByteArray) ++ t166) ++ (⟨#[58]⟩ : ByteArray)).size + t167.size ≤ 9223372036854775807
           ·rw [if_pos c49] at H
            have c49b0 := eq_true c49
            have c49b1 : decide ((((⟨#[115, 111, 109, 101, 32, 118]⟩ : ByteArray) ++ t166) ++ (⟨#[58]⟩ : ByteArray)).size + t167.size ≤ 9223372036854775807) = true := decide_eq_true c49
            try have c49b2 : (9223372036854775807 < (((⟨#[115, 111, 109, 101, 32, 118]⟩ : ByteArray) ++ t166) ++ (⟨#[58]⟩ : ByteArray)).size + t167.size) = False := eq_false (Nat.not_lt.2 c49)
            have c49s : (9223372036854775807 < 6 + t166.size + 1 + t167.size) = False := eq_false (Nat.not_lt.2 (by have h_ := c49; (repeat rw [ByteArray.size_append] at h_); exact h_))
            have H' := Aside0.mk H
            clear H
            obtain ⟨hcz50_0, hcz50_1, hcz50_2, hcz50_3, hcz50_4, hcz50_5⟩ := cz6 BK157.out
            obtain ⟨hfz50_0, hfz50_1, hfz50_2, hfz50_3, hfz50_4, hfz50_5⟩ := fz6 BK157.out
            try go_wp2
            have n0_ := Aside0.mk (blk_drew BK157.out)
            have n1_ := Aside0.mk (below_drew1 HB.out)
            clear BK157
            clear HB
            have BK157 := n0_
            have HB := n1_
            clear n0_ n1_
            refine start_ (n := 10) (S := fun w' => w'.cell? ⟨gb157, 0, none⟩ = some (.int .i64 a0_0) ∧ w'.cell? ⟨gb157, 1, none⟩ = some (.int .i64 a0_1) ∧ w'.cell? ⟨gb157, 2, none⟩ = some (.int .i64 a0_2) ∧ w'.cell? ⟨gb157, 3, none⟩ = some (.int .i64 a0_3) ∧ w'.cell? ⟨gb157, 4, none⟩ = some (.int .i64 a0_4) ∧ w'.cell? ⟨gb157, 5, none⟩ = some (.int .i64 a0_5)) (ds := []) zA0x7 (by kernel_rfl) rfl rfl ⟨(blk_cell BK157.out 0).trans rfl, (blk_cell BK157.out 1).trans rfl, (blk_cell BK157.out 2).trans rfl, (blk_cell BK157.out 3).trans rfl, (blk_cell BK157.out 4).trans rfl, (blk_cell BK157.out 5).trans rfl⟩ (fun hHeld => ?_); refine with_tabW spec_l03Show.tab17 spec_l03Show.bits17 (fun HT_ HW_ => ?_)
            generalize w22.drew = w51 at BK157 HB hHeld ⊢
            refine pure_ (i := 0) (N := some 76) (v := ?_) (a' := ?_) zA1x7 rfl rfl (any_of HT_.out (by kernel_rfl)) (fun _ _ _ h => h) (Or.inl ⟨by rfl, ?_⟩) ?_ ?_; rotate_left; (intro w'; go_simp; with_reducible rfl); rotate_left; (simp only [Act.put, List.setIfInBounds_toArray, List.set_cons_zero, List.set_cons_succ, i64_w, i32_w]; rfl)
            refine pure_ (i := 5) (N := some 81) (v := ?_) (a' := ?_) zA2x7 rfl rfl (any_of HT_.out (by kernel_rfl)) (fun _ _ _ h => h) (Or.inl ⟨by rfl, ?_⟩) ?_ ?_; rotate_left; (intro w'; go_simp; with_reducible rfl); rotate_left; (simp only [Act.put, List.setIfInBounds_toArray, List.set_cons_zero, List.set_cons_succ, i64_w, i32_w]; rfl)
            refine take_ (i := 1) (N := some 77) (v := ?_) (a' := ?_) zA3x7 rfl rfl (take_ofW HT_.out HW_.out (by kernel_rfl)) (fun _ _ _ h => h) (Or.inl ⟨by rfl, ?_⟩) hHeld ?_ ?_
            rotate_left
            ·rintro w' ⟨s0, s1, s2, s3, s4, s5⟩
             go_simp
             with_reducible rfl
            rotate_left
            ·simp only [Act.put, List.setIfInBounds_toArray, List.set_cons_zero, List.set_cons_succ, i64_w, i32_w]
             rfl
            refine take_ (i := 6) (N := some 82) (v := ?_) (a' := ?_) zA4x7 rfl rfl (take_ofW HT_.out HW_.out (by kernel_rfl)) (fun _ _ _ h => h) (Or.inl ⟨by rfl, ?_⟩) hHeld ?_ ?_
            rotate_left
            ·rintro w' ⟨s0, s1, s2, s3, s4, s5⟩
             go_simp
             with_reducible rfl
            rotate_left
            ·simp only [Act.put, List.setIfInBounds_toArray, List.set_cons_zero, List.set_cons_succ, i64_w, i32_w]
             rfl
            refine one_ (i := 2) (N := some 78) zA5x7 rfl rfl (one_of HT_.out (by kernel_rfl)) (by decide) (fun K hK => ?_)
            refine goes_ Try.func84 (by kernel_rfl) rfl #[.int .i64 a0_2] (by rfl) rfl rfl (by (try simp only [List.map_toArray, List.map_cons, List.map_nil]); rfl) ?_
            with_reducible refine (spec_l03Dec.calls k a0_2 t166 _ A45.out).mono ?_
            rintro e w' ⟨rfl, ⟨nd, rfl⟩⟩
            refine ⟨_, rfl, ?_⟩
            refine hK.out _ _ ⟨(blk_cell BK157.out 0).trans rfl, (blk_cell BK157.out 1).trans rfl, (blk_cell BK157.out 2).trans rfl, (blk_cell BK157.out 3).trans rfl, (blk_cell BK157.out 4).trans rfl, (blk_cell BK157.out 5).trans rfl⟩ (fun hHeld => ?_)
            clear hK K
            refine norm_ (a' := ?_) ?_ ?_
            rotate_left
            ·show Act.put _ (some 78) _ = _
             simp only [Act.put, List.setIfInBounds_toArray, List.set_cons_zero, List.set_cons_succ, i64_w, i32_w]
             rfl
            refine pure_ (i := 3) (N := some 79) (v := ?_) (a' := ?_) zA6x7 rfl rfl (any_of HT_.out (by kernel_rfl)) (fun _ _ _ h => h) (Or.inl ⟨by rfl, ?_⟩) ?_ ?_; rotate_left; (intro w'; go_simp; with_reducible rfl); rotate_left; (simp only [Act.put, List.setIfInBounds_toArray, List.set_cons_zero, List.set_cons_succ, i64_w, i32_w]; rfl)
            refine pure_ (i := 4) (N := some 80) (v := ?_) (a' := ?_) zA7x7 rfl rfl (any_of HT_.out (by kernel_rfl)) (fun _ _ _ h => h) (Or.inl ⟨by rfl, ?_⟩) ?_ ?_; rotate_left; (intro w'; go_simp; with_reducible rfl); rotate_left; (simp only [Act.put, List.setIfInBounds_toArray, List.set_cons_zero, List.set_cons_succ, i64_w, i32_w]; rfl)
            refine one_ (i := 7) (N := some 83) zA8x7 rfl rfl (one_of HT_.out (by kernel_rfl)) (by decide) (fun K hK => ?_)
            refine goes_ Try.func84 (by kernel_rfl) rfl #[.int .i64 a0_4] (by rfl) rfl rfl (by (try simp only [List.map_toArray, List.map_cons, List.map_nil]); rfl) ?_
            with_reducible refine (spec_l03Dec.calls k a0_4 t167 _ A48.out).mono ?_
            rintro e w' ⟨rfl, ⟨nd, rfl⟩⟩
            refine ⟨_, rfl, ?_⟩
            refine hK.out _ _ ⟨(blk_cell BK157.out 0).trans rfl, (blk_cell BK157.out 1).trans rfl, (blk_cell BK157.out 2).trans rfl, (blk_cell BK157.out 3).trans rfl, (blk_cell BK157.out 4).trans rfl, (blk_cell BK157.out 5).trans rfl⟩ (fun hHeld => ?_)
            clear hK K
            refine norm_ (a' := ?_) ?_ ?_
            rotate_left
            ·show Act.put _ (some 83) _ = _
             simp only [Act.put, List.setIfInBounds_toArray, List.set_cons_zero, List.set_cons_succ, i64_w, i32_w]
             rfl
            refine pure_ (i := 8) (N := some 84) (v := ?_) (a' := ?_) zA9x7 rfl rfl (any_of HT_.out (by kernel_rfl)) (fun _ _ _ h => h) (Or.inl ⟨by rfl, ?_⟩) ?_ ?_; rotate_left; (intro w'; go_simp; with_reducible rfl); rotate_left; (simp only [Act.put, List.setIfInBounds_toArray, List.set_cons_zero, List.set_cons_succ, i64_w, i32_w]; rfl)
            refine pure_ (i := 9) (N := some 5) (v := ?_) (a' := ?_) zA10x7 rfl rfl (any_of HT_.out (by kernel_rfl)) (fun _ _ _ h => h) (Or.inl ⟨by rfl, ?_⟩) ?_ ?_; rotate_left; (intro w'; go_simp; with_reducible rfl); rotate_left; (simp only [Act.put, List.setIfInBounds_toArray, List.set_cons_zero, List.set_cons_succ, i64_w, i32_w]; rfl)
            refine done_ (done_of HT_.out (by kernel_rfl)) ?_
            try go_wp2
            go_meet
            case rel => exact ⟨_, ((((⟨#[115, 111, 109, 101, 32, 118]⟩ : ByteArray) ++ t166) ++ (⟨#[58]⟩ : ByteArray)) ++ t167), (by rfl), H', ⟨by omega⟩, ⟨by (with_reducible repeat (first | refine blk_drewN ?_ _ | refine blk_drew ?_ | refine blk_alloc ?_ _)); exact BK157.out⟩, ⟨by repeat (first | (with_reducible first | exact HB.out | apply below_alloc | apply pw_below_drewN | apply below_drew1 | refine below_set ?_ GE157.out) | exact HB.out)⟩⟩
           ·rw [if_neg c49] at H
            exact absurd H (by simp)
          ·rw [if_neg c47] at H
           exact absurd H (by simp)
         ·rw [if_neg c46] at H
          exact absurd H (by simp)
        ·rw [if_neg c44] at H
         have c44b0 : (a0_0 == 20) = false := beq_eq_false_iff_ne.mpr c44
         have c44b1 : (a0_0 != 20) = true := bne_iff_ne.mpr c44
         replace H := Option.bind_eq_some_iff.mp H
         obtain ⟨t168, A520, H⟩ := H
         replace H : (if 0 ≤ (wrap64 (a0_0 - 3)) then (if (wrap64 (a0_0 - 3)) < (t168.length : Int) then (spec_l03Show.j0 k l1 (rdOf ByteArray.empty t168 (wrap64 (a0_0 - 3))) a0_0 a0_1 a0_2 a0_3 a0_4 a0_5) else (none)) else (none)) = some r := H
         have A52 := Aside0.mk A520
         clear A520
         obtain ⟨ji53, hji53⟩ : ∃ j_ : Int, (wrap64 (a0_0 - 3)) = j_ := ⟨_, rfl⟩
         replace H : (if 0 ≤ (ji53) then (if (ji53) < (t168.length : Int) then (spec_l03Show.j0 k l1 (rdOf ByteArray.empty t168 (ji53)) a0_0 a0_1 a0_2 a0_3 a0_4 a0_5) else (none)) else (none)) = some r := by (rw [hji53] at H; exact H)
         (try rw [hji53] at A52)
         have hji53w : (IntKind.i64.wrap (a0_0 - 3)) = ji53 := (i64_w _).trans hji53
         by_cases c54 : 0 ≤ (ji53)
         ·rw [if_pos c54] at H
          have c54b0 : decide (0 ≤ (ji53)) = true := decide_eq_true c54
          clear c54
          by_cases c55 : (ji53) < (t168.length : Int)
          ·rw [if_pos c55] at H
           have c55b0 : decide ((ji53) < (t168.length : Int)) = true := decide_eq_true c55
           clear c55
           have H' := Aside0.mk H
           clear H
           obtain ⟨hcz56_0, hcz56_1, hcz56_2, hcz56_3, hcz56_4, hcz56_5⟩ := cz6 BK157.out
           obtain ⟨hfz56_0, hfz56_1, hfz56_2, hfz56_3, hfz56_4, hfz56_5⟩ := fz6 BK157.out
           try go_wp2
           have n0_ := Aside0.mk (blk_drew BK157.out)
           have n1_ := Aside0.mk (below_drew1 HB.out)
           clear BK157
           clear HB
           have BK157 := n0_
           have HB := n1_
           clear n0_ n1_
           refine start_ (n := 7) (S := fun w' => w'.cell? ⟨gb157, 0, none⟩ = some (.int .i64 a0_0) ∧ w'.cell? ⟨gb157, 1, none⟩ = some (.int .i64 a0_1) ∧ w'.cell? ⟨gb157, 2, none⟩ = some (.int .i64 a0_2) ∧ w'.cell? ⟨gb157, 3, none⟩ = some (.int .i64 a0_3) ∧ w'.cell? ⟨gb157, 4, none⟩ = some (.int .i64 a0_4) ∧ w'.cell? ⟨gb157, 5, none⟩ = some (.int .i64 a0_5)) (ds := []) #[false, false, false, false, false, false, false] (by kernel_rfl) rfl rfl ⟨(blk_cell BK157.out 0).trans rfl, (blk_cell BK157.out 1).trans rfl, (blk_cell BK157.out 2).trans rfl, (blk_cell BK157.out 3).trans rfl, (blk_cell BK157.out 4).trans rfl, (blk_cell BK157.out 5).trans rfl⟩ (fun hHeld => ?_)
           generalize w22.drew = w57 at BK157 HB hHeld ⊢
           refine pure_ (i := 1) (N := some 33) (v := ?_) (a' := ?_) #[false, true, false, false, false, false, false] rfl rfl (by kernel_rfl) (fun _ _ _ h => h) (Or.inl ⟨by rfl, ?_⟩) ?_ ?_; rotate_left; (intro w'; go_simp; with_reducible rfl); rotate_left; (simp only [Act.put, List.setIfInBounds_toArray, List.set_cons_zero, List.set_cons_succ, i64_w, i32_w]; rfl)
           refine take_ (i := 2) (N := some 34) (v := ?_) (a' := ?_) #[false, true, true, false, false, false, false] rfl rfl (by kernel_rfl) (fun _ _ _ h => h) (Or.inl ⟨by rfl, ?_⟩) hHeld ?_ ?_
           rotate_left
           ·rintro w' ⟨s0, s1, s2, s3, s4, s5⟩
            go_simp
            with_reducible rfl
           rotate_left
           ·simp only [Act.put, List.setIfInBounds_toArray, List.set_cons_zero, List.set_cons_succ, i64_w, i32_w]
            rfl
           refine pure_ (i := 3) (N := some 35) (v := ?_) (a' := ?_) #[false, true, true, true, false, false, false] rfl rfl (by kernel_rfl) (fun _ _ _ h => h) (Or.inl ⟨by rfl, ?_⟩) ?_ ?_; rotate_left; (intro w'; go_simp; with_reducible rfl); rotate_left; (simp only [Act.put, List.setIfInBounds_toArray, List.set_cons_zero, List.set_cons_succ, i64_w, i32_w]; rfl)
           refine one_ (i := 0) (N := some 32) #[true, true, true, true, false, false, false] rfl rfl (by kernel_rfl) (by decide) (fun K hK => ?_)
           refine goes_ Try.func85 (by kernel_rfl) rfl #[] (by rfl) rfl rfl (by (try simp only [List.map_toArray, List.map_cons, List.map_nil]); done) ?_
           with_reducible refine (spec_l03Words.calls  t168 _ A52.out).mono ?_
           rintro e w58 ⟨v169, rfl, ho0, hb⟩
           refine ⟨_, rfl, ?_⟩
           have n0_ := Aside0.mk (Kd.R_lower ho0 (below_size (by repeat (first | (with_reducible first | exact HB.out | apply below_alloc | apply pw_below_drewN | apply below_drew1 | refine below_set ?_ GE157.out) | exact HB.out))))
           have n1_ := Aside0.mk (blk_below (g := gb157) (o := .cells #[.int .i64 a0_0, .int .i64 a0_1, .int .i64 a0_2, .int .i64 a0_3, .int .i64 a0_4, .int .i64 a0_5] 31 (0, 0)) (by (with_reducible repeat (first | refine blk_drewN ?_ _ | refine blk_drew ?_ | refine blk_alloc ?_ _)); exact BK157.out) hb)
           have n2_ := Aside0.mk (below_step (by repeat (first | (with_reducible first | exact HB.out | apply below_alloc | apply pw_below_drewN | apply below_drew1 | refine below_set ?_ GE157.out) | exact HB.out)) hb)
           clear BK157
           clear HB
           have HO170 := n0_
           have BK157 := n1_
           have HB := n2_
           clear n0_ n1_ n2_
           clear hb
           clear ho0
           obtain ⟨Ao59, co59, eo59⟩ := Kd.R_slice HO170.out
           (subst eo59)
           have p171 : 0 ≤ ((ji53) : Int) := of_decide_eq_true (by assumption)
           have q171 : (ji53) < (t168.length : Int) := of_decide_eq_true (by assumption)
           obtain ⟨ad171, e171, hx171_0⟩ := Kd.at_string (Kd.R_reads' HO170.out).2.2 (ji53) p171 q171
           cases e171
           replace p171 := eq_true p171
           replace q171 := eq_true q171
           refine hK.out _ _ ⟨(blk_cell BK157.out 0).trans rfl, (blk_cell BK157.out 1).trans rfl, (blk_cell BK157.out 2).trans rfl, (blk_cell BK157.out 3).trans rfl, (blk_cell BK157.out 4).trans rfl, (blk_cell BK157.out 5).trans rfl⟩ (fun hHeld => ?_)
           clear hK K
           refine norm_ (a' := ?_) ?_ ?_
           rotate_left
           ·show Act.put _ (some 32) _ = _
            simp only [Act.put, List.setIfInBounds_toArray, List.set_cons_zero, List.set_cons_succ, i64_w, i32_w]
            rfl
           refine pure_ (i := 4) (N := some 36) (v := ?_) (a' := ?_) #[true, true, true, true, true, false, false] rfl rfl (by kernel_rfl) (fun _ _ _ h => h) (Or.inl ⟨by rfl, ?_⟩) ?_ ?_; rotate_left; (intro w'; go_simp; with_reducible rfl); rotate_left; (simp only [Act.put, List.setIfInBounds_toArray, List.set_cons_zero, List.set_cons_succ, i64_w, i32_w]; rfl)
           refine one_ (i := 5) (N := some 37) #[true, true, true, true, true, true, false] rfl rfl (by kernel_rfl) (by decide) (fun K hK => ?_)
           refine value_ (v := .string (rdOf ByteArray.empty t168 (ji53))) (w1 := w58) (by rfl) rfl (by go_simp) ?_
           refine hK.out _ _ ⟨(blk_cell BK157.out 0).trans rfl, (blk_cell BK157.out 1).trans rfl, (blk_cell BK157.out 2).trans rfl, (blk_cell BK157.out 3).trans rfl, (blk_cell BK157.out 4).trans rfl, (blk_cell BK157.out 5).trans rfl⟩ (fun hHeld => ?_)
           clear hK K
           refine norm_ (a' := ?_) ?_ ?_
           rotate_left
           ·show Act.put _ (some 37) _ = _
            simp only [Act.put, List.setIfInBounds_toArray, List.set_cons_zero, List.set_cons_succ, i64_w, i32_w]
            rfl
           refine pure_ (i := 6) (N := some 5) (v := ?_) (a' := ?_) #[true, true, true, true, true, true, true] rfl rfl (by kernel_rfl) (fun _ _ _ h => h) (Or.inl ⟨by rfl, ?_⟩) ?_ ?_; rotate_left; (intro w'; go_simp; with_reducible rfl); rotate_left; (simp only [Act.put, List.setIfInBounds_toArray, List.set_cons_zero, List.set_cons_succ, i64_w, i32_w]; rfl)
           refine done_ (by kernel_rfl) ?_
           try go_wp2
           go_meet
           case rel => exact ⟨_, (rdOf ByteArray.empty t168 (ji53)), (by rfl), H', ⟨by omega⟩, ⟨by (with_reducible repeat (first | refine blk_drewN ?_ _ | refine blk_drew ?_ | refine blk_alloc ?_ _)); exact BK157.out⟩, ⟨by repeat (first | (with_reducible first | exact HB.out | apply below_alloc | apply pw_below_drewN | apply below_drew1 | refine below_set ?_ GE157.out) | exact HB.out)⟩⟩
          ·rw [if_neg c55] at H
           exact absurd H (by simp)
         ·rw [if_neg c54] at H
          exact absurd H (by simp)
   case rest =>
    clear HC21
    clear c3
    obtain ⟨kq, x5_20, rfl, HA, HJ20, BK157, HB⟩ := hcut
    cases kq with
    | zero => exact absurd HA.out (by simp [spec_l03Show.j0])
    | succ kj20 =>
     have H := HA.out
     clear HA
     simp only [spec_l03Show.j0] at H
     replace H := Option.bind_eq_some_iff.mp H
     obtain ⟨t172, A600, H⟩ := H
     replace H : (spec_l03Show.l0 kj20 l1 x5_20 t172 0) = some r := H
     have A60 := Aside0.mk A600
     clear A600
     have H' := Aside0.mk H
     clear H
     obtain ⟨hcz61_0, hcz61_1, hcz61_2, hcz61_3, hcz61_4, hcz61_5⟩ := cz6 BK157.out
     obtain ⟨hfz61_0, hfz61_1, hfz61_2, hfz61_3, hfz61_4, hfz61_5⟩ := fz6 BK157.out
     go_wp2_with (first | ((with_reducible refine gate_callee (f := 70) rfl ?_); refine goesL_ (some 86) rfl rfl Try.func70 (by kernel_rfl) rfl #[.agg #[.int .i64 a0_0, .int .i64 a0_1, .int .i64 a0_2, .int .i64 a0_3, .int .i64 a0_4, .int .i64 a0_5]] rfl (by (try simp only [List.map_toArray, List.map_cons, List.map_nil]); rfl) ?_; (with_reducible refine (spec_Parts.calls kj20 a0_0 a0_1 a0_2 a0_3 a0_4 a0_5 t172 _ A60.out).mono ?_); rintro e w62 ⟨v173, rfl, ho0, hb⟩; refine ⟨_, rfl, ?_⟩; have n0_ := Aside0.mk (Kd.R_lower ho0 (below_size (by repeat (first | (with_reducible first | exact HB.out | apply below_alloc | apply pw_below_drewN | apply below_drew1 | refine below_set ?_ GE157.out) | exact HB.out)))); have n1_ := Aside0.mk (blk_below (g := gb157) (o := .cells #[.int .i64 a0_0, .int .i64 a0_1, .int .i64 a0_2, .int .i64 a0_3, .int .i64 a0_4, .int .i64 a0_5] 31 (0, 0)) (by (with_reducible repeat (first | refine blk_drewN ?_ _ | refine blk_drew ?_ | refine blk_alloc ?_ _)); exact BK157.out) hb); have n2_ := Aside0.mk (below_step (by repeat (first | (with_reducible first | exact HB.out | apply below_alloc | apply pw_below_drewN | apply below_drew1 | refine below_set ?_ GE157.out) | exact HB.out)) hb); clear BK157; clear HB; have HO174 := n0_; have BK157 := n1_; have HB := n2_; clear n0_ n1_ n2_; (try clear hb); (try clear hb2); (try clear hk); (try clear hi); (try clear ho0)))
     go_loopg [5, 7] kj20 (fun kq v5 v7 w' => ∃ (x5_2 : ByteArray) (x7_2 : Int), v5 = .string x5_2 ∧ v7 = .int .i64 x7_2 ∧ Aside0 (spec_l03Show.l0 kq l1 x5_2 t172 x7_2 = some r) ∧ Aside0 (kq ≤ kj20) ∧ Aside0 (Kd.R (Kd.int .i64) 3 w' w.heap.size (fun _ => True) v173 t172) ∧ Aside0 (w'.heap[gb157]? = some (.cells #[.int .i64 a0_0, .int .i64 a0_1, .int .i64 a0_2, .int .i64 a0_3, .int .i64 a0_4, .int .i64 a0_5] 31 (0, 0))) ∧ Aside0 (Below w.heap.size w w'))
     case atStart => exact ⟨(x5_20), (0), (by rfl), (by rfl), H', ⟨Nat.le_refl _⟩, ⟨by (with_reducible repeat (first | apply Kd.R_alloc | apply Kd.R_drewN | apply Kd.R_drew)); exact HO174.out⟩, ⟨by (with_reducible repeat (first | refine blk_drewN ?_ _ | refine blk_drew ?_ | refine blk_alloc ?_ _)); exact BK157.out⟩, ⟨by repeat (first | (with_reducible first | exact HB.out | apply below_alloc | apply pw_below_drewN | apply below_drew1 | refine below_set ?_ GE157.out) | exact HB.out)⟩⟩
     case round =>
      clear H'
      clear hcz61_0 hcz61_1 hcz61_2 hcz61_3 hcz61_4 hcz61_5 hfz61_0 hfz61_1 hfz61_2 hfz61_3 hfz61_4 hfz61_5
      obtain ⟨x5_2, x7_2, rfl, rfl, HA, HK2, HO_6, BK157, HB⟩ := hrel
      cases gk with
      | zero => exact absurd HA.out (by simp [spec_l03Show.l0])
      | succ k2 =>
       have H := HA.out
       clear HA
       simp only [spec_l03Show.l0] at H
       by_cases c63 : x7_2 < (t172.length : Int)
       ·rw [if_pos c63] at H
        have c63b0 : decide (x7_2 < (t172.length : Int)) = true := decide_eq_true c63
        clear c63
        by_cases c64 : 0 ≤ x7_2
        ·rw [if_pos c64] at H
         have c64b0 : decide (0 ≤ x7_2) = true := decide_eq_true c64
         clear c64
         by_cases c65 : 0 ≤ (rd t172 x7_2)
         ·rw [if_pos c65] at H
          have c65b0 : decide (0 ≤ (rd t172 x7_2)) = true := decide_eq_true c65
          clear c65
          by_cases c66 : (rd t172 x7_2) < (l1.length : Int)
          ·rw [if_pos c66] at H
           have c66b0 : decide ((rd t172 x7_2) < (l1.length : Int)) = true := decide_eq_true c66
           clear c66
           by_cases c67 : (rdOf ByteArray.empty l1 (rd t172 x7_2)).toList = ([] : List UInt8)
           ·rw [if_pos c67] at H
            have c67b0 : ((rdOf ByteArray.empty l1 (rd t172 x7_2)).toList == ([] : List UInt8)) = true := beq_iff_eq.mpr c67
            have c67b1 : ((rdOf ByteArray.empty l1 (rd t172 x7_2)).toList != ([] : List UInt8)) = false := bne_eq_false_iff_eq.mpr c67
            clear c67
            obtain rfl := Option.some.inj H
            obtain ⟨Ao68, co68, eo68⟩ := Kd.R_slice HO_6.out
            subst eo68
            have p175 : 0 ≤ (x7_2 : Int) := of_decide_eq_true (by assumption)
            have q175 : x7_2 < (t172.length : Int) := of_decide_eq_true (by assumption)
            obtain ⟨ad175, e175, hx175_0⟩ := Kd.at_int (Kd.R_reads' HO_6.out).2.2 x7_2 p175 q175
            cases e175
            replace p175 := eq_true p175
            replace q175 := eq_true q175
            have p176 : 0 ≤ ((rd t172 x7_2) : Int) := of_decide_eq_true (by assumption)
            have q176 : (rd t172 x7_2) < (l1.length : Int) := of_decide_eq_true (by assumption)
            obtain ⟨ad176, e176, hx176_0⟩ := Kd.at_string HR1.out (rd t172 x7_2) p176 q176
            cases e176
            replace hx176_0 := pw_cell_below HB.out hx176_0
            replace p176 := eq_true p176
            replace q176 := eq_true q176
            go_wp2
            go_ret
            exact ⟨by rfl, by repeat (first | (with_reducible first | exact HB.out | apply below_alloc | apply pw_below_drewN | apply below_drew1 | refine below_set ?_ GE157.out) | exact HB.out)⟩
           ·rw [if_neg c67] at H
            have c67b0 : ((rdOf ByteArray.empty l1 (rd t172 x7_2)).toList == ([] : List UInt8)) = false := beq_eq_false_iff_ne.mpr c67
            have c67b1 : ((rdOf ByteArray.empty l1 (rd t172 x7_2)).toList != ([] : List UInt8)) = true := bne_iff_ne.mpr c67
            by_cases c69 : x5_2.size + 1 ≤ 9223372036854775807
            ·rw [if_pos c69] at H
             have c69b0 := eq_true c69
             have c69b1 : decide (x5_2.size + 1 ≤ 9223372036854775807) = true := decide_eq_true c69
             try have c69b2 : (9223372036854775807 < x5_2.size + 1) = False := eq_false (Nat.not_lt.2 c69)
             by_cases c70 : (x5_2 ++ (⟨#[32]⟩ : ByteArray)).size + (rdOf ByteArray.empty l1 (rd t172 x7_2)).size ≤ 9223372036854775807
             ·rw [if_pos c70] at H
              have c70b0 := eq_true c70
              have c70b1 : decide ((x5_2 ++ (⟨#[32]⟩ : ByteArray)).size + (rdOf ByteArray.empty l1 (rd t172 x7_2)).size ≤ 9223372036854775807) = true := decide_eq_true c70
              try have c70b2 : (9223372036854775807 < (x5_2 ++ (⟨#[32]⟩ : ByteArray)).size + (rdOf ByteArray.empty l1 (rd t172 x7_2)).size) = False := eq_false (Nat.not_lt.2 c70)
              have c70s : (9223372036854775807 < x5_2.size + 1 + (rdOf ByteArray.empty l1 (rd t172 x7_2)).size) = False := eq_false (Nat.not_lt.2 (by have h_ := c70; (repeat rw [ByteArray.size_append] at h_); exact h_))
              have H' := Aside0.mk H
              clear H
              obtain ⟨Ao71, co71, eo71⟩ := Kd.R_slice HO_6.out
              subst eo71
              have p175 : 0 ≤ (x7_2 : Int) := of_decide_eq_true (by assumption)
              have q175 : x7_2 < (t172.length : Int) := of_decide_eq_true (by assumption)
              obtain ⟨ad175, e175, hx175_0⟩ := Kd.at_int (Kd.R_reads' HO_6.out).2.2 x7_2 p175 q175
              cases e175
              replace p175 := eq_true p175
              replace q175 := eq_true q175
              have p176 : 0 ≤ ((rd t172 x7_2) : Int) := of_decide_eq_true (by assumption)
              have q176 : (rd t172 x7_2) < (l1.length : Int) := of_decide_eq_true (by assumption)
              obtain ⟨ad176, e176, hx176_0⟩ := Kd.at_string HR1.out (rd t172 x7_2) p176 q176
              cases e176
              replace hx176_0 := pw_cell_below HB.out hx176_0
              replace p176 := eq_true p176
              replace q176 := eq_true q176
              have p177 : 0 ≤ (x7_2 : Int) := of_decide_eq_true (by assumption)
              have q177 : x7_2 < (t172.length : Int) := of_decide_eq_true (by assumption)
              obtain ⟨ad177, e177, hx177_0⟩ := Kd.at_int (Kd.R_reads' HO_6.out).2.2 x7_2 p177 q177
              obtain rfl : ad175 = ad177 := (by injection e177)
              replace p177 := eq_true p177
              replace q177 := eq_true q177
              have p178 : 0 ≤ ((rd t172 x7_2) : Int) := of_decide_eq_true (by assumption)
              have q178 : (rd t172 x7_2) < (l1.length : Int) := of_decide_eq_true (by assumption)
              obtain ⟨ad178, e178, hx178_0⟩ := Kd.at_string HR1.out (rd t172 x7_2) p178 q178
              obtain rfl : ad176 = ad178 := (by injection e178)
              replace hx178_0 := pw_cell_below HB.out hx178_0
              replace p178 := eq_true p178
              replace q178 := eq_true q178
              go_wp2
              go_roundg k2
              case measure => have := HJ20.out; have := HK2.out; omega
              case rel => exact ⟨((x5_2 ++ (⟨#[32]⟩ : ByteArray)) ++ (rdOf ByteArray.empty l1 (rd t172 x7_2))), (wrap64 (x7_2 + 1)), (by rfl), (by rfl), H', ⟨by have := HJ20.out; have := HK2.out; omega⟩, ⟨by (with_reducible repeat (first | apply Kd.R_alloc | apply Kd.R_drewN | apply Kd.R_drew)); exact HO_6.out⟩, ⟨by (with_reducible repeat (first | refine blk_drewN ?_ _ | refine blk_drew ?_ | refine blk_alloc ?_ _)); exact BK157.out⟩, ⟨by repeat (first | (with_reducible first | exact HB.out | apply below_alloc | apply pw_below_drewN | apply below_drew1 | refine below_set ?_ GE157.out) | exact HB.out)⟩⟩
             ·rw [if_neg c70] at H
              exact absurd H (by simp)
            ·rw [if_neg c69] at H
             exact absurd H (by simp)
          ·rw [if_neg c66] at H
           exact absurd H (by simp)
         ·rw [if_neg c65] at H
          exact absurd H (by simp)
        ·rw [if_neg c64] at H
         exact absurd H (by simp)
       ·rw [if_neg c63] at H
        have c63b0 : decide (x7_2 < (t172.length : Int)) = false := decide_eq_false c63
        clear c63
        by_cases c72 : (wrap64 ((x5_2.size : Int) + 2)) > 4000
        ·rw [if_pos c72] at H
         have c72b0 : decide (4000 < (wrap64 ((x5_2.size : Int) + 2))) = true := decide_eq_true c72
         clear c72
         obtain rfl := Option.some.inj H
         obtain ⟨Ao73, co73, eo73⟩ := Kd.R_slice HO_6.out
         subst eo73
         go_wp2
         go_ret
         exact ⟨by rfl, by repeat (first | (with_reducible first | exact HB.out | apply below_alloc | apply pw_below_drewN | apply below_drew1 | refine below_set ?_ GE157.out) | exact HB.out)⟩
        ·rw [if_neg c72] at H
         have c72b0 : decide (4000 < (wrap64 ((x5_2.size : Int) + 2))) = false := decide_eq_false c72
         clear c72
         by_cases c74 : 1 + x5_2.size ≤ 9223372036854775807
         ·rw [if_pos c74] at H
          have c74b0 := eq_true c74
          have c74b1 : decide (1 + x5_2.size ≤ 9223372036854775807) = true := decide_eq_true c74
          try have c74b2 : (9223372036854775807 < 1 + x5_2.size) = False := eq_false (Nat.not_lt.2 c74)
          by_cases c75 : ((⟨#[40]⟩ : ByteArray) ++ x5_2).size + 1 ≤ 9223372036854775807
          ·rw [if_pos c75] at H
           have c75b0 := eq_true c75
           have c75b1 : decide (((⟨#[40]⟩ : ByteArray) ++ x5_2).size + 1 ≤ 9223372036854775807) = true := decide_eq_true c75
           try have c75b2 : (9223372036854775807 < ((⟨#[40]⟩ : ByteArray) ++ x5_2).size + 1) = False := eq_false (Nat.not_lt.2 c75)
           have c75s : (9223372036854775807 < 1 + x5_2.size + 1) = False := eq_false (Nat.not_lt.2 (by have h_ := c75; (repeat rw [ByteArray.size_append] at h_); exact h_))
           obtain rfl := Option.some.inj H
           obtain ⟨Ao76, co76, eo76⟩ := Kd.R_slice HO_6.out
           subst eo76
           go_wp2
           go_ret
           exact ⟨by rfl, by repeat (first | (with_reducible first | exact HB.out | apply below_alloc | apply pw_below_drewN | apply below_drew1 | refine below_set ?_ GE157.out) | exact HB.out)⟩
          ·rw [if_neg c75] at H
           exact absurd H (by simp)
         ·rw [if_neg c74] at H
          exact absurd H (by simp)

end Go.Proofs.Ytkpipmojkhikaaa.PAll
