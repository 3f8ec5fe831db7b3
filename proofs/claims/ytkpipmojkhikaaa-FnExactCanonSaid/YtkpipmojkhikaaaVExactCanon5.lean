/- Written by a program of this session over the loaded program, and by hand: Go functions as plain Lean functions, and that a call comes to what they say. -/
import Derived.Test.YtkpipmojkhikaaaVExactCanon0
import Derived.Test.YtkpipmojkhikaaaVExactCanon2
import Derived.Test.YtkpipmojkhikaaaVExactCanon4
import Derived.Test.YtkpipmojkhikaaaBase
import Derived.Test.YtkpipmojkhikaaaSq
namespace Go.Proofs.Ytkpipmojkhikaaa.PAll
open Go.RowKit Go.Proofs.YtkpipmojkhikaaaW.PrintWords Go.Proofs.YtkpipmojkhikaaaW.PrintLast Go.Proofs.YtkpipmojkhikaaaW.PrintMore Go.Proofs.YtkpipmojkhikaaaW.Sq
attribute [local go_sem] max2_int min2_int max_two min_two max_three min_three max_four min_four   -- for this text's walks alone
set_option linter.unusedVariables false
set_option linter.unusedSimpArgs false

@[reducible] def zA0x9 : Array Bool := #[false, false, false, false, false, false, false, false, false, false]
@[reducible] def zA1x9 : Array Bool := #[true, false, false, false, false, false, false, false, false, false]
@[reducible] def zA2x9 : Array Bool := #[true, false, false, false, false, true, false, false, false, false]
@[reducible] def zA3x9 : Array Bool := #[true, true, false, false, false, true, false, false, false, false]
@[reducible] def zA4x9 : Array Bool := #[true, true, false, false, false, true, true, false, false, false]
@[reducible] def zA5x9 : Array Bool := #[true, true, true, false, false, true, true, false, false, false]
@[reducible] def zA6x9 : Array Bool := #[true, true, true, true, false, true, true, false, false, false]
@[reducible] def zA7x9 : Array Bool := #[true, true, true, true, true, true, true, false, false, false]
@[reducible] def zA8x9 : Array Bool := #[true, true, true, true, true, true, true, true, false, false]
@[reducible] def zA9x9 : Array Bool := #[true, true, true, true, true, true, true, true, true, false]
@[reducible] def zA10x9 : Array Bool := #[true, true, true, true, true, true, true, true, true, true]
/-! ### spec_l03Show: function 55 -/
mutual
def spec_l03Show.j0 : Nat → List ByteArray → ByteArray → Int → Int → Int → Int → Int → Int → Option (ByteArray)
 | 0, _, _, _, _, _, _, _, _ => none
 | k + 1, x1, x5, x177000, x177001, x177002, x177003, x177004, x177005 => (spec_Parts.f k x177000 x177001 x177002 x177003 x177004 x177005).bind fun t191 => (spec_l03Show.l0 k x1 x5 t191 0)
def spec_l03Show.l0 : Nat → List ByteArray → ByteArray → List Int → Int → Option (ByteArray)
 | 0, _, _, _, _ => none
 | k + 1, x1, x5, x6, x7 => if x7 < (x6.length : Int) then (if 0 ≤ x7 then (if 0 ≤ (rd x6 x7) then (if (rd x6 x7) < (x1.length : Int) then (if (rdOf ByteArray.empty x1 (rd x6 x7)).toList = ([] : List UInt8) then (some (⟨#[]⟩ : ByteArray)) else (if x5.size + 1 ≤ 9223372036854775807 then (if (x5 ++ (⟨#[32]⟩ : ByteArray)).size + (rdOf ByteArray.empty x1 (rd x6 x7)).size ≤ 9223372036854775807 then (spec_l03Show.l0 k x1 ((x5 ++ (⟨#[32]⟩ : ByteArray)) ++ (rdOf ByteArray.empty x1 (rd x6 x7))) x6 (wrap64 (x7 + 1))) else (none)) else (none))) else (none)) else (none)) else (none)) else (if (wrap64 ((x5.size : Int) + 2)) > 4000 then (some (⟨#[]⟩ : ByteArray)) else (if 1 + x5.size ≤ 9223372036854775807 then (if ((⟨#[40]⟩ : ByteArray) ++ x5).size + 1 ≤ 9223372036854775807 then (some (((⟨#[40]⟩ : ByteArray) ++ x5) ++ (⟨#[41]⟩ : ByteArray))) else (none)) else (none)))
end
def spec_l03Show.f (k : Nat) (a0_0 : Int) (a0_1 : Int) (a0_2 : Int) (a0_3 : Int) (a0_4 : Int) (a0_5 : Int) (l1 : List ByteArray) : Option (ByteArray) := if a0_0 = 0 then ((spec_l03Dec.f k a0_1).bind fun t177 => (if 1 + t177.size ≤ 9223372036854775807 then (if ((⟨#[35]⟩ : ByteArray) ++ t177).size + 1 ≤ 9223372036854775807 then ((spec_l03Dec.f k a0_2).bind fun t178 => (if (((⟨#[35]⟩ : ByteArray) ++ t177) ++ (⟨#[58]⟩ : ByteArray)).size + t178.size ≤ 9223372036854775807 then (some ((((⟨#[35]⟩ : ByteArray) ++ t177) ++ (⟨#[58]⟩ : ByteArray)) ++ t178)) else (none))) else (none)) else (none))) else (if a0_0 = 1 then ((spec_l03Dec.f k a0_2).bind fun t179 => (if 1 + t179.size ≤ 9223372036854775807 then (if ((⟨#[118]⟩ : ByteArray) ++ t179).size + 1 ≤ 9223372036854775807 then ((spec_l03Dec.f k a0_1).bind fun t180 => (if (((⟨#[118]⟩ : ByteArray) ++ t179) ++ (⟨#[58]⟩ : ByteArray)).size + t180.size ≤ 9223372036854775807 then (some ((((⟨#[118]⟩ : ByteArray) ++ t179) ++ (⟨#[58]⟩ : ByteArray)) ++ t180)) else (none))) else (none)) else (none))) else (if a0_0 = 2 then (spec_l03Show.j0 k l1 (⟨#[110, 111, 116]⟩ : ByteArray) a0_0 a0_1 a0_2 a0_3 a0_4 a0_5) else (if a0_0 = 17 then ((spec_l03Dec.f k a0_2).bind fun t181 => (if 6 + t181.size ≤ 9223372036854775807 then (if ((⟨#[115, 108, 105, 99, 101, 32]⟩ : ByteArray) ++ t181).size + 1 ≤ 9223372036854775807 then ((spec_l03Dec.f k a0_1).bind fun t182 => (if (((⟨#[115, 108, 105, 99, 101, 32]⟩ : ByteArray) ++ t181) ++ (⟨#[32]⟩ : ByteArray)).size + t182.size ≤ 9223372036854775807 then (spec_l03Show.j0 k l1 ((((⟨#[115, 108, 105, 99, 101, 32]⟩ : ByteArray) ++ t181) ++ (⟨#[32]⟩ : ByteArray)) ++ t182) a0_0 a0_1 a0_2 a0_3 a0_4 a0_5) else (none))) else (none)) else (none))) else (if a0_0 = 18 then (spec_l03Show.j0 k l1 (⟨#[105, 102]⟩ : ByteArray) a0_0 a0_1 a0_2 a0_3 a0_4 a0_5) else (if a0_0 = 19 then ((spec_l03Dec.f k a0_2).bind fun t183 => (if 5 + t183.size ≤ 9223372036854775807 then (if ((⟨#[97, 108, 108, 32, 118]⟩ : ByteArray) ++ t183).size + 1 ≤ 9223372036854775807 then ((spec_l03Dec.f k a0_4).bind fun t184 => (if (((⟨#[97, 108, 108, 32, 118]⟩ : ByteArray) ++ t183) ++ (⟨#[58]⟩ : ByteArray)).size + t184.size ≤ 9223372036854775807 then (spec_l03Show.j0 k l1 ((((⟨#[97, 108, 108, 32, 118]⟩ : ByteArray) ++ t183) ++ (⟨#[58]⟩ : ByteArray)) ++ t184) a0_0 a0_1 a0_2 a0_3 a0_4 a0_5) else (none))) else (none)) else (none))) else (if a0_0 = 20 then ((spec_l03Dec.f k a0_2).bind fun t185 => (if 6 + t185.size ≤ 9223372036854775807 then (if ((⟨#[115, 111, 109, 101, 32, 118]⟩ : ByteArray) ++ t185).size + 1 ≤ 9223372036854775807 then ((spec_l03Dec.f k a0_4).bind fun t186 => (if (((⟨#[115, 111, 109, 101, 32, 118]⟩ : ByteArray) ++ t185) ++ (⟨#[58]⟩ : ByteArray)).size + t186.size ≤ 9223372036854775807 then (spec_l03Show.j0 k l1 ((((⟨#[115, 111, 109, 101, 32, 118]⟩ : ByteArray) ++ t185) ++ (⟨#[58]⟩ : ByteArray)) ++ t186) a0_0 a0_1 a0_2 a0_3 a0_4 a0_5) else (none))) else (none)) else (none))) else ((spec_l03Words.f).bind fun t187 => (if 0 ≤ (wrap64 (a0_0 - 3)) then (if (wrap64 (a0_0 - 3)) < (t187.length : Int) then (spec_l03Show.j0 k l1 (rdOf ByteArray.empty t187 (wrap64 (a0_0 - 3))) a0_0 a0_1 a0_2 a0_3 a0_4 a0_5) else (none)) else (none)))))))))
def spec_l03Show.T3 : Bool × List (List Nat × List Nat) := (true, [([], []), ([0], [0]), ([1], [1]), ([2], [2]), ([3], [3]), ([], []), ([5], [5]), ([6, 2], [6]), ([4, 7], [4, 7]), ([8, 7, 0, 1, 2, 3, 4, 5, 6, 7, 8], [8])])
def spec_l03Show.B3 : List Nat := [0, 1, 3, 7, 15, 0, 32, 103, 255, 511]
theorem spec_l03Show.tab3 : rtab .any (opsOf Try.f55 3) = spec_l03Show.T3 := by kernel_rfl
theorem spec_l03Show.bits3 : waitsOk spec_l03Show.T3.2 spec_l03Show.B3 = true := by kernel_rfl
def spec_l03Show.T5 : Bool × List (List Nat × List Nat) := (true, [([], []), ([0], [0]), ([1], [1]), ([2], [2]), ([3], [3]), ([], []), ([5], [5]), ([6, 2], [6]), ([4, 7], [4, 7]), ([8, 7, 0, 1, 2, 3, 4, 5, 6, 7, 8], [8])])
def spec_l03Show.B5 : List Nat := [0, 1, 3, 7, 15, 0, 32, 103, 255, 511]
theorem spec_l03Show.tab5 : rtab .any (opsOf Try.f55 5) = spec_l03Show.T5 := by kernel_rfl
theorem spec_l03Show.bits5 : waitsOk spec_l03Show.T5.2 spec_l03Show.B5 = true := by kernel_rfl
def spec_l03Show.T11 : Bool × List (List Nat × List Nat) := (true, [([], []), ([0], [0]), ([1], [1]), ([2], [2]), ([3], [3]), ([], []), ([5], [5]), ([6, 2], [6]), ([4, 7], [4, 7]), ([8, 7, 0, 1, 2, 3, 4, 5, 6, 7, 8], [8])])
def spec_l03Show.B11 : List Nat := [0, 1, 3, 7, 15, 0, 32, 103, 255, 511]
theorem spec_l03Show.tab11 : rtab .any (opsOf Try.f55 11) = spec_l03Show.T11 := by kernel_rfl
theorem spec_l03Show.bits11 : waitsOk spec_l03Show.T11.2 spec_l03Show.B11 = true := by kernel_rfl
def spec_l03Show.T15 : Bool × List (List Nat × List Nat) := (true, [([], []), ([0], [0]), ([1], [1]), ([2], [2]), ([3], [3]), ([], []), ([5], [5]), ([6, 2], [6]), ([4, 7], [4, 7]), ([8, 7, 0, 1, 2, 3, 4, 5, 6, 7, 8], [8])])
def spec_l03Show.B15 : List Nat := [0, 1, 3, 7, 15, 0, 32, 103, 255, 511]
theorem spec_l03Show.tab15 : rtab .any (opsOf Try.f55 15) = spec_l03Show.T15 := by kernel_rfl
theorem spec_l03Show.bits15 : waitsOk spec_l03Show.T15.2 spec_l03Show.B15 = true := by kernel_rfl
def spec_l03Show.T17 : Bool × List (List Nat × List Nat) := (true, [([], []), ([0], [0]), ([1], [1]), ([2], [2]), ([3], [3]), ([], []), ([5], [5]), ([6, 2], [6]), ([4, 7], [4, 7]), ([8, 7, 0, 1, 2, 3, 4, 5, 6, 7, 8], [8])])
def spec_l03Show.B17 : List Nat := [0, 1, 3, 7, 15, 0, 32, 103, 255, 511]
theorem spec_l03Show.tab17 : rtab .any (opsOf Try.f55 17) = spec_l03Show.T17 := by kernel_rfl
theorem spec_l03Show.bits17 : waitsOk spec_l03Show.T17.2 spec_l03Show.B17 = true := by kernel_rfl
set_option maxHeartbeats 8000000 in
set_option maxRecDepth 100000 in
theorem spec_l03Show.calls (k : Nat) (a0_0 : Int) (a0_1 : Int) (a0_2 : Int) (a0_3 : Int) (a0_4 : Int) (a0_5 : Int) (A1 : Option Addr) (c1 : Nat) (l1 : List ByteArray) (r : ByteArray) (w : World) (hr1 : Kd.C Kd.string w A1 l1.length l1) (hc1 : l1.length ≤ c1) (h : spec_l03Show.f k a0_0 a0_1 a0_2 a0_3 a0_4 a0_5 l1 = some r) :
  Calls Try.prog 55 #[.agg #[.int .i64 a0_0, .int .i64 a0_1, .int .i64 a0_2, .int .i64 a0_3, .int .i64 a0_4, .int .i64 a0_5], .slice A1 l1.length c1] w fun e w' => e = .returned (.string r) ∧ Below w.heap.size w w' := by
 have hu31 := Try.underlying31
 have HR1 := am hr1
 have HC1 := am hc1
 clear hr1 hc1
 have HB := am (Below.refl w.heap.size w)
 have H : (if a0_0 = 0 then ((spec_l03Dec.f k a0_1).bind fun t177 => (if 1 + t177.size ≤ 9223372036854775807 then (if ((⟨#[35]⟩ : ByteArray) ++ t177).size + 1 ≤ 9223372036854775807 then ((spec_l03Dec.f k a0_2).bind fun t178 => (if (((⟨#[35]⟩ : ByteArray) ++ t177) ++ (⟨#[58]⟩ : ByteArray)).size + t178.size ≤ 9223372036854775807 then (some ((((⟨#[35]⟩ : ByteArray) ++ t177) ++ (⟨#[58]⟩ : ByteArray)) ++ t178)) else (none))) else (none)) else (none))) else (if a0_0 = 1 then ((spec_l03Dec.f k a0_2).bind fun t179 => (if 1 + t179.size ≤ 9223372036854775807 then (if ((⟨#[118]⟩ : ByteArray) ++ t179).size + 1 ≤ 9223372036854775807 then ((spec_l03Dec.f k a0_1).bind fun t180 => (if (((⟨#[118]⟩ : ByteArray) ++ t179) ++ (⟨#[58]⟩ : ByteArray)).size + t180.size ≤ 9223372036854775807 then (some ((((⟨#[118]⟩ : ByteArray) ++ t179) ++ (⟨#[58]⟩ : ByteArray)) ++ t180)) else (none))) else (none)) else (none))) else (if a0_0 = 2 then (spec_l03Show.j0 k l1 (⟨#[110, 111, 116]⟩ : ByteArray) a0_0 a0_1 a0_2 a0_3 a0_4 a0_5) else (if a0_0 = 17 then ((spec_l03Dec.f k a0_2).bind fun t181 => (if 6 + t181.size ≤ 9223372036854775807 then (if ((⟨#[115, 108, 105, 99, 101, 32]⟩ : ByteArray) ++ t181).size + 1 ≤ 9223372036854775807 then ((spec_l03Dec.f k a0_1).bind fun t182 => (if (((⟨#[115, 108, 105, 99, 101, 32]⟩ : ByteArray) ++ t181) ++ (⟨#[32]⟩ : ByteArray)).size + t182.size ≤ 9223372036854775807 then (spec_l03Show.j0 k l1 ((((⟨#[115, 108, 105, 99, 101, 32]⟩ : ByteArray) ++ t181) ++ (⟨#[32]⟩ : ByteArray)) ++ t182) a0_0 a0_1 a0_2 a0_3 a0_4 a0_5) else (none))) else (none)) else (none))) else (if a0_0 = 18 then (spec_l03Show.j0 k l1 (⟨#[105, 102]⟩ : ByteArray) a0_0 a0_1 a0_2 a0_3 a0_4 a0_5) else (if a0_0 = 19 then ((spec_l03Dec.f k a0_2).bind fun t183 => (if 5 + t183.size ≤ 9223372036854775807 then (if ((⟨#[97, 108, 108, 32, 118]⟩ : ByteArray) ++ t183).size + 1 ≤ 9223372036854775807 then ((spec_l03Dec.f k a0_4).bind fun t184 => (if (((⟨#[97, 108, 108, 32, 118]⟩ : ByteArray) ++ t183) ++ (⟨#[58]⟩ : ByteArray)).size + t184.size ≤ 9223372036854775807 then (spec_l03Show.j0 k l1 ((((⟨#[97, 108, 108, 32, 118]⟩ : ByteArray) ++ t183) ++ (⟨#[58]⟩ : ByteArray)) ++ t184) a0_0 a0_1 a0_2 a0_3 a0_4 a0_5) else (none))) else (none)) else (none))) else (if a0_0 = 20 then ((spec_l03Dec.f k a0_2).bind fun t185 => (if 6 + t185.size ≤ 9223372036854775807 then (if ((⟨#[115, 111, 109, 101, 32, 118]⟩ : ByteArray) ++ t185).size + 1 ≤ 9223372036854775807 then ((spec_l03Dec.f k a0_4).bind fun t186 => (if (((⟨#[115, 111, 109, 101, 32, 118]⟩ : ByteArray) ++ t185) ++ (⟨#[58]⟩ : ByteArray)).size + t186.size ≤ 9223372036854775807 then (spec_l03Show.j0 k l1 ((((⟨#[115, 111, 109, 101, 32, 118]⟩ : ByteArray) ++ t185) ++ (⟨#[58]⟩ : ByteArray)) ++ t186) a0_0 a0_1 a0_2 a0_3 a0_4 a0_5) else (none))) else (none)) else (none))) else ((spec_l03Words.f).bind fun t187 => (if 0 ≤ (wrap64 (a0_0 - 3)) then (if (wrap64 (a0_0 - 3)) < (t187.length : Int) then (spec_l03Show.j0 k l1 (rdOf ByteArray.empty t187 (wrap64 (a0_0 - 3))) a0_0 a0_1 a0_2 a0_3 a0_4 a0_5) else (none)) else (none)))))))))) = some r := h
 clear h
 by_cases c3 : a0_0 = 0
 ·rw [if_pos c3] at H
  have c3b0 : (a0_0 == 0) = true := beq_iff_eq.mpr c3
  have c3b1 : (a0_0 != 0) = false := bne_eq_false_iff_eq.mpr c3
  clear c3
  replace H := oA H; obtain ⟨t177, A4, H⟩ := H
  replace H := iP H; obtain ⟨c5, H⟩ := H
  have c5b0 := eq_true c5
  have c5b1 : decide (1 + t177.size ≤ 9223372036854775807) = true := decide_eq_true c5
  try have c5b2 : (9223372036854775807 < 1 + t177.size) = False := eq_false (Nat.not_lt.2 c5)
  replace H := iP H; obtain ⟨c6, H⟩ := H
  have c6b0 := eq_true c6
  have c6b1 : decide (((⟨#[35]⟩ : ByteArray) ++ t177).size + 1 ≤ 9223372036854775807) = true := decide_eq_true c6
  try have c6b2 : (9223372036854775807 < ((⟨#[35]⟩ : ByteArray) ++ t177).size + 1) = False := eq_false (Nat.not_lt.2 c6)
  have c6s : (9223372036854775807 < 1 + t177.size + 1) = False := eq_false (Nat.not_lt.2 (by have h_ := c6; (repeat rw [ByteArray.size_append] at h_); exact h_))
  replace H := oA H; obtain ⟨t178, A7, H⟩ := H
  replace H := iP H; obtain ⟨c8, H⟩ := H
  have c8b0 := eq_true c8
  have c8b1 : decide ((((⟨#[35]⟩ : ByteArray) ++ t177) ++ (⟨#[58]⟩ : ByteArray)).size + t178.size ≤ 9223372036854775807) = true := decide_eq_true c8
  try have c8b2 : (9223372036854775807 < (((⟨#[35]⟩ : ByteArray) ++ t177) ++ (⟨#[58]⟩ : ByteArray)).size + t178.size) = False := eq_false (Nat.not_lt.2 c8)
  have c8s : (9223372036854775807 < 1 + t177.size + 1 + t178.size) = False := eq_false (Nat.not_lt.2 (by have h_ := c8; (repeat rw [ByteArray.size_append] at h_); exact h_))
  obtain rfl := oI H
  go_enter Try.func55, Try.ntmps55
  try go_wp2_with (first | ((with_reducible refine gate_dst (N := 2) rfl ?_); refine box_event ?hg (N := 2) ?hd (cs := #[.int .i64 a0_0, .int .i64 a0_1, .int .i64 a0_2, .int .i64 a0_3, .int .i64 a0_4, .int .i64 a0_5]) (t := 31) ?hr ?_; (case hd => rfl); (case hg => rfl); (case hr => (go_simp; done)); intro gb176 hg w9 hbox hb; have n0_ := am (below_step (by exact sW HB.out) hb); have n1_ := am (hbox); have n2_ := am ((by rw [hg]; exact (below_size (by exact sW HB.out)) : w.heap.size ≤ gb176)); have n3_ := am ((by rw [hg]; exact (below_size (by exact sW HB.out)) : w.heap.size ≤ gb176)); clear HB; have HB := n0_; have BK176 := n1_; have GW176 := n2_; have GE176 := n3_; clear n0_ n1_ n2_ n3_; clear hb hbox hg; obtain ⟨hcz10_0, hcz10_1, hcz10_2, hcz10_3, hcz10_4, hcz10_5⟩ := cz6 BK176.out; obtain ⟨hfz10_0, hfz10_1, hfz10_2, hfz10_3, hfz10_4, hfz10_5⟩ := fz6 BK176.out))
  have n0_ := am (blk_drew BK176.out)
  have n1_ := am (below_drew1 HB.out)
  clear BK176
  clear HB
  have BK176 := n0_
  have HB := n1_
  clear n0_ n1_
  refine start_ (n := 10) (S := fun w' => w'.cell? ⟨gb176, 0, none⟩ = some (.int .i64 a0_0) ∧ w'.cell? ⟨gb176, 1, none⟩ = some (.int .i64 a0_1) ∧ w'.cell? ⟨gb176, 2, none⟩ = some (.int .i64 a0_2) ∧ w'.cell? ⟨gb176, 3, none⟩ = some (.int .i64 a0_3) ∧ w'.cell? ⟨gb176, 4, none⟩ = some (.int .i64 a0_4) ∧ w'.cell? ⟨gb176, 5, none⟩ = some (.int .i64 a0_5)) (ds := []) zA0x9 (by kernel_rfl) rfl rfl ⟨(blk_cell BK176.out 0).trans rfl, (blk_cell BK176.out 1).trans rfl, (blk_cell BK176.out 2).trans rfl, (blk_cell BK176.out 3).trans rfl, (blk_cell BK176.out 4).trans rfl, (blk_cell BK176.out 5).trans rfl⟩ (fun hHeld => ?_); refine with_tabW spec_l03Show.tab3 spec_l03Show.bits3 (fun HT_ HW_ => ?_)
  generalize w9.drew = w11 at BK176 HB hHeld ⊢
  refine pT (i := 0) (N := some 12) zA1x9 ?_
  refine pT (i := 5) (N := some 17) zA2x9 ?_
  refine take_ (i := 1) (N := some 13) (v := ?_) (a' := ?_) zA3x9 rfl rfl (take_ofW HT_.out HW_.out (by kernel_rfl)) (fun _ _ _ h => h) (Or.inl ⟨by rfl, ?_⟩) hHeld ?_ ?_
  rotate_left
  ·rintro w' ⟨s0, s1, s2, s3, s4, s5⟩
   go_simp
   with_reducible rfl
  rotate_left
  ·simp only [Act.put, List.setIfInBounds_toArray, List.set_cons_zero, List.set_cons_succ, i64_w, i32_w]
   rfl
  refine take_ (i := 6) (N := some 18) (v := ?_) (a' := ?_) zA4x9 rfl rfl (take_ofW HT_.out HW_.out (by kernel_rfl)) (fun _ _ _ h => h) (Or.inl ⟨by rfl, ?_⟩) hHeld ?_ ?_
  rotate_left
  ·rintro w' ⟨s0, s1, s2, s3, s4, s5⟩
   go_simp
   with_reducible rfl
  rotate_left
  ·simp only [Act.put, List.setIfInBounds_toArray, List.set_cons_zero, List.set_cons_succ, i64_w, i32_w]
   rfl
  refine one_ (i := 2) (N := some 14) zA5x9 rfl rfl (one_of HT_.out (by kernel_rfl)) (by decide) (fun K hK => ?_)
  refine goes_ Try.func84 (by kernel_rfl) rfl #[.int .i64 a0_1] (by rfl) rfl rfl tm ?_
  with_reducible refine (spec_l03Dec.calls _ _ _ _ A4.out).mono ?_
  rintro e w' ⟨rfl, ⟨nd, rfl⟩⟩
  refine ⟨_, rfl, ?_⟩
  refine hK.out _ _ ⟨(blk_cell BK176.out 0).trans rfl, (blk_cell BK176.out 1).trans rfl, (blk_cell BK176.out 2).trans rfl, (blk_cell BK176.out 3).trans rfl, (blk_cell BK176.out 4).trans rfl, (blk_cell BK176.out 5).trans rfl⟩ (fun hHeld => ?_)
  clear hK K
  refine norm_ (a' := ?_) ?_ ?_
  rotate_left
  ·show Act.put _ (some 14) _ = _
   simp only [Act.put, List.setIfInBounds_toArray, List.set_cons_zero, List.set_cons_succ, i64_w, i32_w]
   rfl
  refine pT (i := 3) (N := some 15) zA6x9 ?_
  refine pT (i := 4) (N := some 16) zA7x9 ?_
  refine one_ (i := 7) (N := some 19) zA8x9 rfl rfl (one_of HT_.out (by kernel_rfl)) (by decide) (fun K hK => ?_)
  refine goes_ Try.func84 (by kernel_rfl) rfl #[.int .i64 a0_2] (by rfl) rfl rfl tm ?_
  with_reducible refine (spec_l03Dec.calls _ _ _ _ A7.out).mono ?_
  rintro e w' ⟨rfl, ⟨nd, rfl⟩⟩
  refine ⟨_, rfl, ?_⟩
  refine hK.out _ _ ⟨(blk_cell BK176.out 0).trans rfl, (blk_cell BK176.out 1).trans rfl, (blk_cell BK176.out 2).trans rfl, (blk_cell BK176.out 3).trans rfl, (blk_cell BK176.out 4).trans rfl, (blk_cell BK176.out 5).trans rfl⟩ (fun hHeld => ?_)
  clear hK K
  refine norm_ (a' := ?_) ?_ ?_
  rotate_left
  ·show Act.put _ (some 19) _ = _
   simp only [Act.put, List.setIfInBounds_toArray, List.set_cons_zero, List.set_cons_succ, i64_w, i32_w]
   rfl
  refine pT (i := 8) (N := some 20) zA9x9 ?_
  refine pT (i := 9) (N := some 4) zA10x9 ?_
  refine done_ (done_of HT_.out (by kernel_rfl)) ?_
  try go_wp2
  go_ret
  exact ⟨by rfl, by exact bW⟩
 ·rw [if_neg c3] at H
  have c3b0 : (a0_0 == 0) = false := beq_eq_false_iff_ne.mpr c3
  have c3b1 : (a0_0 != 0) = true := bne_iff_ne.mpr c3
  replace H := iE H; rcases H with ⟨c12b0, c12b1, H⟩ | ⟨c12b0, c12b1, H⟩
  ·replace H := oA H; obtain ⟨t179, A13, H⟩ := H
   replace H := iP H; obtain ⟨c14, H⟩ := H
   have c14b0 := eq_true c14
   have c14b1 : decide (1 + t179.size ≤ 9223372036854775807) = true := decide_eq_true c14
   try have c14b2 : (9223372036854775807 < 1 + t179.size) = False := eq_false (Nat.not_lt.2 c14)
   replace H := iP H; obtain ⟨c15, H⟩ := H
   have c15b0 := eq_true c15
   have c15b1 : decide (((⟨#[118]⟩ : ByteArray) ++ t179).size + 1 ≤ 9223372036854775807) = true := decide_eq_true c15
   try have c15b2 : (9223372036854775807 < ((⟨#[118]⟩ : ByteArray) ++ t179).size + 1) = False := eq_false (Nat.not_lt.2 c15)
   have c15s : (9223372036854775807 < 1 + t179.size + 1) = False := eq_false (Nat.not_lt.2 (by have h_ := c15; (repeat rw [ByteArray.size_append] at h_); exact h_))
   replace H := oA H; obtain ⟨t180, A16, H⟩ := H
   replace H := iP H; obtain ⟨c17, H⟩ := H
   have c17b0 := eq_true c17
   have c17b1 : decide ((((⟨#[118]⟩ : ByteArray) ++ t179) ++ (⟨#[58]⟩ : ByteArray)).size + t180.size ≤ 9223372036854775807) = true := decide_eq_true c17
   try have c17b2 : (9223372036854775807 < (((⟨#[118]⟩ : ByteArray) ++ t179) ++ (⟨#[58]⟩ : ByteArray)).size + t180.size) = False := eq_false (Nat.not_lt.2 c17)
   have c17s : (9223372036854775807 < 1 + t179.size + 1 + t180.size) = False := eq_false (Nat.not_lt.2 (by have h_ := c17; (repeat rw [ByteArray.size_append] at h_); exact h_))
   obtain rfl := oI H
   go_enter Try.func55, Try.ntmps55
   try go_wp2_with (first | ((with_reducible refine gate_dst (N := 2) rfl ?_); refine box_event ?hg (N := 2) ?hd (cs := #[.int .i64 a0_0, .int .i64 a0_1, .int .i64 a0_2, .int .i64 a0_3, .int .i64 a0_4, .int .i64 a0_5]) (t := 31) ?hr ?_; (case hd => rfl); (case hg => rfl); (case hr => (go_simp; done)); intro gb176 hg w18 hbox hb; have n0_ := am (below_step (by exact sW HB.out) hb); have n1_ := am (hbox); have n2_ := am ((by rw [hg]; exact (below_size (by exact sW HB.out)) : w.heap.size ≤ gb176)); have n3_ := am ((by rw [hg]; exact (below_size (by exact sW HB.out)) : w.heap.size ≤ gb176)); clear HB; have HB := n0_; have BK176 := n1_; have GW176 := n2_; have GE176 := n3_; clear n0_ n1_ n2_ n3_; clear hb hbox hg; obtain ⟨hcz19_0, hcz19_1, hcz19_2, hcz19_3, hcz19_4, hcz19_5⟩ := cz6 BK176.out; obtain ⟨hfz19_0, hfz19_1, hfz19_2, hfz19_3, hfz19_4, hfz19_5⟩ := fz6 BK176.out))
   have n0_ := am (blk_drew BK176.out)
   have n1_ := am (below_drew1 HB.out)
   clear BK176
   clear HB
   have BK176 := n0_
   have HB := n1_
   clear n0_ n1_
   refine start_ (n := 10) (S := fun w' => w'.cell? ⟨gb176, 0, none⟩ = some (.int .i64 a0_0) ∧ w'.cell? ⟨gb176, 1, none⟩ = some (.int .i64 a0_1) ∧ w'.cell? ⟨gb176, 2, none⟩ = some (.int .i64 a0_2) ∧ w'.cell? ⟨gb176, 3, none⟩ = some (.int .i64 a0_3) ∧ w'.cell? ⟨gb176, 4, none⟩ = some (.int .i64 a0_4) ∧ w'.cell? ⟨gb176, 5, none⟩ = some (.int .i64 a0_5)) (ds := []) zA0x9 (by kernel_rfl) rfl rfl ⟨(blk_cell BK176.out 0).trans rfl, (blk_cell BK176.out 1).trans rfl, (blk_cell BK176.out 2).trans rfl, (blk_cell BK176.out 3).trans rfl, (blk_cell BK176.out 4).trans rfl, (blk_cell BK176.out 5).trans rfl⟩ (fun hHeld => ?_); refine with_tabW spec_l03Show.tab5 spec_l03Show.bits5 (fun HT_ HW_ => ?_)
   generalize w18.drew = w20 at BK176 HB hHeld ⊢
   refine pT (i := 0) (N := some 23) zA1x9 ?_
   refine pT (i := 5) (N := some 28) zA2x9 ?_
   refine take_ (i := 1) (N := some 24) (v := ?_) (a' := ?_) zA3x9 rfl rfl (take_ofW HT_.out HW_.out (by kernel_rfl)) (fun _ _ _ h => h) (Or.inl ⟨by rfl, ?_⟩) hHeld ?_ ?_
   rotate_left
   ·rintro w' ⟨s0, s1, s2, s3, s4, s5⟩
    go_simp
    with_reducible rfl
   rotate_left
   ·simp only [Act.put, List.setIfInBounds_toArray, List.set_cons_zero, List.set_cons_succ, i64_w, i32_w]
    rfl
   refine take_ (i := 6) (N := some 29) (v := ?_) (a' := ?_) zA4x9 rfl rfl (take_ofW HT_.out HW_.out (by kernel_rfl)) (fun _ _ _ h => h) (Or.inl ⟨by rfl, ?_⟩) hHeld ?_ ?_
   rotate_left
   ·rintro w' ⟨s0, s1, s2, s3, s4, s5⟩
    go_simp
    with_reducible rfl
   rotate_left
   ·simp only [Act.put, List.setIfInBounds_toArray, List.set_cons_zero, List.set_cons_succ, i64_w, i32_w]
    rfl
   refine one_ (i := 2) (N := some 25) zA5x9 rfl rfl (one_of HT_.out (by kernel_rfl)) (by decide) (fun K hK => ?_)
   refine goes_ Try.func84 (by kernel_rfl) rfl #[.int .i64 a0_2] (by rfl) rfl rfl tm ?_
   with_reducible refine (spec_l03Dec.calls _ _ _ _ A13.out).mono ?_
   rintro e w' ⟨rfl, ⟨nd, rfl⟩⟩
   refine ⟨_, rfl, ?_⟩
   refine hK.out _ _ ⟨(blk_cell BK176.out 0).trans rfl, (blk_cell BK176.out 1).trans rfl, (blk_cell BK176.out 2).trans rfl, (blk_cell BK176.out 3).trans rfl, (blk_cell BK176.out 4).trans rfl, (blk_cell BK176.out 5).trans rfl⟩ (fun hHeld => ?_)
   clear hK K
   refine norm_ (a' := ?_) ?_ ?_
   rotate_left
   ·show Act.put _ (some 25) _ = _
    simp only [Act.put, List.setIfInBounds_toArray, List.set_cons_zero, List.set_cons_succ, i64_w, i32_w]
    rfl
   refine pT (i := 3) (N := some 26) zA6x9 ?_
   refine pT (i := 4) (N := some 27) zA7x9 ?_
   refine one_ (i := 7) (N := some 30) zA8x9 rfl rfl (one_of HT_.out (by kernel_rfl)) (by decide) (fun K hK => ?_)
   refine goes_ Try.func84 (by kernel_rfl) rfl #[.int .i64 a0_1] (by rfl) rfl rfl tm ?_
   with_reducible refine (spec_l03Dec.calls _ _ _ _ A16.out).mono ?_
   rintro e w' ⟨rfl, ⟨nd, rfl⟩⟩
   refine ⟨_, rfl, ?_⟩
   refine hK.out _ _ ⟨(blk_cell BK176.out 0).trans rfl, (blk_cell BK176.out 1).trans rfl, (blk_cell BK176.out 2).trans rfl, (blk_cell BK176.out 3).trans rfl, (blk_cell BK176.out 4).trans rfl, (blk_cell BK176.out 5).trans rfl⟩ (fun hHeld => ?_)
   clear hK K
   refine norm_ (a' := ?_) ?_ ?_
   rotate_left
   ·show Act.put _ (some 30) _ = _
    simp only [Act.put, List.setIfInBounds_toArray, List.set_cons_zero, List.set_cons_succ, i64_w, i32_w]
    rfl
   refine pT (i := 8) (N := some 31) zA9x9 ?_
   refine pT (i := 9) (N := some 4) zA10x9 ?_
   refine done_ (done_of HT_.out (by kernel_rfl)) ?_
   try go_wp2
   go_ret
   exact ⟨by rfl, by exact bW⟩
  ·have HC21 := am H; clear H
   go_enter Try.func55, Try.ntmps55
   go_upto_block 1 with (first | ((with_reducible refine gate_dst (N := 2) rfl ?_); refine box_event ?hg (N := 2) ?hd (cs := #[.int .i64 a0_0, .int .i64 a0_1, .int .i64 a0_2, .int .i64 a0_3, .int .i64 a0_4, .int .i64 a0_5]) (t := 31) ?hr ?_; (case hd => rfl); (case hg => rfl); (case hr => (go_simp; done)); intro gb176 hg w22 hbox hb; have n0_ := am (below_step (by exact sW HB.out) hb); have n1_ := am (hbox); have n2_ := am ((by rw [hg]; exact (below_size (by exact sW HB.out)) : w.heap.size ≤ gb176)); have n3_ := am ((by rw [hg]; exact (below_size (by exact sW HB.out)) : w.heap.size ≤ gb176)); clear HB; have HB := n0_; have BK176 := n1_; have GW176 := n2_; have GE176 := n3_; clear n0_ n1_ n2_ n3_; clear hb hbox hg; obtain ⟨hcz23_0, hcz23_1, hcz23_2, hcz23_3, hcz23_4, hcz23_5⟩ := cz6 BK176.out; obtain ⟨hfz23_0, hfz23_1, hfz23_2, hfz23_3, hfz23_4, hfz23_5⟩ := fz6 BK176.out))
   (try simp only [Act.put, List.setIfInBounds_toArray, List.set_cons_zero, List.set_cons_succ])
   go_cut [5] (fun v5 wc => ∃ (kq : Nat) (x5_20 : ByteArray), v5 = .string x5_20 ∧ Aside0 (spec_l03Show.j0 kq l1 x5_20 a0_0 a0_1 a0_2 a0_3 a0_4 a0_5 = some r) ∧ Aside0 (kq ≤ k) ∧ Aside0 (wc.heap[gb176]? = some (.cells #[.int .i64 a0_0, .int .i64 a0_1, .int .i64 a0_2, .int .i64 a0_3, .int .i64 a0_4, .int .i64 a0_5] 31 (0, 0))) ∧ Aside0 (Below w.heap.size w wc))
   case first =>
    have H := HC21.out
    clear HC21
    replace H := iE H; rcases H with ⟨c24b0, c24b1, H⟩ | ⟨c24b0, c24b1, H⟩
    ·have H' := am H
     clear H
     obtain ⟨hcz25_0, hcz25_1, hcz25_2, hcz25_3, hcz25_4, hcz25_5⟩ := cz6 BK176.out
     obtain ⟨hfz25_0, hfz25_1, hfz25_2, hfz25_3, hfz25_4, hfz25_5⟩ := fz6 BK176.out
     go_wp2
     go_meet
     case rel => exact ⟨_, ((⟨#[110, 111, 116]⟩ : ByteArray)), (by rfl), H', ⟨by omega⟩, ⟨by exact sB <| BK176.out⟩, ⟨by exact bW⟩⟩
    ·replace H := iE H; rcases H with ⟨c26b0, c26b1, H⟩ | ⟨c26b0, c26b1, H⟩
     ·replace H := oA H; obtain ⟨t181, A27, H⟩ := H
      replace H := iP H; obtain ⟨c28, H⟩ := H
      have c28b0 := eq_true c28
      have c28b1 : decide (6 + t181.size ≤ 9223372036854775807) = true := decide_eq_true c28
      try have c28b2 : (9223372036854775807 < 6 + t181.size) = False := eq_false (Nat.not_lt.2 c28)
      replace H := iP H; obtain ⟨c29, H⟩ := H
      have c29b0 := eq_true c29
      have c29b1 : decide (((⟨#[115, 108, 105, 99, 101, 32]⟩ : ByteArray) ++ t181).size + 1 ≤ 9223372036854775807) = true := decide_eq_true c29
      try have c29b2 : (9223372036854775807 < ((⟨#[115, 108, 105, 99, 101, 32]⟩ : ByteArray) ++ t181).size + 1) = False := eq_false (Nat.not_lt.2 c29)
      have c29s : (9223372036854775807 < 6 + t181.size + 1) = False := eq_false (Nat.not_lt.2 (by have h_ := c29; (repeat rw [ByteArray.size_append] at h_); exact h_))
      replace H := oA H; obtain ⟨t182, A30, H⟩ := H
      replace H := iP H; obtain ⟨c31, H⟩ := H
      have c31b0 := eq_true c31
      have c31b1 : decide ((((⟨#[115, 108, 105, 99, 101, 32]⟩ : ByteArray) ++ t181) ++ (⟨#[32]⟩ : ByteArray)).size + t182.size ≤ 9223372036854775807) = true := decide_eq_true c31
      try have c31b2 : (9223372036854775807 < (((⟨#[115, 108, 105, 99, 101, 32]⟩ : ByteArray) ++ t181) ++ (⟨#[32]⟩ : ByteArray)).size + t182.size) = False := eq_false (Nat.not_lt.2 c31)
      have c31s : (9223372036854775807 < 6 + t181.size + 1 + t182.size) = False := eq_false (Nat.not_lt.2 (by have h_ := c31; (repeat rw [ByteArray.size_append] at h_); exact h_))
      have H' := am H
      clear H
      obtain ⟨hcz32_0, hcz32_1, hcz32_2, hcz32_3, hcz32_4, hcz32_5⟩ := cz6 BK176.out
      obtain ⟨hfz32_0, hfz32_1, hfz32_2, hfz32_3, hfz32_4, hfz32_5⟩ := fz6 BK176.out
      try go_wp2
      have n0_ := am (blk_drew BK176.out)
      have n1_ := am (below_drew1 HB.out)
      clear BK176
      clear HB
      have BK176 := n0_
      have HB := n1_
      clear n0_ n1_
      refine start_ (n := 10) (S := fun w' => w'.cell? ⟨gb176, 0, none⟩ = some (.int .i64 a0_0) ∧ w'.cell? ⟨gb176, 1, none⟩ = some (.int .i64 a0_1) ∧ w'.cell? ⟨gb176, 2, none⟩ = some (.int .i64 a0_2) ∧ w'.cell? ⟨gb176, 3, none⟩ = some (.int .i64 a0_3) ∧ w'.cell? ⟨gb176, 4, none⟩ = some (.int .i64 a0_4) ∧ w'.cell? ⟨gb176, 5, none⟩ = some (.int .i64 a0_5)) (ds := []) zA0x9 (by kernel_rfl) rfl rfl ⟨(blk_cell BK176.out 0).trans rfl, (blk_cell BK176.out 1).trans rfl, (blk_cell BK176.out 2).trans rfl, (blk_cell BK176.out 3).trans rfl, (blk_cell BK176.out 4).trans rfl, (blk_cell BK176.out 5).trans rfl⟩ (fun hHeld => ?_); refine with_tabW spec_l03Show.tab11 spec_l03Show.bits11 (fun HT_ HW_ => ?_)
      generalize w22.drew = w33 at BK176 HB hHeld ⊢
      refine pT (i := 0) (N := some 46) zA1x9 ?_
      refine pT (i := 5) (N := some 51) zA2x9 ?_
      refine take_ (i := 1) (N := some 47) (v := ?_) (a' := ?_) zA3x9 rfl rfl (take_ofW HT_.out HW_.out (by kernel_rfl)) (fun _ _ _ h => h) (Or.inl ⟨by rfl, ?_⟩) hHeld ?_ ?_
      rotate_left
      ·rintro w' ⟨s0, s1, s2, s3, s4, s5⟩
       go_simp
       with_reducible rfl
      rotate_left
      ·simp only [Act.put, List.setIfInBounds_toArray, List.set_cons_zero, List.set_cons_succ, i64_w, i32_w]
       rfl
      refine take_ (i := 6) (N := some 52) (v := ?_) (a' := ?_) zA4x9 rfl rfl (take_ofW HT_.out HW_.out (by kernel_rfl)) (fun _ _ _ h => h) (Or.inl ⟨by rfl, ?_⟩) hHeld ?_ ?_
      rotate_left
      ·rintro w' ⟨s0, s1, s2, s3, s4, s5⟩
       go_simp
       with_reducible rfl
      rotate_left
      ·simp only [Act.put, List.setIfInBounds_toArray, List.set_cons_zero, List.set_cons_succ, i64_w, i32_w]
       rfl
      refine one_ (i := 2) (N := some 48) zA5x9 rfl rfl (one_of HT_.out (by kernel_rfl)) (by decide) (fun K hK => ?_)
      refine goes_ Try.func84 (by kernel_rfl) rfl #[.int .i64 a0_2] (by rfl) rfl rfl tm ?_
      with_reducible refine (spec_l03Dec.calls _ _ _ _ A27.out).mono ?_
      rintro e w' ⟨rfl, ⟨nd, rfl⟩⟩
      refine ⟨_, rfl, ?_⟩
      refine hK.out _ _ ⟨(blk_cell BK176.out 0).trans rfl, (blk_cell BK176.out 1).trans rfl, (blk_cell BK176.out 2).trans rfl, (blk_cell BK176.out 3).trans rfl, (blk_cell BK176.out 4).trans rfl, (blk_cell BK176.out 5).trans rfl⟩ (fun hHeld => ?_)
      clear hK K
      refine norm_ (a' := ?_) ?_ ?_
      rotate_left
      ·show Act.put _ (some 48) _ = _
       simp only [Act.put, List.setIfInBounds_toArray, List.set_cons_zero, List.set_cons_succ, i64_w, i32_w]
       rfl
      refine pT (i := 3) (N := some 49) zA6x9 ?_
      refine pT (i := 4) (N := some 50) zA7x9 ?_
      refine one_ (i := 7) (N := some 53) zA8x9 rfl rfl (one_of HT_.out (by kernel_rfl)) (by decide) (fun K hK => ?_)
      refine goes_ Try.func84 (by kernel_rfl) rfl #[.int .i64 a0_1] (by rfl) rfl rfl tm ?_
      with_reducible refine (spec_l03Dec.calls _ _ _ _ A30.out).mono ?_
      rintro e w' ⟨rfl, ⟨nd, rfl⟩⟩
      refine ⟨_, rfl, ?_⟩
      refine hK.out _ _ ⟨(blk_cell BK176.out 0).trans rfl, (blk_cell BK176.out 1).trans rfl, (blk_cell BK176.out 2).trans rfl, (blk_cell BK176.out 3).trans rfl, (blk_cell BK176.out 4).trans rfl, (blk_cell BK176.out 5).trans rfl⟩ (fun hHeld => ?_)
      clear hK K
      refine norm_ (a' := ?_) ?_ ?_
      rotate_left
      ·show Act.put _ (some 53) _ = _
       simp only [Act.put, List.setIfInBounds_toArray, List.set_cons_zero, List.set_cons_succ, i64_w, i32_w]
       rfl
      refine pT (i := 8) (N := some 54) zA9x9 ?_
      refine pT (i := 9) (N := some 5) zA10x9 ?_
      refine done_ (done_of HT_.out (by kernel_rfl)) ?_
      try go_wp2
      go_meet
      case rel => exact ⟨_, ((((⟨#[115, 108, 105, 99, 101, 32]⟩ : ByteArray) ++ t181) ++ (⟨#[32]⟩ : ByteArray)) ++ t182), (by rfl), H', ⟨by omega⟩, ⟨by exact sB <| BK176.out⟩, ⟨by exact bW⟩⟩
     ·replace H := iE H; rcases H with ⟨c34b0, c34b1, H⟩ | ⟨c34b0, c34b1, H⟩
      ·have H' := am H
       clear H
       obtain ⟨hcz35_0, hcz35_1, hcz35_2, hcz35_3, hcz35_4, hcz35_5⟩ := cz6 BK176.out
       obtain ⟨hfz35_0, hfz35_1, hfz35_2, hfz35_3, hfz35_4, hfz35_5⟩ := fz6 BK176.out
       go_wp2
       go_meet
       case rel => exact ⟨_, ((⟨#[105, 102]⟩ : ByteArray)), (by rfl), H', ⟨by omega⟩, ⟨by exact sB <| BK176.out⟩, ⟨by exact bW⟩⟩
      ·replace H := iE H; rcases H with ⟨c36b0, c36b1, H⟩ | ⟨c36b0, c36b1, H⟩
       ·replace H := oA H; obtain ⟨t183, A37, H⟩ := H
        replace H := iP H; obtain ⟨c38, H⟩ := H
        have c38b0 := eq_true c38
        have c38b1 : decide (5 + t183.size ≤ 9223372036854775807) = true := decide_eq_true c38
        try have c38b2 : (9223372036854775807 < 5 + t183.size) = False := eq_false (Nat.not_lt.2 c38)
        replace H := iP H; obtain ⟨c39, H⟩ := H
        have c39b0 := eq_true c39
        have c39b1 : decide (((⟨#[97, 108, 108, 32, 118]⟩ : ByteArray) ++ t183).size + 1 ≤ 9223372036854775807) = true := decide_eq_true c39
        try have c39b2 : (9223372036854775807 < ((⟨#[97, 108, 108, 32, 118]⟩ : ByteArray) ++ t183).size + 1) = False := eq_false (Nat.not_lt.2 c39)
        have c39s : (9223372036854775807 < 5 + t183.size + 1) = False := eq_false (Nat.not_lt.2 (by have h_ := c39; (repeat rw [ByteArray.size_append] at h_); exact h_))
        replace H := oA H; obtain ⟨t184, A40, H⟩ := H
        replace H := iP H; obtain ⟨c41, H⟩ := H
        have c41b0 := eq_true c41
        have c41b1 : decide ((((⟨#[97, 108, 108, 32, 118]⟩ : ByteArray) ++ t183) ++ (⟨#[58]⟩ : ByteArray)).size + t184.size ≤ 9223372036854775807) = true := decide_eq_true c41
        try have c41b2 : (9223372036854775807 < (((⟨#[97, 108, 108, 32, 118]⟩ : ByteArray) ++ t183) ++ (⟨#[58]⟩ : ByteArray)).size + t184.size) = False := eq_false (Nat.not_lt.2 c41)
        have c41s : (9223372036854775807 < 5 + t183.size + 1 + t184.size) = False := eq_false (Nat.not_lt.2 (by have h_ := c41; (repeat rw [ByteArray.size_append] at h_); exact h_))
        have H' := am H
        clear H
        obtain ⟨hcz42_0, hcz42_1, hcz42_2, hcz42_3, hcz42_4, hcz42_5⟩ := cz6 BK176.out
        obtain ⟨hfz42_0, hfz42_1, hfz42_2, hfz42_3, hfz42_4, hfz42_5⟩ := fz6 BK176.out
        try go_wp2
        have n0_ := am (blk_drew BK176.out)
        have n1_ := am (below_drew1 HB.out)
        clear BK176
        clear HB
        have BK176 := n0_
        have HB := n1_
        clear n0_ n1_
        refine start_ (n := 10) (S := fun w' => w'.cell? ⟨gb176, 0, none⟩ = some (.int .i64 a0_0) ∧ w'.cell? ⟨gb176, 1, none⟩ = some (.int .i64 a0_1) ∧ w'.cell? ⟨gb176, 2, none⟩ = some (.int .i64 a0_2) ∧ w'.cell? ⟨gb176, 3, none⟩ = some (.int .i64 a0_3) ∧ w'.cell? ⟨gb176, 4, none⟩ = some (.int .i64 a0_4) ∧ w'.cell? ⟨gb176, 5, none⟩ = some (.int .i64 a0_5)) (ds := []) zA0x9 (by kernel_rfl) rfl rfl ⟨(blk_cell BK176.out 0).trans rfl, (blk_cell BK176.out 1).trans rfl, (blk_cell BK176.out 2).trans rfl, (blk_cell BK176.out 3).trans rfl, (blk_cell BK176.out 4).trans rfl, (blk_cell BK176.out 5).trans rfl⟩ (fun hHeld => ?_); refine with_tabW spec_l03Show.tab15 spec_l03Show.bits15 (fun HT_ HW_ => ?_)
        generalize w22.drew = w43 at BK176 HB hHeld ⊢
        refine pT (i := 0) (N := some 63) zA1x9 ?_
        refine pT (i := 5) (N := some 68) zA2x9 ?_
        refine take_ (i := 1) (N := some 64) (v := ?_) (a' := ?_) zA3x9 rfl rfl (take_ofW HT_.out HW_.out (by kernel_rfl)) (fun _ _ _ h => h) (Or.inl ⟨by rfl, ?_⟩) hHeld ?_ ?_
        rotate_left
        ·rintro w' ⟨s0, s1, s2, s3, s4, s5⟩
         go_simp
         with_reducible rfl
        rotate_left
        ·simp only [Act.put, List.setIfInBounds_toArray, List.set_cons_zero, List.set_cons_succ, i64_w, i32_w]
         rfl
        refine take_ (i := 6) (N := some 69) (v := ?_) (a' := ?_) zA4x9 rfl rfl (take_ofW HT_.out HW_.out (by kernel_rfl)) (fun _ _ _ h => h) (Or.inl ⟨by rfl, ?_⟩) hHeld ?_ ?_
        rotate_left
        ·rintro w' ⟨s0, s1, s2, s3, s4, s5⟩
         go_simp
         with_reducible rfl
        rotate_left
        ·simp only [Act.put, List.setIfInBounds_toArray, List.set_cons_zero, List.set_cons_succ, i64_w, i32_w]
         rfl
        refine one_ (i := 2) (N := some 65) zA5x9 rfl rfl (one_of HT_.out (by kernel_rfl)) (by decide) (fun K hK => ?_)
        refine goes_ Try.func84 (by kernel_rfl) rfl #[.int .i64 a0_2] (by rfl) rfl rfl tm ?_
        with_reducible refine (spec_l03Dec.calls _ _ _ _ A37.out).mono ?_
        rintro e w' ⟨rfl, ⟨nd, rfl⟩⟩
        refine ⟨_, rfl, ?_⟩
        refine hK.out _ _ ⟨(blk_cell BK176.out 0).trans rfl, (blk_cell BK176.out 1).trans rfl, (blk_cell BK176.out 2).trans rfl, (blk_cell BK176.out 3).trans rfl, (blk_cell BK176.out 4).trans rfl, (blk_cell BK176.out 5).trans rfl⟩ (fun hHeld => ?_)
        clear hK K
        refine norm_ (a' := ?_) ?_ ?_
        rotate_left
        ·show Act.put _ (some 65) _ = _
         simp only [Act.put, List.setIfInBounds_toArray, List.set_cons_zero, List.set_cons_succ, i64_w, i32_w]
         rfl
        refine pT (i := 3) (N := some 66) zA6x9 ?_
        refine pT (i := 4) (N := some 67) zA7x9 ?_
        refine one_ (i := 7) (N := some 70) zA8x9 rfl rfl (one_of HT_.out (by kernel_rfl)) (by decide) (fun K hK => ?_)
        refine goes_ Try.func84 (by kernel_rfl) rfl #[.int .i64 a0_4] (by rfl) rfl rfl tm ?_
        with_reducible refine (spec_l03Dec.calls _ _ _ _ A40.out).mono ?_
        rintro e w' ⟨rfl, ⟨nd, rfl⟩⟩
        refine ⟨_, rfl, ?_⟩
        refine hK.out _ _ ⟨(blk_cell BK176.out 0).trans rfl, (blk_cell BK176.out 1).trans rfl, (blk_cell BK176.out 2).trans rfl, (blk_cell BK176.out 3).trans rfl, (blk_cell BK176.out 4).trans rfl, (blk_cell BK176.out 5).trans rfl⟩ (fun hHeld => ?_)
        clear hK K
        refine norm_ (a' := ?_) ?_ ?_
        rotate_left
        ·show Act.put _ (some 70) _ = _
         simp only [Act.put, List.setIfInBounds_toArray, List.set_cons_zero, List.set_cons_succ, i64_w, i32_w]
         rfl
        refine pT (i := 8) (N := some 71) zA9x9 ?_
        refine pT (i := 9) (N := some 5) zA10x9 ?_
        refine done_ (done_of HT_.out (by kernel_rfl)) ?_
        try go_wp2
        go_meet
        case rel => exact ⟨_, ((((⟨#[97, 108, 108, 32, 118]⟩ : ByteArray) ++ t183) ++ (⟨#[58]⟩ : ByteArray)) ++ t184), (by rfl), H', ⟨by omega⟩, ⟨by exact sB <| BK176.out⟩, ⟨by exact bW⟩⟩
       ·replace H := iE H; rcases H with ⟨c44b0, c44b1, H⟩ | ⟨c44b0, c44b1, H⟩
        ·replace H := oA H; obtain ⟨t185, A45, H⟩ := H
         replace H := iP H; obtain ⟨c46, H⟩ := H
         have c46b0 := eq_true c46
         have c46b1 : decide (6 + t185.size ≤ 9223372036854775807) = true := decide_eq_true c46
         try have c46b2 : (9223372036854775807 < 6 + t185.size) = False := eq_false (Nat.not_lt.2 c46)
         replace H := iP H; obtain ⟨c47, H⟩ := H
         have c47b0 := eq_true c47
         have c47b1 : decide (((⟨#[115, 111, 109, 101, 32, 118]⟩ : ByteArray) ++ t185).size + 1 ≤ 9223372036854775807) = true := decide_eq_true c47
         try have c47b2 : (9223372036854775807 < ((⟨#[115, 111, 109, 101, 32, 118]⟩ : ByteArray) ++ t185).size + 1) = False := eq_false (Nat.not_lt.2 c47)
         have c47s : (9223372036854775807 < 6 + t185.size + 1) = False := eq_false (Nat.not_lt.2 (by have h_ := c47; (repeat rw [ByteArray.size_append] at h_); exact h_))
         replace H := oA H; obtain ⟨t186, A48, H⟩ := H
         replace H := iP H; obtain ⟨c49, H⟩ := H
         have c49b0 := eq_true c49
         have c49b1 : decide ((((⟨#[115, 111, 109, 101, 32, 118]⟩ : ByteArray) ++ t185) ++ (⟨#[58]⟩ : ByteArray)).size + t186.size ≤ 9223372036854775807) = true := decide_eq_true c49
         try have c49b2 : (9223372036854775807 < (((⟨#[115, 111, 109, 101, 32, 118]⟩ : ByteArray) ++ t185) ++ (⟨#[58]⟩ : ByteArray)).size + t186.size) = False := eq_false (Nat.not_lt.2 c49)
         have c49s : (9223372036854775807 < 6 + t185.size + 1 + t186.size) = False := eq_false (Nat.not_lt.2 (by have h_ := c49; (repeat rw [ByteArray.size_append] at h_); exact h_))
         have H' := am H
         clear H
         obtain ⟨hcz50_0, hcz50_1, hcz50_2, hcz50_3, hcz50_4, hcz50_5⟩ := cz6 BK176.out
         obtain ⟨hfz50_0, hfz50_1, hfz50_2, hfz50_3, hfz50_4, hfz50_5⟩ := fz6 BK176.out
         try go_wp2
         have n0_ := am (blk_drew BK176.out)
         have n1_ := am (below_drew1 HB.out)
         clear BK176
         clear HB
         have BK176 := n0_
         have HB := n1_
         clear n0_ n1_
         refine start_ (n := 10) (S := fun w' => w'.cell? ⟨gb176, 0, none⟩ = some (.int .i64 a0_0) ∧ w'.cell? ⟨gb176, 1, none⟩ = some (.int .i64 a0_1) ∧ w'.cell? ⟨gb176, 2, none⟩ = some (.int .i64 a0_2) ∧ w'.cell? ⟨gb176, 3, none⟩ = some (.int .i64 a0_3) ∧ w'.cell? ⟨gb176, 4, none⟩ = some (.int .i64 a0_4) ∧ w'.cell? ⟨gb176, 5, none⟩ = some (.int .i64 a0_5)) (ds := []) zA0x9 (by kernel_rfl) rfl rfl ⟨(blk_cell BK176.out 0).trans rfl, (blk_cell BK176.out 1).trans rfl, (blk_cell BK176.out 2).trans rfl, (blk_cell BK176.out 3).trans rfl, (blk_cell BK176.out 4).trans rfl, (blk_cell BK176.out 5).trans rfl⟩ (fun hHeld => ?_); refine with_tabW spec_l03Show.tab17 spec_l03Show.bits17 (fun HT_ HW_ => ?_)
         generalize w22.drew = w51 at BK176 HB hHeld ⊢
         refine pT (i := 0) (N := some 76) zA1x9 ?_
         refine pT (i := 5) (N := some 81) zA2x9 ?_
         refine take_ (i := 1) (N := some 77) (v := ?_) (a' := ?_) zA3x9 rfl rfl (take_ofW HT_.out HW_.out (by kernel_rfl)) (fun _ _ _ h => h) (Or.inl ⟨by rfl, ?_⟩) hHeld ?_ ?_
         rotate_left
         ·rintro w' ⟨s0, s1, s2, s3, s4, s5⟩
          go_simp
          with_reducible rfl
         rotate_left
         ·simp only [Act.put, List.setIfInBounds_toArray, List.set_cons_zero, List.set_cons_succ, i64_w, i32_w]
          rfl
         refine take_ (i := 6) (N := some 82) (v := ?_) (a' := ?_) zA4x9 rfl rfl (take_ofW HT_.out HW_.out (by kernel_rfl)) (fun _ _ _ h => h) (Or.inl ⟨by rfl, ?_⟩) hHeld ?_ ?_
         rotate_left
         ·rintro w' ⟨s0, s1, s2, s3, s4, s5⟩
          go_simp
          with_reducible rfl
         rotate_left
         ·simp only [Act.put, List.setIfInBounds_toArray, List.set_cons_zero, List.set_cons_succ, i64_w, i32_w]
          rfl
         refine one_ (i := 2) (N := some 78) zA5x9 rfl rfl (one_of HT_.out (by kernel_rfl)) (by decide) (fun K hK => ?_)
         refine goes_ Try.func84 (by kernel_rfl) rfl #[.int .i64 a0_2] (by rfl) rfl rfl tm ?_
         with_reducible refine (spec_l03Dec.calls _ _ _ _ A45.out).mono ?_
         rintro e w' ⟨rfl, ⟨nd, rfl⟩⟩
         refine ⟨_, rfl, ?_⟩
         refine hK.out _ _ ⟨(blk_cell BK176.out 0).trans rfl, (blk_cell BK176.out 1).trans rfl, (blk_cell BK176.out 2).trans rfl, (blk_cell BK176.out 3).trans rfl, (blk_cell BK176.out 4).trans rfl, (blk_cell BK176.out 5).trans rfl⟩ (fun hHeld => ?_)
         clear hK K
         refine norm_ (a' := ?_) ?_ ?_
         rotate_left
         ·show Act.put _ (some 78) _ = _
          simp only [Act.put, List.setIfInBounds_toArray, List.set_cons_zero, List.set_cons_succ, i64_w, i32_w]
          rfl
         refine pT (i := 3) (N := some 79) zA6x9 ?_
         refine pT (i := 4) (N := some 80) zA7x9 ?_
         refine one_ (i := 7) (N := some 83) zA8x9 rfl rfl (one_of HT_.out (by kernel_rfl)) (by decide) (fun K hK => ?_)
         refine goes_ Try.func84 (by kernel_rfl) rfl #[.int .i64 a0_4] (by rfl) rfl rfl tm ?_
         with_reducible refine (spec_l03Dec.calls _ _ _ _ A48.out).mono ?_
         rintro e w' ⟨rfl, ⟨nd, rfl⟩⟩
         refine ⟨_, rfl, ?_⟩
         refine hK.out _ _ ⟨(blk_cell BK176.out 0).trans rfl, (blk_cell BK176.out 1).trans rfl, (blk_cell BK176.out 2).trans rfl, (blk_cell BK176.out 3).trans rfl, (blk_cell BK176.out 4).trans rfl, (blk_cell BK176.out 5).trans rfl⟩ (fun hHeld => ?_)
         clear hK K
         refine norm_ (a' := ?_) ?_ ?_
         rotate_left
         ·show Act.put _ (some 83) _ = _
          simp only [Act.put, List.setIfInBounds_toArray, List.set_cons_zero, List.set_cons_succ, i64_w, i32_w]
          rfl
         refine pT (i := 8) (N := some 84) zA9x9 ?_
         refine pT (i := 9) (N := some 5) zA10x9 ?_
         refine done_ (done_of HT_.out (by kernel_rfl)) ?_
         try go_wp2
         go_meet
         case rel => exact ⟨_, ((((⟨#[115, 111, 109, 101, 32, 118]⟩ : ByteArray) ++ t185) ++ (⟨#[58]⟩ : ByteArray)) ++ t186), (by rfl), H', ⟨by omega⟩, ⟨by exact sB <| BK176.out⟩, ⟨by exact bW⟩⟩
        ·replace H := oA H; obtain ⟨t187, A52, H⟩ := H
         obtain ⟨ji53, hji53⟩ : ∃ j_ : Int, (wrap64 (a0_0 - 3)) = j_ := ⟨_, rfl⟩
         replace H : (if 0 ≤ (ji53) then (if (ji53) < (t187.length : Int) then (spec_l03Show.j0 k l1 (rdOf ByteArray.empty t187 (ji53)) a0_0 a0_1 a0_2 a0_3 a0_4 a0_5) else (none)) else (none)) = some r := by (rw [hji53] at H; exact H)
         (try rw [hji53] at A52)
         have hji53w : (IntKind.i64.wrap (a0_0 - 3)) = ji53 := (i64_w _).trans hji53
         replace H := iN H; obtain ⟨c54b0, H⟩ := H
         replace H := iN H; obtain ⟨c55b0, H⟩ := H
         have H' := am H
         clear H
         obtain ⟨hcz56_0, hcz56_1, hcz56_2, hcz56_3, hcz56_4, hcz56_5⟩ := cz6 BK176.out
         obtain ⟨hfz56_0, hfz56_1, hfz56_2, hfz56_3, hfz56_4, hfz56_5⟩ := fz6 BK176.out
         try go_wp2
         have n0_ := am (blk_drew BK176.out)
         have n1_ := am (below_drew1 HB.out)
         clear BK176
         clear HB
         have BK176 := n0_
         have HB := n1_
         clear n0_ n1_
         refine start_ (n := 7) (S := fun w' => w'.cell? ⟨gb176, 0, none⟩ = some (.int .i64 a0_0) ∧ w'.cell? ⟨gb176, 1, none⟩ = some (.int .i64 a0_1) ∧ w'.cell? ⟨gb176, 2, none⟩ = some (.int .i64 a0_2) ∧ w'.cell? ⟨gb176, 3, none⟩ = some (.int .i64 a0_3) ∧ w'.cell? ⟨gb176, 4, none⟩ = some (.int .i64 a0_4) ∧ w'.cell? ⟨gb176, 5, none⟩ = some (.int .i64 a0_5)) (ds := []) #[false, false, false, false, false, false, false] (by kernel_rfl) rfl rfl ⟨(blk_cell BK176.out 0).trans rfl, (blk_cell BK176.out 1).trans rfl, (blk_cell BK176.out 2).trans rfl, (blk_cell BK176.out 3).trans rfl, (blk_cell BK176.out 4).trans rfl, (blk_cell BK176.out 5).trans rfl⟩ (fun hHeld => ?_)
         generalize w22.drew = w57 at BK176 HB hHeld ⊢
         refine pS (i := 1) (N := some 33) #[false, true, false, false, false, false, false] ?_
         refine take_ (i := 2) (N := some 34) (v := ?_) (a' := ?_) #[false, true, true, false, false, false, false] rfl rfl (by kernel_rfl) (fun _ _ _ h => h) (Or.inl ⟨by rfl, ?_⟩) hHeld ?_ ?_
         rotate_left
         ·rintro w' ⟨s0, s1, s2, s3, s4, s5⟩
          go_simp
          with_reducible rfl
         rotate_left
         ·simp only [Act.put, List.setIfInBounds_toArray, List.set_cons_zero, List.set_cons_succ, i64_w, i32_w]
          rfl
         refine pS (i := 3) (N := some 35) #[false, true, true, true, false, false, false] ?_
         refine one_ (i := 0) (N := some 32) #[true, true, true, true, false, false, false] rfl rfl (by kernel_rfl) (by decide) (fun K hK => ?_)
         refine goes_ Try.func85 (by kernel_rfl) rfl #[] (by rfl) rfl rfl (by (try simp only [List.map_toArray, List.map_cons, List.map_nil]); done) ?_
         with_reducible refine (spec_l03Words.calls _ _ A52.out).mono ?_
         rintro e w58 ⟨v188, rfl, ho0, hb⟩
         refine ⟨_, rfl, ?_⟩
         have n0_ := am (Kd.R_lower ho0 (below_size (by exact bW)))
         have n1_ := am (blk_below (g := gb176) (o := .cells #[.int .i64 a0_0, .int .i64 a0_1, .int .i64 a0_2, .int .i64 a0_3, .int .i64 a0_4, .int .i64 a0_5] 31 (0, 0)) (by exact sB <| BK176.out) hb)
         have n2_ := am (below_step (by exact bW) hb)
         clear BK176
         clear HB
         have HO189 := n0_
         have BK176 := n1_
         have HB := n2_
         clear n0_ n1_ n2_
         clear hb
         clear ho0
         obtain ⟨Ao59, co59, eo59⟩ := Kd.R_slice HO189.out
         (subst eo59)
         obtain ⟨p190, q190, ad190, rfl, hx190_0⟩ := ix (Kd.at_string (Kd.R_reads' HO189.out).2.2 (ji53))
         refine hK.out _ _ ⟨(blk_cell BK176.out 0).trans rfl, (blk_cell BK176.out 1).trans rfl, (blk_cell BK176.out 2).trans rfl, (blk_cell BK176.out 3).trans rfl, (blk_cell BK176.out 4).trans rfl, (blk_cell BK176.out 5).trans rfl⟩ (fun hHeld => ?_)
         clear hK K
         refine norm_ (a' := ?_) ?_ ?_
         rotate_left
         ·show Act.put _ (some 32) _ = _
          simp only [Act.put, List.setIfInBounds_toArray, List.set_cons_zero, List.set_cons_succ, i64_w, i32_w]
          rfl
         refine pS (i := 4) (N := some 36) #[true, true, true, true, true, false, false] ?_
         refine one_ (i := 5) (N := some 37) #[true, true, true, true, true, true, false] rfl rfl (by kernel_rfl) (by decide) (fun K hK => ?_)
         refine value_ (v := .string (rdOf ByteArray.empty t187 (ji53))) (w1 := w58) (by rfl) rfl (by go_simp) ?_
         refine hK.out _ _ ⟨(blk_cell BK176.out 0).trans rfl, (blk_cell BK176.out 1).trans rfl, (blk_cell BK176.out 2).trans rfl, (blk_cell BK176.out 3).trans rfl, (blk_cell BK176.out 4).trans rfl, (blk_cell BK176.out 5).trans rfl⟩ (fun hHeld => ?_)
         clear hK K
         refine norm_ (a' := ?_) ?_ ?_
         rotate_left
         ·show Act.put _ (some 37) _ = _
          simp only [Act.put, List.setIfInBounds_toArray, List.set_cons_zero, List.set_cons_succ, i64_w, i32_w]
          rfl
         refine pS (i := 6) (N := some 5) #[true, true, true, true, true, true, true] ?_
         refine done_ (by kernel_rfl) ?_
         try go_wp2
         go_meet
         case rel => exact ⟨_, (rdOf ByteArray.empty t187 (ji53)), (by rfl), H', ⟨by omega⟩, ⟨by exact sB <| BK176.out⟩, ⟨by exact bW⟩⟩
   case rest =>
    clear HC21
    clear c3
    obtain ⟨kq, x5_20, rfl, HA, HJ20, BK176, HB⟩ := hcut
    cases kq with
    | zero => exact absurd HA.out (by simp [spec_l03Show.j0])
    | succ kj20 =>
     have H := HA.out
     clear HA
     simp only [spec_l03Show.j0] at H
     replace H := oA H; obtain ⟨t191, A60, H⟩ := H
     have H' := am H
     clear H
     obtain ⟨hcz61_0, hcz61_1, hcz61_2, hcz61_3, hcz61_4, hcz61_5⟩ := cz6 BK176.out
     obtain ⟨hfz61_0, hfz61_1, hfz61_2, hfz61_3, hfz61_4, hfz61_5⟩ := fz6 BK176.out
     go_wp2_with (first | ((with_reducible refine gate_callee (f := 70) rfl ?_); refine goesL_ (some 86) rfl rfl Try.func70 (by kernel_rfl) rfl #[.agg #[.int .i64 a0_0, .int .i64 a0_1, .int .i64 a0_2, .int .i64 a0_3, .int .i64 a0_4, .int .i64 a0_5]] rfl tm ?_; (with_reducible refine (spec_Parts.calls _ _ _ _ _ _ _ _ _ A60.out).mono ?_); rintro e w62 ⟨v192, rfl, ho0, hb⟩; refine ⟨_, rfl, ?_⟩; have n0_ := am (Kd.R_lower ho0 (below_size (by exact bW))); have n1_ := am (blk_below (g := gb176) (o := .cells #[.int .i64 a0_0, .int .i64 a0_1, .int .i64 a0_2, .int .i64 a0_3, .int .i64 a0_4, .int .i64 a0_5] 31 (0, 0)) (by exact sB <| BK176.out) hb); have n2_ := am (below_step (by exact bW) hb); clear BK176; clear HB; have HO193 := n0_; have BK176 := n1_; have HB := n2_; clear n0_ n1_ n2_; (try clear hb); (try clear hb2); (try clear hk); (try clear hi); (try clear ho0)))
     go_loopg [5, 7] kj20 (fun kq v5 v7 w' => ∃ (x5_2 : ByteArray) (x7_2 : Int), v5 = .string x5_2 ∧ v7 = .int .i64 x7_2 ∧ Aside0 (spec_l03Show.l0 kq l1 x5_2 t191 x7_2 = some r) ∧ Aside0 (kq ≤ kj20) ∧ Aside0 (Kd.R (Kd.int .i64) 3 w' w.heap.size (fun _ => True) v192 t191) ∧ Aside0 (w'.heap[gb176]? = some (.cells #[.int .i64 a0_0, .int .i64 a0_1, .int .i64 a0_2, .int .i64 a0_3, .int .i64 a0_4, .int .i64 a0_5] 31 (0, 0))) ∧ Aside0 (Below w.heap.size w w'))
     case atStart => exact ⟨(x5_20), (0), (by rfl), (by rfl), H', ⟨Nat.le_refl _⟩, ⟨by exact sR <| HO193.out⟩, ⟨by exact sB <| BK176.out⟩, ⟨by exact bW⟩⟩
     case round =>
      clear H'
      clear hcz61_0 hcz61_1 hcz61_2 hcz61_3 hcz61_4 hcz61_5 hfz61_0 hfz61_1 hfz61_2 hfz61_3 hfz61_4 hfz61_5
      obtain ⟨x5_2, x7_2, rfl, rfl, HA, HK2, HO_6, BK176, HB⟩ := hrel
      cases gk with
      | zero => exact absurd HA.out (by simp [spec_l03Show.l0])
      | succ k2 =>
       have H := HA.out
       clear HA
       simp only [spec_l03Show.l0] at H
       replace H := iD H; rcases H with ⟨c63b0, H⟩ | ⟨c63b0, H⟩
       ·replace H := iN H; obtain ⟨c64b0, H⟩ := H
        replace H := iN H; obtain ⟨c65b0, H⟩ := H
        replace H := iN H; obtain ⟨c66b0, H⟩ := H
        replace H := iE H; rcases H with ⟨c67b0, c67b1, H⟩ | ⟨c67b0, c67b1, H⟩
        ·obtain rfl := oI H
         obtain ⟨Ao68, co68, eo68⟩ := Kd.R_slice HO_6.out
         subst eo68
         obtain ⟨p194, q194, ad194, rfl, hx194_0⟩ := ix (Kd.at_int (Kd.R_reads' HO_6.out).2.2 x7_2)
         obtain ⟨p195, q195, ad195, rfl, hx195_0⟩ := ix (Kd.at_string HR1.out (rd t191 x7_2))
         replace hx195_0 := pw_cell_below HB.out hx195_0
         go_wp2
         go_ret
         exact ⟨by rfl, by exact bW⟩
        ·replace H := iP H; obtain ⟨c69, H⟩ := H
         have c69b0 := eq_true c69
         have c69b1 : decide (x5_2.size + 1 ≤ 9223372036854775807) = true := decide_eq_true c69
         try have c69b2 : (9223372036854775807 < x5_2.size + 1) = False := eq_false (Nat.not_lt.2 c69)
         replace H := iP H; obtain ⟨c70, H⟩ := H
         have c70b0 := eq_true c70
         have c70b1 : decide ((x5_2 ++ (⟨#[32]⟩ : ByteArray)).size + (rdOf ByteArray.empty l1 (rd t191 x7_2)).size ≤ 9223372036854775807) = true := decide_eq_true c70
         try have c70b2 : (9223372036854775807 < (x5_2 ++ (⟨#[32]⟩ : ByteArray)).size + (rdOf ByteArray.empty l1 (rd t191 x7_2)).size) = False := eq_false (Nat.not_lt.2 c70)
         have c70s : (9223372036854775807 < x5_2.size + 1 + (rdOf ByteArray.empty l1 (rd t191 x7_2)).size) = False := eq_false (Nat.not_lt.2 (by have h_ := c70; (repeat rw [ByteArray.size_append] at h_); exact h_))
         have H' := am H
         clear H
         obtain ⟨Ao71, co71, eo71⟩ := Kd.R_slice HO_6.out
         subst eo71
         obtain ⟨p194, q194, ad194, rfl, hx194_0⟩ := ix (Kd.at_int (Kd.R_reads' HO_6.out).2.2 x7_2)
         obtain ⟨p195, q195, ad195, rfl, hx195_0⟩ := ix (Kd.at_string HR1.out (rd t191 x7_2))
         replace hx195_0 := pw_cell_below HB.out hx195_0
         have p196 : 0 ≤ (x7_2 : Int) := oD (by assumption)
         have q196 : x7_2 < (t191.length : Int) := oD (by assumption)
         obtain ⟨ad196, e196, hx196_0⟩ := Kd.at_int (Kd.R_reads' HO_6.out).2.2 x7_2 p196 q196
         obtain rfl : ad194 = ad196 := (by injection e196)
         replace p196 := eq_true p196
         replace q196 := eq_true q196
         have p197 : 0 ≤ ((rd t191 x7_2) : Int) := oD (by assumption)
         have q197 : (rd t191 x7_2) < (l1.length : Int) := oD (by assumption)
         obtain ⟨ad197, e197, hx197_0⟩ := Kd.at_string HR1.out (rd t191 x7_2) p197 q197
         obtain rfl : ad195 = ad197 := (by injection e197)
         replace hx197_0 := pw_cell_below HB.out hx197_0
         replace p197 := eq_true p197
         replace q197 := eq_true q197
         go_wp2
         go_roundg k2
         case measure => have := HJ20.out; have := HK2.out; omega
         case rel => exact ⟨((x5_2 ++ (⟨#[32]⟩ : ByteArray)) ++ (rdOf ByteArray.empty l1 (rd t191 x7_2))), (wrap64 (x7_2 + 1)), (by rfl), (by rfl), H', ⟨by have := HJ20.out; have := HK2.out; omega⟩, ⟨by exact sR <| HO_6.out⟩, ⟨by exact sB <| BK176.out⟩, ⟨by exact bW⟩⟩
       ·by_cases c72 : (wrap64 ((x5_2.size : Int) + 2)) > 4000
        ·rw [if_pos c72] at H
         have c72b0 : decide (4000 < (wrap64 ((x5_2.size : Int) + 2))) = true := decide_eq_true c72
         clear c72
         obtain rfl := oI H
         obtain ⟨Ao73, co73, eo73⟩ := Kd.R_slice HO_6.out
         subst eo73
         go_wp2
         go_ret
         exact ⟨by rfl, by exact bW⟩
        ·rw [if_neg c72] at H
         have c72b0 : decide (4000 < (wrap64 ((x5_2.size : Int) + 2))) = false := decide_eq_false c72
         clear c72
         replace H := iP H; obtain ⟨c74, H⟩ := H
         have c74b0 := eq_true c74
         have c74b1 : decide (1 + x5_2.size ≤ 9223372036854775807) = true := decide_eq_true c74
         try have c74b2 : (9223372036854775807 < 1 + x5_2.size) = False := eq_false (Nat.not_lt.2 c74)
         replace H := iP H; obtain ⟨c75, H⟩ := H
         have c75b0 := eq_true c75
         have c75b1 : decide (((⟨#[40]⟩ : ByteArray) ++ x5_2).size + 1 ≤ 9223372036854775807) = true := decide_eq_true c75
         try have c75b2 : (9223372036854775807 < ((⟨#[40]⟩ : ByteArray) ++ x5_2).size + 1) = False := eq_false (Nat.not_lt.2 c75)
         have c75s : (9223372036854775807 < 1 + x5_2.size + 1) = False := eq_false (Nat.not_lt.2 (by have h_ := c75; (repeat rw [ByteArray.size_append] at h_); exact h_))
         obtain rfl := oI H
         obtain ⟨Ao76, co76, eo76⟩ := Kd.R_slice HO_6.out
         subst eo76
         go_wp2
         go_ret
         exact ⟨by rfl, by exact bW⟩
end Go.Proofs.Ytkpipmojkhikaaa.PAll
