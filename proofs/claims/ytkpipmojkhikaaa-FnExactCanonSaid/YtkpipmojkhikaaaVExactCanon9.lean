/- Written by a program of this session over the loaded program, and by hand: Go functions as plain Lean functions, and that a call comes to what they say. -/
import Derived.Test.YtkpipmojkhikaaaVExactCanon0
import Derived.Test.YtkpipmojkhikaaaVExactCanon8
import Derived.Test.YtkpipmojkhikaaaBase
import Derived.Test.YtkpipmojkhikaaaSq
namespace Go.Proofs.Ytkpipmojkhikaaa.PAll
open Go.RowKit Go.Proofs.YtkpipmojkhikaaaW.PrintWords Go.Proofs.YtkpipmojkhikaaaW.PrintLast Go.Proofs.YtkpipmojkhikaaaW.PrintMore Go.Proofs.YtkpipmojkhikaaaW.Sq
attribute [local go_sem] max2_int min2_int max_two min_two max_three min_three max_four min_four   -- for this text's walks alone
set_option linter.unusedVariables false
set_option linter.unusedSimpArgs false

@[reducible] def zA0x22 : Array Bool := #[false, false, false, false, false, false, false, false, false, false]
@[reducible] def zA1x22 : Array Bool := #[true, false, false, false, false, false, false, false, false, false]
@[reducible] def zA2x22 : Array Bool := #[true, false, false, false, false, true, false, false, false, false]
@[reducible] def zA3x22 : Array Bool := #[true, true, false, false, false, true, false, false, false, false]
@[reducible] def zA4x22 : Array Bool := #[true, true, false, false, false, true, true, false, false, false]
@[reducible] def zA5x22 : Array Bool := #[true, true, true, false, false, true, true, false, false, false]
@[reducible] def zA6x22 : Array Bool := #[true, true, true, true, false, true, true, false, false, false]
@[reducible] def zA7x22 : Array Bool := #[true, true, true, true, true, true, true, false, false, false]
@[reducible] def zA8x22 : Array Bool := #[true, true, true, true, true, true, true, true, false, false]
@[reducible] def zA9x22 : Array Bool := #[true, true, true, true, true, true, true, true, true, false]
@[reducible] def zA10x22 : Array Bool := #[true, true, true, true, true, true, true, true, true, true]
/-! ### impl_head: function 57 -/
def impl_head.f (k : Nat) (a0_0 : Int) (a0_1 : Int) (a0_2 : Int) (a0_3 : Int) (a0_4 : Int) (a0_5 : Int) : Option (ByteArray) := if a0_0 = 0 then ((impl_decimal.f k a0_1).bind fun t356 => (if 1 + t356.size ≤ 9223372036854775807 then (if ((⟨#[35]⟩ : ByteArray) ++ t356).size + 1 ≤ 9223372036854775807 then ((impl_decimal.f k a0_2).bind fun t357 => (if (((⟨#[35]⟩ : ByteArray) ++ t356) ++ (⟨#[58]⟩ : ByteArray)).size + t357.size ≤ 9223372036854775807 then (some ((((⟨#[35]⟩ : ByteArray) ++ t356) ++ (⟨#[58]⟩ : ByteArray)) ++ t357)) else (none))) else (none)) else (none))) else (if a0_0 = 1 then ((impl_decimal.f k a0_2).bind fun t358 => (if 1 + t358.size ≤ 9223372036854775807 then (if ((⟨#[118]⟩ : ByteArray) ++ t358).size + 1 ≤ 9223372036854775807 then ((impl_decimal.f k a0_1).bind fun t359 => (if (((⟨#[118]⟩ : ByteArray) ++ t358) ++ (⟨#[58]⟩ : ByteArray)).size + t359.size ≤ 9223372036854775807 then (some ((((⟨#[118]⟩ : ByteArray) ++ t358) ++ (⟨#[58]⟩ : ByteArray)) ++ t359)) else (none))) else (none)) else (none))) else (if a0_0 = 2 then (some (⟨#[40, 110, 111, 116]⟩ : ByteArray)) else (if a0_0 = 17 then ((impl_decimal.f k a0_2).bind fun t360 => (if 7 + t360.size ≤ 9223372036854775807 then (if ((⟨#[40, 115, 108, 105, 99, 101, 32]⟩ : ByteArray) ++ t360).size + 1 ≤ 9223372036854775807 then ((impl_decimal.f k a0_1).bind fun t361 => (if (((⟨#[40, 115, 108, 105, 99, 101, 32]⟩ : ByteArray) ++ t360) ++ (⟨#[32]⟩ : ByteArray)).size + t361.size ≤ 9223372036854775807 then (some ((((⟨#[40, 115, 108, 105, 99, 101, 32]⟩ : ByteArray) ++ t360) ++ (⟨#[32]⟩ : ByteArray)) ++ t361)) else (none))) else (none)) else (none))) else (if a0_0 = 18 then (some (⟨#[40, 105, 102]⟩ : ByteArray)) else (if a0_0 = 19 then ((impl_decimal.f k a0_2).bind fun t362 => (if 6 + t362.size ≤ 9223372036854775807 then (if ((⟨#[40, 97, 108, 108, 32, 118]⟩ : ByteArray) ++ t362).size + 1 ≤ 9223372036854775807 then ((impl_decimal.f k a0_4).bind fun t363 => (if (((⟨#[40, 97, 108, 108, 32, 118]⟩ : ByteArray) ++ t362) ++ (⟨#[58]⟩ : ByteArray)).size + t363.size ≤ 9223372036854775807 then (some ((((⟨#[40, 97, 108, 108, 32, 118]⟩ : ByteArray) ++ t362) ++ (⟨#[58]⟩ : ByteArray)) ++ t363)) else (none))) else (none)) else (none))) else (if a0_0 = 20 then ((impl_decimal.f k a0_2).bind fun t364 => (if 7 + t364.size ≤ 9223372036854775807 then (if ((⟨#[40, 115, 111, 109, 101, 32, 118]⟩ : ByteArray) ++ t364).size + 1 ≤ 9223372036854775807 then ((impl_decimal.f k a0_4).bind fun t365 => (if (((⟨#[40, 115, 111, 109, 101, 32, 118]⟩ : ByteArray) ++ t364) ++ (⟨#[58]⟩ : ByteArray)).size + t365.size ≤ 9223372036854775807 then (some ((((⟨#[40, 115, 111, 109, 101, 32, 118]⟩ : ByteArray) ++ t364) ++ (⟨#[58]⟩ : ByteArray)) ++ t365)) else (none))) else (none)) else (none))) else ((impl_opWord.f a0_0).bind fun t366 => (if 1 + t366.size ≤ 9223372036854775807 then (some ((⟨#[40]⟩ : ByteArray) ++ t366)) else (none)))))))))
def impl_head.T3 : Bool × List (List Nat × List Nat) := (true, [([], []), ([0], [0]), ([1], [1]), ([2], [2]), ([3], [3]), ([], []), ([5], [5]), ([6, 2], [6]), ([4, 7], [4, 7]), ([8, 7, 0, 1, 2, 3, 4, 5, 6, 7, 8], [8])])
def impl_head.B3 : List Nat := [0, 1, 3, 7, 15, 0, 32, 103, 255, 511]
theorem impl_head.tab3 : rtab .any (opsOf Try.f57 3) = impl_head.T3 := by kernel_rfl
theorem impl_head.bits3 : waitsOk impl_head.T3.2 impl_head.B3 = true := by kernel_rfl
def impl_head.T5 : Bool × List (List Nat × List Nat) := (true, [([], []), ([0], [0]), ([1], [1]), ([2], [2]), ([3], [3]), ([], []), ([5], [5]), ([6, 2], [6]), ([4, 7], [4, 7]), ([8, 7, 0, 1, 2, 3, 4, 5, 6, 7, 8], [8])])
def impl_head.B5 : List Nat := [0, 1, 3, 7, 15, 0, 32, 103, 255, 511]
theorem impl_head.tab5 : rtab .any (opsOf Try.f57 5) = impl_head.T5 := by kernel_rfl
theorem impl_head.bits5 : waitsOk impl_head.T5.2 impl_head.B5 = true := by kernel_rfl
def impl_head.T9 : Bool × List (List Nat × List Nat) := (true, [([], []), ([0], [0]), ([1], [1]), ([2], [2]), ([3], [3]), ([], []), ([5], [5]), ([6, 2], [6]), ([4, 7], [4, 7]), ([8, 7, 0, 1, 2, 3, 4, 5, 6, 7, 8], [8])])
def impl_head.B9 : List Nat := [0, 1, 3, 7, 15, 0, 32, 103, 255, 511]
theorem impl_head.tab9 : rtab .any (opsOf Try.f57 9) = impl_head.T9 := by kernel_rfl
theorem impl_head.bits9 : waitsOk impl_head.T9.2 impl_head.B9 = true := by kernel_rfl
def impl_head.T13 : Bool × List (List Nat × List Nat) := (true, [([], []), ([0], [0]), ([1], [1]), ([2], [2]), ([3], [3]), ([], []), ([5], [5]), ([6, 2], [6]), ([4, 7], [4, 7]), ([8, 7, 0, 1, 2, 3, 4, 5, 6, 7, 8], [8])])
def impl_head.B13 : List Nat := [0, 1, 3, 7, 15, 0, 32, 103, 255, 511]
theorem impl_head.tab13 : rtab .any (opsOf Try.f57 13) = impl_head.T13 := by kernel_rfl
theorem impl_head.bits13 : waitsOk impl_head.T13.2 impl_head.B13 = true := by kernel_rfl
def impl_head.T15 : Bool × List (List Nat × List Nat) := (true, [([], []), ([0], [0]), ([1], [1]), ([2], [2]), ([3], [3]), ([], []), ([5], [5]), ([6, 2], [6]), ([4, 7], [4, 7]), ([8, 7, 0, 1, 2, 3, 4, 5, 6, 7, 8], [8])])
def impl_head.B15 : List Nat := [0, 1, 3, 7, 15, 0, 32, 103, 255, 511]
theorem impl_head.tab15 : rtab .any (opsOf Try.f57 15) = impl_head.T15 := by kernel_rfl
theorem impl_head.bits15 : waitsOk impl_head.T15.2 impl_head.B15 = true := by kernel_rfl
set_option maxHeartbeats 8000000 in
set_option maxRecDepth 100000 in
theorem impl_head.calls (k : Nat) (a0_0 : Int) (a0_1 : Int) (a0_2 : Int) (a0_3 : Int) (a0_4 : Int) (a0_5 : Int) (r : ByteArray) (w : World) (h : impl_head.f k a0_0 a0_1 a0_2 a0_3 a0_4 a0_5 = some r) :
  Calls Try.prog 57 #[.agg #[.int .i64 a0_0, .int .i64 a0_1, .int .i64 a0_2, .int .i64 a0_3, .int .i64 a0_4, .int .i64 a0_5]] w fun e w' => e = .returned (.string r) ∧ Below w.heap.size w w' := by
 have hu31 := Try.underlying31
 have HB := am (Below.refl w.heap.size w)
 have H : (if a0_0 = 0 then ((impl_decimal.f k a0_1).bind fun t356 => (if 1 + t356.size ≤ 9223372036854775807 then (if ((⟨#[35]⟩ : ByteArray) ++ t356).size + 1 ≤ 9223372036854775807 then ((impl_decimal.f k a0_2).bind fun t357 => (if (((⟨#[35]⟩ : ByteArray) ++ t356) ++ (⟨#[58]⟩ : ByteArray)).size + t357.size ≤ 9223372036854775807 then (some ((((⟨#[35]⟩ : ByteArray) ++ t356) ++ (⟨#[58]⟩ : ByteArray)) ++ t357)) else (none))) else (none)) else (none))) else (if a0_0 = 1 then ((impl_decimal.f k a0_2).bind fun t358 => (if 1 + t358.size ≤ 9223372036854775807 then (if ((⟨#[118]⟩ : ByteArray) ++ t358).size + 1 ≤ 9223372036854775807 then ((impl_decimal.f k a0_1).bind fun t359 => (if (((⟨#[118]⟩ : ByteArray) ++ t358) ++ (⟨#[58]⟩ : ByteArray)).size + t359.size ≤ 9223372036854775807 then (some ((((⟨#[118]⟩ : ByteArray) ++ t358) ++ (⟨#[58]⟩ : ByteArray)) ++ t359)) else (none))) else (none)) else (none))) else (if a0_0 = 2 then (some (⟨#[40, 110, 111, 116]⟩ : ByteArray)) else (if a0_0 = 17 then ((impl_decimal.f k a0_2).bind fun t360 => (if 7 + t360.size ≤ 9223372036854775807 then (if ((⟨#[40, 115, 108, 105, 99, 101, 32]⟩ : ByteArray) ++ t360).size + 1 ≤ 9223372036854775807 then ((impl_decimal.f k a0_1).bind fun t361 => (if (((⟨#[40, 115, 108, 105, 99, 101, 32]⟩ : ByteArray) ++ t360) ++ (⟨#[32]⟩ : ByteArray)).size + t361.size ≤ 9223372036854775807 then (some ((((⟨#[40, 115, 108, 105, 99, 101, 32]⟩ : ByteArray) ++ t360) ++ (⟨#[32]⟩ : ByteArray)) ++ t361)) else (none))) else (none)) else (none))) else (if a0_0 = 18 then (some (⟨#[40, 105, 102]⟩ : ByteArray)) else (if a0_0 = 19 then ((impl_decimal.f k a0_2).bind fun t362 => (if 6 + t362.size ≤ 9223372036854775807 then (if ((⟨#[40, 97, 108, 108, 32, 118]⟩ : ByteArray) ++ t362).size + 1 ≤ 9223372036854775807 then ((impl_decimal.f k a0_4).bind fun t363 => (if (((⟨#[40, 97, 108, 108, 32, 118]⟩ : ByteArray) ++ t362) ++ (⟨#[58]⟩ : ByteArray)).size + t363.size ≤ 9223372036854775807 then (some ((((⟨#[40, 97, 108, 108, 32, 118]⟩ : ByteArray) ++ t362) ++ (⟨#[58]⟩ : ByteArray)) ++ t363)) else (none))) else (none)) else (none))) else (if a0_0 = 20 then ((impl_decimal.f k a0_2).bind fun t364 => (if 7 + t364.size ≤ 9223372036854775807 then (if ((⟨#[40, 115, 111, 109, 101, 32, 118]⟩ : ByteArray) ++ t364).size + 1 ≤ 9223372036854775807 then ((impl_decimal.f k a0_4).bind fun t365 => (if (((⟨#[40, 115, 111, 109, 101, 32, 118]⟩ : ByteArray) ++ t364) ++ (⟨#[58]⟩ : ByteArray)).size + t365.size ≤ 9223372036854775807 then (some ((((⟨#[40, 115, 111, 109, 101, 32, 118]⟩ : ByteArray) ++ t364) ++ (⟨#[58]⟩ : ByteArray)) ++ t365)) else (none))) else (none)) else (none))) else ((impl_opWord.f a0_0).bind fun t366 => (if 1 + t366.size ≤ 9223372036854775807 then (some ((⟨#[40]⟩ : ByteArray) ++ t366)) else (none)))))))))) = some r := h
 clear h
 replace H := iE H; rcases H with ⟨c2b0, c2b1, H⟩ | ⟨c2b0, c2b1, H⟩
 ·replace H := oA H; obtain ⟨t356, A3, H⟩ := H
  replace H := iP H; obtain ⟨c4, H⟩ := H
  have c4b0 := eq_true c4
  have c4b1 : decide (1 + t356.size ≤ 9223372036854775807) = true := decide_eq_true c4
  try have c4b2 : (9223372036854775807 < 1 + t356.size) = False := eq_false (Nat.not_lt.2 c4)
  replace H := iP H; obtain ⟨c5, H⟩ := H
  have c5b0 := eq_true c5
  have c5b1 : decide (((⟨#[35]⟩ : ByteArray) ++ t356).size + 1 ≤ 9223372036854775807) = true := decide_eq_true c5
  try have c5b2 : (9223372036854775807 < ((⟨#[35]⟩ : ByteArray) ++ t356).size + 1) = False := eq_false (Nat.not_lt.2 c5)
  have c5s : (9223372036854775807 < 1 + t356.size + 1) = False := eq_false (Nat.not_lt.2 (by have h_ := c5; (repeat rw [ByteArray.size_append] at h_); exact h_))
  replace H := oA H; obtain ⟨t357, A6, H⟩ := H
  replace H := iP H; obtain ⟨c7, H⟩ := H
  have c7b0 := eq_true c7
  have c7b1 : decide ((((⟨#[35]⟩ : ByteArray) ++ t356) ++ (⟨#[58]⟩ : ByteArray)).size + t357.size ≤ 9223372036854775807) = true := decide_eq_true c7
  try have c7b2 : (9223372036854775807 < (((⟨#[35]⟩ : ByteArray) ++ t356) ++ (⟨#[58]⟩ : ByteArray)).size + t357.size) = False := eq_false (Nat.not_lt.2 c7)
  have c7s : (9223372036854775807 < 1 + t356.size + 1 + t357.size) = False := eq_false (Nat.not_lt.2 (by have h_ := c7; (repeat rw [ByteArray.size_append] at h_); exact h_))
  obtain rfl := oI H
  go_enter Try.func57, Try.ntmps57
  try go_wp2_with (first | ((with_reducible refine gate_dst (N := 1) rfl ?_); refine box_event ?hg (N := 1) ?hd (cs := #[.int .i64 a0_0, .int .i64 a0_1, .int .i64 a0_2, .int .i64 a0_3, .int .i64 a0_4, .int .i64 a0_5]) (t := 31) ?hr ?_; (case hd => rfl); (case hg => rfl); (case hr => (go_simp; done)); intro gb355 hg w8 hbox hb; have n0_ := am (below_step (by exact sW HB.out) hb); have n1_ := am (hbox); have n2_ := am ((by rw [hg]; exact (below_size (by exact sW HB.out)) : w.heap.size ≤ gb355)); have n3_ := am ((by rw [hg]; exact (below_size (by exact sW HB.out)) : w.heap.size ≤ gb355)); clear HB; have HB := n0_; have BK355 := n1_; have GW355 := n2_; have GE355 := n3_; clear n0_ n1_ n2_ n3_; clear hb hbox hg; obtain ⟨hcz9_0, hcz9_1, hcz9_2, hcz9_3, hcz9_4, hcz9_5⟩ := cz6 BK355.out; obtain ⟨hfz9_0, hfz9_1, hfz9_2, hfz9_3, hfz9_4, hfz9_5⟩ := fz6 BK355.out))
  have n0_ := am (blk_drew BK355.out)
  have n1_ := am (below_drew1 HB.out)
  clear BK355
  clear HB
  have BK355 := n0_
  have HB := n1_
  clear n0_ n1_
  refine start_ (n := 10) (S := fun w' => w'.cell? ⟨gb355, 0, none⟩ = some (.int .i64 a0_0) ∧ w'.cell? ⟨gb355, 1, none⟩ = some (.int .i64 a0_1) ∧ w'.cell? ⟨gb355, 2, none⟩ = some (.int .i64 a0_2) ∧ w'.cell? ⟨gb355, 3, none⟩ = some (.int .i64 a0_3) ∧ w'.cell? ⟨gb355, 4, none⟩ = some (.int .i64 a0_4) ∧ w'.cell? ⟨gb355, 5, none⟩ = some (.int .i64 a0_5)) (ds := []) zA0x22 (by kernel_rfl) rfl rfl ⟨(blk_cell BK355.out 0).trans rfl, (blk_cell BK355.out 1).trans rfl, (blk_cell BK355.out 2).trans rfl, (blk_cell BK355.out 3).trans rfl, (blk_cell BK355.out 4).trans rfl, (blk_cell BK355.out 5).trans rfl⟩ (fun hHeld => ?_); refine with_tabW impl_head.tab3 impl_head.bits3 (fun HT_ HW_ => ?_)
  generalize w8.drew = w10 at BK355 HB hHeld ⊢
  refine pT (i := 0) (N := some 7) zA1x22 ?_
  refine pT (i := 5) (N := some 12) zA2x22 ?_
  refine take_ (i := 1) (N := some 8) (v := ?_) (a' := ?_) zA3x22 rfl rfl (take_ofW HT_.out HW_.out (by kernel_rfl)) (fun _ _ _ h => h) (Or.inl ⟨by rfl, ?_⟩) hHeld ?_ ?_
  rotate_left
  ·rintro w' ⟨s0, s1, s2, s3, s4, s5⟩
   go_simp
   with_reducible rfl
  rotate_left
  ·simp only [Act.put, List.setIfInBounds_toArray, List.set_cons_zero, List.set_cons_succ, i64_w, i32_w]
   rfl
  refine take_ (i := 6) (N := some 13) (v := ?_) (a' := ?_) zA4x22 rfl rfl (take_ofW HT_.out HW_.out (by kernel_rfl)) (fun _ _ _ h => h) (Or.inl ⟨by rfl, ?_⟩) hHeld ?_ ?_
  rotate_left
  ·rintro w' ⟨s0, s1, s2, s3, s4, s5⟩
   go_simp
   with_reducible rfl
  rotate_left
  ·simp only [Act.put, List.setIfInBounds_toArray, List.set_cons_zero, List.set_cons_succ, i64_w, i32_w]
   rfl
  refine one_ (i := 2) (N := some 9) zA5x22 rfl rfl (one_of HT_.out (by kernel_rfl)) (by decide) (fun K hK => ?_)
  refine goes_ Try.func86 (by kernel_rfl) rfl #[.int .i64 a0_1] (by rfl) rfl rfl tm ?_
  with_reducible refine (impl_decimal.calls _ _ _ _ A3.out).mono ?_
  rintro e w11 ⟨rfl, hb⟩
  refine ⟨_, rfl, ?_⟩
  have n0_ := am (blk_below (g := gb355) (o := .cells #[.int .i64 a0_0, .int .i64 a0_1, .int .i64 a0_2, .int .i64 a0_3, .int .i64 a0_4, .int .i64 a0_5] 31 (0, 0)) (by exact sB <| BK355.out) hb)
  have n1_ := am (below_step (by exact bW) hb)
  clear BK355
  clear HB
  have BK355 := n0_
  have HB := n1_
  clear n0_ n1_
  clear hb
  refine hK.out _ _ ⟨(blk_cell BK355.out 0).trans rfl, (blk_cell BK355.out 1).trans rfl, (blk_cell BK355.out 2).trans rfl, (blk_cell BK355.out 3).trans rfl, (blk_cell BK355.out 4).trans rfl, (blk_cell BK355.out 5).trans rfl⟩ (fun hHeld => ?_)
  clear hK K
  refine norm_ (a' := ?_) ?_ ?_
  rotate_left
  ·show Act.put _ (some 9) _ = _
   simp only [Act.put, List.setIfInBounds_toArray, List.set_cons_zero, List.set_cons_succ, i64_w, i32_w]
   rfl
  refine pT (i := 3) (N := some 10) zA6x22 ?_
  refine pT (i := 4) (N := some 11) zA7x22 ?_
  refine one_ (i := 7) (N := some 14) zA8x22 rfl rfl (one_of HT_.out (by kernel_rfl)) (by decide) (fun K hK => ?_)
  refine goes_ Try.func86 (by kernel_rfl) rfl #[.int .i64 a0_2] (by rfl) rfl rfl tm ?_
  with_reducible refine (impl_decimal.calls _ _ _ _ A6.out).mono ?_
  rintro e w12 ⟨rfl, hb⟩
  refine ⟨_, rfl, ?_⟩
  have n0_ := am (blk_below (g := gb355) (o := .cells #[.int .i64 a0_0, .int .i64 a0_1, .int .i64 a0_2, .int .i64 a0_3, .int .i64 a0_4, .int .i64 a0_5] 31 (0, 0)) (by exact sB <| BK355.out) hb)
  have n1_ := am (below_step (by exact bW) hb)
  clear BK355
  clear HB
  have BK355 := n0_
  have HB := n1_
  clear n0_ n1_
  clear hb
  refine hK.out _ _ ⟨(blk_cell BK355.out 0).trans rfl, (blk_cell BK355.out 1).trans rfl, (blk_cell BK355.out 2).trans rfl, (blk_cell BK355.out 3).trans rfl, (blk_cell BK355.out 4).trans rfl, (blk_cell BK355.out 5).trans rfl⟩ (fun hHeld => ?_)
  clear hK K
  refine norm_ (a' := ?_) ?_ ?_
  rotate_left
  ·show Act.put _ (some 14) _ = _
   simp only [Act.put, List.setIfInBounds_toArray, List.set_cons_zero, List.set_cons_succ, i64_w, i32_w]
   rfl
  refine pT (i := 8) (N := some 15) zA9x22 ?_
  refine pT (i := 9) (N := some 2) zA10x22 ?_
  refine done_ (done_of HT_.out (by kernel_rfl)) ?_
  try go_wp2
  go_ret
  exact ⟨by rfl, by exact bW⟩
 ·replace H := iE H; rcases H with ⟨c13b0, c13b1, H⟩ | ⟨c13b0, c13b1, H⟩
  ·replace H := oA H; obtain ⟨t358, A14, H⟩ := H
   replace H := iP H; obtain ⟨c15, H⟩ := H
   have c15b0 := eq_true c15
   have c15b1 : decide (1 + t358.size ≤ 9223372036854775807) = true := decide_eq_true c15
   try have c15b2 : (9223372036854775807 < 1 + t358.size) = False := eq_false (Nat.not_lt.2 c15)
   replace H := iP H; obtain ⟨c16, H⟩ := H
   have c16b0 := eq_true c16
   have c16b1 : decide (((⟨#[118]⟩ : ByteArray) ++ t358).size + 1 ≤ 9223372036854775807) = true := decide_eq_true c16
   try have c16b2 : (9223372036854775807 < ((⟨#[118]⟩ : ByteArray) ++ t358).size + 1) = False := eq_false (Nat.not_lt.2 c16)
   have c16s : (9223372036854775807 < 1 + t358.size + 1) = False := eq_false (Nat.not_lt.2 (by have h_ := c16; (repeat rw [ByteArray.size_append] at h_); exact h_))
   replace H := oA H; obtain ⟨t359, A17, H⟩ := H
   replace H := iP H; obtain ⟨c18, H⟩ := H
   have c18b0 := eq_true c18
   have c18b1 : decide ((((⟨#[118]⟩ : ByteArray) ++ t358) ++ (⟨#[58]⟩ : ByteArray)).size + t359.size ≤ 9223372036854775807) = true := decide_eq_true c18
   try have c18b2 : (9223372036854775807 < (((⟨#[118]⟩ : ByteArray) ++ t358) ++ (⟨#[58]⟩ : ByteArray)).size + t359.size) = False := eq_false (Nat.not_lt.2 c18)
   have c18s : (9223372036854775807 < 1 + t358.size + 1 + t359.size) = False := eq_false (Nat.not_lt.2 (by have h_ := c18; (repeat rw [ByteArray.size_append] at h_); exact h_))
   obtain rfl := oI H
   go_enter Try.func57, Try.ntmps57
   try go_wp2_with (first | ((with_reducible refine gate_dst (N := 1) rfl ?_); refine box_event ?hg (N := 1) ?hd (cs := #[.int .i64 a0_0, .int .i64 a0_1, .int .i64 a0_2, .int .i64 a0_3, .int .i64 a0_4, .int .i64 a0_5]) (t := 31) ?hr ?_; (case hd => rfl); (case hg => rfl); (case hr => (go_simp; done)); intro gb355 hg w19 hbox hb; have n0_ := am (below_step (by exact sW HB.out) hb); have n1_ := am (hbox); have n2_ := am ((by rw [hg]; exact (below_size (by exact sW HB.out)) : w.heap.size ≤ gb355)); have n3_ := am ((by rw [hg]; exact (below_size (by exact sW HB.out)) : w.heap.size ≤ gb355)); clear HB; have HB := n0_; have BK355 := n1_; have GW355 := n2_; have GE355 := n3_; clear n0_ n1_ n2_ n3_; clear hb hbox hg; obtain ⟨hcz20_0, hcz20_1, hcz20_2, hcz20_3, hcz20_4, hcz20_5⟩ := cz6 BK355.out; obtain ⟨hfz20_0, hfz20_1, hfz20_2, hfz20_3, hfz20_4, hfz20_5⟩ := fz6 BK355.out))
   have n0_ := am (blk_drew BK355.out)
   have n1_ := am (below_drew1 HB.out)
   clear BK355
   clear HB
   have BK355 := n0_
   have HB := n1_
   clear n0_ n1_
   refine start_ (n := 10) (S := fun w' => w'.cell? ⟨gb355, 0, none⟩ = some (.int .i64 a0_0) ∧ w'.cell? ⟨gb355, 1, none⟩ = some (.int .i64 a0_1) ∧ w'.cell? ⟨gb355, 2, none⟩ = some (.int .i64 a0_2) ∧ w'.cell? ⟨gb355, 3, none⟩ = some (.int .i64 a0_3) ∧ w'.cell? ⟨gb355, 4, none⟩ = some (.int .i64 a0_4) ∧ w'.cell? ⟨gb355, 5, none⟩ = some (.int .i64 a0_5)) (ds := []) zA0x22 (by kernel_rfl) rfl rfl ⟨(blk_cell BK355.out 0).trans rfl, (blk_cell BK355.out 1).trans rfl, (blk_cell BK355.out 2).trans rfl, (blk_cell BK355.out 3).trans rfl, (blk_cell BK355.out 4).trans rfl, (blk_cell BK355.out 5).trans rfl⟩ (fun hHeld => ?_); refine with_tabW impl_head.tab5 impl_head.bits5 (fun HT_ HW_ => ?_)
   generalize w19.drew = w21 at BK355 HB hHeld ⊢
   refine pT (i := 0) (N := some 18) zA1x22 ?_
   refine pT (i := 5) (N := some 23) zA2x22 ?_
   refine take_ (i := 1) (N := some 19) (v := ?_) (a' := ?_) zA3x22 rfl rfl (take_ofW HT_.out HW_.out (by kernel_rfl)) (fun _ _ _ h => h) (Or.inl ⟨by rfl, ?_⟩) hHeld ?_ ?_
   rotate_left
   ·rintro w' ⟨s0, s1, s2, s3, s4, s5⟩
    go_simp
    with_reducible rfl
   rotate_left
   ·simp only [Act.put, List.setIfInBounds_toArray, List.set_cons_zero, List.set_cons_succ, i64_w, i32_w]
    rfl
   refine take_ (i := 6) (N := some 24) (v := ?_) (a' := ?_) zA4x22 rfl rfl (take_ofW HT_.out HW_.out (by kernel_rfl)) (fun _ _ _ h => h) (Or.inl ⟨by rfl, ?_⟩) hHeld ?_ ?_
   rotate_left
   ·rintro w' ⟨s0, s1, s2, s3, s4, s5⟩
    go_simp
    with_reducible rfl
   rotate_left
   ·simp only [Act.put, List.setIfInBounds_toArray, List.set_cons_zero, List.set_cons_succ, i64_w, i32_w]
    rfl
   refine one_ (i := 2) (N := some 20) zA5x22 rfl rfl (one_of HT_.out (by kernel_rfl)) (by decide) (fun K hK => ?_)
   refine goes_ Try.func86 (by kernel_rfl) rfl #[.int .i64 a0_2] (by rfl) rfl rfl tm ?_
   with_reducible refine (impl_decimal.calls _ _ _ _ A14.out).mono ?_
   rintro e w22 ⟨rfl, hb⟩
   refine ⟨_, rfl, ?_⟩
   have n0_ := am (blk_below (g := gb355) (o := .cells #[.int .i64 a0_0, .int .i64 a0_1, .int .i64 a0_2, .int .i64 a0_3, .int .i64 a0_4, .int .i64 a0_5] 31 (0, 0)) (by exact sB <| BK355.out) hb)
   have n1_ := am (below_step (by exact bW) hb)
   clear BK355
   clear HB
   have BK355 := n0_
   have HB := n1_
   clear n0_ n1_
   clear hb
   refine hK.out _ _ ⟨(blk_cell BK355.out 0).trans rfl, (blk_cell BK355.out 1).trans rfl, (blk_cell BK355.out 2).trans rfl, (blk_cell BK355.out 3).trans rfl, (blk_cell BK355.out 4).trans rfl, (blk_cell BK355.out 5).trans rfl⟩ (fun hHeld => ?_)
   clear hK K
   refine norm_ (a' := ?_) ?_ ?_
   rotate_left
   ·show Act.put _ (some 20) _ = _
    simp only [Act.put, List.setIfInBounds_toArray, List.set_cons_zero, List.set_cons_succ, i64_w, i32_w]
    rfl
   refine pT (i := 3) (N := some 21) zA6x22 ?_
   refine pT (i := 4) (N := some 22) zA7x22 ?_
   refine one_ (i := 7) (N := some 25) zA8x22 rfl rfl (one_of HT_.out (by kernel_rfl)) (by decide) (fun K hK => ?_)
   refine goes_ Try.func86 (by kernel_rfl) rfl #[.int .i64 a0_1] (by rfl) rfl rfl tm ?_
   with_reducible refine (impl_decimal.calls _ _ _ _ A17.out).mono ?_
   rintro e w23 ⟨rfl, hb⟩
   refine ⟨_, rfl, ?_⟩
   have n0_ := am (blk_below (g := gb355) (o := .cells #[.int .i64 a0_0, .int .i64 a0_1, .int .i64 a0_2, .int .i64 a0_3, .int .i64 a0_4, .int .i64 a0_5] 31 (0, 0)) (by exact sB <| BK355.out) hb)
   have n1_ := am (below_step (by exact bW) hb)
   clear BK355
   clear HB
   have BK355 := n0_
   have HB := n1_
   clear n0_ n1_
   clear hb
   refine hK.out _ _ ⟨(blk_cell BK355.out 0).trans rfl, (blk_cell BK355.out 1).trans rfl, (blk_cell BK355.out 2).trans rfl, (blk_cell BK355.out 3).trans rfl, (blk_cell BK355.out 4).trans rfl, (blk_cell BK355.out 5).trans rfl⟩ (fun hHeld => ?_)
   clear hK K
   refine norm_ (a' := ?_) ?_ ?_
   rotate_left
   ·show Act.put _ (some 25) _ = _
    simp only [Act.put, List.setIfInBounds_toArray, List.set_cons_zero, List.set_cons_succ, i64_w, i32_w]
    rfl
   refine pT (i := 8) (N := some 26) zA9x22 ?_
   refine pT (i := 9) (N := some 2) zA10x22 ?_
   refine done_ (done_of HT_.out (by kernel_rfl)) ?_
   try go_wp2
   go_ret
   exact ⟨by rfl, by exact bW⟩
  ·replace H := iE H; rcases H with ⟨c24b0, c24b1, H⟩ | ⟨c24b0, c24b1, H⟩
   ·obtain rfl := oI H
    go_enter Try.func57, Try.ntmps57
    go_wp2_with (first | ((with_reducible refine gate_dst (N := 1) rfl ?_); refine box_event ?hg (N := 1) ?hd (cs := #[.int .i64 a0_0, .int .i64 a0_1, .int .i64 a0_2, .int .i64 a0_3, .int .i64 a0_4, .int .i64 a0_5]) (t := 31) ?hr ?_; (case hd => rfl); (case hg => rfl); (case hr => (go_simp; done)); intro gb355 hg w25 hbox hb; have n0_ := am (below_step (by exact sW HB.out) hb); have n1_ := am (hbox); have n2_ := am ((by rw [hg]; exact (below_size (by exact sW HB.out)) : w.heap.size ≤ gb355)); have n3_ := am ((by rw [hg]; exact (below_size (by exact sW HB.out)) : w.heap.size ≤ gb355)); clear HB; have HB := n0_; have BK355 := n1_; have GW355 := n2_; have GE355 := n3_; clear n0_ n1_ n2_ n3_; clear hb hbox hg; obtain ⟨hcz26_0, hcz26_1, hcz26_2, hcz26_3, hcz26_4, hcz26_5⟩ := cz6 BK355.out; obtain ⟨hfz26_0, hfz26_1, hfz26_2, hfz26_3, hfz26_4, hfz26_5⟩ := fz6 BK355.out))
    go_ret
    exact ⟨by rfl, by exact bW⟩
   ·replace H := iE H; rcases H with ⟨c27b0, c27b1, H⟩ | ⟨c27b0, c27b1, H⟩
    ·replace H := oA H; obtain ⟨t360, A28, H⟩ := H
     replace H := iP H; obtain ⟨c29, H⟩ := H
     have c29b0 := eq_true c29
     have c29b1 : decide (7 + t360.size ≤ 9223372036854775807) = true := decide_eq_true c29
     try have c29b2 : (9223372036854775807 < 7 + t360.size) = False := eq_false (Nat.not_lt.2 c29)
     replace H := iP H; obtain ⟨c30, H⟩ := H
     have c30b0 := eq_true c30
     have c30b1 : decide (((⟨#[40, 115, 108, 105, 99, 101, 32]⟩ : ByteArray) ++ t360).size + 1 ≤ 9223372036854775807) = true := decide_eq_true c30
     try have c30b2 : (9223372036854775807 < ((⟨#[40, 115, 108, 105, 99, 101, 32]⟩ : ByteArray) ++ t360).size + 1) = False := eq_false (Nat.not_lt.2 c30)
     have c30s : (9223372036854775807 < 7 + t360.size + 1) = False := eq_false (Nat.not_lt.2 (by have h_ := c30; (repeat rw [ByteArray.size_append] at h_); exact h_))
     replace H := oA H; obtain ⟨t361, A31, H⟩ := H
     replace H := iP H; obtain ⟨c32, H⟩ := H
     have c32b0 := eq_true c32
     have c32b1 : decide ((((⟨#[40, 115, 108, 105, 99, 101, 32]⟩ : ByteArray) ++ t360) ++ (⟨#[32]⟩ : ByteArray)).size + t361.size ≤ 9223372036854775807) = true := decide_eq_true c32
     try have c32b2 : (9223372036854775807 < (((⟨#[40, 115, 108, 105, 99, 101, 32]⟩ : ByteArray) ++ t360) ++ (⟨#[32]⟩ : ByteArray)).size + t361.size) = False := eq_false (Nat.not_lt.2 c32)
     have c32s : (9223372036854775807 < 7 + t360.size + 1 + t361.size) = False := eq_false (Nat.not_lt.2 (by have h_ := c32; (repeat rw [ByteArray.size_append] at h_); exact h_))
     obtain rfl := oI H
     go_enter Try.func57, Try.ntmps57
     try go_wp2_with (first | ((with_reducible refine gate_dst (N := 1) rfl ?_); refine box_event ?hg (N := 1) ?hd (cs := #[.int .i64 a0_0, .int .i64 a0_1, .int .i64 a0_2, .int .i64 a0_3, .int .i64 a0_4, .int .i64 a0_5]) (t := 31) ?hr ?_; (case hd => rfl); (case hg => rfl); (case hr => (go_simp; done)); intro gb355 hg w33 hbox hb; have n0_ := am (below_step (by exact sW HB.out) hb); have n1_ := am (hbox); have n2_ := am ((by rw [hg]; exact (below_size (by exact sW HB.out)) : w.heap.size ≤ gb355)); have n3_ := am ((by rw [hg]; exact (below_size (by exact sW HB.out)) : w.heap.size ≤ gb355)); clear HB; have HB := n0_; have BK355 := n1_; have GW355 := n2_; have GE355 := n3_; clear n0_ n1_ n2_ n3_; clear hb hbox hg; obtain ⟨hcz34_0, hcz34_1, hcz34_2, hcz34_3, hcz34_4, hcz34_5⟩ := cz6 BK355.out; obtain ⟨hfz34_0, hfz34_1, hfz34_2, hfz34_3, hfz34_4, hfz34_5⟩ := fz6 BK355.out))
     have n0_ := am (blk_drew BK355.out)
     have n1_ := am (below_drew1 HB.out)
     clear BK355
     clear HB
     have BK355 := n0_
     have HB := n1_
     clear n0_ n1_
     refine start_ (n := 10) (S := fun w' => w'.cell? ⟨gb355, 0, none⟩ = some (.int .i64 a0_0) ∧ w'.cell? ⟨gb355, 1, none⟩ = some (.int .i64 a0_1) ∧ w'.cell? ⟨gb355, 2, none⟩ = some (.int .i64 a0_2) ∧ w'.cell? ⟨gb355, 3, none⟩ = some (.int .i64 a0_3) ∧ w'.cell? ⟨gb355, 4, none⟩ = some (.int .i64 a0_4) ∧ w'.cell? ⟨gb355, 5, none⟩ = some (.int .i64 a0_5)) (ds := []) zA0x22 (by kernel_rfl) rfl rfl ⟨(blk_cell BK355.out 0).trans rfl, (blk_cell BK355.out 1).trans rfl, (blk_cell BK355.out 2).trans rfl, (blk_cell BK355.out 3).trans rfl, (blk_cell BK355.out 4).trans rfl, (blk_cell BK355.out 5).trans rfl⟩ (fun hHeld => ?_); refine with_tabW impl_head.tab9 impl_head.bits9 (fun HT_ HW_ => ?_)
     generalize w33.drew = w35 at BK355 HB hHeld ⊢
     refine pT (i := 0) (N := some 31) zA1x22 ?_
     refine pT (i := 5) (N := some 36) zA2x22 ?_
     refine take_ (i := 1) (N := some 32) (v := ?_) (a' := ?_) zA3x22 rfl rfl (take_ofW HT_.out HW_.out (by kernel_rfl)) (fun _ _ _ h => h) (Or.inl ⟨by rfl, ?_⟩) hHeld ?_ ?_
     rotate_left
     ·rintro w' ⟨s0, s1, s2, s3, s4, s5⟩
      go_simp
      with_reducible rfl
     rotate_left
     ·simp only [Act.put, List.setIfInBounds_toArray, List.set_cons_zero, List.set_cons_succ, i64_w, i32_w]
      rfl
     refine take_ (i := 6) (N := some 37) (v := ?_) (a' := ?_) zA4x22 rfl rfl (take_ofW HT_.out HW_.out (by kernel_rfl)) (fun _ _ _ h => h) (Or.inl ⟨by rfl, ?_⟩) hHeld ?_ ?_
     rotate_left
     ·rintro w' ⟨s0, s1, s2, s3, s4, s5⟩
      go_simp
      with_reducible rfl
     rotate_left
     ·simp only [Act.put, List.setIfInBounds_toArray, List.set_cons_zero, List.set_cons_succ, i64_w, i32_w]
      rfl
     refine one_ (i := 2) (N := some 33) zA5x22 rfl rfl (one_of HT_.out (by kernel_rfl)) (by decide) (fun K hK => ?_)
     refine goes_ Try.func86 (by kernel_rfl) rfl #[.int .i64 a0_2] (by rfl) rfl rfl tm ?_
     with_reducible refine (impl_decimal.calls _ _ _ _ A28.out).mono ?_
     rintro e w36 ⟨rfl, hb⟩
     refine ⟨_, rfl, ?_⟩
     have n0_ := am (blk_below (g := gb355) (o := .cells #[.int .i64 a0_0, .int .i64 a0_1, .int .i64 a0_2, .int .i64 a0_3, .int .i64 a0_4, .int .i64 a0_5] 31 (0, 0)) (by exact sB <| BK355.out) hb)
     have n1_ := am (below_step (by exact bW) hb)
     clear BK355
     clear HB
     have BK355 := n0_
     have HB := n1_
     clear n0_ n1_
     clear hb
     refine hK.out _ _ ⟨(blk_cell BK355.out 0).trans rfl, (blk_cell BK355.out 1).trans rfl, (blk_cell BK355.out 2).trans rfl, (blk_cell BK355.out 3).trans rfl, (blk_cell BK355.out 4).trans rfl, (blk_cell BK355.out 5).trans rfl⟩ (fun hHeld => ?_)
     clear hK K
     refine norm_ (a' := ?_) ?_ ?_
     rotate_left
     ·show Act.put _ (some 33) _ = _
      simp only [Act.put, List.setIfInBounds_toArray, List.set_cons_zero, List.set_cons_succ, i64_w, i32_w]
      rfl
     refine pT (i := 3) (N := some 34) zA6x22 ?_
     refine pT (i := 4) (N := some 35) zA7x22 ?_
     refine one_ (i := 7) (N := some 38) zA8x22 rfl rfl (one_of HT_.out (by kernel_rfl)) (by decide) (fun K hK => ?_)
     refine goes_ Try.func86 (by kernel_rfl) rfl #[.int .i64 a0_1] (by rfl) rfl rfl tm ?_
     with_reducible refine (impl_decimal.calls _ _ _ _ A31.out).mono ?_
     rintro e w37 ⟨rfl, hb⟩
     refine ⟨_, rfl, ?_⟩
     have n0_ := am (blk_below (g := gb355) (o := .cells #[.int .i64 a0_0, .int .i64 a0_1, .int .i64 a0_2, .int .i64 a0_3, .int .i64 a0_4, .int .i64 a0_5] 31 (0, 0)) (by exact sB <| BK355.out) hb)
     have n1_ := am (below_step (by exact bW) hb)
     clear BK355
     clear HB
     have BK355 := n0_
     have HB := n1_
     clear n0_ n1_
     clear hb
     refine hK.out _ _ ⟨(blk_cell BK355.out 0).trans rfl, (blk_cell BK355.out 1).trans rfl, (blk_cell BK355.out 2).trans rfl, (blk_cell BK355.out 3).trans rfl, (blk_cell BK355.out 4).trans rfl, (blk_cell BK355.out 5).trans rfl⟩ (fun hHeld => ?_)
     clear hK K
     refine norm_ (a' := ?_) ?_ ?_
     rotate_left
     ·show Act.put _ (some 38) _ = _
      simp only [Act.put, List.setIfInBounds_toArray, List.set_cons_zero, List.set_cons_succ, i64_w, i32_w]
      rfl
     refine pT (i := 8) (N := some 39) zA9x22 ?_
     refine pT (i := 9) (N := some 2) zA10x22 ?_
     refine done_ (done_of HT_.out (by kernel_rfl)) ?_
     try go_wp2
     go_ret
     exact ⟨by rfl, by exact bW⟩
    ·replace H := iE H; rcases H with ⟨c38b0, c38b1, H⟩ | ⟨c38b0, c38b1, H⟩
     ·obtain rfl := oI H
      go_enter Try.func57, Try.ntmps57
      go_wp2_with (first | ((with_reducible refine gate_dst (N := 1) rfl ?_); refine box_event ?hg (N := 1) ?hd (cs := #[.int .i64 a0_0, .int .i64 a0_1, .int .i64 a0_2, .int .i64 a0_3, .int .i64 a0_4, .int .i64 a0_5]) (t := 31) ?hr ?_; (case hd => rfl); (case hg => rfl); (case hr => (go_simp; done)); intro gb355 hg w39 hbox hb; have n0_ := am (below_step (by exact sW HB.out) hb); have n1_ := am (hbox); have n2_ := am ((by rw [hg]; exact (below_size (by exact sW HB.out)) : w.heap.size ≤ gb355)); have n3_ := am ((by rw [hg]; exact (below_size (by exact sW HB.out)) : w.heap.size ≤ gb355)); clear HB; have HB := n0_; have BK355 := n1_; have GW355 := n2_; have GE355 := n3_; clear n0_ n1_ n2_ n3_; clear hb hbox hg; obtain ⟨hcz40_0, hcz40_1, hcz40_2, hcz40_3, hcz40_4, hcz40_5⟩ := cz6 BK355.out; obtain ⟨hfz40_0, hfz40_1, hfz40_2, hfz40_3, hfz40_4, hfz40_5⟩ := fz6 BK355.out))
      go_ret
      exact ⟨by rfl, by exact bW⟩
     ·replace H := iE H; rcases H with ⟨c41b0, c41b1, H⟩ | ⟨c41b0, c41b1, H⟩
      ·replace H := oA H; obtain ⟨t362, A42, H⟩ := H
       replace H := iP H; obtain ⟨c43, H⟩ := H
       have c43b0 := eq_true c43
       have c43b1 : decide (6 + t362.size ≤ 9223372036854775807) = true := decide_eq_true c43
       try have c43b2 : (9223372036854775807 < 6 + t362.size) = False := eq_false (Nat.not_lt.2 c43)
       replace H := iP H; obtain ⟨c44, H⟩ := H
       have c44b0 := eq_true c44
       have c44b1 : decide (((⟨#[40, 97, 108, 108, 32, 118]⟩ : ByteArray) ++ t362).size + 1 ≤ 9223372036854775807) = true := decide_eq_true c44
       try have c44b2 : (9223372036854775807 < ((⟨#[40, 97, 108, 108, 32, 118]⟩ : ByteArray) ++ t362).size + 1) = False := eq_false (Nat.not_lt.2 c44)
       have c44s : (9223372036854775807 < 6 + t362.size + 1) = False := eq_false (Nat.not_lt.2 (by have h_ := c44; (repeat rw [ByteArray.size_append] at h_); exact h_))
       replace H := oA H; obtain ⟨t363, A45, H⟩ := H
       replace H := iP H; obtain ⟨c46, H⟩ := H
       have c46b0 := eq_true c46
       have c46b1 : decide ((((⟨#[40, 97, 108, 108, 32, 118]⟩ : ByteArray) ++ t362) ++ (⟨#[58]⟩ : ByteArray)).size + t363.size ≤ 9223372036854775807) = true := decide_eq_true c46
       try have c46b2 : (9223372036854775807 < (((⟨#[40, 97, 108, 108, 32, 118]⟩ : ByteArray) ++ t362) ++ (⟨#[58]⟩ : ByteArray)).size + t363.size) = False := eq_false (Nat.not_lt.2 c46)
       have c46s : (9223372036854775807 < 6 + t362.size + 1 + t363.size) = False := eq_false (Nat.not_lt.2 (by have h_ := c46; (repeat rw [ByteArray.size_append] at h_); exact h_))
       obtain rfl := oI H
       go_enter Try.func57, Try.ntmps57
       try go_wp2_with (first | ((with_reducible refine gate_dst (N := 1) rfl ?_); refine box_event ?hg (N := 1) ?hd (cs := #[.int .i64 a0_0, .int .i64 a0_1, .int .i64 a0_2, .int .i64 a0_3, .int .i64 a0_4, .int .i64 a0_5]) (t := 31) ?hr ?_; (case hd => rfl); (case hg => rfl); (case hr => (go_simp; done)); intro gb355 hg w47 hbox hb; have n0_ := am (below_step (by exact sW HB.out) hb); have n1_ := am (hbox); have n2_ := am ((by rw [hg]; exact (below_size (by exact sW HB.out)) : w.heap.size ≤ gb355)); have n3_ := am ((by rw [hg]; exact (below_size (by exact sW HB.out)) : w.heap.size ≤ gb355)); clear HB; have HB := n0_; have BK355 := n1_; have GW355 := n2_; have GE355 := n3_; clear n0_ n1_ n2_ n3_; clear hb hbox hg; obtain ⟨hcz48_0, hcz48_1, hcz48_2, hcz48_3, hcz48_4, hcz48_5⟩ := cz6 BK355.out; obtain ⟨hfz48_0, hfz48_1, hfz48_2, hfz48_3, hfz48_4, hfz48_5⟩ := fz6 BK355.out))
       have n0_ := am (blk_drew BK355.out)
       have n1_ := am (below_drew1 HB.out)
       clear BK355
       clear HB
       have BK355 := n0_
       have HB := n1_
       clear n0_ n1_
       refine start_ (n := 10) (S := fun w' => w'.cell? ⟨gb355, 0, none⟩ = some (.int .i64 a0_0) ∧ w'.cell? ⟨gb355, 1, none⟩ = some (.int .i64 a0_1) ∧ w'.cell? ⟨gb355, 2, none⟩ = some (.int .i64 a0_2) ∧ w'.cell? ⟨gb355, 3, none⟩ = some (.int .i64 a0_3) ∧ w'.cell? ⟨gb355, 4, none⟩ = some (.int .i64 a0_4) ∧ w'.cell? ⟨gb355, 5, none⟩ = some (.int .i64 a0_5)) (ds := []) zA0x22 (by kernel_rfl) rfl rfl ⟨(blk_cell BK355.out 0).trans rfl, (blk_cell BK355.out 1).trans rfl, (blk_cell BK355.out 2).trans rfl, (blk_cell BK355.out 3).trans rfl, (blk_cell BK355.out 4).trans rfl, (blk_cell BK355.out 5).trans rfl⟩ (fun hHeld => ?_); refine with_tabW impl_head.tab13 impl_head.bits13 (fun HT_ HW_ => ?_)
       generalize w47.drew = w49 at BK355 HB hHeld ⊢
       refine pT (i := 0) (N := some 44) zA1x22 ?_
       refine pT (i := 5) (N := some 49) zA2x22 ?_
       refine take_ (i := 1) (N := some 45) (v := ?_) (a' := ?_) zA3x22 rfl rfl (take_ofW HT_.out HW_.out (by kernel_rfl)) (fun _ _ _ h => h) (Or.inl ⟨by rfl, ?_⟩) hHeld ?_ ?_
       rotate_left
       ·rintro w' ⟨s0, s1, s2, s3, s4, s5⟩
        go_simp
        with_reducible rfl
       rotate_left
       ·simp only [Act.put, List.setIfInBounds_toArray, List.set_cons_zero, List.set_cons_succ, i64_w, i32_w]
        rfl
       refine take_ (i := 6) (N := some 50) (v := ?_) (a' := ?_) zA4x22 rfl rfl (take_ofW HT_.out HW_.out (by kernel_rfl)) (fun _ _ _ h => h) (Or.inl ⟨by rfl, ?_⟩) hHeld ?_ ?_
       rotate_left
       ·rintro w' ⟨s0, s1, s2, s3, s4, s5⟩
        go_simp
        with_reducible rfl
       rotate_left
       ·simp only [Act.put, List.setIfInBounds_toArray, List.set_cons_zero, List.set_cons_succ, i64_w, i32_w]
        rfl
       refine one_ (i := 2) (N := some 46) zA5x22 rfl rfl (one_of HT_.out (by kernel_rfl)) (by decide) (fun K hK => ?_)
       refine goes_ Try.func86 (by kernel_rfl) rfl #[.int .i64 a0_2] (by rfl) rfl rfl tm ?_
       with_reducible refine (impl_decimal.calls _ _ _ _ A42.out).mono ?_
       rintro e w50 ⟨rfl, hb⟩
       refine ⟨_, rfl, ?_⟩
       have n0_ := am (blk_below (g := gb355) (o := .cells #[.int .i64 a0_0, .int .i64 a0_1, .int .i64 a0_2, .int .i64 a0_3, .int .i64 a0_4, .int .i64 a0_5] 31 (0, 0)) (by exact sB <| BK355.out) hb)
       have n1_ := am (below_step (by exact bW) hb)
       clear BK355
       clear HB
       have BK355 := n0_
       have HB := n1_
       clear n0_ n1_
       clear hb
       refine hK.out _ _ ⟨(blk_cell BK355.out 0).trans rfl, (blk_cell BK355.out 1).trans rfl, (blk_cell BK355.out 2).trans rfl, (blk_cell BK355.out 3).trans rfl, (blk_cell BK355.out 4).trans rfl, (blk_cell BK355.out 5).trans rfl⟩ (fun hHeld => ?_)
       clear hK K
       refine norm_ (a' := ?_) ?_ ?_
       rotate_left
       ·show Act.put _ (some 46) _ = _
        simp only [Act.put, List.setIfInBounds_toArray, List.set_cons_zero, List.set_cons_succ, i64_w, i32_w]
        rfl
       refine pT (i := 3) (N := some 47) zA6x22 ?_
       refine pT (i := 4) (N := some 48) zA7x22 ?_
       refine one_ (i := 7) (N := some 51) zA8x22 rfl rfl (one_of HT_.out (by kernel_rfl)) (by decide) (fun K hK => ?_)
       refine goes_ Try.func86 (by kernel_rfl) rfl #[.int .i64 a0_4] (by rfl) rfl rfl tm ?_
       with_reducible refine (impl_decimal.calls _ _ _ _ A45.out).mono ?_
       rintro e w51 ⟨rfl, hb⟩
       refine ⟨_, rfl, ?_⟩
       have n0_ := am (blk_below (g := gb355) (o := .cells #[.int .i64 a0_0, .int .i64 a0_1, .int .i64 a0_2, .int .i64 a0_3, .int .i64 a0_4, .int .i64 a0_5] 31 (0, 0)) (by exact sB <| BK355.out) hb)
       have n1_ := am (below_step (by exact bW) hb)
       clear BK355
       clear HB
       have BK355 := n0_
       have HB := n1_
       clear n0_ n1_
       clear hb
       refine hK.out _ _ ⟨(blk_cell BK355.out 0).trans rfl, (blk_cell BK355.out 1).trans rfl, (blk_cell BK355.out 2).trans rfl, (blk_cell BK355.out 3).trans rfl, (blk_cell BK355.out 4).trans rfl, (blk_cell BK355.out 5).trans rfl⟩ (fun hHeld => ?_)
       clear hK K
       refine norm_ (a' := ?_) ?_ ?_
       rotate_left
       ·show Act.put _ (some 51) _ = _
        simp only [Act.put, List.setIfInBounds_toArray, List.set_cons_zero, List.set_cons_succ, i64_w, i32_w]
        rfl
       refine pT (i := 8) (N := some 52) zA9x22 ?_
       refine pT (i := 9) (N := some 2) zA10x22 ?_
       refine done_ (done_of HT_.out (by kernel_rfl)) ?_
       try go_wp2
       go_ret
       exact ⟨by rfl, by exact bW⟩
      ·replace H := iE H; rcases H with ⟨c52b0, c52b1, H⟩ | ⟨c52b0, c52b1, H⟩
       ·replace H := oA H; obtain ⟨t364, A53, H⟩ := H
        replace H := iP H; obtain ⟨c54, H⟩ := H
        have c54b0 := eq_true c54
        have c54b1 : decide (7 + t364.size ≤ 9223372036854775807) = true := decide_eq_true c54
        try have c54b2 : (9223372036854775807 < 7 + t364.size) = False := eq_false (Nat.not_lt.2 c54)
        replace H := iP H; obtain ⟨c55, H⟩ := H
        have c55b0 := eq_true c55
        have c55b1 : decide (((⟨#[40, 115, 111, 109, 101, 32, 118]⟩ : ByteArray) ++ t364).size + 1 ≤ 9223372036854775807) = true := decide_eq_true c55
        try have c55b2 : (9223372036854775807 < ((⟨#[40, 115, 111, 109, 101, 32, 118]⟩ : ByteArray) ++ t364).size + 1) = False := eq_false (Nat.not_lt.2 c55)
        have c55s : (9223372036854775807 < 7 + t364.size + 1) = False := eq_false (Nat.not_lt.2 (by have h_ := c55; (repeat rw [ByteArray.size_append] at h_); exact h_))
        replace H := oA H; obtain ⟨t365, A56, H⟩ := H
        replace H := iP H; obtain ⟨c57, H⟩ := H
        have c57b0 := eq_true c57
        have c57b1 : decide ((((⟨#[40, 115, 111, 109, 101, 32, 118]⟩ : ByteArray) ++ t364) ++ (⟨#[58]⟩ : ByteArray)).size + t365.size ≤ 9223372036854775807) = true := decide_eq_true c57
        try have c57b2 : (9223372036854775807 < (((⟨#[40, 115, 111, 109, 101, 32, 118]⟩ : ByteArray) ++ t364) ++ (⟨#[58]⟩ : ByteArray)).size + t365.size) = False := eq_false (Nat.not_lt.2 c57)
        have c57s : (9223372036854775807 < 7 + t364.size + 1 + t365.size) = False := eq_false (Nat.not_lt.2 (by have h_ := c57; (repeat rw [ByteArray.size_append] at h_); exact h_))
        obtain rfl := oI H
        go_enter Try.func57, Try.ntmps57
        try go_wp2_with (first | ((with_reducible refine gate_dst (N := 1) rfl ?_); refine box_event ?hg (N := 1) ?hd (cs := #[.int .i64 a0_0, .int .i64 a0_1, .int .i64 a0_2, .int .i64 a0_3, .int .i64 a0_4, .int .i64 a0_5]) (t := 31) ?hr ?_; (case hd => rfl); (case hg => rfl); (case hr => (go_simp; done)); intro gb355 hg w58 hbox hb; have n0_ := am (below_step (by exact sW HB.out) hb); have n1_ := am (hbox); have n2_ := am ((by rw [hg]; exact (below_size (by exact sW HB.out)) : w.heap.size ≤ gb355)); have n3_ := am ((by rw [hg]; exact (below_size (by exact sW HB.out)) : w.heap.size ≤ gb355)); clear HB; have HB := n0_; have BK355 := n1_; have GW355 := n2_; have GE355 := n3_; clear n0_ n1_ n2_ n3_; clear hb hbox hg; obtain ⟨hcz59_0, hcz59_1, hcz59_2, hcz59_3, hcz59_4, hcz59_5⟩ := cz6 BK355.out; obtain ⟨hfz59_0, hfz59_1, hfz59_2, hfz59_3, hfz59_4, hfz59_5⟩ := fz6 BK355.out))
        have n0_ := am (blk_drew BK355.out)
        have n1_ := am (below_drew1 HB.out)
        clear BK355
        clear HB
        have BK355 := n0_
        have HB := n1_
        clear n0_ n1_
        refine start_ (n := 10) (S := fun w' => w'.cell? ⟨gb355, 0, none⟩ = some (.int .i64 a0_0) ∧ w'.cell? ⟨gb355, 1, none⟩ = some (.int .i64 a0_1) ∧ w'.cell? ⟨gb355, 2, none⟩ = some (.int .i64 a0_2) ∧ w'.cell? ⟨gb355, 3, none⟩ = some (.int .i64 a0_3) ∧ w'.cell? ⟨gb355, 4, none⟩ = some (.int .i64 a0_4) ∧ w'.cell? ⟨gb355, 5, none⟩ = some (.int .i64 a0_5)) (ds := []) zA0x22 (by kernel_rfl) rfl rfl ⟨(blk_cell BK355.out 0).trans rfl, (blk_cell BK355.out 1).trans rfl, (blk_cell BK355.out 2).trans rfl, (blk_cell BK355.out 3).trans rfl, (blk_cell BK355.out 4).trans rfl, (blk_cell BK355.out 5).trans rfl⟩ (fun hHeld => ?_); refine with_tabW impl_head.tab15 impl_head.bits15 (fun HT_ HW_ => ?_)
        generalize w58.drew = w60 at BK355 HB hHeld ⊢
        refine pT (i := 0) (N := some 55) zA1x22 ?_
        refine pT (i := 5) (N := some 60) zA2x22 ?_
        refine take_ (i := 1) (N := some 56) (v := ?_) (a' := ?_) zA3x22 rfl rfl (take_ofW HT_.out HW_.out (by kernel_rfl)) (fun _ _ _ h => h) (Or.inl ⟨by rfl, ?_⟩) hHeld ?_ ?_
        rotate_left
        ·rintro w' ⟨s0, s1, s2, s3, s4, s5⟩
         go_simp
         with_reducible rfl
        rotate_left
        ·simp only [Act.put, List.setIfInBounds_toArray, List.set_cons_zero, List.set_cons_succ, i64_w, i32_w]
         rfl
        refine take_ (i := 6) (N := some 61) (v := ?_) (a' := ?_) zA4x22 rfl rfl (take_ofW HT_.out HW_.out (by kernel_rfl)) (fun _ _ _ h => h) (Or.inl ⟨by rfl, ?_⟩) hHeld ?_ ?_
        rotate_left
        ·rintro w' ⟨s0, s1, s2, s3, s4, s5⟩
         go_simp
         with_reducible rfl
        rotate_left
        ·simp only [Act.put, List.setIfInBounds_toArray, List.set_cons_zero, List.set_cons_succ, i64_w, i32_w]
         rfl
        refine one_ (i := 2) (N := some 57) zA5x22 rfl rfl (one_of HT_.out (by kernel_rfl)) (by decide) (fun K hK => ?_)
        refine goes_ Try.func86 (by kernel_rfl) rfl #[.int .i64 a0_2] (by rfl) rfl rfl tm ?_
        with_reducible refine (impl_decimal.calls _ _ _ _ A53.out).mono ?_
        rintro e w61 ⟨rfl, hb⟩
        refine ⟨_, rfl, ?_⟩
        have n0_ := am (blk_below (g := gb355) (o := .cells #[.int .i64 a0_0, .int .i64 a0_1, .int .i64 a0_2, .int .i64 a0_3, .int .i64 a0_4, .int .i64 a0_5] 31 (0, 0)) (by exact sB <| BK355.out) hb)
        have n1_ := am (below_step (by exact bW) hb)
        clear BK355
        clear HB
        have BK355 := n0_
        have HB := n1_
        clear n0_ n1_
        clear hb
        refine hK.out _ _ ⟨(blk_cell BK355.out 0).trans rfl, (blk_cell BK355.out 1).trans rfl, (blk_cell BK355.out 2).trans rfl, (blk_cell BK355.out 3).trans rfl, (blk_cell BK355.out 4).trans rfl, (blk_cell BK355.out 5).trans rfl⟩ (fun hHeld => ?_)
        clear hK K
        refine norm_ (a' := ?_) ?_ ?_
        rotate_left
        ·show Act.put _ (some 57) _ = _
         simp only [Act.put, List.setIfInBounds_toArray, List.set_cons_zero, List.set_cons_succ, i64_w, i32_w]
         rfl
        refine pT (i := 3) (N := some 58) zA6x22 ?_
        refine pT (i := 4) (N := some 59) zA7x22 ?_
        refine one_ (i := 7) (N := some 62) zA8x22 rfl rfl (one_of HT_.out (by kernel_rfl)) (by decide) (fun K hK => ?_)
        refine goes_ Try.func86 (by kernel_rfl) rfl #[.int .i64 a0_4] (by rfl) rfl rfl tm ?_
        with_reducible refine (impl_decimal.calls _ _ _ _ A56.out).mono ?_
        rintro e w62 ⟨rfl, hb⟩
        refine ⟨_, rfl, ?_⟩
        have n0_ := am (blk_below (g := gb355) (o := .cells #[.int .i64 a0_0, .int .i64 a0_1, .int .i64 a0_2, .int .i64 a0_3, .int .i64 a0_4, .int .i64 a0_5] 31 (0, 0)) (by exact sB <| BK355.out) hb)
        have n1_ := am (below_step (by exact bW) hb)
        clear BK355
        clear HB
        have BK355 := n0_
        have HB := n1_
        clear n0_ n1_
        clear hb
        refine hK.out _ _ ⟨(blk_cell BK355.out 0).trans rfl, (blk_cell BK355.out 1).trans rfl, (blk_cell BK355.out 2).trans rfl, (blk_cell BK355.out 3).trans rfl, (blk_cell BK355.out 4).trans rfl, (blk_cell BK355.out 5).trans rfl⟩ (fun hHeld => ?_)
        clear hK K
        refine norm_ (a' := ?_) ?_ ?_
        rotate_left
        ·show Act.put _ (some 62) _ = _
         simp only [Act.put, List.setIfInBounds_toArray, List.set_cons_zero, List.set_cons_succ, i64_w, i32_w]
         rfl
        refine pT (i := 8) (N := some 63) zA9x22 ?_
        refine pT (i := 9) (N := some 2) zA10x22 ?_
        refine done_ (done_of HT_.out (by kernel_rfl)) ?_
        try go_wp2
        go_ret
        exact ⟨by rfl, by exact bW⟩
       ·replace H := oA H; obtain ⟨t366, A63, H⟩ := H
        replace H := iP H; obtain ⟨c64, H⟩ := H
        have c64b0 := eq_true c64
        have c64b1 : decide (1 + t366.size ≤ 9223372036854775807) = true := decide_eq_true c64
        try have c64b2 : (9223372036854775807 < 1 + t366.size) = False := eq_false (Nat.not_lt.2 c64)
        obtain rfl := oI H
        go_enter Try.func57, Try.ntmps57
        go_wp2_with (first | ((with_reducible refine gate_dst (N := 1) rfl ?_); refine box_event ?hg (N := 1) ?hd (cs := #[.int .i64 a0_0, .int .i64 a0_1, .int .i64 a0_2, .int .i64 a0_3, .int .i64 a0_4, .int .i64 a0_5]) (t := 31) ?hr ?_; (case hd => rfl); (case hg => rfl); (case hr => (go_simp; done)); intro gb355 hg w65 hbox hb; have n0_ := am (below_step (by exact sW HB.out) hb); have n1_ := am (hbox); have n2_ := am ((by rw [hg]; exact (below_size (by exact sW HB.out)) : w.heap.size ≤ gb355)); have n3_ := am ((by rw [hg]; exact (below_size (by exact sW HB.out)) : w.heap.size ≤ gb355)); clear HB; have HB := n0_; have BK355 := n1_; have GW355 := n2_; have GE355 := n3_; clear n0_ n1_ n2_ n3_; clear hb hbox hg; obtain ⟨hcz66_0, hcz66_1, hcz66_2, hcz66_3, hcz66_4, hcz66_5⟩ := cz6 BK355.out; obtain ⟨hfz66_0, hfz66_1, hfz66_2, hfz66_3, hfz66_4, hfz66_5⟩ := fz6 BK355.out) | ((with_reducible refine gate_callee (f := 87) rfl ?_); refine goesL_ (some 66) rfl rfl Try.func87 (by kernel_rfl) rfl #[.int .i64 a0_0] rfl tm ?_; (with_reducible refine (impl_opWord.calls _ _ _ A63.out).mono ?_); rintro e w67 ⟨rfl, hb⟩; refine ⟨_, rfl, ?_⟩; have n0_ := am (blk_below (g := gb355) (o := .cells #[.int .i64 a0_0, .int .i64 a0_1, .int .i64 a0_2, .int .i64 a0_3, .int .i64 a0_4, .int .i64 a0_5] 31 (0, 0)) (by exact sB <| BK355.out) hb); have n1_ := am (below_step (by exact bW) hb); clear BK355; clear HB; have BK355 := n0_; have HB := n1_; clear n0_ n1_; (try clear hb); (try clear hb2); (try clear hk); (try clear hi)))
        go_ret
        exact ⟨by rfl, by exact bW⟩
end Go.Proofs.Ytkpipmojkhikaaa.PAll
