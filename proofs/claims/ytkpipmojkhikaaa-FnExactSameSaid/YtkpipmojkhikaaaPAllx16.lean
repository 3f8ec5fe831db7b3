/- Written by a program of this session over the loaded program: Go functions as plain Lean functions, and that a call comes to what they say. -/
import Derived.Test.YtkpipmojkhikaaaPAllx0
import Derived.Test.YtkpipmojkhikaaaPAllx15
import Derived.Test.YtkpipmojkhikaaaSq
namespace Go.Proofs.Ytkpipmojkhikaaa.PAll
open Go.RowKit Go.Proofs.YtkpipmojkhikaaaW.PrintWords Go.Proofs.YtkpipmojkhikaaaW.PrintLast Go.Proofs.YtkpipmojkhikaaaW.PrintMore Go.Proofs.YtkpipmojkhikaaaW.Sq
attribute [local go_sem] max2_int min2_int max_two min_two max_three min_three max_four min_four   -- for this text's walks alone
set_option linter.unusedVariables false
set_option linter.unusedSimpArgs false

@[reducible] def zA0x16 : Array Bool := #[false, false, false, false, false, false, false, false, false, false]
@[reducible] def zA1x16 : Array Bool := #[true, false, false, false, false, false, false, false, false, false]
@[reducible] def zA2x16 : Array Bool := #[true, false, false, false, false, true, false, false, false, false]
@[reducible] def zA3x16 : Array Bool := #[true, true, false, false, false, true, false, false, false, false]
@[reducible] def zA4x16 : Array Bool := #[true, true, false, false, false, true, true, false, false, false]
@[reducible] def zA5x16 : Array Bool := #[true, true, true, false, false, true, true, false, false, false]
@[reducible] def zA6x16 : Array Bool := #[true, true, true, true, false, true, true, false, false, false]
@[reducible] def zA7x16 : Array Bool := #[true, true, true, true, true, true, true, false, false, false]
@[reducible] def zA8x16 : Array Bool := #[true, true, true, true, true, true, true, true, false, false]
@[reducible] def zA9x16 : Array Bool := #[true, true, true, true, true, true, true, true, true, false]
@[reducible] def zA10x16 : Array Bool := #[true, true, true, true, true, true, true, true, true, true]
/-! ### impl_head: function 57 -/
def impl_head.f (k : Nat) (a0_0 : Int) (a0_1 : Int) (a0_2 : Int) (a0_3 : Int) (a0_4 : Int) (a0_5 : Int) : Option (ByteArray) := if a0_0 = 0 then ((impl_decimal.f k a0_1).bind fun t251 => (if 1 + t251.size ≤ 9223372036854775807 then (if ((⟨#[35]⟩ : ByteArray) ++ t251).size + 1 ≤ 9223372036854775807 then ((impl_decimal.f k a0_2).bind fun t252 => (if (((⟨#[35]⟩ : ByteArray) ++ t251) ++ (⟨#[58]⟩ : ByteArray)).size + t252.size ≤ 9223372036854775807 then (some ((((⟨#[35]⟩ : ByteArray) ++ t251) ++ (⟨#[58]⟩ : ByteArray)) ++ t252)) else (none))) else (none)) else (none))) else (if a0_0 = 1 then ((impl_decimal.f k a0_2).bind fun t253 => (if 1 + t253.size ≤ 9223372036854775807 then (if ((⟨#[118]⟩ : ByteArray) ++ t253).size + 1 ≤ 9223372036854775807 then ((impl_decimal.f k a0_1).bind fun t254 => (if (((⟨#[118]⟩ : ByteArray) ++ t253) ++ (⟨#[58]⟩ : ByteArray)).size + t254.size ≤ 9223372036854775807 then (some ((((⟨#[118]⟩ : ByteArray) ++ t253) ++ (⟨#[58]⟩ : ByteArray)) ++ t254)) else (none))) else (none)) else (none))) else (if a0_0 = 2 then (some (⟨#[40, 110, 111, 116]⟩ : ByteArray)) else (if a0_0 = 17 then ((impl_decimal.f k a0_2).bind fun t255 => (if 7 + t255.size ≤ 9223372036854775807 then (if ((⟨#[40, 115, 108, 105, 99, 101, 32]⟩ : ByteArray) ++ t255).size + 1 ≤ 9223372036854775807 then ((impl_decimal.f k a0_1).bind fun t256 => (if (((⟨#[40, 115, 108, 105, 99, 101, 32]⟩ : ByteArray) ++ t255) ++ (⟨#[32]⟩ : ByteArray)).size + t256.size ≤ 9223372036854775807 then (some ((((⟨#[40, 115, 108, 105, 99, 101, 32]⟩ : ByteArray) ++ t255) ++ (⟨#[32]⟩ : ByteArray)) ++ t256)) else (none))) else (none)) else (none))) else (if a0_0 = 18 then (some (⟨#[40, 105, 102]⟩ : ByteArray)) else (if a0_0 = 19 then ((impl_decimal.f k a0_2).bind fun t257 => (if 6 + t257.size ≤ 9223372036854775807 then (if ((⟨#[40, 97, 108, 108, 32, 118]⟩ : ByteArray) ++ t257).size + 1 ≤ 9223372036854775807 then ((impl_decimal.f k a0_4).bind fun t258 => (if (((⟨#[40, 97, 108, 108, 32, 118]⟩ : ByteArray) ++ t257) ++ (⟨#[58]⟩ : ByteArray)).size + t258.size ≤ 9223372036854775807 then (some ((((⟨#[40, 97, 108, 108, 32, 118]⟩ : ByteArray) ++ t257) ++ (⟨#[58]⟩ : ByteArray)) ++ t258)) else (none))) else (none)) else (none))) else (if a0_0 = 20 then ((impl_decimal.f k a0_2).bind fun t259 => (if 7 + t259.size ≤ 9223372036854775807 then (if ((⟨#[40, 115, 111, 109, 101, 32, 118]⟩ : ByteArray) ++ t259).size + 1 ≤ 9223372036854775807 then ((impl_decimal.f k a0_4).bind fun t260 => (if (((⟨#[40, 115, 111, 109, 101, 32, 118]⟩ : ByteArray) ++ t259) ++ (⟨#[58]⟩ : ByteArray)).size + t260.size ≤ 9223372036854775807 then (some ((((⟨#[40, 115, 111, 109, 101, 32, 118]⟩ : ByteArray) ++ t259) ++ (⟨#[58]⟩ : ByteArray)) ++ t260)) else (none))) else (none)) else (none))) else ((impl_opWord.f a0_0).bind fun t261 => (if 1 + t261.size ≤ 9223372036854775807 then (some ((⟨#[40]⟩ : ByteArray) ++ t261)) else (none)))))))))
theorem impl_head.mono : ∀ a0 a1 a2 a3 a4 a5 k, LeO (impl_head.f k a0 a1 a2 a3 a4 a5) (impl_head.f (k + 1) a0 a1 a2 a3 a4 a5) := by
 intro a0 a1 a2 a3 a4 a5 k
 unfold impl_head.f
 repeat' first
   | (with_reducible exact impl_decimal.mono _ _)
   | (with_reducible exact LeO.refl _)
   | (with_reducible exact LeO.none _)
   | (with_reducible refine LeO.ite ?_ ?_)
   | (with_reducible refine LeO.bind ?_ (fun _ => ?_))
   | exact impl_decimal.mono _ _
   | exact LeO.none _
   | refine LeO.ite ?_ ?_
   | refine LeO.bind ?_ (fun _ => ?_)
def impl_head.T3 : Bool × List (List Nat × List Nat) := (true, [([], []), ([0], [0]), ([1], [1]), ([2], [2]), ([3], [3]), ([], []), ([5], [5]), ([6, 2], [6]), ([4, 7], [4, 7]), ([8, 7, 0, 1, 2, 3, 4, 5, 6, 7, 8], [8])])
def impl_head.B3 : List Nat := [0, 1, 3, 7, 15, 0, 32, 103, 255, 511]
theorem impl_head.tab3 : rtab .any (opsOf Try.f57 3) = impl_head.T3 := by kernel_rfl
theorem impl_head.bits3 : waitsOk impl_head.T3.2 impl_head.B3 = true := by kernel_rfl
def impl_head.T5 : Bool × List (List Nat × List Nat) := (true, [([], []), ([0], [0]), ([1], [1]), ([2], [2]), ([3], [3]), ([], []), ([5], [5]), ([6, 2], [6]), ([4, 7], [4, 7]), ([8, 7, 0, 1, 2, 3, 4, 5, 6, 7, 8], [8])])
def impl_head.B5 : List Nat := [0, 1, 3, 7, 15, 0, 32, 103, 255, 511]
theorem impl_head.tab5 : rtab .any (opsOf Try.f57 5) = impl_head.T5 := by kernel_rfl
theorem impl_head.bits5 : waitsOk impl_head.T5.2 impl_head.B5 = true := by kernel_rfl
def impl_head.T9 : Bool × List (List Nat × List Nat) := (true, [([], []), ([0], [0]), ([1], [1]), ([2], [2]), ([3], [3]), ([], []), ([5], [5]), ([6, 2], [6]), ([4, 7], [4, 7]), ([8, 7, 0, 1, 2, 3, 4, 5, 6, 7, 8], [8])])
def impl_head.B9 : List Nat := [0, 1, 3, 7, 15, 0, 32, 103, 255, 511]
theorem impl_head.tab9 : rtab .any (opsOf Try.f57 9) = impl_head.T9 := by kernel_rfl
theorem impl_head.bits9 : waitsOk impl_head.T9.2 impl_head.B9 = true := by kernel_rfl
def impl_head.T13 : Bool × List (List Nat × List Nat) := (true, [([], []), ([0], [0]), ([1], [1]), ([2], [2]), ([3], [3]), ([], []), ([5], [5]), ([6, 2], [6]), ([4, 7], [4, 7]), ([8, 7, 0, 1, 2, 3, 4, 5, 6, 7, 8], [8])])
def impl_head.B13 : List Nat := [0, 1, 3, 7, 15, 0, 32, 103, 255, 511]
theorem impl_head.tab13 : rtab .any (opsOf Try.f57 13) = impl_head.T13 := by kernel_rfl
theorem impl_head.bits13 : waitsOk impl_head.T13.2 impl_head.B13 = true := by kernel_rfl
def impl_head.T15 : Bool × List (List Nat × List Nat) := (true, [([], []), ([0], [0]), ([1], [1]), ([2], [2]), ([3], [3]), ([], []), ([5], [5]), ([6, 2], [6]), ([4, 7], [4, 7]), ([8, 7, 0, 1, 2, 3, 4, 5, 6, 7, 8], [8])])
def impl_head.B15 : List Nat := [0, 1, 3, 7, 15, 0, 32, 103, 255, 511]
theorem impl_head.tab15 : rtab .any (opsOf Try.f57 15) = impl_head.T15 := by kernel_rfl
theorem impl_head.bits15 : waitsOk impl_head.T15.2 impl_head.B15 = true := by kernel_rfl
set_option maxHeartbeats 8000000 in
set_option maxRecDepth 100000 in
theorem impl_head.calls (k : Nat) (a0_0 : Int) (a0_1 : Int) (a0_2 : Int) (a0_3 : Int) (a0_4 : Int) (a0_5 : Int) (r : ByteArray) (w : World) (h : impl_head.f k a0_0 a0_1 a0_2 a0_3 a0_4 a0_5 = some r) :
  Calls Try.prog 57 #[.agg #[.int .i64 a0_0, .int .i64 a0_1, .int .i64 a0_2, .int .i64 a0_3, .int .i64 a0_4, .int .i64 a0_5]] w fun e w' => e = .returned (.string r) ∧ Below w.heap.size w w' := by
 have hu31 := Try.underlying31
 have HB := Aside0.mk (Below.refl w.heap.size w)
 have H : (if a0_0 = 0 then ((impl_decimal.f k a0_1).bind fun t251 => (if 1 + t251.size ≤ 9223372036854775807 then (if ((⟨#[35]⟩ : ByteArray) ++ t251).size + 1 ≤ 9223372036854775807 then ((impl_decimal.f k a0_2).bind fun t252 => (if (((⟨#[35]⟩ : ByteArray) ++ t251) ++ (⟨#[58]⟩ : ByteArray)).size + t252.size ≤ 9223372036854775807 then (some ((((⟨#[35]⟩ : ByteArray) ++ t251) ++ (⟨#[58]⟩ : ByteArray)) ++ t252)) else (none))) else (none)) else (none))) else (if a0_0 = 1 then ((impl_decimal.f k a0_2).bind fun t253 => (if 1 + t253.size ≤ 9223372036854775807 then (if ((⟨#[118]⟩ : ByteArray) ++ t253).size + 1 ≤ 9223372036854775807 then ((impl_decimal.f k a0_1).bind fun t254 => (if (((⟨#[118]⟩ : ByteArray) ++ t253) ++ (⟨#[58]⟩ : ByteArray)).size + t254.size ≤ 9223372036854775807 then (some ((((⟨#[118]⟩ : ByteArray) ++ t253) ++ (⟨#[58]⟩ : ByteArray)) ++ t254)) else (none))) else (none)) else (none))) else (if a0_0 = 2 then (some (⟨#[40, 110, 111, 116]⟩ : ByteArray)) else (if a0_0 = 17 then ((impl_decimal.f k a0_2).bind fun t255 => (if 7 + t255.size ≤ 9223372036854775807 then (if ((⟨#[40, 115, 108, 105, 99, 101, 32]⟩ : ByteArray) ++ t255).size + 1 ≤ 9223372036854775807 then ((impl_decimal.f k a0_1).bind fun t256 => (if (((⟨#[40, 115, 108, 105, 99, 101, 32]⟩ : ByteArray) ++ t255) ++ (⟨#[32]⟩ : ByteArray)).size + t256.size ≤ 9223372036854775807 then (some ((((⟨#[40, 115, 108, 105, 99, 101, 32]⟩ : ByteArray) ++ t255) ++ (⟨#[32]⟩ : ByteArray)) ++ t256)) else (none))) else (none)) else (none))) else (if a0_0 = 18 then (some (⟨#[40, 105, 102]⟩ : ByteArray)) else (if a0_0 = 19 then ((impl_decimal.f k a0_2).bind fun t257 => (if 6 + t257.size ≤ 9223372036854775807 then (if ((⟨#[40, 97, 108, 108, 32, 118]⟩ : ByteArray) ++ t257).size + 1 ≤ 9223372036854775807 then ((impl_decimal.f k a0_4).bind fun t258 => (if (((⟨#[40, 97, 108, 108, 32, 118]⟩ : ByteArray) ++ t257) ++ (⟨#[58]⟩ : ByteArray)).size + t258.size ≤ 9223372036854775807 then (some ((((⟨#[40, 97, 108, 108, 32, 118]⟩ : ByteArray) ++ t257) ++ (⟨#[58]⟩ : ByteArray)) ++ t258)) else (none))) else (none)) else (none))) else (if a0_0 = 20 then ((impl_decimal.f k a0_2).bind fun t259 => (if 7 + t259.size ≤ 9223372036854775807 then (if ((⟨#[40, 115, 111, 109, 101, 32, 118]⟩ : ByteArray) ++ t259).size + 1 ≤ 9223372036854775807 then ((impl_decimal.f k a0_4).bind fun t260 => (if (((⟨#[40, 115, 111, 109, 101, 32, 118]⟩ : ByteArray) ++ t259) ++ (⟨#[58]⟩ : ByteArray)).size + t260.size ≤ 9223372036854775807 then (some ((((⟨#[40, 115, 111, 109, 101, 32, 118]⟩ : ByteArray) ++ t259) ++ (⟨#[58]⟩ : ByteArray)) ++ t260)) else (none))) else (none)) else (none))) else ((impl_opWord.f a0_0).bind fun t261 => (if 1 + t261.size ≤ 9223372036854775807 then (some ((⟨#[40]⟩ : ByteArray) ++ t261)) else (none)))))))))) = some r := h
 clear h
 by_cases c2 : a0_0 = 0
 ·rw [if_pos c2] at H
  have c2b0 : (a0_0 == 0) = true := beq_iff_eq.mpr c2
  have c2b1 : (a0_0 != 0) = false := bne_eq_false_iff_eq.mpr c2
  clear c2
  replace H := Option.bind_eq_some_iff.mp H
  obtain ⟨t251, A30, H⟩ := H
  replace H : (if 1 + t251.size ≤ 9223372036854775807 then (if ((⟨#[35]⟩ : ByteArray) ++ t251).size + 1 ≤ 9223372036854775807 then ((impl_decimal.f k a0_2).bind fun t252 => (if (((⟨#[35]⟩ : ByteArray) ++ t251) ++ (⟨#[58]⟩ : ByteArray)).size + t252.size ≤ 9223372036854775807 then (some ((((⟨#[35]⟩ : ByteArray) ++ t251) ++ (⟨#[58]⟩ : ByteArray)) ++ t252)) else (none))) else (none)) else (none)) = some r := H
  have A3 := Aside0.mk A30
  clear A30
  by_cases c4 : 1 + t251.size ≤ 9223372036854775807
  ·rw [if_pos c4] at H
   have c4b0 := eq_true c4
   have c4b1 : decide (1 + t251.size ≤ 9223372036854775807) = true := decide_eq_true c4
   try have c4b2 : (9223372036854775807 < 1 + t251.size) = False := eq_false (Nat.not_lt.2 c4)
   by_cases c5 : ((⟨#[35]⟩ : ByteArray) ++ t251).size + 1 ≤ 9223372036854775807
   ·rw [if_pos c5] at H
    have c5b0 := eq_true c5
    have c5b1 : decide (((⟨#[35]⟩ : ByteArray) ++ t251).size + 1 ≤ 9223372036854775807) = true := decide_eq_true c5
    try have c5b2 : (9223372036854775807 < ((⟨#[35]⟩ : ByteArray) ++ t251).size + 1) = False := eq_false (Nat.not_lt.2 c5)
    have c5s : (9223372036854775807 < 1 + t251.size + 1) = False := eq_false (Nat.not_lt.2 (by have h_ := c5; (repeat rw [ByteArray.size_append] at h_); exact h_))
    replace H := Option.bind_eq_some_iff.mp H
    obtain ⟨t252, A60, H⟩ := H
    replace H : (if (((⟨#[35]⟩ : ByteArray) ++ t251) ++ (⟨#[58]⟩ : ByteArray)).size + t252.size ≤ 9223372036854775807 then (some ((((⟨#[35]⟩ : ByteArray) ++ t251) ++ (⟨#[58]⟩ : ByteArray)) ++ t252)) else (none)) = some r := H
    have A6 := Aside0.mk A60
    clear A60
    by_cases c7 : (((⟨#[35]⟩ : ByteArray) ++ t251) ++ (⟨#[58]⟩ : ByteArray)).size + t252.size ≤ 9223372036854775807
    ·rw [if_pos c7] at H
     have c7b0 := eq_true c7
     have c7b1 : decide ((((⟨#[35]⟩ : ByteArray) ++ t251) ++ (⟨#[58]⟩ : ByteArray)).size + t252.size ≤ 9223372036854775807) = true := decide_eq_true c7
     try have c7b2 : (9223372036854775807 < (((⟨#[35]⟩ : ByteArray) ++ t251) ++ (⟨#[58]⟩ : ByteArray)).size + t252.size) = False := eq_false (Nat.not_lt.2 c7)
     have c7s : (9223372036854775807 < 1 + t251.size + 1 + t252.size) = False := eq_false (Nat.not_lt.2 (by have h_ := c7; (repeat rw [ByteArray.size_append] at h_); exact h_))
     obtain rfl := Option.some.inj H
     go_enter Try.func57, Try.ntmps57
     try go_wp2_with (first | ((with_reducible refine gate_dst (N := 1) rfl ?_); refine box_event ?hg (N := 1) ?hd (cs := #[.int .i64 a0_0, .int .i64 a0_1, .int .i64 a0_2, .int .i64 a0_3, .int .i64 a0_4, .int .i64 a0_5]) (t := 31) ?hr ?_; (case hd => rfl); (case hg => rfl); (case hr => (go_simp; done)); intro gb250 hg w8 hbox hb; have n0_ := Aside0.mk (below_step (by repeat (first | (with_reducible first | exact HB.out | apply below_alloc | apply pw_below_drewN | apply below_drew1))) hb); have n1_ := Aside0.mk (hbox); have n2_ := Aside0.mk ((by rw [hg]; exact (below_size (by repeat (first | (with_reducible first | exact HB.out | apply below_alloc | apply pw_below_drewN | apply below_drew1)))) : w.heap.size ≤ gb250)); have n3_ := Aside0.mk ((by rw [hg]; exact (below_size (by repeat (first | (with_reducible first | exact HB.out | apply below_alloc | apply pw_below_drewN | apply below_drew1)))) : w.heap.size ≤ gb250)); clear HB; have HB := n0_; have BK250 := n1_; have GW250 := n2_; have GE250 := n3_; clear n0_ n1_ n2_ n3_; clear hb hbox hg; obtain ⟨hcz9_0, hcz9_1, hcz9_2, hcz9_3, hcz9_4, hcz9_5⟩ := cz6 BK250.out; obtain ⟨hfz9_0, hfz9_1, hfz9_2, hfz9_3, hfz9_4, hfz9_5⟩ := fz6 BK250.out))
     have n0_ := Aside0.mk (blk_drew BK250.out)
     have n1_ := Aside0.mk (below_drew1 HB.out)
     clear BK250
     clear HB
     have BK250 := n0_
     have HB := n1_
     clear n0_ n1_
     refine start_ (n := 10) (S := fun w' => w'.cell? ⟨gb250, 0, none⟩ = some (.int .i64 a0_0) ∧ w'.cell? ⟨gb250, 1, none⟩ = some (.int .i64 a0_1) ∧ w'.cell? ⟨gb250, 2, none⟩ = some (.int .i64 a0_2) ∧ w'.cell? ⟨gb250, 3, none⟩ = some (.int .i64 a0_3) ∧ w'.cell? ⟨gb250, 4, none⟩ = some (.int .i64 a0_4) ∧ w'.cell? ⟨gb250, 5, none⟩ = some (.int .i64 a0_5)) (ds := []) zA0x16 (by kernel_rfl) rfl rfl ⟨(blk_cell BK250.out 0).trans rfl, (blk_cell BK250.out 1).trans rfl, (blk_cell BK250.out 2).trans rfl, (blk_cell BK250.out 3).trans rfl, (blk_cell BK250.out 4).trans rfl, (blk_cell BK250.out 5).trans rfl⟩ (fun hHeld => ?_); refine with_tabW impl_head.tab3 impl_head.bits3 (fun HT_ HW_ => ?_)
     generalize w8.drew = w10 at BK250 HB hHeld ⊢
     refine pure_ (i := 0) (N := some 7) (v := ?_) (a' := ?_) zA1x16 rfl rfl (any_of HT_.out (by kernel_rfl)) (fun _ _ _ h => h) (Or.inl ⟨by rfl, ?_⟩) ?_ ?_; rotate_left; (intro w'; go_simp; with_reducible rfl); rotate_left; (simp only [Act.put, List.setIfInBounds_toArray, List.set_cons_zero, List.set_cons_succ, i64_w, i32_w]; rfl)
     refine pure_ (i := 5) (N := some 12) (v := ?_) (a' := ?_) zA2x16 rfl rfl (any_of HT_.out (by kernel_rfl)) (fun _ _ _ h => h) (Or.inl ⟨by rfl, ?_⟩) ?_ ?_; rotate_left; (intro w'; go_simp; with_reducible rfl); rotate_left; (simp only [Act.put, List.setIfInBounds_toArray, List.set_cons_zero, List.set_cons_succ, i64_w, i32_w]; rfl)
     refine take_ (i := 1) (N := some 8) (v := ?_) (a' := ?_) zA3x16 rfl rfl (take_ofW HT_.out HW_.out (by kernel_rfl)) (fun _ _ _ h => h) (Or.inl ⟨by rfl, ?_⟩) hHeld ?_ ?_
     rotate_left
     ·rintro w' ⟨s0, s1, s2, s3, s4, s5⟩
      go_simp
      with_reducible rfl
     rotate_left
     ·simp only [Act.put, List.setIfInBounds_toArray, List.set_cons_zero, List.set_cons_succ, i64_w, i32_w]
      rfl
     refine take_ (i := 6) (N := some 13) (v := ?_) (a' := ?_) zA4x16 rfl rfl (take_ofW HT_.out HW_.out (by kernel_rfl)) (fun _ _ _ h => h) (Or.inl ⟨by rfl, ?_⟩) hHeld ?_ ?_
     rotate_left
     ·rintro w' ⟨s0, s1, s2, s3, s4, s5⟩
      go_simp
      with_reducible rfl
     rotate_left
     ·simp only [Act.put, List.setIfInBounds_toArray, List.set_cons_zero, List.set_cons_succ, i64_w, i32_w]
      rfl
     refine one_ (i := 2) (N := some 9) zA5x16 rfl rfl (one_of HT_.out (by kernel_rfl)) (by decide) (fun K hK => ?_)
     refine goes_ Try.func86 (by kernel_rfl) rfl #[.int .i64 a0_1] (by rfl) rfl rfl (by (try simp only [List.map_toArray, List.map_cons, List.map_nil]); rfl) ?_
     with_reducible refine (impl_decimal.calls k a0_1 t251 _ A3.out).mono ?_
     rintro e w11 ⟨rfl, hb⟩
     refine ⟨_, rfl, ?_⟩
     have n0_ := Aside0.mk (blk_below (g := gb250) (o := .cells #[.int .i64 a0_0, .int .i64 a0_1, .int .i64 a0_2, .int .i64 a0_3, .int .i64 a0_4, .int .i64 a0_5] 31 (0, 0)) (by (with_reducible repeat (first | refine blk_drewN ?_ _ | refine blk_drew ?_ | refine blk_alloc ?_ _)); exact BK250.out) hb)
     have n1_ := Aside0.mk (below_step (by repeat (first | (with_reducible first | exact HB.out | apply below_alloc | apply pw_below_drewN | apply below_drew1 | refine below_set ?_ GE250.out) | exact HB.out)) hb)
     clear BK250
     clear HB
     have BK250 := n0_
     have HB := n1_
     clear n0_ n1_
     clear hb
     refine hK.out _ _ ⟨(blk_cell BK250.out 0).trans rfl, (blk_cell BK250.out 1).trans rfl, (blk_cell BK250.out 2).trans rfl, (blk_cell BK250.out 3).trans rfl, (blk_cell BK250.out 4).trans rfl, (blk_cell BK250.out 5).trans rfl⟩ (fun hHeld => ?_)
     clear hK K
     refine norm_ (a' := ?_) ?_ ?_
     rotate_left
     ·show Act.put _ (some 9) _ = _
      simp only [Act.put, List.setIfInBounds_toArray, List.set_cons_zero, List.set_cons_succ, i64_w, i32_w]
      rfl
     refine pure_ (i := 3) (N := some 10) (v := ?_) (a' := ?_) zA6x16 rfl rfl (any_of HT_.out (by kernel_rfl)) (fun _ _ _ h => h) (Or.inl ⟨by rfl, ?_⟩) ?_ ?_; rotate_left; (intro w'; go_simp; with_reducible rfl); rotate_left; (simp only [Act.put, List.setIfInBounds_toArray, List.set_cons_zero, List.set_cons_succ, i64_w, i32_w]; rfl)
     refine pure_ (i := 4) (N := some 11) (v := ?_) (a' := ?_) zA7x16 rfl rfl (any_of HT_.out (by kernel_rfl)) (fun _ _ _ h => h) (Or.inl ⟨by rfl, ?_⟩) ?_ ?_; rotate_left; (intro w'; go_simp; with_reducible rfl); rotate_left; (simp only [Act.put, List.setIfInBounds_toArray, List.set_cons_zero, List.set_cons_succ, i64_w, i32_w]; rfl)
     refine one_ (i := 7) (N := some 14) zA8x16 rfl rfl (one_of HT_.out (by kernel_rfl)) (by decide) (fun K hK => ?_)
     refine goes_ Try.func86 (by kernel_rfl) rfl #[.int .i64 a0_2] (by rfl) rfl rfl (by (try simp only [List.map_toArray, List.map_cons, List.map_nil]); rfl) ?_
     with_reducible refine (impl_decimal.calls k a0_2 t252 _ A6.out).mono ?_
     rintro e w12 ⟨rfl, hb⟩
     refine ⟨_, rfl, ?_⟩
     have n0_ := Aside0.mk (blk_below (g := gb250) (o := .cells #[.int .i64 a0_0, .int .i64 a0_1, .int .i64 a0_2, .int .i64 a0_3, .int .i64 a0_4, .int .i64 a0_5] 31 (0, 0)) (by (with_reducible repeat (first | refine blk_drewN ?_ _ | refine blk_drew ?_ | refine blk_alloc ?_ _)); exact BK250.out) hb)
     have n1_ := Aside0.mk (below_step (by repeat (first | (with_reducible first | exact HB.out | apply below_alloc | apply pw_below_drewN | apply below_drew1 | refine below_set ?_ GE250.out) | exact HB.out)) hb)
     clear BK250
     clear HB
     have BK250 := n0_
     have HB := n1_
     clear n0_ n1_
     clear hb
     refine hK.out _ _ ⟨(blk_cell BK250.out 0).trans rfl, (blk_cell BK250.out 1).trans rfl, (blk_cell BK250.out 2).trans rfl, (blk_cell BK250.out 3).trans rfl, (blk_cell BK250.out 4).trans rfl, (blk_cell BK250.out 5).trans rfl⟩ (fun hHeld => ?_)
     clear hK K
     refine norm_ (a' := ?_) ?_ ?_
     rotate_left
     ·show Act.put _ (some 14) _ = _
      simp only [Act.put, List.setIfInBounds_toArray, List.set_cons_zero, List.set_cons_succ, i64_w, i32_w]
      rfl
     refine pure_ (i := 8) (N := some 15) (v := ?_) (a' := ?_) zA9x16 rfl rfl (any_of HT_.out (by kernel_rfl)) (fun _ _ _ h => h) (Or.inl ⟨by rfl, ?_⟩) ?_ ?_; rotate_left; (intro w'; go_simp; with_reducible rfl); rotate_left; (simp only [Act.put, List.setIfInBounds_toArray, List.set_cons_zero, List.set_cons_succ, i64_w, i32_w]; rfl)
     refine pure_ (i := 9) (N := some 2) (v := ?_) (a' := ?_) zA10x16 rfl rfl (any_of HT_.out (by kernel_rfl)) (fun _ _ _ h => h) (Or.inl ⟨by rfl, ?_⟩) ?_ ?_; rotate_left; (intro w'; go_simp; with_reducible rfl); rotate_left; (simp only [Act.put, List.setIfInBounds_toArray, List.set_cons_zero, List.set_cons_succ, i64_w, i32_w]; rfl)
     refine done_ (done_of HT_.out (by kernel_rfl)) ?_
     try go_wp2
     go_ret
     exact ⟨by rfl, by repeat (first | (with_reducible first | exact HB.out | apply below_alloc | apply pw_below_drewN | apply below_drew1 | refine below_set ?_ GE250.out) | exact HB.out)⟩
    ·rw [if_neg c7] at H
     exact absurd H (by simp)
   ·rw [if_neg c5] at H
    exact absurd H (by simp)
  ·rw [if_neg c4] at H
   exact absurd H (by simp)
 ·rw [if_neg c2] at H
  have c2b0 : (a0_0 == 0) = false := beq_eq_false_iff_ne.mpr c2
  have c2b1 : (a0_0 != 0) = true := bne_iff_ne.mpr c2
  by_cases c13 : a0_0 = 1
  ·rw [if_pos c13] at H
   have c13b0 : (a0_0 == 1) = true := beq_iff_eq.mpr c13
   have c13b1 : (a0_0 != 1) = false := bne_eq_false_iff_eq.mpr c13
   clear c13
   replace H := Option.bind_eq_some_iff.mp H
   obtain ⟨t253, A140, H⟩ := H
   replace H : (if 1 + t253.size ≤ 9223372036854775807 then (if ((⟨#[118]⟩ : ByteArray) ++ t253).size + 1 ≤ 9223372036854775807 then ((impl_decimal.f k a0_1).bind fun t254 => (if (((⟨#[118]⟩ : ByteArray) ++ t253) ++ (⟨#[58]⟩ : ByteArray)).size + t254.size ≤ 9223372036854775807 then (some ((((⟨#[118]⟩ : ByteArray) ++ t253) ++ (⟨#[58]⟩ : ByteArray)) ++ t254)) else (none))) else (none)) else (none)) = some r := H
   have A14 := Aside0.mk A140
   clear A140
   by_cases c15 : 1 + t253.size ≤ 9223372036854775807
   ·rw [if_pos c15] at H
    have c15b0 := eq_true c15
    have c15b1 : decide (1 + t253.size ≤ 9223372036854775807) = true := decide_eq_true c15
    try have c15b2 : (9223372036854775807 < 1 + t253.size) = False := eq_false (Nat.not_lt.2 c15)
    by_cases c16 : ((⟨#[118]⟩ : ByteArray) ++ t253).size + 1 ≤ 9223372036854775807
    ·rw [if_pos c16] at H
     have c16b0 := eq_true c16
     have c16b1 : decide (((⟨#[118]⟩ : ByteArray) ++ t253).size + 1 ≤ 9223372036854775807) = true := decide_eq_true c16
     try have c16b2 : (9223372036854775807 < ((⟨#[118]⟩ : ByteArray) ++ t253).size + 1) = False := eq_false (Nat.not_lt.2 c16)
     have c16s : (9223372036854775807 < 1 + t253.size + 1) = False := eq_false (Nat.not_lt.2 (by have h_ := c16; (repeat rw [ByteArray.size_append] at h_); exact h_))
     replace H := Option.bind_eq_some_iff.mp H
     obtain ⟨t254, A170, H⟩ := H
     replace H : (if (((⟨#[118]⟩ : ByteArray) ++ t253) ++ (⟨#[58]⟩ : ByteArray)).size + t254.size ≤ 9223372036854775807 then (some ((((⟨#[118]⟩ : ByteArray) ++ t253) ++ (⟨#[58]⟩ : ByteArray)) ++ t254)) else (none)) = some r := H
     have A17 := Aside0.mk A170
     clear A170
     by_cases c18 : (((⟨#[118]⟩ : ByteArray) ++ t253) ++ (⟨#[58]⟩ : ByteArray)).size + t254.size ≤ 9223372036854775807
     ·rw [if_pos c18] at H
      have c18b0 := eq_true c18
      have c18b1 : decide ((((⟨#[118]⟩ : ByteArray) ++ t253) ++ (⟨#[58]⟩ : ByteArray)).size + t254.size ≤ 9223372036854775807) = true := decide_eq_true c18
      try have c18b2 : (9223372036854775807 < (((⟨#[118]⟩ : ByteArray) ++ t253) ++ (⟨#[58]⟩ : ByteArray)).size + t254.size) = False := eq_false (Nat.not_lt.2 c18)
      have c18s : (9223372036854775807 < 1 + t253.size + 1 + t254.size) = False := eq_false (Nat.not_lt.2 (by have h_ := c18; (repeat rw [ByteArray.size_append] at h_); exact h_))
      obtain rfl := Option.some.inj H
      go_enter Try.func57, Try.ntmps57
      try go_wp2_with (first | ((with_reducible refine gate_dst (N := 1) rfl ?_); refine box_event ?hg (N := 1) ?hd (cs := #[.int .i64 a0_0, .int .i64 a0_1, .int .i64 a0_2, .int .i64 a0_3, .int .i64 a0_4, .int .i64 a0_5]) (t := 31) ?hr ?_; (case hd => rfl); (case hg => rfl); (case hr => (go_simp; done)); intro gb250 hg w19 hbox hb; have n0_ := Aside0.mk (below_step (by repeat (first | (with_reducible first | exact HB.out | apply below_alloc | apply pw_below_drewN | apply below_drew1))) hb); have n1_ := Aside0.mk (hbox); have n2_ := Aside0.mk ((by rw [hg]; exact (below_size (by repeat (first | (with_reducible first | exact HB.out | apply below_alloc | apply pw_below_drewN | apply below_drew1)))) : w.heap.size ≤ gb250)); have n3_ := Aside0.mk ((by rw [hg]; exact (below_size (by repeat (first | (with_reducible first | exact HB.out | apply below_alloc | apply pw_below_drewN | apply below_drew1)))) : w.heap.size ≤ gb250)); clear HB; have HB := n0_; have BK250 := n1_; have GW250 := n2_; have GE250 := n3_; clear n0_ n1_ n2_ n3_; clear hb hbox hg; obtain ⟨hcz20_0, hcz20_1, hcz20_2, hcz20_3, hcz20_4, hcz20_5⟩ := cz6 BK250.out; obtain ⟨hfz20_0, hfz20_1, hfz20_2, hfz20_3, hfz20_4, hfz20_5⟩ := fz6 BK250.out))
      have n0_ := Aside0.mk (blk_drew BK250.out)
      have n1_ := Aside0.mk (below_drew1 HB.out)
      clear BK250
      clear HB
      have BK250 := n0_
      have HB := n1_
      clear n0_ n1_
      refine start_ (n := 10) (S := fun w' => w'.cell? ⟨gb250, 0, none⟩ = some (.int .i64 a0_0) ∧ w'.cell? ⟨gb250, 1, none⟩ = some (.int .i64 a0_1) ∧ w'.cell? ⟨gb250, 2, none⟩ = some (.int .i64 a0_2) ∧ w'.cell? ⟨gb250, 3, none⟩ = some (.int .i64 a0_3) ∧ w'.cell? ⟨gb250, 4, none⟩ = some (.int .i64 a0_4) ∧ w'.cell? ⟨gb250, 5, none⟩ = some (.int .i64 a0_5)) (ds := []) zA0x16 (by kernel_rfl) rfl rfl ⟨(blk_cell BK250.out 0).trans rfl, (blk_cell BK250.out 1).trans rfl, (blk_cell BK250.out 2).trans rfl, (blk_cell BK250.out 3).trans rfl, (blk_cell BK250.out 4).trans rfl, (blk_cell BK250.out 5).trans rfl⟩ (fun hHeld => ?_); refine with_tabW impl_head.tab5 impl_head.bits5 (fun HT_ HW_ => ?_)
      generalize w19.drew = w21 at BK250 HB hHeld ⊢
      refine pure_ (i := 0) (N := some 18) (v := ?_) (a' := ?_) zA1x16 rfl rfl (any_of HT_.out (by kernel_rfl)) (fun _ _ _ h => h) (Or.inl ⟨by rfl, ?_⟩) ?_ ?_; rotate_left; (intro w'; go_simp; with_reducible rfl); rotate_left; (simp only [Act.put, List.setIfInBounds_toArray, List.set_cons_zero, List.set_cons_succ, i64_w, i32_w]; rfl)
      refine pure_ (i := 5) (N := some 23) (v := ?_) (a' := ?_) zA2x16 rfl rfl (any_of HT_.out (by kernel_rfl)) (fun _ _ _ h => h) (Or.inl ⟨by rfl, ?_⟩) ?_ ?_; rotate_left; (intro w'; go_simp; with_reducible rfl); rotate_left; (simp only [Act.put, List.setIfInBounds_toArray, List.set_cons_zero, List.set_cons_succ, i64_w, i32_w]; rfl)
      refine take_ (i := 1) (N := some 19) (v := ?_) (a' := ?_) zA3x16 rfl rfl (take_ofW HT_.out HW_.out (by kernel_rfl)) (fun _ _ _ h => h) (Or.inl ⟨by rfl, ?_⟩) hHeld ?_ ?_
      rotate_left
      ·rintro w' ⟨s0, s1, s2, s3, s4, s5⟩
       go_simp
       with_reducible rfl
      rotate_left
      ·simp only [Act.put, List.setIfInBounds_toArray, List.set_cons_zero, List.set_cons_succ, i64_w, i32_w]
       rfl
      refine take_ (i := 6) (N := some 24) (v := ?_) (a' := ?_) zA4x16 rfl rfl (take_ofW HT_.out HW_.out (by kernel_rfl)) (fun _ _ _ h => h) (Or.inl ⟨by rfl, ?_⟩) hHeld ?_ ?_
      rotate_left
      ·rintro w' ⟨s0, s1, s2, s3, s4, s5⟩
       go_simp
       with_reducible rfl
      rotate_left
      ·simp only [Act.put, List.setIfInBounds_toArray, List.set_cons_zero, List.set_cons_succ, i64_w, i32_w]
       rfl
      refine one_ (i := 2) (N := some 20) zA5x16 rfl rfl (one_of HT_.out (by kernel_rfl)) (by decide) (fun K hK => ?_)
      refine goes_ Try.func86 (by kernel_rfl) rfl #[.int .i64 a0_2] (by rfl) rfl rfl (by (try simp only [List.map_toArray, List.map_cons, List.map_nil]); rfl) ?_
      with_reducible refine (impl_decimal.calls k a0_2 t253 _ A14.out).mono ?_
      rintro e w22 ⟨rfl, hb⟩
      refine ⟨_, rfl, ?_⟩
      have n0_ := Aside0.mk (blk_below (g := gb250) (o := .cells #[.int .i64 a0_0, .int .i64 a0_1, .int .i64 a0_2, .int .i64 a0_3, .int .i64 a0_4, .int .i64 a0_5] 31 (0, 0)) (by (with_reducible repeat (first | refine blk_drewN ?_ _ | refine blk_drew ?_ | refine blk_alloc ?_ _)); exact BK250.out) hb)
      have n1_ := Aside0.mk (below_step (by repeat (first | (with_reducible first | exact HB.out | apply below_alloc | apply pw_below_drewN | apply below_drew1 | refine below_set ?_ GE250.out) | exact HB.out)) hb)
      clear BK250
      clear HB
      have BK250 := n0_
      have HB := n1_
      clear n0_ n1_
      clear hb
      refine hK.out _ _ ⟨(blk_cell BK250.out 0).trans rfl, (blk_cell BK250.out 1).trans rfl, (blk_cell BK250.out 2).trans rfl, (blk_cell BK250.out 3).trans rfl, (blk_cell BK250.out 4).trans rfl, (blk_cell BK250.out 5).trans rfl⟩ (fun hHeld => ?_)
      clear hK K
      refine norm_ (a' := ?_) ?_ ?_
      rotate_left
      ·show Act.put _ (some 20) _ = _
       simp only [Act.put, List.setIfInBounds_toArray, List.set_cons_zero, List.set_cons_succ, i64_w, i32_w]
       rfl
      refine pure_ (i := 3) (N := some 21) (v := ?_) (a' := ?_) zA6x16 rfl rfl (any_of HT_.out (by kernel_rfl)) (fun _ _ _ h => h) (Or.inl ⟨by rfl, ?_⟩) ?_ ?_; rotate_left; (intro w'; go_simp; with_reducible rfl); rotate_left; (simp only [Act.put, List.setIfInBounds_toArray, List.set_cons_zero, List.set_cons_succ, i64_w, i32_w]; rfl)
      refine pure_ (i := 4) (N := some 22) (v := ?_) (a' := ?_) zA7x16 rfl rfl (any_of HT_.out (by kernel_rfl)) (fun _ _ _ h => h) (Or.inl ⟨by rfl, ?_⟩) ?_ ?_; rotate_left; (intro w'; go_simp; with_reducible rfl); rotate_left; (simp only [Act.put, List.setIfInBounds_toArray, List.set_cons_zero, List.set_cons_succ, i64_w, i32_w]; rfl)
      refine one_ (i := 7) (N := some 25) zA8x16 rfl rfl (one_of HT_.out (by kernel_rfl)) (by decide) (fun K hK => ?_)
      refine goes_ Try.func86 (by kernel_rfl) rfl #[.int .i64 a0_1] (by rfl) rfl rfl (by (try simp only [List.map_toArray, List.map_cons, List.map_nil]); rfl) ?_
      with_reducible refine (impl_decimal.calls k a0_1 t254 _ A17.out).mono ?_
      rintro e w23 ⟨rfl, hb⟩
      refine ⟨_, rfl, ?_⟩
      have n0_ := Aside0.mk (blk_below (g := gb250) (o := .cells #[.int .i64 a0_0, .int .i64 a0_1, .int .i64 a0_2, .int .i64 a0_3, .int .i64 a0_4, .int .i64 a0_5] 31 (0, 0)) (by (with_reducible repeat (first | refine blk_drewN ?_ _ | refine blk_drew ?_ | refine blk_alloc ?_ _)); exact BK250.out) hb)
      have n1_ := Aside0.mk (below_step (by repeat (first | (with_reducible first | exact HB.out | apply below_alloc | apply pw_below_drewN | apply below_drew1 | refine below_set ?_ GE250.out) | exact HB.out)) hb)
      clear BK250
      clear HB
      have BK250 := n0_
      have HB := n1_
      clear n0_ n1_
      clear hb
      refine hK.out _ _ ⟨(blk_cell BK250.out 0).trans rfl, (blk_cell BK250.out 1).trans rfl, (blk_cell BK250.out 2).trans rfl, (blk_cell BK250.out 3).trans rfl, (blk_cell BK250.out 4).trans rfl, (blk_cell BK250.out 5).trans rfl⟩ (fun hHeld => ?_)
      clear hK K
      refine norm_ (a' := ?_) ?_ ?_
      rotate_left
      ·show Act.put _ (some 25) _ = _
       simp only [Act.put, List.setIfInBounds_toArray, List.set_cons_zero, List.set_cons_succ, i64_w, i32_w]
       rfl
      refine pure_ (i := 8) (N := some 26) (v := ?_) (a' := ?_) zA9x16 rfl rfl (any_of HT_.out (by kernel_rfl)) (fun _ _ _ h => h) (Or.inl ⟨by rfl, ?_⟩) ?_ ?_; rotate_left; (intro w'; go_simp; with_reducible rfl); rotate_left; (simp only [Act.put, List.setIfInBounds_toArray, List.set_cons_zero, List.set_cons_succ, i64_w, i32_w]; rfl)
      refine pure_ (i := 9) (N := some 2) (v := ?_) (a' := ?_) zA10x16 rfl rfl (any_of HT_.out (by kernel_rfl)) (fun _ _ _ h => h) (Or.inl ⟨by rfl, ?_⟩) ?_ ?_; rotate_left; (intro w'; go_simp; with_reducible rfl); rotate_left; (simp only [Act.put, List.setIfInBounds_toArray, List.set_cons_zero, List.set_cons_succ, i64_w, i32_w]; rfl)
      refine done_ (done_of HT_.out (by kernel_rfl)) ?_
      try go_wp2
      go_ret
      exact ⟨by rfl, by repeat (first | (with_reducible first | exact HB.out | apply below_alloc | apply pw_below_drewN | apply below_drew1 | refine below_set ?_ GE250.out) | exact HB.out)⟩
     ·rw [if_neg c18] at H
      exact absurd H (by simp)
    ·rw [if_neg c16] at H
     exact absurd H (by simp)
   ·rw [if_neg c15] at H
    exact absurd H (by simp)
  ·rw [if_neg c13] at H
   have c13b0 : (a0_0 == 1) = false := beq_eq_false_iff_ne.mpr c13
   have c13b1 : (a0_0 != 1) = true := bne_iff_ne.mpr c13
   by_cases c24 : a0_0 = 2
   ·rw [if_pos c24] at H
    have c24b0 : (a0_0 == 2) = true := beq_iff_eq.mpr c24
    have c24b1 : (a0_0 != 2) = false := bne_eq_false_iff_eq.mpr c24
    clear c24
    obtain rfl := Option.some.inj H
    go_enter Try.func57, Try.ntmps57
    go_wp2_with (first | ((with_reducible refine gate_dst (N := 1) rfl ?_); refine box_event ?hg (N := 1) ?hd (cs := #[.int .i64 a0_0, .int .i64 a0_1, .int .i64 a0_2, .int .i64 a0_3, .int .i64 a0_4, .int .i64 a0_5]) (t := 31) ?hr ?_; (case hd => rfl); (case hg => rfl); (case hr => (go_simp; done)); intro gb250 hg w25 hbox hb; have n0_ := Aside0.mk (below_step (by repeat (first | (with_reducible first | exact HB.out | apply below_alloc | apply pw_below_drewN | apply below_drew1))) hb); have n1_ := Aside0.mk (hbox); have n2_ := Aside0.mk ((by rw [hg]; exact (below_size (by repeat (first | (with_reducible first | exact HB.out | apply below_alloc | apply pw_below_drewN | apply below_drew1)))) : w.heap.size ≤ gb250)); have n3_ := Aside0.mk ((by rw [hg]; exact (below_size (by repeat (first | (with_reducible first | exact HB.out | apply below_alloc | apply pw_below_drewN | apply below_drew1)))) : w.heap.size ≤ gb250)); clear HB; have HB := n0_; have BK250 := n1_; have GW250 := n2_; have GE250 := n3_; clear n0_ n1_ n2_ n3_; clear hb hbox hg; obtain ⟨hcz26_0, hcz26_1, hcz26_2, hcz26_3, hcz26_4, hcz26_5⟩ := cz6 BK250.out; obtain ⟨hfz26_0, hfz26_1, hfz26_2, hfz26_3, hfz26_4, hfz26_5⟩ := fz6 BK250.out))
    go_ret
    exact ⟨by rfl, by repeat (first | (with_reducible first | exact HB.out | apply below_alloc | apply pw_below_drewN | apply below_drew1 | refine below_set ?_ GE250.out) | exact HB.out)⟩
   ·rw [if_neg c24] at H
    have c24b0 : (a0_0 == 2) = false := beq_eq_false_iff_ne.mpr c24
    have c24b1 : (a0_0 != 2) = true := bne_iff_ne.mpr c24
    by_cases c27 : a0_0 = 17
    ·rw [if_pos c27] at H
     have c27b0 : (a0_0 == 17) = true := beq_iff_eq.mpr c27
     have c27b1 : (a0_0 != 17) = false := bne_eq_false_iff_eq.mpr c27
     clear c27
     replace H := Option.bind_eq_some_iff.mp H
     obtain ⟨t255, A280, H⟩ := H
     replace H : (if 7 + t255.size ≤ 9223372036854775807 then (if ((⟨#[40, 115, 108, 105, 99, 101, 32]⟩ : ByteArray) ++ t255).size + 1 ≤ 9223372036854775807 then ((impl_decimal.f k a0_1).bind fun t256 => (if (((⟨#[40, 115, 108, 105, 99, 101, 32]⟩ : ByteArray) ++ t255) ++ (⟨#[32]⟩ : ByteArray)).size + t256.size ≤ 9223372036854775807 then (some ((((⟨#[40, 115, 108, 105, 99, 101, 32]⟩ : ByteArray) ++ t255) ++ (⟨#[32]⟩ : ByteArray)) ++ t256)) else (none))) else (none)) else (none)) = some r := H
     have A28 := Aside0.mk A280
     clear A280
     by_cases c29 : 7 + t255.size ≤ 9223372036854775807
     ·rw [if_pos c29] at H
      have c29b0 := eq_true c29
      have c29b1 : decide (7 + t255.size ≤ 9223372036854775807) = true := decide_eq_true c29
      try have c29b2 : (9223372036854775807 < 7 + t255.size) = False := eq_false (Nat.not_lt.2 c29)
      by_cases c30 : ((⟨#[40, 115, 108, 105, 99, 101, 32]⟩ : ByteArray) ++ t255).size + 1 ≤ 9223372036854775807
      ·rw [if_pos c30] at H
       have c30b0 := eq_true c30
       have c30b1 : decide (((⟨#[40, 115, 108, 105, 99, 101, 32]⟩ : ByteArray) ++ t255).size + 1 ≤ 9223372036854775807) = true := decide_eq_true c30
       try have c30b2 : (9223372036854775807 < ((⟨#[40, 115, 108, 105, 99, 101, 32]⟩ : ByteArray) ++ t255).size + 1) = False := eq_false (Nat.not_lt.2 c30)
       have c30s : (9223372036854775807 < 7 + t255.size + 1) = False := eq_false (Nat.not_lt.2 (by have h_ := c30; (repeat rw [ByteArray.size_append] at h_); exact h_))
       replace H := Option.bind_eq_some_iff.mp H
       obtain ⟨t256, A310, H⟩ := H
       replace H : (if (((⟨#[40, 115, 108, 105, 99, 101, 32]⟩ : ByteArray) ++ t255) ++ (⟨#[32]⟩ : ByteArray)).size + t256.size ≤ 9223372036854775807 then (some ((((⟨#[40, 115, 108, 105, 99, 101, 32]⟩ : ByteArray) ++ t255) ++ (⟨#[32]⟩ : ByteArray)) ++ t256)) else (none)) = some r := H
       have A31 := Aside0.mk A310
       clear A310
       by_cases c32 : (((⟨#[40, 115, 108, 105, 99, 101, 32]⟩ : ByteArray) ++ t255) ++ (⟨#[32]⟩ : ByteArray)).size + t256.size ≤ 9223372036854775807
       ·rw [if_pos c32] at H
        have c32b0 := eq_true c32
        have c32b1 : decide ((((⟨#[40, 115, 108, 105, 99, 101, 32]⟩ : ByteArray) ++ t255) ++ (⟨#[32]⟩ : ByteArray)).size + t256.size ≤ 9223372036854775807) = true := decide_eq_true c32
        try have c32b2 : (9223372036854775807 < (((⟨#[40, 115, 108, 105, 99, 101, 32]⟩ : ByteArray) ++ t255) ++ (⟨#[32]⟩ : ByteArray)).size + t256.size) = False := eq_false (Nat.not_lt.2 c32)
        have c32s : (9223372036854775807 < 7 + t255.size + 1 + t256.size) = False := eq_false (Nat.not_lt.2 (by have h_ := c32; (repeat rw [ByteArray.size_append] at h_); exact h_))
        obtain rfl := Option.some.inj H
        go_enter Try.func57, Try.ntmps57
        try go_wp2_with (first | ((with_reducible refine gate_dst (N := 1) rfl ?_); refine box_event ?hg (N := 1) ?hd (cs := #[.int .i64 a0_0, .int .i64 a0_1, .int .i64 a0_2, .int .i64 a0_3, .int .i64 a0_4, .int .i64 a0_5]) (t := 31) ?hr ?_; (case hd => rfl); (case hg => rfl); (case hr => (go_simp; done)); intro gb250 hg w33 hbox hb; have n0_ := Aside0.mk (below_step (by repeat (first | (with_reducible first | exact HB.out | apply below_alloc | apply pw_below_drewN | apply below_drew1))) hb); have n1_ := Aside0.mk (hbox); have n2_ := Aside0.mk ((by rw [hg]; exact (below_size (by repeat (first | (with_reducible first | exact HB.out | apply below_alloc | apply pw_below_drewN | apply below_drew1)))) : w.heap.size ≤ gb250)); have n3_ := Aside0.mk ((by rw [hg]; exact (below_size (by repeat (first | (with_reducible first | exact HB.out | apply below_alloc | apply pw_below_drewN | apply below_drew1)))) : w.heap.size ≤ gb250)); clear HB; have HB := n0_; have BK250 := n1_; have GW250 := n2_; have GE250 := n3_; clear n0_ n1_ n2_ n3_; clear hb hbox hg; obtain ⟨hcz34_0, hcz34_1, hcz34_2, hcz34_3, hcz34_4, hcz34_5⟩ := cz6 BK250.out; obtain ⟨hfz34_0, hfz34_1, hfz34_2, hfz34_3, hfz34_4, hfz34_5⟩ := fz6 BK250.out))
        have n0_ := Aside0.mk (blk_drew BK250.out)
        have n1_ := Aside0.mk (below_drew1 HB.out)
        clear BK250
        clear HB
        have BK250 := n0_
        have HB := n1_
        clear n0_ n1_
        refine start_ (n := 10) (S := fun w' => w'.cell? ⟨gb250, 0, none⟩ = some (.int .i64 a0_0) ∧ w'.cell? ⟨gb250, 1, none⟩ = some (.int .i64 a0_1) ∧ w'.cell? ⟨gb250, 2, none⟩ = some (.int .i64 a0_2) ∧ w'.cell? ⟨gb250, 3, none⟩ = some (.int .i64 a0_3) ∧ w'.cell? ⟨gb250, 4, none⟩ = some (.int .i64 a0_4) ∧ w'.cell? ⟨gb250, 5, none⟩ = some (.int .i64 a0_5)) (ds := []) zA0x16 (by kernel_rfl) rfl rfl ⟨(blk_cell BK250.out 0).trans rfl, (blk_cell BK250.out 1).trans rfl, (blk_cell BK250.out 2).trans rfl, (blk_cell BK250.out 3).trans rfl, (blk_cell BK250.out 4).trans rfl, (blk_cell BK250.out 5).trans rfl⟩ (fun hHeld => ?_); refine with_tabW impl_head.tab9 impl_head.bits9 (fun HT_ HW_ => ?_)
        generalize w33.drew = w35 at BK250 HB hHeld ⊢
        refine pure_ (i := 0) (N := some 31) (v := ?_) (a' := ?_) zA1x16 rfl rfl (any_of HT_.out (by kernel_rfl)) (fun _ _ _ h => h) (Or.inl ⟨by rfl, ?_⟩) ?_ ?_; rotate_left; (intro w'; go_simp; with_reducible rfl); rotate_left; (simp only [Act.put, List.setIfInBounds_toArray, List.set_cons_zero, List.set_cons_succ, i64_w, i32_w]; rfl)
        refine pure_ (i := 5) (N := some 36) (v := ?_) (a' := ?_) zA2x16 rfl rfl (any_of HT_.out (by kernel_rfl)) (fun _ _ _ h => h) (Or.inl ⟨by rfl, ?_⟩) ?_ ?_; rotate_left; (intro w'; go_simp; with_reducible rfl); rotate_left; (simp only [Act.put, List.setIfInBounds_toArray, List.set_cons_zero, List.set_cons_succ, i64_w, i32_w]; rfl)
        refine take_ (i := 1) (N := some 32) (v := ?_) (a' := ?_) zA3x16 rfl rfl (take_ofW HT_.out HW_.out (by kernel_rfl)) (fun _ _ _ h => h) (Or.inl ⟨by rfl, ?_⟩) hHeld ?_ ?_
        rotate_left
        ·rintro w' ⟨s0, s1, s2, s3, s4, s5⟩
         go_simp
         with_reducible rfl
        rotate_left
        ·simp only [Act.put, List.setIfInBounds_toArray, List.set_cons_zero, List.set_cons_succ, i64_w, i32_w]
         rfl
        refine take_ (i := 6) (N := some 37) (v := ?_) (a' := ?_) zA4x16 rfl rfl (take_ofW HT_.out HW_.out (by kernel_rfl)) (fun _ _ _ h => h) (Or.inl ⟨by rfl, ?_⟩) hHeld ?_ ?_
        rotate_left
        ·rintro w' ⟨s0, s1, s2, s3, s4, s5⟩
         go_simp
         with_reducible rfl
        rotate_left
        ·simp only [Act.put, List.setIfInBounds_toArray, List.set_cons_zero, List.set_cons_succ, i64_w, i32_w]
         rfl
        refine one_ (i := 2) (N := some 33) zA5x16 rfl rfl (one_of HT_.out (by kernel_rfl)) (by decide) (fun K hK => ?_)
        refine goes_ Try.func86 (by kernel_rfl) rfl #[.int .i64 a0_2] (by rfl) rfl rfl (by (try simp only [List.map_toArray, List.map_cons, List.map_nil]); rfl) ?_
        with_reducible refine (impl_decimal.calls k a0_2 t255 _ A28.out).mono ?_
        rintro e w36 ⟨rfl, hb⟩
        refine ⟨_, rfl, ?_⟩
        have n0_ := Aside0.mk (blk_below (g := gb250) (o := .cells #[.int .i64 a0_0, .int .i64 a0_1, .int .i64 a0_2, .int .i64 a0_3, .int .i64 a0_4, .int .i64 a0_5] 31 (0, 0)) (by (with_reducible repeat (first | refine blk_drewN ?_ _ | refine blk_drew ?_ | refine blk_alloc ?_ _)); exact BK250.out) hb)
        have n1_ := Aside0.mk (below_step (by repeat (first | (with_reducible first | exact HB.out | apply below_alloc | apply pw_below_drewN | apply below_drew1 | refine below_set ?_ GE250.out) | exact HB.out)) hb)
        clear BK250
        clear HB
        have BK250 := n0_
        have HB := n1_
        clear n0_ n1_
        clear hb
        refine hK.out _ _ ⟨(blk_cell BK250.out 0).trans rfl, (blk_cell BK250.out 1).trans rfl, (blk_cell BK250.out 2).trans rfl, (blk_cell BK250.out 3).trans rfl, (blk_cell BK250.out 4).trans rfl, (blk_cell BK250.out 5).trans rfl⟩ (fun hHeld => ?_)
        clear hK K
        refine norm_ (a' := ?_) ?_ ?_
        rotate_left
        ·show Act.put _ (some 33) _ = _
         simp only [Act.put, List.setIfInBounds_toArray, List.set_cons_zero, List.set_cons_succ, i64_w, i32_w]
         rfl
        refine pure_ (i := 3) (N := some 34) (v := ?_) (a' := ?_) zA6x16 rfl rfl (any_of HT_.out (by kernel_rfl)) (fun _ _ _ h => h) (Or.inl ⟨by rfl, ?_⟩) ?_ ?_; rotate_left; (intro w'; go_simp; with_reducible rfl); rotate_left; (simp only [Act.put, List.setIfInBounds_toArray, List.set_cons_zero, List.set_cons_succ, i64_w, i32_w]; rfl)
        refine pure_ (i := 4) (N := some 35) (v := ?_) (a' := ?_) zA7x16 rfl rfl (any_of HT_.out (by kernel_rfl)) (fun _ _ _ h => h) (Or.inl ⟨by rfl, ?_⟩) ?_ ?_; rotate_left; (intro w'; go_simp; with_reducible rfl); rotate_left; (simp only [Act.put, List.setIfInBounds_toArray, List.set_cons_zero, List.set_cons_succ, i64_w, i32_w]; rfl)
        refine one_ (i := 7) (N := some 38) zA8x16 rfl rfl (one_of HT_.out (by kernel_rfl)) (by decide) (fun K hK => ?_)
        refine goes_ Try.func86 (by kernel_rfl) rfl #[.int .i64 a0_1] (by rfl) rfl rfl (by (try simp only [List.map_toArray, List.map_cons, List.map_nil]); rfl) ?_
        with_reducible refine (impl_decimal.calls k a0_1 t256 _ A31.out).mono ?_
        rintro e w37 ⟨rfl, hb⟩
        refine ⟨_, rfl, ?_⟩
        have n0_ := Aside0.mk (blk_below (g := gb250) (o := .cells #[.int .i64 a0_0, .int .i64 a0_1, .int .i64 a0_2, .int .i64 a0_3, .int .i64 a0_4, .int .i64 a0_5] 31 (0, 0)) (by (with_reducible repeat (first | refine blk_drewN ?_ _ | refine blk_drew ?_ | refine blk_alloc ?_ _)); exact BK250.out) hb)
        have n1_ := Aside0.mk (below_step (by repeat (first | (with_reducible first | exact HB.out | apply below_alloc | apply pw_below_drewN | apply below_drew1 | refine below_set ?_ GE250.out) | exact HB.out)) hb)
        clear BK250
        clear HB
        have BK250 := n0_
        have HB := n1_
        clear n0_ n1_
        clear hb
        refine hK.out _ _ ⟨(blk_cell BK250.out 0).trans rfl, (blk_cell BK250.out 1).trans rfl, (blk_cell BK250.out 2).trans rfl, (blk_cell BK250.out 3).trans rfl, (blk_cell BK250.out 4).trans rfl, (blk_cell BK250.out 5).trans rfl⟩ (fun hHeld => ?_)
        clear hK K
        refine norm_ (a' := ?_) ?_ ?_
        rotate_left
        ·show Act.put _ (some 38) _ = _
         simp only [Act.put, List.setIfInBounds_toArray, List.set_cons_zero, List.set_cons_succ, i64_w, i32_w]
         rfl
        refine pure_ (i := 8) (N := some 39) (v := ?_) (a' := ?_) zA9x16 rfl rfl (any_of HT_.out (by kernel_rfl)) (fun _ _ _ h => h) (Or.inl ⟨by rfl, ?_⟩) ?_ ?_; rotate_left; (intro w'; go_simp; with_reducible rfl); rotate_left; (simp only [Act.put, List.setIfInBounds_toArray, List.set_cons_zero, List.set_cons_succ, i64_w, i32_w]; rfl)
        refine pure_ (i := 9) (N := some 2) (v := ?_) (a' := ?_) zA10x16 rfl rfl (any_of HT_.out (by kernel_rfl)) (fun _ _ _ h => h) (Or.inl ⟨by rfl, ?_⟩) ?_ ?_; rotate_left; (intro w'; go_simp; with_reducible rfl); rotate_left; (simp only [Act.put, List.setIfInBounds_toArray, List.set_cons_zero, List.set_cons_succ, i64_w, i32_w]; rfl)
        refine done_ (done_of HT_.out (by kernel_rfl)) ?_
        try go_wp2
        go_ret
        exact ⟨by rfl, by repeat (first | (with_reducible first | exact HB.out | apply below_alloc | apply pw_below_drewN | apply below_drew1 | refine below_set ?_ GE250.out) | exact HB.out)⟩
       ·rw [if_neg c32] at H
        exact absurd H (by simp)
      ·rw [if_neg c30] at H
       exact absurd H (by simp)
     ·rw [if_neg c29] at H
      exact absurd H (by simp)
    ·rw [if_neg c27] at H
     have c27b0 : (a0_0 == 17) = false := beq_eq_false_iff_ne.mpr c27
     have c27b1 : (a0_0 != 17) = true := bne_iff_ne.mpr c27
     by_cases c38 : a0_0 = 18
     ·rw [if_pos c38] at H
      have c38b0 : (a0_0 == 18) = true := beq_iff_eq.mpr c38
      have c38b1 : (a0_0 != 18) = false := bne_eq_false_iff_eq.mpr c38
      clear c38
      obtain rfl := Option.some.inj H
      go_enter Try.func57, Try.ntmps57
      go_wp2_with (first | ((with_reducible refine gate_dst (N := 1) rfl ?_); refine box_event ?hg (N := 1) ?hd (cs := #[.int .i64 a0_0, .int .i64 a0_1, .int .i64 a0_2, .int .i64 a0_3, .int .i64 a0_4, .int .i64 a0_5]) (t := 31) ?hr ?_; (case hd => rfl); (case hg => rfl); (case hr => (go_simp; done)); intro gb250 hg w39 hbox hb; have n0_ := Aside0.mk (below_step (by repeat (first | (with_reducible first | exact HB.out | apply below_alloc | apply pw_below_drewN | apply below_drew1))) hb); have n1_ := Aside0.mk (hbox); have n2_ := Aside0.mk ((by rw [hg]; exact (below_size (by repeat (first | (with_reducible first | exact HB.out | apply below_alloc | apply pw_below_drewN | apply below_drew1)))) : w.heap.size ≤ gb250)); have n3_ := Aside0.mk ((by rw [hg]; exact (below_size (by repeat (first | (with_reducible first | exact HB.out | apply below_alloc | apply pw_below_drewN | apply below_drew1)))) : w.heap.size ≤ gb250)); clear HB; have HB := n0_; have BK250 := n1_; have GW250 := n2_; have GE250 := n3_; clear n0_ n1_ n2_ n3_; clear hb hbox hg; obtain ⟨hcz40_0, hcz40_1, hcz40_2, hcz40_3, hcz40_4, hcz40_5⟩ := cz6 BK250.out; obtain ⟨hfz40_0, hfz40_1, hfz40_2, hfz40_3, hfz40_4, hfz40_5⟩ := fz6 BK250.out))
      go_ret
      exact ⟨by rfl, by repeat (first | (with_reducible first | exact HB.out | apply below_alloc | apply pw_below_drewN | apply below_drew1 | refine below_set ?_ GE250.out) | exact HB.out)⟩
     ·rw [if_neg c38] at H
      have c38b0 : (a0_0 == 18) = false := beq_eq_false_iff_ne.mpr c38
      have c38b1 : (a0_0 != 18) = true := bne_iff_ne.mpr c38
      by_cases c41 : a0_0 = 19
      ·rw [if_pos c41] at H
       have c41b0 : (a0_0 == 19) = true := beq_iff_eq.mpr c41
       have c41b1 : (a0_0 != 19) = false := bne_eq_false_iff_eq.mpr c41
       clear c41
       replace H := Option.bind_eq_some_iff.mp H
       obtain ⟨t257, A420, H⟩ := H
       replace H : (if 6 + t257.size ≤ 9223372036854775807 then (if ((⟨#[40, 97, 108, 108, 32, 118]⟩ : ByteArray) ++ t257).size + 1 ≤ 9223372036854775807 then ((impl_decimal.f k a0_4).bind fun t258 => (if (((⟨#[40, 97, 108, 108, 32, 118]⟩ : ByteArray) ++ t257) ++ (⟨#[58]⟩ : ByteArray)).size + t258.size ≤ 9223372036854775807 then (some ((((⟨#[40, 97, 108, 108, 32, 118]⟩ : ByteArray) ++ t257) ++ (⟨#[58]⟩ : ByteArray)) ++ t258)) else (none))) else (none)) else (none)) = some r := H
       have A42 := Aside0.mk A420
       clear A420
       by_cases c43 : 6 + t257.size ≤ 9223372036854775807
       ·rw [if_pos c43] at H
        have c43b0 := eq_true c43
        have c43b1 : decide (6 + t257.size ≤ 9223372036854775807) = true := decide_eq_true c43
        try have c43b2 : (9223372036854775807 < 6 + t257.size) = False := eq_false (Nat.not_lt.2 c43)
        by_cases c44 : ((⟨#[40, 97, 108, 108, 32, 118]⟩ : ByteArray) ++ t257).size + 1 ≤ 9223372036854775807
        ·rw [if_pos c44] at H
         have c44b0 := eq_true c44
         have c44b1 : decide (((⟨#[40, 97, 108, 108, 32, 118]⟩ : ByteArray) ++ t257).size + 1 ≤ 9223372036854775807) = true := decide_eq_true c44
         try have c44b2 : (9223372036854775807 < ((⟨#[40, 97, 108, 108, 32, 118]⟩ : ByteArray) ++ t257).size + 1) = False := eq_false (Nat.not_lt.2 c44)
         have c44s : (9223372036854775807 < 6 + t257.size + 1) = False := eq_false (Nat.not_lt.2 (by have h_ := c44; (repeat rw [ByteArray.size_append] at h_); exact h_))
         replace H := Option.bind_eq_some_iff.mp H
         obtain ⟨t258, A450, H⟩ := H
         replace H : (if (((⟨#[40, 97, 108, 108, 32, 118]⟩ : ByteArray) ++ t257) ++ (⟨#[58]⟩ : ByteArray)).size + t258.size ≤ 9223372036854775807 then (some ((((⟨#[40, 97, 108, 108, 32, 118]⟩ : ByteArray) ++ t257) ++ (⟨#[58]⟩ : ByteArray)) ++ t258)) else (none)) = some r := H
         have A45 := Aside0.mk A450
         clear A450
         by_cases c46 : (((⟨#[40, 97, 108, 108, 32, 118]⟩ : ByteArray) ++ t257) ++ (⟨#[58]⟩ : ByteArray)).size + t258.size ≤ 9223372036854775807
         ·rw [if_pos c46] at H
          have c46b0 := eq_true c46
          have c46b1 : decide ((((⟨#[40, 97, 108, 108, 32, 118]⟩ : ByteArray) ++ t257) ++ (⟨#[58]⟩ : ByteArray)).size + t258.size ≤ 9223372036854775807) = true := decide_eq_true c46
          try have c46b2 : (9223372036854775807 < (((⟨#[40, 97, 108, 108, 32, 118]⟩ : ByteArray) ++ t257) ++ (⟨#[58]⟩ : ByteArray)).size + t258.size) = False := eq_false (Nat.not_lt.2 c46)
          have c46s : (9223372036854775807 < 6 + t257.size + 1 + t258.size) = False := eq_false (Nat.not_lt.2 (by have h_ := c46; (repeat rw [ByteArray.size_append] at h_); exact h_))
          obtain rfl := Option.some.inj H
          go_enter Try.func57, Try.ntmps57
          try go_wp2_with (first | ((with_reducible refine gate_dst (N := 1) rfl ?_); refine box_event ?hg (N := 1) ?hd (cs := #[.int .i64 a0_0, .int .i64 a0_1, .int .i64 a0_2, .int .i64 a0_3, .int .i64 a0_4, .int .i64 a0_5]) (t := 31) ?hr ?_; (case hd => rfl); (case hg => rfl); (case hr => (go_simp; done)); intro gb250 hg w47 hbox hb; have n0_ := Aside0.mk (below_step (by repeat (first | (with_reducible first | exact HB.out | apply below_alloc | apply pw_below_drewN | apply below_drew1))) hb); have n1_ := Aside0.mk (hbox); have n2_ := Aside0.mk ((by rw [hg]; exact (below_size (by repeat (first | (with_reducible first | exact HB.out | apply below_alloc | apply pw_below_drewN | apply below_drew1)))) : w.heap.size ≤ gb250)); have n3_ := Aside0.mk ((by rw [hg]; exact (below_size (by repeat (first | (with_reducible first | exact HB.out | apply below_alloc | apply pw_below_drewN | apply below_drew1)))) : w.heap.size ≤ gb250)); clear HB; have HB := n0_; have BK250 := n1_; have GW250 := n2_; have GE250 := n3_; clear n0_ n1_ n2_ n3_; clear hb hbox hg; obtain ⟨hcz48_0, hcz48_1, hcz48_2, hcz48_3, hcz48_4, hcz48_5⟩ := cz6 BK250.out; obtain ⟨hfz48_0, hfz48_1, hfz48_2, hfz48_3, hfz48_4, hfz48_5⟩ := fz6 BK250.out))
          have n0_ := Aside0.mk (blk_drew BK250.out)
          have n1_ := Aside0.mk (below_drew1 HB.out)
          clear BK250
          clear HB
          have BK250 := n0_
          have HB := n1_
          clear n0_ n1_
          refine start_ (n := 10) (S := fun w' => w'.cell? ⟨gb250, 0, none⟩ = some (.int .i64 a0_0) ∧ w'.cell? ⟨gb250, 1, none⟩ = some (.int .i64 a0_1) ∧ w'.cell? ⟨gb250, 2, none⟩ = some (.int .i64 a0_2) ∧ w'.cell? ⟨gb250, 3, none⟩ = some (.int .i64 a0_3) ∧ w'.cell? ⟨gb250, 4, none⟩ = some (.int .i64 a0_4) ∧ w'.cell? ⟨gb250, 5, none⟩ = some (.int .i64 a0_5)) (ds := []) zA0x16 (by kernel_rfl) rfl rfl ⟨(blk_cell BK250.out 0).trans rfl, (blk_cell BK250.out 1).trans rfl, (blk_cell BK250.out 2).trans rfl, (blk_cell BK250.out 3).trans rfl, (blk_cell BK250.out 4).trans rfl, (blk_cell BK250.out 5).trans rfl⟩ (fun hHeld => ?_); refine with_tabW impl_head.tab13 impl_head.bits13 (fun HT_ HW_ => ?_)
          generalize w47.drew = w49 at BK250 HB hHeld ⊢
          refine pure_ (i := 0) (N := some 44) (v := ?_) (a' := ?_) zA1x16 rfl rfl (any_of HT_.out (by kernel_rfl)) (fun _ _ _ h => h) (Or.inl ⟨by rfl, ?_⟩) ?_ ?_; rotate_left; (intro w'; go_simp; with_reducible rfl); rotate_left; (simp only [Act.put, List.setIfInBounds_toArray, List.set_cons_zero, List.set_cons_succ, i64_w, i32_w]; rfl)
          refine pure_ (i := 5) (N := some 49) (v := ?_) (a' := ?_) zA2x16 rfl rfl (any_of HT_.out (by kernel_rfl)) (fun _ _ _ h => h) (Or.inl ⟨by rfl, ?_⟩) ?_ ?_; rotate_left; (intro w'; go_simp; with_reducible rfl); rotate_left; (simp only [Act.put, List.setIfInBounds_toArray, List.set_cons_zero, List.set_cons_succ, i64_w, i32_w]; rfl)
          refine take_ (i := 1) (N := some 45) (v := ?_) (a' := ?_) zA3x16 rfl rfl (take_ofW HT_.out HW_.out (by kernel_rfl)) (fun _ _ _ h => h) (Or.inl ⟨by rfl, ?_⟩) hHeld ?_ ?_
          rotate_left
          ·rintro w' ⟨s0, s1, s2, s3, s4, s5⟩
           go_simp
           with_reducible rfl
          rotate_left
          ·simp only [Act.put, List.setIfInBounds_toArray, List.set_cons_zero, List.set_cons_succ, i64_w, i32_w]
           rfl
          refine take_ (i := 6) (N := some 50) (v := ?_) (a' := ?_) zA4x16 rfl rfl (take_ofW HT_.out HW_.out (by kernel_rfl)) (fun _ _ _ h => h) (Or.inl ⟨by rfl, ?_⟩) hHeld ?_ ?_
          rotate_left
          ·rintro w' ⟨s0, s1, s2, s3, s4, s5⟩
           go_simp
           with_reducible rfl
          rotate_left
          ·simp only [Act.put, List.setIfInBounds_toArray, List.set_cons_zero, List.set_cons_succ, i64_w, i32_w]
           rfl
          refine one_ (i := 2) (N := some 46) zA5x16 rfl rfl (one_of HT_.out (by kernel_rfl)) (by decide) (fun K hK => ?_)
          refine goes_ Try.func86 (by kernel_rfl) rfl #[.int .i64 a0_2] (by rfl) rfl rfl (by (try simp only [List.map_toArray, List.map_cons, List.map_nil]); rfl) ?_
          with_reducible refine (impl_decimal.calls k a0_2 t257 _ A42.out).mono ?_
          rintro e w50 ⟨rfl, hb⟩
          refine ⟨_, rfl, ?_⟩
          have n0_ := Aside0.mk (blk_below (g := gb250) (o := .cells #[.int .i64 a0_0, .int .i64 a0_1, .int .i64 a0_2, .int .i64 a0_3, .int .i64 a0_4, .int .i64 a0_5] 31 (0, 0)) (by (with_reducible repeat (first | refine blk_drewN ?_ _ | refine blk_drew ?_ | refine blk_alloc ?_ _)); exact BK250.out) hb)
          have n1_ := Aside0.mk (below_step (by repeat (first | (with_reducible first | exact HB.out | apply below_alloc | apply pw_below_drewN | apply below_drew1 | refine below_set ?_ GE250.out) | exact HB.out)) hb)
          clear BK250
          clear HB
          have BK250 := n0_
          have HB := n1_
          clear n0_ n1_
          clear hb
          refine hK.out _ _ ⟨(blk_cell BK250.out 0).trans rfl, (blk_cell BK250.out 1).trans rfl, (blk_cell BK250.out 2).trans rfl, (blk_cell BK250.out 3).trans rfl, (blk_cell BK250.out 4).trans rfl, (blk_cell BK250.out 5).trans rfl⟩ (fun hHeld => ?_)
          clear hK K
          refine norm_ (a' := ?_) ?_ ?_
          rotate_left
          ·show Act.put _ (some 46) _ = _
           simp only [Act.put, List.setIfInBounds_toArray, List.set_cons_zero, List.set_cons_succ, i64_w, i32_w]
           rfl
          refine pure_ (i := 3) (N := some 47) (v := ?_) (a' := ?_) zA6x16 rfl rfl (any_of HT_.out (by kernel_rfl)) (fun _ _ _ h => h) (Or.inl ⟨by rfl, ?_⟩) ?_ ?_; rotate_left; (intro w'; go_simp; with_reducible rfl); rotate_left; (simp only [Act.put, List.setIfInBounds_toArray, List.set_cons_zero, List.set_cons_succ, i64_w, i32_w]; rfl)
          refine pure_ (i := 4) (N := some 48) (v := ?_) (a' := ?_) zA7x16 rfl rfl (any_of HT_.out (by kernel_rfl)) (fun _ _ _ h => h) (Or.inl ⟨by rfl, ?_⟩) ?_ ?_; rotate_left; (intro w'; go_simp; with_reducible rfl); rotate_left; (simp only [Act.put, List.setIfInBounds_toArray, List.set_cons_zero, List.set_cons_succ, i64_w, i32_w]; rfl)
          refine one_ (i := 7) (N := some 51) zA8x16 rfl rfl (one_of HT_.out (by kernel_rfl)) (by decide) (fun K hK => ?_)
          refine goes_ Try.func86 (by kernel_rfl) rfl #[.int .i64 a0_4] (by rfl) rfl rfl (by (try simp only [List.map_toArray, List.map_cons, List.map_nil]); rfl) ?_
          with_reducible refine (impl_decimal.calls k a0_4 t258 _ A45.out).mono ?_
          rintro e w51 ⟨rfl, hb⟩
          refine ⟨_, rfl, ?_⟩
          have n0_ := Aside0.mk (blk_below (g := gb250) (o := .cells #[.int .i64 a0_0, .int .i64 a0_1, .int .i64 a0_2, .int .i64 a0_3, .int .i64 a0_4, .int .i64 a0_5] 31 (0, 0)) (by (with_reducible repeat (first | refine blk_drewN ?_ _ | refine blk_drew ?_ | refine blk_alloc ?_ _)); exact BK250.out) hb)
          have n1_ := Aside0.mk (below_step (by repeat (first | (with_reducible first | exact HB.out | apply below_alloc | apply pw_below_drewN | apply below_drew1 | refine below_set ?_ GE250.out) | exact HB.out)) hb)
          clear BK250
          clear HB
          have BK250 := n0_
          have HB := n1_
          clear n0_ n1_
          clear hb
          refine hK.out _ _ ⟨(blk_cell BK250.out 0).trans rfl, (blk_cell BK250.out 1).trans rfl, (blk_cell BK250.out 2).trans rfl, (blk_cell BK250.out 3).trans rfl, (blk_cell BK250.out 4).trans rfl, (blk_cell BK250.out 5).trans rfl⟩ (fun hHeld => ?_)
          clear hK K
          refine norm_ (a' := ?_) ?_ ?_
          rotate_left
          ·show Act.put _ (some 51) _ = _
           simp only [Act.put, List.setIfInBounds_toArray, List.set_cons_zero, List.set_cons_succ, i64_w, i32_w]
           rfl
          refine pure_ (i := 8) (N := some 52) (v := ?_) (a' := ?_) zA9x16 rfl rfl (any_of HT_.out (by kernel_rfl)) (fun _ _ _ h => h) (Or.inl ⟨by rfl, ?_⟩) ?_ ?_; rotate_left; (intro w'; go_simp; with_reducible rfl); rotate_left; (simp only [Act.put, List.setIfInBounds_toArray, List.set_cons_zero, List.set_cons_succ, i64_w, i32_w]; rfl)
          refine pure_ (i := 9) (N := some 2) (v := ?_) (a' := ?_) zA10x16 rfl rfl (any_of HT_.out (by kernel_rfl)) (fun _ _ _ h => h) (Or.inl ⟨by rfl, ?_⟩) ?_ ?_; rotate_left; (intro w'; go_simp; with_reducible rfl); rotate_left; (simp only [Act.put, List.setIfInBounds_toArray, List.set_cons_zero, List.set_cons_succ, i64_w, i32_w]; rfl)
          refine done_ (done_of HT_.out (by kernel_rfl)) ?_
          try go_wp2
          go_ret
          exact ⟨by rfl, by repeat (first | (with_reducible first | exact HB.out | apply below_alloc | apply pw_below_drewN | apply below_drew1 | refine below_set ?_ GE250.out) | exact HB.out)⟩
         ·rw [if_neg c46] at H
          exact absurd H (by simp)
        ·rw [if_neg c44] at H
         exact absurd H (by simp)
       ·rw [if_neg c43] at H
        exact absurd H (by simp)
      ·rw [if_neg c41] at H
       have c41b0 : (a0_0 == 19) = false := beq_eq_false_iff_ne.mpr c41
       have c41b1 : (a0_0 != 19) = true := bne_iff_ne.mpr c41
       by_cases c52 : a0_0 = 20
       ·rw [if_pos c52] at H
        have c52b0 : (a0_0 == 20) = true := beq_iff_eq.mpr c52
        have c52b1 : (a0_0 != 20) = false := bne_eq_false_iff_eq.mpr c52
        clear c52
        replace H := Option.bind_eq_some_iff.mp H
        obtain ⟨t259, A530, H⟩ := H
        replace H : (if 7 + t259.size ≤ 9223372036854775807 then (if ((⟨#[40, 115, 111, 109, 101, 32, 118]⟩ : ByteArray) ++ t259).size + 1 ≤ 9223372036854775807 then ((impl_decimal.f k a0_4).bind fun t260 => (if (((⟨#[40, 115, 111, 109, 101, 32, 118]⟩ : ByteArray) ++ t259) ++ (⟨#[58]⟩ : ByteArray)).size + t260.size ≤ 9223372036854775807 then (some ((((⟨#[40, 115, 111, 109, 101, 32, 118]⟩ : ByteArray) ++ t259) ++ (⟨#[58]⟩ : ByteArray)) ++ t260)) else (none))) else (none)) else (none)) = some r := H
        have A53 := Aside0.mk A530
        clear A530
        by_cases c54 : 7 + t259.size ≤ 9223372036854775807
        ·rw [if_pos c54] at H
         have c54b0 := eq_true c54
         have c54b1 : decide (7 + t259.size ≤ 9223372036854775807) = true := decide_eq_true c54
         try have c54b2 : (9223372036854775807 < 7 + t259.size) = False := eq_false (Nat.not_lt.2 c54)
         by_cases c55 : ((⟨#[40, 115, 111, 109, 101, 32, 118]⟩ : ByteArray) ++ t259).size + 1 ≤ 9223372036854775807
         ·rw [if_pos c55] at H
          have c55b0 := eq_true c55
          have c55b1 : decide (((⟨#[40, 115, 111, 109, 101, 32, 118]⟩ : ByteArray) ++ t259).size + 1 ≤ 9223372036854775807) = true := decide_eq_true c55
          try have c55b2 : (9223372036854775807 < ((⟨#[40, 115, 111, 109, 101, 32, 118]⟩ : ByteArray) ++ t259).size + 1) = False := eq_false (Nat.not_lt.2 c55)
          have c55s : (9223372036854775807 < 7 + t259.size + 1) = False := eq_false (Nat.not_lt.2 (by have h_ := c55; (repeat rw [ByteArray.size_append] at h_); exact h_))
          replace H := Option.bind_eq_some_iff.mp H
          obtain ⟨t260, A560, H⟩ := H
          replace H : (if (((⟨#[40, 115, 111, 109, 101, 32, 118]⟩ : ByteArray) ++ t259) ++ (⟨#[58]⟩ : ByteArray)).size + t260.size ≤ 9223372036854775807 then (some ((((⟨#[40, 115, 111, 109, 101, 32, 118]⟩ : ByteArray) ++ t259) ++ (⟨#[58]⟩ : ByteArray)) ++ t260)) else (none)) = some r := H
          have A56 := Aside0.mk A560
          clear A560
          by_cases c57 : (((⟨#[40, 115, 111, 109, 101, 32, 118]⟩ : ByteArray) ++ t259) ++ (⟨#[58]⟩ : ByteArray)).size + t260.size ≤ 9223372036854775807
          ·rw [if_pos c57] at H
           have c57b0 := eq_true c57
           have c57b1 : decide ((((⟨#[40, 115, 111, 109, 101, 32, 118]⟩ : ByteArray) ++ t259) ++ (⟨#[58]⟩ : ByteArray)).size + t260.size ≤ 9223372036854775807) = true := decide_eq_true c57
           try have c57b2 : (9223372036854775807 < (((⟨#[40, 115, 111, 109, 101, 32, 118]⟩ : ByteArray) ++ t259) ++ (⟨#[58]⟩ : ByteArray)).size + t260.size) = False := eq_false (Nat.not_lt.2 c57)
           have c57s : (9223372036854775807 < 7 + t259.size + 1 + t260.size) = False := eq_false (Nat.not_lt.2 (by have h_ := c57; (repeat rw [ByteArray.size_append] at h_); exact h_))
           obtain rfl := Option.some.inj H
           go_enter Try.func57, Try.ntmps57
           try go_wp2_with (first | ((with_reducible refine gate_dst (N := 1) rfl ?_); refine box_event ?hg (N := 1) ?hd (cs := #[.int .i64 a0_0, .int .i64 a0_1, .int .i64 a0_2, .int .i64 a0_3, .int .i64 a0_4, .int .i64 a0_5]) (t := 31) ?hr ?_; (case hd => rfl); (case hg => rfl); (case hr => (go_simp; done)); intro gb250 hg w58 hbox hb; have n0_ := Aside0.mk (below_step (by repeat (first | (with_reducible first | exact HB.out | apply below_alloc | apply pw_below_drewN | apply below_drew1))) hb); have n1_ := Aside0.mk (hbox); have n2_ := Aside0.mk ((by rw [hg]; exact (below_size (by repeat (first | (with_reducible first | exact HB.out | apply below_alloc | apply pw_below_drewN | apply below_drew1)))) : w.heap.size ≤ gb250)); have n3_ := Aside0.mk ((by rw [hg]; exact (below_size (by repeat (first | (with_reducible first | exact HB.out | apply below_alloc | apply pw_below_drewN | apply below_drew1)))) : w.heap.size ≤ gb250)); clear HB; have HB := n0_; have BK250 := n1_; have GW250 := n2_; have GE250 := n3_; clear n0_ n1_ n2_ n3_; clear hb hbox hg; obtain ⟨hcz59_0, hcz59_1, hcz59_2, hcz59_3, hcz59_4, hcz59_5⟩ := cz6 BK250.out; obtain ⟨hfz59_0, hfz59_1, hfz59_2, hfz59_3, hfz59_4, hfz59_5⟩ := fz6 BK250.out))
           have n0_ := Aside0.mk (blk_drew BK250.out)
           have n1_ := Aside0.mk (below_drew1 HB.out)
           clear BK250
           clear HB
           have BK250 := n0_
           have HB := n1_
           clear n0_ n1_
           refine start_ (n := 10) (S := fun w' => w'.cell? ⟨gb250, 0, none⟩ = some (.int .i64 a0_0) ∧ w'.cell? ⟨gb250, 1, none⟩ = some (.int .i64 a0_1) ∧ w'.cell? ⟨gb250, 2, none⟩ = some (.int .i64 a0_2) ∧ w'.cell? ⟨gb250, 3, none⟩ = some (.int .i64 a0_3) ∧ w'.cell? ⟨gb250, 4, none⟩ = some (.int .i64 a0_4) ∧ w'.cell? ⟨gb250, 5, none⟩ = some (.int .i64 a0_5)) (ds := []) zA0x16 (by kernel_rfl) rfl rfl ⟨(blk_cell BK250.out 0).trans rfl, (blk_cell BK250.out 1).trans rfl, (blk_cell BK250.out 2).trans rfl, (blk_cell BK250.out 3).trans rfl, (blk_cell BK250.out 4).trans rfl, (blk_cell BK250.out 5).trans rfl⟩ (fun hHeld => ?_); refine with_tabW impl_head.tab15 impl_head.bits15 (fun HT_ HW_ => ?_)
           generalize w58.drew = w60 at BK250 HB hHeld ⊢
           refine pure_ (i := 0) (N := some 55) (v := ?_) (a' := ?_) zA1x16 rfl rfl (any_of HT_.out (by kernel_rfl)) (fun _ _ _ h => h) (Or.inl ⟨by rfl, ?_⟩) ?_ ?_; rotate_left; (intro w'; go_simp; with_reducible rfl); rotate_left; (simp only [Act.put, List.setIfInBounds_toArray, List.set_cons_zero, List.set_cons_succ, i64_w, i32_w]; rfl)
           refine pure_ (i := 5) (N := some 60) (v := ?_) (a' := ?_) zA2x16 rfl rfl (any_of HT_.out (by kernel_rfl)) (fun _ _ _ h => h) (Or.inl ⟨by rfl, ?_⟩) ?_ ?_; rotate_left; (intro w'; go_simp; with_reducible rfl); rotate_left; (simp only [Act.put, List.setIfInBounds_toArray, List.set_cons_zero, List.set_cons_succ, i64_w, i32_w]; rfl)
           refine take_ (i := 1) (N := some 56) (v := ?_) (a' := ?_) zA3x16 rfl rfl (take_ofW HT_.out HW_.out (by kernel_rfl)) (fun _ _ _ h => h) (Or.inl ⟨by rfl, ?_⟩) hHeld ?_ ?_
           rotate_left
           ·rintro w' ⟨s0, s1, s2, s3, s4, s5⟩
            go_simp
            with_reducible rfl
           rotate_left
           ·simp only [Act.put, List.setIfInBounds_toArray, List.set_cons_zero, List.set_cons_succ, i64_w, i32_w]
            rfl
           refine take_ (i := 6) (N := some 61) (v := ?_) (a' := ?_) zA4x16 rfl rfl (take_ofW HT_.out HW_.out (by kernel_rfl)) (fun _ _ _ h => h) (Or.inl ⟨by rfl, ?_⟩) hHeld ?_ ?_
           rotate_left
           ·rintro w' ⟨s0, s1, s2, s3, s4, s5⟩
            go_simp
            with_reducible rfl
           rotate_left
           ·simp only [Act.put, List.setIfInBounds_toArray, List.set_cons_zero, List.set_cons_succ, i64_w, i32_w]
            rfl
           refine one_ (i := 2) (N := some 57) zA5x16 rfl rfl (one_of HT_.out (by kernel_rfl)) (by decide) (fun K hK => ?_)
           refine goes_ Try.func86 (by kernel_rfl) rfl #[.int .i64 a0_2] (by rfl) rfl rfl (by (try simp only [List.map_toArray, List.map_cons, List.map_nil]); rfl) ?_
           with_reducible refine (impl_decimal.calls k a0_2 t259 _ A53.out).mono ?_
           rintro e w61 ⟨rfl, hb⟩
           refine ⟨_, rfl, ?_⟩
           have n0_ := Aside0.mk (blk_below (g := gb250) (o := .cells #[.int .i64 a0_0, .int .i64 a0_1, .int .i64 a0_2, .int .i64 a0_3, .int .i64 a0_4, .int .i64 a0_5] 31 (0, 0)) (by (with_reducible repeat (first | refine blk_drewN ?_ _ | refine blk_drew ?_ | refine blk_alloc ?_ _)); exact BK250.out) hb)
           have n1_ := Aside0.mk (below_step (by repeat (first | (with_reducible first | exact HB.out | apply below_alloc | apply pw_below_drewN | apply below_drew1 | refine below_set ?_ GE250.out) | exact HB.out)) hb)
           clear BK250
           clear HB
           have BK250 := n0_
           have HB := n1_
           clear n0_ n1_
           clear hb
           refine hK.out _ _ ⟨(blk_cell BK250.out 0).trans rfl, (blk_cell BK250.out 1).trans rfl, (blk_cell BK250.out 2).trans rfl, (blk_cell BK250.out 3).trans rfl, (blk_cell BK250.out 4).trans rfl, (blk_cell BK250.out 5).trans rfl⟩ (fun hHeld => ?_)
           clear hK K
           refine norm_ (a' := ?_) ?_ ?_
           rotate_left
           ·show Act.put _ (some 57) _ = _
            simp only [Act.put, List.setIfInBounds_toArray, List.set_cons_zero, List.set_cons_succ, i64_w, i32_w]
            rfl
           refine pure_ (i := 3) (N := some 58) (v := ?_) (a' := ?_) zA6x16 rfl rfl (any_of HT_.out (by kernel_rfl)) (fun _ _ _ h => h) (Or.inl ⟨by rfl, ?_⟩) ?_ ?_; rotate_left; (intro w'; go_simp; with_reducible rfl); rotate_left; (simp only [Act.put, List.setIfInBounds_toArray, List.set_cons_zero, List.set_cons_succ, i64_w, i32_w]; rfl)
           refine pure_ (i := 4) (N := some 59) (v := ?_) (a' := ?_) zA7x16 rfl rfl (any_of HT_.out (by kernel_rfl)) (fun _ _ _ h => h) (Or.inl ⟨by rfl, ?_⟩) ?_ ?_; rotate_left; (intro w'; go_simp; with_reducible rfl); rotate_left; (simp only [Act.put, List.setIfInBounds_toArray, List.set_cons_zero, List.set_cons_succ, i64_w, i32_w]; rfl)
           refine one_ (i := 7) (N := some 62) zA8x16 rfl rfl (one_of HT_.out (by kernel_rfl)) (by decide) (fun K hK => ?_)
           refine goes_ Try.func86 (by kernel_rfl) rfl #[.int .i64 a0_4] (by rfl) rfl rfl (by (try simp only [List.map_toArray, List.map_cons, List.map_nil]); rfl) ?_
           with_reducible refine (impl_decimal.calls k a0_4 t260 _ A56.out).mono ?_
           rintro e w62 ⟨rfl, hb⟩
           refine ⟨_, rfl, ?_⟩
           have n0_ := Aside0.mk (blk_below (g := gb250) (o := .cells #[.int .i64 a0_0, .int .i64 a0_1, .int .i64 a0_2, .int .i64 a0_3, .int .i64 a0_4, .int .i64 a0_5] 31 (0, 0)) (by (with_reducible repeat (first | refine blk_drewN ?_ _ | refine blk_drew ?_ | refine blk_alloc ?_ _)); exact BK250.out) hb)
           have n1_ := Aside0.mk (below_step (by repeat (first | (with_reducible first | exact HB.out | apply below_alloc | apply pw_below_drewN | apply below_drew1 | refine below_set ?_ GE250.out) | exact HB.out)) hb)
           clear BK250
           clear HB
           have BK250 := n0_
           have HB := n1_
           clear n0_ n1_
           clear hb
           refine hK.out _ _ ⟨(blk_cell BK250.out 0).trans rfl, (blk_cell BK250.out 1).trans rfl, (blk_cell BK250.out 2).trans rfl, (blk_cell BK250.out 3).trans rfl, (blk_cell BK250.out 4).trans rfl, (blk_cell BK250.out 5).trans rfl⟩ (fun hHeld => ?_)
           clear hK K
           refine norm_ (a' := ?_) ?_ ?_
           rotate_left
           ·show Act.put _ (some 62) _ = _
            simp only [Act.put, List.setIfInBounds_toArray, List.set_cons_zero, List.set_cons_succ, i64_w, i32_w]
            rfl
           refine pure_ (i := 8) (N := some 63) (v := ?_) (a' := ?_) zA9x16 rfl rfl (any_of HT_.out (by kernel_rfl)) (fun _ _ _ h => h) (Or.inl ⟨by rfl, ?_⟩) ?_ ?_; rotate_left; (intro w'; go_simp; with_reducible rfl); rotate_left; (simp only [Act.put, List.setIfInBounds_toArray, List.set_cons_zero, List.set_cons_succ, i64_w, i32_w]; rfl)
           refine pure_ (i := 9) (N := some 2) (v := ?_) (a' := ?_) zA10x16 rfl rfl (any_of HT_.out (by kernel_rfl)) (fun _ _ _ h => h) (Or.inl ⟨by rfl, ?_⟩) ?_ ?_; rotate_left; (intro w'; go_simp; with_reducible rfl); rotate_left; (simp only [Act.put, List.setIfInBounds_toArray, List.set_cons_zero, List.set_cons_succ, i64_w, i32_w]; rfl)
           refine done_ (done_of HT_.out (by kernel_rfl)) ?_
           try go_wp2
           go_ret
           exact ⟨by rfl, by repeat (first | (with_reducible first | exact HB.out | apply below_alloc | apply pw_below_drewN | apply below_drew1 | refine below_set ?_ GE250.out) | exact HB.out)⟩
          ·rw [if_neg c57] at H
           exact absurd H (by simp)
         ·rw [if_neg c55] at H
          exact absurd H (by simp)
        ·rw [if_neg c54] at H
         exact absurd H (by simp)
       ·rw [if_neg c52] at H
        have c52b0 : (a0_0 == 20) = false := beq_eq_false_iff_ne.mpr c52
        have c52b1 : (a0_0 != 20) = true := bne_iff_ne.mpr c52
        replace H := Option.bind_eq_some_iff.mp H
        obtain ⟨t261, A630, H⟩ := H
        replace H : (if 1 + t261.size ≤ 9223372036854775807 then (some ((⟨#[40]⟩ : ByteArray) ++ t261)) else (none)) = some r := H
        have A63 := Aside0.mk A630
        clear A630
        by_cases c64 : 1 + t261.size ≤ 9223372036854775807
        ·rw [if_pos c64] at H
         have c64b0 := eq_true c64
         have c64b1 : decide (1 + t261.size ≤ 9223372036854775807) = true := decide_eq_true c64
         try have c64b2 : (9223372036854775807 < 1 + t261.size) = False := eq_false (Nat.not_lt.2 c64)
         obtain rfl := Option.some.inj H
         go_enter Try.func57, Try.ntmps57
         go_wp2_with (first | ((with_reducible refine gate_dst (N := 1) rfl ?_); refine box_event ?hg (N := 1) ?hd (cs := #[.int .i64 a0_0, .int .i64 a0_1, .int .i64 a0_2, .int .i64 a0_3, .int .i64 a0_4, .int .i64 a0_5]) (t := 31) ?hr ?_; (case hd => rfl); (case hg => rfl); (case hr => (go_simp; done)); intro gb250 hg w65 hbox hb; have n0_ := Aside0.mk (below_step (by repeat (first | (with_reducible first | exact HB.out | apply below_alloc | apply pw_below_drewN | apply below_drew1))) hb); have n1_ := Aside0.mk (hbox); have n2_ := Aside0.mk ((by rw [hg]; exact (below_size (by repeat (first | (with_reducible first | exact HB.out | apply below_alloc | apply pw_below_drewN | apply below_drew1)))) : w.heap.size ≤ gb250)); have n3_ := Aside0.mk ((by rw [hg]; exact (below_size (by repeat (first | (with_reducible first | exact HB.out | apply below_alloc | apply pw_below_drewN | apply below_drew1)))) : w.heap.size ≤ gb250)); clear HB; have HB := n0_; have BK250 := n1_; have GW250 := n2_; have GE250 := n3_; clear n0_ n1_ n2_ n3_; clear hb hbox hg; obtain ⟨hcz66_0, hcz66_1, hcz66_2, hcz66_3, hcz66_4, hcz66_5⟩ := cz6 BK250.out; obtain ⟨hfz66_0, hfz66_1, hfz66_2, hfz66_3, hfz66_4, hfz66_5⟩ := fz6 BK250.out) | ((with_reducible refine gate_callee (f := 87) rfl ?_); refine goesL_ (some 66) rfl rfl Try.func87 (by kernel_rfl) rfl #[.int .i64 a0_0] rfl (by (try simp only [List.map_toArray, List.map_cons, List.map_nil]); rfl) ?_; (with_reducible refine (impl_opWord.calls a0_0 t261 _ A63.out).mono ?_); rintro e w67 ⟨rfl, hb⟩; refine ⟨_, rfl, ?_⟩; have n0_ := Aside0.mk (blk_below (g := gb250) (o := .cells #[.int .i64 a0_0, .int .i64 a0_1, .int .i64 a0_2, .int .i64 a0_3, .int .i64 a0_4, .int .i64 a0_5] 31 (0, 0)) (by (with_reducible repeat (first | refine blk_drewN ?_ _ | refine blk_drew ?_ | refine blk_alloc ?_ _)); exact BK250.out) hb); have n1_ := Aside0.mk (below_step (by repeat (first | (with_reducible first | exact HB.out | apply below_alloc | apply pw_below_drewN | apply below_drew1 | refine below_set ?_ GE250.out) | exact HB.out)) hb); clear BK250; clear HB; have BK250 := n0_; have HB := n1_; clear n0_ n1_; (try clear hb); (try clear hb2); (try clear hk); (try clear hi)))
         go_ret
         exact ⟨by rfl, by repeat (first | (with_reducible first | exact HB.out | apply below_alloc | apply pw_below_drewN | apply below_drew1 | refine below_set ?_ GE250.out) | exact HB.out)⟩
        ·rw [if_neg c64] at H
         exact absurd H (by simp)

end Go.Proofs.Ytkpipmojkhikaaa.PAll
