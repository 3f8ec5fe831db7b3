/- Written by a program of this session over the loaded program, and by hand: Go functions as plain Lean functions, and that a call comes to what they say. -/
import Derived.Test.YtkpipmojkhikaaaVExactCanon0
import Derived.Test.YtkpipmojkhikaaaVExactCanon6
import Derived.Test.YtkpipmojkhikaaaVExactCanon7
import Derived.Test.YtkpipmojkhikaaaVExactCanon8
import Derived.Test.YtkpipmojkhikaaaBase
import Derived.Test.YtkpipmojkhikaaaSq
namespace Go.Proofs.Ytkpipmojkhikaaa.PAll
open Go.RowKit Go.Proofs.YtkpipmojkhikaaaW.PrintWords Go.Proofs.YtkpipmojkhikaaaW.PrintLast Go.Proofs.YtkpipmojkhikaaaW.PrintMore Go.Proofs.YtkpipmojkhikaaaW.Sq
attribute [local go_sem] max2_int min2_int max_two min_two max_three min_three max_four min_four   -- for this text's walks alone
set_option linter.unusedVariables false
set_option linter.unusedSimpArgs false

variable {Ax : Option Addr} {cx : Nat}
/-- A state of type 84 at block g of W; what its slices lead to came in by w0. -/
def IsS84 (Ax : Option Addr) (cx : Nat) (w0 W : World) (g : Nat) (f0 : ByteArray) (f1 : Int) (f2 : List (S31)) (f3 : Int) (f4 : Int) : Prop := ∃ A2 c2, W.heap[g]? = some (.cells #[.string f0, .int .i64 f1, .slice A2 f2.length c2, .int .i64 f3, .int .i64 f4] 84 (0, 0)) ∧ w0.heap.size ≤ g ∧ (A2 = Ax ∧ c2 = cx)
theorem IsS84.grown {w0 W : World} {g : Nat} {f0 : ByteArray} {f1 : Int} {f2 : List (S31)} {f3 : Int} {f4 : Int} {W1 : World} {row : Option Nat} (h : IsS84 Ax cx w0 W g f0 f1 f2 f3 f4) (hw : W.grownBy W1 row) (hne : some g ≠ row) : IsS84 Ax cx w0 W1 g f0 f1 f2 f3 f4 := by
 obtain ⟨A2, c2, hb, hg, hr2⟩ := h
 exact ⟨A2, c2, blk_grown hb hw hne, hg, hr2⟩
theorem IsS84.below {w0 W : World} {g : Nat} {f0 : ByteArray} {f1 : Int} {f2 : List (S31)} {f3 : Int} {f4 : Int} {W1 : World} (h : IsS84 Ax cx w0 W g f0 f1 f2 f3 f4) (hw : Below W.heap.size W W1) : IsS84 Ax cx w0 W1 g f0 f1 f2 f3 f4 := h.grown (grown_of_below hw none) (by simp)
theorem IsS84.alloc {w0 W : World} {g : Nat} {f0 : ByteArray} {f1 : Int} {f2 : List (S31)} {f3 : Int} {f4 : Int} (h : IsS84 Ax cx w0 W g f0 f1 f2 f3 f4) (o : Obj) : IsS84 Ax cx w0 (W.alloc o) g f0 f1 f2 f3 f4 := h.below (below_alloc (Below.refl _ _) o)
theorem IsS84.drewN {w0 W : World} {g : Nat} {f0 : ByteArray} {f1 : Int} {f2 : List (S31)} {f3 : Int} {f4 : Int} (h : IsS84 Ax cx w0 W g f0 f1 f2 f3 f4) (m : Nat) : IsS84 Ax cx w0 (W.drewN m) g f0 f1 f2 f3 f4 := h
theorem IsS84.drew {w0 W : World} {g : Nat} {f0 : ByteArray} {f1 : Int} {f2 : List (S31)} {f3 : Int} {f4 : Int} (h : IsS84 Ax cx w0 W g f0 f1 f2 f3 f4) : IsS84 Ax cx w0 W.drew g f0 f1 f2 f3 f4 := h
theorem IsS84.lt {w0 W : World} {g : Nat} {f0 : ByteArray} {f1 : Int} {f2 : List (S31)} {f3 : Int} {f4 : Int} (h : IsS84 Ax cx w0 W g f0 f1 f2 f3 f4) : g < W.heap.size := by
 obtain ⟨A2, c2, hb, hg, hr2⟩ := h
 exact blk_lt hb
theorem IsS84.ge {w0 W : World} {g : Nat} {f0 : ByteArray} {f1 : Int} {f2 : List (S31)} {f3 : Int} {f4 : Int} (h : IsS84 Ax cx w0 W g f0 f1 f2 f3 f4) : w0.heap.size ≤ g := by
 obtain ⟨A2, c2, hb, hg, hr2⟩ := h
 exact hg
theorem IsS84.ne_blk {w0 W : World} {g : Nat} {f0 : ByteArray} {f1 : Int} {f2 : List (S31)} {f3 : Int} {f4 : Int} {a : Nat} {cs : Array Value} {t : TypeId} {fr : Nat × Nat} (h : IsS84 Ax cx w0 W g f0 f1 f2 f3 f4) (hb2 : W.heap[a]? = some (.cells cs t fr)) (ht : t ≠ 84) : g ≠ a := by
 obtain ⟨A2, c2, hb, hg, hr2⟩ := h
 rintro rfl
 rw [hb] at hb2
 injection hb2 with hb2
 injection hb2 with _ ht2
 exact ht ht2.symm
theorem IsS84.far {w0 W : World} {g : Nat} {f0 : ByteArray} {f1 : Int} {f2 : List (S31)} {f3 : Int} {f4 : Int} {p : Addr} (h : IsS84 Ax cx w0 W g f0 f1 f2 f3 f4) (hne : g ≠ p.block) (u : Value) : IsS84 Ax cx w0 (W.setCell p u) g f0 f1 f2 f3 f4 := by
 obtain ⟨A2, c2, hb, hg, hr2⟩ := h
 exact ⟨A2, c2, blk_far hb hne u, hg, hr2⟩
theorem cellS84_0 {W : World} {g : Nat} {A2 : Option Addr} {c2 : Nat} {f0 : ByteArray} {f1 : Int} {f2 : List (S31)} {f3 : Int} {f4 : Int} (h : W.heap[g]? = some (.cells #[.string f0, .int .i64 f1, .slice A2 f2.length c2, .int .i64 f3, .int .i64 f4] 84 (0, 0))) : W.cell? ⟨g, 0, none⟩ = some (.string f0) := (blk_cell h 0).trans rfl
theorem IsS84.set_0 {w0 W : World} {g : Nat} {f0 : ByteArray} {f1 : Int} {f2 : List (S31)} {f3 : Int} {f4 : Int} (h : IsS84 Ax cx w0 W g f0 f1 f2 f3 f4) (x : ByteArray) : IsS84 Ax cx w0 (W.setCell ⟨g, 0, none⟩ (.string x)) g x f1 f2 f3 f4 := by
 obtain ⟨A2, c2, hb, hg, hr2⟩ := h
 exact ⟨A2, c2, by simpa using blk_set hb 0 (.string x), hg, hr2⟩
theorem cellS84_1 {W : World} {g : Nat} {A2 : Option Addr} {c2 : Nat} {f0 : ByteArray} {f1 : Int} {f2 : List (S31)} {f3 : Int} {f4 : Int} (h : W.heap[g]? = some (.cells #[.string f0, .int .i64 f1, .slice A2 f2.length c2, .int .i64 f3, .int .i64 f4] 84 (0, 0))) : W.cell? ⟨g, 1, none⟩ = some (.int .i64 f1) := (blk_cell h 1).trans rfl
theorem IsS84.set_1 {w0 W : World} {g : Nat} {f0 : ByteArray} {f1 : Int} {f2 : List (S31)} {f3 : Int} {f4 : Int} (h : IsS84 Ax cx w0 W g f0 f1 f2 f3 f4) (x : Int) : IsS84 Ax cx w0 (W.setCell ⟨g, 1, none⟩ (.int .i64 x)) g f0 x f2 f3 f4 := by
 obtain ⟨A2, c2, hb, hg, hr2⟩ := h
 exact ⟨A2, c2, by simpa using blk_set hb 1 (.int .i64 x), hg, hr2⟩
theorem cellS84_2 {W : World} {g : Nat} {A2 : Option Addr} {c2 : Nat} {f0 : ByteArray} {f1 : Int} {f2 : List (S31)} {f3 : Int} {f4 : Int} (h : W.heap[g]? = some (.cells #[.string f0, .int .i64 f1, .slice A2 f2.length c2, .int .i64 f3, .int .i64 f4] 84 (0, 0))) : W.cell? ⟨g, 2, none⟩ = some (.slice A2 f2.length c2) := (blk_cell h 2).trans rfl
theorem cellS84_3 {W : World} {g : Nat} {A2 : Option Addr} {c2 : Nat} {f0 : ByteArray} {f1 : Int} {f2 : List (S31)} {f3 : Int} {f4 : Int} (h : W.heap[g]? = some (.cells #[.string f0, .int .i64 f1, .slice A2 f2.length c2, .int .i64 f3, .int .i64 f4] 84 (0, 0))) : W.cell? ⟨g, 3, none⟩ = some (.int .i64 f3) := (blk_cell h 3).trans rfl
theorem IsS84.set_3 {w0 W : World} {g : Nat} {f0 : ByteArray} {f1 : Int} {f2 : List (S31)} {f3 : Int} {f4 : Int} (h : IsS84 Ax cx w0 W g f0 f1 f2 f3 f4) (x : Int) : IsS84 Ax cx w0 (W.setCell ⟨g, 3, none⟩ (.int .i64 x)) g f0 f1 f2 x f4 := by
 obtain ⟨A2, c2, hb, hg, hr2⟩ := h
 exact ⟨A2, c2, by simpa using blk_set hb 3 (.int .i64 x), hg, hr2⟩
theorem cellS84_4 {W : World} {g : Nat} {A2 : Option Addr} {c2 : Nat} {f0 : ByteArray} {f1 : Int} {f2 : List (S31)} {f3 : Int} {f4 : Int} (h : W.heap[g]? = some (.cells #[.string f0, .int .i64 f1, .slice A2 f2.length c2, .int .i64 f3, .int .i64 f4] 84 (0, 0))) : W.cell? ⟨g, 4, none⟩ = some (.int .i64 f4) := (blk_cell h 4).trans rfl
theorem IsS84.set_4 {w0 W : World} {g : Nat} {f0 : ByteArray} {f1 : Int} {f2 : List (S31)} {f3 : Int} {f4 : Int} (h : IsS84 Ax cx w0 W g f0 f1 f2 f3 f4) (x : Int) : IsS84 Ax cx w0 (W.setCell ⟨g, 4, none⟩ (.int .i64 x)) g f0 f1 f2 f3 x := by
 obtain ⟨A2, c2, hb, hg, hr2⟩ := h
 exact ⟨A2, c2, by simpa using blk_set hb 4 (.int .i64 x), hg, hr2⟩
/-! ### impl_termReader_goes: function 89 -/
def impl_termReader_goes.f (s0_0 : ByteArray) (s0_1 : Int) (s0_2 : List (S31)) (s0_3 : Int) (s0_4 : Int) (a1 : Int) : Option (Bool × ByteArray × Int × Int × Int) := if s0_1 ≥ (s0_0.size : Int) then (some (false, s0_0, s0_1, s0_3, s0_4)) else (if 0 ≤ s0_1 then (if s0_1 < (s0_0.size : Int) then (if (bt s0_0 s0_1) = a1 then (some (true, s0_0, wrap64 (s0_1 + 1), s0_3, s0_4)) else (some (false, s0_0, s0_1, s0_3, s0_4))) else (none)) else (none))
set_option maxHeartbeats 8000000 in
set_option maxRecDepth 100000 in
theorem impl_termReader_goes.calls (g : Nat) (s0_0 : ByteArray) (s0_1 : Int) (s0_2 : List (S31)) (s0_3 : Int) (s0_4 : Int) (a1 : Int) (r1 : Bool) (r2 : ByteArray) (r3 : Int) (r4 : Int) (r5 : Int) (w0 w : World) (hI : IsS84 Ax cx w0 w g s0_0 s0_1 s0_2 s0_3 s0_4) (hB : Below w0.heap.size w0 w) (h : impl_termReader_goes.f s0_0 s0_1 s0_2 s0_3 s0_4 a1 = some (r1, r2, r3, r4, r5)) :
  Calls Try.prog 89 #[.pointer (some ⟨g, 0, none⟩), .int .u8 a1] w fun e w' => e = .returned (.bool r1) ∧ IsS84 Ax cx w0 w' g r2 r3 s0_2 r4 r5 ∧ Below w0.heap.size w0 w' ∧ KeepBut w w' g none := by
 have HI0 := am hI
 have HK := am (KeepBut.refl w g none)
 have HL := am hB.size
 clear hI
 have HW0 := am hB.size
 have HB := am hB
 clear hB
 have H : (if s0_1 ≥ (s0_0.size : Int) then (some (false, s0_0, s0_1, s0_3, s0_4)) else (if 0 ≤ s0_1 then (if s0_1 < (s0_0.size : Int) then (if (bt s0_0 s0_1) = a1 then (some (true, s0_0, wrap64 (s0_1 + 1), s0_3, s0_4)) else (some (false, s0_0, s0_1, s0_3, s0_4))) else (none)) else (none))) = some (r1, r2, r3, r4, r5) := h
 clear h
 by_cases c3 : s0_1 ≥ (s0_0.size : Int)
 ·rw [if_pos c3] at H
  have c3b0 : decide ((s0_0.size : Int) ≤ s0_1) = true := decide_eq_true c3
  clear c3
  simp only [Option.some.injEq, Prod.mk.injEq] at H
  obtain ⟨rfl, rfl, rfl, rfl, rfl⟩ := H
  obtain ⟨ASz4_2, cSz4_2, HGz4, hgz4, HSz4_2⟩ := HI0.out
  have hcz4_0 := cellS84_0 HGz4
  have hcz4_1 := cellS84_1 HGz4
  have hcz4_2 := cellS84_2 HGz4
  have hcz4_3 := cellS84_3 HGz4
  have hcz4_4 := cellS84_4 HGz4
  have hfz4_0 := blk_frozen HGz4 0
  have hfz4_1 := blk_frozen HGz4 1
  have hfz4_3 := blk_frozen HGz4 3
  have hfz4_4 := blk_frozen HGz4 4
  clear HGz4 hgz4
  go_enter Try.func89, Try.ntmps89
  go_wp2
  repeat (go_quiet (fail); try go_wp2)
  go_ret
  exact ⟨by rfl, by repeat (first | (with_reducible first | exact HI0.out | apply IsS84.alloc | apply IsS84.drewN | apply IsS84.drew | apply IsS84.set_0 | apply IsS84.set_1 | apply IsS84.set_3 | apply IsS84.set_4) | exact HI0.out), by exact bIsS84, by exact kB⟩
 ·rw [if_neg c3] at H
  have c3b0 : decide ((s0_0.size : Int) ≤ s0_1) = false := decide_eq_false c3
  clear c3
  replace H := iN H; obtain ⟨c5b0, H⟩ := H
  replace H := iN H; obtain ⟨c6b0, H⟩ := H
  replace H := iE H; rcases H with ⟨c8b0, c8b1, H⟩ | ⟨c8b0, c8b1, H⟩
  ·simp only [Option.some.injEq, Prod.mk.injEq] at H
   obtain ⟨rfl, rfl, rfl, rfl, rfl⟩ := H
   obtain ⟨ASz9_2, cSz9_2, HGz9, hgz9, HSz9_2⟩ := HI0.out
   have hcz9_0 := cellS84_0 HGz9
   have hcz9_1 := cellS84_1 HGz9
   have hcz9_2 := cellS84_2 HGz9
   have hcz9_3 := cellS84_3 HGz9
   have hcz9_4 := cellS84_4 HGz9
   have hfz9_0 := blk_frozen HGz9 0
   have hfz9_1 := blk_frozen HGz9 1
   have hfz9_3 := blk_frozen HGz9 3
   have hfz9_4 := blk_frozen HGz9 4
   clear HGz9 hgz9
   have p7 : 0 ≤ (s0_1 : Int) := oD (by assumption)
   have q7 : s0_1 < (s0_0.size : Int) := oD (by assumption)
   have hx7 := bt_at s0_0 s0_1
   replace p7 := eq_true p7
   replace q7 := eq_true q7
   go_enter Try.func89, Try.ntmps89
   go_wp2
   repeat (go_quiet (fail); try go_wp2)
   go_ret
   exact ⟨by rfl, by repeat (first | (with_reducible first | exact HI0.out | apply IsS84.alloc | apply IsS84.drewN | apply IsS84.drew | apply IsS84.set_0 | apply IsS84.set_1 | apply IsS84.set_3 | apply IsS84.set_4) | exact HI0.out), by exact bIsS84, by exact kB⟩
  ·simp only [Option.some.injEq, Prod.mk.injEq] at H
   obtain ⟨rfl, rfl, rfl, rfl, rfl⟩ := H
   obtain ⟨ASz10_2, cSz10_2, HGz10, hgz10, HSz10_2⟩ := HI0.out
   have hcz10_0 := cellS84_0 HGz10
   have hcz10_1 := cellS84_1 HGz10
   have hcz10_2 := cellS84_2 HGz10
   have hcz10_3 := cellS84_3 HGz10
   have hcz10_4 := cellS84_4 HGz10
   have hfz10_0 := blk_frozen HGz10 0
   have hfz10_1 := blk_frozen HGz10 1
   have hfz10_3 := blk_frozen HGz10 3
   have hfz10_4 := blk_frozen HGz10 4
   clear HGz10 hgz10
   have p7 : 0 ≤ (s0_1 : Int) := oD (by assumption)
   have q7 : s0_1 < (s0_0.size : Int) := oD (by assumption)
   have hx7 := bt_at s0_0 s0_1
   replace p7 := eq_true p7
   replace q7 := eq_true q7
   go_enter Try.func89, Try.ntmps89
   go_wp2
   repeat (go_quiet (fail); try go_wp2)
   go_ret
   exact ⟨by rfl, by repeat (first | (with_reducible first | exact HI0.out | apply IsS84.alloc | apply IsS84.drewN | apply IsS84.drew | apply IsS84.set_0 | apply IsS84.set_1 | apply IsS84.set_3 | apply IsS84.set_4) | exact HI0.out), by exact bIsS84, by exact kB⟩
/-! ### impl_isEnd: function 122 -/
def impl_isEnd.f (a0 : Int) : Option (Bool) := if a0 = 32 then (some true) else (if a0 = 40 then (some true) else (some (a0 == 41)))
set_option maxHeartbeats 8000000 in
set_option maxRecDepth 100000 in
theorem impl_isEnd.calls (a0 : Int) (r : Bool) (w : World) (h : impl_isEnd.f a0 = some r) :
  Calls Try.prog 122 #[.int .u8 a0] w fun e w' => e = .returned (.bool r) ∧ Drawn0 w w' := by
 have H : (if a0 = 32 then (some true) else (if a0 = 40 then (some true) else (some (a0 == 41)))) = some r := h
 clear h
 replace H := iE H; rcases H with ⟨c2b0, c2b1, H⟩ | ⟨c2b0, c2b1, H⟩
 ·obtain rfl := oI H
  go_enter Try.func122, Try.ntmps122
  go_wp2
  go_ret
  exact ⟨by rfl, by repeat (first | exact Drawn0.refl _ | apply Drawn0.step)⟩
 ·replace H := iE H; rcases H with ⟨c3b0, c3b1, H⟩ | ⟨c3b0, c3b1, H⟩
  ·obtain rfl := oI H
   go_enter Try.func122, Try.ntmps122
   go_wp2
   go_ret
   exact ⟨by rfl, by repeat (first | exact Drawn0.refl _ | apply Drawn0.step)⟩
  ·obtain rfl := oI H
   go_enter Try.func122, Try.ntmps122
   go_wp2
   go_ret
   exact ⟨by rfl, by repeat (first | exact Drawn0.refl _ | apply Drawn0.step)⟩
variable {Ax : Option Addr} {cx : Nat}
/-! ### impl_termReader_fails: function 93 -/
def impl_termReader_fails.f (s0_0 : ByteArray) (s0_1 : Int) (s0_2 : List (S31)) (s0_3 : Int) (s0_4 : Int) (a1 : Int) (a2 : Int) : Option (Int × Bool × ByteArray × Int × Int × Int) := some (0, false, s0_0, s0_1, a1, a2)
set_option maxHeartbeats 8000000 in
set_option maxRecDepth 100000 in
theorem impl_termReader_fails.calls (g : Nat) (s0_0 : ByteArray) (s0_1 : Int) (s0_2 : List (S31)) (s0_3 : Int) (s0_4 : Int) (a1 : Int) (a2 : Int) (r1 : Int) (r2 : Bool) (r3 : ByteArray) (r4 : Int) (r5 : Int) (r6 : Int) (w0 w : World) (hI : IsS84 Ax cx w0 w g s0_0 s0_1 s0_2 s0_3 s0_4) (hB : Below w0.heap.size w0 w) (h : impl_termReader_fails.f s0_0 s0_1 s0_2 s0_3 s0_4 a1 a2 = some (r1, r2, r3, r4, r5, r6)) :
  Calls Try.prog 93 #[.pointer (some ⟨g, 0, none⟩), .int .i64 a1, .int .i64 a2] w fun e w' => e = .returned (.tuple #[.int .i64 r1, .bool r2]) ∧ IsS84 Ax cx w0 w' g r3 r4 s0_2 r5 r6 ∧ Below w0.heap.size w0 w' ∧ KeepBut w w' g none := by
 have hu82 := Try.underlying82
 have HI0 := am hI
 have HK := am (KeepBut.refl w g none)
 have HL := am hB.size
 clear hI
 have HW0 := am hB.size
 have HB := am hB
 clear hB
 have H : (some (0, false, s0_0, s0_1, a1, a2)) = some (r1, r2, r3, r4, r5, r6) := h
 clear h
 simp only [Option.some.injEq, Prod.mk.injEq] at H
 obtain ⟨rfl, rfl, rfl, rfl, rfl, rfl⟩ := H
 obtain ⟨ASz4_2, cSz4_2, HGz4, hgz4, HSz4_2⟩ := HI0.out
 have hcz4_0 := cellS84_0 HGz4
 have hcz4_1 := cellS84_1 HGz4
 have hcz4_2 := cellS84_2 HGz4
 have hcz4_3 := cellS84_3 HGz4
 have hcz4_4 := cellS84_4 HGz4
 have hfz4_0 := blk_frozen HGz4 0
 have hfz4_1 := blk_frozen HGz4 1
 have hfz4_3 := blk_frozen HGz4 3
 have hfz4_4 := blk_frozen HGz4 4
 clear HGz4 hgz4
 go_enter Try.func93, Try.ntmps93
 go_wp2
 go_ret2
 exact ⟨by rfl, by repeat (first | (with_reducible first | exact HI0.out | apply IsS84.alloc | apply IsS84.drewN | apply IsS84.drew | apply IsS84.set_0 | apply IsS84.set_1 | apply IsS84.set_3 | apply IsS84.set_4) | exact HI0.out), by exact bIsS84, by exact kB⟩

-- NOT PRINTED: function 92 (impl_termReader_puts)
/-! ### impl_opOf: function 94 -/
def impl_opOf.l0 : Nat → ByteArray → Int → Option (Int × Bool)
 | 0, _, _ => none
 | k + 1, x0, x4 => if x4 ≤ 16 then ((impl_opWord.f x4).bind fun t428 => (if x0.toList = t428.toList then (some (x4, true)) else (impl_opOf.l0 k x0 (wrap64 (x4 + 1))))) else (some (0, false))
def impl_opOf.f (k : Nat) (a0 : ByteArray) : Option (Int × Bool) := if a0.toList = ([110, 111, 116] : List UInt8) then (some (2, true)) else (if a0.toList = ([115, 108, 105, 99, 101] : List UInt8) then (some (17, true)) else (if a0.toList = ([105, 102] : List UInt8) then (some (18, true)) else (if a0.toList = ([97, 108, 108] : List UInt8) then (some (19, true)) else (if a0.toList = ([115, 111, 109, 101] : List UInt8) then (some (20, true)) else (impl_opOf.l0 k a0 3)))))
set_option maxHeartbeats 8000000 in
set_option maxRecDepth 100000 in
theorem impl_opOf.calls (k : Nat) (a0 : ByteArray) (r1 : Int) (r2 : Bool) (w : World) (h : impl_opOf.f k a0 = some (r1, r2)) :
  Calls Try.prog 94 #[.string a0] w fun e w' => e = .returned (.tuple #[.int .i64 r1, .bool r2]) ∧ Below w.heap.size w w' := by
 have HB := am (Below.refl w.heap.size w)
 have H : (if a0.toList = ([110, 111, 116] : List UInt8) then (some (2, true)) else (if a0.toList = ([115, 108, 105, 99, 101] : List UInt8) then (some (17, true)) else (if a0.toList = ([105, 102] : List UInt8) then (some (18, true)) else (if a0.toList = ([97, 108, 108] : List UInt8) then (some (19, true)) else (if a0.toList = ([115, 111, 109, 101] : List UInt8) then (some (20, true)) else (impl_opOf.l0 k a0 3)))))) = some (r1, r2) := h
 clear h
 by_cases c2 : a0.toList = ([110, 111, 116] : List UInt8)
 ·rw [if_pos c2] at H
  have c2b0 : (a0.toList == ([110, 111, 116] : List UInt8)) = true := beq_iff_eq.mpr c2
  have c2b1 : (a0.toList != ([110, 111, 116] : List UInt8)) = false := bne_eq_false_iff_eq.mpr c2
  clear c2
  simp only [Option.some.injEq, Prod.mk.injEq] at H
  obtain ⟨rfl, rfl⟩ := H
  go_enter Try.func94, Try.ntmps94
  go_wp2
  go_ret2
  exact ⟨by rfl, by exact sW HB.out⟩
 ·rw [if_neg c2] at H
  have c2b0 : (a0.toList == ([110, 111, 116] : List UInt8)) = false := beq_eq_false_iff_ne.mpr c2
  have c2b1 : (a0.toList != ([110, 111, 116] : List UInt8)) = true := bne_iff_ne.mpr c2
  by_cases c3 : a0.toList = ([115, 108, 105, 99, 101] : List UInt8)
  ·rw [if_pos c3] at H
   have c3b0 : (a0.toList == ([115, 108, 105, 99, 101] : List UInt8)) = true := beq_iff_eq.mpr c3
   have c3b1 : (a0.toList != ([115, 108, 105, 99, 101] : List UInt8)) = false := bne_eq_false_iff_eq.mpr c3
   clear c3
   simp only [Option.some.injEq, Prod.mk.injEq] at H
   obtain ⟨rfl, rfl⟩ := H
   go_enter Try.func94, Try.ntmps94
   go_wp2
   go_ret2
   exact ⟨by rfl, by exact sW HB.out⟩
  ·rw [if_neg c3] at H
   have c3b0 : (a0.toList == ([115, 108, 105, 99, 101] : List UInt8)) = false := beq_eq_false_iff_ne.mpr c3
   have c3b1 : (a0.toList != ([115, 108, 105, 99, 101] : List UInt8)) = true := bne_iff_ne.mpr c3
   by_cases c4 : a0.toList = ([105, 102] : List UInt8)
   ·rw [if_pos c4] at H
    have c4b0 : (a0.toList == ([105, 102] : List UInt8)) = true := beq_iff_eq.mpr c4
    have c4b1 : (a0.toList != ([105, 102] : List UInt8)) = false := bne_eq_false_iff_eq.mpr c4
    clear c4
    simp only [Option.some.injEq, Prod.mk.injEq] at H
    obtain ⟨rfl, rfl⟩ := H
    go_enter Try.func94, Try.ntmps94
    go_wp2
    go_ret2
    exact ⟨by rfl, by exact sW HB.out⟩
   ·rw [if_neg c4] at H
    have c4b0 : (a0.toList == ([105, 102] : List UInt8)) = false := beq_eq_false_iff_ne.mpr c4
    have c4b1 : (a0.toList != ([105, 102] : List UInt8)) = true := bne_iff_ne.mpr c4
    by_cases c5 : a0.toList = ([97, 108, 108] : List UInt8)
    ·rw [if_pos c5] at H
     have c5b0 : (a0.toList == ([97, 108, 108] : List UInt8)) = true := beq_iff_eq.mpr c5
     have c5b1 : (a0.toList != ([97, 108, 108] : List UInt8)) = false := bne_eq_false_iff_eq.mpr c5
     clear c5
     simp only [Option.some.injEq, Prod.mk.injEq] at H
     obtain ⟨rfl, rfl⟩ := H
     go_enter Try.func94, Try.ntmps94
     go_wp2
     go_ret2
     exact ⟨by rfl, by exact sW HB.out⟩
    ·rw [if_neg c5] at H
     have c5b0 : (a0.toList == ([97, 108, 108] : List UInt8)) = false := beq_eq_false_iff_ne.mpr c5
     have c5b1 : (a0.toList != ([97, 108, 108] : List UInt8)) = true := bne_iff_ne.mpr c5
     by_cases c6 : a0.toList = ([115, 111, 109, 101] : List UInt8)
     ·rw [if_pos c6] at H
      have c6b0 : (a0.toList == ([115, 111, 109, 101] : List UInt8)) = true := beq_iff_eq.mpr c6
      have c6b1 : (a0.toList != ([115, 111, 109, 101] : List UInt8)) = false := bne_eq_false_iff_eq.mpr c6
      clear c6
      simp only [Option.some.injEq, Prod.mk.injEq] at H
      obtain ⟨rfl, rfl⟩ := H
      go_enter Try.func94, Try.ntmps94
      go_wp2
      go_ret2
      exact ⟨by rfl, by exact sW HB.out⟩
     ·rw [if_neg c6] at H
      have c6b0 : (a0.toList == ([115, 111, 109, 101] : List UInt8)) = false := beq_eq_false_iff_ne.mpr c6
      have c6b1 : (a0.toList != ([115, 111, 109, 101] : List UInt8)) = true := bne_iff_ne.mpr c6
      have H' := am H
      clear H
      go_enter Try.func94, Try.ntmps94
      go_wp2
      go_loopg [4] k (fun kq v4 w' => ∃ (x4_1 : Int), v4 = .int .i64 x4_1 ∧ Aside0 (impl_opOf.l0 kq a0 x4_1 = some (r1, r2)) ∧ Aside0 (kq ≤ k) ∧ Aside0 (Below w.heap.size w w'))
      case atStart => exact ⟨(3), (by rfl), H', ⟨Nat.le_refl _⟩, ⟨by exact sW HB.out⟩⟩
      case round =>
       clear H'
       clear c2 c2b0 c2b1 c3 c3b0 c3b1 c4 c4b0 c4b1 c5 c5b0 c5b1 c6 c6b0 c6b1
       obtain ⟨x4_1, rfl, HA, HK1, HB⟩ := hrel
       cases gk with
       | zero => exact absurd HA.out (by simp [impl_opOf.l0])
       | succ k1 =>
        have H := HA.out
        clear HA
        simp only [impl_opOf.l0] at H
        replace H := iD H; rcases H with ⟨c7b0, H⟩ | ⟨c7b0, H⟩
        ·replace H := oA H; obtain ⟨t428, A8, H⟩ := H
         replace H := iE H; rcases H with ⟨c9b0, c9b1, H⟩ | ⟨c9b0, c9b1, H⟩
         ·simp only [Option.some.injEq, Prod.mk.injEq] at H
          obtain ⟨rfl, rfl⟩ := H
          go_wp2_with (first | ((with_reducible refine gate_callee (f := 87) rfl ?_); refine goesL_ (some 22) rfl rfl Try.func87 (by kernel_rfl) rfl #[.int .i64 x4_1] rfl tm ?_; (with_reducible refine (impl_opWord.calls _ _ _ A8.out).mono ?_); rintro e w10 ⟨rfl, hb⟩; refine ⟨_, rfl, ?_⟩; have n0_ := am (below_step (by exact sW HB.out) hb); clear HB; have HB := n0_; clear n0_; (try clear hb); (try clear hb2); (try clear hk); (try clear hi)))
          go_ret2
          exact ⟨by rfl, by exact sW HB.out⟩
         ·have H' := am H
          clear H
          go_wp2_with (first | ((with_reducible refine gate_callee (f := 87) rfl ?_); refine goesL_ (some 22) rfl rfl Try.func87 (by kernel_rfl) rfl #[.int .i64 x4_1] rfl tm ?_; (with_reducible refine (impl_opWord.calls _ _ _ A8.out).mono ?_); rintro e w11 ⟨rfl, hb⟩; refine ⟨_, rfl, ?_⟩; have n0_ := am (below_step (by exact sW HB.out) hb); clear HB; have HB := n0_; clear n0_; (try clear hb); (try clear hb2); (try clear hk); (try clear hi)))
          go_roundg k1
          case measure => have := HK1.out; omega
          case rel => exact ⟨(wrap64 (x4_1 + 1)), (by rfl), H', ⟨by have := HK1.out; omega⟩, ⟨by exact sW HB.out⟩⟩
        ·simp only [Option.some.injEq, Prod.mk.injEq] at H
         obtain ⟨rfl, rfl⟩ := H
         go_wp2
         go_ret2
         exact ⟨by rfl, by exact sW HB.out⟩

-- NOT PRINTED: function 95 (impl_termReader_numbers)
/-! ### reader_words: by hand -/
theorem cz6q {w : World} {g T : Nat} {a b c d e f : Int} (h : w.heap[g]? = some (.cells #[.int .i64 a, .int .i64 b, .int .i64 c, .int .i64 d, .int .i64 e, .int .i64 f] T (0, 0))) :
  (w.cell? ⟨g, 0, none⟩ = some (.int .i64 a) ∧ w.cell? ⟨g, 1, none⟩ = some (.int .i64 b) ∧ w.cell? ⟨g, 2, none⟩ = some (.int .i64 c) ∧ w.cell? ⟨g, 3, none⟩ = some (.int .i64 d) ∧ w.cell? ⟨g, 4, none⟩ = some (.int .i64 e) ∧ w.cell? ⟨g, 5, none⟩ = some (.int .i64 f)) :=
 ⟨(blk_cell h 0).trans rfl, (blk_cell h 1).trans rfl, (blk_cell h 2).trans rfl, (blk_cell h 3).trans rfl, (blk_cell h 4).trans rfl, (blk_cell h 5).trans rfl⟩
def xc (acc : List Int) : Array Value := #[.int .i64 (rd acc 0), .int .i64 (rd acc 1), .int .i64 (rd acc 2)]
theorem xc_get (acc : List Int) (j : Nat) (h : j < 3) : ∃ v, (xc acc)[j]? = some (.int .i64 v) := by
 have : j = 0 ∨ j = 1 ∨ j = 2 := by omega
 rcases this with rfl | rfl | rfl
 ·exact ⟨_, rfl⟩
 ·exact ⟨_, rfl⟩
 ·exact ⟨_, rfl⟩
theorem xc_set (acc : List Int) (v : Int) (h : acc.length < 3) : (xc acc).setIfInBounds acc.length (.int .i64 v) = xc (acc ++ [v]) := by
 match acc, h with
 | [], _ => rfl
 | [a], _ => rfl
 | [a, b], _ => rfl
 | a :: b :: c :: t, h => exact absurd h (by simp)
theorem isQuantI (a b c d e f : Int) : impl_isQuant.f a b c d e f = some ((a == 19) || (a == 20)) := by
 unfold impl_isQuant.f
 by_cases h : a = 19
 ·rw [if_pos h]; simp [h]
 ·rw [if_neg h]; simp [h]
@[reducible] def zA0x40 : Array Bool := #[false, false, false, false, false, false, false, false, false, false, false]
@[reducible] def zA1x40 : Array Bool := #[true, false, false, false, false, false, false, false, false, false, false]
@[reducible] def zA2x40 : Array Bool := #[true, true, false, false, false, false, false, false, false, false, false]
@[reducible] def zA3x40 : Array Bool := #[true, true, true, false, false, false, false, false, false, false, false]
@[reducible] def zA4x40 : Array Bool := #[true, true, true, true, false, false, false, false, false, false, false]
@[reducible] def zA5x40 : Array Bool := #[true, true, true, true, true, false, false, false, false, false, false]
@[reducible] def zA6x40 : Array Bool := #[true, true, true, true, true, true, false, false, false, false, false]
@[reducible] def zA7x40 : Array Bool := #[true, true, true, true, true, true, true, false, false, false, false]
@[reducible] def zA8x40 : Array Bool := #[true, true, true, true, true, true, true, true, false, false, false]
@[reducible] def zA9x40 : Array Bool := #[true, true, true, true, true, true, true, true, true, false, false]
@[reducible] def zA10x40 : Array Bool := #[true, true, true, true, true, true, true, true, true, true, false]
@[reducible] def zA11x40 : Array Bool := #[true, true, true, true, true, true, true, true, true, true, true]
/-! ### impl_termReader_puts: by hand -/
/-- Are two nodes the same, as the program compares them. -/
def sameN (a b : S31) : Bool := (a.f0 == b.f0 && (a.f1 == b.f1 && (a.f2 == b.f2 && (a.f3 == b.f3 && (a.f4 == b.f4 && (a.f5 == b.f5))))))
def firstN (l : List (S31)) (n : S31) : Nat → Nat → Option Nat
 | 0, _ => none
 | m + 1, i => if sameN (rd_T31 l (i : Int)) n = true then some i else firstN l n m (i + 1)
/-- What puts answers: the place and whether it went, the list, the failure's code and place. -/
def putsF (l : List (S31)) (code bad : Int) (n : S31) (frm : Int) : (Int × Bool) × List (S31) × Int × Int :=
 if rightB l n.f0 n.f1 n.f2 n.f3 n.f4 n.f5 = true then
  match firstN l n l.length 0 with
  | some i => (((i : Int), true), l, code, bad)
  | none => if l.length = 80 then ((0, false), l, 4, frm) else (((l.length : Int), true), l ++ [n], code, bad)
 else ((0, false), l, 3, frm)
variable {Ax : Option Addr} {cx : Nat}
attribute [local go_sem high] eqA31
/-- The reader's state with its list, a row of its own. -/
def IsRd (w0 W : World) (g : Nat) (s : ByteArray) (a : Int) (l : List (S31)) (code bad : Int) (A : Option Addr) (c : Nat) : Prop :=
 IsS84 A c w0 W g s a l code bad ∧ Kd.R k31 31 W w0.heap.size (fun k => k ≠ g) (.slice A l.length c) l ∧ Below w0.heap.size w0 W
set_option maxHeartbeats 4000000 in
set_option maxRecDepth 100000 in
theorem impl_termReader_puts.calls (g : Nat) (s : ByteArray) (a : Int) (l : List (S31)) (code bad n0 n1 n2 n3 n4 n5 frm : Int) (p : Int) (ok : Bool) (l' : List (S31)) (code' bad' : Int) (A : Option Addr) (c : Nat) (w0 w : World) (hI : IsRd w0 w g s a l code bad A c) (hl : l.length ≤ 80)
  (h : putsF l code bad ⟨n0, n1, n2, n3, n4, n5⟩ frm = ((p, ok), l', code', bad')) :
  Calls Try.prog 92 #[.pointer (some ⟨g, 0, none⟩), .agg #[.int .i64 n0, .int .i64 n1, .int .i64 n2, .int .i64 n3, .int .i64 n4, .int .i64 n5], .int .i64 frm] w fun e w' => e = .returned (.tuple #[.int .i64 p, .bool ok]) ∧ (∃ A' c', IsRd w0 w' g s a l' code' bad' A' c' ∧ ∀ k, (Value.slice A' l'.length c').ownBlock = some k → some k = (Value.slice A l.length c).ownBlock ∨ w.heap.size ≤ k) ∧ Kept w w' (fun k => k = g ∨ some k = (Value.slice A l.length c).ownBlock) := by
 obtain ⟨hS, hR, hB⟩ := hI
 have HS := am hS; have HR := am hR; have HB := am hB; have HL := am hl; have HH := am h
 clear hS hR hB hl h
 have HK := am (Kept.refl w (fun k => k = g ∨ some k = (Value.slice A l.length c).ownBlock))
 obtain ⟨A2, c2, hbg, hg0, hA2, hc2⟩ := HS.out
 subst hA2 hc2
 have BG := am hbg; have G0 := am hg0
 clear hbg hg0 HS
 obtain ⟨rb, hrb⟩ : ∃ rb, rightB l n0 n1 n2 n3 n4 n5 = rb := ⟨_, rfl⟩
 have HRB := am hrb
 clear hrb
 go_enter Try.func92, Try.ntmps92
 go_wp2_with fail
 have HR0 := am HR.out
 have BX := am (heap_alloc_new w (Obj.cells #[Value.int .i64 n0, Value.int .i64 n1, Value.int .i64 n2, Value.int .i64 n3, Value.int .i64 n4, Value.int .i64 n5] 31))
 have hA := below_alloc (Below.refl w.heap.size w) (Obj.cells #[Value.int .i64 n0, Value.int .i64 n1, Value.int .i64 n2, Value.int .i64 n3, Value.int .i64 n4, Value.int .i64 n5] 31)
 have BG := am (blk_below BG.out hA); have HR := am (Kd.R_below HR.out hA); have HB := am (HB.out.trans (hA.mono HB.out.size)); have HK := am (HK.out.below hA)
 have HNX := am (show ∀ k, (Value.slice A2 l.length c2).ownBlock = some k → k < w.heap.size from fun k e => Kd.R_lt HR0.out k e)
 generalize w.alloc (Obj.cells #[Value.int .i64 n0, Value.int .i64 n1, Value.int .i64 n2, Value.int .i64 n3, Value.int .i64 n4, Value.int .i64 n5] 31) = wA at *
 generalize hgx : w.heap.size = gx at *
 have GX := am hgx
 clear hgx hA
 have g2 : wA.cell? ⟨g, 2, none⟩ = some (.slice A2 l.length c2) := (blk_cell BG.out 2).trans rfl
 obtain ⟨q0, q1, q2, q3, q4, q5⟩ := cz6q BX.out
 cases rb with
 | false =>
  refine start_ (n := 7) (S := fun w' => w'.cell? ⟨g, 2, none⟩ = some (.slice A2 l.length c2) ∧ w'.cell? ⟨gx, 0, none⟩ = some (.int .i64 n0) ∧ w'.cell? ⟨gx, 1, none⟩ = some (.int .i64 n1) ∧ w'.cell? ⟨gx, 2, none⟩ = some (.int .i64 n2) ∧ w'.cell? ⟨gx, 3, none⟩ = some (.int .i64 n3) ∧ w'.cell? ⟨gx, 4, none⟩ = some (.int .i64 n4) ∧ w'.cell? ⟨gx, 5, none⟩ = some (.int .i64 n5)) (ds := []) #[false, false, false, false, false, false, false] (by kernel_rfl) rfl rfl ⟨g2, q0, q1, q2, q3, q4, q5⟩ (fun hHeld => ?_)
  refine pS (i := 0) (N := some 10) #[true, false, false, false, false, false, false] ?_
  refine pS (i := 1) (N := some 11) #[true, true, false, false, false, false, false] ?_
  refine pS (i := 2) (N := some 12) #[true, true, true, false, false, false, false] ?_
  refine take_ (i := 3) (N := some 13) (v := ?_) (a' := ?_) #[true, true, true, true, false, false, false] rfl rfl (by kernel_rfl) (fun _ _ _ h => h) (Or.inl ⟨by rfl, ?_⟩) hHeld ?_ ?_
  rotate_left
  ·rintro w' ⟨s0, s1, s2, s3, s4, s5, s6⟩
   go_simp
   with_reducible rfl
  rotate_left
  ·simp only [Act.put, List.setIfInBounds_toArray, List.set_cons_zero, List.set_cons_succ, i64_w, i32_w]
   rfl
  refine take_ (i := 4) (N := some 14) (v := ?_) (a' := ?_) #[true, true, true, true, true, false, false] rfl rfl (by kernel_rfl) (fun _ _ _ h => h) (Or.inl ⟨by rfl, ?_⟩) hHeld ?_ ?_
  rotate_left
  ·rintro w' ⟨s0, s1, s2, s3, s4, s5, s6⟩
   go_simp
   with_reducible rfl
  rotate_left
  ·simp only [Act.put, List.setIfInBounds_toArray, List.set_cons_zero, List.set_cons_succ, i64_w, i32_w]
   rfl
  refine one_ (i := 5) (N := some 15) #[true, true, true, true, true, true, false] rfl rfl (by kernel_rfl) (by decide) (fun K hK => ?_)
  refine goes_ Try.func73 (by kernel_rfl) rfl #[.slice A2 l.length c2, .agg #[.int .i64 n0, .int .i64 n1, .int .i64 n2, .int .i64 n3, .int .i64 n4, .int .i64 n5]] (by rfl) rfl rfl (by simp only [List.map_toArray, List.map_cons, List.map_nil]; rfl) ?_
  with_reducible refine (impl_isRight.calls A2 c2 l n0 n1 n2 n3 n4 n5 false _ (Kd.C_drew (Kd.R_reads' HR.out).2.2) (Kd.R_reads' HR.out).2.1 (by rw [impl_isRight.f, HRB.out])).mono ?_
  rintro e w3 ⟨rfl, hb⟩
  refine ⟨_, rfl, ?_⟩
  have hB3 : Below wA.heap.size wA w3 := Below.trans (by apply below_drew1; exact Below.refl _ _) (hb.mono (by simp))
  have BG := am (blk_below BG.out hB3)
  have BX := am (blk_below BX.out hB3)
  have HR := am (Kd.R_below HR.out hB3)
  have HB := am (HB.out.trans (hB3.mono HB.out.size))
  have HK := am (HK.out.below hB3)
  clear hB3 hb
  refine hK.out _ _ ⟨((blk_cell BG.out 2).trans rfl), ((blk_cell BX.out 0).trans rfl), ((blk_cell BX.out 1).trans rfl), ((blk_cell BX.out 2).trans rfl), ((blk_cell BX.out 3).trans rfl), ((blk_cell BX.out 4).trans rfl), ((blk_cell BX.out 5).trans rfl)⟩ (fun hHeld => ?_)
  clear hK K
  refine norm_ (a' := ?_) ?_ ?_
  rotate_left
  ·show Act.put _ (some 15) _ = _
   simp only [Act.put, List.setIfInBounds_toArray, List.set_cons_zero, List.set_cons_succ, i64_w, i32_w]
   rfl
  refine pS (i := 6) (N := some 16) #[true, true, true, true, true, true, true] ?_
  refine done_ (by kernel_rfl) ?_
  go_wp2_with fail
  refine (impl_termReader_fails.calls g s a l code bad 3 frm 0 false s a 3 frm w0 w3 ⟨A2, c2, BG.out, G0.out, rfl, rfl⟩ HB.out rfl).mono ?_
  rintro e w4 ⟨rfl, hi, hb, hk⟩
  have h1 := HH.out
  unfold putsF at h1
  rw [if_neg (by rw [HRB.out]; decide)] at h1
  simp only [Prod.mk.injEq] at h1
  obtain ⟨⟨rfl, rfl⟩, rfl, rfl, rfl⟩ := h1
  have HI4 := am hi; have HB4 := am hb; have HK4 := am hk
  clear hi hb hk hHeld g2 q0 q1 q2 q3 q4 q5
  go_wp2_with fail
  refine bodyPost_ret (results_list (rs := [.tmp 6, .tmp 7]) rfl (by simp) (.tmp (.tmp .nil))) rfl ?_
  exact ⟨rfl, ⟨A2, c2, ⟨HI4.out, Kd.R_keep HR.out HK4.out (fun _ h => h), HB4.out⟩, fun k e => .inl e.symm⟩, Kept.of_keep HK.out HK4.out (.inl (.inl rfl))⟩
 | true =>
  refine start_ (n := 7) (S := fun w' => w'.cell? ⟨g, 2, none⟩ = some (.slice A2 l.length c2) ∧ w'.cell? ⟨gx, 0, none⟩ = some (.int .i64 n0) ∧ w'.cell? ⟨gx, 1, none⟩ = some (.int .i64 n1) ∧ w'.cell? ⟨gx, 2, none⟩ = some (.int .i64 n2) ∧ w'.cell? ⟨gx, 3, none⟩ = some (.int .i64 n3) ∧ w'.cell? ⟨gx, 4, none⟩ = some (.int .i64 n4) ∧ w'.cell? ⟨gx, 5, none⟩ = some (.int .i64 n5)) (ds := []) #[false, false, false, false, false, false, false] (by kernel_rfl) rfl rfl ⟨g2, q0, q1, q2, q3, q4, q5⟩ (fun hHeld => ?_)
  refine pS (i := 0) (N := some 10) #[true, false, false, false, false, false, false] ?_
  refine pS (i := 1) (N := some 11) #[true, true, false, false, false, false, false] ?_
  refine pS (i := 2) (N := some 12) #[true, true, true, false, false, false, false] ?_
  refine take_ (i := 3) (N := some 13) (v := ?_) (a' := ?_) #[true, true, true, true, false, false, false] rfl rfl (by kernel_rfl) (fun _ _ _ h => h) (Or.inl ⟨by rfl, ?_⟩) hHeld ?_ ?_
  rotate_left
  ·rintro w' ⟨s0, s1, s2, s3, s4, s5, s6⟩
   go_simp
   with_reducible rfl
  rotate_left
  ·simp only [Act.put, List.setIfInBounds_toArray, List.set_cons_zero, List.set_cons_succ, i64_w, i32_w]
   rfl
  refine take_ (i := 4) (N := some 14) (v := ?_) (a' := ?_) #[true, true, true, true, true, false, false] rfl rfl (by kernel_rfl) (fun _ _ _ h => h) (Or.inl ⟨by rfl, ?_⟩) hHeld ?_ ?_
  rotate_left
  ·rintro w' ⟨s0, s1, s2, s3, s4, s5, s6⟩
   go_simp
   with_reducible rfl
  rotate_left
  ·simp only [Act.put, List.setIfInBounds_toArray, List.set_cons_zero, List.set_cons_succ, i64_w, i32_w]
   rfl
  refine one_ (i := 5) (N := some 15) #[true, true, true, true, true, true, false] rfl rfl (by kernel_rfl) (by decide) (fun K hK => ?_)
  refine goes_ Try.func73 (by kernel_rfl) rfl #[.slice A2 l.length c2, .agg #[.int .i64 n0, .int .i64 n1, .int .i64 n2, .int .i64 n3, .int .i64 n4, .int .i64 n5]] (by rfl) rfl rfl (by simp only [List.map_toArray, List.map_cons, List.map_nil]; rfl) ?_
  with_reducible refine (impl_isRight.calls A2 c2 l n0 n1 n2 n3 n4 n5 true _ (Kd.C_drew (Kd.R_reads' HR.out).2.2) (Kd.R_reads' HR.out).2.1 (by rw [impl_isRight.f, HRB.out])).mono ?_
  rintro e w3 ⟨rfl, hb⟩
  refine ⟨_, rfl, ?_⟩
  have hB3 : Below wA.heap.size wA w3 := Below.trans (by apply below_drew1; exact Below.refl _ _) (hb.mono (by simp))
  have BG := am (blk_below BG.out hB3)
  have BX := am (blk_below BX.out hB3)
  have HR := am (Kd.R_below HR.out hB3)
  have HB := am (HB.out.trans (hB3.mono HB.out.size))
  have HK := am (HK.out.below hB3)
  clear hB3 hb
  refine hK.out _ _ ⟨((blk_cell BG.out 2).trans rfl), ((blk_cell BX.out 0).trans rfl), ((blk_cell BX.out 1).trans rfl), ((blk_cell BX.out 2).trans rfl), ((blk_cell BX.out 3).trans rfl), ((blk_cell BX.out 4).trans rfl), ((blk_cell BX.out 5).trans rfl)⟩ (fun hHeld => ?_)
  clear hK K
  refine norm_ (a' := ?_) ?_ ?_
  rotate_left
  ·show Act.put _ (some 15) _ = _
   simp only [Act.put, List.setIfInBounds_toArray, List.set_cons_zero, List.set_cons_succ, i64_w, i32_w]
   rfl
  refine pS (i := 6) (N := some 16) #[true, true, true, true, true, true, true] ?_
  refine done_ (by kernel_rfl) ?_
  clear hHeld g2 q0 q1 q2 q3 q4 q5
  have g2 : w3.cell? ⟨g, 2, none⟩ = some (.slice A2 l.length c2) := (blk_cell BG.out 2).trans rfl
  obtain ⟨res, hres⟩ : ∃ res, firstN l ⟨n0, n1, n2, n3, n4, n5⟩ l.length 0 = res := ⟨_, rfl⟩
  have HRES := am hres
  have h1 := HH.out
  unfold putsF at h1
  rw [if_pos (show rightB l n0 n1 n2 n3 n4 n5 = true from HRB.out), hres] at h1
  have HH := am h1
  clear hres h1
  go_wp2_with fail
  clear g2
  go_loopg [8, 9, 27] l.length (fun gk u8 u9 u27 w' => ∃ i : Nat, u27 = .int .i64 (i : Int) ∧ Aside0 (gk + i = l.length) ∧ Aside0 (firstN l ⟨n0, n1, n2, n3, n4, n5⟩ gk i = res) ∧ Aside0 (w'.heap[g]? = some (.cells #[.string s, .int .i64 a, .slice A2 l.length c2, .int .i64 code, .int .i64 bad] 84 (0, 0))) ∧ Aside0 (w'.heap[gx]? = some (.cells #[Value.int .i64 n0, Value.int .i64 n1, Value.int .i64 n2, Value.int .i64 n3, Value.int .i64 n4, Value.int .i64 n5] 31 (0, 0))) ∧ Aside0 (Kd.R k31 31 w' w0.heap.size (fun k => k ≠ g) (.slice A2 l.length c2) l) ∧ Aside0 (Below w0.heap.size w0 w') ∧ Aside0 (Kept w w' (fun k => k = g ∨ some k = (Value.slice A2 l.length c2).ownBlock)))
  case atStart => exact ⟨0, rfl, ⟨rfl⟩, HRES, BG, BX, HR, HB, HK⟩
  case round =>
   obtain ⟨i, rfl, HJ, HF, BG, BX, HR, HB, HK⟩ := hrel
   by_cases hi : i < l.length
   ·have p1 : (0 : Int) ≤ (i : Int) := by omega
    have p2 : (i : Int) < (l.length : Int) := by omega
    have t2 : decide ((i : Int) < (l.length : Int)) = true := decide_eq_true p2
    obtain ⟨ad0, e0, y0, y1, y2, y3, y4, y5⟩ := at_T31 (Kd.R_reads' HR.out).2.2 (i : Int) p1 p2
    rw [Int.toNat_natCast] at y0 y1 y2 y3 y4 y5
    subst e0
    obtain ⟨⟨x0, x1, x2, x3, x4, x5⟩, hnd⟩ : ∃ n, rd_T31 l (i : Int) = n := ⟨_, rfl⟩
    obtain ⟨g2, rfl⟩ : ∃ g2, gk = g2 + 1 := ⟨gk - 1, by have := HJ.out; omega⟩
    obtain ⟨sb, hsb⟩ : ∃ sb, (x0 == n0 && (x1 == n1 && (x2 == n2 && (x3 == n3 && (x4 == n4 && (x5 == n5)))))) = sb := ⟨_, rfl⟩
    have hh := HF.out
    unfold firstN sameN at hh
    rw [hnd] at hh y0 y1 y2 y3 y4 y5
    simp only [] at hh y0 y1 y2 y3 y4 y5
    rw [hsb] at hh
    have HF := am hh
    clear hnd hh
    have BM := am (heap_alloc_new wr (Obj.cells #[Value.int .i64 x0, Value.int .i64 x1, Value.int .i64 x2, Value.int .i64 x3, Value.int .i64 x4, Value.int .i64 x5] 31))
    have hA2 := below_alloc (Below.refl wr.heap.size wr) (Obj.cells #[Value.int .i64 x0, Value.int .i64 x1, Value.int .i64 x2, Value.int .i64 x3, Value.int .i64 x4, Value.int .i64 x5] 31)
    have BG := am (blk_below BG.out hA2); have BX := am (blk_below BX.out hA2); have HR := am (Kd.R_below HR.out hA2); have HB := am (HB.out.trans (hA2.mono HB.out.size)); have HK := am (HK.out.below hA2)
    clear hA2
    obtain ⟨q0, q1, q2, q3, q4, q5⟩ := cz6q BM.out
    obtain ⟨z0, z1, z2, z3, z4, z5⟩ := cz6q BX.out
    cases sb with
    | true =>
     have hn := HF.out
     rw [if_pos rfl] at hn
     have HN := am hn
     clear hn HF
     go_wp2_with fail
     have h1 := HH.out
     rw [← HN.out] at h1
     simp only [Prod.mk.injEq] at h1
     obtain ⟨⟨rfl, rfl⟩, rfl, rfl, rfl⟩ := h1
     refine bodyPost_ret (results_list (rs := [.tmp 6, .tmp 7]) rfl (by simp) (.tmp (.tmp .nil))) rfl ?_
     exact ⟨rfl, ⟨_, c2, ⟨⟨_, c2, BG.out, G0.out, rfl, rfl⟩, HR.out, HB.out⟩, fun k e => .inl e.symm⟩, HK.out⟩
    | false =>
     have hn := HF.out
     rw [if_neg (by decide)] at hn
     have HN := am hn
     clear hn HF
     go_wp2_with fail
     go_roundg g2
     case measure => omega
     case rel => exact ⟨i + 1, by rw [show wrap64 ((i : Int) + 1) = ((i + 1 : Nat) : Int) by have := HL.out; unfold wrap64; omega], ⟨by have := HJ.out; omega⟩, HN, BG, BX, HR, HB, HK⟩
   ·obtain rfl : i = l.length := by have := HJ.out; omega
    have hgk : gk = 0 := by have := HJ.out; omega
    subst hgk
    have t2 : decide ((l.length : Int) < (l.length : Int)) = false := decide_eq_false (by omega)
    have hh := HF.out
    unfold firstN at hh
    have h1 := HH.out
    rw [← hh] at h1
    simp only [] at h1
    have HH := am h1
    clear hh h1 HF
    have g2 : wr.cell? ⟨g, 2, none⟩ = some (.slice A2 l.length c2) := (blk_cell BG.out 2).trans rfl
    by_cases h80 : l.length = 80
    ·have t3 : ((l.length : Int) == 80) = true := beq_iff_eq.mpr (by omega)
     have h1 := HH.out
     rw [if_pos h80] at h1
     simp only [Prod.mk.injEq] at h1
     obtain ⟨⟨rfl, rfl⟩, rfl, rfl, rfl⟩ := h1
     clear h80
     go_wp2_with fail
     refine (impl_termReader_fails.calls g s a l code bad 4 frm 0 false s a 4 frm w0 wr ⟨A2, c2, BG.out, G0.out, rfl, rfl⟩ HB.out rfl).mono ?_
     rintro e w4 ⟨rfl, hi, hb, hk⟩
     have HI4 := am hi; have HB4 := am hb; have HK4 := am hk
     clear hi hb hk g2
     go_wp2_with fail
     refine bodyPost_ret (results_list (rs := [.tmp 6, .tmp 7]) rfl (by simp) (.tmp (.tmp .nil))) rfl ?_
     exact ⟨rfl, ⟨A2, c2, ⟨HI4.out, Kd.R_keep HR.out HK4.out (fun _ h => h), HB4.out⟩, fun k e => .inl e.symm⟩, Kept.of_keep HK.out HK4.out (.inl (.inl rfl))⟩
    ·have t3 : ((l.length : Int) == 80) = false := beq_eq_false_iff_ne.mpr (by omega)
     have h1 := HH.out
     rw [if_neg h80] at h1
     simp only [Prod.mk.injEq] at h1
     obtain ⟨⟨rfl, rfl⟩, rfl, rfl, rfl⟩ := h1
     have H80 := am h80
     clear h80
     go_wp2_with fail
     refine start_ (n := 11) (S := fun w' => w'.cell? ⟨g, 2, none⟩ = some (.slice A2 l.length c2) ∧ w'.cell? ⟨gx, 0, none⟩ = some (.int .i64 n0) ∧ w'.cell? ⟨gx, 1, none⟩ = some (.int .i64 n1) ∧ w'.cell? ⟨gx, 2, none⟩ = some (.int .i64 n2) ∧ w'.cell? ⟨gx, 3, none⟩ = some (.int .i64 n3) ∧ w'.cell? ⟨gx, 4, none⟩ = some (.int .i64 n4) ∧ w'.cell? ⟨gx, 5, none⟩ = some (.int .i64 n5)) (ds := [10]) zA0x40 (by kernel_rfl) rfl rfl ⟨((blk_cell BG.out 2).trans rfl), ((blk_cell BX.out 0).trans rfl), ((blk_cell BX.out 1).trans rfl), ((blk_cell BX.out 2).trans rfl), ((blk_cell BX.out 3).trans rfl), ((blk_cell BX.out 4).trans rfl), ((blk_cell BX.out 5).trans rfl)⟩ (fun hHeld => ?_)
     refine pS (i := 0) (N := some 48) zA1x40 ?_
     refine pS (i := 1) (N := some 49) zA2x40 ?_
     refine pS (i := 2) (N := some 50) zA3x40 ?_
     refine pS (i := 3) (N := some 51) zA4x40 ?_
     refine take_ (i := 4) (N := some 52) (v := ?_) (a' := ?_) zA5x40 rfl rfl (by kernel_rfl) (fun _ _ _ h => h) (Or.inl ⟨by rfl, ?_⟩) hHeld ?_ ?_
     rotate_left
     ·rintro w' ⟨s0, s1, s2, s3, s4, s5, s6⟩
      go_simp
      with_reducible rfl
     rotate_left
     ·simp only [Act.put, List.setIfInBounds_toArray, List.set_cons_zero, List.set_cons_succ, i64_w, i32_w]
      rfl
     refine take_ (i := 5) (N := some 53) (v := ?_) (a' := ?_) zA6x40 rfl rfl (by kernel_rfl) (fun _ _ _ h => h) (Or.inl ⟨by rfl, ?_⟩) hHeld ?_ ?_
     rotate_left
     ·rintro w' ⟨s0, s1, s2, s3, s4, s5, s6⟩
      go_simp
      with_reducible rfl
     rotate_left
     ·simp only [Act.put, List.setIfInBounds_toArray, List.set_cons_zero, List.set_cons_succ, i64_w, i32_w]
      rfl
     refine one_ (i := 6) (N := some 54) zA7x40 rfl rfl (by kernel_rfl) (by decide) (fun K hK => ?_)
     refine Kd.R_lit_step k31 _ 31 ?hg (N := 54) ?hd (xs := [(⟨n0, n1, n2, n3, n4, n5⟩ : S31)]) (inner := [.int .i64 n0, .int .i64 n1, .int .i64 n2, .int .i64 n3, .int .i64 n4, .int .i64 n5]) (ok := fun _ => True) (okp := fun _ => True) ?hr ?hp (fun _ hk => hk) trivial (Below.refl _ _) (Nat.le_refl _) (by simp) ?_
     (case hd => rfl)
     (case hg => rfl)
     (case hr => (go_simp; done))
     (case hp => exact (Reps.c6 (show Kd.M k31 _ _ _ (⟨n0, n1, n2, n3, n4, n5⟩ : S31) [.int .i64 n0, .int .i64 n1, .int .i64 n2, .int .i64 n3, .int .i64 n4, .int .i64 n5] from (k31_mkM _ _ _ (⟨n0, n1, n2, n3, n4, n5⟩ : S31))) (Reps.none _ _)))
     intro v54 w5 ho5 hb5 hg5_ hnew5_
     clear hg5_ hnew5_
     have hB5 : Below wr.heap.size wr w5 := Below.trans (by apply below_drew1; exact Below.refl _ _) (hb5.mono (by simp))
     have BG := am (blk_below BG.out hB5)
     have BX := am (blk_below BX.out hB5)
     have HR := am (Kd.R_below HR.out hB5)
     have HB := am (HB.out.trans (hB5.mono HB.out.size))
     have HK := am (HK.out.below hB5)
     have HL5 := am ho5
     clear hB5 hb5 ho5
     obtain ⟨A5, c5, e5⟩ := Kd.R_slice HL5.out
     subst e5
     refine hK.out _ _ ⟨((blk_cell BG.out 2).trans rfl), ((blk_cell BX.out 0).trans rfl), ((blk_cell BX.out 1).trans rfl), ((blk_cell BX.out 2).trans rfl), ((blk_cell BX.out 3).trans rfl), ((blk_cell BX.out 4).trans rfl), ((blk_cell BX.out 5).trans rfl)⟩ (fun hHeld => ?_)
     clear hK K
     refine norm_ (a' := ?_) ?_ ?_
     rotate_left
     ·show Act.put _ (some 54) _ = _
      simp only [Act.put, List.setIfInBounds_toArray, List.set_cons_zero, List.set_cons_succ, i64_w, i32_w]
      rfl
     refine one_ (i := 7) (N := some 55) zA8x40 rfl rfl (by kernel_rfl) (by decide) (fun K hK => ?_)
     refine Kd.R_append_rows_step k31 (w0 := w0) w0.heap.size (by rfl) (.tmp 52) (.tmp 54) 24 31 (.agg #[(.int .i64 0), (.int .i64 0), (.int .i64 0), (.int .i64 0), (.int .i64 0), (.int .i64 0)]) 48 rfl Try.underlying24 info31 rfl (by decide) (by omega) (.slice A2 l.length c2) l [(⟨n0, n1, n2, n3, n4, n5⟩ : S31)] _ _ _ (fun k => k ≠ g) (fun _ => False) rfl rfl ?aO ?aR (fun _ _ h => h) (fun _ h => h.elim) ?aF ?aB ?aS ?aL ?_
     (case aR => exact (Kd.R_reads' HL5.out).2.2)
     (case aB => exact HB.out)
     (case aF => exact (fun k hk => by have := blk_lt BG.out; omega))
     (case aO => exact HR.out)
     (case aS => exact (below_size HB.out))
     (case aL => (have := HL.out; simp; omega))
     intro v55 w6 ho6 hb6 hg6 hat6
     have HKS := am (show w.heap.size ≤ w5.heap.size from HK.out.1)
     have hne : some g ≠ (Value.slice A2 l.length c2).ownBlock := fun e => (HR.out.1 g e.symm) rfl
     have BX := am (blk_grown BX.out hg6 (fun e => by have := HNX.out gx e.symm; omega))
     have BG := am (blk_grown BG.out hg6 hne)
     have HK := am (Kept.of_grown (S := fun k => k = g ∨ some k = (Value.slice A2 l.length c2).ownBlock) hg6 HK.out (fun k e => .inl (.inr (by exact e.symm))))
     have HB := am hb6
     have HR6 := am ho6
     have HAT := am hat6
     clear ho6 hb6 hg6 hat6 hne
     obtain ⟨A6, c6, e6⟩ := Kd.R_slice HR6.out
     subst e6
     have hfz := blk_frozen BG.out 2
     refine hK.out _ _ ⟨((blk_cell BG.out 2).trans rfl), ((blk_cell BX.out 0).trans rfl), ((blk_cell BX.out 1).trans rfl), ((blk_cell BX.out 2).trans rfl), ((blk_cell BX.out 3).trans rfl), ((blk_cell BX.out 4).trans rfl), ((blk_cell BX.out 5).trans rfl)⟩ (fun hHeld => ?_)
     clear hK K
     refine norm_ (a' := ?_) ?_ ?_
     rotate_left
     ·show Act.put _ (some 55) _ = _
      simp only [Act.put, List.setIfInBounds_toArray, List.set_cons_zero, List.set_cons_succ, i64_w, i32_w]
      rfl
     refine pS (i := 8) (N := some 56) zA9x40 ?_
     refine pS (i := 9) (N := some 57) zA10x40 ?_
     refine last_ (i := 10) (N := none) zA11x40 rfl rfl (by kernel_rfl) (by decide) (fun K hK => ?_)
     refine skip_ (w1 := ?_) (by rfl) rfl ?_ ?_
     rotate_left
     ·go_simp
      rfl
     refine hK.out _ _ ?_
     clear hK K
     refine done_ (by kernel_rfl) ?_
     have hb7 : (w6.setCell ⟨g, 2, none⟩ (.slice A6 (l.length + 1) c6)).heap[g]? = some (.cells #[.string s, .int .i64 a, .slice A6 (l.length + 1) c6, .int .i64 code, .int .i64 bad] 84 (0, 0)) := by simpa using blk_set BG.out 2 (.slice A6 (l.length + 1) c6)
     have BG := am hb7
     have HB := am (show Below w0.heap.size w0 (w6.setCell ⟨g, 2, none⟩ (.slice A6 (l.length + 1) c6)) from below_set HB.out G0.out)
     have HK := am (Kept.setCell HK.out (p := ⟨g, 2, none⟩) (.inl (.inl rfl)) (.slice A6 (l.length + 1) c6))
     have HR := am (Kd.R_mono (Kd.R_far (p := ⟨g, 2, none⟩) (Kd.R_mono HR6.out (fun _ h => (⟨h, h⟩ : _ ∧ _ ≠ g))) (fun _ hk => hk.2) (.slice A6 (l.length + 1) c6)) (fun _ h => h.1))
     clear hb7 HR6 hfz g2
     generalize w6.setCell ⟨g, 2, none⟩ (.slice A6 (l.length + 1) c6) = w7 at *
     have g2 : w7.cell? ⟨g, 2, none⟩ = some (.slice A6 (l.length + 1) c6) := (blk_cell BG.out 2).trans rfl
     go_wp2_with fail
     refine bodyPost_ret (results_list (rs := [.tmp 6, .tmp 7]) rfl (by simp) (.tmp (.tmp .nil))) rfl ?_
     refine ⟨?_, ⟨A6, c6, ⟨⟨A6, c6, ?_, G0.out, rfl, rfl⟩, ?_, HB.out⟩, fun k e => ?_⟩, HK.out⟩
     ·(have := HL.out; simp; unfold wrap64; omega)
     ·have := BG.out; simpa using this
     ·exact HR.out
     ·rcases HAT.out with h | ⟨b, h1, h2⟩
      ·exact .inl (e.symm.trans h)
      ·rw [h1] at e
       have := HKS.out
       obtain rfl := oI e
       exact .inr (Nat.le_trans this h2)
variable {Ax : Option Addr} {cx : Nat}
/-! ### impl_termReader_word: function 90 -/
def impl_termReader_word.l0 : Nat → Int → ByteArray → Int → List (S31) → Int → Int → Option (ByteArray × ByteArray × Int × Int × Int)
 | 0, _, _, _, _, _, _ => none
 | k + 1, x3, x1000, x1001, x1002, x1003, x1004 => if x1001 < (x1000.size : Int) then (if 0 ≤ x1001 then ((impl_isEnd.f (bt x1000 x1001)).bind fun t406 => (if t406 = true then (if 0 ≤ x3 then (if x3 ≤ x1001 then (if x1001 ≤ (x1000.size : Int) then (some (x1000.extract (x3 : Int).toNat (x1001 : Int).toNat, x1000, x1001, x1003, x1004)) else (none)) else (none)) else (none)) else (impl_termReader_word.l0 k x3 x1000 (wrap64 (x1001 + 1)) x1002 x1003 x1004))) else (none)) else (if 0 ≤ x3 then (if x3 ≤ x1001 then (if x1001 ≤ (x1000.size : Int) then (some (x1000.extract (x3 : Int).toNat (x1001 : Int).toNat, x1000, x1001, x1003, x1004)) else (none)) else (none)) else (none))
def impl_termReader_word.f (k : Nat) (s0_0 : ByteArray) (s0_1 : Int) (s0_2 : List (S31)) (s0_3 : Int) (s0_4 : Int) : Option (ByteArray × ByteArray × Int × Int × Int) := impl_termReader_word.l0 k s0_1 s0_0 s0_1 s0_2 s0_3 s0_4
set_option maxHeartbeats 8000000 in
set_option maxRecDepth 100000 in
theorem impl_termReader_word.calls (k : Nat) (g : Nat) (s0_0 : ByteArray) (s0_1 : Int) (s0_2 : List (S31)) (s0_3 : Int) (s0_4 : Int) (r1 : ByteArray) (r2 : ByteArray) (r3 : Int) (r4 : Int) (r5 : Int) (w0 w : World) (hI : IsS84 Ax cx w0 w g s0_0 s0_1 s0_2 s0_3 s0_4) (hB : Below w0.heap.size w0 w) (h : impl_termReader_word.f k s0_0 s0_1 s0_2 s0_3 s0_4 = some (r1, r2, r3, r4, r5)) :
  Calls Try.prog 90 #[.pointer (some ⟨g, 0, none⟩)] w fun e w' => e = .returned (.string r1) ∧ IsS84 Ax cx w0 w' g r2 r3 s0_2 r4 r5 ∧ Below w0.heap.size w0 w' ∧ KeepBut w w' g none := by
 have HI0 := am hI
 have HK := am (KeepBut.refl w g none)
 have HL := am hB.size
 clear hI
 have HW0 := am hB.size
 have HB := am hB
 clear hB
 have H : (impl_termReader_word.l0 k s0_1 s0_0 s0_1 s0_2 s0_3 s0_4) = some (r1, r2, r3, r4, r5) := h
 clear h
 have H' := am H
 clear H
 obtain ⟨ASz2_2, cSz2_2, HGz2, hgz2, HSz2_2⟩ := HI0.out
 have hcz2_0 := cellS84_0 HGz2
 have hcz2_1 := cellS84_1 HGz2
 have hcz2_2 := cellS84_2 HGz2
 have hcz2_3 := cellS84_3 HGz2
 have hcz2_4 := cellS84_4 HGz2
 have hfz2_0 := blk_frozen HGz2 0
 have hfz2_1 := blk_frozen HGz2 1
 have hfz2_3 := blk_frozen HGz2 3
 have hfz2_4 := blk_frozen HGz2 4
 clear HGz2 hgz2
 go_enter Try.func90, Try.ntmps90
 go_wp2
 repeat (go_quiet (fail); try go_wp2)
 go_loopg [] k (fun kq w' => ∃ (x1001_1 : Int), Aside0 (impl_termReader_word.l0 kq s0_1 s0_0 x1001_1 s0_2 s0_3 s0_4 = some (r1, r2, r3, r4, r5)) ∧ Aside0 (kq ≤ k) ∧ Aside0 (IsS84 Ax cx w0 w' g s0_0 x1001_1 s0_2 s0_3 s0_4) ∧ Aside0 (KeepBut w w' g none) ∧ Aside0 (Below w0.heap.size w0 w'))
 case atStart => exact ⟨(s0_1), H', ⟨Nat.le_refl _⟩, ⟨by repeat (first | (with_reducible first | exact HI0.out | apply IsS84.alloc | apply IsS84.drewN | apply IsS84.drew | apply IsS84.set_0 | apply IsS84.set_1 | apply IsS84.set_3 | apply IsS84.set_4) | exact HI0.out)⟩, ⟨by exact kB⟩, ⟨by exact bIsS84⟩⟩
 case round =>
  clear H'
  clear hcz2_0 hcz2_1 hcz2_2 hcz2_3 hcz2_4 hfz2_0 hfz2_1 hfz2_3 hfz2_4
  obtain ⟨x1001_1, HA, HK1, HI0, HK, HB⟩ := hrel
  cases gk with
  | zero => exact absurd HA.out (by simp [impl_termReader_word.l0])
  | succ k1 =>
   have H := HA.out
   clear HA
   simp only [impl_termReader_word.l0] at H
   replace H := iD H; rcases H with ⟨c3b0, H⟩ | ⟨c3b0, H⟩
   ·replace H := iN H; obtain ⟨c4b0, H⟩ := H
    replace H := oA H; obtain ⟨t406, A6, H⟩ := H
    replace H := iB H; rcases H with ⟨rfl, H⟩ | ⟨rfl, H⟩
    ·replace H := iTD H; obtain ⟨c8b0, c8b1, H⟩ := H
     replace H := iTD H; obtain ⟨c9b0, c9b1, H⟩ := H
     replace H := iTD H; obtain ⟨c10b0, c10b1, H⟩ := H
     simp only [Option.some.injEq, Prod.mk.injEq] at H
     obtain ⟨rfl, rfl, rfl, rfl, rfl⟩ := H
     obtain ⟨ASz11_2, cSz11_2, HGz11, hgz11, HSz11_2⟩ := HI0.out
     have hcz11_0 := cellS84_0 HGz11
     have hcz11_1 := cellS84_1 HGz11
     have hcz11_2 := cellS84_2 HGz11
     have hcz11_3 := cellS84_3 HGz11
     have hcz11_4 := cellS84_4 HGz11
     have hfz11_0 := blk_frozen HGz11 0
     have hfz11_1 := blk_frozen HGz11 1
     have hfz11_3 := blk_frozen HGz11 3
     have hfz11_4 := blk_frozen HGz11 4
     clear HGz11 hgz11
     have p5 : 0 ≤ (x1001_1 : Int) := oD (by assumption)
     have q5 : x1001_1 < (s0_0.size : Int) := oD (by assumption)
     have hx5 := bt_at s0_0 x1001_1
     replace p5 := eq_true p5
     replace q5 := eq_true q5
     go_wp2_with (first | (go_at_call 122; refine cD (impl_isEnd.calls _ _ _ A6.out) fun nd => ?_; (try exact dq)))
     repeat (go_quiet (first | (go_at_call 122; refine cD (impl_isEnd.calls _ _ _ A6.out) fun nd => ?_; (try exact dq))); try go_wp2_with (first | (go_at_call 122; refine cD (impl_isEnd.calls _ _ _ A6.out) fun nd => ?_; (try exact dq))))
     go_ret
     exact ⟨by rfl, by repeat (first | (with_reducible first | exact HI0.out | apply IsS84.alloc | apply IsS84.drewN | apply IsS84.drew | apply IsS84.set_0 | apply IsS84.set_1 | apply IsS84.set_3 | apply IsS84.set_4) | exact HI0.out), by exact bIsS84, by exact kB⟩
    ·have H' := am H
     clear H
     obtain ⟨ASz12_2, cSz12_2, HGz12, hgz12, HSz12_2⟩ := HI0.out
     have hcz12_0 := cellS84_0 HGz12
     have hcz12_1 := cellS84_1 HGz12
     have hcz12_2 := cellS84_2 HGz12
     have hcz12_3 := cellS84_3 HGz12
     have hcz12_4 := cellS84_4 HGz12
     have hfz12_0 := blk_frozen HGz12 0
     have hfz12_1 := blk_frozen HGz12 1
     have hfz12_3 := blk_frozen HGz12 3
     have hfz12_4 := blk_frozen HGz12 4
     clear HGz12 hgz12
     have p5 : 0 ≤ (x1001_1 : Int) := oD (by assumption)
     have q5 : x1001_1 < (s0_0.size : Int) := oD (by assumption)
     have hx5 := bt_at s0_0 x1001_1
     replace p5 := eq_true p5
     replace q5 := eq_true q5
     go_wp2_with (first | (go_at_call 122; refine cD (impl_isEnd.calls _ _ _ A6.out) fun nd => ?_; (try exact dq)))
     repeat (go_quiet (first | (go_at_call 122; refine cD (impl_isEnd.calls _ _ _ A6.out) fun nd => ?_; (try exact dq))); try go_wp2_with (first | (go_at_call 122; refine cD (impl_isEnd.calls _ _ _ A6.out) fun nd => ?_; (try exact dq))))
     go_roundg k1
     case measure => have := HK1.out; omega
     case rel => exact ⟨(wrap64 (x1001_1 + 1)), H', ⟨by have := HK1.out; omega⟩, ⟨by repeat (first | (with_reducible first | exact HI0.out | apply IsS84.alloc | apply IsS84.drewN | apply IsS84.drew | apply IsS84.set_0 | apply IsS84.set_1 | apply IsS84.set_3 | apply IsS84.set_4) | exact HI0.out)⟩, ⟨by exact kB⟩, ⟨by exact bIsS84⟩⟩
   ·replace H := iTD H; obtain ⟨c13b0, c13b1, H⟩ := H
    replace H := iTD H; obtain ⟨c14b0, c14b1, H⟩ := H
    replace H := iTD H; obtain ⟨c15b0, c15b1, H⟩ := H
    simp only [Option.some.injEq, Prod.mk.injEq] at H
    obtain ⟨rfl, rfl, rfl, rfl, rfl⟩ := H
    obtain ⟨ASz16_2, cSz16_2, HGz16, hgz16, HSz16_2⟩ := HI0.out
    have hcz16_0 := cellS84_0 HGz16
    have hcz16_1 := cellS84_1 HGz16
    have hcz16_2 := cellS84_2 HGz16
    have hcz16_3 := cellS84_3 HGz16
    have hcz16_4 := cellS84_4 HGz16
    have hfz16_0 := blk_frozen HGz16 0
    have hfz16_1 := blk_frozen HGz16 1
    have hfz16_3 := blk_frozen HGz16 3
    have hfz16_4 := blk_frozen HGz16 4
    clear HGz16 hgz16
    go_wp2
    repeat (go_quiet (fail); try go_wp2)
    go_ret
    exact ⟨by rfl, by repeat (first | (with_reducible first | exact HI0.out | apply IsS84.alloc | apply IsS84.drewN | apply IsS84.drew | apply IsS84.set_0 | apply IsS84.set_1 | apply IsS84.set_3 | apply IsS84.set_4) | exact HI0.out), by exact bIsS84, by exact kB⟩
/-! ### The reader's small steps: what they keep, by hand -/
variable {Ax : Option Addr} {cx : Nat}
theorem goes_keeps {s : ByteArray} {a : Int} {l : List (S31)} {c b x : Int} {r1 : Bool} {r2 : ByteArray} {r3 r4 r5 : Int} (h : impl_termReader_goes.f s a l c b x = some (r1, r2, r3, r4, r5)) : r2 = s ∧ r4 = c ∧ r5 = b := by
 unfold impl_termReader_goes.f at h
 split at h
 ·simp only [Option.some.injEq, Prod.mk.injEq] at h; exact ⟨h.2.1.symm, h.2.2.2.1.symm, h.2.2.2.2.symm⟩
 ·split at h
  ·split at h
   ·split at h
    ·simp only [Option.some.injEq, Prod.mk.injEq] at h; exact ⟨h.2.1.symm, h.2.2.2.1.symm, h.2.2.2.2.symm⟩
    ·simp only [Option.some.injEq, Prod.mk.injEq] at h; exact ⟨h.2.1.symm, h.2.2.2.1.symm, h.2.2.2.2.symm⟩
   ·exact absurd h (by simp)
  ·exact absurd h (by simp)
theorem word_keeps0 {s : ByteArray} {l : List (S31)} {c b : Int} {r1 r2 : ByteArray} {r3 r4 r5 : Int} {x : Int} (k : Nat) : ∀ a : Int, impl_termReader_word.l0 k x s a l c b = some (r1, r2, r3, r4, r5) → r2 = s ∧ r4 = c ∧ r5 = b := by
 induction k with
 | zero => intro a h; simp [impl_termReader_word.l0] at h
 | succ k ih =>
  intro a h
  simp only [impl_termReader_word.l0] at h
  split at h
  ·split at h
   ·obtain ⟨t, _, h⟩ := oB h
    split at h
    ·split at h
     ·split at h
      ·split at h
       ·simp only [Option.some.injEq, Prod.mk.injEq] at h; exact ⟨h.2.1.symm, h.2.2.2.1.symm, h.2.2.2.2.symm⟩
       ·exact absurd h (by simp)
      ·exact absurd h (by simp)
     ·exact absurd h (by simp)
    ·exact ih _ h
   ·exact absurd h (by simp)
  ·split at h
   ·split at h
    ·split at h
     ·simp only [Option.some.injEq, Prod.mk.injEq] at h; exact ⟨h.2.1.symm, h.2.2.2.1.symm, h.2.2.2.2.symm⟩
     ·exact absurd h (by simp)
    ·exact absurd h (by simp)
   ·exact absurd h (by simp)
/-- goes: whether the byte is there, and the place behind it. -/
def gF (s : ByteArray) (a : Int) (l : List (S31)) (c b x : Int) : Option (Bool × Int) := (impl_termReader_goes.f s a l c b x).map fun r => (r.1, r.2.2.1)
/-- word: the word and the place behind it. -/
def wF (k : Nat) (s : ByteArray) (a : Int) (l : List (S31)) (c b : Int) : Option (ByteArray × Int) := (impl_termReader_word.f k s a l c b).map fun r => (r.1, r.2.2.1)
theorem goesC (g : Nat) (s : ByteArray) (a : Int) (l : List (S31)) (c b x : Int) (r : Bool) (a' : Int) (w0 w : World) (hI : IsS84 Ax cx w0 w g s a l c b) (hB : Below w0.heap.size w0 w) (h : gF s a l c b x = some (r, a')) :
  Calls Try.prog 89 #[.pointer (some ⟨g, 0, none⟩), .int .u8 x] w fun e w' => e = .returned (.bool r) ∧ IsS84 Ax cx w0 w' g s a' l c b ∧ Below w0.heap.size w0 w' ∧ KeepBut w w' g none := by
 obtain ⟨⟨r1, r2, r3, r4, r5⟩, h1, h2⟩ := Option.map_eq_some_iff.mp h
 simp only [Prod.mk.injEq] at h2
 obtain ⟨rfl, rfl⟩ := h2
 obtain ⟨e1, e2, e3⟩ := goes_keeps h1
 subst e1 e2 e3
 exact impl_termReader_goes.calls g _ a l _ _ x r1 _ r3 _ _ w0 w hI hB h1
theorem wordC (k g : Nat) (s : ByteArray) (a : Int) (l : List (S31)) (c b : Int) (r : ByteArray) (a' : Int) (w0 w : World) (hI : IsS84 Ax cx w0 w g s a l c b) (hB : Below w0.heap.size w0 w) (h : wF k s a l c b = some (r, a')) :
  Calls Try.prog 90 #[.pointer (some ⟨g, 0, none⟩)] w fun e w' => e = .returned (.string r) ∧ IsS84 Ax cx w0 w' g s a' l c b ∧ Below w0.heap.size w0 w' ∧ KeepBut w w' g none := by
 obtain ⟨⟨r1, r2, r3, r4, r5⟩, h1, h2⟩ := Option.map_eq_some_iff.mp h
 simp only [Prod.mk.injEq] at h2
 obtain ⟨rfl, rfl⟩ := h2
 have h1' := h1
 unfold impl_termReader_word.f at h1'
 obtain ⟨e1, e2, e3⟩ := word_keeps0 k _ h1'
 subst e1 e2 e3
 exact impl_termReader_word.calls k g _ a l _ _ r1 _ r3 _ _ w0 w hI hB h1
/-! ### impl_readNumber: function 123 -/
mutual
def impl_readNumber.j0 : Nat → ByteArray → Bool → Option (Int × Bool)
 | 0, _, _ => none
 | k + 1, x0, x19 => if x19 = true then (some (0, false)) else (impl_readNumber.l0 k x0 0 (x0.size : Int) 0)
def impl_readNumber.l0 : Nat → ByteArray → Int → Int → Int → Option (Int × Bool)
 | 0, _, _, _, _ => none
 | k + 1, x0, x4, x21, x22 => if x22 < x21 then (if 0 ≤ x22 then (if x22 < (x0.size : Int) then (if (bt x0 x22) < 48 then (some (0, false)) else (if (bt x0 x22) > 57 then (some (0, false)) else (impl_readNumber.l0 k x0 (wrap64 ((wrap64 (10 * x4)) + (((bt x0 x22) - 48) % 256))) x21 (wrap64 (x22 + 1))))) else (none)) else (none)) else (some (x4, true))
end
def impl_readNumber.f (k : Nat) (a0 : ByteArray) : Option (Int × Bool) := (impl_within.f (a0.size : Int) 1 9).bind fun t407 => (if t407 = true then (if (a0.size : Int) > 1 then (if 0 < (a0.size : Int) then (impl_readNumber.j0 k a0 ((bt a0 0) == 48)) else (none)) else (impl_readNumber.j0 k a0 false)) else (impl_readNumber.j0 k a0 true))
set_option maxHeartbeats 8000000 in
set_option maxRecDepth 100000 in
theorem impl_readNumber.calls (k : Nat) (a0 : ByteArray) (r1 : Int) (r2 : Bool) (w : World) (h : impl_readNumber.f k a0 = some (r1, r2)) :
  Calls Try.prog 123 #[.string a0] w fun e w' => e = .returned (.tuple #[.int .i64 r1, .bool r2]) ∧ Drawn0 w w' := by
 have H : ((impl_within.f (a0.size : Int) 1 9).bind fun t407 => (if t407 = true then (if (a0.size : Int) > 1 then (if 0 < (a0.size : Int) then (impl_readNumber.j0 k a0 ((bt a0 0) == 48)) else (none)) else (impl_readNumber.j0 k a0 false)) else (impl_readNumber.j0 k a0 true))) = some (r1, r2) := h
 clear h
 have HC2 := am H; clear H
 go_enter Try.func123, Try.ntmps123
 go_upto_region 1 with (fail)
 go_cut [19] (fun v19 wc => ∃ (kq : Nat) (x19_1 : Bool), v19 = .bool x19_1 ∧ Aside0 (impl_readNumber.j0 kq a0 x19_1 = some (r1, r2)) ∧ Aside0 (kq ≤ k) ∧ Drawn0 w wc)
 case first =>
  have H := HC2.out
  clear HC2
  replace H := oA H; obtain ⟨t407, A3, H⟩ := H
  replace H := iB H; rcases H with ⟨rfl, H⟩ | ⟨rfl, H⟩
  ·by_cases c5 : (a0.size : Int) > 1
   ·rw [if_pos c5] at H
    have c5b0 : decide (1 < (a0.size : Int)) = true := decide_eq_true c5
    have c5b1 : decide (1 < a0.size) = true := decide_eq_true (by omega)
    clear c5
    replace H := iP H; obtain ⟨c6, H⟩ := H
    have c6b0 : decide (0 < (a0.size : Int)) = true := decide_eq_true c6
    have c6b1 : decide (0 < a0.size) = true := decide_eq_true (by omega)
    clear c6
    have H' := am H
    clear H
    go_wp2_with (first | ((with_reducible refine gate_callee (f := 72) rfl ?_); refine goesL_ (some 8) rfl rfl Try.func72 (by kernel_rfl) rfl #[.int .i64 (a0.size : Int), .int .i64 1, .int .i64 9] rfl tm ?_; refine cD (impl_within.calls _ _ _ _ _ A3.out) fun nd => ?_; refine ⟨_, rfl, ?_⟩; have p7 : 0 ≤ (0 : Int) := (by omega); have q7 : 0 < a0.size := (by have : (0 : Int) < (a0.size : Int) := oD (by assumption); omega); have hx7 : ∀ h : 0 < a0.size, ((a0[0]'h).toNat : Int) = bt a0 0 := bt_at a0 0; clear p7; have qi7 : (0 < (a0.size : Int)) = True := eq_true (oD (by assumption)); replace q7 := eq_true q7))
    go_meet
    case rel => exact ⟨_, (((bt a0 0) == 48)), (by rfl), H', ⟨by omega⟩, by repeat (first | exact Drawn0.refl _ | apply Drawn0.step)⟩
   ·rw [if_neg c5] at H
    have c5b0 : decide (1 < (a0.size : Int)) = false := decide_eq_false c5
    have c5b1 : decide (1 < a0.size) = false := decide_eq_false (by omega)
    clear c5
    have H' := am H
    clear H
    go_wp2_with (first | ((with_reducible refine gate_callee (f := 72) rfl ?_); refine goesL_ (some 8) rfl rfl Try.func72 (by kernel_rfl) rfl #[.int .i64 (a0.size : Int), .int .i64 1, .int .i64 9] rfl tm ?_; refine cD (impl_within.calls _ _ _ _ _ A3.out) fun nd => ?_; refine ⟨_, rfl, ?_⟩))
    go_meet
    case rel => exact ⟨_, (false), (by rfl), H', ⟨by omega⟩, by repeat (first | exact Drawn0.refl _ | apply Drawn0.step)⟩
  ·have H' := am H
   clear H
   go_wp2_with (first | ((with_reducible refine gate_callee (f := 72) rfl ?_); refine goesL_ (some 8) rfl rfl Try.func72 (by kernel_rfl) rfl #[.int .i64 (a0.size : Int), .int .i64 1, .int .i64 9] rfl tm ?_; refine cD (impl_within.calls _ _ _ _ _ A3.out) fun nd => ?_; refine ⟨_, rfl, ?_⟩))
   go_meet
   case rel => exact ⟨_, (true), (by rfl), H', ⟨by omega⟩, by repeat (first | exact Drawn0.refl _ | apply Drawn0.step)⟩
 case rest =>
  clear HC2
  obtain ⟨kq, x19_1, rfl, HA, HJ1, ⟨mc1, rfl⟩⟩ := hcut
  cases kq with
  | zero => exact absurd HA.out (by simp [impl_readNumber.j0])
  | succ kj1 =>
   have H := HA.out
   clear HA
   simp only [impl_readNumber.j0] at H
   replace H := iB H; rcases H with ⟨rfl, H⟩ | ⟨rfl, H⟩
   ·simp only [Option.some.injEq, Prod.mk.injEq] at H
    obtain ⟨rfl, rfl⟩ := H
    go_wp2
    go_ret2
    exact ⟨by rfl, by repeat (first | exact Drawn0.refl _ | apply Drawn0.step)⟩
   ·have H' := am H
    clear H
    go_wp2
    go_loopg [4, 22] kj1 (fun kq v4 v22 w' => ∃ (x4_2 : Int) (x22_2 : Int), v4 = .int .i64 x4_2 ∧ v22 = .int .i64 x22_2 ∧ Aside0 (impl_readNumber.l0 kq a0 x4_2 (a0.size : Int) x22_2 = some (r1, r2)) ∧ Aside0 (kq ≤ kj1) ∧ Drawn0 w w')
    case atStart => exact ⟨(0), (0), (by rfl), (by rfl), H', ⟨Nat.le_refl _⟩, by repeat (first | exact Drawn0.refl _ | apply Drawn0.step)⟩
    case round =>
     clear H'
     obtain ⟨x4_2, x22_2, rfl, rfl, HA, HK2, ⟨m2, rfl⟩⟩ := hrel
     cases gk with
     | zero => exact absurd HA.out (by simp [impl_readNumber.l0])
     | succ k2 =>
      have H := HA.out
      clear HA
      simp only [impl_readNumber.l0] at H
      replace H := iD H; rcases H with ⟨c9b0, H⟩ | ⟨c9b0, H⟩
      ·replace H := iN H; obtain ⟨c10b0, H⟩ := H
       replace H := iN H; obtain ⟨c11b0, H⟩ := H
       replace H := iD H; rcases H with ⟨c13b0, H⟩ | ⟨c13b0, H⟩
       ·simp only [Option.some.injEq, Prod.mk.injEq] at H
        obtain ⟨rfl, rfl⟩ := H
        have p12 : 0 ≤ (x22_2 : Int) := oD (by assumption)
        have q12 : x22_2 < (a0.size : Int) := oD (by assumption)
        have hx12 := bt_at a0 x22_2
        replace p12 := eq_true p12
        replace q12 := eq_true q12
        go_wp2
        go_ret2
        exact ⟨by rfl, by repeat (first | exact Drawn0.refl _ | apply Drawn0.step)⟩
       ·by_cases c15 : (bt a0 x22_2) > 57
        ·rw [if_pos c15] at H
         have c15b0 : decide (57 < (bt a0 x22_2)) = true := decide_eq_true c15
         clear c15
         simp only [Option.some.injEq, Prod.mk.injEq] at H
         obtain ⟨rfl, rfl⟩ := H
         have p12 : 0 ≤ (x22_2 : Int) := oD (by assumption)
         have q12 : x22_2 < (a0.size : Int) := oD (by assumption)
         have hx12 := bt_at a0 x22_2
         replace p12 := eq_true p12
         replace q12 := eq_true q12
         have p14 : 0 ≤ (x22_2 : Int) := oD (by assumption)
         have q14 : x22_2 < (a0.size : Int) := oD (by assumption)
         have hx14 := bt_at a0 x22_2
         replace p14 := eq_true p14
         replace q14 := eq_true q14
         go_wp2
         go_ret2
         exact ⟨by rfl, by repeat (first | exact Drawn0.refl _ | apply Drawn0.step)⟩
        ·rw [if_neg c15] at H
         have c15b0 : decide (57 < (bt a0 x22_2)) = false := decide_eq_false c15
         clear c15
         have H' := am H
         clear H
         have p12 : 0 ≤ (x22_2 : Int) := oD (by assumption)
         have q12 : x22_2 < (a0.size : Int) := oD (by assumption)
         have hx12 := bt_at a0 x22_2
         replace p12 := eq_true p12
         replace q12 := eq_true q12
         have p14 : 0 ≤ (x22_2 : Int) := oD (by assumption)
         have q14 : x22_2 < (a0.size : Int) := oD (by assumption)
         have hx14 := bt_at a0 x22_2
         replace p14 := eq_true p14
         replace q14 := eq_true q14
         have p16 : 0 ≤ (x22_2 : Int) := oD (by assumption)
         have q16 : x22_2 < (a0.size : Int) := oD (by assumption)
         have hx16 := bt_at a0 x22_2
         replace p16 := eq_true p16
         replace q16 := eq_true q16
         go_wp2
         go_roundg k2
         case measure => have := HJ1.out; have := HK2.out; omega
         case rel => exact ⟨(wrap64 ((wrap64 (10 * x4_2)) + (((bt a0 x22_2) - 48) % 256))), (wrap64 (x22_2 + 1)), (by rfl), (by rfl), H', ⟨by have := HJ1.out; have := HK2.out; omega⟩, by repeat (first | exact Drawn0.refl _ | apply Drawn0.step)⟩
      ·simp only [Option.some.injEq, Prod.mk.injEq] at H
       obtain ⟨rfl, rfl⟩ := H
       go_wp2
       go_ret2
       exact ⟨by rfl, by repeat (first | exact Drawn0.refl _ | apply Drawn0.step)⟩
end Go.Proofs.Ytkpipmojkhikaaa.PAll
