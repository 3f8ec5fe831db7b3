/- Written by a program of this session over the loaded program, and by hand: Go functions as plain Lean functions, and that a call comes to what they say. -/
import Derived.Test.YtkpipmojkhikaaaVText0
import Derived.Test.YtkpipmojkhikaaaVText10
import Derived.Test.YtkpipmojkhikaaaVText11
import Derived.Test.YtkpipmojkhikaaaVText12
import Derived.Test.YtkpipmojkhikaaaVText13
import Derived.Test.YtkpipmojkhikaaaBase
import Derived.Test.YtkpipmojkhikaaaSq
namespace Go.Proofs.Ytkpipmojkhikaaa.PAll
open Go.RowKit Go.Proofs.YtkpipmojkhikaaaW.PrintWords Go.Proofs.YtkpipmojkhikaaaW.PrintLast Go.Proofs.YtkpipmojkhikaaaW.PrintMore Go.Proofs.YtkpipmojkhikaaaW.Sq
attribute [local go_sem] sD rZ uM uL qV qU sA rY
set_option linter.unusedVariables false
set_option maxHeartbeats 8000000
set_option maxRecDepth 100000
set_option linter.unusedSimpArgs false
theorem b9y (a b c d e f : Int) : rG a b c d e f = some ((a == 19) || (a == 20)) := by
 unfold rG
 by_cases h : a = 19
 ·rw [if_pos h]; simp [h]
 ·rw [if_neg h]; simp [h]
theorem a2a {w : World} {g T : Nat} {a b c d e f : Int} (h : w.heap[g]? = some (.cells #[.int .i64 a, .int .i64 b, .int .i64 c, .int .i64 d, .int .i64 e, .int .i64 f] T (0, 0))) :
  (w.cell? ⟨g, 0, none⟩ = some (.int .i64 a) ∧ w.cell? ⟨g, 1, none⟩ = some (.int .i64 b) ∧ w.cell? ⟨g, 2, none⟩ = some (.int .i64 c) ∧ w.cell? ⟨g, 3, none⟩ = some (.int .i64 d) ∧ w.cell? ⟨g, 4, none⟩ = some (.int .i64 e) ∧ w.cell? ⟨g, 5, none⟩ = some (.int .i64 f)) :=
 ⟨(kG h 0).trans rfl, (kG h 1).trans rfl, (kG h 2).trans rfl, (kG h 3).trans rfl, (kG h 4).trans rfl, (kG h 5).trans rfl⟩
def xc (acc : List Int) : Array Value := #[.int .i64 (rd acc 0), .int .i64 (rd acc 1), .int .i64 (rd acc 2)]
theorem c9w (acc : List Int) (j : Nat) (h : j < 3) : ∃ v, (xc acc)[j]? = some (.int .i64 v) := by
 have : j = 0 ∨ j = 1 ∨ j = 2 := by omega
 rcases this with rfl | rfl | rfl
 ·exact ⟨_, rfl⟩
 ·exact ⟨_, rfl⟩
 ·exact ⟨_, rfl⟩
theorem c9v (acc : List Int) (v : Int) (h : acc.length < 3) : (xc acc).setIfInBounds acc.length (.int .i64 v) = xc (acc ++ [v]) := by
 match acc, h with
 | [], _ => rfl
 | [a], _ => rfl
 | [a, b], _ => rfl
 | a :: b :: c :: t, h => exact absurd h (by simp)
section
attribute [local go_sem high] c0e
variable {Ax : Option Addr} {cx : Nat}
def IsS84 (Ax : Option Addr) (cx : Nat) (w0 W : World) (g : Nat) (f0 : ByteArray) (f1 : Int) (f2 : List (S31)) (f3 : Int) (f4 : Int) : Prop := ∃ A2 c2, W.heap[g]? = some (.cells #[.string f0, .int .i64 f1, .slice A2 f2.length c2, .int .i64 f3, .int .i64 f4] 84 (0, 0)) ∧ w0.heap.size ≤ g ∧ (A2 = Ax ∧ c2 = cx)
theorem IsS84.grown {w0 W : World} {g : Nat} {f0 : ByteArray} {f1 : Int} {f2 : List (S31)} {f3 : Int} {f4 : Int} {W1 : World} {row : Option Nat} (h : IsS84 Ax cx w0 W g f0 f1 f2 f3 f4) (hw : W.grownBy W1 row) (hne : some g ≠ row) : IsS84 Ax cx w0 W1 g f0 f1 f2 f3 f4 := by
 obtain ⟨A2, c2, hb, hg, hr2⟩ := h
 exact ⟨A2, c2, tV hb hw hne, hg, hr2⟩
theorem IsS84.below {w0 W : World} {g : Nat} {f0 : ByteArray} {f1 : Int} {f2 : List (S31)} {f3 : Int} {f4 : Int} {W1 : World} (h : IsS84 Ax cx w0 W g f0 f1 f2 f3 f4) (hw : Below W.heap.size W W1) : IsS84 Ax cx w0 W1 g f0 f1 f2 f3 f4 := h.grown (yG hw none) (by simp)
theorem IsS84.alloc {w0 W : World} {g : Nat} {f0 : ByteArray} {f1 : Int} {f2 : List (S31)} {f3 : Int} {f4 : Int} (h : IsS84 Ax cx w0 W g f0 f1 f2 f3 f4) (o : Obj) : IsS84 Ax cx w0 (W.alloc o) g f0 f1 f2 f3 f4 := h.below (kS (Below.refl _ _) o)
theorem IsS84.drewN {w0 W : World} {g : Nat} {f0 : ByteArray} {f1 : Int} {f2 : List (S31)} {f3 : Int} {f4 : Int} (h : IsS84 Ax cx w0 W g f0 f1 f2 f3 f4) (m : Nat) : IsS84 Ax cx w0 (W.drewN m) g f0 f1 f2 f3 f4 := h
theorem IsS84.drew {w0 W : World} {g : Nat} {f0 : ByteArray} {f1 : Int} {f2 : List (S31)} {f3 : Int} {f4 : Int} (h : IsS84 Ax cx w0 W g f0 f1 f2 f3 f4) : IsS84 Ax cx w0 W.drew g f0 f1 f2 f3 f4 := h
theorem zL {w0 W : World} {g : Nat} {f0 : ByteArray} {f1 : Int} {f2 : List (S31)} {f3 : Int} {f4 : Int} (h : IsS84 Ax cx w0 W g f0 f1 f2 f3 f4) : g < W.heap.size := by
 obtain ⟨A2, c2, hb, hg, hr2⟩ := h
 exact sO hb
theorem c0t {w0 W : World} {g : Nat} {f0 : ByteArray} {f1 : Int} {f2 : List (S31)} {f3 : Int} {f4 : Int} (h : IsS84 Ax cx w0 W g f0 f1 f2 f3 f4) : w0.heap.size ≤ g := by
 obtain ⟨A2, c2, hb, hg, hr2⟩ := h
 exact hg
theorem wN {w0 W : World} {g : Nat} {f0 : ByteArray} {f1 : Int} {f2 : List (S31)} {f3 : Int} {f4 : Int} {a : Nat} {cs : Array Value} {t : TypeId} {fr : Nat × Nat} (h : IsS84 Ax cx w0 W g f0 f1 f2 f3 f4) (hb2 : W.heap[a]? = some (.cells cs t fr)) (ht : t ≠ 84) : g ≠ a := by
 obtain ⟨A2, c2, hb, hg, hr2⟩ := h
 rintro rfl
 rw [hb] at hb2
 injection hb2 with hb2
 injection hb2 with _ ht2
 exact ht ht2.symm
theorem IsS84.far {w0 W : World} {g : Nat} {f0 : ByteArray} {f1 : Int} {f2 : List (S31)} {f3 : Int} {f4 : Int} {p : Addr} (h : IsS84 Ax cx w0 W g f0 f1 f2 f3 f4) (hne : g ≠ p.block) (u : Value) : IsS84 Ax cx w0 (W.setCell p u) g f0 f1 f2 f3 f4 := by
 obtain ⟨A2, c2, hb, hg, hr2⟩ := h
 exact ⟨A2, c2, xH hb hne u, hg, hr2⟩
theorem wM {W : World} {g : Nat} {A2 : Option Addr} {c2 : Nat} {f0 : ByteArray} {f1 : Int} {f2 : List (S31)} {f3 : Int} {f4 : Int} (h : W.heap[g]? = some (.cells #[.string f0, .int .i64 f1, .slice A2 f2.length c2, .int .i64 f3, .int .i64 f4] 84 (0, 0))) : W.cell? ⟨g, 0, none⟩ = some (.string f0) := (kG h 0).trans rfl
theorem qB {w0 W : World} {g : Nat} {f0 : ByteArray} {f1 : Int} {f2 : List (S31)} {f3 : Int} {f4 : Int} (h : IsS84 Ax cx w0 W g f0 f1 f2 f3 f4) (x : ByteArray) : IsS84 Ax cx w0 (W.setCell ⟨g, 0, none⟩ (.string x)) g x f1 f2 f3 f4 := by
 obtain ⟨A2, c2, hb, hg, hr2⟩ := h
 exact ⟨A2, c2, by simpa using qM hb 0 (.string x), hg, hr2⟩
theorem wL {W : World} {g : Nat} {A2 : Option Addr} {c2 : Nat} {f0 : ByteArray} {f1 : Int} {f2 : List (S31)} {f3 : Int} {f4 : Int} (h : W.heap[g]? = some (.cells #[.string f0, .int .i64 f1, .slice A2 f2.length c2, .int .i64 f3, .int .i64 f4] 84 (0, 0))) : W.cell? ⟨g, 1, none⟩ = some (.int .i64 f1) := (kG h 1).trans rfl
theorem pU {w0 W : World} {g : Nat} {f0 : ByteArray} {f1 : Int} {f2 : List (S31)} {f3 : Int} {f4 : Int} (h : IsS84 Ax cx w0 W g f0 f1 f2 f3 f4) (x : Int) : IsS84 Ax cx w0 (W.setCell ⟨g, 1, none⟩ (.int .i64 x)) g f0 x f2 f3 f4 := by
 obtain ⟨A2, c2, hb, hg, hr2⟩ := h
 exact ⟨A2, c2, by simpa using qM hb 1 (.int .i64 x), hg, hr2⟩
theorem wK {W : World} {g : Nat} {A2 : Option Addr} {c2 : Nat} {f0 : ByteArray} {f1 : Int} {f2 : List (S31)} {f3 : Int} {f4 : Int} (h : W.heap[g]? = some (.cells #[.string f0, .int .i64 f1, .slice A2 f2.length c2, .int .i64 f3, .int .i64 f4] 84 (0, 0))) : W.cell? ⟨g, 2, none⟩ = some (.slice A2 f2.length c2) := (kG h 2).trans rfl
theorem wJ {W : World} {g : Nat} {A2 : Option Addr} {c2 : Nat} {f0 : ByteArray} {f1 : Int} {f2 : List (S31)} {f3 : Int} {f4 : Int} (h : W.heap[g]? = some (.cells #[.string f0, .int .i64 f1, .slice A2 f2.length c2, .int .i64 f3, .int .i64 f4] 84 (0, 0))) : W.cell? ⟨g, 3, none⟩ = some (.int .i64 f3) := (kG h 3).trans rfl
theorem qA {w0 W : World} {g : Nat} {f0 : ByteArray} {f1 : Int} {f2 : List (S31)} {f3 : Int} {f4 : Int} (h : IsS84 Ax cx w0 W g f0 f1 f2 f3 f4) (x : Int) : IsS84 Ax cx w0 (W.setCell ⟨g, 3, none⟩ (.int .i64 x)) g f0 f1 f2 x f4 := by
 obtain ⟨A2, c2, hb, hg, hr2⟩ := h
 exact ⟨A2, c2, by simpa using qM hb 3 (.int .i64 x), hg, hr2⟩
theorem wI {W : World} {g : Nat} {A2 : Option Addr} {c2 : Nat} {f0 : ByteArray} {f1 : Int} {f2 : List (S31)} {f3 : Int} {f4 : Int} (h : W.heap[g]? = some (.cells #[.string f0, .int .i64 f1, .slice A2 f2.length c2, .int .i64 f3, .int .i64 f4] 84 (0, 0))) : W.cell? ⟨g, 4, none⟩ = some (.int .i64 f4) := (kG h 4).trans rfl
theorem pZ {w0 W : World} {g : Nat} {f0 : ByteArray} {f1 : Int} {f2 : List (S31)} {f3 : Int} {f4 : Int} (h : IsS84 Ax cx w0 W g f0 f1 f2 f3 f4) (x : Int) : IsS84 Ax cx w0 (W.setCell ⟨g, 4, none⟩ (.int .i64 x)) g f0 f1 f2 f3 x := by
 obtain ⟨A2, c2, hb, hg, hr2⟩ := h
 exact ⟨A2, c2, by simpa using qM hb 4 (.int .i64 x), hg, hr2⟩
def qZ (a2 : ByteArray) (a0 : Int) (a5 : List (S31)) (a4 : Int) (a3 : Int) (a1 : Int) : Option (Bool × ByteArray × Int × Int × Int) := if a0 ≥ (a2.size : Int) then (some (false, a2, a0, a4, a3)) else (if 0 ≤ a0 then (if a0 < (a2.size : Int) then (if (bt a2 a0) = a1 then (some (true, a2, wrap64 (a0 + 1), a4, a3)) else (some (false, a2, a0, a4, a3))) else (none)) else (none))
theorem c2h {P : Prop} (h : P := by
 go_enter Try.func89, Try.ntmps89
 go_wp2
 repeat (go_quiet (fail); try go_wp2)
 go_ret
 exact ⟨rfl, by repeat (first | (with_reducible first | exact HI0.out | apply IsS84.alloc | apply IsS84.drewN | apply IsS84.drew | apply qB | apply pU | apply qA | apply pZ) | exact HI0.out), zX, kB⟩) : P := h
theorem c1z {P : Prop} (h : P := by
 have p7 : 0 ≤ (a0 : Int) := oD (by assumption)
 have q7 : a0 < (a2.size : Int) := oD (by assumption)
 have b2 := xG a2 a0
 replace p7 := eq_true p7
 replace q7 := eq_true q7
 exact c2h) : P := h
theorem impl_termReader_goes.calls (g : Nat) (a2 : ByteArray) (a0 : Int) (a3 : List (S31)) (a5 a4 a1 : Int) (r1 : Bool) (r2 : ByteArray) (r3 r4 r5 : Int) (w0 w : World) (hI : IsS84 Ax cx w0 w g a2 a0 a3 a5 a4) (hB : Below w0.heap.size w0 w) (h : qZ a2 a0 a3 a5 a4 a1 = some (r1, r2, r3, r4, r5)) :
  Calls Try.prog 89 #[.pointer (some ⟨g, 0, none⟩), .int .u8 a1] w fun e w' => e = .returned (.bool r1) ∧ IsS84 Ax cx w0 w' g r2 r3 a3 r4 r5 ∧ Below w0.heap.size w0 w' ∧ KeepBut w w' g none := by
 have HI0 := am hI
 have HK := am (KeepBut.refl w g none)
 have HL := am hB.size
 clear hI
 have HW0 := am hB.size
 have HB := am hB
 clear hB
 have H := h
 clear h
 unfold qZ at H
 by_cases c3 : a0 ≥ (a2.size : Int)
 ·rw [if_pos c3] at H
  have a8 : decide ((a2.size : Int) ≤ a0) = true := decide_eq_true c3
  clear c3
  simp only [Option.some.injEq, Prod.mk.injEq] at H
  obtain ⟨rfl, rfl, rfl, rfl, rfl⟩ := H
  obtain ⟨ASz4_2, cSz4_2, HGz4, hgz4, HSz4_2⟩ := HI0.out
  have a_ := wM HGz4
  have aZ := wL HGz4
  have aY := wK HGz4
  have aX := wJ HGz4
  have aW := wI HGz4
  have aQ := kE HGz4 0
  have aO := kE HGz4 1
  have aN := kE HGz4 3
  have aM := kE HGz4 4
  clear HGz4 hgz4
  exact c2h
 rw [if_neg c3] at H
 have a8 : decide ((a2.size : Int) ≤ a0) = false := decide_eq_false c3
 clear c3
 replace H := iN H; obtain ⟨b1, H⟩ := H
 replace H := iN H; obtain ⟨b0, H⟩ := H
 replace H := iE H; rcases H with ⟨a7, a6, H⟩ | ⟨a7, a6, H⟩
 ·simp only [Option.some.injEq, Prod.mk.injEq] at H
  obtain ⟨rfl, rfl, rfl, rfl, rfl⟩ := H
  obtain ⟨ASz9_2, cSz9_2, HGz9, hgz9, HSz9_2⟩ := HI0.out
  have aV := wM HGz9
  have aU := wL HGz9
  have aT := wK HGz9
  have aS := wJ HGz9
  have aR := wI HGz9
  have aL := kE HGz9 0
  have aK := kE HGz9 1
  have aJ := kE HGz9 3
  have aI := kE HGz9 4
  clear HGz9 hgz9
  exact c1z
 simp only [Option.some.injEq, Prod.mk.injEq] at H
 obtain ⟨rfl, rfl, rfl, rfl, rfl⟩ := H
 obtain ⟨ASz10_2, cSz10_2, HGz10, hgz10, HSz10_2⟩ := HI0.out
 have aH := wM HGz10
 have aG := wL HGz10
 have aF := wK HGz10
 have aE := wJ HGz10
 have aD := wI HGz10
 have aC := kE HGz10 0
 have aB := kE HGz10 1
 have aA := kE HGz10 3
 have a9 := kE HGz10 4
 clear HGz10 hgz10
 exact c1z
def yJ (a0 : Int) : Option (Bool) := if a0 = 32 then (some true) else (if a0 = 40 then (some true) else (some (a0 == 41)))
theorem impl_isEnd.calls {a0 : Int} {r : Bool} {w : World} (h : yJ a0 = some r) :
  Calls Try.prog 122 #[.int .u8 a0] w fun e w' => e = .returned (.bool r) ∧ Drawn0 w w' := by
 have H := h
 clear h
 unfold yJ at H
 replace H := iE H; rcases H with ⟨a4, a3, H⟩ | ⟨a4, a3, H⟩
 ·obtain rfl := oI H
  go_enter Try.func122, Try.ntmps122
  go_wp2
  go_ret
  exact ⟨rfl, dR⟩
 replace H := iE H; rcases H with ⟨a2, a1, H⟩ | ⟨a2, a1, H⟩
 ·obtain rfl := oI H
  go_enter Try.func122, Try.ntmps122
  go_wp2
  go_ret
  exact ⟨rfl, dR⟩
 obtain rfl := oI H
 go_enter Try.func122, Try.ntmps122
 go_wp2
 go_ret
 exact ⟨rfl, dR⟩
variable {Ax : Option Addr} {cx : Nat}
def xT (a3 : ByteArray) (a0 : Int) (a6 : List (S31)) (a5 : Int) (a4 : Int) (a1 : Int) (a2 : Int) : Option (Int × Bool × ByteArray × Int × Int × Int) := some (0, false, a3, a0, a1, a2)
theorem impl_termReader_fails.calls (g : Nat) (a6 : ByteArray) (a5 : Int) (a0 : List (S31)) (a4 a3 a1 a2 r1 : Int) (r2 : Bool) (r3 : ByteArray) (r4 r5 r6 : Int) (w0 w : World) (hI : IsS84 Ax cx w0 w g a6 a5 a0 a4 a3) (hB : Below w0.heap.size w0 w) (h : xT a6 a5 a0 a4 a3 a1 a2 = some (r1, r2, r3, r4, r5, r6)) :
  Calls Try.prog 93 #[.pointer (some ⟨g, 0, none⟩), .int .i64 a1, .int .i64 a2] w fun e w' => e = .returned (.tuple #[.int .i64 r1, .bool r2]) ∧ IsS84 Ax cx w0 w' g r3 r4 a0 r5 r6 ∧ Below w0.heap.size w0 w' ∧ KeepBut w w' g none := by
 have hu82 := Try.underlying82
 have HI0 := am hI
 have HK := am (KeepBut.refl w g none)
 have HL := am hB.size
 clear hI
 have HW0 := am hB.size
 have HB := am hB
 clear hB
 have H := h
 clear h
 unfold xT at H
 simp only [Option.some.injEq, Prod.mk.injEq] at H
 obtain ⟨rfl, rfl, rfl, rfl, rfl, rfl⟩ := H
 obtain ⟨ASz4_2, cSz4_2, HGz4, hgz4, HSz4_2⟩ := HI0.out
 have aF := wM HGz4
 have aE := wL HGz4
 have aD := wK HGz4
 have aC := wJ HGz4
 have aB := wI HGz4
 have aA := kE HGz4 0
 have a9 := kE HGz4 1
 have a8 := kE HGz4 3
 have a7 := kE HGz4 4
 clear HGz4 hgz4
 go_enter Try.func93, Try.ntmps93
 go_wp2
 go_ret2
 exact ⟨rfl, by repeat (first | (with_reducible first | exact HI0.out | apply IsS84.alloc | apply IsS84.drewN | apply IsS84.drew | apply qB | apply pU | apply qA | apply pZ) | exact HI0.out), zX, kB⟩
def tZ : Nat → ByteArray → Int → Option (Int × Bool)
 | 0, _, _ => none
 | k + 1, x0, x4 => if x4 ≤ 16 then ((vP x4).bind fun a0 => (if x0.toList = a0.toList then (some (x4, true)) else (tZ k x0 (wrap64 (x4 + 1))))) else (some (0, false))
def vQ (k : Nat) (a0 : ByteArray) : Option (Int × Bool) := if a0.toList = ([110, 111, 116] : List UInt8) then (some (2, true)) else (if a0.toList = ([115, 108, 105, 99, 101] : List UInt8) then (some (17, true)) else (if a0.toList = ([105, 102] : List UInt8) then (some (18, true)) else (if a0.toList = ([97, 108, 108] : List UInt8) then (some (19, true)) else (if a0.toList = ([115, 111, 109, 101] : List UInt8) then (some (20, true)) else (tZ k a0 3)))))
theorem a9d {P : Prop} (h : P := by
 simp only [Option.some.injEq, Prod.mk.injEq] at H
 obtain ⟨rfl, rfl⟩ := H
 go_enter Try.func94, Try.ntmps94
 go_wp2
 go_ret2
 exact ⟨rfl, sW HB.out⟩) : P := h
theorem impl_opOf.calls (k : Nat) (a0 : ByteArray) (r1 : Int) (r2 : Bool) (w : World) (h : vQ k a0 = some (r1, r2)) :
  Calls Try.prog 94 #[.string a0] w fun e w' => e = .returned (.tuple #[.int .i64 r1, .bool r2]) ∧ Below w.heap.size w w' := by
 have HB := am (Below.refl w.heap.size w)
 have H := h
 clear h
 unfold vQ at H
 by_cases c2 : a0.toList = ([110, 111, 116] : List UInt8)
 ·rw [if_pos c2] at H
  have aB : (a0.toList == ([110, 111, 116] : List UInt8)) = true := beq_iff_eq.mpr c2
  have aA : (a0.toList != ([110, 111, 116] : List UInt8)) = false := bne_eq_false_iff_eq.mpr c2
  clear c2
  exact a9d
 rw [if_neg c2] at H
 have aB : (a0.toList == ([110, 111, 116] : List UInt8)) = false := beq_eq_false_iff_ne.mpr c2
 have aA : (a0.toList != ([110, 111, 116] : List UInt8)) = true := bne_iff_ne.mpr c2
 by_cases c3 : a0.toList = ([115, 108, 105, 99, 101] : List UInt8)
 ·rw [if_pos c3] at H
  have a9 : (a0.toList == ([115, 108, 105, 99, 101] : List UInt8)) = true := beq_iff_eq.mpr c3
  have a8 : (a0.toList != ([115, 108, 105, 99, 101] : List UInt8)) = false := bne_eq_false_iff_eq.mpr c3
  clear c3
  exact a9d
 rw [if_neg c3] at H
 have a9 : (a0.toList == ([115, 108, 105, 99, 101] : List UInt8)) = false := beq_eq_false_iff_ne.mpr c3
 have a8 : (a0.toList != ([115, 108, 105, 99, 101] : List UInt8)) = true := bne_iff_ne.mpr c3
 by_cases c4 : a0.toList = ([105, 102] : List UInt8)
 ·rw [if_pos c4] at H
  have a7 : (a0.toList == ([105, 102] : List UInt8)) = true := beq_iff_eq.mpr c4
  have a6 : (a0.toList != ([105, 102] : List UInt8)) = false := bne_eq_false_iff_eq.mpr c4
  clear c4
  exact a9d
 rw [if_neg c4] at H
 have a7 : (a0.toList == ([105, 102] : List UInt8)) = false := beq_eq_false_iff_ne.mpr c4
 have a6 : (a0.toList != ([105, 102] : List UInt8)) = true := bne_iff_ne.mpr c4
 by_cases c5 : a0.toList = ([97, 108, 108] : List UInt8)
 ·rw [if_pos c5] at H
  have a5 : (a0.toList == ([97, 108, 108] : List UInt8)) = true := beq_iff_eq.mpr c5
  have a4 : (a0.toList != ([97, 108, 108] : List UInt8)) = false := bne_eq_false_iff_eq.mpr c5
  clear c5
  exact a9d
 rw [if_neg c5] at H
 have a5 : (a0.toList == ([97, 108, 108] : List UInt8)) = false := beq_eq_false_iff_ne.mpr c5
 have a4 : (a0.toList != ([97, 108, 108] : List UInt8)) = true := bne_iff_ne.mpr c5
 by_cases c6 : a0.toList = ([115, 111, 109, 101] : List UInt8)
 ·rw [if_pos c6] at H
  have a3 : (a0.toList == ([115, 111, 109, 101] : List UInt8)) = true := beq_iff_eq.mpr c6
  have a2 : (a0.toList != ([115, 111, 109, 101] : List UInt8)) = false := bne_eq_false_iff_eq.mpr c6
  clear c6
  exact a9d
 rw [if_neg c6] at H
 have a3 : (a0.toList == ([115, 111, 109, 101] : List UInt8)) = false := beq_eq_false_iff_ne.mpr c6
 have a2 : (a0.toList != ([115, 111, 109, 101] : List UInt8)) = true := bne_iff_ne.mpr c6
 replace H := am H
 go_enter Try.func94, Try.ntmps94
 go_wp2
 go_loopg [4] k (fun kq v4 w' => ∃ (a1 : Int), v4 = .int .i64 a1 ∧ Aside0 (tZ kq a0 a1 = some (r1, r2)) ∧ Aside0 (kq ≤ k) ∧ Aside0 (Below w.heap.size w w'))
 case atStart => exact ⟨3, rfl, H, ⟨Nat.le_refl _⟩, ⟨sW HB.out⟩⟩
 clear H
 clear c2 aB aA c3 a9 a8 c4 a7 a6 c5 a5 a4 c6 a3 a2
 obtain ⟨a1, rfl, HA, aC, HB⟩ := hrel
 cases gk with
 | zero => cases HA.out
 | succ k1 =>
  obtain ⟨H⟩ := HA
  simp only [tZ] at H
  replace H := iD H; rcases H with ⟨aF, H⟩ | ⟨aF, H⟩
  ·replace H := oA H; obtain ⟨aG, A8, H⟩ := H
   replace H := iE H; rcases H with ⟨aE, aD, H⟩ | ⟨aE, aD, H⟩
   ·simp only [Option.some.injEq, Prod.mk.injEq] at H
    obtain ⟨rfl, rfl⟩ := H
    go_wp2_with (first | ((with_reducible refine gW ?_); first | (refine gF 87 (some 22) rfl ?_; refine gS Try.func87 (impl_opWord.calls A8.out) ?_; rintro w10 hb; replace HB := hB HB hb; (try clear hb))))
    go_ret2
    exact ⟨rfl, sW HB.out⟩
   replace H := am H
   go_wp2_with (first | ((with_reducible refine gW ?_); first | (refine gF 87 (some 22) rfl ?_; refine gS Try.func87 (impl_opWord.calls A8.out) ?_; rintro w11 hb; replace HB := hB HB hb; (try clear hb))))
   go_roundg k1
   case measure => have := aC.out; omega
   case rel => exact ⟨(wrap64 (a1 + 1)), rfl, H, ⟨by have := aC.out; omega⟩, ⟨sW HB.out⟩⟩
  simp only [Option.some.injEq, Prod.mk.injEq] at H
  obtain ⟨rfl, rfl⟩ := H
  go_wp2
  go_ret2
  exact ⟨rfl, sW HB.out⟩
@[reducible] def c9a : Array Bool := #[false, false, false, false, false, false, false, false, false, false, false]
@[reducible] def c8v : Array Bool := #[true, false, false, false, false, false, false, false, false, false, false]
@[reducible] def c8q : Array Bool := #[true, true, false, false, false, false, false, false, false, false, false]
@[reducible] def c8l : Array Bool := #[true, true, true, false, false, false, false, false, false, false, false]
@[reducible] def c8g : Array Bool := #[true, true, true, true, false, false, false, false, false, false, false]
@[reducible] def c8b : Array Bool := #[true, true, true, true, true, false, false, false, false, false, false]
@[reducible] def c7w : Array Bool := #[true, true, true, true, true, true, false, false, false, false, false]
@[reducible] def c7s : Array Bool := #[true, true, true, true, true, true, true, false, false, false, false]
@[reducible] def c7n : Array Bool := #[true, true, true, true, true, true, true, true, false, false, false]
@[reducible] def c7i : Array Bool := #[true, true, true, true, true, true, true, true, true, false, false]
@[reducible] def c3s : Array Bool := #[true, true, true, true, true, true, true, true, true, true, false]
@[reducible] def c3p : Array Bool := #[true, true, true, true, true, true, true, true, true, true, true]
def b3n (a b : S31) : Bool := (a.f0 == b.f0 && (a.f1 == b.f1 && (a.f2 == b.f2 && (a.f3 == b.f3 && (a.f4 == b.f4 && (a.f5 == b.f5))))))
def xY (l : List (S31)) (n : S31) : Nat → Nat → Option Nat
 | 0, _ => none
 | m + 1, i => if b3n (kA l (i : Int)) n = true then some i else xY l n m (i + 1)
def a1j (l : List (S31)) (code bad : Int) (n : S31) (frm : Int) : (Int × Bool) × List (S31) × Int × Int :=
 if sM l n.f0 n.f1 n.f2 n.f3 n.f4 n.f5 = true then
  match xY l n l.length 0 with
  | some i => (((i : Int), true), l, code, bad)
  | none => if l.length = 80 then ((0, false), l, 4, frm) else (((l.length : Int), true), l ++ [n], code, bad)
 else ((0, false), l, 3, frm)
variable {Ax : Option Addr} {cx : Nat}
def a7q (w0 W : World) (g : Nat) (s : ByteArray) (a : Int) (l : List (S31)) (code bad : Int) (A : Option Addr) (c : Nat) : Prop :=
 IsS84 A c w0 W g s a l code bad ∧ Kd.R k31 31 W w0.heap.size (fun k => k ≠ g) (.slice A l.length c) l ∧ Below w0.heap.size w0 W
theorem a1m {P : Prop} (h : P := by
 simp only [Act.put, List.setIfInBounds_toArray, List.set_cons_zero, List.set_cons_succ, xW, a1l]
 rfl) : P := h
theorem c1a {P : Prop} (h : P := by
 go_wp2_with fail
 refine bodyPost_ret (pG (rs := [.tmp 6, .tmp 7]) rfl (by simp) (.tmp (.tmp .nil))) rfl ?_
 exact ⟨rfl, ⟨A2, c2, ⟨a5.out, Kd.R_keep HR.out a2.out (fun _ h => h), HB4.out⟩, fun k e => .inl e.symm⟩, kY HK.out a2.out (.inl (.inl rfl))⟩) : P := h
set_option maxHeartbeats 4000000 in
theorem impl_termReader_puts.calls (g : Nat) (s : ByteArray) (a : Int) (l : List (S31)) (code bad n0 n1 n2 n3 n4 n5 frm p : Int) (ok : Bool) (l' : List (S31)) (code' bad' : Int) (A : Option Addr) (c : Nat) (w0 w : World) (hI : a7q w0 w g s a l code bad A c) (hl : l.length ≤ 80)
  (h : a1j l code bad ⟨n0, n1, n2, n3, n4, n5⟩ frm = ((p, ok), l', code', bad')) :
  Calls Try.prog 92 #[.pointer (some ⟨g, 0, none⟩), .agg #[.int .i64 n0, .int .i64 n1, .int .i64 n2, .int .i64 n3, .int .i64 n4, .int .i64 n5], .int .i64 frm] w fun e w' => e = .returned (.tuple #[.int .i64 p, .bool ok]) ∧ (∃ A' c', a7q w0 w' g s a l' code' bad' A' c' ∧ ∀ k, (Value.slice A' l'.length c').ownBlock = some k → some k = (Value.slice A l.length c).ownBlock ∨ w.heap.size ≤ k) ∧ Kept w w' (fun k => k = g ∨ some k = (Value.slice A l.length c).ownBlock) := by
 obtain ⟨hS, hR, hB⟩ := hI
 have HS := am hS; have HR := am hR; have HB := am hB; have HL := am hl; have HH := am h
 clear hS hR hB hl h
 have HK := am (Kept.refl w (fun k => k = g ∨ some k = (Value.slice A l.length c).ownBlock))
 obtain ⟨A2, c2, hbg, hg0, hA2, hc2⟩ := HS.out
 subst hA2 hc2
 have BG := am hbg; have G0 := am hg0
 clear hbg hg0 HS
 obtain ⟨rb, hrb⟩ : ∃ rb, sM l n0 n1 n2 n3 n4 n5 = rb := ⟨_, rfl⟩
 have HRB := am hrb
 clear hrb
 go_enter Try.func92, Try.ntmps92
 go_wp2_with fail
 have a6 := am HR.out
 have BX := am (heap_alloc_new w (Obj.cells #[Value.int .i64 n0, Value.int .i64 n1, Value.int .i64 n2, Value.int .i64 n3, Value.int .i64 n4, Value.int .i64 n5] 31))
 have hA := kS (Below.refl w.heap.size w) (Obj.cells #[Value.int .i64 n0, Value.int .i64 n1, Value.int .i64 n2, Value.int .i64 n3, Value.int .i64 n4, Value.int .i64 n5] 31)
 have BG := am (kI BG.out hA); have HR := am (Kd.R_below HR.out hA); have HB := am (HB.out.trans (hA.mono HB.out.size)); have HK := am (HK.out.below hA)
 have HNX := am (show ∀ k, (Value.slice A2 l.length c2).ownBlock = some k → k < w.heap.size from fun k e => Kd.R_lt a6.out k e)
 generalize w.alloc (Obj.cells #[Value.int .i64 n0, Value.int .i64 n1, Value.int .i64 n2, Value.int .i64 n3, Value.int .i64 n4, Value.int .i64 n5] 31) = wA at *
 generalize hgx : w.heap.size = gx at *
 have GX := am hgx
 clear hgx hA
 have g2 : wA.cell? ⟨g, 2, none⟩ = some (.slice A2 l.length c2) := (kG BG.out 2).trans rfl
 obtain ⟨q0, q1, q2, q3, q4, q5⟩ := a2a BX.out
 cases rb with
 | false =>
  refine tM (n := 7) (S := fun w' => w'.cell? ⟨g, 2, none⟩ = some (.slice A2 l.length c2) ∧ w'.cell? ⟨gx, 0, none⟩ = some (.int .i64 n0) ∧ w'.cell? ⟨gx, 1, none⟩ = some (.int .i64 n1) ∧ w'.cell? ⟨gx, 2, none⟩ = some (.int .i64 n2) ∧ w'.cell? ⟨gx, 3, none⟩ = some (.int .i64 n3) ∧ w'.cell? ⟨gx, 4, none⟩ = some (.int .i64 n4) ∧ w'.cell? ⟨gx, 5, none⟩ = some (.int .i64 n5)) (ds := []) #[false, false, false, false, false, false, false] (by kernel_rfl) rfl rfl ⟨g2, q0, q1, q2, q3, q4, q5⟩ (fun hHeld => ?_)
  refine pS (i := 0) (N := some 10) #[true, false, false, false, false, false, false] ?_
  refine pS (i := 1) (N := some 11) #[true, true, false, false, false, false, false] ?_
  refine pS (i := 2) (N := some 12) #[true, true, true, false, false, false, false] ?_
  refine qF (i := 3) (N := some 13) (v := ?_) (a' := ?_) #[true, true, true, true, false, false, false] rfl rfl (by kernel_rfl) (fun _ _ _ h => h) (Or.inl ⟨by rfl, ?_⟩) hHeld ?_ ?_
  rotate_left
  ·rintro w' ⟨s0, s1, s2, s3, s4, s5, s6⟩
   go_simp
   with_reducible rfl
  rotate_left
  ·exact a1m
  refine qF (i := 4) (N := some 14) (v := ?_) (a' := ?_) #[true, true, true, true, true, false, false] rfl rfl (by kernel_rfl) (fun _ _ _ h => h) (Or.inl ⟨by rfl, ?_⟩) hHeld ?_ ?_
  rotate_left
  ·rintro w' ⟨s0, s1, s2, s3, s4, s5, s6⟩
   go_simp
   with_reducible rfl
  rotate_left
  ·exact a1m
  refine yN (i := 5) (N := some 15) #[true, true, true, true, true, true, false] rfl rfl (by kernel_rfl) (by decide) (fun K hK => ?_)
  refine yB Try.func73 (by kernel_rfl) rfl #[.slice A2 l.length c2, .agg #[.int .i64 n0, .int .i64 n1, .int .i64 n2, .int .i64 n3, .int .i64 n4, .int .i64 n5]] (by rfl) rfl rfl (by simp only [List.map_toArray, List.map_cons, List.map_nil]; rfl) ?_
  with_reducible refine (impl_isRight.calls A2 c2 l n0 n1 n2 n3 n4 n5 false _ (Kd.C_drew (Kd.R_reads' HR.out).2.2) (Kd.R_reads' HR.out).2.1 (by rw [yF, HRB.out])).mono ?_
  rintro e w3 ⟨rfl, hb⟩
  refine ⟨_, rfl, ?_⟩
  have hB3 : Below wA.heap.size wA w3 := Below.trans (by apply kO; exact Below.refl _ _) (hb.mono (by simp))
  have BG := am (kI BG.out hB3)
  have BX := am (kI BX.out hB3)
  have HR := am (Kd.R_below HR.out hB3)
  have HB := am (HB.out.trans (hB3.mono HB.out.size))
  have HK := am (HK.out.below hB3)
  clear hB3 hb
  refine hK.out _ _ ⟨((kG BG.out 2).trans rfl), ((kG BX.out 0).trans rfl), ((kG BX.out 1).trans rfl), ((kG BX.out 2).trans rfl), ((kG BX.out 3).trans rfl), ((kG BX.out 4).trans rfl), ((kG BX.out 5).trans rfl)⟩ (fun hHeld => ?_)
  clear hK K
  refine rO (a' := ?_) ?_ ?_
  rotate_left
  ·show Act.put _ (some 15) _ = _
   exact a1m
  refine pS (i := 6) (N := some 16) #[true, true, true, true, true, true, true] ?_
  refine yK (by kernel_rfl) ?_
  go_wp2_with fail
  refine (impl_termReader_fails.calls g s a l code bad 3 frm 0 false s a 3 frm w0 w3 ⟨A2, c2, BG.out, G0.out, rfl, rfl⟩ HB.out rfl).mono ?_
  rintro e w4 ⟨rfl, hi, hb, hk⟩
  have h1 := HH.out
  unfold a1j at h1
  rw [if_neg (by rw [HRB.out]; decide)] at h1
  simp only [Prod.mk.injEq] at h1
  obtain ⟨⟨rfl, rfl⟩, rfl, rfl, rfl⟩ := h1
  have a5 := am hi; have HB4 := am hb; have a2 := am hk
  clear hi hb hk hHeld g2 q0 q1 q2 q3 q4 q5
  exact c1a
 | true =>
  refine tM (n := 7) (S := fun w' => w'.cell? ⟨g, 2, none⟩ = some (.slice A2 l.length c2) ∧ w'.cell? ⟨gx, 0, none⟩ = some (.int .i64 n0) ∧ w'.cell? ⟨gx, 1, none⟩ = some (.int .i64 n1) ∧ w'.cell? ⟨gx, 2, none⟩ = some (.int .i64 n2) ∧ w'.cell? ⟨gx, 3, none⟩ = some (.int .i64 n3) ∧ w'.cell? ⟨gx, 4, none⟩ = some (.int .i64 n4) ∧ w'.cell? ⟨gx, 5, none⟩ = some (.int .i64 n5)) (ds := []) #[false, false, false, false, false, false, false] (by kernel_rfl) rfl rfl ⟨g2, q0, q1, q2, q3, q4, q5⟩ (fun hHeld => ?_)
  refine pS (i := 0) (N := some 10) #[true, false, false, false, false, false, false] ?_
  refine pS (i := 1) (N := some 11) #[true, true, false, false, false, false, false] ?_
  refine pS (i := 2) (N := some 12) #[true, true, true, false, false, false, false] ?_
  refine qF (i := 3) (N := some 13) (v := ?_) (a' := ?_) #[true, true, true, true, false, false, false] rfl rfl (by kernel_rfl) (fun _ _ _ h => h) (Or.inl ⟨by rfl, ?_⟩) hHeld ?_ ?_
  rotate_left
  ·rintro w' ⟨s0, s1, s2, s3, s4, s5, s6⟩
   go_simp
   with_reducible rfl
  rotate_left
  ·exact a1m
  refine qF (i := 4) (N := some 14) (v := ?_) (a' := ?_) #[true, true, true, true, true, false, false] rfl rfl (by kernel_rfl) (fun _ _ _ h => h) (Or.inl ⟨by rfl, ?_⟩) hHeld ?_ ?_
  rotate_left
  ·rintro w' ⟨s0, s1, s2, s3, s4, s5, s6⟩
   go_simp
   with_reducible rfl
  rotate_left
  ·exact a1m
  refine yN (i := 5) (N := some 15) #[true, true, true, true, true, true, false] rfl rfl (by kernel_rfl) (by decide) (fun K hK => ?_)
  refine yB Try.func73 (by kernel_rfl) rfl #[.slice A2 l.length c2, .agg #[.int .i64 n0, .int .i64 n1, .int .i64 n2, .int .i64 n3, .int .i64 n4, .int .i64 n5]] (by rfl) rfl rfl (by simp only [List.map_toArray, List.map_cons, List.map_nil]; rfl) ?_
  with_reducible refine (impl_isRight.calls A2 c2 l n0 n1 n2 n3 n4 n5 true _ (Kd.C_drew (Kd.R_reads' HR.out).2.2) (Kd.R_reads' HR.out).2.1 (by rw [yF, HRB.out])).mono ?_
  rintro e w3 ⟨rfl, hb⟩
  refine ⟨_, rfl, ?_⟩
  have hB3 : Below wA.heap.size wA w3 := Below.trans (by apply kO; exact Below.refl _ _) (hb.mono (by simp))
  have BG := am (kI BG.out hB3)
  have BX := am (kI BX.out hB3)
  have HR := am (Kd.R_below HR.out hB3)
  have HB := am (HB.out.trans (hB3.mono HB.out.size))
  have HK := am (HK.out.below hB3)
  clear hB3 hb
  refine hK.out _ _ ⟨((kG BG.out 2).trans rfl), ((kG BX.out 0).trans rfl), ((kG BX.out 1).trans rfl), ((kG BX.out 2).trans rfl), ((kG BX.out 3).trans rfl), ((kG BX.out 4).trans rfl), ((kG BX.out 5).trans rfl)⟩ (fun hHeld => ?_)
  clear hK K
  refine rO (a' := ?_) ?_ ?_
  rotate_left
  ·show Act.put _ (some 15) _ = _
   exact a1m
  refine pS (i := 6) (N := some 16) #[true, true, true, true, true, true, true] ?_
  refine yK (by kernel_rfl) ?_
  clear hHeld g2 q0 q1 q2 q3 q4 q5
  have g2 : w3.cell? ⟨g, 2, none⟩ = some (.slice A2 l.length c2) := (kG BG.out 2).trans rfl
  obtain ⟨res, hres⟩ : ∃ res, xY l ⟨n0, n1, n2, n3, n4, n5⟩ l.length 0 = res := ⟨_, rfl⟩
  have HRES := am hres
  have h1 := HH.out
  unfold a1j at h1
  rw [if_pos (show sM l n0 n1 n2 n3 n4 n5 = true from HRB.out), hres] at h1
  have HH := am h1
  clear hres h1
  go_wp2_with fail
  clear g2
  go_loopg [8, 9, 27] l.length (fun gk u8 u9 u27 w' => ∃ i : Nat, u27 = .int .i64 (i : Int) ∧ Aside0 (gk + i = l.length) ∧ Aside0 (xY l ⟨n0, n1, n2, n3, n4, n5⟩ gk i = res) ∧ Aside0 (w'.heap[g]? = some (.cells #[.string s, .int .i64 a, .slice A2 l.length c2, .int .i64 code, .int .i64 bad] 84 (0, 0))) ∧ Aside0 (w'.heap[gx]? = some (.cells #[Value.int .i64 n0, Value.int .i64 n1, Value.int .i64 n2, Value.int .i64 n3, Value.int .i64 n4, Value.int .i64 n5] 31 (0, 0))) ∧ Aside0 (Kd.R k31 31 w' w0.heap.size (fun k => k ≠ g) (.slice A2 l.length c2) l) ∧ Aside0 (Below w0.heap.size w0 w') ∧ Aside0 (Kept w w' (fun k => k = g ∨ some k = (Value.slice A2 l.length c2).ownBlock)))
  case atStart => exact ⟨0, rfl, ⟨rfl⟩, HRES, BG, BX, HR, HB, HK⟩
  obtain ⟨i, rfl, HJ, HF, BG, BX, HR, HB, HK⟩ := hrel
  by_cases hi : i < l.length
  ·have p1 : (0 : Int) ≤ (i : Int) := by omega
   have p2 : (i : Int) < (l.length : Int) := by omega
   have t2 : decide ((i : Int) < (l.length : Int)) = true := decide_eq_true p2
   obtain ⟨a9, e0, y0, y1, y2, y3, y4, y5⟩ := pL (Kd.R_reads' HR.out).2.2 (i : Int) p1 p2
   rw [Int.toNat_natCast] at y0 y1 y2 y3 y4 y5
   subst e0
   obtain ⟨⟨x0, x1, x2, x3, x4, x5⟩, hnd⟩ : ∃ n, kA l (i : Int) = n := ⟨_, rfl⟩
   obtain ⟨g2, rfl⟩ : ∃ g2, gk = g2 + 1 := ⟨gk - 1, by have := HJ.out; omega⟩
   obtain ⟨sb, hsb⟩ : ∃ sb, (x0 == n0 && (x1 == n1 && (x2 == n2 && (x3 == n3 && (x4 == n4 && (x5 == n5)))))) = sb := ⟨_, rfl⟩
   have hh := HF.out
   unfold xY b3n at hh
   rw [hnd] at hh y0 y1 y2 y3 y4 y5
   simp only [] at hh y0 y1 y2 y3 y4 y5
   rw [hsb] at hh
   have HF := am hh
   clear hnd hh
   have BM := am (heap_alloc_new wr (Obj.cells #[Value.int .i64 x0, Value.int .i64 x1, Value.int .i64 x2, Value.int .i64 x3, Value.int .i64 x4, Value.int .i64 x5] 31))
   have hA2 := kS (Below.refl wr.heap.size wr) (Obj.cells #[Value.int .i64 x0, Value.int .i64 x1, Value.int .i64 x2, Value.int .i64 x3, Value.int .i64 x4, Value.int .i64 x5] 31)
   have BG := am (kI BG.out hA2); have BX := am (kI BX.out hA2); have HR := am (Kd.R_below HR.out hA2); have HB := am (HB.out.trans (hA2.mono HB.out.size)); have HK := am (HK.out.below hA2)
   clear hA2
   obtain ⟨q0, q1, q2, q3, q4, q5⟩ := a2a BM.out
   obtain ⟨z0, z1, z2, z3, z4, z5⟩ := a2a BX.out
   cases sb with
   | true =>
    have hn := HF.out
    rw [if_pos rfl] at hn
    have HN := am hn
    clear hn HF
    go_wp2_with fail
    have h1 := HH.out
    rw [← HN.out] at h1
    simp only [Prod.mk.injEq] at h1
    obtain ⟨⟨rfl, rfl⟩, rfl, rfl, rfl⟩ := h1
    refine bodyPost_ret (pG (rs := [.tmp 6, .tmp 7]) rfl (by simp) (.tmp (.tmp .nil))) rfl ?_
    exact ⟨rfl, ⟨_, c2, ⟨⟨_, c2, BG.out, G0.out, rfl, rfl⟩, HR.out, HB.out⟩, fun k e => .inl e.symm⟩, HK.out⟩
   | false =>
    have hn := HF.out
    rw [if_neg (by decide)] at hn
    have HN := am hn
    clear hn HF
    go_wp2_with fail
    go_roundg g2
    case measure => omega
    case rel => exact ⟨i + 1, by rw [show wrap64 ((i : Int) + 1) = ((i + 1 : Nat) : Int) by have := HL.out; unfold wrap64; omega], ⟨by have := HJ.out; omega⟩, HN, BG, BX, HR, HB, HK⟩
  obtain rfl : i = l.length := by have := HJ.out; omega
  have hgk : gk = 0 := by have := HJ.out; omega
  subst hgk
  have t2 : decide ((l.length : Int) < (l.length : Int)) = false := decide_eq_false oM
  have hh := HF.out
  unfold xY at hh
  have h1 := HH.out
  rw [← hh] at h1
  simp only [] at h1
  have HH := am h1
  clear hh h1 HF
  have g2 : wr.cell? ⟨g, 2, none⟩ = some (.slice A2 l.length c2) := (kG BG.out 2).trans rfl
  by_cases a0 : l.length = 80
  ·have t3 : ((l.length : Int) == 80) = true := beq_iff_eq.mpr oM
   have h1 := HH.out
   rw [if_pos a0] at h1
   simp only [Prod.mk.injEq] at h1
   obtain ⟨⟨rfl, rfl⟩, rfl, rfl, rfl⟩ := h1
   clear a0
   go_wp2_with fail
   refine (impl_termReader_fails.calls g s a l code bad 4 frm 0 false s a 4 frm w0 wr ⟨A2, c2, BG.out, G0.out, rfl, rfl⟩ HB.out rfl).mono ?_
   rintro e w4 ⟨rfl, hi, hb, hk⟩
   have a5 := am hi; have HB4 := am hb; have a2 := am hk
   clear hi hb hk g2
   exact c1a
  have t3 : ((l.length : Int) == 80) = false := beq_eq_false_iff_ne.mpr oM
  have h1 := HH.out
  rw [if_neg a0] at h1
  simp only [Prod.mk.injEq] at h1
  obtain ⟨⟨rfl, rfl⟩, rfl, rfl, rfl⟩ := h1
  have H80 := am a0
  clear a0
  go_wp2_with fail
  refine tM (n := 11) (S := fun w' => w'.cell? ⟨g, 2, none⟩ = some (.slice A2 l.length c2) ∧ w'.cell? ⟨gx, 0, none⟩ = some (.int .i64 n0) ∧ w'.cell? ⟨gx, 1, none⟩ = some (.int .i64 n1) ∧ w'.cell? ⟨gx, 2, none⟩ = some (.int .i64 n2) ∧ w'.cell? ⟨gx, 3, none⟩ = some (.int .i64 n3) ∧ w'.cell? ⟨gx, 4, none⟩ = some (.int .i64 n4) ∧ w'.cell? ⟨gx, 5, none⟩ = some (.int .i64 n5)) (ds := [10]) c9a (by kernel_rfl) rfl rfl ⟨((kG BG.out 2).trans rfl), ((kG BX.out 0).trans rfl), ((kG BX.out 1).trans rfl), ((kG BX.out 2).trans rfl), ((kG BX.out 3).trans rfl), ((kG BX.out 4).trans rfl), ((kG BX.out 5).trans rfl)⟩ (fun hHeld => ?_)
  refine pS (i := 0) (N := some 48) c8v ?_
  refine pS (i := 1) (N := some 49) c8q ?_
  refine pS (i := 2) (N := some 50) c8l ?_
  refine pS (i := 3) (N := some 51) c8g ?_
  refine qF (i := 4) (N := some 52) (v := ?_) (a' := ?_) c8b rfl rfl (by kernel_rfl) (fun _ _ _ h => h) (Or.inl ⟨by rfl, ?_⟩) hHeld ?_ ?_
  rotate_left
  ·rintro w' ⟨s0, s1, s2, s3, s4, s5, s6⟩
   go_simp
   with_reducible rfl
  rotate_left
  ·exact a1m
  refine qF (i := 5) (N := some 53) (v := ?_) (a' := ?_) c7w rfl rfl (by kernel_rfl) (fun _ _ _ h => h) (Or.inl ⟨by rfl, ?_⟩) hHeld ?_ ?_
  rotate_left
  ·rintro w' ⟨s0, s1, s2, s3, s4, s5, s6⟩
   go_simp
   with_reducible rfl
  rotate_left
  ·exact a1m
  refine yN (i := 6) (N := some 54) c7s rfl rfl (by kernel_rfl) (by decide) (fun K hK => ?_)
  refine Kd.R_lit_step k31 _ 31 ?hg (N := 54) ?hd (xs := [(⟨n0, n1, n2, n3, n4, n5⟩ : S31)]) (inner := [.int .i64 n0, .int .i64 n1, .int .i64 n2, .int .i64 n3, .int .i64 n4, .int .i64 n5]) (ok := fun _ => True) (okp := fun _ => True) ?hr ?hp (fun _ hk => hk) trivial (Below.refl _ _) (Nat.le_refl _) (by simp) ?_
  (case hd => rfl)
  (case hg => rfl)
  (case hr => (go_simp; done))
  (case hp => exact (xV (show Kd.M k31 _ _ _ (⟨n0, n1, n2, n3, n4, n5⟩ : S31) [.int .i64 n0, .int .i64 n1, .int .i64 n2, .int .i64 n3, .int .i64 n4, .int .i64 n5] from (vK _ _ _ (⟨n0, n1, n2, n3, n4, n5⟩ : S31))) (Reps.none _ _)))
  intro a8 w5 a4 hb5 hg5_ hnew5_
  clear hg5_ hnew5_
  have hB5 : Below wr.heap.size wr w5 := Below.trans (by apply kO; exact Below.refl _ _) (hb5.mono (by simp))
  have BG := am (kI BG.out hB5)
  have BX := am (kI BX.out hB5)
  have HR := am (Kd.R_below HR.out hB5)
  have HB := am (HB.out.trans (hB5.mono HB.out.size))
  have HK := am (HK.out.below hB5)
  have HL5 := am a4
  clear hB5 hb5 a4
  obtain ⟨A5, c5, rfl⟩ := Kd.R_slice HL5.out
  refine hK.out _ _ ⟨((kG BG.out 2).trans rfl), ((kG BX.out 0).trans rfl), ((kG BX.out 1).trans rfl), ((kG BX.out 2).trans rfl), ((kG BX.out 3).trans rfl), ((kG BX.out 4).trans rfl), ((kG BX.out 5).trans rfl)⟩ (fun hHeld => ?_)
  clear hK K
  refine rO (a' := ?_) ?_ ?_
  rotate_left
  ·show Act.put _ (some 54) _ = _
   exact a1m
  refine yN (i := 7) (N := some 55) c7n rfl rfl (by kernel_rfl) (by decide) (fun K hK => ?_)
  refine Kd.R_append_rows_step k31 (w0 := w0) w0.heap.size (by rfl) (.tmp 52) (.tmp 54) 24 31 (.agg #[(.int .i64 0), (.int .i64 0), (.int .i64 0), (.int .i64 0), (.int .i64 0), (.int .i64 0)]) 48 rfl Try.underlying24 yI rfl (by decide) oM (.slice A2 l.length c2) l [(⟨n0, n1, n2, n3, n4, n5⟩ : S31)] _ _ _ (fun k => k ≠ g) (fun _ => False) rfl rfl ?aO ?aR (fun _ _ h => h) (fun _ h => h.elim) ?aF ?aB ?aS ?aL ?_
  (case aR => exact (Kd.R_reads' HL5.out).2.2)
  (case aB => exact HB.out)
  (case aF => exact (fun k hk => by have := sO BG.out; omega))
  (case aO => exact HR.out)
  (case aS => exact (kJ HB.out))
  (case aL => (have := HL.out; simp; omega))
  intro a7 w6 a3 hb6 hg6 hat6
  have HKS := am (show w.heap.size ≤ w5.heap.size from HK.out.1)
  have hne : some g ≠ (Value.slice A2 l.length c2).ownBlock := fun e => (HR.out.1 g e.symm) rfl
  have BX := am (tV BX.out hg6 (fun e => by have := HNX.out gx e.symm; omega))
  have BG := am (tV BG.out hg6 hne)
  have HK := am (tD (S := fun k => k = g ∨ some k = (Value.slice A2 l.length c2).ownBlock) hg6 HK.out (fun k e => .inl (.inr (by exact e.symm))))
  have HB := am hb6
  have a1 := am a3
  have HAT := am hat6
  clear a3 hb6 hg6 hat6 hne
  obtain ⟨A6, c6, rfl⟩ := Kd.R_slice a1.out
  have hfz := kE BG.out 2
  refine hK.out _ _ ⟨((kG BG.out 2).trans rfl), ((kG BX.out 0).trans rfl), ((kG BX.out 1).trans rfl), ((kG BX.out 2).trans rfl), ((kG BX.out 3).trans rfl), ((kG BX.out 4).trans rfl), ((kG BX.out 5).trans rfl)⟩ (fun hHeld => ?_)
  clear hK K
  refine rO (a' := ?_) ?_ ?_
  rotate_left
  ·show Act.put _ (some 55) _ = _
   exact a1m
  refine pS (i := 8) (N := some 56) c7i ?_
  refine pS (i := 9) (N := some 57) c3s ?_
  refine b3x (i := 10) (N := none) c3p rfl rfl (by kernel_rfl) (by decide) (fun K hK => ?_)
  refine a3w (w1 := ?_) (by rfl) rfl ?_ ?_
  rotate_left
  ·go_simp
   rfl
  refine hK.out _ _ ?_
  clear hK K
  refine yK (by kernel_rfl) ?_
  have hb7 : (w6.setCell ⟨g, 2, none⟩ (.slice A6 (l.length + 1) c6)).heap[g]? = some (.cells #[.string s, .int .i64 a, .slice A6 (l.length + 1) c6, .int .i64 code, .int .i64 bad] 84 (0, 0)) := by simpa using qM BG.out 2 (.slice A6 (l.length + 1) c6)
  have BG := am hb7
  have HB := am (show Below w0.heap.size w0 (w6.setCell ⟨g, 2, none⟩ (.slice A6 (l.length + 1) c6)) from kZ HB.out G0.out)
  have HK := am (Kept.setCell HK.out (p := ⟨g, 2, none⟩) (.inl (.inl rfl)) (.slice A6 (l.length + 1) c6))
  have HR := am (Kd.R_mono (Kd.R_far (p := ⟨g, 2, none⟩) (Kd.R_mono a1.out (fun _ h => (⟨h, h⟩ : _ ∧ _ ≠ g))) (fun _ hk => hk.2) (.slice A6 (l.length + 1) c6)) (fun _ h => h.1))
  clear hb7 a1 hfz g2
  generalize w6.setCell ⟨g, 2, none⟩ (.slice A6 (l.length + 1) c6) = w7 at *
  have g2 : w7.cell? ⟨g, 2, none⟩ = some (.slice A6 (l.length + 1) c6) := (kG BG.out 2).trans rfl
  go_wp2_with fail
  refine bodyPost_ret (pG (rs := [.tmp 6, .tmp 7]) rfl (by simp) (.tmp (.tmp .nil))) rfl ?_
  refine ⟨?_, ⟨A6, c6, ⟨⟨A6, c6, ?_, G0.out, rfl, rfl⟩, ?_, HB.out⟩, fun k e => ?_⟩, HK.out⟩
  ·(have := HL.out; simp; unfold wrap64; omega)
  ·have := BG.out; simpa using this
  ·exact HR.out
  rcases HAT.out with h | ⟨b, h1, h2⟩
  ·exact .inl (e.symm.trans h)
  rw [h1] at e
  have := HKS.out
  obtain rfl := oI e
  exact .inr (Nat.le_trans this h2)
variable {Ax : Option Addr} {cx : Nat}
def pI : Nat → Int → ByteArray → Int → List (S31) → Int → Int → Option (ByteArray × ByteArray × Int × Int × Int)
 | 0, _, _, _, _, _, _ => none
 | k + 1, x3, a1, a0, a4, a3, a2 => if a0 < (a1.size : Int) then (if 0 ≤ a0 then ((yJ (bt a1 a0)).bind fun a5 => (if a5 = true then (if 0 ≤ x3 then (if x3 ≤ a0 then (if a0 ≤ (a1.size : Int) then (some (a1.extract (x3 : Int).toNat (a0 : Int).toNat, a1, a0, a3, a2)) else (none)) else (none)) else (none)) else (pI k x3 a1 (wrap64 (a0 + 1)) a4 a3 a2))) else (none)) else (if 0 ≤ x3 then (if x3 ≤ a0 then (if a0 ≤ (a1.size : Int) then (some (a1.extract (x3 : Int).toNat (a0 : Int).toNat, a1, a0, a3, a2)) else (none)) else (none)) else (none))
def sQ (k : Nat) (a4 : ByteArray) (a0 : Int) (a3 : List (S31)) (a2 : Int) (a1 : Int) : Option (ByteArray × ByteArray × Int × Int × Int) := pI k a0 a4 a0 a3 a2 a1
theorem c0w {P : Prop} (h : P := by
 exact ⟨rfl, by repeat (first | (with_reducible first | exact HI0.out | apply IsS84.alloc | apply IsS84.drewN | apply IsS84.drew | apply qB | apply pU | apply qA | apply pZ) | exact HI0.out), zX, kB⟩) : P := h
theorem impl_termReader_word.calls (k g : Nat) (a1 : ByteArray) (a5 : Int) (a2 : List (S31)) (a4 a3 : Int) (r1 r2 : ByteArray) (r3 r4 r5 : Int) (w0 w : World) (hI : IsS84 Ax cx w0 w g a1 a5 a2 a4 a3) (hB : Below w0.heap.size w0 w) (h : sQ k a1 a5 a2 a4 a3 = some (r1, r2, r3, r4, r5)) :
  Calls Try.prog 90 #[.pointer (some ⟨g, 0, none⟩)] w fun e w' => e = .returned (.string r1) ∧ IsS84 Ax cx w0 w' g r2 r3 a2 r4 r5 ∧ Below w0.heap.size w0 w' ∧ KeepBut w w' g none := by
 have HI0 := am hI
 have HK := am (KeepBut.refl w g none)
 have HL := am hB.size
 clear hI
 have HW0 := am hB.size
 have HB := am hB
 clear hB
 have H := h
 clear h
 unfold sQ at H
 replace H := am H
 obtain ⟨ASz2_2, cSz2_2, HGz2, hgz2, HSz2_2⟩ := HI0.out
 have aE := wM HGz2
 have aD := wL HGz2
 have aC := wK HGz2
 have aB := wJ HGz2
 have aA := wI HGz2
 have a9 := kE HGz2 0
 have a8 := kE HGz2 1
 have a7 := kE HGz2 3
 have a6 := kE HGz2 4
 clear HGz2 hgz2
 go_enter Try.func90, Try.ntmps90
 go_wp2
 repeat (go_quiet (fail); try go_wp2)
 go_loopg [] k (fun kq w' => ∃ (a0 : Int), Aside0 (pI kq a5 a1 a0 a2 a4 a3 = some (r1, r2, r3, r4, r5)) ∧ Aside0 (kq ≤ k) ∧ Aside0 (IsS84 Ax cx w0 w' g a1 a0 a2 a4 a3) ∧ Aside0 (KeepBut w w' g none) ∧ Aside0 (Below w0.heap.size w0 w'))
 case atStart => exact ⟨a5, H, ⟨Nat.le_refl _⟩, ⟨by repeat (first | (with_reducible first | exact HI0.out | apply IsS84.alloc | apply IsS84.drewN | apply IsS84.drew | apply qB | apply pU | apply qA | apply pZ) | exact HI0.out)⟩, ⟨kB⟩, ⟨zX⟩⟩
 clear H
 clear aE aD aC aB aA a9 a8 a7 a6
 obtain ⟨a0, HA, aF, HI0, HK, HB⟩ := hrel
 cases gk with
 | zero => cases HA.out
 | succ k1 =>
  obtain ⟨H⟩ := HA
  simp only [pI] at H
  replace H := iD H; rcases H with ⟨aG, H⟩ | ⟨aG, H⟩
  rotate_left
  ·replace H := iTD H; obtain ⟨bE, bD, H⟩ := H
   replace H := iTD H; obtain ⟨bC, bB, H⟩ := H
   replace H := iTD H; obtain ⟨bA, b9, H⟩ := H
   simp only [Option.some.injEq, Prod.mk.injEq] at H
   obtain ⟨rfl, rfl, rfl, rfl, rfl⟩ := H
   obtain ⟨ASz16_2, cSz16_2, HGz16, hgz16, HSz16_2⟩ := HI0.out
   have aY := wM HGz16
   have aX := wL HGz16
   have aW := wK HGz16
   have aV := wJ HGz16
   have aU := wI HGz16
   have aK := kE HGz16 0
   have aJ := kE HGz16 1
   have aI := kE HGz16 3
   have aH := kE HGz16 4
   clear HGz16 hgz16
   go_wp2
   repeat (go_quiet (fail); try go_wp2)
   go_ret
   exact c0w
  replace H := iN H; obtain ⟨bM, H⟩ := H
  replace H := oA H; obtain ⟨bH, A6, H⟩ := H
  replace H := iB H; rcases H with ⟨rfl, H⟩ | ⟨rfl, H⟩
  ·replace H := iTD H; obtain ⟨bL, bK, H⟩ := H
   replace H := iTD H; obtain ⟨bJ, bI, H⟩ := H
   replace H := iTD H; obtain ⟨bG, bF, H⟩ := H
   simp only [Option.some.injEq, Prod.mk.injEq] at H
   obtain ⟨rfl, rfl, rfl, rfl, rfl⟩ := H
   obtain ⟨ASz11_2, cSz11_2, HGz11, hgz11, HSz11_2⟩ := HI0.out
   have b7 := wM HGz11
   have b6 := wL HGz11
   have b5 := wK HGz11
   have b4 := wJ HGz11
   have b3 := wI HGz11
   have aT := kE HGz11 0
   have aS := kE HGz11 1
   have aR := kE HGz11 3
   have aQ := kE HGz11 4
   clear HGz11 hgz11
   have p5 : 0 ≤ (a0 : Int) := oD (by assumption)
   have q5 : a0 < (a1.size : Int) := oD (by assumption)
   have b8 := xG a1 a0
   replace p5 := eq_true p5
   replace q5 := eq_true q5
   go_wp2_with (first | (go_at_call 122; refine cD (impl_isEnd.calls A6.out) fun nd => ?_; (try exact dq)))
   repeat (go_quiet (first | (go_at_call 122; refine cD (impl_isEnd.calls A6.out) fun nd => ?_; (try exact dq))); try go_wp2_with (first | (go_at_call 122; refine cD (impl_isEnd.calls A6.out) fun nd => ?_; (try exact dq))))
   go_ret
   exact c0w
  replace H := am H
  obtain ⟨ASz12_2, cSz12_2, HGz12, hgz12, HSz12_2⟩ := HI0.out
  have b2 := wM HGz12
  have b1 := wL HGz12
  have b0 := wK HGz12
  have a_ := wJ HGz12
  have aZ := wI HGz12
  have aO := kE HGz12 0
  have aN := kE HGz12 1
  have aM := kE HGz12 3
  have aL := kE HGz12 4
  clear HGz12 hgz12
  have p5 : 0 ≤ (a0 : Int) := oD (by assumption)
  have q5 : a0 < (a1.size : Int) := oD (by assumption)
  have b8 := xG a1 a0
  replace p5 := eq_true p5
  replace q5 := eq_true q5
  go_wp2_with (first | (go_at_call 122; refine cD (impl_isEnd.calls A6.out) fun nd => ?_; (try exact dq)))
  repeat (go_quiet (first | (go_at_call 122; refine cD (impl_isEnd.calls A6.out) fun nd => ?_; (try exact dq))); try go_wp2_with (first | (go_at_call 122; refine cD (impl_isEnd.calls A6.out) fun nd => ?_; (try exact dq))))
  go_roundg k1
  case measure => have := aF.out; omega
  case rel => exact ⟨(wrap64 (a0 + 1)), H, ⟨by have := aF.out; omega⟩, ⟨by repeat (first | (with_reducible first | exact HI0.out | apply IsS84.alloc | apply IsS84.drewN | apply IsS84.drew | apply qB | apply pU | apply qA | apply pZ) | exact HI0.out)⟩, ⟨kB⟩, ⟨zX⟩⟩
variable {Ax : Option Addr} {cx : Nat}
theorem b4c {s : ByteArray} {a : Int} {l : List (S31)} {c b x : Int} {r1 : Bool} {r2 : ByteArray} {r3 r4 r5 : Int} (h : qZ s a l c b x = some (r1, r2, r3, r4, r5)) : r2 = s ∧ r4 = c ∧ r5 = b := by
 unfold qZ at h
 split at h
 ·simp only [Option.some.injEq, Prod.mk.injEq] at h; exact ⟨h.2.1.symm, h.2.2.2.1.symm, h.2.2.2.2.symm⟩
 ·split at h
  ·split at h
   ·split at h
    ·simp only [Option.some.injEq, Prod.mk.injEq] at h; exact ⟨h.2.1.symm, h.2.2.2.1.symm, h.2.2.2.2.symm⟩
    ·simp only [Option.some.injEq, Prod.mk.injEq] at h; exact ⟨h.2.1.symm, h.2.2.2.1.symm, h.2.2.2.2.symm⟩
   ·exact absurd h (by simp)
  ·exact absurd h (by simp)
theorem b1h {s : ByteArray} {l : List (S31)} {c b : Int} {r1 r2 : ByteArray} {r3 r4 r5 : Int} {x : Int} (k : Nat) : ∀ a : Int, pI k x s a l c b = some (r1, r2, r3, r4, r5) → r2 = s ∧ r4 = c ∧ r5 = b := by
 induction k with
 | zero => intro a h; simp [pI] at h
 | succ k ih =>
  intro a h
  simp only [pI] at h
  split at h
  ·split at h
   ·obtain ⟨t, _, h⟩ := oB h
    split at h
    ·split at h
     ·split at h
      ·split at h
       ·simp only [Option.some.injEq, Prod.mk.injEq] at h; exact ⟨h.2.1.symm, h.2.2.2.1.symm, h.2.2.2.2.symm⟩
       ·exact absurd h (by simp)
      ·exact absurd h (by simp)
     ·exact absurd h (by simp)
    ·exact ih _ h
   ·exact absurd h (by simp)
  ·split at h
   ·split at h
    ·split at h
     ·simp only [Option.some.injEq, Prod.mk.injEq] at h; exact ⟨h.2.1.symm, h.2.2.2.1.symm, h.2.2.2.2.symm⟩
     ·exact absurd h (by simp)
    ·exact absurd h (by simp)
   ·exact absurd h (by simp)
def goF (s : ByteArray) (a : Int) (l : List (S31)) (c b x : Int) : Option (Bool × Int) := (qZ s a l c b x).map fun r => (r.1, r.2.2.1)
def wF (k : Nat) (s : ByteArray) (a : Int) (l : List (S31)) (c b : Int) : Option (ByteArray × Int) := (sQ k s a l c b).map fun r => (r.1, r.2.2.1)
theorem b1u (g : Nat) (s : ByteArray) (a : Int) (l : List (S31)) (c b x : Int) (r : Bool) (a' : Int) (w0 w : World) (hI : IsS84 Ax cx w0 w g s a l c b) (hB : Below w0.heap.size w0 w) (h : goF s a l c b x = some (r, a')) :
  Calls Try.prog 89 #[.pointer (some ⟨g, 0, none⟩), .int .u8 x] w fun e w' => e = .returned (.bool r) ∧ IsS84 Ax cx w0 w' g s a' l c b ∧ Below w0.heap.size w0 w' ∧ KeepBut w w' g none := by
 obtain ⟨⟨r1, r2, r3, r4, r5⟩, h1, h2⟩ := Option.map_eq_some_iff.mp h
 simp only [Prod.mk.injEq] at h2
 obtain ⟨rfl, rfl⟩ := h2
 obtain ⟨e1, e2, e3⟩ := b4c h1
 subst e1 e2 e3
 exact impl_termReader_goes.calls g _ a l _ _ x r1 _ r3 _ _ w0 w hI hB h1
theorem b6a (k g : Nat) (s : ByteArray) (a : Int) (l : List (S31)) (c b : Int) (r : ByteArray) (a' : Int) (w0 w : World) (hI : IsS84 Ax cx w0 w g s a l c b) (hB : Below w0.heap.size w0 w) (h : wF k s a l c b = some (r, a')) :
  Calls Try.prog 90 #[.pointer (some ⟨g, 0, none⟩)] w fun e w' => e = .returned (.string r) ∧ IsS84 Ax cx w0 w' g s a' l c b ∧ Below w0.heap.size w0 w' ∧ KeepBut w w' g none := by
 obtain ⟨⟨r1, r2, r3, r4, r5⟩, h1, h2⟩ := Option.map_eq_some_iff.mp h
 simp only [Prod.mk.injEq] at h2
 obtain ⟨rfl, rfl⟩ := h2
 have a0 := h1
 unfold sQ at a0
 obtain ⟨e1, e2, e3⟩ := b1h k _ a0
 subst e1 e2 e3
 exact impl_termReader_word.calls k g _ a l _ _ r1 _ r3 _ _ w0 w hI hB h1
mutual
def qY : Nat → ByteArray → Bool → Option (Int × Bool)
 | 0, _, _ => none
 | k + 1, x0, a2 => if a2 = true then (some (0, false)) else (sF k x0 0 (x0.size : Int) 0)
def sF : Nat → ByteArray → Int → Int → Int → Option (Int × Bool)
 | 0, _, _, _, _ => none
 | k + 1, x0, x4, a1, a0 => if a0 < a1 then (if 0 ≤ a0 then (if a0 < (x0.size : Int) then (if (bt x0 a0) < 48 then (some (0, false)) else (if (bt x0 a0) > 57 then (some (0, false)) else (sF k x0 (wrap64 ((wrap64 (10 * x4)) + (((bt x0 a0) - 48) % 256))) a1 (wrap64 (a0 + 1))))) else (none)) else (none)) else (some (x4, true))
end
def qL (k : Nat) (a0 : ByteArray) : Option (Int × Bool) := (qN (a0.size : Int) 1 9).bind fun a1 => (if a1 = true then (if (a0.size : Int) > 1 then (if 0 < (a0.size : Int) then (qY k a0 ((bt a0 0) == 48)) else (none)) else (qY k a0 false)) else (qY k a0 true))
theorem c0u {P : Prop} (h : P := by
 simp only [Option.some.injEq, Prod.mk.injEq] at H
 obtain ⟨rfl, rfl⟩ := H
 go_wp2
 go_ret2
 exact ⟨rfl, dR⟩) : P := h
theorem impl_readNumber.calls (k : Nat) (a0 : ByteArray) (r1 : Int) (r2 : Bool) (w : World) (h : qL k a0 = some (r1, r2)) :
  Calls Try.prog 123 #[.string a0] w fun e w' => e = .returned (.tuple #[.int .i64 r1, .bool r2]) ∧ Drawn0 w w' := by
 have H := h
 clear h
 unfold qL at H
 have aA := am H; clear H
 go_enter Try.func123, Try.ntmps123
 go_upto_region 1 with (fail)
 go_cut [19] (fun aN wc => ∃ (kq : Nat) (a6 : Bool), aN = .bool a6 ∧ Aside0 (qY kq a0 a6 = some (r1, r2)) ∧ Aside0 (kq ≤ k) ∧ Drawn0 w wc)
 case first =>
  have H := aA.out
  clear aA
  replace H := oA H; obtain ⟨aR, A3, H⟩ := H
  replace H := iB H; rcases H with ⟨rfl, H⟩ | ⟨rfl, H⟩
  rotate_left
  ·replace H := am H
   go_wp2_with (first | ((with_reducible refine gW ?_); first | (refine gD (some 8) Try.func72 rfl (impl_within.calls A3.out) fun nd => ?_)))
   go_meet
   case rel => exact ⟨_, true, rfl, H, ⟨oM⟩, dR⟩
  by_cases c5 : (a0.size : Int) > 1
  ·rw [if_pos c5] at H
   have aL : decide (1 < (a0.size : Int)) = true := decide_eq_true c5
   have aK : decide (1 < a0.size) = true := decide_eq_true oM
   clear c5
   replace H := iP H; obtain ⟨c6, H⟩ := H
   have aU : decide (0 < (a0.size : Int)) = true := decide_eq_true c6
   have aT : decide (0 < a0.size) = true := decide_eq_true oM
   clear c6
   replace H := am H
   go_wp2_with (first | ((with_reducible refine gW ?_); first | (refine gD (some 8) Try.func72 rfl (impl_within.calls A3.out) fun nd => ?_; have p7 : 0 ≤ (0 : Int) := oM; have q7 : 0 < a0.size := (by have : (0 : Int) < (a0.size : Int) := oD (by assumption); omega); have aX : ∀ h : 0 < a0.size, ((a0[0]'h).toNat : Int) = bt a0 0 := xG a0 0; clear p7; have aV : (0 < (a0.size : Int)) = True := eq_true (oD (by assumption)); replace q7 := eq_true q7)))
   go_meet
   case rel => exact ⟨_, (((bt a0 0) == 48)), rfl, H, ⟨oM⟩, dR⟩
  rw [if_neg c5] at H
  have aL : decide (1 < (a0.size : Int)) = false := decide_eq_false c5
  have aK : decide (1 < a0.size) = false := decide_eq_false oM
  clear c5
  replace H := am H
  go_wp2_with (first | ((with_reducible refine gW ?_); first | (refine gD (some 8) Try.func72 rfl (impl_within.calls A3.out) fun nd => ?_)))
  go_meet
  case rel => exact ⟨_, false, rfl, H, ⟨oM⟩, dR⟩
 clear aA
 obtain ⟨kq, a6, rfl, HA, aH, ⟨aW, rfl⟩⟩ := hcut
 cases kq with
 | zero => cases HA.out
 | succ aF =>
  obtain ⟨H⟩ := HA
  simp only [qY] at H
  replace H := iB H; rcases H with ⟨rfl, H⟩ | ⟨rfl, H⟩
  ·exact c0u
  replace H := am H
  go_wp2
  go_loopg [4, 22] aF (fun kq v4 aM w' => ∃ (a5 : Int) (a1 : Int), v4 = .int .i64 a5 ∧ aM = .int .i64 a1 ∧ Aside0 (sF kq a0 a5 (a0.size : Int) a1 = some (r1, r2)) ∧ Aside0 (kq ≤ aF) ∧ Drawn0 w w')
  case atStart => exact ⟨0, 0, rfl, rfl, H, ⟨Nat.le_refl _⟩, dR⟩
  clear H
  obtain ⟨a5, a1, rfl, rfl, HA, aG, ⟨m2, rfl⟩⟩ := hrel
  cases gk with
  | zero => cases HA.out
  | succ k2 =>
   obtain ⟨H⟩ := HA
   simp only [sF] at H
   replace H := iD H; rcases H with ⟨aJ, H⟩ | ⟨aJ, H⟩
   rotate_left
   ·exact c0u
   replace H := iN H; obtain ⟨aQ, H⟩ := H
   replace H := iN H; obtain ⟨aO, H⟩ := H
   replace H := iD H; rcases H with ⟨aC, H⟩ | ⟨aC, H⟩
   ·simp only [Option.some.injEq, Prod.mk.injEq] at H
    obtain ⟨rfl, rfl⟩ := H
    have a3 : 0 ≤ (a1 : Int) := oD (by assumption)
    have a2 : a1 < (a0.size : Int) := oD (by assumption)
    have a9 := xG a0 a1
    replace a3 := eq_true a3
    replace a2 := eq_true a2
    go_wp2
    go_ret2
    exact ⟨rfl, dR⟩
   by_cases a4 : (bt a0 a1) > 57
   ·rw [if_pos a4] at H
    have aB : decide (57 < (bt a0 a1)) = true := decide_eq_true a4
    clear a4
    simp only [Option.some.injEq, Prod.mk.injEq] at H
    obtain ⟨rfl, rfl⟩ := H
    have a3 : 0 ≤ (a1 : Int) := oD (by assumption)
    have a2 : a1 < (a0.size : Int) := oD (by assumption)
    have a9 := xG a0 a1
    replace a3 := eq_true a3
    replace a2 := eq_true a2
    have a8 : 0 ≤ (a1 : Int) := oD (by assumption)
    have a7 : a1 < (a0.size : Int) := oD (by assumption)
    have aI := xG a0 a1
    replace a8 := eq_true a8
    replace a7 := eq_true a7
    go_wp2
    go_ret2
    exact ⟨rfl, dR⟩
   rw [if_neg a4] at H
   have aB : decide (57 < (bt a0 a1)) = false := decide_eq_false a4
   clear a4
   replace H := am H
   have a3 : 0 ≤ (a1 : Int) := oD (by assumption)
   have a2 : a1 < (a0.size : Int) := oD (by assumption)
   have a9 := xG a0 a1
   replace a3 := eq_true a3
   replace a2 := eq_true a2
   have a8 : 0 ≤ (a1 : Int) := oD (by assumption)
   have a7 : a1 < (a0.size : Int) := oD (by assumption)
   have aI := xG a0 a1
   replace a8 := eq_true a8
   replace a7 := eq_true a7
   have aE : 0 ≤ (a1 : Int) := oD (by assumption)
   have aD : a1 < (a0.size : Int) := oD (by assumption)
   have aS := xG a0 a1
   replace aE := eq_true aE
   replace aD := eq_true aD
   go_wp2
   go_roundg k2
   case measure => have := aH.out; have := aG.out; omega
   case rel => exact ⟨(wrap64 ((wrap64 (10 * a5)) + (((bt a0 a1) - 48) % 256))), (wrap64 (a1 + 1)), rfl, rfl, H, ⟨by have := aH.out; have := aG.out; omega⟩, dR⟩
end
end Go.Proofs.Ytkpipmojkhikaaa.PAll
