/- Written by a program of this session over the loaded program, and by hand: Go functions as plain Lean functions, and that a call comes to what they say. -/
import Derived.Test.YtkpipmojkhikaaaVText0
import Derived.Test.YtkpipmojkhikaaaVText3
import Derived.Test.YtkpipmojkhikaaaVText10
import Derived.Test.YtkpipmojkhikaaaBase
import Derived.Test.YtkpipmojkhikaaaSq
namespace Go.Proofs.Ytkpipmojkhikaaa.PAll
open Go.RowKit Go.Proofs.YtkpipmojkhikaaaW.PrintWords Go.Proofs.YtkpipmojkhikaaaW.PrintLast Go.Proofs.YtkpipmojkhikaaaW.PrintMore Go.Proofs.YtkpipmojkhikaaaW.Sq
attribute [local go_sem] sD rZ uM uL qV qU sA rY
set_option linter.unusedVariables false
set_option maxHeartbeats 8000000
set_option maxRecDepth 100000
set_option linter.unusedSimpArgs false
variable {Ax : Option Addr} {cx : Nat}
def tO : Nat → List (S31) → List ByteArray → Int → Option (ByteArray × Bool)
 | 0, _, _, _ => none
 | k + 1, x0, x4, x5 => if x5 < (x0.length : Int) then (if 0 ≤ x5 then ((wU k ((kA x0 x5).f0) ((kA x0 x5).f1) ((kA x0 x5).f2) ((kA x0 x5).f3) ((kA x0 x5).f4) ((kA x0 x5).f5) x4).bind fun a0 => (if x4.length < 8796093022208 then (tO k x0 (x4 ++ [a0]) (wrap64 (x5 + 1))) else (none))) else (none)) else (if 0 ≤ (wrap64 ((x0.length : Int) - 1)) then (if (wrap64 ((x0.length : Int) - 1)) < (x4.length : Int) then (some (vD ByteArray.empty x4 (wrap64 ((x0.length : Int) - 1)), ((vD ByteArray.empty x4 (wrap64 ((x0.length : Int) - 1))).toList != ([] : List UInt8)))) else (none)) else (none))
def uH (k : Nat) (l0 : List (S31)) : Option (ByteArray × Bool) := (uU k l0).bind fun a0 => (if a0 = true then (tO k l0 (([] : List ByteArray)) 0) else (some ((⟨#[]⟩ : ByteArray), false)))
theorem spec_ShowTerm.calls {k : Nat} {A0 : Option Addr} {c0 : Nat} {l0 : List (S31)} {r1 : ByteArray} {r2 : Bool} {w : World} (hr0 : Kd.C k31 w A0 l0.length l0) (hc0 : l0.length ≤ c0) (h : uH k l0 = some (r1, r2)) :
  Calls Try.prog 19 #[.slice A0 l0.length c0] w fun e w' => e = .returned (.tuple #[.string r1, .bool r2]) ∧ Below w.heap.size w w' := by
 have hu31 := Try.underlying31
 have a8 := am hr0
 have aI := am hc0
 clear hr0 hc0
 have HB := am (Below.refl w.heap.size w)
 have H := h
 clear h
 unfold uH at H
 replace H := oA H; obtain ⟨b5, A2, H⟩ := H
 replace H := iB H; rcases H with ⟨rfl, H⟩ | ⟨rfl, H⟩
 rotate_left
 ·simp only [Option.some.injEq, Prod.mk.injEq] at H
  obtain ⟨rfl, rfl⟩ := H
  go_enter Try.func19, Try.ntmps19
  go_wp2_with (first | ((with_reducible refine gW ?_); first | (refine gC 13 (some 8) Try.func13 #[.slice A0 l0.length c0] ?_; (with_reducible refine (spec_TermOk.calls ?side1 ?side2 A2.out).mono ?_); (case side1 => repeat (first | exact a8.out | (with_reducible refine Kd.C_alloc ?_ _) | (with_reducible refine Kd.C_drewN ?_ _) | (with_reducible refine Kd.C_drew ?_))); (case side2 => exact aI.out); rintro e w18 ⟨rfl, hb⟩; refine ⟨_, rfl, ?_⟩; replace HB := hB HB hb; (try clear hb))))
  go_ret2
  exact ⟨rfl, sW HB.out⟩
 generalize a5 : ([] : List ByteArray) = aK at H
 have aC := am a5.symm; clear a5
 replace H := am H
 go_enter Try.func19, Try.ntmps19
 go_wp2_with (first | ((with_reducible refine gW ?_); first | (refine gC 13 (some 8) Try.func13 #[.slice A0 l0.length c0] ?_; (with_reducible refine (spec_TermOk.calls ?side1 ?side2 A2.out).mono ?_); (case side1 => repeat (first | exact a8.out | (with_reducible refine Kd.C_alloc ?_ _) | (with_reducible refine Kd.C_drewN ?_ _) | (with_reducible refine Kd.C_drew ?_))); (case side2 => exact aI.out); rintro e w4 ⟨rfl, hb⟩; refine ⟨_, rfl, ?_⟩; replace HB := hB HB hb; (try clear hb)) | ((with_reducible refine qC (N := 10) rfl ?_); refine Kd.R_lit Kd.string _ 9 ?hg (N := 10) ?hd (xs := ([] : List ByteArray)) (inner := []) (ok := fun _ => True) (okp := fun _ => True) ?hr ?hp (fun _ hk => hk) trivial (Below.refl _ _) (Nat.le_refl _) (by simp) ?_; (case hd => rfl); (case hg => rfl); (case hr => (go_simp; done)); (case hp => exact (Reps.none _ _)); intro b4 w5 a7 hb hg_ hnew_; clear hg_ hnew_; (rw [← aC.out] at a7); have aG := rL a7 HB; replace HB := hB HB hb; clear hb a7)))
 go_loopg [4, 5] k (fun kq v4 v5 w' => ∃ (a1 : List ByteArray) (a2 : Int), v5 = .int .i64 a2 ∧ Aside0 (tO kq l0 a1 a2 = some (r1, r2)) ∧ Aside0 (kq ≤ k) ∧ Aside0 (Kd.R Kd.string 9 w' w.heap.size (fun _ => True) v4 a1) ∧ Aside0 (Below w.heap.size w w'))
 case atStart => exact ⟨aK, 0, rfl, H, ⟨Nat.le_refl _⟩, ⟨sR <| aG.out⟩, ⟨sW HB.out⟩⟩
 clear H
 obtain ⟨a1, a2, rfl, HA, aH, a0, HB⟩ := hrel
 cases gk with
 | zero => cases HA.out
 | succ k1 =>
  obtain ⟨H⟩ := HA
  simp only [tO] at H
  replace H := iD H; rcases H with ⟨aN, H⟩ | ⟨aN, H⟩
  ·replace H := iN H; obtain ⟨bB, H⟩ := H
   replace H := oA H; obtain ⟨a3, A9, H⟩ := H
   replace H := iP H; obtain ⟨c10, H⟩ := H
   have aD := am c10
   clear c10
   generalize a4 : a1 ++ [a3] = aJ at H
   have aA := am a4.symm; clear a4
   replace H := am H
   obtain ⟨b9, b7, b2, rfl, aY, aX, aW, aV, aU, aT⟩ := ix (pL (Kd.C_below a8.out HB.out) a2)
   obtain ⟨aQ, aM, rfl⟩ := Kd.R_slice a0.out
   go_wp2_with (first | ((with_reducible refine gW ?_); first | (refine gF 55 (some 23) rfl ?_; refine gS Try.func55 (spec_l03Show.calls (sC (Kd.R_reads' a0.out).2.2) ((Kd.R_reads' a0.out).2.1) A9.out) ?_; rintro w12 hb; replace a0 := rB a0 hb; replace HB := hB HB hb; (try clear hb)) | ((with_reducible refine qG (b := .append) (xs := #[.tmp 17, .tmp 24]) rfl ?_); at_builtin; refine Kd.R_append Kd.string (w0 := w) w.heap.size rfl (.tmp 17) (.tmp 24) 72 9 (.string ⟨#[]⟩) 16 rfl Try.underlying72 d0r rfl (by decide) oM (.slice aQ a1.length aM) a1 a3 [.string a3] (fun _ => True) (fun _ => False) rfl rfl ?aP (fun _ hk => hk.elim) ?aF ?aO ?aB ?aS ?aL ?_; (case aP => exact rfl); (case aB => exact (by exact sW HB.out)); (case aF => exact (fun _ _ => trivial)); (case aO => exact (by exact sR <| a0.out)); (case aS => exact (kJ (by exact sW HB.out))); (case aL => have := aD.out; omega); intro b3 w13 ho hb hg hat; rw [← aA.out] at ho; replace HB := am hb; have aE := am ho; clear a0; clear ho hb hg hat)))
   go_roundg k1
   case measure => have := aH.out; omega
   case rel => exact ⟨aJ, (wrap64 (a2 + 1)), rfl, H, ⟨by have := aH.out; omega⟩, ⟨sR <| aE.out⟩, ⟨sW HB.out⟩⟩
  generalize a9 : wrap64 ((l0.length : Int) - 1) = a6 at H
  have aZ : (IntKind.i64.wrap ((l0.length : Int) - 1)) = a6 := (xW _).trans a9
  replace H := iN H; obtain ⟨b0, H⟩ := H
  replace H := iN H; obtain ⟨a_, H⟩ := H
  simp only [Option.some.injEq, Prod.mk.injEq] at H
  obtain ⟨rfl, rfl⟩ := H
  obtain ⟨bC, bA, rfl⟩ := Kd.R_slice a0.out
  obtain ⟨b8, b6, b1, rfl, aR⟩ := ix (Kd.at_string (Kd.R_reads' a0.out).2.2 (a6))
  go_wp2
  go_ret2
  exact ⟨by (have ie_ : ∀ l : List UInt8, (!l.isEmpty) = (l != []) := (fun l => by cases l <;> rfl); simp only [ie_]; rfl), sW HB.out⟩
def IsS88 (Ax : Option Addr) (cx : Nat) (w0 W : World) (g : Nat) (f0 : ByteArray) (f1 : Int) (f2 : List (S31)) (f3 : Int) (f4 : Int) : Prop := ∃ A2 c2, W.heap[g]? = some (.cells #[.string f0, .int .i64 f1, .slice A2 f2.length c2, .int .i64 f3, .int .i64 f4] 88 (0, 0)) ∧ w0.heap.size ≤ g ∧ (A2 = Ax ∧ c2 = cx)
theorem IsS88.grown {w0 W : World} {g : Nat} {f0 : ByteArray} {f1 : Int} {f2 : List (S31)} {f3 : Int} {f4 : Int} {W1 : World} {row : Option Nat} (h : IsS88 Ax cx w0 W g f0 f1 f2 f3 f4) (hw : W.grownBy W1 row) (hne : some g ≠ row) : IsS88 Ax cx w0 W1 g f0 f1 f2 f3 f4 := by
 obtain ⟨A2, c2, hb, hg, hr2⟩ := h
 exact ⟨A2, c2, tV hb hw hne, hg, hr2⟩
theorem IsS88.below {w0 W : World} {g : Nat} {f0 : ByteArray} {f1 : Int} {f2 : List (S31)} {f3 : Int} {f4 : Int} {W1 : World} (h : IsS88 Ax cx w0 W g f0 f1 f2 f3 f4) (hw : Below W.heap.size W W1) : IsS88 Ax cx w0 W1 g f0 f1 f2 f3 f4 := h.grown (yG hw none) (by simp)
theorem IsS88.alloc {w0 W : World} {g : Nat} {f0 : ByteArray} {f1 : Int} {f2 : List (S31)} {f3 : Int} {f4 : Int} (h : IsS88 Ax cx w0 W g f0 f1 f2 f3 f4) (o : Obj) : IsS88 Ax cx w0 (W.alloc o) g f0 f1 f2 f3 f4 := h.below (kS (Below.refl _ _) o)
theorem IsS88.drewN {w0 W : World} {g : Nat} {f0 : ByteArray} {f1 : Int} {f2 : List (S31)} {f3 : Int} {f4 : Int} (h : IsS88 Ax cx w0 W g f0 f1 f2 f3 f4) (m : Nat) : IsS88 Ax cx w0 (W.drewN m) g f0 f1 f2 f3 f4 := h
theorem IsS88.drew {w0 W : World} {g : Nat} {f0 : ByteArray} {f1 : Int} {f2 : List (S31)} {f3 : Int} {f4 : Int} (h : IsS88 Ax cx w0 W g f0 f1 f2 f3 f4) : IsS88 Ax cx w0 W.drew g f0 f1 f2 f3 f4 := h
theorem d1q {w0 W : World} {g : Nat} {f0 : ByteArray} {f1 : Int} {f2 : List (S31)} {f3 : Int} {f4 : Int} (h : IsS88 Ax cx w0 W g f0 f1 f2 f3 f4) : g < W.heap.size := by
 obtain ⟨A2, c2, hb, hg, hr2⟩ := h
 exact sO hb
theorem c0s {w0 W : World} {g : Nat} {f0 : ByteArray} {f1 : Int} {f2 : List (S31)} {f3 : Int} {f4 : Int} (h : IsS88 Ax cx w0 W g f0 f1 f2 f3 f4) : w0.heap.size ≤ g := by
 obtain ⟨A2, c2, hb, hg, hr2⟩ := h
 exact hg
theorem c2x {w0 W : World} {g : Nat} {f0 : ByteArray} {f1 : Int} {f2 : List (S31)} {f3 : Int} {f4 : Int} {a : Nat} {cs : Array Value} {t : TypeId} {fr : Nat × Nat} (h : IsS88 Ax cx w0 W g f0 f1 f2 f3 f4) (hb2 : W.heap[a]? = some (.cells cs t fr)) (ht : t ≠ 88) : g ≠ a := by
 obtain ⟨A2, c2, hb, hg, hr2⟩ := h
 rintro rfl
 rw [hb] at hb2
 injection hb2 with hb2
 injection hb2 with _ ht2
 exact ht ht2.symm
theorem IsS88.far {w0 W : World} {g : Nat} {f0 : ByteArray} {f1 : Int} {f2 : List (S31)} {f3 : Int} {f4 : Int} {p : Addr} (h : IsS88 Ax cx w0 W g f0 f1 f2 f3 f4) (hne : g ≠ p.block) (u : Value) : IsS88 Ax cx w0 (W.setCell p u) g f0 f1 f2 f3 f4 := by
 obtain ⟨A2, c2, hb, hg, hr2⟩ := h
 exact ⟨A2, c2, xH hb hne u, hg, hr2⟩
theorem xC {W : World} {g : Nat} {A2 : Option Addr} {c2 : Nat} {f0 : ByteArray} {f1 : Int} {f2 : List (S31)} {f3 : Int} {f4 : Int} (h : W.heap[g]? = some (.cells #[.string f0, .int .i64 f1, .slice A2 f2.length c2, .int .i64 f3, .int .i64 f4] 88 (0, 0))) : W.cell? ⟨g, 0, none⟩ = some (.string f0) := (kG h 0).trans rfl
theorem zD {w0 W : World} {g : Nat} {f0 : ByteArray} {f1 : Int} {f2 : List (S31)} {f3 : Int} {f4 : Int} (h : IsS88 Ax cx w0 W g f0 f1 f2 f3 f4) (x : ByteArray) : IsS88 Ax cx w0 (W.setCell ⟨g, 0, none⟩ (.string x)) g x f1 f2 f3 f4 := by
 obtain ⟨A2, c2, hb, hg, hr2⟩ := h
 exact ⟨A2, c2, by simpa using qM hb 0 (.string x), hg, hr2⟩
theorem xB {W : World} {g : Nat} {A2 : Option Addr} {c2 : Nat} {f0 : ByteArray} {f1 : Int} {f2 : List (S31)} {f3 : Int} {f4 : Int} (h : W.heap[g]? = some (.cells #[.string f0, .int .i64 f1, .slice A2 f2.length c2, .int .i64 f3, .int .i64 f4] 88 (0, 0))) : W.cell? ⟨g, 1, none⟩ = some (.int .i64 f1) := (kG h 1).trans rfl
theorem xI {w0 W : World} {g : Nat} {f0 : ByteArray} {f1 : Int} {f2 : List (S31)} {f3 : Int} {f4 : Int} (h : IsS88 Ax cx w0 W g f0 f1 f2 f3 f4) (x : Int) : IsS88 Ax cx w0 (W.setCell ⟨g, 1, none⟩ (.int .i64 x)) g f0 x f2 f3 f4 := by
 obtain ⟨A2, c2, hb, hg, hr2⟩ := h
 exact ⟨A2, c2, by simpa using qM hb 1 (.int .i64 x), hg, hr2⟩
theorem xA {W : World} {g : Nat} {A2 : Option Addr} {c2 : Nat} {f0 : ByteArray} {f1 : Int} {f2 : List (S31)} {f3 : Int} {f4 : Int} (h : W.heap[g]? = some (.cells #[.string f0, .int .i64 f1, .slice A2 f2.length c2, .int .i64 f3, .int .i64 f4] 88 (0, 0))) : W.cell? ⟨g, 2, none⟩ = some (.slice A2 f2.length c2) := (kG h 2).trans rfl
theorem wZ {W : World} {g : Nat} {A2 : Option Addr} {c2 : Nat} {f0 : ByteArray} {f1 : Int} {f2 : List (S31)} {f3 : Int} {f4 : Int} (h : W.heap[g]? = some (.cells #[.string f0, .int .i64 f1, .slice A2 f2.length c2, .int .i64 f3, .int .i64 f4] 88 (0, 0))) : W.cell? ⟨g, 3, none⟩ = some (.int .i64 f3) := (kG h 3).trans rfl
theorem zC {w0 W : World} {g : Nat} {f0 : ByteArray} {f1 : Int} {f2 : List (S31)} {f3 : Int} {f4 : Int} (h : IsS88 Ax cx w0 W g f0 f1 f2 f3 f4) (x : Int) : IsS88 Ax cx w0 (W.setCell ⟨g, 3, none⟩ (.int .i64 x)) g f0 f1 f2 x f4 := by
 obtain ⟨A2, c2, hb, hg, hr2⟩ := h
 exact ⟨A2, c2, by simpa using qM hb 3 (.int .i64 x), hg, hr2⟩
theorem wY {W : World} {g : Nat} {A2 : Option Addr} {c2 : Nat} {f0 : ByteArray} {f1 : Int} {f2 : List (S31)} {f3 : Int} {f4 : Int} (h : W.heap[g]? = some (.cells #[.string f0, .int .i64 f1, .slice A2 f2.length c2, .int .i64 f3, .int .i64 f4] 88 (0, 0))) : W.cell? ⟨g, 4, none⟩ = some (.int .i64 f4) := (kG h 4).trans rfl
theorem zB {w0 W : World} {g : Nat} {f0 : ByteArray} {f1 : Int} {f2 : List (S31)} {f3 : Int} {f4 : Int} (h : IsS88 Ax cx w0 W g f0 f1 f2 f3 f4) (x : Int) : IsS88 Ax cx w0 (W.setCell ⟨g, 4, none⟩ (.int .i64 x)) g f0 f1 f2 f3 x := by
 obtain ⟨A2, c2, hb, hg, hr2⟩ := h
 exact ⟨A2, c2, by simpa using qM hb 4 (.int .i64 x), hg, hr2⟩
def a1n (a4 : ByteArray) (a3 : Int) (a6 : List (S31)) (a0 : Int) (a5 : Int) (a1 : Int) (a2 : Int) : Option (Int × ByteArray × Int × Int × Int) := if a0 = 0 then (some (0, a4, a3, a1, a2)) else (some (0, a4, a3, a0, a5))
theorem c2i {P : Prop} (h : P := by
 go_enter Try.func63, Try.ntmps63
 go_wp2
 go_ret
 exact ⟨rfl, by repeat (first | (with_reducible first | exact HI0.out | apply IsS88.alloc | apply IsS88.drewN | apply IsS88.drew | apply zD | apply xI | apply zC | apply zB) | exact HI0.out), b0x, kB⟩) : P := h
theorem spec_l03Fail.calls (g : Nat) (a6 : ByteArray) (a5 : Int) (a0 : List (S31)) (a4 a3 a1 a2 r1 : Int) (r2 : ByteArray) (r3 r4 r5 : Int) (w0 w : World) (hI : IsS88 Ax cx w0 w g a6 a5 a0 a4 a3) (hB : Below w0.heap.size w0 w) (h : a1n a6 a5 a0 a4 a3 a1 a2 = some (r1, r2, r3, r4, r5)) :
  Calls Try.prog 63 #[.pointer (some ⟨g, 0, none⟩), .int .i64 a1, .int .i64 a2] w fun e w' => e = .returned (.int .i64 r1) ∧ IsS88 Ax cx w0 w' g r2 r3 a0 r4 r5 ∧ Below w0.heap.size w0 w' ∧ KeepBut w w' g none := by
 have HI0 := am hI
 have HK := am (KeepBut.refl w g none)
 have HL := am hB.size
 clear hI
 have HW0 := am hB.size
 have HB := am hB
 clear hB
 have H := h
 clear h
 unfold a1n at H
 replace H := iE H; rcases H with ⟨a8, a7, H⟩ | ⟨a8, a7, H⟩
 ·simp only [Option.some.injEq, Prod.mk.injEq] at H
  obtain ⟨rfl, rfl, rfl, rfl, rfl⟩ := H
  obtain ⟨ASz5_2, cSz5_2, HGz5, hgz5, HSz5_2⟩ := HI0.out
  have aR := xC HGz5
  have aQ := xB HGz5
  have aO := xA HGz5
  have aN := wZ HGz5
  have aM := wY HGz5
  have aG := kE HGz5 0
  have aF := kE HGz5 1
  have aE := kE HGz5 3
  have aD := kE HGz5 4
  clear HGz5 hgz5
  exact c2i
 simp only [Option.some.injEq, Prod.mk.injEq] at H
 obtain ⟨rfl, rfl, rfl, rfl, rfl⟩ := H
 obtain ⟨ASz6_2, cSz6_2, HGz6, hgz6, HSz6_2⟩ := HI0.out
 have aL := xC HGz6
 have aK := xB HGz6
 have aJ := xA HGz6
 have aI := wZ HGz6
 have aH := wY HGz6
 have aC := kE HGz6 0
 have aB := kE HGz6 1
 have aA := kE HGz6 3
 have a9 := kE HGz6 4
 clear HGz6 hgz6
 exact c2i
def qX : Nat → ByteArray → List ByteArray → Int → Option (Int × Int)
 | 0, _, _, _ => none
 | k + 1, x0, x4, x5 => if x5 < (x4.length : Int) then (if 0 ≤ x5 then (if (vD ByteArray.empty x4 x5).toList = x0.toList then (some (wrap64 (3 + x5), 2)) else (qX k x0 x4 (wrap64 (x5 + 1)))) else (none)) else (if x0.toList = ([110, 111, 116] : List UInt8) then (some (2, 1)) else (if x0.toList = ([115, 108, 105, 99, 101] : List UInt8) then (some (17, 1)) else (if x0.toList = ([105, 102] : List UInt8) then (some (18, 3)) else (if x0.toList = ([97, 108, 108] : List UInt8) then (some (19, 1)) else (if x0.toList = ([115, 111, 109, 101] : List UInt8) then (some (20, 1)) else (some ((-1), 0)))))))
def uS (k : Nat) (a0 : ByteArray) : Option (Int × Int) := (vF).bind fun a1 => (qX k a0 a1 0)
theorem a7b {P : Prop} (h : P := by
 simp only [Option.some.injEq, Prod.mk.injEq] at H
 obtain ⟨rfl, rfl⟩ := H
 obtain ⟨aS, aR, rfl⟩ := Kd.R_slice a2.out
 go_wp2
 go_ret2
 exact ⟨rfl, sW HB.out⟩) : P := h
theorem spec_l03Op.calls (k : Nat) (a0 : ByteArray) (r1 r2 : Int) (w : World) (h : uS k a0 = some (r1, r2)) :
  Calls Try.prog 124 #[.string a0] w fun e w' => e = .returned (.tuple #[.int .i64 r1, .int .i64 r2]) ∧ Below w.heap.size w w' := by
 have HB := am (Below.refl w.heap.size w)
 have H := h
 clear h
 unfold uS at H
 replace H := oA H; obtain ⟨a4, A2, H⟩ := H
 replace H := am H
 go_enter Try.func124, Try.ntmps124
 go_wp2_with (first | ((with_reducible refine a1y (f := 85) rfl ?_); refine a6b (some 6) rfl rfl Try.func85 (by kernel_rfl) rfl #[] rfl (by (try simp only [List.map_toArray, List.map_cons, List.map_nil]); done) ?_; refine (spec_l03Words.calls _ _ A2.out).mono ?_; rintro e w3 ⟨aH, rfl, aF, hb⟩; refine ⟨_, rfl, ?_⟩; have aE := rL aF HB; replace HB := hB HB hb; (try clear hb); (try clear aF)))
 go_loopg [5] k (fun kq v5 w' => ∃ (a1 : Int), v5 = .int .i64 a1 ∧ Aside0 (qX kq a0 a4 a1 = some (r1, r2)) ∧ Aside0 (kq ≤ k) ∧ Aside0 (Kd.R Kd.string 9 w' w.heap.size (fun _ => True) aH a4) ∧ Aside0 (Below w.heap.size w w'))
 case atStart => exact ⟨0, rfl, H, ⟨Nat.le_refl _⟩, ⟨sR <| aE.out⟩, ⟨sW HB.out⟩⟩
 clear H
 obtain ⟨a1, rfl, HA, aG, a2, HB⟩ := hrel
 cases gk with
 | zero => cases HA.out
 | succ k1 =>
  obtain ⟨H⟩ := HA
  simp only [qX] at H
  replace H := iD H; rcases H with ⟨aO, H⟩ | ⟨aO, H⟩
  ·replace H := iN H; obtain ⟨aQ, H⟩ := H
   replace H := iE H; rcases H with ⟨aN, aM, H⟩ | ⟨aN, aM, H⟩
   ·simp only [Option.some.injEq, Prod.mk.injEq] at H
    obtain ⟨rfl, rfl⟩ := H
    obtain ⟨aW, aU, rfl⟩ := Kd.R_slice a2.out
    obtain ⟨aJ, aI, aD, rfl, a3⟩ := ix (Kd.at_string (Kd.R_reads' a2.out).2.2 a1)
    go_wp2
    go_ret2
    exact ⟨rfl, sW HB.out⟩
   replace H := am H
   obtain ⟨aV, aT, rfl⟩ := Kd.R_slice a2.out
   obtain ⟨aJ, aI, aD, rfl, a3⟩ := ix (Kd.at_string (Kd.R_reads' a2.out).2.2 a1)
   go_wp2
   go_roundg k1
   case measure => have := aG.out; omega
   case rel => exact ⟨(wrap64 (a1 + 1)), rfl, H, ⟨by have := aG.out; omega⟩, ⟨sR <| a2.out⟩, ⟨sW HB.out⟩⟩
  replace H := iE H; rcases H with ⟨aL, aK, H⟩ | ⟨aL, aK, H⟩
  ·exact a7b
  replace H := iE H; rcases H with ⟨aC, aB, H⟩ | ⟨aC, aB, H⟩
  ·exact a7b
  replace H := iE H; rcases H with ⟨aA, a9, H⟩ | ⟨aA, a9, H⟩
  ·exact a7b
  replace H := iE H; rcases H with ⟨a8, a7, H⟩ | ⟨a8, a7, H⟩
  ·exact a7b
  replace H := iE H; rcases H with ⟨a6, a5, H⟩ | ⟨a6, a5, H⟩
  ·exact a7b
  exact a7b
def vG (a1 : ByteArray) (a0 : Int) (a4 : List (S31)) (a3 : Int) (a2 : Int) : Option (Bool × ByteArray × Int × Int × Int) := if a0 < (a1.size : Int) then (if 0 ≤ a0 then (if (bt a1 a0) = 32 then (some (true, a1, wrap64 (a0 + 1), a3, a2)) else (some (false, a1, a0, a3, a2))) else (none)) else (some (false, a1, a0, a3, a2))
theorem c1r {P : Prop} (h : P := by
 go_enter Try.func125, Try.ntmps125
 go_wp2
 repeat (go_quiet (fail); try go_wp2)
 go_ret
 exact ⟨rfl, by repeat (first | (with_reducible first | exact HI0.out | apply IsS88.alloc | apply IsS88.drewN | apply IsS88.drew | apply zD | apply xI | apply zC | apply zB) | exact HI0.out), b0x, kB⟩) : P := h
theorem c1h {P : Prop} (h : P := by
 have p4 : 0 ≤ (a0 : Int) := oD (by assumption)
 have q4 : a0 < (a1.size : Int) := oD (by assumption)
 have b0 := xG a1 a0
 replace p4 := eq_true p4
 replace q4 := eq_true q4
 exact c1r) : P := h
theorem spec_l03Blank.calls (g : Nat) (a1 : ByteArray) (a0 : Int) (a2 : List (S31)) (a4 a3 : Int) (r1 : Bool) (r2 : ByteArray) (r3 r4 r5 : Int) (w0 w : World) (hI : IsS88 Ax cx w0 w g a1 a0 a2 a4 a3) (hB : Below w0.heap.size w0 w) (h : vG a1 a0 a2 a4 a3 = some (r1, r2, r3, r4, r5)) :
  Calls Try.prog 125 #[.pointer (some ⟨g, 0, none⟩)] w fun e w' => e = .returned (.bool r1) ∧ IsS88 Ax cx w0 w' g r2 r3 a2 r4 r5 ∧ Below w0.heap.size w0 w' ∧ KeepBut w w' g none := by
 have HI0 := am hI
 have HK := am (KeepBut.refl w g none)
 have HL := am hB.size
 clear hI
 have HW0 := am hB.size
 have HB := am hB
 clear hB
 have H := h
 clear h
 unfold vG at H
 replace H := iD H; rcases H with ⟨a7, H⟩ | ⟨a7, H⟩
 rotate_left
 ·simp only [Option.some.injEq, Prod.mk.injEq] at H
  obtain ⟨rfl, rfl, rfl, rfl, rfl⟩ := H
  obtain ⟨ASz8_2, cSz8_2, HGz8, hgz8, HSz8_2⟩ := HI0.out
  have aO := xC HGz8
  have aN := xB HGz8
  have aM := xA HGz8
  have aL := wZ HGz8
  have aK := wY HGz8
  have aB := kE HGz8 0
  have aA := kE HGz8 1
  have a9 := kE HGz8 3
  have a8 := kE HGz8 4
  clear HGz8 hgz8
  exact c1r
 replace H := iN H; obtain ⟨a_, H⟩ := H
 replace H := iE H; rcases H with ⟨a6, a5, H⟩ | ⟨a6, a5, H⟩
 ·simp only [Option.some.injEq, Prod.mk.injEq] at H
  obtain ⟨rfl, rfl, rfl, rfl, rfl⟩ := H
  obtain ⟨ASz6_2, cSz6_2, HGz6, hgz6, HSz6_2⟩ := HI0.out
  have aZ := xC HGz6
  have aY := xB HGz6
  have aX := xA HGz6
  have aW := wZ HGz6
  have aV := wY HGz6
  have aJ := kE HGz6 0
  have aI := kE HGz6 1
  have aH := kE HGz6 3
  have aG := kE HGz6 4
  clear HGz6 hgz6
  exact c1h
 simp only [Option.some.injEq, Prod.mk.injEq] at H
 obtain ⟨rfl, rfl, rfl, rfl, rfl⟩ := H
 obtain ⟨ASz7_2, cSz7_2, HGz7, hgz7, HSz7_2⟩ := HI0.out
 have aU := xC HGz7
 have aT := xB HGz7
 have aS := xA HGz7
 have aR := wZ HGz7
 have aQ := wY HGz7
 have aF := kE HGz7 0
 have aE := kE HGz7 1
 have aD := kE HGz7 3
 have aC := kE HGz7 4
 clear HGz7 hgz7
 exact c1h
def yT (a0 : Int) (a1 : Int) : Option (Bool) := (wW a0).bind fun a3 => (if a3 = true then (if 0 ≤ (IntKind.u64.wrap (a0)) then ((qN a1 0 (wrap64 ((shl .i64 1 (IntKind.u64.wrap (a0))) - 1))).bind fun a2 => (some a2)) else (none)) else (some false))
theorem impl_WordOk.calls {a0 a1 : Int} {r : Bool} {w : World} (h : yT a0 a1 = some r) :
  Calls Try.prog 54 #[.int .i64 a0, .int .i64 a1] w fun e w' => e = .returned (.bool r) ∧ Drawn0 w w' := by
 have H := h
 clear h
 unfold yT at H
 replace H := oA H; obtain ⟨aD, A3, H⟩ := H
 replace H := iB H; rcases H with ⟨rfl, H⟩ | ⟨rfl, H⟩
 ·generalize a7 : IntKind.u64.wrap (a0) = a2 at H
  (try rw [a7] at A3)
  replace H := iTD H; obtain ⟨aF, aE, H⟩ := H
  generalize a4 : shl .i64 1 (a2) = a3 at H
  (try rw [a4] at A3)
  have a6 : (IntKind.i64.wrap (1 * 2 ^ min (a2).toNat 64)) = a3 := a4
  have a5 : (a2) ≤ 64 → (IntKind.i64.wrap (1 * 2 ^ (a2).toNat)) = a3 := b6p a4
  have aB : (IntKind.i64.wrap (2 ^ min (a2).toNat 64)) = a3 := by have h_ := a6; rw [Int.one_mul] at h_; exact h_
  have aA : (a2) ≤ 64 → (IntKind.i64.wrap (2 ^ (a2).toNat)) = a3 := fun hle_ => by have h_ := a5 hle_; rw [Int.one_mul] at h_; exact h_
  have a8 : (wrap64 (1 * 2 ^ min (a2).toNat 64)) = a3 := (xW _).symm.trans a6
  have a9 : (a2) ≤ 64 → (wrap64 (1 * 2 ^ (a2).toNat)) = a3 := fun h_ => (xW _).symm.trans (a5 h_)
  replace H := oA H; obtain ⟨aC, A8, H⟩ := H
  obtain rfl := oI H
  go_enter Try.func54, Try.ntmps54
  go_wp2_with (first | (go_at_call 72; refine cD (impl_within.calls A8.out) fun nd => ?_) | ((with_reducible refine gW ?_); first | (refine gD (some 6) Try.func83 rfl (impl_isWidth.calls A3.out) fun nd => ?_)))
  go_ret
  exact ⟨rfl, dR⟩
 obtain rfl := oI H
 go_enter Try.func54, Try.ntmps54
 go_wp2_with (first | ((with_reducible refine gW ?_); first | (refine gD (some 6) Try.func83 rfl (impl_isWidth.calls A3.out) fun nd => ?_)))
 go_ret
 exact ⟨rfl, dR⟩
def rG (a0 : Int) (a5 : Int) (a4 : Int) (a3 : Int) (a2 : Int) (a1 : Int) : Option (Bool) := if a0 = 19 then (some true) else (some (a0 == 20))
theorem impl_isQuant.calls {a5 a4 a3 a2 a1 a0 : Int} (r : Bool) (w : World) (h : rG a5 a4 a3 a2 a1 a0 = some r) :
  Calls Try.prog 53 #[.agg #[.int .i64 a5, .int .i64 a4, .int .i64 a3, .int .i64 a2, .int .i64 a1, .int .i64 a0]] w fun e w' => e = .returned (.bool r) ∧ Below w.heap.size w w' := by
 have hu31 := Try.underlying31
 have HB := am (Below.refl w.heap.size w)
 have H := h
 clear h
 unfold rG at H
 replace H := iE H; rcases H with ⟨aB, aA, H⟩ | ⟨aB, aA, H⟩
 ·obtain rfl := oI H
  go_enter Try.func53, Try.ntmps53
  go_wp2_with (first | ((with_reducible refine gW ?_); first | (refine bX 1 31 #[.int .i64 a5, .int .i64 a4, .int .i64 a3, .int .i64 a2, .int .i64 a1, .int .i64 a0] ?_; intro a7 hg w3 hbox hb; have a6 := am hbox; have a8 := gw hg; have a9 := gw hg; replace HB := hB HB hb; clear hb hbox hg; have aO := cf6 a6.out)))
  go_ret
  exact ⟨rfl, bW⟩
 obtain rfl := oI H
 go_enter Try.func53, Try.ntmps53
 go_wp2_with (first | ((with_reducible refine gW ?_); first | (refine bX 1 31 #[.int .i64 a5, .int .i64 a4, .int .i64 a3, .int .i64 a2, .int .i64 a1, .int .i64 a0] ?_; intro a7 hg w5 hbox hb; have a6 := am hbox; have a8 := gw hg; have a9 := gw hg; replace HB := hB HB hb; clear hb hbox hg; obtain ⟨⟨aN, aM, aL, aK, aJ, aI⟩, aH, aG, aF, aE, aD, aC⟩ := cf6 a6.out)))
 go_ret
 exact ⟨rfl, bW⟩
def wP : Nat → Bool → Int → Int → Int → Int → Int → Int → Option (List Int)
 | 0, _, _, _, _, _, _, _ => none
 | k + 1, x3, a2, a6, a5, a0, a1, a3 => if x3 = true then (some (([a0] : List Int))) else ((qN a2 3 16).bind fun a4 => (if a4 = true then (some (([a0, a1] : List Int))) else (if a2 = 18 then (some (([a0, a1, a3] : List Int))) else (some (([] : List Int))))))
def wG (k : Nat) (a0 : Int) (a5 : Int) (a4 : Int) (a3 : Int) (a2 : Int) (a1 : Int) : Option (List Int) := if a0 = 2 then (wP k true a0 a5 a4 a3 a2 a1) else (if a0 = 17 then (wP k true a0 a5 a4 a3 a2 a1) else ((rG a0 a5 a4 a3 a2 a1).bind fun a6 => (wP k a6 a0 a5 a4 a3 a2 a1)))
theorem c1b {P : Prop} (h : P := by
 replace H := am H
 obtain ⟨⟨bU, bT, bS, bR, bQ, bP⟩, bO, bN, bM, bL, bB, bA⟩ := cf6 a0.out
 go_wp2
 go_meet
 case rel => exact ⟨_, true, rfl, H, ⟨oM⟩, ⟨sB <| a0.out⟩, ⟨bW⟩⟩) : P := h
theorem impl_Parts.calls (k : Nat) (a6 a5 a4 a1 a2 a3 : Int) (r : List Int) (w : World) (h : wG k a6 a5 a4 a1 a2 a3 = some r) :
  Calls Try.prog 58 #[.agg #[.int .i64 a6, .int .i64 a5, .int .i64 a4, .int .i64 a1, .int .i64 a2, .int .i64 a3]] w fun e w' => ∃ aU : Value, e = .returned (aU) ∧ Kd.R (Kd.int .i64) 3 w' w.heap.size (fun _ => True) aU r ∧ Below w.heap.size w w' := by
 have hu31 := Try.underlying31
 have HB := am (Below.refl w.heap.size w)
 have H := h
 clear h
 unfold wG at H
 have aG := am H; clear H
 go_enter Try.func58, Try.ntmps58
 go_upto_region 1 with (first | ((with_reducible refine qC (N := 1) rfl ?_); refine xD ?hg (N := 1) ?hd (cs := #[.int .i64 a6, .int .i64 a5, .int .i64 a4, .int .i64 a1, .int .i64 a2, .int .i64 a3]) (t := 31) ?hr ?_; (case hd => rfl); (case hg => rfl); (case hr => (go_simp; done)); intro aI hg w3 hbox hb; have aY := am (zW (by exact sW HB.out) hb); have aX := am (hbox); have aW := gw hg; have aV := gw hg; clear HB; have HB := aY; have a0 := aX; have b8 := aW; have b9 := aV; clear aY aX aW aV; clear hb hbox hg))
 (try simp only [Act.put, List.setIfInBounds_toArray, List.set_cons_zero, List.set_cons_succ])
 go_cut [3] (fun v3 wc => ∃ (kq : Nat) (a7 : Bool), v3 = .bool a7 ∧ Aside0 (wP kq a7 a6 a5 a4 a1 a2 a3 = some r) ∧ Aside0 (kq ≤ k) ∧ Aside0 (wc.heap[aI]? = some (.cells #[.int .i64 a6, .int .i64 a5, .int .i64 a4, .int .i64 a1, .int .i64 a2, .int .i64 a3] 31 (0, 0))) ∧ Aside0 (Below w.heap.size w wc))
 case first =>
  have H := aG.out
  clear aG
  replace H := iE H; rcases H with ⟨b2, b1, H⟩ | ⟨b2, b1, H⟩
  ·exact c1b
  replace H := iE H; rcases H with ⟨b0, a_, H⟩ | ⟨b0, a_, H⟩
  ·exact c1b
  replace H := oA H; obtain ⟨aZ, A8, H⟩ := H
  replace H := am H
  have b7 := cf6 a0.out
  go_wp2_with (first | (go_at_call 53; refine (impl_isQuant.calls _ _ A8.out).mono ?_; rintro e w10 ⟨rfl, hb⟩; replace a0 := gB a0 hb; replace HB := hX hb; (try clear hb)))
  go_meet
  case rel => exact ⟨_, aZ, rfl, H, ⟨oM⟩, ⟨sB <| a0.out⟩, ⟨bW⟩⟩
 clear aG
 obtain ⟨kq, a7, rfl, HA, bZ, a0, HB⟩ := hcut
 cases kq with
 | zero => cases HA.out
 | succ bV =>
  obtain ⟨H⟩ := HA
  simp only [wP] at H
  replace H := iB H; rcases H with ⟨rfl, H⟩ | ⟨rfl, H⟩
  ·generalize aF : ([a1] : List Int) = bF at H
   have aO := am aF.symm; clear aF
   obtain rfl := oI H
   have b6 := cf6 a0.out
   go_wp2_with (first | ((with_reducible refine qC (N := 18) rfl ?_); refine Kd.R_lit (Kd.int .i64) _ 3 ?hg (N := 18) ?hd (xs := ([a1] : List Int)) (inner := [.int .i64 a1]) (ok := fun _ => True) (okp := fun _ => True) ?hr ?hp (fun _ hk => hk) trivial (Below.refl _ _) (Nat.le_refl _) (by simp) ?_; (case hd => rfl); (case hg => rfl); (case hr => (go_simp; done)); (case hp => exact (Reps.one (show Kd.M (Kd.int .i64) _ _ _ a1 [.int .i64 a1] from rfl) (Reps.none _ _))); intro bJ w13 aB hb hg_ hnew_; clear hg_ hnew_; (rw [← aO.out] at aB); have aT := am (Kd.R_lower aB (kJ (by exact bW))); replace a0 := gB a0 hb; replace HB := hX hb; clear hb aB))
   go_ret
   exact ⟨_, rfl, sR <| aT.out, bW⟩
  replace H := oA H; obtain ⟨bK, aH, H⟩ := H
  replace H := iB H; rcases H with ⟨rfl, H⟩ | ⟨rfl, H⟩
  ·generalize aE : ([a1, a2] : List Int) = bE at H
   have aN := am aE.symm; clear aE
   obtain rfl := oI H
   have b5 := cf6 a0.out
   go_wp2_with (first | ((with_reducible refine gW ?_); first | (refine gD (some 22) Try.func72 rfl (impl_within.calls aH.out) fun nd => ?_) | ((with_reducible refine qC (N := 27) rfl ?_); refine Kd.R_lit (Kd.int .i64) _ 3 ?hg (N := 27) ?hd (xs := ([a1, a2] : List Int)) (inner := [.int .i64 a1, .int .i64 a2]) (ok := fun _ => True) (okp := fun _ => True) ?hr ?hp (fun _ hk => hk) trivial (Below.refl _ _) (Nat.le_refl _) (by simp) ?_; (case hd => rfl); (case hg => rfl); (case hr => (go_simp; done)); (case hp => exact (Reps.one (show Kd.M (Kd.int .i64) _ _ _ a1 [.int .i64 a1] from rfl) (Reps.one (show Kd.M (Kd.int .i64) _ _ _ a2 [.int .i64 a2] from rfl) (Reps.none _ _)))); intro bI w18 aA hb hg_ hnew_; clear hg_ hnew_; (rw [← aN.out] at aA); have aS := am (Kd.R_lower aA (kJ (by exact bW))); replace a0 := gB a0 hb; replace HB := hX hb; clear hb aA)))
   go_ret
   exact ⟨_, rfl, sR <| aS.out, bW⟩
  replace H := iE H; rcases H with ⟨aK, aJ, H⟩ | ⟨aK, aJ, H⟩
  ·generalize aD : ([a1, a2, a3] : List Int) = bD at H
   have aM := am aD.symm; clear aD
   obtain rfl := oI H
   have b4 := cf6 a0.out
   go_wp2_with (first | ((with_reducible refine gW ?_); first | (refine gD (some 22) Try.func72 rfl (impl_within.calls aH.out) fun nd => ?_) | ((with_reducible refine qC (N := 38) rfl ?_); refine Kd.R_lit (Kd.int .i64) _ 3 ?hg (N := 38) ?hd (xs := ([a1, a2, a3] : List Int)) (inner := [.int .i64 a1, .int .i64 a2, .int .i64 a3]) (ok := fun _ => True) (okp := fun _ => True) ?hr ?hp (fun _ hk => hk) trivial (Below.refl _ _) (Nat.le_refl _) (by simp) ?_; (case hd => rfl); (case hg => rfl); (case hr => (go_simp; done)); (case hp => exact (Reps.one (show Kd.M (Kd.int .i64) _ _ _ a1 [.int .i64 a1] from rfl) (Reps.one (show Kd.M (Kd.int .i64) _ _ _ a2 [.int .i64 a2] from rfl) (Reps.one (show Kd.M (Kd.int .i64) _ _ _ a3 [.int .i64 a3] from rfl) (Reps.none _ _))))); intro bH w22 a9 hb hg_ hnew_; clear hg_ hnew_; (rw [← aM.out] at a9); have aR := am (Kd.R_lower a9 (kJ (by exact bW))); replace a0 := gB a0 hb; replace HB := hX hb; clear hb a9)))
   go_ret
   exact ⟨_, rfl, sR <| aR.out, bW⟩
  generalize aC : ([] : List Int) = bC at H
  have aL := am aC.symm; clear aC
  obtain rfl := oI H
  have b3 := cf6 a0.out
  go_wp2_with (first | ((with_reducible refine gW ?_); first | (refine gD (some 22) Try.func72 rfl (impl_within.calls aH.out) fun nd => ?_) | (refine lE (Kd.int .i64) 3 39 ?_; intro bG w25 a8 hb; (rw [← aL.out] at a8); have aQ := am (Kd.R_lower a8 (kJ (by exact bW))); replace a0 := gB a0 hb; replace HB := hX hb; clear hb a8)))
  go_ret
  exact ⟨_, rfl, sR <| aQ.out, bW⟩
theorem c0e (d : Nat) (w : World) (x0 y0 x1 y1 x2 y2 x3 y3 x4 y4 x5 y5 : Int) :
  (Op.equalIn (d + 2) 31 (.agg #[.int .i64 x0, .int .i64 x1, .int .i64 x2, .int .i64 x3, .int .i64 x4, .int .i64 x5]) (.agg #[.int .i64 y0, .int .i64 y1, .int .i64 y2, .int .i64 y3, .int .i64 y4, .int .i64 y5])).run Try.prog w = .ok (x0 == y0 && (x1 == y1 && (x2 == y2 && (x3 == y3 && (x4 == y4 && (x5 == y5)))))) w := by
 refine d0u Try.underlying31 (by kernel_rfl) ?_
 refine a2v (by rfl) (by go_simp; rfl) (by go_simp; rfl) (by go_simp) ?_
 refine a2v (by rfl) (by go_simp; rfl) (by go_simp; rfl) (by go_simp) ?_
 refine a2v (by rfl) (by go_simp; rfl) (by go_simp; rfl) (by go_simp) ?_
 refine a2v (by rfl) (by go_simp; rfl) (by go_simp; rfl) (by go_simp) ?_
 refine a2v (by rfl) (by go_simp; rfl) (by go_simp; rfl) (by go_simp) ?_
 exact c0d (by rfl) (by go_simp; rfl) (by go_simp; rfl) (by go_simp)
end Go.Proofs.Ytkpipmojkhikaaa.PAll
