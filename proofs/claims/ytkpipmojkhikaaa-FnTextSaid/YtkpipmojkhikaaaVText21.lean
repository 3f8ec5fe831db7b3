/- Written by a program of this session over the loaded program, and by hand: Go functions as plain Lean functions, and that a call comes to what they say. -/
import Derived.Test.YtkpipmojkhikaaaVText0
import Derived.Test.YtkpipmojkhikaaaVText1
import Derived.Test.YtkpipmojkhikaaaVText9
import Derived.Test.YtkpipmojkhikaaaVText11
import Derived.Test.YtkpipmojkhikaaaVText15
import Derived.Test.YtkpipmojkhikaaaVText18
import Derived.Test.YtkpipmojkhikaaaVText20
import Derived.Test.YtkpipmojkhikaaaBase
import Derived.Test.YtkpipmojkhikaaaSq
namespace Go.Proofs.Ytkpipmojkhikaaa.PAll
open Go.RowKit Go.Proofs.YtkpipmojkhikaaaW.PrintWords Go.Proofs.YtkpipmojkhikaaaW.PrintLast Go.Proofs.YtkpipmojkhikaaaW.PrintMore Go.Proofs.YtkpipmojkhikaaaW.Sq
attribute [local go_sem] sD rZ uM uL qV qU sA rY
set_option linter.unusedVariables false
set_option maxHeartbeats 8000000
set_option maxRecDepth 100000
set_option linter.unusedSimpArgs false
variable {Ax : Option Addr} {cx : Nat}
def zV (k : Nat) (s : ByteArray) : Option (List (S31) × Int × Int) :=
 if (s.size : Int) > 4000 then some ([], 1, 0) else (creadF s k 0 []).bind fun r => if r.2.2.2.1 = 0 then (if r.2.1 < (s.size : Int) then some ([], 5, r.2.1) else if wrap64 (r.1 + 1) = (r.2.2.1.length : Int) then some (r.2.2.1, 0, 0) else none) else some ([], r.2.2.2.1, r.2.2.2.2)
theorem c2e {P : Prop} (h : P := by
 go_wp2_with fail
 go_quiet (fail)
 go_wp2_with fail
 refine bodyPost_ret (pG (rs := [.tmp 2, .tmp 3, .tmp 4]) rfl (by simp) (.tmp (.tmp (.tmp .nil)))) rfl ?_
 exact ⟨_, rfl, sR (Kd.R_mono HN2.out (fun _ _ => trivial)), sW HI.out.2.2⟩) : P := h
set_option maxHeartbeats 4000000 in
theorem spec_ReadTerm.calls {k : Nat} {s : ByteArray} {r1 : List (S31)} {r2 r3 : Int} {w : World} (h : zV k s = some (r1, r2, r3)) :
  Calls Try.prog 33 #[.string s] w fun e w' => ∃ a0 : Value, e = .returned (.tuple #[a0, .int .i64 r2, .int .i64 r3]) ∧ Kd.R k31 31 w' w.heap.size (fun _ => True) a0 r1 ∧ Below w.heap.size w w' := by
 unfold zV at h
 have HH := am h
 clear h
 by_cases hs : (s.size : Int) > 4000
 ·have h := HH.out
  rw [if_pos hs] at h
  simp only [Option.some.injEq, Prod.mk.injEq] at h
  obtain ⟨rfl, rfl, rfl⟩ := h
  have t1 : decide (4000 < (s.size : Int)) = true := decide_eq_true hs
  clear hs HH
  go_enter Try.func33, Try.ntmps33
  go_wp2_with (refine lE k31 31 8 ?_; intro v8 w8 ho hb; have HN := am ho; have HB := am hb; clear ho hb)
  refine bodyPost_ret (pG (rs := [.tmp 2, .tmp 3, .tmp 4]) rfl (by simp) (.tmp (.tmp (.tmp .nil)))) rfl ?_
  exact ⟨_, rfl, HN.out, HB.out⟩
 have h := HH.out
 rw [if_neg hs] at h
 obtain ⟨⟨p, a1, l1, c1, b1⟩, hn, h_⟩ := oB h
 clear h
 have HRD := am hn; replace HH := am h_
 have t1 : decide (4000 < (s.size : Int)) = false := decide_eq_false oM
 clear hn h_ hs
 go_enter Try.func33, Try.ntmps33
 go_wp2_with (refine lE k31 31 8 ?_; intro v8 w8 ho hb; have HN := am ho; have HB := am hb; clear ho hb)
 have hI : IsCu w (w8.alloc (Obj.cells #[.string s, .int .i64 0, .slice none 0 0, .int .i64 0, .int .i64 0] 88)) w8.heap.size s 0 [] 0 0 none 0 := ⟨⟨none, 0, heap_alloc_new w8 _, HB.out.size, rfl, rfl⟩, Kd.R_nil .., by exact sW HB.out⟩
 refine (creadF.calls s k w8.heap.size 0 [] p a1 l1 c1 b1 none 0 w _ hI (by simp) HRD.out).mono ?_
 rintro e w2 ⟨rfl, ⟨A2, c2, hi, _⟩, hk, _⟩
 try dsimp only
 have HI := am hi
 have HN2 := am (show Kd.R k31 31 w2 w.heap.size (fun k => k ≠ w8.heap.size) v8 [] from Kd.R_mono (Kd.R_kept (Kd.R_below (Kd.R_mono (Kd.R_bound HN.out) (fun k h => (show k ≠ w8.heap.size by have := h.2.2.1; omega))) (kS (Below.refl w8.heap.size w8) _)) hk (fun k h e => h e)) (fun k h => h))
 clear hi hk hI HN
 obtain ⟨g0, g1, g2, g3, hz, hg0, hgw⟩ := HI.out.cells
 have g4 : w2.cell? ⟨w8.heap.size, 4, none⟩ = some (.int .i64 b1) := by
  obtain ⟨A3, c3, hb, _, _⟩ := HI.out.1
  exact (kG hb 4).trans rfl
 clear hz hg0 hgw g0
 by_cases hc : c1 = 0
 rotate_left
 ·have hf := HH.out
  rw [if_neg hc] at hf
  simp only [Option.some.injEq, Prod.mk.injEq] at hf
  obtain ⟨rfl, rfl, rfl⟩ := hf
  have t2 : (c1 == 0) = false := beq_eq_false_iff_ne.mpr hc
  have t3 : (c1 != 0) = true := bne_iff_ne.mpr hc
  clear hc
  exact c2e
 subst hc
 have hf := HH.out
 rw [if_pos rfl] at hf
 by_cases ha : a1 < (s.size : Int)
 ·have t2 : decide (a1 < (s.size : Int)) = true := decide_eq_true ha
  rw [if_pos ha] at hf
  simp only [Option.some.injEq, Prod.mk.injEq] at hf
  obtain ⟨rfl, rfl, rfl⟩ := hf
  clear ha
  go_wp2_with fail
  refine (spec_l03Fail.calls w8.heap.size s a1 l1 0 b1 5 a1 0 s a1 5 a1 w w2 HI.out.1 HI.out.2.2 rfl).mono ?_
  rintro e w3 ⟨rfl, hi, hb, hk⟩
  try dsimp only
  replace HI := am (HI.out.keep hi hb hk); replace HN2 := am (Kd.R_keep HN2.out hk (fun _ h => h))
  clear hi hb hk g1 g2 g3 g4
  obtain ⟨g0, g1, g2, g3, hz, hg0, hgw⟩ := HI.out.cells
  have g4 : w3.cell? ⟨w8.heap.size, 4, none⟩ = some (.int .i64 a1) := by
   obtain ⟨A3, c3, hb, _, _⟩ := HI.out.1
   exact (kG hb 4).trans rfl
  exact c2e
 have t2 : decide (a1 < (s.size : Int)) = false := decide_eq_false ha
 rw [if_neg ha] at hf
 by_cases he : wrap64 (p + 1) = (l1.length : Int)
 ·rw [if_pos he] at hf
  simp only [Option.some.injEq, Prod.mk.injEq] at hf
  obtain ⟨rfl, rfl, rfl⟩ := hf
  have q1 := eq_true (show (0 : Int) ≤ (l1.length : Int) by omega)
  have q2 := eq_true (show (l1.length : Int) ≤ (c2 : Int) by have := (Kd.R_reads' HI.out.2.1).2.1; omega)
  clear ha
  go_wp2_with fail
  refine bodyPost_ret (pG (rs := [.tmp 2, .tmp 3, .tmp 4]) rfl (by simp) (.tmp (.tmp (.tmp .nil)))) rfl ?_
  exact ⟨_, rfl, Kd.R_mono HI.out.2.1 (fun _ _ => trivial), HI.out.2.2⟩
 rw [if_neg he] at hf; cases hf
abbrev yY (k : Nat) (s : ByteArray) : Option (List (S31) × Int × Int) := a1i k s
abbrev a5j (k : Nat) (s : ByteArray) : Option (List (S31) × Int × Int) := zV k s
def vC (k : Nat) (l0 : List (S31)) (l1 : List (S31)) : Option (Bool) := (qK k l0).bind fun a1 => ((qK k l1).bind fun a0 => (if a1.2 = true then (if a0.2 = true then (some (a1.1.toList == a0.1.toList)) else (some false)) else (some false)))
theorem b4s {P : Prop} (h : P := by
 obtain rfl := oI H
 go_enter Try.func24, Try.ntmps24
 go_wp2_with (first | ((with_reducible refine gW ?_); first | (refine gC 21 (some 11) Try.func21 #[.slice A0 l0.length c0] ?_; (with_reducible refine (impl_ShowTerm.calls _ _ _ _ _ _ _ ?side1 ?side2 A3.out).mono ?_); (case side1 => repeat (first | exact a1.out | (with_reducible refine Kd.C_alloc ?_ _) | (with_reducible refine Kd.C_drewN ?_ _) | (with_reducible refine Kd.C_drew ?_))); (case side2 => exact a3.out); rintro e a9 ⟨rfl, hb⟩; refine ⟨_, rfl, ?_⟩; replace HB := hB HB hb; (try clear hb)) | (refine gF 21 (some 16) rfl ?_; refine gS Try.func21 (impl_ShowTerm.calls _ _ _ _ _ _ _ (sC (Kd.C_below a0.out HB.out)) a2.out A4.out) ?_; rintro a8 hb; replace HB := hB HB hb; (try clear hb))))
 go_ret
 exact ⟨rfl, sW HB.out⟩) : P := h
theorem impl_Same.calls {k : Nat} {A0 : Option Addr} {c0 : Nat} {l0 : List (S31)} {A1 : Option Addr} {c1 : Nat} {l1 : List (S31)} {r : Bool} {w : World} (hr0 : Kd.C k31 w A0 l0.length l0) (hc0 : l0.length ≤ c0) (hr1 : Kd.C k31 w A1 l1.length l1) (hc1 : l1.length ≤ c1) (h : vC k l0 l1 = some r) :
  Calls Try.prog 24 #[.slice A0 l0.length c0, .slice A1 l1.length c1] w fun e w' => e = .returned (.bool r) ∧ Below w.heap.size w w' := by
 have a1 := am hr0
 have a3 := am hc0
 clear hr0 hc0
 have a0 := am hr1
 have a2 := am hc1
 clear hr1 hc1
 have HB := am (Below.refl w.heap.size w)
 have H := h
 clear h
 unfold vC at H
 replace H := oA H; obtain ⟨⟨a7, a6⟩, A3, H⟩ := H
 try dsimp only at H
 replace H := oA H; obtain ⟨⟨a5, a4⟩, A4, H⟩ := H
 try dsimp only at H
 replace H := iB H; rcases H with ⟨rfl, H⟩ | ⟨rfl, H⟩
 ·replace H := iB H; rcases H with ⟨rfl, H⟩ | ⟨rfl, H⟩
  ·exact b4s
  exact b4s
 exact b4s
def uK (k : Nat) (l0 : List Int) : Option ((List (S31))) := (xQ k l0).bind fun a0 => ((xP k a0.1 a0.2.1 a0.2.2).bind fun a1 => (some a1.1))
theorem spec_DrawShowTerm.calls {k : Nat} {A0 : Option Addr} {c0 : Nat} {l0 : List Int} {r : List (S31)} {w : World} (hr0 : Kd.C (Kd.int .u8) w A0 l0.length l0) (hc0 : l0.length ≤ c0) (h : uK k l0 = some r) :
  Calls Try.prog 31 #[.slice A0 l0.length c0] w fun e w' => ∃ a2 : Value, e = .returned (a2) ∧ Kd.R k31 31 w' w.heap.size (fun _ => True) a2 r ∧ Below w.heap.size w w' := by
 have a5 := am hr0
 have a6 := am hc0
 clear hr0 hc0
 have HB := am (Below.refl w.heap.size w)
 have H := h
 clear h
 unfold uK at H
 replace H := oA H; obtain ⟨⟨aD, aC, aB⟩, A2, H⟩ := H
 try dsimp only at H
 replace H := oA H; obtain ⟨⟨aA, a9, a8⟩, A3, H⟩ := H
 try dsimp only at H
 obtain rfl := oI H
 go_enter Try.func31, Try.ntmps31
 go_wp2_with (first | ((with_reducible refine gW ?_); first | (refine gF 39 (some 4) rfl ?_; refine gT Try.func39 (spec_l01New.calls w _ (sW HB.out) a5.out a6.out A2.out) ?_; rintro a4 w4 ⟨hi, hb, hb2⟩; replace HB := am hb; have a0 := am hi; (try clear hb); (try clear hb2); (try clear hi)) | (refine gC 60 (some 5) Try.func60 #[.pointer (some ⟨a4, 0, none⟩)] ?_; (with_reducible refine (spec_l02Any.calls w _ ?side1 ?side2 A3.out).mono ?_); (case side1 => repeat (first | (with_reducible first | exact a0.out | apply IsS93.alloc | apply IsS93.drewN | apply IsS93.drew | apply a6n | apply IsS93.set_2) | exact a0.out)); (case side2 => repeat (first | (with_reducible first | exact HB.out | apply kS | apply kN | apply kO | refine kZ ?_ (a2x a0.out)) | exact HB.out)); rintro e w5 ⟨a7, rfl, a3, hi, hb, hk⟩; refine ⟨_, rfl, ?_⟩; have a1 := am (Kd.R_lower a3 (kJ (by repeat (first | (with_reducible first | exact HB.out | apply kS | apply kN | apply kO | refine kZ ?_ (a2x a0.out)) | exact HB.out)))); replace HB := am hb; replace a0 := am hi; (try clear hb); (try clear hk); (try clear hi); (try clear a3))))
 go_ret
 exact ⟨_, rfl, sR <| a1.out, by repeat (first | (with_reducible first | exact HB.out | apply kS | apply kN | apply kO | refine kZ ?_ (a2x a0.out)) | exact HB.out)⟩
section
attribute [local go_sem high] c0e
def sU : Nat → List (S31) → List (S31) → Int → Option (Bool)
 | 0, _, _, _ => none
 | k + 1, x0, x1, x5 => if x5 < (x0.length : Int) then (if 0 ≤ x5 then (if x5 < (x1.length : Int) then (if (!(((kA x0 x5).f0) == ((kA x1 x5).f0)) || (!(((kA x0 x5).f1) == ((kA x1 x5).f1)) || (!(((kA x0 x5).f2) == ((kA x1 x5).f2)) || (!(((kA x0 x5).f3) == ((kA x1 x5).f3)) || (!(((kA x0 x5).f4) == ((kA x1 x5).f4)) || (!(((kA x0 x5).f5) == ((kA x1 x5).f5)))))))) = true then (some false) else (sU k x0 x1 (wrap64 (x5 + 1)))) else (none)) else (none)) else (some true)
def uP (k : Nat) (l0 : List (S31)) (l1 : List (S31)) : Option (Bool) := if (l0.length : Int) = (l1.length : Int) then (sU k l0 l1 0) else (some false)
theorem laws_sameNodes.calls {k : Nat} {A0 : Option Addr} {c0 : Nat} {l0 : List (S31)} {A1 : Option Addr} {c1 : Nat} {l1 : List (S31)} {r : Bool} {w : World} (hr0 : Kd.C k31 w A0 l0.length l0) (hc0 : l0.length ≤ c0) (hr1 : Kd.C k31 w A1 l1.length l1) (hc1 : l1.length ≤ c1) (h : uP k l0 l1 = some r) :
  Calls Try.prog 34 #[.slice A0 l0.length c0, .slice A1 l1.length c1] w fun e w' => e = .returned (.bool r) ∧ Drawn0 w w' := by
 have hu31 := Try.underlying31
 have aJ := am hr0
 have aV := am hc0
 clear hr0 hc0
 have aI := am hr1
 have aU := am hc1
 clear hr1 hc1
 have H := h
 clear h
 unfold uP at H
 by_cases c3 : (l0.length : Int) = (l1.length : Int)
 rotate_left
 ·rw [if_neg c3] at H
  have aF : ((l0.length : Int) == (l1.length : Int)) = false := beq_eq_false_iff_ne.mpr c3
  have aE : ((l0.length : Int) != (l1.length : Int)) = true := bne_iff_ne.mpr c3
  have aD : (l0.length == l1.length) = false := by (simp at c3 ⊢; omega)
  obtain rfl := oI H
  go_enter Try.func34, Try.ntmps34
  go_wp2
  repeat (go_quiet (fail); try go_wp2)
  go_ret
  exact ⟨rfl, dR⟩
 rw [if_pos c3] at H
 have aF : ((l0.length : Int) == (l1.length : Int)) = true := beq_iff_eq.mpr c3
 have aE : ((l0.length : Int) != (l1.length : Int)) = false := bne_eq_false_iff_eq.mpr c3
 have aD : (l0.length == l1.length) = true := by (simp at c3 ⊢; omega)
 clear c3
 replace H := am H
 go_enter Try.func34, Try.ntmps34
 go_wp2
 repeat (go_quiet (fail); try go_wp2)
 go_loopg [5] k (fun kq v5 w' => ∃ (a0 : Int), v5 = .int .i64 a0 ∧ Aside0 (sU kq l0 l1 a0 = some r) ∧ Aside0 (kq ≤ k) ∧ Drawn0 w w')
 case atStart => exact ⟨0, rfl, H, ⟨Nat.le_refl _⟩, dR⟩
 clear H
 clear aF aE aD
 obtain ⟨a0, rfl, HA, aK, ⟨m1, rfl⟩⟩ := hrel
 cases gk with
 | zero => cases HA.out
 | succ k1 =>
  obtain ⟨H⟩ := HA
  simp only [sU] at H
  replace H := iD H; rcases H with ⟨aR, H⟩ | ⟨aR, H⟩
  rotate_left
  ·obtain rfl := oI H
   go_wp2
   repeat (go_quiet (fail); try go_wp2)
   go_ret
   exact ⟨rfl, dR⟩
  replace H := iN H; obtain ⟨aT, H⟩ := H
  replace H := iN H; obtain ⟨aS, H⟩ := H
  by_cases c7 : (!(((kA l0 a0).f0) == ((kA l1 a0).f0)) || (!(((kA l0 a0).f1) == ((kA l1 a0).f1)) || (!(((kA l0 a0).f2) == ((kA l1 a0).f2)) || (!(((kA l0 a0).f3) == ((kA l1 a0).f3)) || (!(((kA l0 a0).f4) == ((kA l1 a0).f4)) || (!(((kA l0 a0).f5) == ((kA l1 a0).f5)))))))) = true
  ·rw [if_pos c7] at H
   have aQ : (!(((kA l0 a0).f0) == ((kA l1 a0).f0)) || (!(((kA l0 a0).f1) == ((kA l1 a0).f1)) || (!(((kA l0 a0).f2) == ((kA l1 a0).f2)) || (!(((kA l0 a0).f3) == ((kA l1 a0).f3)) || (!(((kA l0 a0).f4) == ((kA l1 a0).f4)) || (!(((kA l0 a0).f5) == ((kA l1 a0).f5)))))))) = true := c7
   clear c7
   obtain rfl := oI H
   obtain ⟨aO, aM, aH, rfl, aC, aB, aA, a9, a8, a7⟩ := ix (pL aJ.out a0)
   obtain ⟨aN, aL, aG, rfl, a6, a5, a4, a3, a2, a1⟩ := ix (pL aI.out a0)
   go_wp2
   repeat (go_quiet (fail); try go_wp2)
   go_ret
   exact ⟨rfl, dR⟩
  rw [if_neg c7] at H
  have aQ : (!(((kA l0 a0).f0) == ((kA l1 a0).f0)) || (!(((kA l0 a0).f1) == ((kA l1 a0).f1)) || (!(((kA l0 a0).f2) == ((kA l1 a0).f2)) || (!(((kA l0 a0).f3) == ((kA l1 a0).f3)) || (!(((kA l0 a0).f4) == ((kA l1 a0).f4)) || (!(((kA l0 a0).f5) == ((kA l1 a0).f5)))))))) = false := by simpa using c7
  clear c7
  replace H := am H
  obtain ⟨aO, aM, aH, rfl, aC, aB, aA, a9, a8, a7⟩ := ix (pL aJ.out a0)
  obtain ⟨aN, aL, aG, rfl, a6, a5, a4, a3, a2, a1⟩ := ix (pL aI.out a0)
  go_wp2
  repeat (go_quiet (fail); try go_wp2)
  go_roundg k1
  case measure => have := aK.out; omega
  case rel => exact ⟨(wrap64 (a0 + 1)), rfl, H, ⟨by have := aK.out; omega⟩, dR⟩
end
end Go.Proofs.Ytkpipmojkhikaaa.PAll
