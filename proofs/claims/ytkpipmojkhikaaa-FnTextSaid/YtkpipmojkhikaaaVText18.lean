/- Written by a program of this session over the loaded program, and by hand: Go functions as plain Lean functions, and that a call comes to what they say. -/
import Derived.Test.YtkpipmojkhikaaaVText0
import Derived.Test.YtkpipmojkhikaaaVText2
import Derived.Test.YtkpipmojkhikaaaVText11
import Derived.Test.YtkpipmojkhikaaaVText12
import Derived.Test.YtkpipmojkhikaaaVText15
import Derived.Test.YtkpipmojkhikaaaVText16
import Derived.Test.YtkpipmojkhikaaaVText17
import Derived.Test.YtkpipmojkhikaaaBase
import Derived.Test.YtkpipmojkhikaaaSq
namespace Go.Proofs.Ytkpipmojkhikaaa.PAll
open Go.RowKit Go.Proofs.YtkpipmojkhikaaaW.PrintWords Go.Proofs.YtkpipmojkhikaaaW.PrintLast Go.Proofs.YtkpipmojkhikaaaW.PrintMore Go.Proofs.YtkpipmojkhikaaaW.Sq
attribute [local go_sem] sD rZ uM uL qV qU sA rY
set_option linter.unusedVariables false
set_option linter.unusedSimpArgs false
section
attribute [local go_sem high] c0e
@[reducible] def c8z : Array Bool := #[false, false, false, false, false, false, false, false]
@[reducible] def c8u : Array Bool := #[true, false, false, false, false, false, false, false]
@[reducible] def c8p : Array Bool := #[true, false, true, false, false, false, false, false]
@[reducible] def c8k : Array Bool := #[true, true, true, false, false, false, false, false]
@[reducible] def c8f : Array Bool := #[true, true, true, false, true, false, false, false]
@[reducible] def c8a : Array Bool := #[true, true, true, true, true, false, false, false]
@[reducible] def c7v : Array Bool := #[true, true, true, true, true, true, false, false]
@[reducible] def c7r : Array Bool := #[true, true, true, true, true, true, true, false]
@[reducible] def c7m : Array Bool := #[true, true, true, true, true, true, true, true]
variable {Ax : Option Addr} {cx : Nat}
abbrev RdV := Int → List (S31) → Int → Int → Option ((Int × Bool) × Int × List (S31) × Int × Int)
def a8w (s : ByteArray) (V : RdV) : Prop :=
 ∀ (g : Nat) (a : Int) (l : List (S31)) (code bad p : Int) (ok : Bool) (a' : Int) (l' : List (S31)) (code' bad' : Int) (A : Option Addr) (c : Nat) (w0 w : World), a7q w0 w g s a l code bad A c → l.length ≤ 80 → V a l code bad = some ((p, ok), a', l', code', bad') →
  Calls Try.prog 61 #[.pointer (some ⟨g, 0, none⟩)] w fun e w' => e = .returned (.tuple #[.int .i64 p, .bool ok]) ∧ Left w0 w w' g s a' l' code' bad' A c l.length
def a3x (V : RdV) (s : ByteArray) (frm : Int) : Nat → Int → List (S31) → Int → Int → List Int → Option (Bool × List Int × Int × List (S31) × Int × Int)
 | 0, a, l, c, b, acc => some (true, acc, a, l, c, b)
 | m + 1, a, l, c, b, acc => (goF s a l c b 32).bind fun g => if g.1 = true then (V g.2 l c b).bind fun r => (if r.1.2 = true then a3x V s frm m r.2.1 r.2.2.1 r.2.2.2.1 r.2.2.2.2 (acc ++ [r.1.1]) else some (false, acc, r.2.1, r.2.2.1, r.2.2.2.1, r.2.2.2.2)) else some (false, acc, g.2, l, 2, frm)
def a5v (k : Nat) (V : RdV) (s : ByteArray) (a : Int) (l : List (S31)) (code bad frm : Int) : Option ((Int × Bool) × Int × List (S31) × Int × Int) :=
 (wF k s a l code bad).bind fun w1 => (vQ k w1.1).bind fun o => if o.2 = true then
  (yR k s w1.2 l code bad ⟨o.1, 0, 0, 0, 0, 0⟩).bind fun m => (if m.1 = true then
   (a3x V s frm (kV m.2.2.f0 m.2.2.f3 m.2.2.f4 m.2.2.f5).length m.2.1 l code bad []).bind fun q => (if q.1 = true then
    (goF s q.2.2.1 q.2.2.2.1 q.2.2.2.2.1 q.2.2.2.2.2 41).bind fun e => (if e.1 = true then
     (pC k s e.2 q.2.2.2.1 q.2.2.2.2.1 q.2.2.2.2.2 m.2.2.f0 m.2.2.f1 m.2.2.f2 (rd q.2.1 0) (if m.2.2.f0 = 19 ∨ m.2.2.f0 = 20 then m.2.2.f4 else rd q.2.1 1) (rd q.2.1 2)).bind fun wd =>
      some (a8z q.2.2.2.1 q.2.2.2.2.1 q.2.2.2.2.2 ⟨m.2.2.f0, wd.1, m.2.2.f2, rd q.2.1 0, if m.2.2.f0 = 19 ∨ m.2.2.f0 = 20 then m.2.2.f4 else rd q.2.1 1, rd q.2.1 2⟩ frm e.2)
    else some ((0, false), e.2, q.2.2.2.1, 2, frm))
   else some ((0, false), q.2.2.1, q.2.2.2.1, q.2.2.2.2.1, q.2.2.2.2.2))
  else some ((0, false), m.2.1, l, 2, frm))
 else some ((0, false), w1.2, l, 2, frm)
set_option maxHeartbeats 4000000 in
set_option maxRecDepth 100000 in
theorem zE (k g : Nat) (V : RdV) (s : ByteArray) (hV : a8w s V) (a a1 : Int) (l : List (S31)) (code bad p : Int) (ok : Bool) (a' : Int) (l' : List (S31)) (code' bad' : Int) (A : Option Addr) (c : Nat) (w0 w : World) (hI : a7q w0 w g s a l code bad A c) (hl : l.length ≤ 80) (hg : goF s a l code bad 40 = some (true, a1))
  (hf : a5v k V s a1 l code bad a = some ((p, ok), a', l', code', bad')) :
  Calls Try.prog 61 #[.pointer (some ⟨g, 0, none⟩)] w fun e w' => e = .returned (.tuple #[.int .i64 p, .bool ok]) ∧ Left w0 w w' g s a' l' code' bad' A c l.length := by
 obtain ⟨hS, hR, hB⟩ := hI
 have HV := am hV
 have HS := am hS; have HR := am hR; have HB := am hB; have HL := am hl; have HG := am hg
 unfold a5v at hf
 obtain ⟨⟨v1, a2⟩, aB, hf⟩ := oB hf
 obtain ⟨⟨op, f1⟩, aC, hf⟩ := oB hf
 have HW := am aB; have HP := am aC; have HF := am hf
 obtain ⟨A2, c2, hbg, _, _, _⟩ := hS
 have g1 := (kG hbg 1)
 have g1 : w.cell? ⟨g, 1, none⟩ = some (.int .i64 a) := g1.trans rfl
 have HK := am (Kept.refl w (fun k => k = g ∨ some k = (Value.slice A l.length c).ownBlock))
 clear hR hB hl hg aB aC hf hbg hV
 go_enter Try.func61, Try.ntmps61
 go_wp2_with fail
 refine (b1u g s a l code bad 40 true a1 w0 _ HS.out HB.out HG.out).mono ?_
 rintro e w1 ⟨rfl, hi, hb, hk⟩
 have HS := am hi; have HR := am (Kd.R_keep HR.out hk (fun _ h => h)); have HB := am hb; have HK := am (kY HK.out hk (.inl (.inl rfl)))
 clear hi hb hk g1
 go_wp2_with fail
 refine (b6a k g s a1 l code bad v1 a2 w0 _ HS.out HB.out HW.out).mono ?_
 rintro e w2 ⟨rfl, hi, hb, hk⟩
 have HS := am hi; have HR := am (Kd.R_keep HR.out hk (fun _ h => h)); have HB := am hb; have HK := am (kY HK.out hk (.inl (.inl rfl)))
 clear hi hb hk
 go_wp2_with fail
 refine (impl_opOf.calls k v1 op f1 _ HP.out).mono ?_
 rintro e w3 ⟨rfl, hd⟩
 have HS := am (IsS84.below HS.out hd); have HR := am (Kd.R_below HR.out hd); have HB := am (HB.out.trans (hd.mono HB.out.size)); have HK := am (HK.out.below hd)
 clear hd
 have BN := am (heap_alloc_new w3 (Obj.cells #[Value.int .i64 op, Value.int .i64 0, Value.int .i64 0, Value.int .i64 0, Value.int .i64 0, Value.int .i64 0] 31))
 have hA := kS (Below.refl w3.heap.size w3) (Obj.cells #[Value.int .i64 op, Value.int .i64 0, Value.int .i64 0, Value.int .i64 0, Value.int .i64 0, Value.int .i64 0] 31)
 have HNO := am (show ∀ k, (Value.slice A l.length c).ownBlock = some k → k < w3.heap.size from fun k e => Kd.R_lt HR.out k e)
 have HB3 := am (kJ HB.out)
 have HW3 := am (show w.heap.size ≤ w3.heap.size from HK.out.1)
 have HS := am (IsS84.below HS.out hA); have HR := am (Kd.R_below HR.out hA); have HB := am (HB.out.trans (hA.mono HB.out.size)); have HK := am (HK.out.below hA)
 cases f1 with
 | false =>
  have hf := HF.out
  rw [if_neg (by decide)] at hf
  simp only [Option.some.injEq, Prod.mk.injEq] at hf
  obtain ⟨⟨rfl, rfl⟩, rfl, rfl, rfl, rfl⟩ := hf
  clear hA
  go_wp2_with fail
  refine (impl_termReader_fails.calls g s a2 l code bad 2 a 0 false s a2 2 a w0 _ HS.out HB.out rfl).mono ?_
  rintro e w5 ⟨rfl, hi, hb, hk⟩
  have HS := am hi; have HR := am (Kd.R_keep HR.out hk (fun _ h => h)); have HB := am hb; have HK := am (kY HK.out hk (.inl (.inl rfl)))
  clear hi hb hk
  go_wp2_with fail
  refine bodyPost_ret (pG (rs := [.tmp 2, .tmp 3]) rfl (by simp) (.tmp (.tmp .nil))) rfl ?_
  exact ⟨rfl, ⟨A, c, ⟨HS.out, HR.out, HB.out⟩, fun k e => .inl e.symm⟩, HK.out, HL.out⟩
 | true =>
  have hf := HF.out
  rw [if_pos rfl] at hf
  obtain ⟨⟨f2, a3, n1⟩, hm, hf⟩ := oB hf
  have HM := am hm; have HF := am hf
  clear hm hf hA
  go_wp2_with fail
  refine (impl_termReader_numbers.calls k g w3.heap.size s a2 l code bad ⟨op, 0, 0, 0, 0, 0⟩ f2 a3 n1 A c w0 _ ⟨HS.out, HB.out, BN.out, Kept.refl _ _⟩ HB3.out HM.out).mono ?_
  rintro e w5 ⟨rfl, hS5, hB5, hN5, hK5⟩
  have HR := am (Kd.R_mono (Kd.R_kept (Kd.R_mono (Kd.R_tight rfl HR.out) (ok' := fun k => k ≠ g ∧ k ≠ w3.heap.size) (fun k e => ⟨HR.out.1 k e.symm, by have := HNO.out k e.symm; omega⟩)) hK5 (fun k hk hs => by rcases hs with h | h; exact hk.1 h; exact hk.2 h)) (fun _ h => h.1))
  have HK := am (HK.out.then_ hK5 (fun k h => by rcases h with h | h; exact .inl (.inl h); exact .inr (by have := HW3.out; omega)))
  have HS := am hS5; have HB := am hB5; have BN := am hN5
  clear hS5 hB5 hN5 hK5
  cases f2 with
  | false =>
   have hf := HF.out
   rw [if_neg (by decide)] at hf
   simp only [Option.some.injEq, Prod.mk.injEq] at hf
   obtain ⟨⟨rfl, rfl⟩, rfl, rfl, rfl, rfl⟩ := hf
   go_wp2_with fail
   refine (impl_termReader_fails.calls g s a3 l code bad 2 a 0 false s a3 2 a w0 _ HS.out HB.out rfl).mono ?_
   rintro e w6 ⟨rfl, hi, hb, hk⟩
   have HS := am hi; have HR := am (Kd.R_keep HR.out hk (fun _ h => h)); have HB := am hb; have HK := am (kY HK.out hk (.inl (.inl rfl)))
   clear hi hb hk
   go_wp2_with fail
   refine bodyPost_ret (pG (rs := [.tmp 2, .tmp 3]) rfl (by simp) (.tmp (.tmp .nil))) rfl ?_
   exact ⟨rfl, ⟨A, c, ⟨HS.out, HR.out, HB.out⟩, fun k e => .inl e.symm⟩, HK.out, HL.out⟩
  | true =>
   have hf := HF.out
   rw [if_pos rfl] at hf
   have HF := am hf
   clear hf
   obtain ⟨⟨m0, m1, m2, m3, m4, m5⟩, hn1⟩ : ∃ n, n1 = n := ⟨_, rfl⟩
   subst hn1
   have BP := am (heap_alloc_new w5 (Obj.cells #[Value.int .i64 0, Value.int .i64 0, Value.int .i64 0] 101))
   have hA := kS (Below.refl w5.heap.size w5) (Obj.cells #[Value.int .i64 0, Value.int .i64 0, Value.int .i64 0] 101)
   have HNP := am (show ∀ k, (Value.slice A l.length c).ownBlock = some k → k < w5.heap.size from fun k e => Kd.R_lt HR.out k e)
   have HHP := am (show w3.heap.size < w5.heap.size from sO BN.out)
   have HW5 := am (show w.heap.size ≤ w5.heap.size from HK.out.1)
   have HB5 := am (kJ HB.out)
   have HS := am (IsS84.below HS.out hA); have HR := am (Kd.R_below HR.out hA); have HB := am (HB.out.trans (hA.mono HB.out.size)); have HK := am (HK.out.below hA); have BN := am (kI BN.out hA)
   obtain ⟨q0, q1, q2, q3, q4, q5⟩ := a2a BN.out
   clear hA
   go_wp2_with fail
   refine (impl_Parts.calls 1 m0 m1 m2 m3 m4 m5 (kV m0 m3 m4 m5) _ (a9z m0 m1 m2 m3 m4 m5 (Nat.le_refl 1))).mono ?_
   rintro e w6 ⟨v6, rfl, hO, hb6⟩
   obtain ⟨A6, c6, e6⟩ := Kd.R_slice hO
   subst e6
   have HS := am (IsS84.below HS.out hb6); have HR := am (Kd.R_below HR.out hb6); have HB := am (HB.out.trans (hb6.mono HB.out.size)); have HK := am (HK.out.below hb6); have BN := am (kI BN.out hb6); have BP := am (kI BP.out hb6)
   have HPL := am (uD m0 m3 m4 m5)
   clear hO hb6 q0 q1 q2 q3 q4 q5
   have hf := HF.out
   obtain ⟨⟨fq, acc, aq, lq, cq, bq⟩, hkq, hf⟩ := oB hf
   try simp only [] at hkq
   have HKQ := am hkq; have HF := am hf
   clear hf hkq
   have HOW := am (show ∀ k, (Value.slice A l.length c).ownBlock = some k → (some k = (Value.slice A l.length c).ownBlock ∨ w.heap.size ≤ k) ∧ k ≠ w3.heap.size ∧ k ≠ w5.heap.size from fun k e => ⟨.inl e.symm, by have := HNO.out k e; omega, by have := HNP.out k e; omega⟩)
   have BP := am (show w6.heap[w5.heap.size]? = some (.cells (xc []) 101 (0, 0)) from BP.out)
   go_wp2_with fail
   go_loopg [13, 14, 15, 84] (kV m0 m3 m4 m5).length (fun gk u13 u14 u15 u84 w' => ∃ (i : Nat) (acc1 : List Int) (at1 : Int) (l1 : List (S31)) (c1 b1 : Int) (A1 : Option Addr) (cc1 : Nat), u84 = .int .i64 (i : Int) ∧ Aside0 (gk + i = (kV m0 m3 m4 m5).length ∧ acc1.length = i) ∧ Aside0 (a3x V s a gk at1 l1 c1 b1 acc1 = some (fq, acc, aq, lq, cq, bq)) ∧ Aside0 (a7q w0 w' g s at1 l1 c1 b1 A1 cc1) ∧ Aside0 (∀ k, (Value.slice A1 l1.length cc1).ownBlock = some k → (some k = (Value.slice A l.length c).ownBlock ∨ w.heap.size ≤ k) ∧ k ≠ w3.heap.size ∧ k ≠ w5.heap.size) ∧ Aside0 (Kept w w' (fun k => k = g ∨ some k = (Value.slice A l.length c).ownBlock)) ∧ Aside0 (l1.length ≤ 80) ∧ Aside0 (w'.heap[w3.heap.size]? = some (.cells #[.int .i64 m0, .int .i64 m1, .int .i64 m2, .int .i64 m3, .int .i64 m4, .int .i64 m5] 31 (0, 0))) ∧ Aside0 (w'.heap[w5.heap.size]? = some (.cells (xc acc1) 101 (0, 0))))
   case atStart => exact ⟨0, [], a3, l, code, bad, A, c, rfl, ⟨rfl, rfl⟩, HKQ, ⟨HS.out, HR.out, HB.out⟩, HOW, HK, HL, BN, BP⟩
   case round =>
    obtain ⟨i, acc1, at1, l1, c1, b1, A1, cc1, rfl, HJ, HKQ, HI, HOW, HK, HL1, BN, BP⟩ := hrel
    by_cases hi : i < (kV m0 m3 m4 m5).length
    ·have t2 : decide ((i : Int) < ((kV m0 m3 m4 m5).length : Int)) = true := decide_eq_true oM
     obtain ⟨gk2, rfl⟩ : ∃ g2, gk = g2 + 1 := ⟨gk - 1, by have := HJ.out.1; omega⟩
     have hh := HKQ.out
     unfold a3x at hh
     obtain ⟨⟨fg, at2⟩, hg1, hh⟩ := oB hh
     have HG1 := am hg1; have HH := am hh
     clear hg1 hh HKQ
     go_wp2_with fail
     refine (b1u g s at1 l1 c1 b1 32 fg at2 w0 _ HI.out.1 HI.out.2.2 HG1.out).mono ?_
     rintro e w7 ⟨rfl, hi7, hb7, hk7⟩
     have a7 := am (Kd.R_keep HI.out.2.1 hk7 (fun _ h => h))
     have hgh : g ≠ w3.heap.size := wN HI.out.1 BN.out (by decide)
     have hgp : g ≠ w5.heap.size := wN HI.out.1 BP.out (by decide)
     have BN := am ((hk7.2 _ (sO BN.out) (fun e => hgh e.symm) (by simp)).trans BN.out)
     have BP := am ((hk7.2 _ (sO BP.out) (fun e => hgp e.symm) (by simp)).trans BP.out)
     have HK := am (kY HK.out hk7 (.inl (.inl rfl)))
     have HI := am (show a7q w0 w7 g s at2 l1 c1 b1 A1 cc1 from ⟨hi7, a7.out, hb7⟩)
     clear hi7 hb7 hk7 a7
     cases fg with
     | false =>
      have hh := HH.out
      rw [if_neg (by decide)] at hh
      simp only [Option.some.injEq, Prod.mk.injEq] at hh
      obtain ⟨rfl, rfl, rfl, rfl, rfl, rfl⟩ := hh
      have hf := HF.out
      rw [if_neg (by decide)] at hf
      simp only [Option.some.injEq, Prod.mk.injEq] at hf
      obtain ⟨⟨rfl, rfl⟩, rfl, rfl, rfl, rfl⟩ := hf
      go_wp2_with fail
      refine (impl_termReader_fails.calls g s at2 l1 c1 b1 2 a 0 false s at2 2 a w0 w7 HI.out.1 HI.out.2.2 rfl).mono ?_
      rintro e w8 ⟨rfl, hi8, hb8, hk8⟩
      have aA := am (show a7q w0 w8 g s at2 l1 2 a A1 cc1 from ⟨hi8, Kd.R_keep HI.out.2.1 hk8 (fun _ h => h), hb8⟩)
      have HK := am (kY HK.out hk8 (.inl (.inl rfl)))
      clear hi8 hb8 hk8
      go_wp2_with fail
      refine bodyPost_ret (pG (rs := [.tmp 2, .tmp 3]) rfl (by simp) (.tmp (.tmp .nil))) rfl ?_
      exact ⟨rfl, ⟨A1, cc1, aA.out, fun k e => (HOW.out k e).1⟩, HK.out, HL1.out⟩
     | true =>
      have hh := HH.out
      rw [if_pos rfl] at hh
      obtain ⟨⟨⟨pv, okv⟩, at3, l3, c3, b3⟩, hv, hh⟩ := oB hh
      have HVV := am hv; have HH := am hh
      clear hv hh
      go_wp2_with fail
      refine (HV.out g at2 l1 c1 b1 pv okv at3 l3 c3 b3 A1 cc1 w0 w7 HI.out HL1.out HVV.out).mono ?_
      rintro e w8 ⟨rfl, ⟨A3, cc3, hI8, hO8⟩, hK8, hL8⟩
      have HHN := am (show w3.heap.size < w7.heap.size from sO BN.out)
      have HPN := am (show w5.heap.size < w7.heap.size from sO BP.out)
      have HW7 := am (show w.heap.size ≤ w7.heap.size from HK.out.1)
      have BN := am (zJ BN.out hK8 (fun hs => by rcases hs with h | h; exact hgh h.symm; exact (HOW.out _ h.symm).2.1 rfl))
      have BP := am (zJ BP.out hK8 (fun hs => by rcases hs with h | h; exact hgp h.symm; exact (HOW.out _ h.symm).2.2 rfl))
      have HK := am (HK.out.then_ hK8 (fun k h => by
       rcases h with h | h
       ·exact .inl (.inl h)
       ·rcases (HOW.out k h.symm).1 with h2 | h2
        ·exact .inl (.inr h2)
        ·exact .inr h2))
      have HOW := am (show ∀ k, (Value.slice A3 l3.length cc3).ownBlock = some k → (some k = (Value.slice A l.length c).ownBlock ∨ w.heap.size ≤ k) ∧ k ≠ w3.heap.size ∧ k ≠ w5.heap.size from fun k e => by
       rcases hO8 k e with h | h
       ·exact HOW.out k h.symm
       ·exact ⟨.inr (Nat.le_trans HW7.out h), by have := HHN.out; omega, by have := HPN.out; omega⟩)
      have HI := am hI8; have HL3 := am hL8
      clear hI8 hO8 hK8 hL8
      cases okv with
      | false =>
       have hh := HH.out
       rw [if_neg (by decide)] at hh
       simp only [Option.some.injEq, Prod.mk.injEq] at hh
       obtain ⟨rfl, rfl, rfl, rfl, rfl, rfl⟩ := hh
       have hf := HF.out
       rw [if_neg (by decide)] at hf
       simp only [Option.some.injEq, Prod.mk.injEq] at hf
       obtain ⟨⟨rfl, rfl⟩, rfl, rfl, rfl, rfl⟩ := hf
       go_wp2_with fail
       refine bodyPost_ret (pG (rs := [.tmp 2, .tmp 3]) rfl (by simp) (.tmp (.tmp .nil))) rfl ?_
       exact ⟨rfl, ⟨A3, cc3, HI.out, fun k e => (HOW.out k e).1⟩, HK.out, HL3.out⟩
      | true =>
       have hh := HH.out
       rw [if_pos rfl] at hh
       have HKQ := am hh
       clear hh HH
       have hi3 : i < 3 := by have := HPL.out; omega
       have t3 : decide ((i : Int) < 3) = true := decide_eq_true oM
       obtain ⟨xv, hxv⟩ := c9w acc1 i hi3
       have hxx := (kG BP.out i).trans hxv
       have hfx := kE BP.out i
       have kk : (0 : Int) ≤ (i : Int) ∧ (i : Int) < 3 := by omega
       have BN := am (xH (p := ⟨w5.heap.size, i, none⟩) BN.out (by have := HHP.out; show w3.heap.size ≠ w5.heap.size; omega) (.int .i64 pv))
       have BP1 := qM BP.out i (.int .i64 pv)
       rw [← HJ.out.2, c9v acc1 pv (by rw [HJ.out.2]; exact hi3), HJ.out.2] at BP1
       have BP := am BP1
       have HI := am (show a7q w0 (w8.setCell ⟨w5.heap.size, i, none⟩ (.int .i64 pv)) g s at3 l3 c3 b3 A3 cc3 from ⟨IsS84.far HI.out.1 hgp _, Kd.R_mono (Kd.R_far (p := ⟨w5.heap.size, i, none⟩) (Kd.R_mono (Kd.R_tight rfl HI.out.2.1) (ok' := fun k => k ≠ g ∧ k ≠ w5.heap.size) (fun k e => ⟨HI.out.2.1.1 k e.symm, (HOW.out k e.symm).2.2⟩)) (fun k h => h.2) (.int .i64 pv)) (fun k h => h.1), kZ HI.out.2.2 HB5.out⟩)
       have HK := am (HK.out.setCell (p := ⟨w5.heap.size, i, none⟩) (.inr HW5.out) (.int .i64 pv))
       clear BP1 hxv
       go_wp2_with fail
       clear hxx hfx kk t3
       go_roundg gk2
       case measure => omega
       case rel => exact ⟨i + 1, acc1 ++ [pv], at3, l3, c3, b3, A3, cc3, by go_num, ⟨by have := HJ.out.1; omega, by have := HJ.out.2; simp; omega⟩, HKQ, HI, HOW, HK, HL3, BN, BP⟩
    ·obtain rfl : i = (kV m0 m3 m4 m5).length := by have := HJ.out.1; omega
     have hgk : gk = 0 := by have := HJ.out.1; omega
     subst hgk
     have t2 : decide (((kV m0 m3 m4 m5).length : Int) < ((kV m0 m3 m4 m5).length : Int)) = false := decide_eq_false oM
     have hh := HKQ.out
     unfold a3x at hh
     simp only [Option.some.injEq, Prod.mk.injEq] at hh
     obtain ⟨rfl, rfl, rfl, rfl, rfl, rfl⟩ := hh
     have hf := HF.out
     rw [if_pos rfl] at hf
     obtain ⟨⟨fe, ae⟩, hge, hf⟩ := oB hf
     have HGE := am hge; have HF := am hf
     clear hge hf HKQ
     go_wp2_with fail
     refine (b1u g s at1 l1 c1 b1 41 fe ae w0 _ HI.out.1 HI.out.2.2 HGE.out).mono ?_
     rintro e w7 ⟨rfl, hi7, hb7, hk7⟩
     have a7 := am (Kd.R_keep HI.out.2.1 hk7 (fun _ h => h))
     have hgh : g ≠ w3.heap.size := wN HI.out.1 BN.out (by decide)
     have hgp : g ≠ w5.heap.size := wN HI.out.1 BP.out (by decide)
     have BN := am ((hk7.2 _ (sO BN.out) (fun e => hgh e.symm) (by simp)).trans BN.out)
     have BP := am ((hk7.2 _ (sO BP.out) (fun e => hgp e.symm) (by simp)).trans BP.out)
     have HK := am (kY HK.out hk7 (.inl (.inl rfl)))
     have HI := am (show a7q w0 w7 g s ae l1 c1 b1 A1 cc1 from ⟨hi7, a7.out, hb7⟩)
     clear hi7 hb7 hk7 a7
     cases fe with
     | false =>
      have hf := HF.out
      rw [if_neg (by decide)] at hf
      simp only [Option.some.injEq, Prod.mk.injEq] at hf
      obtain ⟨⟨rfl, rfl⟩, rfl, rfl, rfl, rfl⟩ := hf
      go_wp2_with fail
      refine (impl_termReader_fails.calls g s ae l1 c1 b1 2 a 0 false s ae 2 a w0 w7 HI.out.1 HI.out.2.2 rfl).mono ?_
      rintro e w8 ⟨rfl, hi8, hb8, hk8⟩
      have aA := am (show a7q w0 w8 g s ae l1 2 a A1 cc1 from ⟨hi8, Kd.R_keep HI.out.2.1 hk8 (fun _ h => h), hb8⟩)
      have HK := am (kY HK.out hk8 (.inl (.inl rfl)))
      clear hi8 hb8 hk8
      go_wp2_with fail
      refine bodyPost_ret (pG (rs := [.tmp 2, .tmp 3]) rfl (by simp) (.tmp (.tmp .nil))) rfl ?_
      exact ⟨rfl, ⟨A1, cc1, aA.out, fun k e => (HOW.out k e).1⟩, HK.out, HL1.out⟩
     | true =>
      have hf := HF.out
      rw [if_pos rfl] at hf
      obtain ⟨⟨wd, wd2, wd3, wd4, wd5⟩, hwd, hf⟩ := oB hf
      have HWD := am hwd; have HF9 := am hf
      clear hwd hf
      go_wp2_with fail
      obtain ⟨r0, r1, r2, r3, r4, r5⟩ := a2a BN.out
      have hz35 := kE BN.out 5
      have hz33 := kE BN.out 3
      have p0 : w7.cell? ⟨w5.heap.size, 0, none⟩ = some (.int .i64 (rd acc1 0)) := (kG BP.out 0).trans rfl
      have p2 : w7.cell? ⟨w5.heap.size, 2, none⟩ = some (.int .i64 (rd acc1 2)) := (kG BP.out 2).trans rfl
      refine tM (n := 8) (S := fun w' => w'.cell? ⟨w5.heap.size, 0, none⟩ = some (.int .i64 (rd acc1 0)) ∧ w'.cell? ⟨w5.heap.size, 2, none⟩ = some (.int .i64 (rd acc1 2))) (ds := []) c8z (by kernel_rfl) rfl rfl ⟨p0, p2⟩ (fun hHeld => ?_)
      refine pS (i := 0) (N := some 114) c8u ?_
      refine pS (i := 2) (N := some 116) c8p ?_
      refine qF (i := 1) (N := some 115) (v := ?_) (a' := ?_) c8k rfl rfl (by kernel_rfl) (fun _ _ _ h => h) (Or.inl ⟨by rfl, ?_⟩) hHeld ?_ ?_
      rotate_left
      ·rintro w' ⟨s0, s1⟩
       go_simp
       with_reducible rfl
      rotate_left
      ·simp only [Act.put, List.setIfInBounds_toArray, List.set_cons_zero, List.set_cons_succ, xW, a1l]
       rfl
      refine pS (i := 4) (N := some 118) c8f ?_
      refine qF (i := 3) (N := some 117) (v := ?_) (a' := ?_) c8a rfl rfl (by kernel_rfl) (fun _ _ _ h => h) (Or.inl ⟨by rfl, ?_⟩) hHeld ?_ ?_
      rotate_left
      ·rintro w' ⟨s0, s1⟩
       go_simp
       with_reducible rfl
      rotate_left
      ·simp only [Act.put, List.setIfInBounds_toArray, List.set_cons_zero, List.set_cons_succ, xW, a1l]
       rfl
      refine yN (i := 5) (N := none) c7v rfl rfl (by kernel_rfl) (by decide) (fun K hK => ?_)
      have BN := am (pO BN.out)
      have BP := am (pO BP.out)
      refine a3w (w1 := ?_) (by rfl) rfl ?_ ?_
      rotate_left
      ·go_simp
       rfl
      have BP := am (xH (p := ⟨w3.heap.size, 3, none⟩) BP.out (by have := HHP.out; show w5.heap.size ≠ w3.heap.size; omega) (.int .i64 (rd acc1 0)))
      have BN := am (show (w7.drew.setCell ⟨w3.heap.size, 3, none⟩ (.int .i64 (rd acc1 0))).heap[w3.heap.size]? = some (.cells #[.int .i64 m0, .int .i64 m1, .int .i64 m2, .int .i64 (rd acc1 0), .int .i64 m4, .int .i64 m5] 31 (0, 0)) from by simpa using qM BN.out 3 (.int .i64 (rd acc1 0)))
      refine hK.out _ _ ⟨((kG BP.out 0).trans rfl), ((kG BP.out 2).trans rfl)⟩ (fun hHeld => ?_)
      clear hK K
      refine pS (i := 6) (N := some 119) c7r ?_
      refine yN (i := 7) (N := none) c7m rfl rfl (by kernel_rfl) (by decide) (fun K hK => ?_)
      refine a3w (w1 := ?_) (by rfl) rfl ?_ ?_
      rotate_left
      ·go_simp
       rfl
      have BP := am (xH (p := ⟨w3.heap.size, 5, none⟩) BP.out (by have := HHP.out; show w5.heap.size ≠ w3.heap.size; omega) (.int .i64 (rd acc1 2)))
      have BN := am (show ((w7.drew.setCell ⟨w3.heap.size, 3, none⟩ (.int .i64 (rd acc1 0))).setCell ⟨w3.heap.size, 5, none⟩ (.int .i64 (rd acc1 2))).heap[w3.heap.size]? = some (.cells #[.int .i64 m0, .int .i64 m1, .int .i64 m2, .int .i64 (rd acc1 0), .int .i64 m4, .int .i64 (rd acc1 2)] 31 (0, 0)) from by simpa using qM BN.out 5 (.int .i64 (rd acc1 2)))
      refine hK.out _ _ ⟨((kG BP.out 0).trans rfl), ((kG BP.out 2).trans rfl)⟩ (fun hHeld => ?_)
      clear hK K
      refine yK (by kernel_rfl) ?_
      have HI := am (show a7q w0 ((w7.setCell ⟨w3.heap.size, 3, none⟩ (.int .i64 (rd acc1 0))).setCell ⟨w3.heap.size, 5, none⟩ (.int .i64 (rd acc1 2))).drew g s ae l1 c1 b1 A1 cc1 from ⟨IsS84.drew (IsS84.far (IsS84.far HI.out.1 hgh _) hgh _), Kd.R_drew (Kd.R_mono (Kd.R_far (p := ⟨w3.heap.size, 5, none⟩) (Kd.R_far (p := ⟨w3.heap.size, 3, none⟩) (Kd.R_mono (Kd.R_tight rfl HI.out.2.1) (ok' := fun k => k ≠ g ∧ k ≠ w3.heap.size) (fun k e => ⟨HI.out.2.1.1 k e.symm, (HOW.out k e.symm).2.1⟩)) (fun k h => h.2) _) (fun k h => h.2) _) (fun k h => h.1)), kO (kZ (kZ HI.out.2.2 HB3.out) HB3.out)⟩)
      have HK := am (show Kept w ((w7.setCell ⟨w3.heap.size, 3, none⟩ (.int .i64 (rd acc1 0))).setCell ⟨w3.heap.size, 5, none⟩ (.int .i64 (rd acc1 2))).drew (fun k => k = g ∨ some k = (Value.slice A l.length c).ownBlock) from Kept.drew ((HK.out.setCell (p := ⟨w3.heap.size, 3, none⟩) (.inr HW3.out) _).setCell (p := ⟨w3.heap.size, 5, none⟩) (.inr HW3.out) _))
      have BN := am (show ((w7.setCell ⟨w3.heap.size, 3, none⟩ (.int .i64 (rd acc1 0))).setCell ⟨w3.heap.size, 5, none⟩ (.int .i64 (rd acc1 2))).drew.heap[w3.heap.size]? = some (.cells #[.int .i64 m0, .int .i64 m1, .int .i64 m2, .int .i64 (rd acc1 0), .int .i64 m4, .int .i64 (rd acc1 2)] 31 (0, 0)) from BN.out)
      have BP := am (show ((w7.setCell ⟨w3.heap.size, 3, none⟩ (.int .i64 (rd acc1 0))).setCell ⟨w3.heap.size, 5, none⟩ (.int .i64 (rd acc1 2))).drew.heap[w5.heap.size]? = some (.cells (xc acc1) 101 (0, 0)) from BP.out)
      clear r0 r1 r2 r3 r4 r5 hz35 hz33 p0 p2 hHeld
      generalize ((w7.setCell ⟨w3.heap.size, 3, none⟩ (.int .i64 (rd acc1 0))).setCell ⟨w3.heap.size, 5, none⟩ (.int .i64 (rd acc1 2))).drew = w8 at *
      obtain ⟨q0, q1, q2, q3, q4, q5⟩ := a2a BN.out
      obtain ⟨qb, hqb⟩ : ∃ qb, ((m0 == 19) || (m0 == 20)) = qb := ⟨_, rfl⟩
      have HQB := am hqb
      clear hqb
      go_wp2_with fail
      refine (impl_isQuant.calls qb _ (by rw [b9y, HQB.out])).mono ?_
      rintro e w9 ⟨rfl, hd⟩
      have HI := am (show a7q w0 w9 g s ae l1 c1 b1 A1 cc1 from ⟨IsS84.below HI.out.1 hd, Kd.R_below HI.out.2.1 hd, HI.out.2.2.trans (hd.mono HI.out.2.2.size)⟩)
      have HK := am (HK.out.below hd); have BN := am (kI BN.out hd); have BP := am (kI BP.out hd)
      clear hd q0 q1 q2 q3 q4 q5
      have a0 : pC k s ae l1 c1 b1 m0 m1 m2 (rd acc1 0) (if m0 = 19 ∨ m0 = 20 then m4 else rd acc1 1) (rd acc1 2) = some (wd, wd2, wd3, wd4, wd5) := HWD.out
      have hf0 : some (a8z l1 c1 b1 ⟨m0, wd, m2, rd acc1 0, if m0 = 19 ∨ m0 = 20 then m4 else rd acc1 1, rd acc1 2⟩ a ae) = some ((p, ok), a', l', code', bad') := HF9.out
      obtain ⟨e2, e3, e4, e5⟩ := b1i a0
      rw [e2, e3, e4, e5] at a0
      unfold a8z at hf0
      simp only [Option.some.injEq, Prod.mk.injEq] at hf0
      obtain ⟨a6, rfl, a5⟩ := hf0
      clear HWD HF9 e2 e3 e4 e5
      cases qb with
      | true =>
       have hB : (if m0 = 19 ∨ m0 = 20 then m4 else rd acc1 1) = m4 := if_pos (by have := HQB.out; simpa using this)
       rw [hB] at a0 a6 a5
       have HWD := am a0; have HQ := am (show a1j l1 c1 b1 ⟨m0, wd, m2, rd acc1 0, m4, rd acc1 2⟩ a = ((p, ok), l', code', bad') from Prod.ext a6 a5)
       clear a0 a6 a5 hB
       obtain ⟨q0, q1, q2, q3, q4, q5⟩ := a2a BN.out
       go_wp2_with fail
       refine (impl_termReader_width.calls k g s ae l1 c1 b1 m0 m1 m2 (rd acc1 0) m4 (rd acc1 2) wd s ae c1 b1 w0 _ HI.out.1 HI.out.2.2 (Kd.C_foot_own HI.out.2.1 (fun _ h => h)) HWD.out).mono ?_
       rintro e w10 ⟨rfl, hi, hb, hk⟩
       have a4 := am (Kd.R_keep HI.out.2.1 hk (fun _ h => h))
       have BN := am ((hk.2 _ (sO BN.out) (fun e => hgh e.symm) (by simp)).trans BN.out)
       have HK := am (kY HK.out hk (.inl (.inl rfl)))
       have HI := am (show a7q w0 w10 g s ae l1 c1 b1 A1 cc1 from ⟨hi, a4.out, hb⟩)
       clear hi hb hk a4 q0 q1 q2 q3 q4 q5
       have hz1 := kE BN.out 1
       obtain ⟨u0, u1, u2, u3, u4, u5⟩ := a2a BN.out
       have HI := am (show a7q w0 (w10.setCell ⟨w3.heap.size, 1, none⟩ (.int .i64 wd)) g s ae l1 c1 b1 A1 cc1 from ⟨IsS84.far HI.out.1 hgh _, Kd.R_mono (Kd.R_far (p := ⟨w3.heap.size, 1, none⟩) (Kd.R_mono (Kd.R_tight rfl HI.out.2.1) (ok' := fun k => k ≠ g ∧ k ≠ w3.heap.size) (fun k e => ⟨HI.out.2.1.1 k e.symm, (HOW.out k e.symm).2.1⟩)) (fun k h => h.2) _) (fun k h => h.1), kZ HI.out.2.2 HB3.out⟩)
       have HK := am (HK.out.setCell (p := ⟨w3.heap.size, 1, none⟩) (.inr HW3.out) (.int .i64 wd))
       have BN := am (show (w10.setCell ⟨w3.heap.size, 1, none⟩ (.int .i64 wd)).heap[w3.heap.size]? = some (.cells #[.int .i64 m0, .int .i64 wd, .int .i64 m2, .int .i64 (rd acc1 0), .int .i64 m4, .int .i64 (rd acc1 2)] 31 (0, 0)) from by simpa using qM BN.out 1 (.int .i64 wd))
       obtain ⟨q0, q1, q2, q3, q4, q5⟩ := a2a BN.out
       go_wp2_with fail
       refine (impl_termReader_puts.calls g s ae l1 c1 b1 m0 wd m2 (rd acc1 0) m4 (rd acc1 2) a p ok l' code' bad' A1 cc1 w0 _ HI.out HL1.out HQ.out).mono ?_
       rintro e w12 ⟨rfl, ⟨A', c', hI, ho⟩, hk⟩
       have a9 := am hI; have HO := am ho; have a8 := am hk
       clear hI ho hk
       have HLN := am (show l'.length ≤ 80 from by have := a2o (code := c1) (bad := b1) (n := ⟨m0, wd, m2, rd acc1 0, m4, rd acc1 2⟩) (frm := a) HL1.out; rw [HQ.out] at this; exact this)
       go_wp2_with fail
       refine bodyPost_ret (pG (rs := [.tmp 2, .tmp 3]) rfl (by simp) (.tmp (.tmp .nil))) rfl ?_
       refine ⟨rfl, ⟨A', c', a9.out, fun k e => ?_⟩, HK.out.then_ a8.out (fun k h => ?_), HLN.out⟩
       ·rcases HO.out k e with h | h
        ·exact (HOW.out k h.symm).1
        ·exact .inr (Nat.le_trans HK.out.1 h)
       ·rcases h with h | h
        ·exact .inl (.inl h)
        ·rcases (HOW.out k h.symm).1 with h2 | h2
         ·exact .inl (.inr h2)
         ·exact .inr h2
      | false =>
       have hB : (if m0 = 19 ∨ m0 = 20 then m4 else rd acc1 1) = rd acc1 1 := if_neg (by have := HQB.out; simpa using this)
       rw [hB] at a0 a6 a5
       have HWD := am a0; have HQ := am (show a1j l1 c1 b1 ⟨m0, wd, m2, rd acc1 0, rd acc1 1, rd acc1 2⟩ a = ((p, ok), l', code', bad') from Prod.ext a6 a5)
       clear a0 a6 a5 hB
       have hz4 := kE BN.out 4
       have p1 : w9.cell? ⟨w5.heap.size, 1, none⟩ = some (.int .i64 (rd acc1 1)) := (kG BP.out 1).trans rfl
       obtain ⟨u0, u1, u2, u3, u4, u5⟩ := a2a BN.out
       have HI := am (show a7q w0 (w9.setCell ⟨w3.heap.size, 4, none⟩ (.int .i64 (rd acc1 1))) g s ae l1 c1 b1 A1 cc1 from ⟨IsS84.far HI.out.1 hgh _, Kd.R_mono (Kd.R_far (p := ⟨w3.heap.size, 4, none⟩) (Kd.R_mono (Kd.R_tight rfl HI.out.2.1) (ok' := fun k => k ≠ g ∧ k ≠ w3.heap.size) (fun k e => ⟨HI.out.2.1.1 k e.symm, (HOW.out k e.symm).2.1⟩)) (fun k h => h.2) _) (fun k h => h.1), kZ HI.out.2.2 HB3.out⟩)
       have HK := am (HK.out.setCell (p := ⟨w3.heap.size, 4, none⟩) (.inr HW3.out) (.int .i64 (rd acc1 1)))
       have BN := am (show (w9.setCell ⟨w3.heap.size, 4, none⟩ (.int .i64 (rd acc1 1))).heap[w3.heap.size]? = some (.cells #[.int .i64 m0, .int .i64 m1, .int .i64 m2, .int .i64 (rd acc1 0), .int .i64 (rd acc1 1), .int .i64 (rd acc1 2)] 31 (0, 0)) from by simpa using qM BN.out 4 (.int .i64 (rd acc1 1)))
       obtain ⟨q0, q1, q2, q3, q4, q5⟩ := a2a BN.out
       go_wp2_with fail
       clear u0 u1 u2 u3 u4 u5 p1 hz4
       refine (impl_termReader_width.calls k g s ae l1 c1 b1 m0 m1 m2 (rd acc1 0) (rd acc1 1) (rd acc1 2) wd s ae c1 b1 w0 _ HI.out.1 HI.out.2.2 (Kd.C_foot_own HI.out.2.1 (fun _ h => h)) HWD.out).mono ?_
       rintro e w10 ⟨rfl, hi, hb, hk⟩
       have a4 := am (Kd.R_keep HI.out.2.1 hk (fun _ h => h))
       have BN := am ((hk.2 _ (sO BN.out) (fun e => hgh e.symm) (by simp)).trans BN.out)
       have HK := am (kY HK.out hk (.inl (.inl rfl)))
       have HI := am (show a7q w0 w10 g s ae l1 c1 b1 A1 cc1 from ⟨hi, a4.out, hb⟩)
       clear hi hb hk a4 q0 q1 q2 q3 q4 q5
       have hz1 := kE BN.out 1
       obtain ⟨u0, u1, u2, u3, u4, u5⟩ := a2a BN.out
       have HI := am (show a7q w0 (w10.setCell ⟨w3.heap.size, 1, none⟩ (.int .i64 wd)) g s ae l1 c1 b1 A1 cc1 from ⟨IsS84.far HI.out.1 hgh _, Kd.R_mono (Kd.R_far (p := ⟨w3.heap.size, 1, none⟩) (Kd.R_mono (Kd.R_tight rfl HI.out.2.1) (ok' := fun k => k ≠ g ∧ k ≠ w3.heap.size) (fun k e => ⟨HI.out.2.1.1 k e.symm, (HOW.out k e.symm).2.1⟩)) (fun k h => h.2) _) (fun k h => h.1), kZ HI.out.2.2 HB3.out⟩)
       have HK := am (HK.out.setCell (p := ⟨w3.heap.size, 1, none⟩) (.inr HW3.out) (.int .i64 wd))
       have BN := am (show (w10.setCell ⟨w3.heap.size, 1, none⟩ (.int .i64 wd)).heap[w3.heap.size]? = some (.cells #[.int .i64 m0, .int .i64 wd, .int .i64 m2, .int .i64 (rd acc1 0), .int .i64 (rd acc1 1), .int .i64 (rd acc1 2)] 31 (0, 0)) from by simpa using qM BN.out 1 (.int .i64 wd))
       obtain ⟨q0, q1, q2, q3, q4, q5⟩ := a2a BN.out
       go_wp2_with fail
       refine (impl_termReader_puts.calls g s ae l1 c1 b1 m0 wd m2 (rd acc1 0) (rd acc1 1) (rd acc1 2) a p ok l' code' bad' A1 cc1 w0 _ HI.out HL1.out HQ.out).mono ?_
       rintro e w12 ⟨rfl, ⟨A', c', hI, ho⟩, hk⟩
       have a9 := am hI; have HO := am ho; have a8 := am hk
       clear hI ho hk
       have HLN := am (show l'.length ≤ 80 from by have := a2o (code := c1) (bad := b1) (n := ⟨m0, wd, m2, rd acc1 0, (rd acc1 1), rd acc1 2⟩) (frm := a) HL1.out; rw [HQ.out] at this; exact this)
       go_wp2_with fail
       refine bodyPost_ret (pG (rs := [.tmp 2, .tmp 3]) rfl (by simp) (.tmp (.tmp .nil))) rfl ?_
       refine ⟨rfl, ⟨A', c', a9.out, fun k e => ?_⟩, HK.out.then_ a8.out (fun k h => ?_), HLN.out⟩
       ·rcases HO.out k e with h | h
        ·exact (HOW.out k h.symm).1
        ·exact .inr (Nat.le_trans HK.out.1 h)
       ·rcases h with h | h
        ·exact .inl (.inl h)
        ·rcases (HOW.out k h.symm).1 with h2 | h2
         ·exact .inl (.inr h2)
         ·exact .inr h2
variable {Ax : Option Addr} {cx : Nat}
def nodeR (k : Nat) (V : RdV) (s : ByteArray) : RdV := fun a l c b => (goF s a l c b 40).bind fun g => if g.1 = true then a5v k V s g.2 l c b a else a8k k s g.2 l c b a
def nodeF (s : ByteArray) : Nat → RdV
 | 0 => fun _ _ _ _ => none
 | n + 1 => nodeR (n + 1) (nodeF s n) s
theorem nodeR.calls (k : Nat) (V : RdV) (s : ByteArray) (hV : a8w s V) : a8w s (nodeR k V s) := by
 intro g a l code bad p ok a' l' code' bad' A c w0 w hI hl h
 unfold nodeR at h
 obtain ⟨⟨f, a1⟩, hg, h⟩ := oB h
 cases f with
 | true =>
  rw [if_pos rfl] at h
  exact zE k g V s hV a a1 l code bad p ok a' l' code' bad' A c w0 w hI hl hg h
 | false =>
  rw [if_neg (show ¬ (false = true) by decide)] at h
  exact impl_termReader_node.leaf k g s a a1 l code bad p ok a' l' code' bad' A c w0 w hI hl hg h
theorem nodeF.calls (s : ByteArray) : ∀ n, a8w s (nodeF s n)
 | 0 => by
  intro g a l code bad p ok a' l' code' bad' A c w0 w hI hl h
  exact absurd h (by simp [nodeF])
 | n + 1 => nodeR.calls (n + 1) (nodeF s n) s (nodeF.calls s n)
@[reducible] def c8y : Array Bool := #[false, false, false, false, false, false, false, false, false, false, false, false, false]
@[reducible] def c8t : Array Bool := #[true, false, false, false, false, false, false, false, false, false, false, false, false]
@[reducible] def c8o : Array Bool := #[true, true, false, false, false, false, false, false, false, false, false, false, false]
@[reducible] def c8j : Array Bool := #[true, true, true, false, false, false, false, false, false, false, false, false, false]
@[reducible] def c8e : Array Bool := #[true, true, true, true, false, false, false, false, false, false, false, false, false]
@[reducible] def c7z : Array Bool := #[true, true, true, true, false, true, false, false, false, false, false, false, false]
@[reducible] def c7u : Array Bool := #[true, true, true, true, false, true, true, false, false, false, false, false, false]
@[reducible] def c7q : Array Bool := #[true, true, true, true, false, true, true, true, false, false, false, false, false]
@[reducible] def c7l : Array Bool := #[true, true, true, true, false, true, true, true, true, false, false, false, false]
@[reducible] def c7h : Array Bool := #[true, true, true, true, false, true, true, true, true, false, true, false, false]
@[reducible] def c3r : Array Bool := #[true, true, true, true, true, true, true, true, true, false, true, false, false]
@[reducible] def c3o : Array Bool := #[true, true, true, true, true, true, true, true, true, false, true, true, false]
@[reducible] def c3l : Array Bool := #[true, true, true, true, true, true, true, true, true, true, true, true, false]
@[reducible] def c3i : Array Bool := #[true, true, true, true, true, true, true, true, true, true, true, true, true]
variable {Ax : Option Addr} {cx : Nat}
def a1i (k : Nat) (s : ByteArray) : Option (List (S31) × Int × Int) :=
 if (s.size : Int) > 4000 then some ([], 1, 0) else (nodeF s k 0 [] 0 0).bind fun r => if r.1.2 = true then (if r.2.1 < (s.size : Int) then some ([], 5, r.2.1) else some (r.2.2.1, 0, 0)) else some ([], r.2.2.2.1, r.2.2.2.2)
theorem xJ {P : Prop} (h : P := by
 simp only [Act.put, List.setIfInBounds_toArray, List.set_cons_zero, List.set_cons_succ, xW, a1l]
 rfl) : P := h
theorem c1x {P : Prop} (h : P := by
 refine yK (by kernel_rfl) ?_
 go_wp2_with fail
 refine bodyPost_ret (pG (rs := [.tmp 2, .tmp 3, .tmp 4]) rfl (by simp) (.tmp (.tmp (.tmp .nil)))) rfl ?_
 exact ⟨_, rfl, Kd.R_nil .., by exact kO HB.out⟩) : P := h
set_option maxHeartbeats 4000000 in
set_option maxRecDepth 100000 in
theorem impl_ReadTerm.calls (k : Nat) (s : ByteArray) (r1 : List (S31)) (r2 r3 : Int) (w : World) (h : a1i k s = some (r1, r2, r3)) :
  Calls Try.prog 32 #[.string s] w fun e w' => ∃ a0 : Value, e = .returned (.tuple #[a0, .int .i64 r2, .int .i64 r3]) ∧ Kd.R k31 31 w' w.heap.size (fun _ => True) a0 r1 ∧ Below w.heap.size w w' := by
 unfold a1i at h
 by_cases hs : (s.size : Int) > 4000
 ·rw [if_pos hs] at h
  simp only [Option.some.injEq, Prod.mk.injEq] at h
  obtain ⟨rfl, rfl, rfl⟩ := h
  have t1 : decide (4000 < (s.size : Int)) = true := decide_eq_true hs
  clear hs
  go_enter Try.func32, Try.ntmps32
  go_wp2_with fail
  refine bodyPost_ret (pG (rs := [.tmp 2, .tmp 3, .tmp 4]) rfl (by simp) (.tmp (.tmp (.tmp .nil)))) rfl ?_
  exact ⟨_, rfl, Kd.R_nil .., by exact Below.refl _ _⟩
 rw [if_neg hs] at h
 obtain ⟨⟨⟨p, ok⟩, a1, l1, c1, b1⟩, hn, h⟩ := oB h
 have HN := am hn; have HF := am h
 have t1 : decide (4000 < (s.size : Int)) = false := decide_eq_false oM
 clear hn h hs
 go_enter Try.func32, Try.ntmps32
 go_wp2_with fail
 have hI : a7q w (w.alloc (Obj.cells #[.string s, .int .i64 0, .slice none 0 0, .int .i64 0, .int .i64 0] 84)) w.heap.size s 0 [] 0 0 none 0 := ⟨⟨none, 0, heap_alloc_new w _, Nat.le_refl _, rfl, rfl⟩, Kd.R_nil .., kS (Below.refl _ _) _⟩
 refine (nodeF.calls s k w.heap.size 0 [] 0 0 p ok a1 l1 c1 b1 none 0 w _ hI (by simp) HN.out).mono ?_
 rintro e w2 ⟨rfl, ⟨A2, c2, hI2, ho⟩, hk, hl⟩
 obtain ⟨⟨A3, c3, hbg, hg0, hA, hc⟩, hR, hB⟩ := hI2
 subst hA hc
 have BG := am hbg; have HR := am hR; have HB := am hB
 clear hbg hg0 hR hB ho hk hl hI
 have f1 : w2.cell? ⟨w.heap.size, 1, none⟩ = some (.int .i64 a1) := (kG BG.out 1).trans rfl
 have f2 : w2.cell? ⟨w.heap.size, 2, none⟩ = some (.slice A3 l1.length c3) := (kG BG.out 2).trans rfl
 have f3 : w2.cell? ⟨w.heap.size, 3, none⟩ = some (.int .i64 c1) := (kG BG.out 3).trans rfl
 have f4 : w2.cell? ⟨w.heap.size, 4, none⟩ = some (.int .i64 b1) := (kG BG.out 4).trans rfl
 cases ok with
 | false =>
  have hf := HF.out
  rw [if_neg (show ¬ (false = true) by decide)] at hf
  simp only [Option.some.injEq, Prod.mk.injEq] at hf
  obtain ⟨rfl, rfl, rfl⟩ := hf
  go_wp2_with fail
  refine tM (n := 13) (S := fun w' => w'.cell? ⟨w.heap.size, 3, none⟩ = some (.int .i64 c1) ∧ w'.cell? ⟨w.heap.size, 4, none⟩ = some (.int .i64 b1)) (ds := []) c8y (by kernel_rfl) rfl rfl ⟨f3, f4⟩ (fun hHeld => ?_)
  refine pN (i := 0) (N := some 21) (v := ?_) (a' := ?_) c8t rfl rfl (by kernel_rfl) (fun _ _ _ h => h) (Or.inl ⟨by rfl, ?_⟩) ?_ ?_
  rotate_left
  ·intro w'
   go_simp
   with_reducible rfl
  rotate_left
  ·exact xJ
  refine pN (i := 1) (N := some 22) (v := ?_) (a' := ?_) c8o rfl rfl (by kernel_rfl) (fun _ _ _ h => h) (Or.inl ⟨by rfl, ?_⟩) ?_ ?_
  rotate_left
  ·intro w'
   go_simp
   with_reducible rfl
  rotate_left
  ·exact xJ
  refine pN (i := 2) (N := some 23) (v := ?_) (a' := ?_) c8j rfl rfl (by kernel_rfl) (fun _ _ _ h => h) (Or.inl ⟨by rfl, ?_⟩) ?_ ?_
  rotate_left
  ·intro w'
   go_simp
   with_reducible rfl
  rotate_left
  ·exact xJ
  refine pN (i := 3) (N := some 24) (v := ?_) (a' := ?_) c8e rfl rfl (by kernel_rfl) (fun _ _ _ h => h) (Or.inl ⟨by rfl, ?_⟩) ?_ ?_
  rotate_left
  ·intro w'
   go_simp
   with_reducible rfl
  rotate_left
  ·exact xJ
  refine pN (i := 5) (N := some 26) (v := ?_) (a' := ?_) c7z rfl rfl (by kernel_rfl) (fun _ _ _ h => h) (Or.inl ⟨by rfl, ?_⟩) ?_ ?_
  rotate_left
  ·intro w'
   go_simp
   with_reducible rfl
  rotate_left
  ·exact xJ
  refine pN (i := 6) (N := some 27) (v := ?_) (a' := ?_) c7u rfl rfl (by kernel_rfl) (fun _ _ _ h => h) (Or.inl ⟨by rfl, ?_⟩) ?_ ?_
  rotate_left
  ·intro w'
   go_simp
   with_reducible rfl
  rotate_left
  ·exact xJ
  refine pN (i := 7) (N := some 28) (v := ?_) (a' := ?_) c7q rfl rfl (by kernel_rfl) (fun _ _ _ h => h) (Or.inl ⟨by rfl, ?_⟩) ?_ ?_
  rotate_left
  ·intro w'
   go_simp
   with_reducible rfl
  rotate_left
  ·exact xJ
  refine pN (i := 8) (N := some 29) (v := ?_) (a' := ?_) c7l rfl rfl (by kernel_rfl) (fun _ _ _ h => h) (Or.inl ⟨by rfl, ?_⟩) ?_ ?_
  rotate_left
  ·intro w'
   go_simp
   with_reducible rfl
  rotate_left
  ·exact xJ
  refine pN (i := 10) (N := some 2) (v := ?_) (a' := ?_) c7h rfl rfl (by kernel_rfl) (fun _ _ _ h => h) (Or.inl ⟨by rfl, ?_⟩) ?_ ?_
  rotate_left
  ·intro w'
   go_simp
   with_reducible rfl
  rotate_left
  ·exact xJ
  refine qF (i := 4) (N := some 25) (v := ?_) (a' := ?_) c3r rfl rfl (by kernel_rfl) (fun _ _ _ h => h) (Or.inl ⟨by rfl, ?_⟩) hHeld ?_ ?_
  rotate_left
  ·rintro w' ⟨s0, s1⟩
   go_simp
   with_reducible rfl
  rotate_left
  ·exact xJ
  refine pN (i := 11) (N := some 3) (v := ?_) (a' := ?_) c3o rfl rfl (by kernel_rfl) (fun _ _ _ h => h) (Or.inl ⟨by rfl, ?_⟩) ?_ ?_
  rotate_left
  ·intro w'
   go_simp
   with_reducible rfl
  rotate_left
  ·exact xJ
  refine qF (i := 9) (N := some 30) (v := ?_) (a' := ?_) c3l rfl rfl (by kernel_rfl) (fun _ _ _ h => h) (Or.inl ⟨by rfl, ?_⟩) hHeld ?_ ?_
  rotate_left
  ·rintro w' ⟨s0, s1⟩
   go_simp
   with_reducible rfl
  rotate_left
  ·exact xJ
  refine pN (i := 12) (N := some 4) (v := ?_) (a' := ?_) c3i rfl rfl (by kernel_rfl) (fun _ _ _ h => h) (Or.inl ⟨by rfl, ?_⟩) ?_ ?_
  rotate_left
  ·intro w'
   go_simp
   with_reducible rfl
  rotate_left
  ·exact xJ
  exact c1x
 | true =>
  have hf := HF.out
  rw [if_pos rfl] at hf
  by_cases ha : a1 < (s.size : Int)
  rotate_left
  ·have t2 : decide (a1 < (s.size : Int)) = false := decide_eq_false ha
   rw [if_neg ha] at hf
   simp only [Option.some.injEq, Prod.mk.injEq] at hf
   obtain ⟨rfl, rfl, rfl⟩ := hf
   clear ha
   go_wp2_with fail
   refine bodyPost_ret (pG (rs := [.tmp 2, .tmp 3, .tmp 4]) rfl (by simp) (.tmp (.tmp (.tmp .nil)))) rfl ?_
   exact ⟨_, rfl, Kd.R_mono HR.out (fun _ _ => trivial), HB.out⟩
  have t2 : decide (a1 < (s.size : Int)) = true := decide_eq_true ha
  rw [if_pos ha] at hf
  simp only [Option.some.injEq, Prod.mk.injEq] at hf
  obtain ⟨rfl, rfl, rfl⟩ := hf
  clear ha
  go_wp2_with fail
  refine tM (n := 7) (S := fun w' => w'.cell? ⟨w.heap.size, 1, none⟩ = some (.int .i64 a1)) (ds := []) #[false, false, false, false, false, false, false] (by kernel_rfl) rfl rfl (f1) (fun hHeld => ?_)
  refine pN (i := 0) (N := some 38) (v := ?_) (a' := ?_) #[true, false, false, false, false, false, false] rfl rfl (by kernel_rfl) (fun _ _ _ h => h) (Or.inl ⟨by rfl, ?_⟩) ?_ ?_
  rotate_left
  ·intro w'
   go_simp
   with_reducible rfl
  rotate_left
  ·exact xJ
  refine pN (i := 1) (N := some 39) (v := ?_) (a' := ?_) #[true, true, false, false, false, false, false] rfl rfl (by kernel_rfl) (fun _ _ _ h => h) (Or.inl ⟨by rfl, ?_⟩) ?_ ?_
  rotate_left
  ·intro w'
   go_simp
   with_reducible rfl
  rotate_left
  ·exact xJ
  refine pN (i := 2) (N := some 40) (v := ?_) (a' := ?_) #[true, true, true, false, false, false, false] rfl rfl (by kernel_rfl) (fun _ _ _ h => h) (Or.inl ⟨by rfl, ?_⟩) ?_ ?_
  rotate_left
  ·intro w'
   go_simp
   with_reducible rfl
  rotate_left
  ·exact xJ
  refine pN (i := 4) (N := some 2) (v := ?_) (a' := ?_) #[true, true, true, false, true, false, false] rfl rfl (by kernel_rfl) (fun _ _ _ h => h) (Or.inl ⟨by rfl, ?_⟩) ?_ ?_
  rotate_left
  ·intro w'
   go_simp
   with_reducible rfl
  rotate_left
  ·exact xJ
  refine pN (i := 5) (N := some 3) (v := ?_) (a' := ?_) #[true, true, true, false, true, true, false] rfl rfl (by kernel_rfl) (fun _ _ _ h => h) (Or.inl ⟨by rfl, ?_⟩) ?_ ?_
  rotate_left
  ·intro w'
   go_simp
   with_reducible rfl
  rotate_left
  ·exact xJ
  refine qF (i := 3) (N := some 41) (v := ?_) (a' := ?_) #[true, true, true, true, true, true, false] rfl rfl (by kernel_rfl) (fun _ _ _ h => h) (Or.inl ⟨by rfl, ?_⟩) hHeld ?_ ?_
  rotate_left
  ·intro w' s0
   go_simp
   with_reducible rfl
  rotate_left
  ·exact xJ
  refine pN (i := 6) (N := some 4) (v := ?_) (a' := ?_) #[true, true, true, true, true, true, true] rfl rfl (by kernel_rfl) (fun _ _ _ h => h) (Or.inl ⟨by rfl, ?_⟩) ?_ ?_
  rotate_left
  ·intro w'
   go_simp
   with_reducible rfl
  rotate_left
  ·exact xJ
  exact c1x
variable {Ax : Option Addr} {cx : Nat}
def uB (k : Nat) (l0 : List (S31)) : Option (List (S31)) :=
 (qK k l0).bind fun t => if t.2 = true then (a1i k t.1).bind fun r => some r.1 else some []
set_option maxHeartbeats 4000000 in
set_option maxRecDepth 100000 in
theorem impl_Canon.calls {k : Nat} {A0 : Option Addr} {c0 : Nat} {l0 r : List (S31)} {w : World} (hr0 : Kd.C k31 w A0 l0.length l0) (hc0 : l0.length ≤ c0) (h : uB k l0 = some r) :
  Calls Try.prog 28 #[.slice A0 l0.length c0] w fun e w' => ∃ a0 : Value, e = .returned (a0) ∧ Kd.R k31 31 w' w.heap.size (fun _ => True) a0 r ∧ Below w.heap.size w w' := by
 unfold uB at h
 obtain ⟨⟨s, ok⟩, hs, h⟩ := oB h
 have a1 := am hr0; have a2 := am hc0; have HS := am hs; have HF := am h
 clear hr0 hc0 hs h
 go_enter Try.func28, Try.ntmps28
 go_wp2_with fail
 refine (impl_ShowTerm.calls k A0 c0 l0 s ok w a1.out a2.out HS.out).mono ?_
 rintro e w1 ⟨rfl, hb⟩
 have HB := am hb
 clear hb
 cases ok with
 | false =>
  have hf := HF.out
  rw [if_neg (show ¬ (false = true) by decide)] at hf
  obtain rfl := oI hf
  go_wp2_with fail
  go_ret
  exact ⟨_, rfl, Kd.R_nil .., HB.out⟩
 | true =>
  have hf := HF.out
  rw [if_pos rfl] at hf
  obtain ⟨⟨r1, r2, r3⟩, hr, hf⟩ := oB hf
  obtain rfl := oI hf
  have HR := am hr
  clear hr hf
  go_wp2_with fail
  refine (impl_ReadTerm.calls k s r1 r2 r3 _ HR.out).mono ?_
  rintro e w2 ⟨v0, rfl, hR, hb⟩
  have HO := am (Kd.R_lower hR HB.out.size); have HB := am (HB.out.trans (hb.mono HB.out.size))
  clear hR hb
  go_wp2_with fail
  go_ret
  exact ⟨_, rfl, HO.out, HB.out⟩
@[reducible] def c8x : Array Bool := #[false, false, false, false, false, false, false, false, false, false]
@[reducible] def c8s : Array Bool := #[false, true, false, false, false, false, false, false, false, false]
@[reducible] def c8n : Array Bool := #[false, true, true, false, false, false, false, false, false, false]
@[reducible] def c8i : Array Bool := #[false, true, true, true, false, false, false, false, false, false]
@[reducible] def c8d : Array Bool := #[false, true, true, true, true, false, false, false, false, false]
@[reducible] def c7y : Array Bool := #[false, true, true, true, true, false, true, false, false, false]
@[reducible] def b4z : Array Bool := #[true, true, true, true, true, true, true, true, false, false]
@[reducible] def c7p : Array Bool := #[true, true, true, true, true, false, true, false, false, false]
@[reducible] def c7k : Array Bool := #[false, true, true, true, true, false, true, true, false, false]
@[reducible] def c7g : Array Bool := #[true, true, true, true, true, true, true, false, false, false]
@[reducible] def b5r : Array Bool := #[true, true, true, true, true, false, true, true, false, false]
@[reducible] def c3n : Array Bool := #[true, true, true, true, true, true, true, true, true, false]
@[reducible] def c3k : Array Bool := #[true, true, true, true, true, true, true, true, true, true]
variable {Ax : Option Addr} {cx : Nat}
def a6h (k : Nat) (l : List (S31)) (n : S31) (frm : Int) : Option (Int × List (S31) × Int × Int) :=
 match xY l n l.length 0 with
 | some i => some ((i : Int), l, 0, 0)
 | none => (vV k (l ++ [n]) (l.length : Int)).bind fun b => if b = true then (if l.length = 80 then some (0, l, 4, frm) else some ((l.length : Int), l ++ [n], 0, 0)) else some (0, l, 3, frm)
def IsCu (w0 W : World) (g : Nat) (s : ByteArray) (a : Int) (l : List (S31)) (code bad : Int) (A : Option Addr) (c : Nat) : Prop :=
 IsS88 A c w0 W g s a l code bad ∧ Kd.R k31 31 W w0.heap.size (fun k => k ≠ g) (.slice A l.length c) l ∧ Below w0.heap.size w0 W
def c6x (w0 w W : World) (g : Nat) (s : ByteArray) (a : Int) (l : List (S31)) (code bad : Int) (A0 : Option Addr) (c0 n0 : Nat) : Prop :=
 (∃ A' c', IsCu w0 W g s a l code bad A' c' ∧ ∀ k, (Value.slice A' l.length c').ownBlock = some k → some k = (Value.slice A0 n0 c0).ownBlock ∨ w.heap.size ≤ k) ∧ Kept w W (fun k => k = g) ∧ l.length ≤ 80
theorem c1p {P : Prop} (h : P := by
 refine yN (i := 5) (N := some 33) b4z rfl rfl (by kernel_rfl) (by decide) (fun K hK => ?_)
 refine Kd.R_append_rows_step k31 (w0 := wr) wr.heap.size (by rfl) (.tmp 28) (.tmp 32) 24 31 (.agg #[(.int .i64 0), (.int .i64 0), (.int .i64 0), (.int .i64 0), (.int .i64 0), (.int .i64 0)]) 48 rfl Try.underlying24 yI rfl (by decide) oM a3 ([] : List (S31)) l _ _ _ (fun k => True ∧ some k ≠ (a2 : Value).ownBlock) (fun _ => False) rfl rfl ?aO ?aR (fun _ _ h => h) (fun _ h => h.elim) ?aF ?aB ?aS ?aL ?_
 (case aR => exact (Kd.C_below (Kd.R_reads' HR.out).2.2 HD.out))
 (case aB => exact HD.out)
 (case aF => exact (fun k hk => ⟨trivial, Kd.fresh' (Kd.R_lt H35.out) k hk⟩))
 (case aO => exact H28.out)
 (case aS => exact (kJ HD.out))
 (case aL => (have := HL.out; simp; omega))
 intro a0 w33 ho hb hg_ hat_
 have H35 := am (Kd.R_after (ok := fun _ => True) H35.out hg_ hat_)
 have H33 := am (show Kd.R k31 31 _ wr.heap.size _ a0 l from ho)
 have HD := am hb
 clear ho hb hg_ hat_
 refine hK.out _ _ ⟨((kG (kI BG.out HD.out) 2).trans rfl), ((kG (kI BX.out HD.out) 0).trans rfl), ((kG (kI BX.out HD.out) 1).trans rfl), ((kG (kI BX.out HD.out) 2).trans rfl), ((kG (kI BX.out HD.out) 3).trans rfl), ((kG (kI BX.out HD.out) 4).trans rfl), ((kG (kI BX.out HD.out) 5).trans rfl)⟩ (fun hHeld => ?_)
 clear hK K
 refine rO (a' := ?_) ?_ ?_
 rotate_left
 ·show Act.put _ (some 33) _ = _
  simp only [Act.put, List.setIfInBounds_toArray, List.set_cons_zero, List.set_cons_succ, xW, a1l]
  rfl
 exact rO (by simp only [a0i, Act.put, List.setIfInBounds_toArray, List.set_cons_zero, List.set_cons_succ]) (hCont (a3, a0, a2) _ ⟨HD.out, H33.out, H35.out⟩)) : P := h
theorem zN {P : Prop} (h : P := by
 simp only [Act.put, List.setIfInBounds_toArray, List.set_cons_zero, List.set_cons_succ, xW, a1l]
 rfl) : P := h
theorem c0z {P : Prop} (h : P := by
 rintro e w8 ⟨rfl, hi, hb, hk⟩
 have aA := am hi; have HB8 := am hb; have a8 := am hk
 clear hi hb hk
 go_wp2_with fail
 go_ret
 exact ⟨rfl, ⟨A2, c2, ⟨aA.out, Kd.R_keep HR.out a8.out (fun _ h => h), HB8.out⟩, fun k e => .inl e.symm⟩, kY HK.out a8.out (.inl rfl), HL.out⟩) : P := h
set_option maxHeartbeats 4000000 in
set_option maxRecDepth 100000 in
theorem spec_l03Put.calls (k g : Nat) (s : ByteArray) (a : Int) (l : List (S31)) (n0 n1 n2 n3 n4 n5 frm p : Int) (l' : List (S31)) (code' bad' : Int) (A : Option Addr) (c : Nat) (w0 w : World) (hI : IsCu w0 w g s a l 0 0 A c) (hl : l.length ≤ 80)
  (h : a6h k l ⟨n0, n1, n2, n3, n4, n5⟩ frm = some (p, l', code', bad')) :
  Calls Try.prog 100 #[.pointer (some ⟨g, 0, none⟩), .agg #[.int .i64 n0, .int .i64 n1, .int .i64 n2, .int .i64 n3, .int .i64 n4, .int .i64 n5], .int .i64 frm] w fun e w' => e = .returned (.int .i64 p) ∧ c6x w0 w w' g s a l' code' bad' A c l.length := by
 obtain ⟨hS, hR, hB⟩ := hI
 have HS := am hS; have HR := am hR; have HB := am hB; have HL := am hl; have HH := am h
 clear hS hR hB hl h
 have HK := am (Kept.refl w (fun k => k = g))
 obtain ⟨A2, c2, hbg, hg0, hA2, hc2⟩ := HS.out
 subst hA2 hc2
 have BG := am hbg; have G0 := am hg0
 clear hbg hg0 HS
 have BX := am (heap_alloc_new w (Obj.cells #[Value.int .i64 n0, Value.int .i64 n1, Value.int .i64 n2, Value.int .i64 n3, Value.int .i64 n4, Value.int .i64 n5] 31))
 have hA := kS (Below.refl w.heap.size w) (Obj.cells #[Value.int .i64 n0, Value.int .i64 n1, Value.int .i64 n2, Value.int .i64 n3, Value.int .i64 n4, Value.int .i64 n5] 31)
 have HW := am (show w.heap.size ≤ w.heap.size from Nat.le_refl _)
 have BG := am (kI BG.out hA); have HR := am (Kd.R_below HR.out hA); have HB := am (HB.out.trans (hA.mono HB.out.size)); have HK := am (HK.out.below hA)
 clear hA
 obtain ⟨res, hres⟩ : ∃ res, xY l ⟨n0, n1, n2, n3, n4, n5⟩ l.length 0 = res := ⟨_, rfl⟩
 have HRES := am hres
 have h1 := HH.out
 unfold a6h at h1
 rw [hres] at h1
 have HH := am h1
 clear hres h1
 go_enter Try.func100, Try.ntmps100
 go_wp2_with fail
 generalize w.alloc (Obj.cells #[Value.int .i64 n0, Value.int .i64 n1, Value.int .i64 n2, Value.int .i64 n3, Value.int .i64 n4, Value.int .i64 n5] 31) = wA at *
 generalize hgx : w.heap.size = gx at *
 have GX := am hgx
 clear hgx
 go_loopg [7] l.length (fun gk u7 w' => ∃ i : Nat, u7 = .int .i64 (i : Int) ∧ Aside0 (gk + i = l.length) ∧ Aside0 (xY l ⟨n0, n1, n2, n3, n4, n5⟩ gk i = res) ∧ Aside0 (w'.heap[g]? = some (.cells #[.string s, .int .i64 a, .slice A2 l.length c2, .int .i64 0, .int .i64 0] 88 (0, 0))) ∧ Aside0 (w'.heap[gx]? = some (.cells #[Value.int .i64 n0, Value.int .i64 n1, Value.int .i64 n2, Value.int .i64 n3, Value.int .i64 n4, Value.int .i64 n5] 31 (0, 0))) ∧ Aside0 (Kd.R k31 31 w' w0.heap.size (fun k => k ≠ g) (.slice A2 l.length c2) l) ∧ Aside0 (Below w0.heap.size w0 w') ∧ Aside0 (Kept w w' (fun k => k = g)))
 case atStart => exact ⟨0, rfl, ⟨rfl⟩, HRES, BG, BX, HR, HB, HK⟩
 obtain ⟨i, rfl, HJ, HF, BG, BX, HR, HB, HK⟩ := hrel
 have g2 : wr.cell? ⟨g, 2, none⟩ = some (.slice A2 l.length c2) := (kG BG.out 2).trans rfl
 obtain ⟨z0, z1, z2, z3, z4, z5⟩ := a2a BX.out
 by_cases hi : i < l.length
 ·have p1 : (0 : Int) ≤ (i : Int) := by omega
  have p2 : (i : Int) < (l.length : Int) := by omega
  have t2 : decide ((i : Int) < (l.length : Int)) = true := decide_eq_true p2
  obtain ⟨aD, e0, y0, y1, y2, y3, y4, y5⟩ := pL (Kd.R_reads' HR.out).2.2 (i : Int) p1 p2
  rw [Int.toNat_natCast] at y0 y1 y2 y3 y4 y5
  subst e0
  obtain ⟨⟨x0, x1, x2, x3, x4, x5⟩, hnd⟩ : ∃ n, kA l (i : Int) = n := ⟨_, rfl⟩
  obtain ⟨gk2, rfl⟩ : ∃ gk2, gk = gk2 + 1 := ⟨gk - 1, by have := HJ.out; omega⟩
  obtain ⟨sb, hsb⟩ : ∃ sb, (x0 == n0 && (x1 == n1 && (x2 == n2 && (x3 == n3 && (x4 == n4 && (x5 == n5)))))) = sb := ⟨_, rfl⟩
  have hh := HF.out
  unfold xY b3n at hh
  rw [hnd] at hh y0 y1 y2 y3 y4 y5
  simp only [] at hh y0 y1 y2 y3 y4 y5
  rw [hsb] at hh
  have HF := am hh
  clear hnd hh
  cases sb with
  | true =>
   have hn := HF.out
   rw [if_pos rfl] at hn
   have HN := am hn
   clear hn HF
   have h1 := HH.out
   rw [← HN.out] at h1
   simp only [Option.some.injEq, Prod.mk.injEq] at h1
   obtain ⟨rfl, rfl, rfl, rfl⟩ := h1
   go_wp2_with fail
   go_quiet (fail)
   go_wp2_with fail
   go_ret
   exact ⟨rfl, ⟨_, c2, ⟨⟨_, c2, sB BG.out, G0.out, rfl, rfl⟩, sR HR.out, sW HB.out⟩, fun k e => .inl e.symm⟩, HK.out.drewN _, HL.out⟩
  | false =>
   have hn := HF.out
   rw [if_neg (by decide)] at hn
   have HN := am hn
   clear hn HF
   go_wp2_with fail
   go_quiet (fail)
   go_wp2_with fail
   go_roundg gk2
   case measure => omega
   case rel => exact ⟨i + 1, by rw [show wrap64 ((i : Int) + 1) = ((i + 1 : Nat) : Int) by have := HL.out; unfold wrap64; omega], ⟨by have := HJ.out; omega⟩, HN, ⟨sB BG.out⟩, ⟨sB BX.out⟩, ⟨sR HR.out⟩, ⟨sW HB.out⟩, ⟨HK.out.drewN _⟩⟩
 obtain rfl : i = l.length := by have := HJ.out; omega
 have hgk : gk = 0 := by have := HJ.out; omega
 subst hgk
 have t2 : decide ((l.length : Int) < (l.length : Int)) = false := decide_eq_false oM
 have hh := HF.out
 unfold xY at hh
 have h1 := HH.out
 rw [← hh] at h1
 simp only [] at h1
 obtain ⟨b, hb0, h1⟩ := oB h1
 try simp only [] at h1
 obtain ⟨nl, hnl⟩ : ∃ nl, l ++ [(⟨n0, n1, n2, n3, n4, n5⟩ : S31)] = nl := ⟨_, rfl⟩
 rw [hnl] at hb0 h1
 have HNL := am (show nl.length = l.length + 1 by rw [← hnl]; simp)
 have HEQ := am hnl
 have e1 : wrap64 ((nl.length : Int) - 1) = (l.length : Int) := by have := HNL.out; have := HL.out; unfold wrap64; omega
 have E1 := am e1
 have HND := am hb0; have HH := am h1
 clear hh h1 HF hb0 hnl e1
 go_wp2_with fail
 have HD := am (kO (Below.refl wr.heap.size wr))
 have BG0 := BG
 refine tM (n := 10) (S := fun w' => w'.cell? ⟨g, 2, none⟩ = some (.slice A2 l.length c2) ∧ w'.cell? ⟨gx, 0, none⟩ = some (.int .i64 n0) ∧ w'.cell? ⟨gx, 1, none⟩ = some (.int .i64 n1) ∧ w'.cell? ⟨gx, 2, none⟩ = some (.int .i64 n2) ∧ w'.cell? ⟨gx, 3, none⟩ = some (.int .i64 n3) ∧ w'.cell? ⟨gx, 4, none⟩ = some (.int .i64 n4) ∧ w'.cell? ⟨gx, 5, none⟩ = some (.int .i64 n5)) (ds := []) c8x (by kernel_rfl) rfl rfl ⟨g2, z0, z1, z2, z3, z4, z5⟩ (fun hHeld => ?_)
 refine pN (i := 1) (N := some 29) (v := ?_) (a' := ?_) c8s rfl rfl (by kernel_rfl) (fun _ _ _ h => h) (Or.inl ⟨by rfl, ?_⟩) ?_ ?_
 rotate_left
 ·intro w'
  go_simp
  with_reducible rfl
 rotate_left
 ·exact zN
 refine pN (i := 2) (N := some 30) (v := ?_) (a' := ?_) c8n rfl rfl (by kernel_rfl) (fun _ _ _ h => h) (Or.inl ⟨by rfl, ?_⟩) ?_ ?_
 rotate_left
 ·intro w'
  go_simp
  with_reducible rfl
 rotate_left
 ·exact zN
 refine pN (i := 3) (N := some 31) (v := ?_) (a' := ?_) c8i rfl rfl (by kernel_rfl) (fun _ _ _ h => h) (Or.inl ⟨by rfl, ?_⟩) ?_ ?_
 rotate_left
 ·intro w'
  go_simp
  with_reducible rfl
 rotate_left
 ·exact zN
 refine qF (i := 4) (N := some 32) (v := ?_) (a' := ?_) c8d rfl rfl (by kernel_rfl) (fun _ _ _ h => h) (Or.inl ⟨by rfl, ?_⟩) hHeld ?_ ?_
 rotate_left
 ·rintro w' ⟨s0, s1, s2, s3, s4, s5, s6⟩
  go_simp
  with_reducible rfl
 rotate_left
 ·exact zN
 refine qF (i := 6) (N := some 34) (v := ?_) (a' := ?_) c7y rfl rfl (by kernel_rfl) (fun _ _ _ h => h) (Or.inl ⟨by rfl, ?_⟩) hHeld ?_ ?_
 rotate_left
 ·rintro w' ⟨s0, s1, s2, s3, s4, s5, s6⟩
  go_simp
  with_reducible rfl
 rotate_left
 ·exact zN
 refine c6i (σ := Value × Value × Value) 2 b4z (fun s_ => [(28, s_.1), (33, s_.2.1), (35, s_.2.2)]) (fun s_ w' => Below wr.heap.size wr w' ∧ Kd.R k31 31 w' wr.heap.size (fun k => True ∧ some k ≠ (s_.2.2 : Value).ownBlock) s_.2.1 l ∧ Kd.R k31 31 w' wr.heap.size (fun k => True ∧ some k ≠ (s_.2.1 : Value).ownBlock) s_.2.2 [(⟨n0, n1, n2, n3, n4, n5⟩ : S31)]) ?_ ?_
 rotate_left
 ·intro hCont
  refine c6y (i := 0) (j := 7) (Ni := some 28) (Nj := some 35) c7p c7k rfl rfl rfl rfl (by kernel_rfl) (by decide) (by decide) (fun K hK => ?_) (fun K hK => ?_)
  ·skip
   refine Kd.R_lit_step k31 _ 31 ?hg (N := 28) ?hd (xs := ([] : List (S31))) (inner := []) (ok := fun _ => True) (okp := fun _ => True) ?hr ?hp (fun _ hk => hk) trivial (Below.refl _ _) (Nat.le_refl _) (by simp) ?_
   (case hd => rfl)
   (case hg => rfl)
   (case hr => (go_simp; done))
   (case hp => exact Reps.none _ _)
   intro a3 w28 ho hb hg_ hnew_
   clear hg_ hnew_
   have H28 := am (Kd.R_lower ho (kJ HD.out))
   have HD := am (HD.out.trans (hb.mono HD.out.size))
   clear ho hb
   refine hK.out _ _ ⟨((kG (kI BG.out HD.out) 2).trans rfl), ((kG (kI BX.out HD.out) 0).trans rfl), ((kG (kI BX.out HD.out) 1).trans rfl), ((kG (kI BX.out HD.out) 2).trans rfl), ((kG (kI BX.out HD.out) 3).trans rfl), ((kG (kI BX.out HD.out) 4).trans rfl), ((kG (kI BX.out HD.out) 5).trans rfl)⟩ (fun hHeld => ?_)
   clear hK K
   refine rO (a' := ?_) ?_ ?_
   rotate_left
   ·show Act.put _ (some 28) _ = _
    exact zN
   refine c6y (i := 5) (j := 7) (Ni := some 33) (Nj := some 35) c7g b5r rfl rfl rfl rfl (by kernel_rfl) (by decide) (by decide) (fun K hK => ?_) (fun K hK => ?_)
   ·skip
    refine Kd.R_append_rows_step k31 (w0 := wr) wr.heap.size (by rfl) (.tmp 28) (.tmp 32) 24 31 (.agg #[(.int .i64 0), (.int .i64 0), (.int .i64 0), (.int .i64 0), (.int .i64 0), (.int .i64 0)]) 48 rfl Try.underlying24 yI rfl (by decide) oM a3 ([] : List (S31)) l _ _ _ (fun _ => True) (fun _ => False) rfl rfl ?aO ?aR (fun _ _ h => h) (fun _ h => h.elim) ?aF ?aB ?aS ?aL ?_
    (case aR => exact (Kd.C_below (Kd.R_reads' HR.out).2.2 HD.out))
    (case aB => exact HD.out)
    (case aF => exact (fun _ _ => trivial))
    (case aO => exact H28.out)
    (case aS => exact (kJ HD.out))
    (case aL => (have := HL.out; simp; omega))
    intro a0 w33 ho hb hg_ hat_
    have H33 := am (show Kd.R k31 31 _ wr.heap.size _ a0 l from ho)
    have HD := am hb
    clear ho hb hg_ hat_
    refine hK.out _ _ ⟨((kG (kI BG.out HD.out) 2).trans rfl), ((kG (kI BX.out HD.out) 0).trans rfl), ((kG (kI BX.out HD.out) 1).trans rfl), ((kG (kI BX.out HD.out) 2).trans rfl), ((kG (kI BX.out HD.out) 3).trans rfl), ((kG (kI BX.out HD.out) 4).trans rfl), ((kG (kI BX.out HD.out) 5).trans rfl)⟩ (fun hHeld => ?_)
    clear hK K
    refine rO (a' := ?_) ?_ ?_
    rotate_left
    ·show Act.put _ (some 33) _ = _
     exact zN
    refine yN (i := 7) (N := some 35) b4z rfl rfl (by kernel_rfl) (by decide) (fun K hK => ?_)
    refine Kd.R_lit_step k31 _ 31 ?hg (N := 35) ?hd (xs := [(⟨n0, n1, n2, n3, n4, n5⟩ : S31)]) (inner := [.int .i64 n0, .int .i64 n1, .int .i64 n2, .int .i64 n3, .int .i64 n4, .int .i64 n5]) (ok := fun _ => True) (okp := fun _ => True) ?hr ?hp (fun _ hk => hk) trivial (Below.refl _ _) (Nat.le_refl _) (by simp) ?_
    (case hd => rfl)
    (case hg => rfl)
    (case hr => (go_simp; done))
    (case hp => exact (xV (show Kd.M k31 _ _ _ (⟨n0, n1, n2, n3, n4, n5⟩ : S31) [.int .i64 n0, .int .i64 n1, .int .i64 n2, .int .i64 n3, .int .i64 n4, .int .i64 n5] from (vK _ _ _ (⟨n0, n1, n2, n3, n4, n5⟩ : S31))) (Reps.none _ _)))
    intro a2 w35 ho hb hg_ hnew_
    clear hg_ hnew_
    have a1 := am (Kd.R_lower (Kd.R_new' ho (Kd.R_lt H33.out)) (kJ HD.out))
    have H33 := am (Kd.R_elder' H33.out (Kd.R_base ho) hb)
    have H35 := a1
    clear a1
    have HD := am (HD.out.trans (hb.mono HD.out.size))
    clear ho hb
    refine hK.out _ _ ⟨((kG (kI BG.out HD.out) 2).trans rfl), ((kG (kI BX.out HD.out) 0).trans rfl), ((kG (kI BX.out HD.out) 1).trans rfl), ((kG (kI BX.out HD.out) 2).trans rfl), ((kG (kI BX.out HD.out) 3).trans rfl), ((kG (kI BX.out HD.out) 4).trans rfl), ((kG (kI BX.out HD.out) 5).trans rfl)⟩ (fun hHeld => ?_)
    clear hK K
    refine rO (a' := ?_) ?_ ?_
    rotate_left
    ·show Act.put _ (some 35) _ = _
     exact zN
    exact rO (by simp only [a0i, Act.put, List.setIfInBounds_toArray, List.set_cons_zero, List.set_cons_succ]) (hCont (a3, a0, a2) _ ⟨HD.out, H33.out, H35.out⟩)
   skip
   refine Kd.R_lit_step k31 _ 31 ?hg (N := 35) ?hd (xs := [(⟨n0, n1, n2, n3, n4, n5⟩ : S31)]) (inner := [.int .i64 n0, .int .i64 n1, .int .i64 n2, .int .i64 n3, .int .i64 n4, .int .i64 n5]) (ok := fun _ => True) (okp := fun _ => True) ?hr ?hp (fun _ hk => hk) trivial (Below.refl _ _) (Nat.le_refl _) (by simp) ?_
   (case hd => rfl)
   (case hg => rfl)
   (case hr => (go_simp; done))
   (case hp => exact (xV (show Kd.M k31 _ _ _ (⟨n0, n1, n2, n3, n4, n5⟩ : S31) [.int .i64 n0, .int .i64 n1, .int .i64 n2, .int .i64 n3, .int .i64 n4, .int .i64 n5] from (vK _ _ _ (⟨n0, n1, n2, n3, n4, n5⟩ : S31))) (Reps.none _ _)))
   intro a2 w35 ho hb hg_ hnew_
   clear hg_ hnew_
   have a1 := am (Kd.R_lower (Kd.R_new' ho (Kd.R_lt H28.out)) (kJ HD.out))
   have H28 := am (Kd.R_elder' H28.out (Kd.R_base ho) hb)
   have H35 := a1
   clear a1
   have HD := am (HD.out.trans (hb.mono HD.out.size))
   clear ho hb
   refine hK.out _ _ ⟨((kG (kI BG.out HD.out) 2).trans rfl), ((kG (kI BX.out HD.out) 0).trans rfl), ((kG (kI BX.out HD.out) 1).trans rfl), ((kG (kI BX.out HD.out) 2).trans rfl), ((kG (kI BX.out HD.out) 3).trans rfl), ((kG (kI BX.out HD.out) 4).trans rfl), ((kG (kI BX.out HD.out) 5).trans rfl)⟩ (fun hHeld => ?_)
   clear hK K
   refine rO (a' := ?_) ?_ ?_
   rotate_left
   ·show Act.put _ (some 35) _ = _
    exact zN
   exact c1p
  skip
  refine Kd.R_lit_step k31 _ 31 ?hg (N := 35) ?hd (xs := [(⟨n0, n1, n2, n3, n4, n5⟩ : S31)]) (inner := [.int .i64 n0, .int .i64 n1, .int .i64 n2, .int .i64 n3, .int .i64 n4, .int .i64 n5]) (ok := fun _ => True) (okp := fun _ => True) ?hr ?hp (fun _ hk => hk) trivial (Below.refl _ _) (Nat.le_refl _) (by simp) ?_
  (case hd => rfl)
  (case hg => rfl)
  (case hr => (go_simp; done))
  (case hp => exact (xV (show Kd.M k31 _ _ _ (⟨n0, n1, n2, n3, n4, n5⟩ : S31) [.int .i64 n0, .int .i64 n1, .int .i64 n2, .int .i64 n3, .int .i64 n4, .int .i64 n5] from (vK _ _ _ (⟨n0, n1, n2, n3, n4, n5⟩ : S31))) (Reps.none _ _)))
  intro a2 w35 ho hb hg_ hnew_
  clear hg_ hnew_
  have H35 := am (Kd.R_lower ho (kJ HD.out))
  have HD := am (HD.out.trans (hb.mono HD.out.size))
  clear ho hb
  refine hK.out _ _ ⟨((kG (kI BG.out HD.out) 2).trans rfl), ((kG (kI BX.out HD.out) 0).trans rfl), ((kG (kI BX.out HD.out) 1).trans rfl), ((kG (kI BX.out HD.out) 2).trans rfl), ((kG (kI BX.out HD.out) 3).trans rfl), ((kG (kI BX.out HD.out) 4).trans rfl), ((kG (kI BX.out HD.out) 5).trans rfl)⟩ (fun hHeld => ?_)
  clear hK K
  refine rO (a' := ?_) ?_ ?_
  rotate_left
  ·show Act.put _ (some 35) _ = _
   exact zN
  refine yN (i := 0) (N := some 28) b5r rfl rfl (by kernel_rfl) (by decide) (fun K hK => ?_)
  refine Kd.R_lit_step k31 _ 31 ?hg (N := 28) ?hd (xs := ([] : List (S31))) (inner := []) (ok := fun _ => True) (okp := fun _ => True) ?hr ?hp (fun _ hk => hk) trivial (Below.refl _ _) (Nat.le_refl _) (by simp) ?_
  (case hd => rfl)
  (case hg => rfl)
  (case hr => (go_simp; done))
  (case hp => exact Reps.none _ _)
  intro a3 w28 ho hb hg_ hnew_
  clear hg_ hnew_
  have a7 := am (Kd.R_lower (Kd.R_new' ho (Kd.R_lt H35.out)) (kJ HD.out))
  have H35 := am (Kd.R_elder' H35.out (Kd.R_base ho) hb)
  have H28 := a7
  clear a7
  have HD := am (HD.out.trans (hb.mono HD.out.size))
  clear ho hb
  refine hK.out _ _ ⟨((kG (kI BG.out HD.out) 2).trans rfl), ((kG (kI BX.out HD.out) 0).trans rfl), ((kG (kI BX.out HD.out) 1).trans rfl), ((kG (kI BX.out HD.out) 2).trans rfl), ((kG (kI BX.out HD.out) 3).trans rfl), ((kG (kI BX.out HD.out) 4).trans rfl), ((kG (kI BX.out HD.out) 5).trans rfl)⟩ (fun hHeld => ?_)
  clear hK K
  refine rO (a' := ?_) ?_ ?_
  rotate_left
  ·show Act.put _ (some 28) _ = _
   exact zN
  exact c1p
 rintro ⟨a3, a0, a2⟩ wj ⟨hd_, a6, a5⟩
 have HD := am hd_; have H33 := am a6; have H35 := am a5
 clear hd_ a6 a5
 obtain ⟨A5, c5, e5⟩ := Kd.R_slice H35.out
 simp only [] at e5
 subst e5
 have hHeld : wj.cell? ⟨g, 2, none⟩ = some (.slice A2 l.length c2) ∧ wj.cell? ⟨gx, 0, none⟩ = some (.int .i64 n0) ∧ wj.cell? ⟨gx, 1, none⟩ = some (.int .i64 n1) ∧ wj.cell? ⟨gx, 2, none⟩ = some (.int .i64 n2) ∧ wj.cell? ⟨gx, 3, none⟩ = some (.int .i64 n3) ∧ wj.cell? ⟨gx, 4, none⟩ = some (.int .i64 n4) ∧ wj.cell? ⟨gx, 5, none⟩ = some (.int .i64 n5) := ⟨((kG (kI BG.out HD.out) 2).trans rfl), ((kG (kI BX.out HD.out) 0).trans rfl), ((kG (kI BX.out HD.out) 1).trans rfl), ((kG (kI BX.out HD.out) 2).trans rfl), ((kG (kI BX.out HD.out) 3).trans rfl), ((kG (kI BX.out HD.out) 4).trans rfl), ((kG (kI BX.out HD.out) 5).trans rfl)⟩
 refine rO (a' := ?_) ?_ ?_
 rotate_left
 ·simp only [a0i, Act.put, List.setIfInBounds_toArray, List.set_cons_zero, List.set_cons_succ]
  rfl
 refine yN (i := 8) (N := some 36) c3n rfl rfl (by kernel_rfl) (by decide) (fun K hK => ?_)
 refine Kd.R_append_rows_step k31 (w0 := wr) wr.heap.size (by rfl) (.tmp 33) (.tmp 35) 24 31 (.agg #[(.int .i64 0), (.int .i64 0), (.int .i64 0), (.int .i64 0), (.int .i64 0), (.int .i64 0)]) 48 rfl Try.underlying24 yI rfl (by decide) oM a0 l [(⟨n0, n1, n2, n3, n4, n5⟩ : S31)] _ _ _ (fun k => True ∧ some k ≠ (Value.slice A5 1 c5).ownBlock) (fun _ => False) rfl rfl ?aO ?aR (fun _ _ h => h) (fun _ h => h.elim) ?aF ?aB ?aS ?aL ?_
 (case aR => exact (Kd.R_reads' H35.out).2.2)
 (case aB => exact HD.out)
 (case aF => exact (fun k hk => ⟨trivial, Kd.fresh' (Kd.R_lt H35.out) k hk⟩))
 (case aO => exact H33.out)
 (case aS => exact (kJ HD.out))
 (case aL => (have := HL.out; simp; omega))
 intro aC w6 ho hb hg_ hat_
 rw [HEQ.out] at ho
 have H36 := am ho
 have HD := am hb
 clear ho hb hg_ hat_
 clear H33 H35
 obtain ⟨A6, c6, rfl⟩ := Kd.R_slice H36.out
 refine hK.out _ _ ⟨((kG (kI BG.out HD.out) 2).trans rfl), ((kG (kI BX.out HD.out) 0).trans rfl), ((kG (kI BX.out HD.out) 1).trans rfl), ((kG (kI BX.out HD.out) 2).trans rfl), ((kG (kI BX.out HD.out) 3).trans rfl), ((kG (kI BX.out HD.out) 4).trans rfl), ((kG (kI BX.out HD.out) 5).trans rfl)⟩ (fun hHeld => ?_)
 clear hK K
 refine rO (a' := ?_) ?_ ?_
 rotate_left
 ·show Act.put _ (some 36) _ = _
  exact zN
 refine pN (i := 9) (N := some 8) (v := ?_) (a' := ?_) c3k rfl rfl (by kernel_rfl) (fun _ _ _ h => h) (Or.inl ⟨by rfl, ?_⟩) ?_ ?_
 rotate_left
 ·intro w'
  go_simp
  with_reducible rfl
 rotate_left
 ·exact zN
 refine yK (by kernel_rfl) ?_
 have BG := am (kI BG.out HD.out); have HR := am (Kd.R_below HR.out HD.out); have a9 := am (HK.out.below HD.out)
 have HN6 := am (show Kd.R k31 31 w6 w0.heap.size (fun k => k ≠ g ∧ w.heap.size ≤ k) (.slice A6 nl.length c6) nl from Kd.R_lower (Kd.R_mono (Kd.R_bound H36.out) (fun k h => ⟨by have := sO BG0.out; have := h.2.1; omega, Nat.le_trans HK.out.1 h.2.1⟩)) (kJ HB.out))
 have HB := am (HB.out.trans (HD.out.mono HB.out.size)); have HK := am a9.out
 clear a9 H36 HD BG0 hHeld g2 z0 z1 z2 z3 z4 z5 t2 BX
 go_wp2_with fail
 refine (spec_l02Node.calls k A6 c6 nl (wrap64 ((nl.length : Int) - 1)) b _ (Kd.R_reads' HN6.out).2.2 (Kd.R_reads' HN6.out).2.1 (by rw [E1.out]; exact HND.out)).mono ?_
 rintro e w7 ⟨rfl, hb7⟩
 have BG := am (kI BG.out hb7); have HR := am (Kd.R_below HR.out hb7); have HN6 := am (Kd.R_below HN6.out hb7); have HK := am (HK.out.below hb7); have HB := am (HB.out.trans (hb7.mono HB.out.size))
 clear hb7
 cases b with
 | false =>
  have h1 := HH.out
  rw [if_neg (by decide)] at h1
  simp only [Option.some.injEq, Prod.mk.injEq] at h1
  obtain ⟨rfl, rfl, rfl, rfl⟩ := h1
  go_wp2_with fail
  refine (spec_l03Fail.calls g s a l 0 0 3 frm 0 s a 3 frm w0 w7 ⟨A2, c2, BG.out, G0.out, rfl, rfl⟩ HB.out rfl).mono ?_
  exact c0z
 | true =>
  by_cases a4 : l.length = 80
  ·have t3 : decide (80 < (nl.length : Int)) = true := decide_eq_true (by have := HNL.out; omega)
   have h1 := HH.out
   rw [if_pos rfl, if_pos a4] at h1
   simp only [Option.some.injEq, Prod.mk.injEq] at h1
   obtain ⟨rfl, rfl, rfl, rfl⟩ := h1
   clear a4
   go_wp2_with fail
   refine (spec_l03Fail.calls g s a l 0 0 4 frm 0 s a 4 frm w0 w7 ⟨A2, c2, BG.out, G0.out, rfl, rfl⟩ HB.out rfl).mono ?_
   exact c0z
  have t3 : decide (80 < (nl.length : Int)) = false := decide_eq_false (by have := HNL.out; have := HL.out; omega)
  have h1 := HH.out
  rw [if_pos rfl, if_neg a4] at h1
  simp only [Option.some.injEq, Prod.mk.injEq] at h1
  obtain ⟨rfl, rfl, rfl, rfl⟩ := h1
  have H80 := am a4
  have g2 : w7.cell? ⟨g, 2, none⟩ = some (.slice A2 l.length c2) := (kG BG.out 2).trans rfl
  have hfz := kE BG.out 2
  clear a4
  go_wp2_with fail
  go_ret
  refine ⟨by rw [E1.out]; rfl, ⟨A6, c6, ⟨⟨A6, c6, by simpa using qM BG.out 2 (.slice A6 nl.length c6), G0.out, rfl, rfl⟩, ?_, kZ HB.out G0.out⟩, fun k e => .inr (HN6.out.1 k e).2⟩, Kept.setCell HK.out (p := ⟨g, 2, none⟩) (.inl rfl) (.slice A6 nl.length c6), by have := HNL.out; have := HL.out; have := H80.out; omega⟩
  exact Kd.R_mono (Kd.R_far (p := ⟨g, 2, none⟩) HN6.out (fun k h => h.1) (.slice A6 nl.length c6)) (fun k h => h.1)
end
end Go.Proofs.Ytkpipmojkhikaaa.PAll
