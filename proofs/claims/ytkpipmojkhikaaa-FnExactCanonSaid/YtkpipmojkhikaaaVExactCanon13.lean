/- Written by a program of this session over the loaded program, and by hand: Go functions as plain Lean functions, and that a call comes to what they say. -/
import Derived.Test.YtkpipmojkhikaaaVExactCanon0
import Derived.Test.YtkpipmojkhikaaaVExactCanon3
import Derived.Test.YtkpipmojkhikaaaVExactCanon6
import Derived.Test.YtkpipmojkhikaaaVExactCanon7
import Derived.Test.YtkpipmojkhikaaaVExactCanon10
import Derived.Test.YtkpipmojkhikaaaVExactCanon11
import Derived.Test.YtkpipmojkhikaaaVExactCanon12
import Derived.Test.YtkpipmojkhikaaaBase
import Derived.Test.YtkpipmojkhikaaaSq
namespace Go.Proofs.Ytkpipmojkhikaaa.PAll
open Go.RowKit Go.Proofs.YtkpipmojkhikaaaW.PrintWords Go.Proofs.YtkpipmojkhikaaaW.PrintLast Go.Proofs.YtkpipmojkhikaaaW.PrintMore Go.Proofs.YtkpipmojkhikaaaW.Sq
attribute [local go_sem] max2_int min2_int max_two min_two max_three min_three max_four min_four   -- for this text's walks alone
set_option linter.unusedVariables false
set_option linter.unusedSimpArgs false

@[reducible] def zA0x45 : Array Bool := #[false, false, false, false, false, false, false, false]
@[reducible] def zA1x45 : Array Bool := #[true, false, false, false, false, false, false, false]
@[reducible] def zA2x45 : Array Bool := #[true, false, true, false, false, false, false, false]
@[reducible] def zA3x45 : Array Bool := #[true, true, true, false, false, false, false, false]
@[reducible] def zA4x45 : Array Bool := #[true, true, true, false, true, false, false, false]
@[reducible] def zA5x45 : Array Bool := #[true, true, true, true, true, false, false, false]
@[reducible] def zA6x45 : Array Bool := #[true, true, true, true, true, true, false, false]
@[reducible] def zA7x45 : Array Bool := #[true, true, true, true, true, true, true, false]
@[reducible] def zA8x45 : Array Bool := #[true, true, true, true, true, true, true, true]
/-! ### impl_termReader_node, behind an opening bracket: by hand -/
variable {Ax : Option Addr} {cx : Nat}
abbrev RdV := Int → List (S31) → Int → Int → Option ((Int × Bool) × Int × List (S31) × Int × Int)
/-- What a call of node does, as V tells. -/
def NodeCon (s : ByteArray) (V : RdV) : Prop :=
 ∀ (g : Nat) (a : Int) (l : List (S31)) (code bad p : Int) (ok : Bool) (a' : Int) (l' : List (S31)) (code' bad' : Int) (A : Option Addr) (c : Nat) (w0 w : World), IsRd w0 w g s a l code bad A c → l.length ≤ 80 → V a l code bad = some ((p, ok), a', l', code', bad') →
  Calls Try.prog 61 #[.pointer (some ⟨g, 0, none⟩)] w fun e w' => e = .returned (.tuple #[.int .i64 p, .bool ok]) ∧ Left w0 w w' g s a' l' code' bad' A c l.length
/-- The parts: whether all went, their places, and what is left. -/
def kidsF (V : RdV) (s : ByteArray) (frm : Int) : Nat → Int → List (S31) → Int → Int → List Int → Option (Bool × List Int × Int × List (S31) × Int × Int)
 | 0, a, l, c, b, acc => some (true, acc, a, l, c, b)
 | m + 1, a, l, c, b, acc => (gF s a l c b 32).bind fun g => if g.1 = true then (V g.2 l c b).bind fun r => (if r.1.2 = true then kidsF V s frm m r.2.1 r.2.2.1 r.2.2.2.1 r.2.2.2.2 (acc ++ [r.1.1]) else some (false, acc, r.2.1, r.2.2.1, r.2.2.2.1, r.2.2.2.2)) else some (false, acc, g.2, l, 2, frm)
def innerF (k : Nat) (V : RdV) (s : ByteArray) (a : Int) (l : List (S31)) (code bad frm : Int) : Option ((Int × Bool) × Int × List (S31) × Int × Int) :=
 (wF k s a l code bad).bind fun w1 => (impl_opOf.f k w1.1).bind fun o => if o.2 = true then
  (numbersF k s w1.2 l code bad ⟨o.1, 0, 0, 0, 0, 0⟩).bind fun m => (if m.1 = true then
   (kidsF V s frm (partsL m.2.2.f0 m.2.2.f3 m.2.2.f4 m.2.2.f5).length m.2.1 l code bad []).bind fun q => (if q.1 = true then
    (gF s q.2.2.1 q.2.2.2.1 q.2.2.2.2.1 q.2.2.2.2.2 41).bind fun e => (if e.1 = true then
     (impl_termReader_width.f k s e.2 q.2.2.2.1 q.2.2.2.2.1 q.2.2.2.2.2 m.2.2.f0 m.2.2.f1 m.2.2.f2 (rd q.2.1 0) (if m.2.2.f0 = 19 ∨ m.2.2.f0 = 20 then m.2.2.f4 else rd q.2.1 1) (rd q.2.1 2)).bind fun wd =>
      some (putR q.2.2.2.1 q.2.2.2.2.1 q.2.2.2.2.2 ⟨m.2.2.f0, wd.1, m.2.2.f2, rd q.2.1 0, if m.2.2.f0 = 19 ∨ m.2.2.f0 = 20 then m.2.2.f4 else rd q.2.1 1, rd q.2.1 2⟩ frm e.2)
    else some ((0, false), e.2, q.2.2.2.1, 2, frm))
   else some ((0, false), q.2.2.1, q.2.2.2.1, q.2.2.2.2.1, q.2.2.2.2.2))
  else some ((0, false), m.2.1, l, 2, frm))
 else some ((0, false), w1.2, l, 2, frm)
set_option maxHeartbeats 4000000 in
set_option maxRecDepth 100000 in
theorem impl_termReader_node.inner (k g : Nat) (V : RdV) (s : ByteArray) (hV : NodeCon s V) (a a1 : Int) (l : List (S31)) (code bad p : Int) (ok : Bool) (a' : Int) (l' : List (S31)) (code' bad' : Int) (A : Option Addr) (c : Nat) (w0 w : World) (hI : IsRd w0 w g s a l code bad A c) (hl : l.length ≤ 80) (hg : gF s a l code bad 40 = some (true, a1))
  (hf : innerF k V s a1 l code bad a = some ((p, ok), a', l', code', bad')) :
  Calls Try.prog 61 #[.pointer (some ⟨g, 0, none⟩)] w fun e w' => e = .returned (.tuple #[.int .i64 p, .bool ok]) ∧ Left w0 w w' g s a' l' code' bad' A c l.length := by
 obtain ⟨hS, hR, hB⟩ := hI
 have HV := am hV
 have HS := am hS; have HR := am hR; have HB := am hB; have HL := am hl; have HG := am hg
 unfold innerF at hf
 obtain ⟨⟨v1, a2⟩, hw1, hf⟩ := oB hf
 obtain ⟨⟨op, f1⟩, ho1, hf⟩ := oB hf
 have HW := am hw1; have HP := am ho1; have HF := am hf
 obtain ⟨A2, c2, hbg, _, _, _⟩ := hS
 have g1 := (blk_cell hbg 1)
 have g1 : w.cell? ⟨g, 1, none⟩ = some (.int .i64 a) := g1.trans rfl
 have HK := am (Kept.refl w (fun k => k = g ∨ some k = (Value.slice A l.length c).ownBlock))
 clear hR hB hl hg hw1 ho1 hf hbg hV
 go_enter Try.func61, Try.ntmps61
 go_wp2_with fail
 refine (goesC g s a l code bad 40 true a1 w0 _ HS.out HB.out HG.out).mono ?_
 rintro e w1 ⟨rfl, hi, hb, hk⟩
 have HS := am hi; have HR := am (Kd.R_keep HR.out hk (fun _ h => h)); have HB := am hb; have HK := am (Kept.of_keep HK.out hk (.inl (.inl rfl)))
 clear hi hb hk g1
 go_wp2_with fail
 refine (wordC k g s a1 l code bad v1 a2 w0 _ HS.out HB.out HW.out).mono ?_
 rintro e w2 ⟨rfl, hi, hb, hk⟩
 have HS := am hi; have HR := am (Kd.R_keep HR.out hk (fun _ h => h)); have HB := am hb; have HK := am (Kept.of_keep HK.out hk (.inl (.inl rfl)))
 clear hi hb hk
 go_wp2_with fail
 refine (impl_opOf.calls k v1 op f1 _ HP.out).mono ?_
 rintro e w3 ⟨rfl, hd⟩
 have HS := am (IsS84.below HS.out hd); have HR := am (Kd.R_below HR.out hd); have HB := am (HB.out.trans (hd.mono HB.out.size)); have HK := am (HK.out.below hd)
 clear hd
 have BN := am (heap_alloc_new w3 (Obj.cells #[Value.int .i64 op, Value.int .i64 0, Value.int .i64 0, Value.int .i64 0, Value.int .i64 0, Value.int .i64 0] 31))
 have hA := below_alloc (Below.refl w3.heap.size w3) (Obj.cells #[Value.int .i64 op, Value.int .i64 0, Value.int .i64 0, Value.int .i64 0, Value.int .i64 0, Value.int .i64 0] 31)
 have HNO := am (show ∀ k, (Value.slice A l.length c).ownBlock = some k → k < w3.heap.size from fun k e => Kd.R_lt HR.out k e)
 have HB3 := am (below_size HB.out)
 have HW3 := am (show w.heap.size ≤ w3.heap.size from HK.out.1)
 have HS := am (IsS84.below HS.out hA); have HR := am (Kd.R_below HR.out hA); have HB := am (HB.out.trans (hA.mono HB.out.size)); have HK := am (HK.out.below hA)
 cases f1 with
 | false =>
  have hf := HF.out
  rw [if_neg (by decide)] at hf
  simp only [Option.some.injEq, Prod.mk.injEq] at hf
  obtain ⟨⟨rfl, rfl⟩, rfl, rfl, rfl, rfl⟩ := hf
  clear hA
  go_wp2_with fail
  refine (impl_termReader_fails.calls g s a2 l code bad 2 a 0 false s a2 2 a w0 _ HS.out HB.out rfl).mono ?_
  rintro e w5 ⟨rfl, hi, hb, hk⟩
  have HS := am hi; have HR := am (Kd.R_keep HR.out hk (fun _ h => h)); have HB := am hb; have HK := am (Kept.of_keep HK.out hk (.inl (.inl rfl)))
  clear hi hb hk
  go_wp2_with fail
  refine bodyPost_ret (results_list (rs := [.tmp 2, .tmp 3]) rfl (by simp) (.tmp (.tmp .nil))) rfl ?_
  exact ⟨rfl, ⟨A, c, ⟨HS.out, HR.out, HB.out⟩, fun k e => .inl e.symm⟩, HK.out, HL.out⟩
 | true =>
  have hf := HF.out
  rw [if_pos rfl] at hf
  obtain ⟨⟨f2, a3, n1⟩, hm, hf⟩ := oB hf
  have HM := am hm; have HF := am hf
  clear hm hf hA
  go_wp2_with fail
  refine (impl_termReader_numbers.calls k g w3.heap.size s a2 l code bad ⟨op, 0, 0, 0, 0, 0⟩ f2 a3 n1 A c w0 _ ⟨HS.out, HB.out, BN.out, Kept.refl _ _⟩ HB3.out HM.out).mono ?_
  rintro e w5 ⟨rfl, hS5, hB5, hN5, hK5⟩
  have HR := am (Kd.R_mono (Kd.R_kept (Kd.R_mono (Kd.R_tight rfl HR.out) (ok' := fun k => k ≠ g ∧ k ≠ w3.heap.size) (fun k e => ⟨HR.out.1 k e.symm, by have := HNO.out k e.symm; omega⟩)) hK5 (fun k hk hs => by rcases hs with h | h; exact hk.1 h; exact hk.2 h)) (fun _ h => h.1))
  have HK := am (HK.out.then_ hK5 (fun k h => by rcases h with h | h; exact .inl (.inl h); exact .inr (by have := HW3.out; omega)))
  have HS := am hS5; have HB := am hB5; have BN := am hN5
  clear hS5 hB5 hN5 hK5
  cases f2 with
  | false =>
   have hf := HF.out
   rw [if_neg (by decide)] at hf
   simp only [Option.some.injEq, Prod.mk.injEq] at hf
   obtain ⟨⟨rfl, rfl⟩, rfl, rfl, rfl, rfl⟩ := hf
   go_wp2_with fail
   refine (impl_termReader_fails.calls g s a3 l code bad 2 a 0 false s a3 2 a w0 _ HS.out HB.out rfl).mono ?_
   rintro e w6 ⟨rfl, hi, hb, hk⟩
   have HS := am hi; have HR := am (Kd.R_keep HR.out hk (fun _ h => h)); have HB := am hb; have HK := am (Kept.of_keep HK.out hk (.inl (.inl rfl)))
   clear hi hb hk
   go_wp2_with fail
   refine bodyPost_ret (results_list (rs := [.tmp 2, .tmp 3]) rfl (by simp) (.tmp (.tmp .nil))) rfl ?_
   exact ⟨rfl, ⟨A, c, ⟨HS.out, HR.out, HB.out⟩, fun k e => .inl e.symm⟩, HK.out, HL.out⟩
  | true =>
   have hf := HF.out
   rw [if_pos rfl] at hf
   have HF := am hf
   clear hf
   obtain ⟨⟨m0, m1, m2, m3, m4, m5⟩, hn1⟩ : ∃ n, n1 = n := ⟨_, rfl⟩
   subst hn1
   have BP := am (heap_alloc_new w5 (Obj.cells #[Value.int .i64 0, Value.int .i64 0, Value.int .i64 0] 101))
   have hA := below_alloc (Below.refl w5.heap.size w5) (Obj.cells #[Value.int .i64 0, Value.int .i64 0, Value.int .i64 0] 101)
   have HNP := am (show ∀ k, (Value.slice A l.length c).ownBlock = some k → k < w5.heap.size from fun k e => Kd.R_lt HR.out k e)
   have HHP := am (show w3.heap.size < w5.heap.size from blk_lt BN.out)
   have HW5 := am (show w.heap.size ≤ w5.heap.size from HK.out.1)
   have HB5 := am (below_size HB.out)
   have HS := am (IsS84.below HS.out hA); have HR := am (Kd.R_below HR.out hA); have HB := am (HB.out.trans (hA.mono HB.out.size)); have HK := am (HK.out.below hA); have BN := am (blk_below BN.out hA)
   obtain ⟨q0, q1, q2, q3, q4, q5⟩ := cz6q BN.out
   clear hA
   go_wp2_with fail
   refine (impl_Parts.calls 1 m0 m1 m2 m3 m4 m5 (partsL m0 m3 m4 m5) _ (partsI m0 m1 m2 m3 m4 m5 (Nat.le_refl 1))).mono ?_
   rintro e w6 ⟨v6, rfl, hO, hb6⟩
   obtain ⟨A6, c6, e6⟩ := Kd.R_slice hO
   subst e6
   have HS := am (IsS84.below HS.out hb6); have HR := am (Kd.R_below HR.out hb6); have HB := am (HB.out.trans (hb6.mono HB.out.size)); have HK := am (HK.out.below hb6); have BN := am (blk_below BN.out hb6); have BP := am (blk_below BP.out hb6)
   have HPL := am (partsL_len m0 m3 m4 m5)
   clear hO hb6 q0 q1 q2 q3 q4 q5
   have hf := HF.out
   obtain ⟨⟨fq, acc, aq, lq, cq, bq⟩, hkq, hf⟩ := oB hf
   try simp only [] at hkq
   have HKQ := am hkq; have HF := am hf
   clear hf hkq
   have HOW := am (show ∀ k, (Value.slice A l.length c).ownBlock = some k → (some k = (Value.slice A l.length c).ownBlock ∨ w.heap.size ≤ k) ∧ k ≠ w3.heap.size ∧ k ≠ w5.heap.size from fun k e => ⟨.inl e.symm, by have := HNO.out k e; omega, by have := HNP.out k e; omega⟩)
   have BP := am (show w6.heap[w5.heap.size]? = some (.cells (xc []) 101 (0, 0)) from BP.out)
   go_wp2_with fail
   go_loopg [13, 14, 15, 84] (partsL m0 m3 m4 m5).length (fun gk u13 u14 u15 u84 w' => ∃ (i : Nat) (acc1 : List Int) (at1 : Int) (l1 : List (S31)) (c1 b1 : Int) (A1 : Option Addr) (cc1 : Nat), u84 = .int .i64 (i : Int) ∧ Aside0 (gk + i = (partsL m0 m3 m4 m5).length ∧ acc1.length = i) ∧ Aside0 (kidsF V s a gk at1 l1 c1 b1 acc1 = some (fq, acc, aq, lq, cq, bq)) ∧ Aside0 (IsRd w0 w' g s at1 l1 c1 b1 A1 cc1) ∧ Aside0 (∀ k, (Value.slice A1 l1.length cc1).ownBlock = some k → (some k = (Value.slice A l.length c).ownBlock ∨ w.heap.size ≤ k) ∧ k ≠ w3.heap.size ∧ k ≠ w5.heap.size) ∧ Aside0 (Kept w w' (fun k => k = g ∨ some k = (Value.slice A l.length c).ownBlock)) ∧ Aside0 (l1.length ≤ 80) ∧ Aside0 (w'.heap[w3.heap.size]? = some (.cells #[.int .i64 m0, .int .i64 m1, .int .i64 m2, .int .i64 m3, .int .i64 m4, .int .i64 m5] 31 (0, 0))) ∧ Aside0 (w'.heap[w5.heap.size]? = some (.cells (xc acc1) 101 (0, 0))))
   case atStart => exact ⟨0, [], a3, l, code, bad, A, c, rfl, ⟨rfl, rfl⟩, HKQ, ⟨HS.out, HR.out, HB.out⟩, HOW, HK, HL, BN, BP⟩
   case round =>
    obtain ⟨i, acc1, at1, l1, c1, b1, A1, cc1, rfl, HJ, HKQ, HI, HOW, HK, HL1, BN, BP⟩ := hrel
    by_cases hi : i < (partsL m0 m3 m4 m5).length
    ·have t2 : decide ((i : Int) < ((partsL m0 m3 m4 m5).length : Int)) = true := decide_eq_true (by omega)
     obtain ⟨gk2, rfl⟩ : ∃ g2, gk = g2 + 1 := ⟨gk - 1, by have := HJ.out.1; omega⟩
     have hh := HKQ.out
     unfold kidsF at hh
     obtain ⟨⟨fg, at2⟩, hg1, hh⟩ := oB hh
     have HG1 := am hg1; have HH := am hh
     clear hg1 hh HKQ
     go_wp2_with fail
     refine (goesC g s at1 l1 c1 b1 32 fg at2 w0 _ HI.out.1 HI.out.2.2 HG1.out).mono ?_
     rintro e w7 ⟨rfl, hi7, hb7, hk7⟩
     have HR7 := am (Kd.R_keep HI.out.2.1 hk7 (fun _ h => h))
     have hgh : g ≠ w3.heap.size := IsS84.ne_blk HI.out.1 BN.out (by decide)
     have hgp : g ≠ w5.heap.size := IsS84.ne_blk HI.out.1 BP.out (by decide)
     have BN := am ((hk7.2 _ (blk_lt BN.out) (fun e => hgh e.symm) (by simp)).trans BN.out)
     have BP := am ((hk7.2 _ (blk_lt BP.out) (fun e => hgp e.symm) (by simp)).trans BP.out)
     have HK := am (Kept.of_keep HK.out hk7 (.inl (.inl rfl)))
     have HI := am (show IsRd w0 w7 g s at2 l1 c1 b1 A1 cc1 from ⟨hi7, HR7.out, hb7⟩)
     clear hi7 hb7 hk7 HR7
     cases fg with
     | false =>
      have hh := HH.out
      rw [if_neg (by decide)] at hh
      simp only [Option.some.injEq, Prod.mk.injEq] at hh
      obtain ⟨rfl, rfl, rfl, rfl, rfl, rfl⟩ := hh
      have hf := HF.out
      rw [if_neg (by decide)] at hf
      simp only [Option.some.injEq, Prod.mk.injEq] at hf
      obtain ⟨⟨rfl, rfl⟩, rfl, rfl, rfl, rfl⟩ := hf
      go_wp2_with fail
      refine (impl_termReader_fails.calls g s at2 l1 c1 b1 2 a 0 false s at2 2 a w0 w7 HI.out.1 HI.out.2.2 rfl).mono ?_
      rintro e w8 ⟨rfl, hi8, hb8, hk8⟩
      have HI8 := am (show IsRd w0 w8 g s at2 l1 2 a A1 cc1 from ⟨hi8, Kd.R_keep HI.out.2.1 hk8 (fun _ h => h), hb8⟩)
      have HK := am (Kept.of_keep HK.out hk8 (.inl (.inl rfl)))
      clear hi8 hb8 hk8
      go_wp2_with fail
      refine bodyPost_ret (results_list (rs := [.tmp 2, .tmp 3]) rfl (by simp) (.tmp (.tmp .nil))) rfl ?_
      exact ⟨rfl, ⟨A1, cc1, HI8.out, fun k e => (HOW.out k e).1⟩, HK.out, HL1.out⟩
     | true =>
      have hh := HH.out
      rw [if_pos rfl] at hh
      obtain ⟨⟨⟨pv, okv⟩, at3, l3, c3, b3⟩, hv, hh⟩ := oB hh
      have HVV := am hv; have HH := am hh
      clear hv hh
      go_wp2_with fail
      refine (HV.out g at2 l1 c1 b1 pv okv at3 l3 c3 b3 A1 cc1 w0 w7 HI.out HL1.out HVV.out).mono ?_
      rintro e w8 ⟨rfl, ⟨A3, cc3, hI8, hO8⟩, hK8, hL8⟩
      have HHN := am (show w3.heap.size < w7.heap.size from blk_lt BN.out)
      have HPN := am (show w5.heap.size < w7.heap.size from blk_lt BP.out)
      have HW7 := am (show w.heap.size ≤ w7.heap.size from HK.out.1)
      have BN := am (blk_kept BN.out hK8 (fun hs => by rcases hs with h | h; exact hgh h.symm; exact (HOW.out _ h.symm).2.1 rfl))
      have BP := am (blk_kept BP.out hK8 (fun hs => by rcases hs with h | h; exact hgp h.symm; exact (HOW.out _ h.symm).2.2 rfl))
      have HK := am (HK.out.then_ hK8 (fun k h => by
       rcases h with h | h
       ·exact .inl (.inl h)
       ·rcases (HOW.out k h.symm).1 with h2 | h2
        ·exact .inl (.inr h2)
        ·exact .inr h2))
      have HOW := am (show ∀ k, (Value.slice A3 l3.length cc3).ownBlock = some k → (some k = (Value.slice A l.length c).ownBlock ∨ w.heap.size ≤ k) ∧ k ≠ w3.heap.size ∧ k ≠ w5.heap.size from fun k e => by
       rcases hO8 k e with h | h
       ·exact HOW.out k h.symm
       ·exact ⟨.inr (Nat.le_trans HW7.out h), by have := HHN.out; omega, by have := HPN.out; omega⟩)
      have HI := am hI8; have HL3 := am hL8
      clear hI8 hO8 hK8 hL8
      cases okv with
      | false =>
       have hh := HH.out
       rw [if_neg (by decide)] at hh
       simp only [Option.some.injEq, Prod.mk.injEq] at hh
       obtain ⟨rfl, rfl, rfl, rfl, rfl, rfl⟩ := hh
       have hf := HF.out
       rw [if_neg (by decide)] at hf
       simp only [Option.some.injEq, Prod.mk.injEq] at hf
       obtain ⟨⟨rfl, rfl⟩, rfl, rfl, rfl, rfl⟩ := hf
       go_wp2_with fail
       refine bodyPost_ret (results_list (rs := [.tmp 2, .tmp 3]) rfl (by simp) (.tmp (.tmp .nil))) rfl ?_
       exact ⟨rfl, ⟨A3, cc3, HI.out, fun k e => (HOW.out k e).1⟩, HK.out, HL3.out⟩
      | true =>
       have hh := HH.out
       rw [if_pos rfl] at hh
       have HKQ := am hh
       clear hh HH
       have hi3 : i < 3 := by have := HPL.out; omega
       have t3 : decide ((i : Int) < 3) = true := decide_eq_true (by omega)
       obtain ⟨xv, hxv⟩ := xc_get acc1 i hi3
       have hxx := (blk_cell BP.out i).trans hxv
       have hfx := blk_frozen BP.out i
       have kk : (0 : Int) ≤ (i : Int) ∧ (i : Int) < 3 := by omega
       have BN := am (blk_far (p := ⟨w5.heap.size, i, none⟩) BN.out (by have := HHP.out; show w3.heap.size ≠ w5.heap.size; omega) (.int .i64 pv))
       have BP1 := blk_set BP.out i (.int .i64 pv)
       rw [← HJ.out.2, xc_set acc1 pv (by rw [HJ.out.2]; exact hi3), HJ.out.2] at BP1
       have BP := am BP1
       have HI := am (show IsRd w0 (w8.setCell ⟨w5.heap.size, i, none⟩ (.int .i64 pv)) g s at3 l3 c3 b3 A3 cc3 from ⟨IsS84.far HI.out.1 hgp _, Kd.R_mono (Kd.R_far (p := ⟨w5.heap.size, i, none⟩) (Kd.R_mono (Kd.R_tight rfl HI.out.2.1) (ok' := fun k => k ≠ g ∧ k ≠ w5.heap.size) (fun k e => ⟨HI.out.2.1.1 k e.symm, (HOW.out k e.symm).2.2⟩)) (fun k h => h.2) (.int .i64 pv)) (fun k h => h.1), below_set HI.out.2.2 HB5.out⟩)
       have HK := am (HK.out.setCell (p := ⟨w5.heap.size, i, none⟩) (.inr HW5.out) (.int .i64 pv))
       clear BP1 hxv
       go_wp2_with fail
       clear hxx hfx kk t3
       go_roundg gk2
       case measure => omega
       case rel => exact ⟨i + 1, acc1 ++ [pv], at3, l3, c3, b3, A3, cc3, by go_num, ⟨by have := HJ.out.1; omega, by have := HJ.out.2; simp; omega⟩, HKQ, HI, HOW, HK, HL3, BN, BP⟩
    ·obtain rfl : i = (partsL m0 m3 m4 m5).length := by have := HJ.out.1; omega
     have hgk : gk = 0 := by have := HJ.out.1; omega
     subst hgk
     have t2 : decide (((partsL m0 m3 m4 m5).length : Int) < ((partsL m0 m3 m4 m5).length : Int)) = false := decide_eq_false (by omega)
     have hh := HKQ.out
     unfold kidsF at hh
     simp only [Option.some.injEq, Prod.mk.injEq] at hh
     obtain ⟨rfl, rfl, rfl, rfl, rfl, rfl⟩ := hh
     have hf := HF.out
     rw [if_pos rfl] at hf
     obtain ⟨⟨fe, ae⟩, hge, hf⟩ := oB hf
     have HGE := am hge; have HF := am hf
     clear hge hf HKQ
     go_wp2_with fail
     refine (goesC g s at1 l1 c1 b1 41 fe ae w0 _ HI.out.1 HI.out.2.2 HGE.out).mono ?_
     rintro e w7 ⟨rfl, hi7, hb7, hk7⟩
     have HR7 := am (Kd.R_keep HI.out.2.1 hk7 (fun _ h => h))
     have hgh : g ≠ w3.heap.size := IsS84.ne_blk HI.out.1 BN.out (by decide)
     have hgp : g ≠ w5.heap.size := IsS84.ne_blk HI.out.1 BP.out (by decide)
     have BN := am ((hk7.2 _ (blk_lt BN.out) (fun e => hgh e.symm) (by simp)).trans BN.out)
     have BP := am ((hk7.2 _ (blk_lt BP.out) (fun e => hgp e.symm) (by simp)).trans BP.out)
     have HK := am (Kept.of_keep HK.out hk7 (.inl (.inl rfl)))
     have HI := am (show IsRd w0 w7 g s ae l1 c1 b1 A1 cc1 from ⟨hi7, HR7.out, hb7⟩)
     clear hi7 hb7 hk7 HR7
     cases fe with
     | false =>
      have hf := HF.out
      rw [if_neg (by decide)] at hf
      simp only [Option.some.injEq, Prod.mk.injEq] at hf
      obtain ⟨⟨rfl, rfl⟩, rfl, rfl, rfl, rfl⟩ := hf
      go_wp2_with fail
      refine (impl_termReader_fails.calls g s ae l1 c1 b1 2 a 0 false s ae 2 a w0 w7 HI.out.1 HI.out.2.2 rfl).mono ?_
      rintro e w8 ⟨rfl, hi8, hb8, hk8⟩
      have HI8 := am (show IsRd w0 w8 g s ae l1 2 a A1 cc1 from ⟨hi8, Kd.R_keep HI.out.2.1 hk8 (fun _ h => h), hb8⟩)
      have HK := am (Kept.of_keep HK.out hk8 (.inl (.inl rfl)))
      clear hi8 hb8 hk8
      go_wp2_with fail
      refine bodyPost_ret (results_list (rs := [.tmp 2, .tmp 3]) rfl (by simp) (.tmp (.tmp .nil))) rfl ?_
      exact ⟨rfl, ⟨A1, cc1, HI8.out, fun k e => (HOW.out k e).1⟩, HK.out, HL1.out⟩
     | true =>
      have hf := HF.out
      rw [if_pos rfl] at hf
      obtain ⟨⟨wd, wd2, wd3, wd4, wd5⟩, hwd, hf⟩ := oB hf
      have HWD := am hwd; have HF9 := am hf
      clear hwd hf
      go_wp2_with fail
      obtain ⟨r0, r1, r2, r3, r4, r5⟩ := cz6q BN.out
      have hz35 := blk_frozen BN.out 5
      have hz33 := blk_frozen BN.out 3
      have p0 : w7.cell? ⟨w5.heap.size, 0, none⟩ = some (.int .i64 (rd acc1 0)) := (blk_cell BP.out 0).trans rfl
      have p2 : w7.cell? ⟨w5.heap.size, 2, none⟩ = some (.int .i64 (rd acc1 2)) := (blk_cell BP.out 2).trans rfl
      refine start_ (n := 8) (S := fun w' => w'.cell? ⟨w5.heap.size, 0, none⟩ = some (.int .i64 (rd acc1 0)) ∧ w'.cell? ⟨w5.heap.size, 2, none⟩ = some (.int .i64 (rd acc1 2))) (ds := []) zA0x45 (by kernel_rfl) rfl rfl ⟨p0, p2⟩ (fun hHeld => ?_)
      refine pS (i := 0) (N := some 114) zA1x45 ?_
      refine pS (i := 2) (N := some 116) zA2x45 ?_
      refine take_ (i := 1) (N := some 115) (v := ?_) (a' := ?_) zA3x45 rfl rfl (by kernel_rfl) (fun _ _ _ h => h) (Or.inl ⟨by rfl, ?_⟩) hHeld ?_ ?_
      rotate_left
      ·rintro w' ⟨s0, s1⟩
       go_simp
       with_reducible rfl
      rotate_left
      ·simp only [Act.put, List.setIfInBounds_toArray, List.set_cons_zero, List.set_cons_succ, i64_w, i32_w]
       rfl
      refine pS (i := 4) (N := some 118) zA4x45 ?_
      refine take_ (i := 3) (N := some 117) (v := ?_) (a' := ?_) zA5x45 rfl rfl (by kernel_rfl) (fun _ _ _ h => h) (Or.inl ⟨by rfl, ?_⟩) hHeld ?_ ?_
      rotate_left
      ·rintro w' ⟨s0, s1⟩
       go_simp
       with_reducible rfl
      rotate_left
      ·simp only [Act.put, List.setIfInBounds_toArray, List.set_cons_zero, List.set_cons_succ, i64_w, i32_w]
       rfl
      refine one_ (i := 5) (N := none) zA6x45 rfl rfl (by kernel_rfl) (by decide) (fun K hK => ?_)
      have BN := am (blk_drew BN.out)
      have BP := am (blk_drew BP.out)
      refine skip_ (w1 := ?_) (by rfl) rfl ?_ ?_
      rotate_left
      ·go_simp
       rfl
      have BP := am (blk_far (p := ⟨w3.heap.size, 3, none⟩) BP.out (by have := HHP.out; show w5.heap.size ≠ w3.heap.size; omega) (.int .i64 (rd acc1 0)))
      have BN := am (show (w7.drew.setCell ⟨w3.heap.size, 3, none⟩ (.int .i64 (rd acc1 0))).heap[w3.heap.size]? = some (.cells #[.int .i64 m0, .int .i64 m1, .int .i64 m2, .int .i64 (rd acc1 0), .int .i64 m4, .int .i64 m5] 31 (0, 0)) from by simpa using blk_set BN.out 3 (.int .i64 (rd acc1 0)))
      refine hK.out _ _ ⟨((blk_cell BP.out 0).trans rfl), ((blk_cell BP.out 2).trans rfl)⟩ (fun hHeld => ?_)
      clear hK K
      refine pS (i := 6) (N := some 119) zA7x45 ?_
      refine one_ (i := 7) (N := none) zA8x45 rfl rfl (by kernel_rfl) (by decide) (fun K hK => ?_)
      refine skip_ (w1 := ?_) (by rfl) rfl ?_ ?_
      rotate_left
      ·go_simp
       rfl
      have BP := am (blk_far (p := ⟨w3.heap.size, 5, none⟩) BP.out (by have := HHP.out; show w5.heap.size ≠ w3.heap.size; omega) (.int .i64 (rd acc1 2)))
      have BN := am (show ((w7.drew.setCell ⟨w3.heap.size, 3, none⟩ (.int .i64 (rd acc1 0))).setCell ⟨w3.heap.size, 5, none⟩ (.int .i64 (rd acc1 2))).heap[w3.heap.size]? = some (.cells #[.int .i64 m0, .int .i64 m1, .int .i64 m2, .int .i64 (rd acc1 0), .int .i64 m4, .int .i64 (rd acc1 2)] 31 (0, 0)) from by simpa using blk_set BN.out 5 (.int .i64 (rd acc1 2)))
      refine hK.out _ _ ⟨((blk_cell BP.out 0).trans rfl), ((blk_cell BP.out 2).trans rfl)⟩ (fun hHeld => ?_)
      clear hK K
      refine done_ (by kernel_rfl) ?_

      have HI := am (show IsRd w0 ((w7.setCell ⟨w3.heap.size, 3, none⟩ (.int .i64 (rd acc1 0))).setCell ⟨w3.heap.size, 5, none⟩ (.int .i64 (rd acc1 2))).drew g s ae l1 c1 b1 A1 cc1 from ⟨IsS84.drew (IsS84.far (IsS84.far HI.out.1 hgh _) hgh _), Kd.R_drew (Kd.R_mono (Kd.R_far (p := ⟨w3.heap.size, 5, none⟩) (Kd.R_far (p := ⟨w3.heap.size, 3, none⟩) (Kd.R_mono (Kd.R_tight rfl HI.out.2.1) (ok' := fun k => k ≠ g ∧ k ≠ w3.heap.size) (fun k e => ⟨HI.out.2.1.1 k e.symm, (HOW.out k e.symm).2.1⟩)) (fun k h => h.2) _) (fun k h => h.2) _) (fun k h => h.1)), below_drew1 (below_set (below_set HI.out.2.2 HB3.out) HB3.out)⟩)
      have HK := am (show Kept w ((w7.setCell ⟨w3.heap.size, 3, none⟩ (.int .i64 (rd acc1 0))).setCell ⟨w3.heap.size, 5, none⟩ (.int .i64 (rd acc1 2))).drew (fun k => k = g ∨ some k = (Value.slice A l.length c).ownBlock) from Kept.drew ((HK.out.setCell (p := ⟨w3.heap.size, 3, none⟩) (.inr HW3.out) _).setCell (p := ⟨w3.heap.size, 5, none⟩) (.inr HW3.out) _))
      have BN := am (show ((w7.setCell ⟨w3.heap.size, 3, none⟩ (.int .i64 (rd acc1 0))).setCell ⟨w3.heap.size, 5, none⟩ (.int .i64 (rd acc1 2))).drew.heap[w3.heap.size]? = some (.cells #[.int .i64 m0, .int .i64 m1, .int .i64 m2, .int .i64 (rd acc1 0), .int .i64 m4, .int .i64 (rd acc1 2)] 31 (0, 0)) from BN.out)
      have BP := am (show ((w7.setCell ⟨w3.heap.size, 3, none⟩ (.int .i64 (rd acc1 0))).setCell ⟨w3.heap.size, 5, none⟩ (.int .i64 (rd acc1 2))).drew.heap[w5.heap.size]? = some (.cells (xc acc1) 101 (0, 0)) from BP.out)
      clear r0 r1 r2 r3 r4 r5 hz35 hz33 p0 p2 hHeld
      generalize ((w7.setCell ⟨w3.heap.size, 3, none⟩ (.int .i64 (rd acc1 0))).setCell ⟨w3.heap.size, 5, none⟩ (.int .i64 (rd acc1 2))).drew = w8 at *
      obtain ⟨q0, q1, q2, q3, q4, q5⟩ := cz6q BN.out
      obtain ⟨qb, hqb⟩ : ∃ qb, ((m0 == 19) || (m0 == 20)) = qb := ⟨_, rfl⟩
      have HQB := am hqb
      clear hqb
      go_wp2_with fail
      refine (impl_isQuant.calls _ _ _ _ _ _ qb _ (by rw [isQuantI, HQB.out])).mono ?_
      rintro e w9 ⟨rfl, hd⟩
      have HI := am (show IsRd w0 w9 g s ae l1 c1 b1 A1 cc1 from ⟨IsS84.below HI.out.1 hd, Kd.R_below HI.out.2.1 hd, HI.out.2.2.trans (hd.mono HI.out.2.2.size)⟩)
      have HK := am (HK.out.below hd); have BN := am (blk_below BN.out hd); have BP := am (blk_below BP.out hd)
      clear hd q0 q1 q2 q3 q4 q5
      have hw0 : impl_termReader_width.f k s ae l1 c1 b1 m0 m1 m2 (rd acc1 0) (if m0 = 19 ∨ m0 = 20 then m4 else rd acc1 1) (rd acc1 2) = some (wd, wd2, wd3, wd4, wd5) := HWD.out
      have hf0 : some (putR l1 c1 b1 ⟨m0, wd, m2, rd acc1 0, if m0 = 19 ∨ m0 = 20 then m4 else rd acc1 1, rd acc1 2⟩ a ae) = some ((p, ok), a', l', code', bad') := HF9.out
      obtain ⟨e2, e3, e4, e5⟩ := width_keeps hw0
      rw [e2, e3, e4, e5] at hw0
      unfold putR at hf0
      simp only [Option.some.injEq, Prod.mk.injEq] at hf0
      obtain ⟨hp1, rfl, hp2⟩ := hf0
      clear HWD HF9 e2 e3 e4 e5
      cases qb with
      | true =>
       have hB : (if m0 = 19 ∨ m0 = 20 then m4 else rd acc1 1) = m4 := if_pos (by have := HQB.out; simpa using this)
       rw [hB] at hw0 hp1 hp2
       have HWD := am hw0; have HQ := am (show putsF l1 c1 b1 ⟨m0, wd, m2, rd acc1 0, m4, rd acc1 2⟩ a = ((p, ok), l', code', bad') from Prod.ext hp1 hp2)
       clear hw0 hp1 hp2 hB
       obtain ⟨q0, q1, q2, q3, q4, q5⟩ := cz6q BN.out
       go_wp2_with fail
       refine (impl_termReader_width.calls k g s ae l1 c1 b1 m0 m1 m2 (rd acc1 0) m4 (rd acc1 2) wd s ae c1 b1 w0 _ HI.out.1 HI.out.2.2 (Kd.C_foot_own HI.out.2.1 (fun _ h => h)) HWD.out).mono ?_
       rintro e w10 ⟨rfl, hi, hb, hk⟩
       have HR10 := am (Kd.R_keep HI.out.2.1 hk (fun _ h => h))
       have BN := am ((hk.2 _ (blk_lt BN.out) (fun e => hgh e.symm) (by simp)).trans BN.out)
       have HK := am (Kept.of_keep HK.out hk (.inl (.inl rfl)))
       have HI := am (show IsRd w0 w10 g s ae l1 c1 b1 A1 cc1 from ⟨hi, HR10.out, hb⟩)
       clear hi hb hk HR10 q0 q1 q2 q3 q4 q5
       have hz1 := blk_frozen BN.out 1
       obtain ⟨u0, u1, u2, u3, u4, u5⟩ := cz6q BN.out
       have HI := am (show IsRd w0 (w10.setCell ⟨w3.heap.size, 1, none⟩ (.int .i64 wd)) g s ae l1 c1 b1 A1 cc1 from ⟨IsS84.far HI.out.1 hgh _, Kd.R_mono (Kd.R_far (p := ⟨w3.heap.size, 1, none⟩) (Kd.R_mono (Kd.R_tight rfl HI.out.2.1) (ok' := fun k => k ≠ g ∧ k ≠ w3.heap.size) (fun k e => ⟨HI.out.2.1.1 k e.symm, (HOW.out k e.symm).2.1⟩)) (fun k h => h.2) _) (fun k h => h.1), below_set HI.out.2.2 HB3.out⟩)
       have HK := am (HK.out.setCell (p := ⟨w3.heap.size, 1, none⟩) (.inr HW3.out) (.int .i64 wd))
       have BN := am (show (w10.setCell ⟨w3.heap.size, 1, none⟩ (.int .i64 wd)).heap[w3.heap.size]? = some (.cells #[.int .i64 m0, .int .i64 wd, .int .i64 m2, .int .i64 (rd acc1 0), .int .i64 m4, .int .i64 (rd acc1 2)] 31 (0, 0)) from by simpa using blk_set BN.out 1 (.int .i64 wd))
       obtain ⟨q0, q1, q2, q3, q4, q5⟩ := cz6q BN.out
       go_wp2_with fail
       refine (impl_termReader_puts.calls g s ae l1 c1 b1 m0 wd m2 (rd acc1 0) m4 (rd acc1 2) a p ok l' code' bad' A1 cc1 w0 _ HI.out HL1.out HQ.out).mono ?_
       rintro e w12 ⟨rfl, ⟨A', c', hI, ho⟩, hk⟩
       have HI12 := am hI; have HO := am ho; have HK12 := am hk
       clear hI ho hk
       have HLN := am (show l'.length ≤ 80 from by have := putsF_len (code := c1) (bad := b1) (n := ⟨m0, wd, m2, rd acc1 0, m4, rd acc1 2⟩) (frm := a) HL1.out; rw [HQ.out] at this; exact this)
       go_wp2_with fail
       refine bodyPost_ret (results_list (rs := [.tmp 2, .tmp 3]) rfl (by simp) (.tmp (.tmp .nil))) rfl ?_
       refine ⟨rfl, ⟨A', c', HI12.out, fun k e => ?_⟩, HK.out.then_ HK12.out (fun k h => ?_), HLN.out⟩
       ·rcases HO.out k e with h | h
        ·exact (HOW.out k h.symm).1
        ·exact .inr (Nat.le_trans HK.out.1 h)
       ·rcases h with h | h
        ·exact .inl (.inl h)
        ·rcases (HOW.out k h.symm).1 with h2 | h2
         ·exact .inl (.inr h2)
         ·exact .inr h2
      | false =>
       have hB : (if m0 = 19 ∨ m0 = 20 then m4 else rd acc1 1) = rd acc1 1 := if_neg (by have := HQB.out; simpa using this)
       rw [hB] at hw0 hp1 hp2
       have HWD := am hw0; have HQ := am (show putsF l1 c1 b1 ⟨m0, wd, m2, rd acc1 0, rd acc1 1, rd acc1 2⟩ a = ((p, ok), l', code', bad') from Prod.ext hp1 hp2)
       clear hw0 hp1 hp2 hB
       have hz4 := blk_frozen BN.out 4
       have p1 : w9.cell? ⟨w5.heap.size, 1, none⟩ = some (.int .i64 (rd acc1 1)) := (blk_cell BP.out 1).trans rfl
       obtain ⟨u0, u1, u2, u3, u4, u5⟩ := cz6q BN.out
       have HI := am (show IsRd w0 (w9.setCell ⟨w3.heap.size, 4, none⟩ (.int .i64 (rd acc1 1))) g s ae l1 c1 b1 A1 cc1 from ⟨IsS84.far HI.out.1 hgh _, Kd.R_mono (Kd.R_far (p := ⟨w3.heap.size, 4, none⟩) (Kd.R_mono (Kd.R_tight rfl HI.out.2.1) (ok' := fun k => k ≠ g ∧ k ≠ w3.heap.size) (fun k e => ⟨HI.out.2.1.1 k e.symm, (HOW.out k e.symm).2.1⟩)) (fun k h => h.2) _) (fun k h => h.1), below_set HI.out.2.2 HB3.out⟩)
       have HK := am (HK.out.setCell (p := ⟨w3.heap.size, 4, none⟩) (.inr HW3.out) (.int .i64 (rd acc1 1)))
       have BN := am (show (w9.setCell ⟨w3.heap.size, 4, none⟩ (.int .i64 (rd acc1 1))).heap[w3.heap.size]? = some (.cells #[.int .i64 m0, .int .i64 m1, .int .i64 m2, .int .i64 (rd acc1 0), .int .i64 (rd acc1 1), .int .i64 (rd acc1 2)] 31 (0, 0)) from by simpa using blk_set BN.out 4 (.int .i64 (rd acc1 1)))
       obtain ⟨q0, q1, q2, q3, q4, q5⟩ := cz6q BN.out
       go_wp2_with fail
       clear u0 u1 u2 u3 u4 u5 p1 hz4
       refine (impl_termReader_width.calls k g s ae l1 c1 b1 m0 m1 m2 (rd acc1 0) (rd acc1 1) (rd acc1 2) wd s ae c1 b1 w0 _ HI.out.1 HI.out.2.2 (Kd.C_foot_own HI.out.2.1 (fun _ h => h)) HWD.out).mono ?_
       rintro e w10 ⟨rfl, hi, hb, hk⟩
       have HR10 := am (Kd.R_keep HI.out.2.1 hk (fun _ h => h))
       have BN := am ((hk.2 _ (blk_lt BN.out) (fun e => hgh e.symm) (by simp)).trans BN.out)
       have HK := am (Kept.of_keep HK.out hk (.inl (.inl rfl)))
       have HI := am (show IsRd w0 w10 g s ae l1 c1 b1 A1 cc1 from ⟨hi, HR10.out, hb⟩)
       clear hi hb hk HR10 q0 q1 q2 q3 q4 q5
       have hz1 := blk_frozen BN.out 1
       obtain ⟨u0, u1, u2, u3, u4, u5⟩ := cz6q BN.out
       have HI := am (show IsRd w0 (w10.setCell ⟨w3.heap.size, 1, none⟩ (.int .i64 wd)) g s ae l1 c1 b1 A1 cc1 from ⟨IsS84.far HI.out.1 hgh _, Kd.R_mono (Kd.R_far (p := ⟨w3.heap.size, 1, none⟩) (Kd.R_mono (Kd.R_tight rfl HI.out.2.1) (ok' := fun k => k ≠ g ∧ k ≠ w3.heap.size) (fun k e => ⟨HI.out.2.1.1 k e.symm, (HOW.out k e.symm).2.1⟩)) (fun k h => h.2) _) (fun k h => h.1), below_set HI.out.2.2 HB3.out⟩)
       have HK := am (HK.out.setCell (p := ⟨w3.heap.size, 1, none⟩) (.inr HW3.out) (.int .i64 wd))
       have BN := am (show (w10.setCell ⟨w3.heap.size, 1, none⟩ (.int .i64 wd)).heap[w3.heap.size]? = some (.cells #[.int .i64 m0, .int .i64 wd, .int .i64 m2, .int .i64 (rd acc1 0), .int .i64 (rd acc1 1), .int .i64 (rd acc1 2)] 31 (0, 0)) from by simpa using blk_set BN.out 1 (.int .i64 wd))
       obtain ⟨q0, q1, q2, q3, q4, q5⟩ := cz6q BN.out
       go_wp2_with fail
       refine (impl_termReader_puts.calls g s ae l1 c1 b1 m0 wd m2 (rd acc1 0) (rd acc1 1) (rd acc1 2) a p ok l' code' bad' A1 cc1 w0 _ HI.out HL1.out HQ.out).mono ?_
       rintro e w12 ⟨rfl, ⟨A', c', hI, ho⟩, hk⟩
       have HI12 := am hI; have HO := am ho; have HK12 := am hk
       clear hI ho hk
       have HLN := am (show l'.length ≤ 80 from by have := putsF_len (code := c1) (bad := b1) (n := ⟨m0, wd, m2, rd acc1 0, (rd acc1 1), rd acc1 2⟩) (frm := a) HL1.out; rw [HQ.out] at this; exact this)
       go_wp2_with fail
       refine bodyPost_ret (results_list (rs := [.tmp 2, .tmp 3]) rfl (by simp) (.tmp (.tmp .nil))) rfl ?_
       refine ⟨rfl, ⟨A', c', HI12.out, fun k e => ?_⟩, HK.out.then_ HK12.out (fun k h => ?_), HLN.out⟩
       ·rcases HO.out k e with h | h
        ·exact (HOW.out k h.symm).1
        ·exact .inr (Nat.le_trans HK.out.1 h)
       ·rcases h with h | h
        ·exact .inl (.inl h)
        ·rcases (HOW.out k h.symm).1 with h2 | h2
         ·exact .inl (.inr h2)
         ·exact .inr h2
/-! ### impl_termReader_node: the knot, by rounds -/
variable {Ax : Option Addr} {cx : Nat}
def nodeR (k : Nat) (V : RdV) (s : ByteArray) : RdV := fun a l c b => (gF s a l c b 40).bind fun g => if g.1 = true then innerF k V s g.2 l c b a else leafF k s g.2 l c b a
def nodeF (s : ByteArray) : Nat → RdV
 | 0 => fun _ _ _ _ => none
 | n + 1 => nodeR (n + 1) (nodeF s n) s
theorem nodeR.calls (k : Nat) (V : RdV) (s : ByteArray) (hV : NodeCon s V) : NodeCon s (nodeR k V s) := by
 intro g a l code bad p ok a' l' code' bad' A c w0 w hI hl h
 unfold nodeR at h
 obtain ⟨⟨f, a1⟩, hg, h⟩ := oB h
 cases f with
 | true =>
  rw [if_pos rfl] at h
  exact impl_termReader_node.inner k g V s hV a a1 l code bad p ok a' l' code' bad' A c w0 w hI hl hg h
 | false =>
  rw [if_neg (show ¬ (false = true) by decide)] at h
  exact impl_termReader_node.leaf k g s a a1 l code bad p ok a' l' code' bad' A c w0 w hI hl hg h
theorem nodeF.calls (s : ByteArray) : ∀ n, NodeCon s (nodeF s n)
 | 0 => by
  intro g a l code bad p ok a' l' code' bad' A c w0 w hI hl h
  exact absurd h (by simp [nodeF])
 | n + 1 => nodeR.calls (n + 1) (nodeF s n) s (nodeF.calls s n)
@[reducible] def zA0x47 : Array Bool := #[false, false, false, false, false, false, false, false, false, false, false, false, false]
@[reducible] def zA1x47 : Array Bool := #[true, false, false, false, false, false, false, false, false, false, false, false, false]
@[reducible] def zA2x47 : Array Bool := #[true, true, false, false, false, false, false, false, false, false, false, false, false]
@[reducible] def zA3x47 : Array Bool := #[true, true, true, false, false, false, false, false, false, false, false, false, false]
@[reducible] def zA4x47 : Array Bool := #[true, true, true, true, false, false, false, false, false, false, false, false, false]
@[reducible] def zA5x47 : Array Bool := #[true, true, true, true, false, true, false, false, false, false, false, false, false]
@[reducible] def zA6x47 : Array Bool := #[true, true, true, true, false, true, true, false, false, false, false, false, false]
@[reducible] def zA7x47 : Array Bool := #[true, true, true, true, false, true, true, true, false, false, false, false, false]
@[reducible] def zA8x47 : Array Bool := #[true, true, true, true, false, true, true, true, true, false, false, false, false]
@[reducible] def zA9x47 : Array Bool := #[true, true, true, true, false, true, true, true, true, false, true, false, false]
@[reducible] def zA10x47 : Array Bool := #[true, true, true, true, true, true, true, true, true, false, true, false, false]
@[reducible] def zA11x47 : Array Bool := #[true, true, true, true, true, true, true, true, true, false, true, true, false]
@[reducible] def zA12x47 : Array Bool := #[true, true, true, true, true, true, true, true, true, true, true, true, false]
@[reducible] def zA13x47 : Array Bool := #[true, true, true, true, true, true, true, true, true, true, true, true, true]
/-! ### impl_ReadTerm: by hand (under way) -/
variable {Ax : Option Addr} {cx : Nat}
def readF (k : Nat) (s : ByteArray) : Option (List (S31) × Int × Int) :=
 if (s.size : Int) > 4000 then some ([], 1, 0) else (nodeF s k 0 [] 0 0).bind fun r => if r.1.2 = true then (if r.2.1 < (s.size : Int) then some ([], 5, r.2.1) else some (r.2.2.1, 0, 0)) else some ([], r.2.2.2.1, r.2.2.2.2)
set_option maxHeartbeats 4000000 in
set_option maxRecDepth 100000 in
theorem impl_ReadTerm.calls (k : Nat) (s : ByteArray) (r1 : List (S31)) (r2 r3 : Int) (w : World) (h : readF k s = some (r1, r2, r3)) :
  Calls Try.prog 32 #[.string s] w fun e w' => ∃ v0_ : Value, e = .returned (.tuple #[v0_, .int .i64 r2, .int .i64 r3]) ∧ Kd.R k31 31 w' w.heap.size (fun _ => True) v0_ r1 ∧ Below w.heap.size w w' := by
 unfold readF at h
 by_cases hs : (s.size : Int) > 4000
 ·rw [if_pos hs] at h
  simp only [Option.some.injEq, Prod.mk.injEq] at h
  obtain ⟨rfl, rfl, rfl⟩ := h
  have t1 : decide (4000 < (s.size : Int)) = true := decide_eq_true hs
  clear hs
  go_enter Try.func32, Try.ntmps32
  go_wp2_with fail
  refine bodyPost_ret (results_list (rs := [.tmp 2, .tmp 3, .tmp 4]) rfl (by simp) (.tmp (.tmp (.tmp .nil)))) rfl ?_
  exact ⟨_, rfl, Kd.R_nil .., by exact Below.refl _ _⟩
 ·rw [if_neg hs] at h
  obtain ⟨⟨⟨p, ok⟩, a1, l1, c1, b1⟩, hn, h⟩ := oB h
  have HN := am hn; have HF := am h
  have t1 : decide (4000 < (s.size : Int)) = false := decide_eq_false (by omega)
  clear hn h hs
  go_enter Try.func32, Try.ntmps32
  go_wp2_with fail
  have hI : IsRd w (w.alloc (Obj.cells #[.string s, .int .i64 0, .slice none 0 0, .int .i64 0, .int .i64 0] 84)) w.heap.size s 0 [] 0 0 none 0 := ⟨⟨none, 0, heap_alloc_new w _, Nat.le_refl _, rfl, rfl⟩, Kd.R_nil .., below_alloc (Below.refl _ _) _⟩
  refine (nodeF.calls s k w.heap.size 0 [] 0 0 p ok a1 l1 c1 b1 none 0 w _ hI (by simp) HN.out).mono ?_
  rintro e w2 ⟨rfl, ⟨A2, c2, hI2, ho⟩, hk, hl⟩
  obtain ⟨⟨A3, c3, hbg, hg0, hA, hc⟩, hR, hB⟩ := hI2
  subst hA hc
  have BG := am hbg; have HR := am hR; have HB := am hB
  clear hbg hg0 hR hB ho hk hl hI
  have f1 : w2.cell? ⟨w.heap.size, 1, none⟩ = some (.int .i64 a1) := (blk_cell BG.out 1).trans rfl
  have f2 : w2.cell? ⟨w.heap.size, 2, none⟩ = some (.slice A3 l1.length c3) := (blk_cell BG.out 2).trans rfl
  have f3 : w2.cell? ⟨w.heap.size, 3, none⟩ = some (.int .i64 c1) := (blk_cell BG.out 3).trans rfl
  have f4 : w2.cell? ⟨w.heap.size, 4, none⟩ = some (.int .i64 b1) := (blk_cell BG.out 4).trans rfl
  cases ok with
  | false =>
   have hf := HF.out
   rw [if_neg (show ¬ (false = true) by decide)] at hf
   simp only [Option.some.injEq, Prod.mk.injEq] at hf
   obtain ⟨rfl, rfl, rfl⟩ := hf
   go_wp2_with fail
   refine start_ (n := 13) (S := fun w' => w'.cell? ⟨w.heap.size, 3, none⟩ = some (.int .i64 c1) ∧ w'.cell? ⟨w.heap.size, 4, none⟩ = some (.int .i64 b1)) (ds := []) zA0x47 (by kernel_rfl) rfl rfl ⟨f3, f4⟩ (fun hHeld => ?_)
   refine pure_ (i := 0) (N := some 21) (v := ?_) (a' := ?_) zA1x47 rfl rfl (by kernel_rfl) (fun _ _ _ h => h) (Or.inl ⟨by rfl, ?_⟩) ?_ ?_
   rotate_left
   ·intro w'
    go_simp
    with_reducible rfl
   rotate_left
   ·simp only [Act.put, List.setIfInBounds_toArray, List.set_cons_zero, List.set_cons_succ, i64_w, i32_w]
    rfl
   refine pure_ (i := 1) (N := some 22) (v := ?_) (a' := ?_) zA2x47 rfl rfl (by kernel_rfl) (fun _ _ _ h => h) (Or.inl ⟨by rfl, ?_⟩) ?_ ?_
   rotate_left
   ·intro w'
    go_simp
    with_reducible rfl
   rotate_left
   ·simp only [Act.put, List.setIfInBounds_toArray, List.set_cons_zero, List.set_cons_succ, i64_w, i32_w]
    rfl
   refine pure_ (i := 2) (N := some 23) (v := ?_) (a' := ?_) zA3x47 rfl rfl (by kernel_rfl) (fun _ _ _ h => h) (Or.inl ⟨by rfl, ?_⟩) ?_ ?_
   rotate_left
   ·intro w'
    go_simp
    with_reducible rfl
   rotate_left
   ·simp only [Act.put, List.setIfInBounds_toArray, List.set_cons_zero, List.set_cons_succ, i64_w, i32_w]
    rfl
   refine pure_ (i := 3) (N := some 24) (v := ?_) (a' := ?_) zA4x47 rfl rfl (by kernel_rfl) (fun _ _ _ h => h) (Or.inl ⟨by rfl, ?_⟩) ?_ ?_
   rotate_left
   ·intro w'
    go_simp
    with_reducible rfl
   rotate_left
   ·simp only [Act.put, List.setIfInBounds_toArray, List.set_cons_zero, List.set_cons_succ, i64_w, i32_w]
    rfl
   refine pure_ (i := 5) (N := some 26) (v := ?_) (a' := ?_) zA5x47 rfl rfl (by kernel_rfl) (fun _ _ _ h => h) (Or.inl ⟨by rfl, ?_⟩) ?_ ?_
   rotate_left
   ·intro w'
    go_simp
    with_reducible rfl
   rotate_left
   ·simp only [Act.put, List.setIfInBounds_toArray, List.set_cons_zero, List.set_cons_succ, i64_w, i32_w]
    rfl
   refine pure_ (i := 6) (N := some 27) (v := ?_) (a' := ?_) zA6x47 rfl rfl (by kernel_rfl) (fun _ _ _ h => h) (Or.inl ⟨by rfl, ?_⟩) ?_ ?_
   rotate_left
   ·intro w'
    go_simp
    with_reducible rfl
   rotate_left
   ·simp only [Act.put, List.setIfInBounds_toArray, List.set_cons_zero, List.set_cons_succ, i64_w, i32_w]
    rfl
   refine pure_ (i := 7) (N := some 28) (v := ?_) (a' := ?_) zA7x47 rfl rfl (by kernel_rfl) (fun _ _ _ h => h) (Or.inl ⟨by rfl, ?_⟩) ?_ ?_
   rotate_left
   ·intro w'
    go_simp
    with_reducible rfl
   rotate_left
   ·simp only [Act.put, List.setIfInBounds_toArray, List.set_cons_zero, List.set_cons_succ, i64_w, i32_w]
    rfl
   refine pure_ (i := 8) (N := some 29) (v := ?_) (a' := ?_) zA8x47 rfl rfl (by kernel_rfl) (fun _ _ _ h => h) (Or.inl ⟨by rfl, ?_⟩) ?_ ?_
   rotate_left
   ·intro w'
    go_simp
    with_reducible rfl
   rotate_left
   ·simp only [Act.put, List.setIfInBounds_toArray, List.set_cons_zero, List.set_cons_succ, i64_w, i32_w]
    rfl
   refine pure_ (i := 10) (N := some 2) (v := ?_) (a' := ?_) zA9x47 rfl rfl (by kernel_rfl) (fun _ _ _ h => h) (Or.inl ⟨by rfl, ?_⟩) ?_ ?_
   rotate_left
   ·intro w'
    go_simp
    with_reducible rfl
   rotate_left
   ·simp only [Act.put, List.setIfInBounds_toArray, List.set_cons_zero, List.set_cons_succ, i64_w, i32_w]
    rfl
   refine take_ (i := 4) (N := some 25) (v := ?_) (a' := ?_) zA10x47 rfl rfl (by kernel_rfl) (fun _ _ _ h => h) (Or.inl ⟨by rfl, ?_⟩) hHeld ?_ ?_
   rotate_left
   ·rintro w' ⟨s0, s1⟩
    go_simp
    with_reducible rfl
   rotate_left
   ·simp only [Act.put, List.setIfInBounds_toArray, List.set_cons_zero, List.set_cons_succ, i64_w, i32_w]
    rfl
   refine pure_ (i := 11) (N := some 3) (v := ?_) (a' := ?_) zA11x47 rfl rfl (by kernel_rfl) (fun _ _ _ h => h) (Or.inl ⟨by rfl, ?_⟩) ?_ ?_
   rotate_left
   ·intro w'
    go_simp
    with_reducible rfl
   rotate_left
   ·simp only [Act.put, List.setIfInBounds_toArray, List.set_cons_zero, List.set_cons_succ, i64_w, i32_w]
    rfl
   refine take_ (i := 9) (N := some 30) (v := ?_) (a' := ?_) zA12x47 rfl rfl (by kernel_rfl) (fun _ _ _ h => h) (Or.inl ⟨by rfl, ?_⟩) hHeld ?_ ?_
   rotate_left
   ·rintro w' ⟨s0, s1⟩
    go_simp
    with_reducible rfl
   rotate_left
   ·simp only [Act.put, List.setIfInBounds_toArray, List.set_cons_zero, List.set_cons_succ, i64_w, i32_w]
    rfl
   refine pure_ (i := 12) (N := some 4) (v := ?_) (a' := ?_) zA13x47 rfl rfl (by kernel_rfl) (fun _ _ _ h => h) (Or.inl ⟨by rfl, ?_⟩) ?_ ?_
   rotate_left
   ·intro w'
    go_simp
    with_reducible rfl
   rotate_left
   ·simp only [Act.put, List.setIfInBounds_toArray, List.set_cons_zero, List.set_cons_succ, i64_w, i32_w]
    rfl
   refine done_ (by kernel_rfl) ?_
   go_wp2_with fail
   refine bodyPost_ret (results_list (rs := [.tmp 2, .tmp 3, .tmp 4]) rfl (by simp) (.tmp (.tmp (.tmp .nil)))) rfl ?_
   exact ⟨_, rfl, Kd.R_nil .., by exact below_drew1 HB.out⟩
  | true =>
   have hf := HF.out
   rw [if_pos rfl] at hf
   by_cases ha : a1 < (s.size : Int)
   ·have t2 : decide (a1 < (s.size : Int)) = true := decide_eq_true ha
    rw [if_pos ha] at hf
    simp only [Option.some.injEq, Prod.mk.injEq] at hf
    obtain ⟨rfl, rfl, rfl⟩ := hf
    clear ha
    go_wp2_with fail
    refine start_ (n := 7) (S := fun w' => w'.cell? ⟨w.heap.size, 1, none⟩ = some (.int .i64 a1)) (ds := []) #[false, false, false, false, false, false, false] (by kernel_rfl) rfl rfl (f1) (fun hHeld => ?_)
    refine pure_ (i := 0) (N := some 38) (v := ?_) (a' := ?_) #[true, false, false, false, false, false, false] rfl rfl (by kernel_rfl) (fun _ _ _ h => h) (Or.inl ⟨by rfl, ?_⟩) ?_ ?_
    rotate_left
    ·intro w'
     go_simp
     with_reducible rfl
    rotate_left
    ·simp only [Act.put, List.setIfInBounds_toArray, List.set_cons_zero, List.set_cons_succ, i64_w, i32_w]
     rfl
    refine pure_ (i := 1) (N := some 39) (v := ?_) (a' := ?_) #[true, true, false, false, false, false, false] rfl rfl (by kernel_rfl) (fun _ _ _ h => h) (Or.inl ⟨by rfl, ?_⟩) ?_ ?_
    rotate_left
    ·intro w'
     go_simp
     with_reducible rfl
    rotate_left
    ·simp only [Act.put, List.setIfInBounds_toArray, List.set_cons_zero, List.set_cons_succ, i64_w, i32_w]
     rfl
    refine pure_ (i := 2) (N := some 40) (v := ?_) (a' := ?_) #[true, true, true, false, false, false, false] rfl rfl (by kernel_rfl) (fun _ _ _ h => h) (Or.inl ⟨by rfl, ?_⟩) ?_ ?_
    rotate_left
    ·intro w'
     go_simp
     with_reducible rfl
    rotate_left
    ·simp only [Act.put, List.setIfInBounds_toArray, List.set_cons_zero, List.set_cons_succ, i64_w, i32_w]
     rfl
    refine pure_ (i := 4) (N := some 2) (v := ?_) (a' := ?_) #[true, true, true, false, true, false, false] rfl rfl (by kernel_rfl) (fun _ _ _ h => h) (Or.inl ⟨by rfl, ?_⟩) ?_ ?_
    rotate_left
    ·intro w'
     go_simp
     with_reducible rfl
    rotate_left
    ·simp only [Act.put, List.setIfInBounds_toArray, List.set_cons_zero, List.set_cons_succ, i64_w, i32_w]
     rfl
    refine pure_ (i := 5) (N := some 3) (v := ?_) (a' := ?_) #[true, true, true, false, true, true, false] rfl rfl (by kernel_rfl) (fun _ _ _ h => h) (Or.inl ⟨by rfl, ?_⟩) ?_ ?_
    rotate_left
    ·intro w'
     go_simp
     with_reducible rfl
    rotate_left
    ·simp only [Act.put, List.setIfInBounds_toArray, List.set_cons_zero, List.set_cons_succ, i64_w, i32_w]
     rfl
    refine take_ (i := 3) (N := some 41) (v := ?_) (a' := ?_) #[true, true, true, true, true, true, false] rfl rfl (by kernel_rfl) (fun _ _ _ h => h) (Or.inl ⟨by rfl, ?_⟩) hHeld ?_ ?_
    rotate_left
    ·intro w' s0
     go_simp
     with_reducible rfl
    rotate_left
    ·simp only [Act.put, List.setIfInBounds_toArray, List.set_cons_zero, List.set_cons_succ, i64_w, i32_w]
     rfl
    refine pure_ (i := 6) (N := some 4) (v := ?_) (a' := ?_) #[true, true, true, true, true, true, true] rfl rfl (by kernel_rfl) (fun _ _ _ h => h) (Or.inl ⟨by rfl, ?_⟩) ?_ ?_
    rotate_left
    ·intro w'
     go_simp
     with_reducible rfl
    rotate_left
    ·simp only [Act.put, List.setIfInBounds_toArray, List.set_cons_zero, List.set_cons_succ, i64_w, i32_w]
     rfl
    refine done_ (by kernel_rfl) ?_
    go_wp2_with fail
    refine bodyPost_ret (results_list (rs := [.tmp 2, .tmp 3, .tmp 4]) rfl (by simp) (.tmp (.tmp (.tmp .nil)))) rfl ?_
    exact ⟨_, rfl, Kd.R_nil .., by exact below_drew1 HB.out⟩
   ·have t2 : decide (a1 < (s.size : Int)) = false := decide_eq_false ha
    rw [if_neg ha] at hf
    simp only [Option.some.injEq, Prod.mk.injEq] at hf
    obtain ⟨rfl, rfl, rfl⟩ := hf
    clear ha
    go_wp2_with fail
    refine bodyPost_ret (results_list (rs := [.tmp 2, .tmp 3, .tmp 4]) rfl (by simp) (.tmp (.tmp (.tmp .nil)))) rfl ?_
    exact ⟨_, rfl, Kd.R_mono HR.out (fun _ _ => trivial), HB.out⟩
/-! ### impl_Canon: by hand -/
variable {Ax : Option Addr} {cx : Nat}
def impl_Canon.f (k : Nat) (l0 : List (S31)) : Option (List (S31)) :=
 (impl_ShowTerm.f k l0).bind fun t => if t.2 = true then (readF k t.1).bind fun r => some r.1 else some []
set_option maxHeartbeats 4000000 in
set_option maxRecDepth 100000 in
theorem impl_Canon.calls (k : Nat) (A0 : Option Addr) (c0 : Nat) (l0 : List (S31)) (r : List (S31)) (w : World) (hr0 : Kd.C k31 w A0 l0.length l0) (hc0 : l0.length ≤ c0) (h : impl_Canon.f k l0 = some r) :
  Calls Try.prog 28 #[.slice A0 l0.length c0] w fun e w' => ∃ v0_ : Value, e = .returned (v0_) ∧ Kd.R k31 31 w' w.heap.size (fun _ => True) v0_ r ∧ Below w.heap.size w w' := by
 unfold impl_Canon.f at h
 obtain ⟨⟨s, ok⟩, hs, h⟩ := oB h
 have HR0 := am hr0; have HC0 := am hc0; have HS := am hs; have HF := am h
 clear hr0 hc0 hs h
 go_enter Try.func28, Try.ntmps28
 go_wp2_with fail
 refine (impl_ShowTerm.calls k A0 c0 l0 s ok w HR0.out HC0.out HS.out).mono ?_
 rintro e w1 ⟨rfl, hb⟩
 have HB := am hb
 clear hb
 cases ok with
 | false =>
  have hf := HF.out
  rw [if_neg (show ¬ (false = true) by decide)] at hf
  obtain rfl := oI hf
  go_wp2_with fail
  go_ret
  exact ⟨_, rfl, Kd.R_nil .., HB.out⟩
 | true =>
  have hf := HF.out
  rw [if_pos rfl] at hf
  obtain ⟨⟨r1, r2, r3⟩, hr, hf⟩ := oB hf
  obtain rfl := oI hf
  have HR := am hr
  clear hr hf
  go_wp2_with fail
  refine (impl_ReadTerm.calls k s r1 r2 r3 _ HR.out).mono ?_
  rintro e w2 ⟨v0, rfl, hR, hb⟩
  have HO := am (Kd.R_lower hR HB.out.size); have HB := am (HB.out.trans (hb.mono HB.out.size))
  clear hR hb
  go_wp2_with fail
  go_ret
  exact ⟨_, rfl, HO.out, HB.out⟩
@[reducible] def zA0x50 : Array Bool := #[false, false, false, false, false, false, false, false, false, false]
@[reducible] def zA1x50 : Array Bool := #[false, true, false, false, false, false, false, false, false, false]
@[reducible] def zA2x50 : Array Bool := #[false, true, true, false, false, false, false, false, false, false]
@[reducible] def zA3x50 : Array Bool := #[false, true, true, true, false, false, false, false, false, false]
@[reducible] def zA4x50 : Array Bool := #[false, true, true, true, true, false, false, false, false, false]
@[reducible] def zA5x50 : Array Bool := #[false, true, true, true, true, false, true, false, false, false]
@[reducible] def zA6x50 : Array Bool := #[true, true, true, true, true, true, true, true, false, false]
@[reducible] def zA7x50 : Array Bool := #[true, true, true, true, true, false, true, false, false, false]
@[reducible] def zA8x50 : Array Bool := #[false, true, true, true, true, false, true, true, false, false]
@[reducible] def zA9x50 : Array Bool := #[true, true, true, true, true, true, true, false, false, false]
@[reducible] def zA10x50 : Array Bool := #[true, true, true, true, true, false, true, true, false, false]
@[reducible] def zA11x50 : Array Bool := #[true, true, true, true, true, true, true, true, true, false]
@[reducible] def zA12x50 : Array Bool := #[true, true, true, true, true, true, true, true, true, true]
/-! ### spec_l03Put: by hand -/
variable {Ax : Option Addr} {cx : Nat}
/-- What l03Put answers where nothing has failed: the place, the list, the failure's code and place. -/
def cputF (k : Nat) (l : List (S31)) (n : S31) (frm : Int) : Option (Int × List (S31) × Int × Int) :=
 match firstN l n l.length 0 with
 | some i => some ((i : Int), l, 0, 0)
 | none => (spec_l02Node.f k (l ++ [n]) (l.length : Int)).bind fun b => if b = true then (if l.length = 80 then some (0, l, 4, frm) else some ((l.length : Int), l ++ [n], 0, 0)) else some (0, l, 3, frm)
attribute [local go_sem high] eqA31
/-- The cursor with its list, a row of its own. -/
def IsCu (w0 W : World) (g : Nat) (s : ByteArray) (a : Int) (l : List (S31)) (code bad : Int) (A : Option Addr) (c : Nat) : Prop :=
 IsS88 A c w0 W g s a l code bad ∧ Kd.R k31 31 W w0.heap.size (fun k => k ≠ g) (.slice A l.length c) l ∧ Below w0.heap.size w0 W
/-- The cursor is left so. -/
def CLeft (w0 w W : World) (g : Nat) (s : ByteArray) (a : Int) (l : List (S31)) (code bad : Int) (A0 : Option Addr) (c0 n0 : Nat) : Prop :=
 (∃ A' c', IsCu w0 W g s a l code bad A' c' ∧ ∀ k, (Value.slice A' l.length c').ownBlock = some k → some k = (Value.slice A0 n0 c0).ownBlock ∨ w.heap.size ≤ k) ∧ Kept w W (fun k => k = g) ∧ l.length ≤ 80
set_option maxHeartbeats 4000000 in
set_option maxRecDepth 100000 in
theorem spec_l03Put.calls (k g : Nat) (s : ByteArray) (a : Int) (l : List (S31)) (n0 n1 n2 n3 n4 n5 frm p : Int) (l' : List (S31)) (code' bad' : Int) (A : Option Addr) (c : Nat) (w0 w : World) (hI : IsCu w0 w g s a l 0 0 A c) (hl : l.length ≤ 80)
  (h : cputF k l ⟨n0, n1, n2, n3, n4, n5⟩ frm = some (p, l', code', bad')) :
  Calls Try.prog 100 #[.pointer (some ⟨g, 0, none⟩), .agg #[.int .i64 n0, .int .i64 n1, .int .i64 n2, .int .i64 n3, .int .i64 n4, .int .i64 n5], .int .i64 frm] w fun e w' => e = .returned (.int .i64 p) ∧ CLeft w0 w w' g s a l' code' bad' A c l.length := by
 obtain ⟨hS, hR, hB⟩ := hI
 have HS := am hS; have HR := am hR; have HB := am hB; have HL := am hl; have HH := am h
 clear hS hR hB hl h
 have HK := am (Kept.refl w (fun k => k = g))
 obtain ⟨A2, c2, hbg, hg0, hA2, hc2⟩ := HS.out
 subst hA2 hc2
 have BG := am hbg; have G0 := am hg0
 clear hbg hg0 HS
 have BX := am (heap_alloc_new w (Obj.cells #[Value.int .i64 n0, Value.int .i64 n1, Value.int .i64 n2, Value.int .i64 n3, Value.int .i64 n4, Value.int .i64 n5] 31))
 have hA := below_alloc (Below.refl w.heap.size w) (Obj.cells #[Value.int .i64 n0, Value.int .i64 n1, Value.int .i64 n2, Value.int .i64 n3, Value.int .i64 n4, Value.int .i64 n5] 31)
 have HW := am (show w.heap.size ≤ w.heap.size from Nat.le_refl _)
 have BG := am (blk_below BG.out hA); have HR := am (Kd.R_below HR.out hA); have HB := am (HB.out.trans (hA.mono HB.out.size)); have HK := am (HK.out.below hA)
 clear hA
 obtain ⟨res, hres⟩ : ∃ res, firstN l ⟨n0, n1, n2, n3, n4, n5⟩ l.length 0 = res := ⟨_, rfl⟩
 have HRES := am hres
 have h1 := HH.out
 unfold cputF at h1
 rw [hres] at h1
 have HH := am h1
 clear hres h1
 go_enter Try.func100, Try.ntmps100
 go_wp2_with fail
 generalize w.alloc (Obj.cells #[Value.int .i64 n0, Value.int .i64 n1, Value.int .i64 n2, Value.int .i64 n3, Value.int .i64 n4, Value.int .i64 n5] 31) = wA at *
 generalize hgx : w.heap.size = gx at *
 have GX := am hgx
 clear hgx
 go_loopg [7] l.length (fun gk u7 w' => ∃ i : Nat, u7 = .int .i64 (i : Int) ∧ Aside0 (gk + i = l.length) ∧ Aside0 (firstN l ⟨n0, n1, n2, n3, n4, n5⟩ gk i = res) ∧ Aside0 (w'.heap[g]? = some (.cells #[.string s, .int .i64 a, .slice A2 l.length c2, .int .i64 0, .int .i64 0] 88 (0, 0))) ∧ Aside0 (w'.heap[gx]? = some (.cells #[Value.int .i64 n0, Value.int .i64 n1, Value.int .i64 n2, Value.int .i64 n3, Value.int .i64 n4, Value.int .i64 n5] 31 (0, 0))) ∧ Aside0 (Kd.R k31 31 w' w0.heap.size (fun k => k ≠ g) (.slice A2 l.length c2) l) ∧ Aside0 (Below w0.heap.size w0 w') ∧ Aside0 (Kept w w' (fun k => k = g)))
 case atStart => exact ⟨0, rfl, ⟨rfl⟩, HRES, BG, BX, HR, HB, HK⟩
 case round =>
  obtain ⟨i, rfl, HJ, HF, BG, BX, HR, HB, HK⟩ := hrel
  have g2 : wr.cell? ⟨g, 2, none⟩ = some (.slice A2 l.length c2) := (blk_cell BG.out 2).trans rfl
  obtain ⟨z0, z1, z2, z3, z4, z5⟩ := cz6q BX.out
  by_cases hi : i < l.length
  ·have p1 : (0 : Int) ≤ (i : Int) := by omega
   have p2 : (i : Int) < (l.length : Int) := by omega
   have t2 : decide ((i : Int) < (l.length : Int)) = true := decide_eq_true p2
   obtain ⟨ad0, e0, y0, y1, y2, y3, y4, y5⟩ := at_T31 (Kd.R_reads' HR.out).2.2 (i : Int) p1 p2
   rw [Int.toNat_natCast] at y0 y1 y2 y3 y4 y5
   subst e0
   obtain ⟨⟨x0, x1, x2, x3, x4, x5⟩, hnd⟩ : ∃ n, rd_T31 l (i : Int) = n := ⟨_, rfl⟩
   obtain ⟨gk2, rfl⟩ : ∃ gk2, gk = gk2 + 1 := ⟨gk - 1, by have := HJ.out; omega⟩
   obtain ⟨sb, hsb⟩ : ∃ sb, (x0 == n0 && (x1 == n1 && (x2 == n2 && (x3 == n3 && (x4 == n4 && (x5 == n5)))))) = sb := ⟨_, rfl⟩
   have hh := HF.out
   unfold firstN sameN at hh
   rw [hnd] at hh y0 y1 y2 y3 y4 y5
   simp only [] at hh y0 y1 y2 y3 y4 y5
   rw [hsb] at hh
   have HF := am hh
   clear hnd hh
   cases sb with
   | true =>
    have hn := HF.out
    rw [if_pos rfl] at hn
    have HN := am hn
    clear hn HF
    have h1 := HH.out
    rw [← HN.out] at h1
    simp only [Option.some.injEq, Prod.mk.injEq] at h1
    obtain ⟨rfl, rfl, rfl, rfl⟩ := h1
    go_wp2_with fail
    go_quiet (fail)
    go_wp2_with fail
    go_ret
    exact ⟨rfl, ⟨_, c2, ⟨⟨_, c2, sB BG.out, G0.out, rfl, rfl⟩, sR HR.out, sW HB.out⟩, fun k e => .inl e.symm⟩, HK.out.drewN _, HL.out⟩
   | false =>
    have hn := HF.out
    rw [if_neg (by decide)] at hn
    have HN := am hn
    clear hn HF
    go_wp2_with fail
    go_quiet (fail)
    go_wp2_with fail
    go_roundg gk2
    case measure => omega
    case rel => exact ⟨i + 1, by rw [show wrap64 ((i : Int) + 1) = ((i + 1 : Nat) : Int) by have := HL.out; unfold wrap64; omega], ⟨by have := HJ.out; omega⟩, HN, ⟨sB BG.out⟩, ⟨sB BX.out⟩, ⟨sR HR.out⟩, ⟨sW HB.out⟩, ⟨HK.out.drewN _⟩⟩
  ·obtain rfl : i = l.length := by have := HJ.out; omega
   have hgk : gk = 0 := by have := HJ.out; omega
   subst hgk
   have t2 : decide ((l.length : Int) < (l.length : Int)) = false := decide_eq_false (by omega)
   have hh := HF.out
   unfold firstN at hh
   have h1 := HH.out
   rw [← hh] at h1
   simp only [] at h1
   obtain ⟨b, hb0, h1⟩ := oB h1
   try simp only [] at h1
   obtain ⟨nl, hnl⟩ : ∃ nl, l ++ [(⟨n0, n1, n2, n3, n4, n5⟩ : S31)] = nl := ⟨_, rfl⟩
   rw [hnl] at hb0 h1
   have HNL := am (show nl.length = l.length + 1 by rw [← hnl]; simp)
   have HEQ := am hnl
   have e1 : wrap64 ((nl.length : Int) - 1) = (l.length : Int) := by have := HNL.out; have := HL.out; unfold wrap64; omega
   have E1 := am e1
   have HND := am hb0; have HH := am h1
   clear hh h1 HF hb0 hnl e1
   go_wp2_with fail
   have HD := am (below_drew1 (Below.refl wr.heap.size wr))
   have BG0 := BG
   refine start_ (n := 10) (S := fun w' => w'.cell? ⟨g, 2, none⟩ = some (.slice A2 l.length c2) ∧ w'.cell? ⟨gx, 0, none⟩ = some (.int .i64 n0) ∧ w'.cell? ⟨gx, 1, none⟩ = some (.int .i64 n1) ∧ w'.cell? ⟨gx, 2, none⟩ = some (.int .i64 n2) ∧ w'.cell? ⟨gx, 3, none⟩ = some (.int .i64 n3) ∧ w'.cell? ⟨gx, 4, none⟩ = some (.int .i64 n4) ∧ w'.cell? ⟨gx, 5, none⟩ = some (.int .i64 n5)) (ds := []) zA0x50 (by kernel_rfl) rfl rfl ⟨g2, z0, z1, z2, z3, z4, z5⟩ (fun hHeld => ?_)
   refine pure_ (i := 1) (N := some 29) (v := ?_) (a' := ?_) zA1x50 rfl rfl (by kernel_rfl) (fun _ _ _ h => h) (Or.inl ⟨by rfl, ?_⟩) ?_ ?_
   rotate_left
   ·intro w'
    go_simp
    with_reducible rfl
   rotate_left
   ·simp only [Act.put, List.setIfInBounds_toArray, List.set_cons_zero, List.set_cons_succ, i64_w, i32_w]
    rfl
   refine pure_ (i := 2) (N := some 30) (v := ?_) (a' := ?_) zA2x50 rfl rfl (by kernel_rfl) (fun _ _ _ h => h) (Or.inl ⟨by rfl, ?_⟩) ?_ ?_
   rotate_left
   ·intro w'
    go_simp
    with_reducible rfl
   rotate_left
   ·simp only [Act.put, List.setIfInBounds_toArray, List.set_cons_zero, List.set_cons_succ, i64_w, i32_w]
    rfl
   refine pure_ (i := 3) (N := some 31) (v := ?_) (a' := ?_) zA3x50 rfl rfl (by kernel_rfl) (fun _ _ _ h => h) (Or.inl ⟨by rfl, ?_⟩) ?_ ?_
   rotate_left
   ·intro w'
    go_simp
    with_reducible rfl
   rotate_left
   ·simp only [Act.put, List.setIfInBounds_toArray, List.set_cons_zero, List.set_cons_succ, i64_w, i32_w]
    rfl
   refine take_ (i := 4) (N := some 32) (v := ?_) (a' := ?_) zA4x50 rfl rfl (by kernel_rfl) (fun _ _ _ h => h) (Or.inl ⟨by rfl, ?_⟩) hHeld ?_ ?_
   rotate_left
   ·rintro w' ⟨s0, s1, s2, s3, s4, s5, s6⟩
    go_simp
    with_reducible rfl
   rotate_left
   ·simp only [Act.put, List.setIfInBounds_toArray, List.set_cons_zero, List.set_cons_succ, i64_w, i32_w]
    rfl
   refine take_ (i := 6) (N := some 34) (v := ?_) (a' := ?_) zA5x50 rfl rfl (by kernel_rfl) (fun _ _ _ h => h) (Or.inl ⟨by rfl, ?_⟩) hHeld ?_ ?_
   rotate_left
   ·rintro w' ⟨s0, s1, s2, s3, s4, s5, s6⟩
    go_simp
    with_reducible rfl
   rotate_left
   ·simp only [Act.put, List.setIfInBounds_toArray, List.set_cons_zero, List.set_cons_succ, i64_w, i32_w]
    rfl
   refine join_ (σ := Value × Value × Value) 2 zA6x50 (fun s_ => [(28, s_.1), (33, s_.2.1), (35, s_.2.2)]) (fun s_ w' => Below wr.heap.size wr w' ∧ Kd.R k31 31 w' wr.heap.size (fun k => True ∧ some k ≠ (s_.2.2 : Value).ownBlock) s_.2.1 l ∧ Kd.R k31 31 w' wr.heap.size (fun k => True ∧ some k ≠ (s_.2.1 : Value).ownBlock) s_.2.2 [(⟨n0, n1, n2, n3, n4, n5⟩ : S31)]) ?_ ?_
   rotate_left
   ·intro hCont
    refine two_ (i := 0) (j := 7) (Ni := some 28) (Nj := some 35) zA7x50 zA8x50 rfl rfl rfl rfl (by kernel_rfl) (by decide) (by decide) (fun K hK => ?_) (fun K hK => ?_)
    ·skip
     refine Kd.R_lit_step k31 _ 31 ?hg (N := 28) ?hd (xs := ([] : List (S31))) (inner := []) (ok := fun _ => True) (okp := fun _ => True) ?hr ?hp (fun _ hk => hk) trivial (Below.refl _ _) (Nat.le_refl _) (by simp) ?_
     (case hd => rfl)
     (case hg => rfl)
     (case hr => (go_simp; done))
     (case hp => exact Reps.none _ _)
     intro v28 w28 ho hb hg_ hnew_
     clear hg_ hnew_
     have H28 := am (Kd.R_lower ho (below_size HD.out))
     have HD := am (HD.out.trans (hb.mono HD.out.size))
     clear ho hb
     refine hK.out _ _ ⟨((blk_cell (blk_below BG.out HD.out) 2).trans rfl), ((blk_cell (blk_below BX.out HD.out) 0).trans rfl), ((blk_cell (blk_below BX.out HD.out) 1).trans rfl), ((blk_cell (blk_below BX.out HD.out) 2).trans rfl), ((blk_cell (blk_below BX.out HD.out) 3).trans rfl), ((blk_cell (blk_below BX.out HD.out) 4).trans rfl), ((blk_cell (blk_below BX.out HD.out) 5).trans rfl)⟩ (fun hHeld => ?_)
     clear hK K
     refine norm_ (a' := ?_) ?_ ?_
     rotate_left
     ·show Act.put _ (some 28) _ = _
      simp only [Act.put, List.setIfInBounds_toArray, List.set_cons_zero, List.set_cons_succ, i64_w, i32_w]
      rfl
     refine two_ (i := 5) (j := 7) (Ni := some 33) (Nj := some 35) zA9x50 zA10x50 rfl rfl rfl rfl (by kernel_rfl) (by decide) (by decide) (fun K hK => ?_) (fun K hK => ?_)
     ·skip
      refine Kd.R_append_rows_step k31 (w0 := wr) wr.heap.size (by rfl) (.tmp 28) (.tmp 32) 24 31 (.agg #[(.int .i64 0), (.int .i64 0), (.int .i64 0), (.int .i64 0), (.int .i64 0), (.int .i64 0)]) 48 rfl Try.underlying24 info31 rfl (by decide) (by omega) v28 ([] : List (S31)) l _ _ _ (fun _ => True) (fun _ => False) rfl rfl ?aO ?aR (fun _ _ h => h) (fun _ h => h.elim) ?aF ?aB ?aS ?aL ?_
      (case aR => exact (Kd.C_below (Kd.R_reads' HR.out).2.2 HD.out))
      (case aB => exact HD.out)
      (case aF => exact (fun _ _ => trivial))
      (case aO => exact H28.out)
      (case aS => exact (below_size HD.out))
      (case aL => (have := HL.out; simp; omega))
      intro v33 w33 ho hb hg_ hat_
      have H33 := am (show Kd.R k31 31 _ wr.heap.size _ v33 l from ho)
      have HD := am hb
      clear ho hb hg_ hat_
      refine hK.out _ _ ⟨((blk_cell (blk_below BG.out HD.out) 2).trans rfl), ((blk_cell (blk_below BX.out HD.out) 0).trans rfl), ((blk_cell (blk_below BX.out HD.out) 1).trans rfl), ((blk_cell (blk_below BX.out HD.out) 2).trans rfl), ((blk_cell (blk_below BX.out HD.out) 3).trans rfl), ((blk_cell (blk_below BX.out HD.out) 4).trans rfl), ((blk_cell (blk_below BX.out HD.out) 5).trans rfl)⟩ (fun hHeld => ?_)
      clear hK K
      refine norm_ (a' := ?_) ?_ ?_
      rotate_left
      ·show Act.put _ (some 33) _ = _
       simp only [Act.put, List.setIfInBounds_toArray, List.set_cons_zero, List.set_cons_succ, i64_w, i32_w]
       rfl
      refine one_ (i := 7) (N := some 35) zA6x50 rfl rfl (by kernel_rfl) (by decide) (fun K hK => ?_)
      refine Kd.R_lit_step k31 _ 31 ?hg (N := 35) ?hd (xs := [(⟨n0, n1, n2, n3, n4, n5⟩ : S31)]) (inner := [.int .i64 n0, .int .i64 n1, .int .i64 n2, .int .i64 n3, .int .i64 n4, .int .i64 n5]) (ok := fun _ => True) (okp := fun _ => True) ?hr ?hp (fun _ hk => hk) trivial (Below.refl _ _) (Nat.le_refl _) (by simp) ?_
      (case hd => rfl)
      (case hg => rfl)
      (case hr => (go_simp; done))
      (case hp => exact (Reps.c6 (show Kd.M k31 _ _ _ (⟨n0, n1, n2, n3, n4, n5⟩ : S31) [.int .i64 n0, .int .i64 n1, .int .i64 n2, .int .i64 n3, .int .i64 n4, .int .i64 n5] from (k31_mkM _ _ _ (⟨n0, n1, n2, n3, n4, n5⟩ : S31))) (Reps.none _ _)))
      intro v35 w35 ho hb hg_ hnew_
      clear hg_ hnew_
      have HO35 := am (Kd.R_lower (Kd.R_new' ho (Kd.R_lt H33.out)) (below_size HD.out))
      have H33 := am (Kd.R_elder' H33.out (Kd.R_base ho) hb)
      have H35 := HO35
      clear HO35
      have HD := am (HD.out.trans (hb.mono HD.out.size))
      clear ho hb
      refine hK.out _ _ ⟨((blk_cell (blk_below BG.out HD.out) 2).trans rfl), ((blk_cell (blk_below BX.out HD.out) 0).trans rfl), ((blk_cell (blk_below BX.out HD.out) 1).trans rfl), ((blk_cell (blk_below BX.out HD.out) 2).trans rfl), ((blk_cell (blk_below BX.out HD.out) 3).trans rfl), ((blk_cell (blk_below BX.out HD.out) 4).trans rfl), ((blk_cell (blk_below BX.out HD.out) 5).trans rfl)⟩ (fun hHeld => ?_)
      clear hK K
      refine norm_ (a' := ?_) ?_ ?_
      rotate_left
      ·show Act.put _ (some 35) _ = _
       simp only [Act.put, List.setIfInBounds_toArray, List.set_cons_zero, List.set_cons_succ, i64_w, i32_w]
       rfl
      exact norm_ (by simp only [putAll, Act.put, List.setIfInBounds_toArray, List.set_cons_zero, List.set_cons_succ]) (hCont (v28, v33, v35) _ ⟨HD.out, H33.out, H35.out⟩)
     ·skip
      refine Kd.R_lit_step k31 _ 31 ?hg (N := 35) ?hd (xs := [(⟨n0, n1, n2, n3, n4, n5⟩ : S31)]) (inner := [.int .i64 n0, .int .i64 n1, .int .i64 n2, .int .i64 n3, .int .i64 n4, .int .i64 n5]) (ok := fun _ => True) (okp := fun _ => True) ?hr ?hp (fun _ hk => hk) trivial (Below.refl _ _) (Nat.le_refl _) (by simp) ?_
      (case hd => rfl)
      (case hg => rfl)
      (case hr => (go_simp; done))
      (case hp => exact (Reps.c6 (show Kd.M k31 _ _ _ (⟨n0, n1, n2, n3, n4, n5⟩ : S31) [.int .i64 n0, .int .i64 n1, .int .i64 n2, .int .i64 n3, .int .i64 n4, .int .i64 n5] from (k31_mkM _ _ _ (⟨n0, n1, n2, n3, n4, n5⟩ : S31))) (Reps.none _ _)))
      intro v35 w35 ho hb hg_ hnew_
      clear hg_ hnew_
      have HO35 := am (Kd.R_lower (Kd.R_new' ho (Kd.R_lt H28.out)) (below_size HD.out))
      have H28 := am (Kd.R_elder' H28.out (Kd.R_base ho) hb)
      have H35 := HO35
      clear HO35
      have HD := am (HD.out.trans (hb.mono HD.out.size))
      clear ho hb
      refine hK.out _ _ ⟨((blk_cell (blk_below BG.out HD.out) 2).trans rfl), ((blk_cell (blk_below BX.out HD.out) 0).trans rfl), ((blk_cell (blk_below BX.out HD.out) 1).trans rfl), ((blk_cell (blk_below BX.out HD.out) 2).trans rfl), ((blk_cell (blk_below BX.out HD.out) 3).trans rfl), ((blk_cell (blk_below BX.out HD.out) 4).trans rfl), ((blk_cell (blk_below BX.out HD.out) 5).trans rfl)⟩ (fun hHeld => ?_)
      clear hK K
      refine norm_ (a' := ?_) ?_ ?_
      rotate_left
      ·show Act.put _ (some 35) _ = _
       simp only [Act.put, List.setIfInBounds_toArray, List.set_cons_zero, List.set_cons_succ, i64_w, i32_w]
       rfl
      refine one_ (i := 5) (N := some 33) zA6x50 rfl rfl (by kernel_rfl) (by decide) (fun K hK => ?_)
      refine Kd.R_append_rows_step k31 (w0 := wr) wr.heap.size (by rfl) (.tmp 28) (.tmp 32) 24 31 (.agg #[(.int .i64 0), (.int .i64 0), (.int .i64 0), (.int .i64 0), (.int .i64 0), (.int .i64 0)]) 48 rfl Try.underlying24 info31 rfl (by decide) (by omega) v28 ([] : List (S31)) l _ _ _ (fun k => True ∧ some k ≠ (v35 : Value).ownBlock) (fun _ => False) rfl rfl ?aO ?aR (fun _ _ h => h) (fun _ h => h.elim) ?aF ?aB ?aS ?aL ?_
      (case aR => exact (Kd.C_below (Kd.R_reads' HR.out).2.2 HD.out))
      (case aB => exact HD.out)
      (case aF => exact (fun k hk => ⟨trivial, Kd.fresh' (Kd.R_lt H35.out) k hk⟩))
      (case aO => exact H28.out)
      (case aS => exact (below_size HD.out))
      (case aL => (have := HL.out; simp; omega))
      intro v33 w33 ho hb hg_ hat_
      have H35 := am (Kd.R_after (ok := fun _ => True) H35.out hg_ hat_)
      have H33 := am (show Kd.R k31 31 _ wr.heap.size _ v33 l from ho)
      have HD := am hb
      clear ho hb hg_ hat_
      refine hK.out _ _ ⟨((blk_cell (blk_below BG.out HD.out) 2).trans rfl), ((blk_cell (blk_below BX.out HD.out) 0).trans rfl), ((blk_cell (blk_below BX.out HD.out) 1).trans rfl), ((blk_cell (blk_below BX.out HD.out) 2).trans rfl), ((blk_cell (blk_below BX.out HD.out) 3).trans rfl), ((blk_cell (blk_below BX.out HD.out) 4).trans rfl), ((blk_cell (blk_below BX.out HD.out) 5).trans rfl)⟩ (fun hHeld => ?_)
      clear hK K
      refine norm_ (a' := ?_) ?_ ?_
      rotate_left
      ·show Act.put _ (some 33) _ = _
       simp only [Act.put, List.setIfInBounds_toArray, List.set_cons_zero, List.set_cons_succ, i64_w, i32_w]
       rfl
      exact norm_ (by simp only [putAll, Act.put, List.setIfInBounds_toArray, List.set_cons_zero, List.set_cons_succ]) (hCont (v28, v33, v35) _ ⟨HD.out, H33.out, H35.out⟩)
    ·skip
     refine Kd.R_lit_step k31 _ 31 ?hg (N := 35) ?hd (xs := [(⟨n0, n1, n2, n3, n4, n5⟩ : S31)]) (inner := [.int .i64 n0, .int .i64 n1, .int .i64 n2, .int .i64 n3, .int .i64 n4, .int .i64 n5]) (ok := fun _ => True) (okp := fun _ => True) ?hr ?hp (fun _ hk => hk) trivial (Below.refl _ _) (Nat.le_refl _) (by simp) ?_
     (case hd => rfl)
     (case hg => rfl)
     (case hr => (go_simp; done))
     (case hp => exact (Reps.c6 (show Kd.M k31 _ _ _ (⟨n0, n1, n2, n3, n4, n5⟩ : S31) [.int .i64 n0, .int .i64 n1, .int .i64 n2, .int .i64 n3, .int .i64 n4, .int .i64 n5] from (k31_mkM _ _ _ (⟨n0, n1, n2, n3, n4, n5⟩ : S31))) (Reps.none _ _)))
     intro v35 w35 ho hb hg_ hnew_
     clear hg_ hnew_
     have H35 := am (Kd.R_lower ho (below_size HD.out))
     have HD := am (HD.out.trans (hb.mono HD.out.size))
     clear ho hb
     refine hK.out _ _ ⟨((blk_cell (blk_below BG.out HD.out) 2).trans rfl), ((blk_cell (blk_below BX.out HD.out) 0).trans rfl), ((blk_cell (blk_below BX.out HD.out) 1).trans rfl), ((blk_cell (blk_below BX.out HD.out) 2).trans rfl), ((blk_cell (blk_below BX.out HD.out) 3).trans rfl), ((blk_cell (blk_below BX.out HD.out) 4).trans rfl), ((blk_cell (blk_below BX.out HD.out) 5).trans rfl)⟩ (fun hHeld => ?_)
     clear hK K
     refine norm_ (a' := ?_) ?_ ?_
     rotate_left
     ·show Act.put _ (some 35) _ = _
      simp only [Act.put, List.setIfInBounds_toArray, List.set_cons_zero, List.set_cons_succ, i64_w, i32_w]
      rfl
     refine one_ (i := 0) (N := some 28) zA10x50 rfl rfl (by kernel_rfl) (by decide) (fun K hK => ?_)
     refine Kd.R_lit_step k31 _ 31 ?hg (N := 28) ?hd (xs := ([] : List (S31))) (inner := []) (ok := fun _ => True) (okp := fun _ => True) ?hr ?hp (fun _ hk => hk) trivial (Below.refl _ _) (Nat.le_refl _) (by simp) ?_
     (case hd => rfl)
     (case hg => rfl)
     (case hr => (go_simp; done))
     (case hp => exact Reps.none _ _)
     intro v28 w28 ho hb hg_ hnew_
     clear hg_ hnew_
     have HO28 := am (Kd.R_lower (Kd.R_new' ho (Kd.R_lt H35.out)) (below_size HD.out))
     have H35 := am (Kd.R_elder' H35.out (Kd.R_base ho) hb)
     have H28 := HO28
     clear HO28
     have HD := am (HD.out.trans (hb.mono HD.out.size))
     clear ho hb
     refine hK.out _ _ ⟨((blk_cell (blk_below BG.out HD.out) 2).trans rfl), ((blk_cell (blk_below BX.out HD.out) 0).trans rfl), ((blk_cell (blk_below BX.out HD.out) 1).trans rfl), ((blk_cell (blk_below BX.out HD.out) 2).trans rfl), ((blk_cell (blk_below BX.out HD.out) 3).trans rfl), ((blk_cell (blk_below BX.out HD.out) 4).trans rfl), ((blk_cell (blk_below BX.out HD.out) 5).trans rfl)⟩ (fun hHeld => ?_)
     clear hK K
     refine norm_ (a' := ?_) ?_ ?_
     rotate_left
     ·show Act.put _ (some 28) _ = _
      simp only [Act.put, List.setIfInBounds_toArray, List.set_cons_zero, List.set_cons_succ, i64_w, i32_w]
      rfl
     refine one_ (i := 5) (N := some 33) zA6x50 rfl rfl (by kernel_rfl) (by decide) (fun K hK => ?_)
     refine Kd.R_append_rows_step k31 (w0 := wr) wr.heap.size (by rfl) (.tmp 28) (.tmp 32) 24 31 (.agg #[(.int .i64 0), (.int .i64 0), (.int .i64 0), (.int .i64 0), (.int .i64 0), (.int .i64 0)]) 48 rfl Try.underlying24 info31 rfl (by decide) (by omega) v28 ([] : List (S31)) l _ _ _ (fun k => True ∧ some k ≠ (v35 : Value).ownBlock) (fun _ => False) rfl rfl ?aO ?aR (fun _ _ h => h) (fun _ h => h.elim) ?aF ?aB ?aS ?aL ?_
     (case aR => exact (Kd.C_below (Kd.R_reads' HR.out).2.2 HD.out))
     (case aB => exact HD.out)
     (case aF => exact (fun k hk => ⟨trivial, Kd.fresh' (Kd.R_lt H35.out) k hk⟩))
     (case aO => exact H28.out)
     (case aS => exact (below_size HD.out))
     (case aL => (have := HL.out; simp; omega))
     intro v33 w33 ho hb hg_ hat_
     have H35 := am (Kd.R_after (ok := fun _ => True) H35.out hg_ hat_)
     have H33 := am (show Kd.R k31 31 _ wr.heap.size _ v33 l from ho)
     have HD := am hb
     clear ho hb hg_ hat_
     refine hK.out _ _ ⟨((blk_cell (blk_below BG.out HD.out) 2).trans rfl), ((blk_cell (blk_below BX.out HD.out) 0).trans rfl), ((blk_cell (blk_below BX.out HD.out) 1).trans rfl), ((blk_cell (blk_below BX.out HD.out) 2).trans rfl), ((blk_cell (blk_below BX.out HD.out) 3).trans rfl), ((blk_cell (blk_below BX.out HD.out) 4).trans rfl), ((blk_cell (blk_below BX.out HD.out) 5).trans rfl)⟩ (fun hHeld => ?_)
     clear hK K
     refine norm_ (a' := ?_) ?_ ?_
     rotate_left
     ·show Act.put _ (some 33) _ = _
      simp only [Act.put, List.setIfInBounds_toArray, List.set_cons_zero, List.set_cons_succ, i64_w, i32_w]
      rfl
     exact norm_ (by simp only [putAll, Act.put, List.setIfInBounds_toArray, List.set_cons_zero, List.set_cons_succ]) (hCont (v28, v33, v35) _ ⟨HD.out, H33.out, H35.out⟩)
   rintro ⟨v28, v33, v35⟩ wj ⟨hd_, h33_, h35_⟩
   have HD := am hd_; have H33 := am h33_; have H35 := am h35_
   clear hd_ h33_ h35_
   obtain ⟨A5, c5, e5⟩ := Kd.R_slice H35.out
   simp only [] at e5
   subst e5
   have hHeld : wj.cell? ⟨g, 2, none⟩ = some (.slice A2 l.length c2) ∧ wj.cell? ⟨gx, 0, none⟩ = some (.int .i64 n0) ∧ wj.cell? ⟨gx, 1, none⟩ = some (.int .i64 n1) ∧ wj.cell? ⟨gx, 2, none⟩ = some (.int .i64 n2) ∧ wj.cell? ⟨gx, 3, none⟩ = some (.int .i64 n3) ∧ wj.cell? ⟨gx, 4, none⟩ = some (.int .i64 n4) ∧ wj.cell? ⟨gx, 5, none⟩ = some (.int .i64 n5) := ⟨((blk_cell (blk_below BG.out HD.out) 2).trans rfl), ((blk_cell (blk_below BX.out HD.out) 0).trans rfl), ((blk_cell (blk_below BX.out HD.out) 1).trans rfl), ((blk_cell (blk_below BX.out HD.out) 2).trans rfl), ((blk_cell (blk_below BX.out HD.out) 3).trans rfl), ((blk_cell (blk_below BX.out HD.out) 4).trans rfl), ((blk_cell (blk_below BX.out HD.out) 5).trans rfl)⟩
   refine norm_ (a' := ?_) ?_ ?_
   rotate_left
   ·simp only [putAll, Act.put, List.setIfInBounds_toArray, List.set_cons_zero, List.set_cons_succ]
    rfl
   refine one_ (i := 8) (N := some 36) zA11x50 rfl rfl (by kernel_rfl) (by decide) (fun K hK => ?_)
   refine Kd.R_append_rows_step k31 (w0 := wr) wr.heap.size (by rfl) (.tmp 33) (.tmp 35) 24 31 (.agg #[(.int .i64 0), (.int .i64 0), (.int .i64 0), (.int .i64 0), (.int .i64 0), (.int .i64 0)]) 48 rfl Try.underlying24 info31 rfl (by decide) (by omega) v33 l [(⟨n0, n1, n2, n3, n4, n5⟩ : S31)] _ _ _ (fun k => True ∧ some k ≠ (Value.slice A5 1 c5).ownBlock) (fun _ => False) rfl rfl ?aO ?aR (fun _ _ h => h) (fun _ h => h.elim) ?aF ?aB ?aS ?aL ?_
   (case aR => exact (Kd.R_reads' H35.out).2.2)
   (case aB => exact HD.out)
   (case aF => exact (fun k hk => ⟨trivial, Kd.fresh' (Kd.R_lt H35.out) k hk⟩))
   (case aO => exact H33.out)
   (case aS => exact (below_size HD.out))
   (case aL => (have := HL.out; simp; omega))
   intro v36 w6 ho hb hg_ hat_
   rw [HEQ.out] at ho
   have H36 := am ho
   have HD := am hb
   clear ho hb hg_ hat_
   clear H33 H35
   obtain ⟨A6, c6, e6⟩ := Kd.R_slice H36.out
   subst e6
   refine hK.out _ _ ⟨((blk_cell (blk_below BG.out HD.out) 2).trans rfl), ((blk_cell (blk_below BX.out HD.out) 0).trans rfl), ((blk_cell (blk_below BX.out HD.out) 1).trans rfl), ((blk_cell (blk_below BX.out HD.out) 2).trans rfl), ((blk_cell (blk_below BX.out HD.out) 3).trans rfl), ((blk_cell (blk_below BX.out HD.out) 4).trans rfl), ((blk_cell (blk_below BX.out HD.out) 5).trans rfl)⟩ (fun hHeld => ?_)
   clear hK K
   refine norm_ (a' := ?_) ?_ ?_
   rotate_left
   ·show Act.put _ (some 36) _ = _
    simp only [Act.put, List.setIfInBounds_toArray, List.set_cons_zero, List.set_cons_succ, i64_w, i32_w]
    rfl
   refine pure_ (i := 9) (N := some 8) (v := ?_) (a' := ?_) zA12x50 rfl rfl (by kernel_rfl) (fun _ _ _ h => h) (Or.inl ⟨by rfl, ?_⟩) ?_ ?_
   rotate_left
   ·intro w'
    go_simp
    with_reducible rfl
   rotate_left
   ·simp only [Act.put, List.setIfInBounds_toArray, List.set_cons_zero, List.set_cons_succ, i64_w, i32_w]
    rfl
   refine done_ (by kernel_rfl) ?_
   have BG := am (blk_below BG.out HD.out); have HR := am (Kd.R_below HR.out HD.out); have HK2 := am (HK.out.below HD.out)
   have HN6 := am (show Kd.R k31 31 w6 w0.heap.size (fun k => k ≠ g ∧ w.heap.size ≤ k) (.slice A6 nl.length c6) nl from Kd.R_lower (Kd.R_mono (Kd.R_bound H36.out) (fun k h => ⟨by have := blk_lt BG0.out; have := h.2.1; omega, Nat.le_trans HK.out.1 h.2.1⟩)) (below_size HB.out))
   have HB := am (HB.out.trans (HD.out.mono HB.out.size)); have HK := am HK2.out
   clear HK2 H36 HD BG0 hHeld g2 z0 z1 z2 z3 z4 z5 t2 BX
   go_wp2_with fail
   refine (spec_l02Node.calls k A6 c6 nl (wrap64 ((nl.length : Int) - 1)) b _ (Kd.R_reads' HN6.out).2.2 (Kd.R_reads' HN6.out).2.1 (by rw [E1.out]; exact HND.out)).mono ?_
   rintro e w7 ⟨rfl, hb7⟩
   have BG := am (blk_below BG.out hb7); have HR := am (Kd.R_below HR.out hb7); have HN6 := am (Kd.R_below HN6.out hb7); have HK := am (HK.out.below hb7); have HB := am (HB.out.trans (hb7.mono HB.out.size))
   clear hb7
   cases b with
   | false =>
    have h1 := HH.out
    rw [if_neg (by decide)] at h1
    simp only [Option.some.injEq, Prod.mk.injEq] at h1
    obtain ⟨rfl, rfl, rfl, rfl⟩ := h1
    go_wp2_with fail
    refine (spec_l03Fail.calls g s a l 0 0 3 frm 0 s a 3 frm w0 w7 ⟨A2, c2, BG.out, G0.out, rfl, rfl⟩ HB.out rfl).mono ?_
    rintro e w8 ⟨rfl, hi, hb, hk⟩
    have HI8 := am hi; have HB8 := am hb; have HK8 := am hk
    clear hi hb hk
    go_wp2_with fail
    go_ret
    exact ⟨rfl, ⟨A2, c2, ⟨HI8.out, Kd.R_keep HR.out HK8.out (fun _ h => h), HB8.out⟩, fun k e => .inl e.symm⟩, Kept.of_keep HK.out HK8.out (.inl rfl), HL.out⟩
   | true =>
    by_cases h80 : l.length = 80
    ·have t3 : decide (80 < (nl.length : Int)) = true := decide_eq_true (by have := HNL.out; omega)
     have h1 := HH.out
     rw [if_pos rfl, if_pos h80] at h1
     simp only [Option.some.injEq, Prod.mk.injEq] at h1
     obtain ⟨rfl, rfl, rfl, rfl⟩ := h1
     clear h80
     go_wp2_with fail
     refine (spec_l03Fail.calls g s a l 0 0 4 frm 0 s a 4 frm w0 w7 ⟨A2, c2, BG.out, G0.out, rfl, rfl⟩ HB.out rfl).mono ?_
     rintro e w8 ⟨rfl, hi, hb, hk⟩
     have HI8 := am hi; have HB8 := am hb; have HK8 := am hk
     clear hi hb hk
     go_wp2_with fail
     go_ret
     exact ⟨rfl, ⟨A2, c2, ⟨HI8.out, Kd.R_keep HR.out HK8.out (fun _ h => h), HB8.out⟩, fun k e => .inl e.symm⟩, Kept.of_keep HK.out HK8.out (.inl rfl), HL.out⟩
    ·have t3 : decide (80 < (nl.length : Int)) = false := decide_eq_false (by have := HNL.out; have := HL.out; omega)
     have h1 := HH.out
     rw [if_pos rfl, if_neg h80] at h1
     simp only [Option.some.injEq, Prod.mk.injEq] at h1
     obtain ⟨rfl, rfl, rfl, rfl⟩ := h1
     have H80 := am h80
     have g2 : w7.cell? ⟨g, 2, none⟩ = some (.slice A2 l.length c2) := (blk_cell BG.out 2).trans rfl
     have hfz := blk_frozen BG.out 2
     clear h80
     go_wp2_with fail
     go_ret
     refine ⟨by rw [E1.out]; rfl, ⟨A6, c6, ⟨⟨A6, c6, by simpa using blk_set BG.out 2 (.slice A6 nl.length c6), G0.out, rfl, rfl⟩, ?_, below_set HB.out G0.out⟩, fun k e => .inr (HN6.out.1 k e).2⟩, Kept.setCell HK.out (p := ⟨g, 2, none⟩) (.inl rfl) (.slice A6 nl.length c6), by have := HNL.out; have := HL.out; have := H80.out; omega⟩
     exact Kd.R_mono (Kd.R_far (p := ⟨g, 2, none⟩) HN6.out (fun k h => h.1) (.slice A6 nl.length c6)) (fun k h => h.1)
end Go.Proofs.Ytkpipmojkhikaaa.PAll
