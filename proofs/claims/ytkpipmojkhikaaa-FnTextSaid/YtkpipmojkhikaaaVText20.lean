/- Written by a program of this session over the loaded program, and by hand: Go functions as plain Lean functions, and that a call comes to what they say. -/
import Derived.Test.YtkpipmojkhikaaaVText0
import Derived.Test.YtkpipmojkhikaaaVText1
import Derived.Test.YtkpipmojkhikaaaVText11
import Derived.Test.YtkpipmojkhikaaaVText16
import Derived.Test.YtkpipmojkhikaaaVText18
import Derived.Test.YtkpipmojkhikaaaVText19
import Derived.Test.YtkpipmojkhikaaaBase
import Derived.Test.YtkpipmojkhikaaaSq
namespace Go.Proofs.Ytkpipmojkhikaaa.PAll
open Go.RowKit Go.Proofs.YtkpipmojkhikaaaW.PrintWords Go.Proofs.YtkpipmojkhikaaaW.PrintLast Go.Proofs.YtkpipmojkhikaaaW.PrintMore Go.Proofs.YtkpipmojkhikaaaW.Sq
attribute [local go_sem] sD rZ uM uL qV qU sA rY
set_option linter.unusedVariables false
set_option linter.unusedSimpArgs false
@[reducible] def c8w : Array Bool := #[false, false, false, false, false, false, false, false, false, false, false, false, false, false, false, false, false, false, false, false, false]
@[reducible] def c8r : Array Bool := #[true, false, false, false, false, false, false, false, false, false, false, false, false, false, false, false, false, false, false, false, false]
@[reducible] def c8m : Array Bool := #[true, true, false, false, false, false, false, false, false, false, false, false, false, false, false, false, false, false, false, false, false]
@[reducible] def c8h : Array Bool := #[true, true, true, false, false, false, false, false, false, false, false, false, false, false, false, false, false, false, false, false, false]
@[reducible] def c8c : Array Bool := #[true, true, true, false, true, false, false, false, false, false, false, false, false, false, false, false, false, false, false, false, false]
@[reducible] def c7x : Array Bool := #[true, true, true, false, true, false, false, false, false, true, false, false, false, false, false, false, false, false, false, false, false]
@[reducible] def c7t : Array Bool := #[true, true, true, false, true, false, false, false, false, true, true, false, false, false, false, false, false, false, false, false, false]
@[reducible] def c7o : Array Bool := #[true, true, true, false, true, false, false, false, false, true, true, true, false, false, false, false, false, false, false, false, false]
@[reducible] def c7j : Array Bool := #[true, true, true, false, true, false, false, false, false, true, true, true, false, true, false, false, false, false, false, false, false]
@[reducible] def c7f : Array Bool := #[true, true, true, true, true, false, false, false, false, true, true, true, false, true, false, false, false, false, false, false, false]
@[reducible] def c3q : Array Bool := #[true, true, true, true, true, true, false, false, false, true, true, true, false, true, false, false, false, false, false, false, false]
@[reducible] def c3m : Array Bool := #[true, true, true, true, true, true, true, false, false, true, true, true, false, true, false, false, false, false, false, false, false]
@[reducible] def c3j : Array Bool := #[true, true, true, true, true, true, true, true, false, true, true, true, false, true, false, false, false, false, false, false, false]
@[reducible] def c3h : Array Bool := #[true, true, true, true, true, true, true, true, true, true, true, true, false, true, false, false, false, false, false, false, false]
@[reducible] def c3g : Array Bool := #[true, true, true, true, true, true, true, true, true, true, true, true, true, true, false, false, false, false, false, false, false]
@[reducible] def c3f : Array Bool := #[true, true, true, true, true, true, true, true, true, true, true, true, true, true, true, false, false, false, false, false, false]
@[reducible] def c3e : Array Bool := #[true, true, true, true, true, true, true, true, true, true, true, true, true, true, true, true, false, false, false, false, false]
@[reducible] def c3d : Array Bool := #[true, true, true, true, true, true, true, true, true, true, true, true, true, true, true, true, true, false, false, false, false]
@[reducible] def c3c : Array Bool := #[true, true, true, true, true, true, true, true, true, true, true, true, true, true, true, true, true, true, false, false, false]
@[reducible] def c3b : Array Bool := #[true, true, true, true, true, true, true, true, true, true, true, true, true, true, true, true, true, true, true, false, false]
@[reducible] def c3a : Array Bool := #[true, true, true, true, true, true, true, true, true, true, true, true, true, true, true, true, true, true, true, true, false]
@[reducible] def c2z : Array Bool := #[true, true, true, true, true, true, true, true, true, true, true, true, true, true, true, true, true, true, true, true, true]
@[reducible] def b5p : Array Bool := #[false, false, false, false, false, false, false, false, false, false, false]
@[reducible] def b5o : Array Bool := #[true, false, false, false, false, false, false, false, false, false, false]
@[reducible] def b5n : Array Bool := #[true, true, false, false, false, false, false, false, false, false, false]
@[reducible] def b5m : Array Bool := #[true, true, true, false, false, false, false, false, false, false, false]
@[reducible] def b5l : Array Bool := #[true, true, true, false, true, false, false, false, false, false, false]
@[reducible] def b5k : Array Bool := #[true, true, true, true, true, false, false, false, false, false, false]
@[reducible] def b5j : Array Bool := #[true, true, true, true, true, true, false, false, false, false, false]
@[reducible] def b5i : Array Bool := #[true, true, true, true, true, true, true, false, false, false, false]
@[reducible] def b5g : Array Bool := #[true, true, true, true, true, true, true, true, false, false, false]
@[reducible] def b5f : Array Bool := #[true, true, true, true, true, true, true, true, true, false, false]
@[reducible] def b5e : Array Bool := #[true, true, true, true, true, true, true, true, true, true, false]
@[reducible] def b5d : Array Bool := #[true, true, true, true, true, true, true, true, true, true, true]
variable {Ax : Option Addr} {cx : Nat}
theorem IsCu.setAt {w0 w : World} {g : Nat} {s : ByteArray} {a : Int} {l : List (S31)} {code bad : Int} {A : Option Addr} {c : Nat} (h : IsCu w0 w g s a l code bad A c) (x : Int) : IsCu w0 (w.setCell ⟨g, 1, none⟩ (.int .i64 x)) g s x l code bad A c :=
 ⟨xI h.1 x, Kd.R_far (p := ⟨g, 1, none⟩) h.2.1 (fun _ h => h) _, kZ h.2.2 (by obtain ⟨_, _, _, h2, _⟩ := h.1; exact h2)⟩
theorem IsCu.cells {w0 w : World} {g : Nat} {s : ByteArray} {a : Int} {l : List (S31)} {code bad : Int} {A : Option Addr} {c : Nat} (h : IsCu w0 w g s a l code bad A c) : w.cell? ⟨g, 0, none⟩ = some (.string s) ∧ w.cell? ⟨g, 1, none⟩ = some (.int .i64 a) ∧ w.cell? ⟨g, 2, none⟩ = some (.slice A l.length c) ∧ w.cell? ⟨g, 3, none⟩ = some (.int .i64 code) ∧ w.frozen? ⟨g, 1, none⟩ = false ∧ w0.heap.size ≤ g ∧ g < w.heap.size := by
 obtain ⟨A2, c2, hb, hg, rfl, rfl⟩ := h.1
 exact ⟨(kG hb 0).trans rfl, (kG hb 1).trans rfl, (kG hb 2).trans rfl, (kG hb 3).trans rfl, kE hb 1, hg, sO hb⟩
def a2b (k : Nat) (s : ByteArray) (a : Int) (l : List (S31)) (op : Int) : Option (Bool × Int × Int × Int) :=
 if op = 17 then (cbF s a l).bind fun b => if b.1 = true then (cwF k s b.2 l).bind fun w => (sX k w.1).bind fun x => (if x < 0 then some (false, w.2, 0, 0) else (cbF s w.2 l).bind fun b2 => if b2.1 = true then (cwF k s b2.2 l).bind fun w2 => (sX k w2.1).bind fun y => (if y < 0 then some (false, w2.2, 0, 0) else some (true, w2.2, x, y)) else some (false, b2.2, 0, 0)) else some (false, b.2, 0, 0)
 else some (true, a, 0, 0)
def a0e (k : Nat) (s : ByteArray) (a : Int) (l : List (S31)) (op K W : Int) : Option (Bool × Int × Int × Int × Int) :=
 (rF op).bind fun q => if q = true then (cbF s a l).bind fun b => (if b.1 = true then (cwF k s b.2 l).bind fun w => (uR k w.1 118).bind fun t => (if t.1 < 0 then some (false, w.2, 0, 0, 0) else some (true, w.2, t.1, t.2, 1)) else some (false, b.2, 0, 0, 0))
 else some (true, a, K, 0, W)
def a2w (V : CdV) (s : ByteArray) (frm : Int) : Nat → Int → List (S31) → List Int → Option (Bool × List Int × Int × List (S31) × Int × Int)
 | 0, a, l, acc => some (true, acc, a, l, 0, 0)
 | m + 1, a, l, acc => (cbF s a l).bind fun b => if b.1 = true then (V b.2 l).bind fun r => (if r.2.2.2.1 = 0 then (if r.2.2.2.2 = 0 then a2w V s frm m r.2.1 r.2.2.1 (acc ++ [r.1]) else none) else some (false, acc, r.2.1, r.2.2.1, r.2.2.2.1, r.2.2.2.2)) else some (false, acc, b.2, l, 2, frm)
def c0j (s : ByteArray) (a : Int) : Option Bool := if a ≥ (s.size : Int) then some false else if 0 ≤ a then some (bt s a == 41) else none
def c0g (l : List (S31)) (op W A B : Int) : Option Int :=
 if op = 17 ∨ op = 19 ∨ op = 20 then some W else if 13 ≤ op ∧ op ≤ 15 then some 1 else if op = 16 then (if 0 ≤ A ∧ A < (l.length : Int) ∧ 0 ≤ B ∧ B < (l.length : Int) then some (wrap64 ((kA l A).f1 + (kA l B).f1)) else none)
 else if op = 18 then (if 0 ≤ B ∧ B < (l.length : Int) then some (kA l B).f1 else none) else if 0 ≤ A ∧ A < (l.length : Int) then some (kA l A).f1 else none
def a2c (k : Nat) (s : ByteArray) (a : Int) (l : List (S31)) (acc : List Int) (op cnt K B0 W0 frm : Int) : Option (Int × Int × List (S31) × Int × Int) :=
 (c0j s a).bind fun e => if e = true then (if 0 < acc.length ∧ (1 < cnt → 1 < acc.length) ∧ (2 < cnt → 2 < acc.length) then (c0g l op W0 (rd acc 0) (if 1 < cnt then rd acc 1 else B0)).bind fun wd => (a6h k l ⟨op, wd, K, rd acc 0, if 1 < cnt then rd acc 1 else B0, if 2 < cnt then rd acc 2 else 0⟩ frm).map fun r => (r.1, wrap64 (a + 1), r.2) else none) else some (0, a, l, 2, frm)
def a6i (k : Nat) (V : CdV) (s : ByteArray) (l : List (S31)) (frm : Int) : Option (Int × Int × List (S31) × Int × Int) :=
 (cwF k s (wrap64 (frm + 1)) l).bind fun w1 => (uS k w1.1).bind fun o => if o.1 < 0 then some (0, w1.2, l, 2, frm) else
  (a2b k s w1.2 l o.1).bind fun m => (if m.1 = true then (a0e k s m.2.1 l o.1 m.2.2.1 m.2.2.2).bind fun n => (if n.1 = true then
   (a2w V s frm o.2.toNat n.2.1 l []).bind fun q => (if q.1 = true then a2c k s q.2.2.1 q.2.2.2.1 q.2.1 o.1 o.2 n.2.2.1 n.2.2.2.1 n.2.2.2.2 frm else some (0, q.2.2.1, q.2.2.2.1, q.2.2.2.2.1, q.2.2.2.2.2))
   else some (0, n.2.1, l, 2, frm)) else some (0, m.2.1, l, 2, frm))
theorem c0i {a : ByteArray} {ws : List ByteArray} {op cnt : Int} (k : Nat) : ∀ x : Int, qX k a ws x = some (op, cnt) → 0 ≤ cnt ∧ cnt ≤ 3 := by
 induction k with
 | zero => intro x h; simp [qX] at h
 | succ k ih =>
  intro x h
  simp only [qX] at h
  repeat' split at h
  all_goals first
   | (simp only [Option.some.injEq, Prod.mk.injEq] at h; obtain ⟨_, rfl⟩ := h; decide)
   | exact ih _ h
   | cases h
theorem c6p {k : Nat} {a : ByteArray} {op cnt : Int} (h : uS k a = some (op, cnt)) : 0 ≤ cnt ∧ cnt ≤ 3 := by
 unfold uS at h
 obtain ⟨ws, _, h⟩ := oB h
 exact c0i k _ h
theorem rU {P : Prop} (h : P := by
 simp only [Act.put, List.setIfInBounds_toArray, List.set_cons_zero, List.set_cons_succ, xW, a1l]
 rfl) : P := h
theorem a7a {P : Prop} (h : P := by
 try dsimp only
 replace HI := am hi; replace HK := am (kY HK.out hk (.inl rfl))
 replace BN := am ((hk.2 _ (sO BN.out) (fun e => by have := HG.out; omega) (by simp)).trans BN.out)
 clear hi hk
 go_wp2_with fail
 go_ret
 exact ⟨rfl, ⟨A, c, HI.out, fun k e => .inl e.symm⟩, HK.out, HL.out⟩) : P := h
theorem c1n {P : Prop} (h : P := by
 go_wp2_with fail
 go_quiet (fail)
 replace HI := am (HI.out.below (kN (Below.refl _ _) nq)); replace HK := am (HK.out.drewN nq)
 clear g0 g1
 go_wp2_with fail
 refine (a1o g s at1 l1 2 frm A1 cc1 w0 _ HI.out).mono ?_
 rintro e bA ⟨rfl, hi, hk⟩
 try dsimp only
 replace HI := am hi; replace HK := am (kY HK.out hk (.inl rfl))
 clear hi hk
 go_wp2_with fail
 go_ret
 exact ⟨rfl, ⟨A1, cc1, HI.out, fun k e => (HOW.out k e).1⟩, HK.out, HL1.out⟩) : P := h
set_option maxHeartbeats 4000000 in
set_option maxRecDepth 100000 in
theorem spec_l03Inner.calls (k g : Nat) (V : CdV) (s : ByteArray) (hV : a4g s V) (a : Int) (l : List (S31)) (frm p a' : Int) (l' : List (S31)) (code' bad' : Int) (A : Option Addr) (c : Nat) (w0 w : World) (hI : IsCu w0 w g s a l 0 0 A c) (hl : l.length ≤ 80)
  (h : a6i k V s l frm = some (p, a', l', code', bad')) :
  Calls Try.prog 97 #[.pointer (some ⟨g, 0, none⟩), .int .i64 frm] w fun e w' => e = .returned (.int .i64 p) ∧ c6x w0 w w' g s a' l' code' bad' A c l.length := by
 have HV := am hV; have HL := am hl
 unfold a6i at h
 obtain ⟨⟨v1, a1⟩, aX, h_⟩ := oB h
 clear h
 obtain ⟨⟨op, cnt⟩, aY, h⟩ := oB h_
 clear h_
 have HW := am aX; have HP := am aY; have HH := am h
 have HK := am (Kept.refl w (fun k => k = g))
 have HOL := am (show ∀ k, (Value.slice A l.length c).ownBlock = some k → k < w.heap.size from fun k e => Kd.R_lt hI.2.1 k e)
 obtain ⟨g0, g1, g2, g3, hz, hg0, hgw⟩ := hI.cells
 have G0 := am hg0; have GW := am hgw
 have HI := am (hI.setAt (wrap64 (frm + 1))); have HK := am (HK.out.setCell (p := ⟨g, 1, none⟩) (.inl rfl) (.int .i64 (wrap64 (frm + 1))))
 clear hV hl aX aY h hI g0 g2 g3 hg0 hgw
 go_enter Try.func97, Try.ntmps97
 go_wp2_with fail
 clear g1 hz
 refine (b0o k g s (wrap64 (frm + 1)) l v1 a1 A c w0 _ HI.out HW.out).mono ?_
 rintro e w2 ⟨rfl, hi, hk⟩
 replace HI := am hi; replace HK := am (kY HK.out hk (.inl rfl))
 clear hi hk
 go_wp2_with fail
 refine (spec_l03Op.calls k v1 op cnt _ HP.out).mono ?_
 rintro e w3 ⟨rfl, hd⟩
 replace HI := am (HI.out.below hd); replace HK := am (HK.out.below hd)
 clear hd
 by_cases hop : op < 0
 ·have t0 : decide (op < 0) = true := decide_eq_true hop
  have hf := HH.out
  rw [if_pos hop] at hf
  simp only [Option.some.injEq, Prod.mk.injEq] at hf
  obtain ⟨rfl, rfl, rfl, rfl, rfl⟩ := hf
  go_wp2_with fail
  refine (a1o g s a1 l 2 frm A c w0 _ HI.out).mono ?_
  rintro e w4 ⟨rfl, hi, hk⟩
  replace HI := am hi; replace HK := am (kY HK.out hk (.inl rfl))
  clear hi hk
  go_wp2_with fail
  go_ret
  exact ⟨rfl, ⟨A, c, HI.out, fun k e => .inl e.symm⟩, HK.out, HL.out⟩
 have t0 : decide (op < 0) = false := decide_eq_false hop
 have hf := HH.out
 rw [if_neg hop] at hf
 obtain ⟨⟨sok, a2, K1, W1⟩, hs1, hf_⟩ := oB hf
 clear hf
 have hf := hf_
 clear hf_
 replace HH := am hf; have HS1 := am hs1
 clear hop hf hs1
 have BN := am (heap_alloc_new w3 (Obj.cells #[Value.int .i64 op, Value.int .i64 0, Value.int .i64 0, Value.int .i64 0, Value.int .i64 0, Value.int .i64 0] 31))
 have hA := kS (Below.refl w3.heap.size w3) (Obj.cells #[Value.int .i64 op, Value.int .i64 0, Value.int .i64 0, Value.int .i64 0, Value.int .i64 0, Value.int .i64 0] 31)
 have HG := am (show g < w3.heap.size from HI.out.cells.2.2.2.2.2.2)
 have HW3 := am (show w.heap.size ≤ w3.heap.size from HK.out.1)
 replace HI := am (HI.out.below hA); replace HK := am (HK.out.below hA)
 clear hA
 have HB3 := am (show w0.heap.size ≤ w3.heap.size by have := G0.out; have := HG.out; omega)
 go_upto_if 33 with (fail)
 (try simp only [Act.put, List.setIfInBounds_toArray, List.set_cons_zero, List.set_cons_succ])
 go_cut [] (fun wc => Aside0 (sok = true) ∧ Aside0 (IsCu w0 wc g s a2 l 0 0 A c) ∧ Aside0 (Kept w wc (fun k => k = g)) ∧ Aside0 (wc.heap[w3.heap.size]? = some (.cells #[.int .i64 op, .int .i64 W1, .int .i64 K1, .int .i64 0, .int .i64 0, .int .i64 0] 31 (0, 0))))
 case first =>
  as_aux_lemma =>
   have hs := HS1.out
   unfold a2b at hs
   by_cases aA : op = 17
   rotate_left
   ·have t1 : (op == 17) = false := beq_eq_false_iff_ne.mpr aA
    rw [if_neg aA] at hs
    simp only [Option.some.injEq, Prod.mk.injEq] at hs
    obtain ⟨rfl, rfl, rfl, rfl⟩ := hs
    clear aA
    go_wp2_with fail
    go_meet
    case rel => exact ⟨⟨rfl⟩, HI, HK, BN⟩
   have t1 : (op == 17) = true := beq_iff_eq.mpr aA
   rw [if_pos aA] at hs
   obtain ⟨⟨b1, a3⟩, hb1, hs_⟩ := oB hs
   clear hs
   have hs := hs_
   clear hs_
   have HB1 := am hb1; replace HS1 := am hs
   clear hs hb1 aA
   go_wp2_with fail
   refine (a8s g s a1 l b1 a3 A c w0 _ HI.out HB1.out).mono ?_
   rintro e w4 ⟨rfl, hi, hk⟩
   try dsimp only
   replace HI := am hi; replace HK := am (kY HK.out hk (.inl rfl))
   replace BN := am ((hk.2 _ (sO BN.out) (fun e => by have := HG.out; omega) (by simp)).trans BN.out)
   clear hi hk
   cases b1 with
   | false =>
    have hs := HS1.out
    rw [if_neg (show ¬ (false = true) by decide)] at hs
    simp only [Option.some.injEq, Prod.mk.injEq] at hs
    obtain ⟨rfl, rfl, hd1⟩ := hs
    clear hd1
    have hf := HH.out
    rw [if_neg (show ¬ (false = true) by decide)] at hf
    simp only [Option.some.injEq, Prod.mk.injEq] at hf
    obtain ⟨rfl, rfl, rfl, rfl, rfl⟩ := hf
    go_wp2_with fail
    refine (a1o g s a3 l 2 frm A c w0 _ HI.out).mono ?_
    rintro e w5 ⟨rfl, hi, hk⟩
    exact a7a
   | true =>
    have hs := HS1.out
    rw [if_pos rfl] at hs
    obtain ⟨⟨v4, a4⟩, aW, hs_⟩ := oB hs
    clear hs
    have hs := hs_
    clear hs_
    obtain ⟨x1, aI, hs_⟩ := oB hs
    clear hs
    have hs := hs_
    clear hs_
    have HW4 := am aW; have HX1 := am aI; replace HS1 := am hs
    clear hs aW aI
    go_wp2_with fail
    refine (b0o k g s a3 l v4 a4 A c w0 _ HI.out HW4.out).mono ?_
    rintro e w6 ⟨rfl, hi, hk⟩
    try dsimp only
    replace HI := am hi; replace HK := am (kY HK.out hk (.inl rfl))
    replace BN := am ((hk.2 _ (sO BN.out) (fun e => by have := HG.out; omega) (by simp)).trans BN.out)
    clear hi hk
    go_wp2_with fail
    refine (spec_l03Num.calls k v4 x1 _ HX1.out).mono ?_
    rintro e w7 ⟨rfl, hd0⟩
    try dsimp only
    have hd := hd0.below
    replace HI := am (HI.out.below hd); replace HK := am (HK.out.below hd); replace BN := am (kI BN.out hd)
    clear hd hd0
    by_cases hx : x1 < 0
    ·have t2 : decide (x1 < 0) = true := decide_eq_true hx
     have hs := HS1.out
     rw [if_pos hx] at hs
     clear hx
     simp only [Option.some.injEq, Prod.mk.injEq] at hs
     obtain ⟨rfl, rfl, hd1⟩ := hs
     clear hd1
     have hf := HH.out
     rw [if_neg (show ¬ (false = true) by decide)] at hf
     simp only [Option.some.injEq, Prod.mk.injEq] at hf
     obtain ⟨rfl, rfl, rfl, rfl, rfl⟩ := hf
     go_wp2_with fail
     refine (a1o g s a4 l 2 frm A c w0 _ HI.out).mono ?_
     rintro e w8 ⟨rfl, hi, hk⟩
     exact a7a
    have t2 : decide (x1 < 0) = false := decide_eq_false hx
    have hs := HS1.out
    rw [if_neg hx] at hs
    obtain ⟨⟨b5, a5⟩, hb5, hs_⟩ := oB hs
    clear hs
    have hs := hs_
    clear hs_
    have HB5 := am hb5; replace HS1 := am hs
    clear hs hb5 hx
    go_wp2_with fail
    refine (a8s g s a4 l b5 a5 A c w0 _ HI.out HB5.out).mono ?_
    rintro e w9 ⟨rfl, hi, hk⟩
    try dsimp only
    replace HI := am hi; replace HK := am (kY HK.out hk (.inl rfl))
    replace BN := am ((hk.2 _ (sO BN.out) (fun e => by have := HG.out; omega) (by simp)).trans BN.out)
    clear hi hk
    cases b5 with
    | false =>
     have hs := HS1.out
     rw [if_neg (show ¬ (false = true) by decide)] at hs
     simp only [Option.some.injEq, Prod.mk.injEq] at hs
     obtain ⟨rfl, rfl, hd1⟩ := hs
     clear hd1
     have hf := HH.out
     rw [if_neg (show ¬ (false = true) by decide)] at hf
     simp only [Option.some.injEq, Prod.mk.injEq] at hf
     obtain ⟨rfl, rfl, rfl, rfl, rfl⟩ := hf
     go_wp2_with fail
     refine (a1o g s a5 l 2 frm A c w0 _ HI.out).mono ?_
     rintro e w10 ⟨rfl, hi, hk⟩
     exact a7a
    | true =>
     have hs := HS1.out
     rw [if_pos rfl] at hs
     obtain ⟨⟨v6, a6⟩, aV, hs_⟩ := oB hs
     clear hs
     have hs := hs_
     clear hs_
     obtain ⟨y1, aR, hs_⟩ := oB hs
     clear hs
     have hs := hs_
     clear hs_
     have HW6 := am aV; have HY1 := am aR; replace HS1 := am hs
     clear hs aV aR
     go_wp2_with fail
     refine (b0o k g s a5 l v6 a6 A c w0 _ HI.out HW6.out).mono ?_
     rintro e w11 ⟨rfl, hi, hk⟩
     try dsimp only
     replace HI := am hi; replace HK := am (kY HK.out hk (.inl rfl))
     replace BN := am ((hk.2 _ (sO BN.out) (fun e => by have := HG.out; omega) (by simp)).trans BN.out)
     clear hi hk
     go_wp2_with fail
     refine (spec_l03Num.calls k v6 y1 _ HY1.out).mono ?_
     rintro e w12 ⟨rfl, hd0⟩
     try dsimp only
     have hd := hd0.below
     replace HI := am (HI.out.below hd); replace HK := am (HK.out.below hd); replace BN := am (kI BN.out hd)
     clear hd hd0
     by_cases hy : y1 < 0
     ·have t3 : decide (y1 < 0) = true := decide_eq_true hy
      have hs := HS1.out
      rw [if_pos hy] at hs
      clear hy
      simp only [Option.some.injEq, Prod.mk.injEq] at hs
      obtain ⟨rfl, rfl, hd1⟩ := hs
      clear hd1
      have hf := HH.out
      rw [if_neg (show ¬ (false = true) by decide)] at hf
      simp only [Option.some.injEq, Prod.mk.injEq] at hf
      obtain ⟨rfl, rfl, rfl, rfl, rfl⟩ := hf
      go_wp2_with fail
      refine (a1o g s a6 l 2 frm A c w0 _ HI.out).mono ?_
      rintro e w13 ⟨rfl, hi, hk⟩
      exact a7a
     have t3 : decide (y1 < 0) = false := decide_eq_false hy
     have hs := HS1.out
     rw [if_neg hy] at hs
     simp only [Option.some.injEq, Prod.mk.injEq] at hs
     obtain ⟨rfl, rfl, rfl, rfl⟩ := hs
     clear hy
     have hz2 := kE BN.out 2
     obtain ⟨q0, q1, q2, q3, q4, q5⟩ := a2a BN.out
     have hz1 := kE BN.out 1
     go_wp2_with fail
     go_meet
     replace HI := am (HI.out.far (x := w3.heap.size) (j := 2) (by have := HG.out; omega) (fun k e => by have := HOL.out k e; have := HW3.out; omega) HB3.out (.int .i64 x1)); replace HK := am (HK.out.setCell (p := ⟨w3.heap.size, 2, none⟩) (.inr HW3.out) (.int .i64 x1))
     replace BN := am (show _ = some (Obj.cells #[.int .i64 op, .int .i64 0, .int .i64 x1, .int .i64 0, .int .i64 0, .int .i64 0] 31 (0, 0)) from by simpa using qM BN.out 2 (.int .i64 x1))
     replace HI := am (HI.out.far (x := w3.heap.size) (j := 1) (by have := HG.out; omega) (fun k e => by have := HOL.out k e; have := HW3.out; omega) HB3.out (.int .i64 y1)); replace HK := am (HK.out.setCell (p := ⟨w3.heap.size, 1, none⟩) (.inr HW3.out) (.int .i64 y1))
     replace BN := am (show _ = some (Obj.cells #[.int .i64 op, .int .i64 y1, .int .i64 x1, .int .i64 0, .int .i64 0, .int .i64 0] 31 (0, 0)) from by simpa using qM BN.out 1 (.int .i64 y1))
     case rel => exact ⟨⟨rfl⟩, HI, HK, BN⟩
 obtain ⟨hsok, HI, HK, BN⟩ := hcut
 have hsok := hsok.out
 subst hsok
 have hs := HH.out
 rw [if_pos rfl] at hs
 obtain ⟨⟨qok, a7, K2, B2, W2⟩, hq1, hs_⟩ := oB hs
 clear hs
 have hs := hs_
 clear hs_
 have HQ1 := am hq1; replace HH := am hs
 clear hs hq1 HS1
 have hs := HQ1.out
 unfold a0e at hs
 obtain ⟨qb, hqb, hs_⟩ := oB hs
 clear hs
 have hs := hs_
 clear hs_
 have HQB := am hqb; replace HQ1 := am hs
 clear hs hqb
 refine id ?_
 go_upto_if 66 with (go_at_call 50; refine (spec_l02Quant.calls op qb _ HQB.out).mono ?_; rintro e wq ⟨rfl, hd0⟩; have aH := hd0.below; replace HI := am (HI.out.below aH); replace HK := am (HK.out.below aH); replace BN := am (kI BN.out aH); clear hd0 aH)
 (try simp only [Act.put, List.setIfInBounds_toArray, List.set_cons_zero, List.set_cons_succ])
 go_cut [] (fun wc => Aside0 (qok = true) ∧ Aside0 (IsCu w0 wc g s a7 l 0 0 A c) ∧ Aside0 (Kept w wc (fun k => k = g)) ∧ Aside0 (wc.heap[w3.heap.size]? = some (.cells #[.int .i64 op, .int .i64 W2, .int .i64 K2, .int .i64 0, .int .i64 B2, .int .i64 0] 31 (0, 0))))
 case first =>
  as_aux_lemma =>
   cases qb with
   | true =>
    have hs := HQ1.out
    rw [if_pos rfl] at hs
    obtain ⟨⟨b8, a8⟩, hb8, hs_⟩ := oB hs
    clear hs
    have hs := hs_
    clear hs_
    have HB8 := am hb8; replace HQ1 := am hs
    clear hs hb8
    go_wp2_with fail
    refine (a8s g s a2 l b8 a8 A c w0 _ HI.out HB8.out).mono ?_
    rintro e w14 ⟨rfl, hi, hk⟩
    try dsimp only
    replace HI := am hi; replace HK := am (kY HK.out hk (.inl rfl))
    replace BN := am ((hk.2 _ (sO BN.out) (fun e => by have := HG.out; omega) (by simp)).trans BN.out)
    clear hi hk
    cases b8 with
    | false =>
     have hs := HQ1.out
     rw [if_neg (show ¬ (false = true) by decide)] at hs
     simp only [Option.some.injEq, Prod.mk.injEq] at hs
     obtain ⟨rfl, rfl, hd1⟩ := hs
     clear hd1
     have hf := HH.out
     rw [if_neg (show ¬ (false = true) by decide)] at hf
     simp only [Option.some.injEq, Prod.mk.injEq] at hf
     obtain ⟨rfl, rfl, rfl, rfl, rfl⟩ := hf
     go_wp2_with fail
     refine (a1o g s a8 l 2 frm A c w0 _ HI.out).mono ?_
     rintro e w15 ⟨rfl, hi, hk⟩
     exact a7a
    | true =>
     have hs := HQ1.out
     rw [if_pos rfl] at hs
     obtain ⟨⟨v9, a9⟩, aU, hs_⟩ := oB hs
     clear hs
     have hs := hs_
     clear hs_
     obtain ⟨⟨t1, t2⟩, ht1, hs_⟩ := oB hs
     clear hs
     have hs := hs_
     clear hs_
     have HW9 := am aU; have HT1 := am ht1; replace HQ1 := am hs
     clear hs aU ht1
     go_wp2_with fail
     refine (b0o k g s a8 l v9 a9 A c w0 _ HI.out HW9.out).mono ?_
     rintro e w16 ⟨rfl, hi, hk⟩
     try dsimp only
     replace HI := am hi; replace HK := am (kY HK.out hk (.inl rfl))
     replace BN := am ((hk.2 _ (sO BN.out) (fun e => by have := HG.out; omega) (by simp)).trans BN.out)
     clear hi hk
     go_wp2_with fail
     refine (spec_l03Two.calls k v9 118 t1 t2 _ HT1.out).mono ?_
     rintro e w17 ⟨rfl, hd0⟩
     try dsimp only
     have hd := hd0.below
     replace HI := am (HI.out.below hd); replace HK := am (HK.out.below hd); replace BN := am (kI BN.out hd)
     clear hd hd0
     by_cases hx : t1 < 0
     ·have t3 : decide (t1 < 0) = true := decide_eq_true hx
      have hs := HQ1.out
      rw [if_pos hx] at hs
      clear hx
      simp only [Option.some.injEq, Prod.mk.injEq] at hs
      obtain ⟨rfl, rfl, hd1⟩ := hs
      clear hd1
      have hf := HH.out
      rw [if_neg (show ¬ (false = true) by decide)] at hf
      simp only [Option.some.injEq, Prod.mk.injEq] at hf
      obtain ⟨rfl, rfl, rfl, rfl, rfl⟩ := hf
      go_wp2_with fail
      refine (a1o g s a9 l 2 frm A c w0 _ HI.out).mono ?_
      rintro e w18 ⟨rfl, hi, hk⟩
      exact a7a
     have t3 : decide (t1 < 0) = false := decide_eq_false hx
     have hs := HQ1.out
     rw [if_neg hx] at hs
     simp only [Option.some.injEq, Prod.mk.injEq] at hs
     obtain ⟨rfl, rfl, rfl, rfl, rfl⟩ := hs
     clear hx
     have hz2 := kE BN.out 2
     obtain ⟨q0, q1, q2, q3, q4, q5⟩ := a2a BN.out
     have hz1 := kE BN.out 1
     have hz4 := kE BN.out 4
     go_wp2_with fail
     go_meet
     replace HI := am (HI.out.far (x := w3.heap.size) (j := 2) (by have := HG.out; omega) (fun k e => by have := HOL.out k e; have := HW3.out; omega) HB3.out (.int .i64 t1)); replace HK := am (HK.out.setCell (p := ⟨w3.heap.size, 2, none⟩) (.inr HW3.out) (.int .i64 t1))
     replace BN := am (show _ = some (Obj.cells #[.int .i64 op, .int .i64 W1, .int .i64 t1, .int .i64 0, .int .i64 0, .int .i64 0] 31 (0, 0)) from by simpa using qM BN.out 2 (.int .i64 t1))
     replace HI := am (HI.out.far (x := w3.heap.size) (j := 4) (by have := HG.out; omega) (fun k e => by have := HOL.out k e; have := HW3.out; omega) HB3.out (.int .i64 t2)); replace HK := am (HK.out.setCell (p := ⟨w3.heap.size, 4, none⟩) (.inr HW3.out) (.int .i64 t2))
     replace BN := am (show _ = some (Obj.cells #[.int .i64 op, .int .i64 W1, .int .i64 t1, .int .i64 0, .int .i64 t2, .int .i64 0] 31 (0, 0)) from by simpa using qM BN.out 4 (.int .i64 t2))
     replace HI := am (HI.out.far (x := w3.heap.size) (j := 1) (by have := HG.out; omega) (fun k e => by have := HOL.out k e; have := HW3.out; omega) HB3.out (.int .i64 1)); replace HK := am (HK.out.setCell (p := ⟨w3.heap.size, 1, none⟩) (.inr HW3.out) (.int .i64 1))
     replace BN := am (show _ = some (Obj.cells #[.int .i64 op, .int .i64 1, .int .i64 t1, .int .i64 0, .int .i64 t2, .int .i64 0] 31 (0, 0)) from by simpa using qM BN.out 1 (.int .i64 1))
     case rel => exact ⟨⟨rfl⟩, HI, HK, BN⟩
   | false =>
    have hs := HQ1.out
    rw [if_neg (show ¬ (false = true) by decide)] at hs
    simp only [Option.some.injEq, Prod.mk.injEq] at hs
    obtain ⟨rfl, rfl, rfl, rfl, rfl⟩ := hs
    clear HQ1
    go_wp2_with fail
    go_meet
    case rel => exact ⟨⟨rfl⟩, HI, HK, BN⟩
 obtain ⟨hqok, HI, HK, BN⟩ := hcut
 have hqok := hqok.out
 subst hqok
 have hs := HH.out
 try dsimp only at hs
 rw [if_pos rfl] at hs
 obtain ⟨⟨kok, acc, b7, b0, c10, b10⟩, hk1, hs_⟩ := oB hs
 clear hs
 have hs := hs_
 clear hs_
 try dsimp only at hk1 hs
 have HKI := am hk1; replace HH := am hs
 clear hs hk1 HQ1 HQB
 have HC := am (c6p HP.out)
 go_wp2_with (refine lE (Kd.int .i64) 3 89 ?_; intro aM w13 ho hb; have HX := am (sO BN.out); have HO := am (show Kd.R (Kd.int .i64) 3 w13 w0.heap.size (fun k => w3.heap.size < k) aM [] from Kd.R_lower (Kd.R_mono (Kd.R_bound ho) (fun k h => by have := HX.out; have := h.2.1; omega)) (kJ HI.out.2.2)); have HOW := am (show ∀ k, (Value.slice A l.length c).ownBlock = some k → (some k = (Value.slice A l.length c).ownBlock ∨ w.heap.size ≤ k) ∧ k ≠ w3.heap.size ∧ some k ≠ aM.ownBlock from fun k e => ⟨.inl e.symm, by have := HOL.out k e; have := HW3.out; omega, fun e2 => by have h1 := Kd.R_base ho k e2.symm; have h2 := Kd.R_lt HI.out.2.1 k e; omega⟩); replace HI := am (HI.out.below hb); replace HK := am (HK.out.below hb); replace BN := am (kI BN.out hb); clear ho hb HX)
 go_loopg [12, 13] cnt.toNat (fun gk u12 u13 w' => ∃ (i : Nat) (acc1 : List Int) (at1 : Int) (l1 : List (S31)) (A1 : Option Addr) (cc1 : Nat), u13 = .int .i64 (i : Int) ∧ Aside0 (gk + i = cnt.toNat ∧ acc1.length = i) ∧ Aside0 (a2w V s frm gk at1 l1 acc1 = some (kok, acc, b7, b0, c10, b10)) ∧ Aside0 (IsCu w0 w' g s at1 l1 0 0 A1 cc1) ∧ Aside0 (∀ k, (Value.slice A1 l1.length cc1).ownBlock = some k → (some k = (Value.slice A l.length c).ownBlock ∨ w.heap.size ≤ k) ∧ k ≠ w3.heap.size ∧ some k ≠ u12.ownBlock) ∧ Aside0 (Kept w w' (fun k => k = g)) ∧ Aside0 (l1.length ≤ 80) ∧ Aside0 (w'.heap[w3.heap.size]? = some (.cells #[.int .i64 op, .int .i64 W2, .int .i64 K2, .int .i64 0, .int .i64 B2, .int .i64 0] 31 (0, 0))) ∧ Aside0 (Kd.R (Kd.int .i64) 3 w' w0.heap.size (fun k => w3.heap.size < k) u12 acc1))
 case atStart => exact ⟨0, [], a7, l, A, c, rfl, ⟨by simp⟩, HKI, HI, HOW, HK, HL, BN, HO⟩
 obtain ⟨i, acc1, at1, l1, A1, cc1, rfl, HJ, HKI, HI, HOW, HK, HL1, BN, HO⟩ := hrel
 have HCN := am (show wrap64 ((i : Int) + 1) = ((i + 1 : Nat) : Int) by have := HC.out; have := HJ.out; unfold wrap64; omega)
 by_cases hi : (i : Int) < cnt
 ·have t1 : decide ((i : Int) < cnt) = true := decide_eq_true hi
  as_aux_lemma =>
   obtain ⟨gk2, rfl⟩ : ∃ gk2, gk = gk2 + 1 := ⟨gk - 1, by have := HJ.out; omega⟩
   have hs := HKI.out
   unfold a2w at hs
   obtain ⟨⟨b11, aK⟩, hb11, hs_⟩ := oB hs
   clear hs
   have hs := hs_
   clear hs_
   have HB11 := am hb11; replace HKI := am hs
   clear hs hb11 hi
   go_wp2_with fail
   refine (a8s g s at1 l1 b11 aK A1 cc1 w0 _ HI.out HB11.out).mono ?_
   rintro e w19 ⟨rfl, hi, hk⟩
   try dsimp only
   replace HI := am hi; replace HK := am (kY HK.out hk (.inl rfl))
   replace BN := am ((hk.2 _ (sO BN.out) (fun e => by have := HG.out; omega) (by simp)).trans BN.out)
   replace HO := am (Kd.R_keep HO.out hk (fun k h => by have := HG.out; omega))
   clear hi hk
   cases b11 with
   | false =>
    have hs := HKI.out
    rw [if_neg (show ¬ (false = true) by decide)] at hs
    simp only [Option.some.injEq, Prod.mk.injEq] at hs
    obtain ⟨rfl, rfl, rfl, rfl, rfl, rfl⟩ := hs
    have hf := HH.out
    rw [if_neg (show ¬ (false = true) by decide)] at hf
    simp only [Option.some.injEq, Prod.mk.injEq] at hf
    obtain ⟨rfl, rfl, rfl, rfl, rfl⟩ := hf
    go_wp2_with fail
    refine (a1o g s aK l1 2 frm A1 cc1 w0 _ HI.out).mono ?_
    rintro e w20 ⟨rfl, hi, hk⟩
    try dsimp only
    replace HI := am hi; replace HK := am (kY HK.out hk (.inl rfl))
    replace BN := am ((hk.2 _ (sO BN.out) (fun e => by have := HG.out; omega) (by simp)).trans BN.out)
    clear hi hk
    go_wp2_with fail
    go_ret
    exact ⟨rfl, ⟨A1, cc1, HI.out, fun k e => (HOW.out k e).1⟩, HK.out, HL1.out⟩
   | true =>
    have hs := HKI.out
    rw [if_pos rfl] at hs
    obtain ⟨⟨p1, aG, l2, c2, b2⟩, hv, hs_⟩ := oB hs
    clear hs
    have hs := hs_
    clear hs_
    try dsimp only at hs
    have HV1 := am hv; replace HKI := am hs
    clear hs hv
    obtain ⟨aE, aC, rfl⟩ := Kd.R_slice HO.out
    go_wp2_with fail
    refine (HV.out g aK l1 p1 aG l2 c2 b2 A1 cc1 w0 _ HI.out HL1.out HV1.out).mono ?_
    rintro e w21 ⟨rfl, ⟨A2, cc2, hi, hown⟩, hk, hl2⟩
    try dsimp only
    have HOW2 := am (show ∀ k, (Value.slice A2 l2.length cc2).ownBlock = some k → (some k = (Value.slice A l.length c).ownBlock ∨ w.heap.size ≤ k) ∧ k ≠ w3.heap.size ∧ some k ≠ (Value.slice aE acc1.length aC).ownBlock from fun k e => by
     rcases hown k e with h | h
     ·exact HOW.out k h.symm
     exact ⟨.inr (Nat.le_trans HK.out.1 h), by have := sO BN.out; omega, fun e2 => by have := Kd.R_lt HO.out k e2.symm; omega⟩)
    replace HO := am (Kd.R_kept HO.out hk (fun k h e => by have := HG.out; omega)); replace BN := am (zJ BN.out hk (fun e => by have := HG.out; omega)); replace HI := am hi; replace HK := am (HK.out.then_ hk (fun k h => .inl h)); replace HL1 := am hl2; replace HOW := HOW2
    clear hi hown hk hl2 HOW2
    obtain ⟨cb, hcb⟩ : ∃ cb, (c2 != 0) = cb := ⟨_, rfl⟩
    have HBL := am (show ∀ W, W = w21.alloc (.cells #[.int .i64 p1] 3) → Below w0.heap.size w0 W ∧ IsCu w0 W g s aG l2 c2 b2 A2 cc2 from fun W e => by subst e; exact ⟨by exact sW HI.out.2.2, HI.out.below (kS (Below.refl _ _) _)⟩)
    have hi1 : IsCu w0 (w21.alloc (.cells #[.int .i64 p1] 3)) g s aG l2 c2 b2 A2 cc2 := HI.out.below (kS (Below.refl _ _) _)
    have b9 := am hi1
    clear hi1 HBL
    have HOW2 := am (show ∀ k, (Value.slice A2 l2.length cc2).ownBlock = some k → some k ≠ (Value.slice aE acc1.length aC).ownBlock from fun k e => (HOW.out k e).2.2)
    go_upto_region 33 with ((with_reducible refine qG (b := .append) (xs := #[.tmp 101, .tmp 104]) rfl ?_); at_builtin; refine Kd.R_append (Kd.int .i64) (w0 := w0) w0.heap.size rfl (.tmp 101) (.tmp 104) 25 3 (.int .i64 0) 8 rfl Try.underlying25 b4a rfl (by decide) oM (.slice aE acc1.length aC) acc1 p1 [.int .i64 p1] (fun k => w3.heap.size < k) (fun _ => False) rfl rfl ?aP (fun _ hk => hk.elim) ?aF ?aO ?aB ?aS ?aL ?_; (case aP => exact rfl); (case aB => exact (by exact sW HI.out.2.2)); (case aF => exact (fun k hk => by have := sO BN.out; have h2 : w21.heap.size ≤ k := Nat.le_trans (by simp) hk; omega)); (case aO => exact (by exact sR <| HO.out)); (case aS => exact (kJ (by exact sW HI.out.2.2))); (case aL => have := HC.out; have := HJ.out; simp; omega); intro aZ w14 ho hb hg hat)
    (try simp only [Act.put, List.setIfInBounds_toArray, List.set_cons_zero, List.set_cons_succ])
    have hnx : some w3.heap.size ≠ (Value.slice aE acc1.length aC).ownBlock := fun e => by have := HO.out.1 _ e.symm; omega
    have hng : some g ≠ (Value.slice aE acc1.length aC).ownBlock := fun e => by have := HO.out.1 _ e.symm; have := HG.out; omega
    replace BN := am (tV (sB BN.out) hg hnx)
    replace HOW := am (show ∀ k, (Value.slice A2 l2.length cc2).ownBlock = some k → (some k = (Value.slice A l.length c).ownBlock ∨ w.heap.size ≤ k) ∧ k ≠ w3.heap.size ∧ some k ≠ aZ.ownBlock from fun k e => ⟨(HOW.out k e).1, (HOW.out k e).2.1, fun e2 => by
     rcases hat with h | ⟨b, h1, h2⟩
     ·exact HOW2.out k e (e2.trans h)
     have h3 := Kd.R_lt HI.out.2.1 k e
     have h4 := oI (e2.trans h1)
     have h5 := Nat.le_trans (by simp : w21.heap.size ≤ _) h2
     omega⟩)
    replace HK := am (tD (S := fun k => k = g) hg HK.out (fun k e => .inr (show w.heap.size ≤ k by have h9 : w3.heap.size < k := HO.out.1 _ e; have := HW3.out; omega)))
    replace HI := am (show IsCu w0 w14 g s aG l2 c2 b2 A2 cc2 by exact HI.out.grown hg hng (fun k e => (HOW2.out k e)) hb)
    replace HO := am ho
    clear ho hb hg hat hnx hng b9
    obtain ⟨g0, g1, g2, g3, hz, hg0, hgw⟩ := HI.out.cells
    clear g0 g1 g2 hz hg0 hgw
    cases cb with
    | true =>
     have hs := HKI.out
     have hc2 : c2 ≠ 0 := bne_iff_ne.mp hcb
     rw [if_neg hc2] at hs
     simp only [Option.some.injEq, Prod.mk.injEq] at hs
     obtain ⟨rfl, rfl, rfl, rfl, rfl, rfl⟩ := hs
     have hf := HH.out
     rw [if_neg (show ¬ (false = true) by decide)] at hf
     simp only [Option.some.injEq, Prod.mk.injEq] at hf
     obtain ⟨rfl, rfl, rfl, rfl, rfl⟩ := hf
     clear hc2
     go_wp2_with fail
     go_ret
     exact ⟨rfl, ⟨A2, cc2, HI.out, fun k e => (HOW.out k e).1⟩, HK.out, HL1.out⟩
    | false =>
     have hs := HKI.out
     have hc2 : c2 = 0 := bne_eq_false_iff_eq.mp hcb
     rw [if_pos hc2] at hs
     subst hc2
     by_cases hb2 : b2 = 0
     rotate_left
     ·rw [if_neg hb2] at hs; cases hs
     rw [if_pos hb2] at hs
     subst hb2
     replace HKI := am hs
     clear hs
     go_wp2_with fail
     go_roundg gk2
     case measure => omega
     case rel => exact ⟨i + 1, acc1 ++ [p1], aG, l2, A2, cc2, by rw [HCN.out], ⟨by have := HJ.out; simp; omega⟩, HKI, HI, HOW, HK, HL1, BN, HO⟩
 have t1 : decide ((i : Int) < cnt) = false := decide_eq_false hi
 have hgk : gk = 0 := by have := HJ.out; have := HC.out; omega
 subst hgk
 have hs := HKI.out
 unfold a2w at hs
 simp only [Option.some.injEq, Prod.mk.injEq] at hs
 obtain ⟨rfl, rfl, rfl, rfl, rfl, rfl⟩ := hs
 have hs := HH.out
 rw [if_pos rfl] at hs
 unfold a2c at hs
 obtain ⟨eb, heb, hs_⟩ := oB hs
 clear hs
 have hs := hs_
 clear hs_
 have HEB := am heb; replace HH := am hs
 clear hs heb HKI hi
 obtain ⟨g0, g1, g2, g3, hz, hg0, hgw⟩ := HI.out.cells
 clear g2 g3 hz hg0 hgw
 obtain ⟨aE, aC, rfl⟩ := Kd.R_slice HO.out
 have hs := HEB.out
 unfold c0j at hs
 cases eb with
 | false =>
  have hf := HH.out
  rw [if_neg (show ¬ (false = true) by decide)] at hf
  simp only [Option.some.injEq, Prod.mk.injEq] at hf
  obtain ⟨rfl, rfl, rfl, rfl, rfl⟩ := hf
  by_cases hge : at1 ≥ (s.size : Int)
  ·have t2 : decide ((s.size : Int) ≤ at1) = true := decide_eq_true hge
   clear hs hge
   exact c1n
  have t2 : decide ((s.size : Int) ≤ at1) = false := decide_eq_false hge
  rw [if_neg hge] at hs
  by_cases h0 : 0 ≤ at1
  rotate_left
  ·rw [if_neg h0] at hs; cases hs
  rw [if_pos h0] at hs
  have t3 := oI hs
  have t4 : (bt s at1 != 41) = true := by rw [bne, t3]; rfl
  have aJ := xG s at1
  have aQ := eq_true h0
  have aN := eq_true (show at1 < (s.size : Int) by omega)
  clear hs hge h0
  exact c1n
 | true =>
  have hf := HH.out
  rw [if_pos rfl] at hf
  by_cases hacc : 0 < acc1.length ∧ (1 < cnt → 1 < acc1.length) ∧ (2 < cnt → 2 < acc1.length)
  rotate_left
  ·rw [if_neg hacc] at hf; cases hf
  rw [if_pos hacc] at hf
  obtain ⟨wd, hwd, hf_⟩ := oB hf
  clear hf
  obtain ⟨⟨p2, l2, c2, b2⟩, hput, heq⟩ := Option.map_eq_some_iff.mp hf_
  clear hf_
  simp only [Prod.mk.injEq] at heq
  obtain ⟨rfl, rfl, rfl, rfl, rfl⟩ := heq
  have HAC := am hacc; have HWD := am hwd; have HPUT := am hput
  clear hacc hwd hput HH
  by_cases hge : at1 ≥ (s.size : Int)
  ·rw [if_pos hge] at hs; cases hs
  have t2 : decide ((s.size : Int) ≤ at1) = false := decide_eq_false hge
  rw [if_neg hge] at hs
  by_cases h0 : 0 ≤ at1
  rotate_left
  ·rw [if_neg h0] at hs; cases hs
  rw [if_pos h0] at hs
  have t3 := oI hs
  have t4 : (bt s at1 != 41) = false := by rw [bne, t3]; rfl
  have aJ := xG s at1
  have aQ := eq_true h0
  have aN := eq_true (show at1 < (s.size : Int) by omega)
  clear hs hge h0 t3 HEB
  go_wp2_with fail
  go_quiet (fail)
  replace HI := am (HI.out.below (kN (Below.refl _ _) nq)); replace HK := am (HK.out.drewN nq)
  replace BN := am (sG BN.out nq); replace HO := am (Kd.R_drewN HO.out nq)
  clear g0 g1 aJ aQ aN t4 t2
  generalize wr.drewN nq = wy at *
  obtain ⟨g0, g1, g2, g3, hz, hg0, hgw⟩ := HI.out.cells
  clear g0 g2 g3 hg0 hgw
  go_upto_region 38 with (fail)
  (try simp only [Act.put, List.setIfInBounds_toArray, List.set_cons_zero, List.set_cons_succ])
  replace HI := am (HI.out.setAt (wrap64 (at1 + 1))); replace HK := am (HK.out.setCell (p := ⟨g, 1, none⟩) (.inl rfl) (.int .i64 (wrap64 (at1 + 1))))
  replace BN := am (xH (p := ⟨g, 1, none⟩) BN.out (show w3.heap.size ≠ g by have := HG.out; omega) (.int .i64 (wrap64 (at1 + 1))))
  replace HO := am (Kd.R_far (p := ⟨g, 1, none⟩) HO.out (fun k h => show k ≠ g by have := HG.out; omega) (.int .i64 (wrap64 (at1 + 1))))
  clear g1 hz
  generalize wy.setCell ⟨g, 1, none⟩ (.int .i64 (wrap64 (at1 + 1))) = w30 at *
  have hac := HAC.out
  obtain ⟨b6, e0, aT⟩ := Kd.at_int (Kd.R_reads' HO.out).2.2 0 (by decide) (by have := HAC.out; omega)
  have px0 := eq_true (show (0 : Int) ≤ 0 by decide)
  have qx0 := eq_true (show (0 : Int) < (acc1.length : Int) by have := HAC.out; omega)
  rw [tn0, Addr.add_zero'] at aT
  have a_ : (0 < acc1.length) = True := eq_true (by have := HAC.out; omega)
  subst e0
  have hz3 := kE BN.out 3
  obtain ⟨q0, q1, q2, q3, q4, q5⟩ := a2a BN.out
  go_upto_if 149 with (fail)
  (try simp only [Act.put, List.setIfInBounds_toArray, List.set_cons_zero, List.set_cons_succ])
  replace HI := am (HI.out.far (x := w3.heap.size) (j := 3) (by have := HG.out; omega) (fun k e => (HOW.out k e).2.1) HB3.out (.int .i64 (rd acc1 0))); replace HK := am (HK.out.setCell (p := ⟨w3.heap.size, 3, none⟩) (.inr HW3.out) (.int .i64 (rd acc1 0)))
  replace BN := am (show _ = some (Obj.cells #[.int .i64 op, .int .i64 W2, .int .i64 K2, .int .i64 (rd acc1 0), .int .i64 B2, .int .i64 0] 31 (0, 0)) from by simpa using qM BN.out 3 (.int .i64 (rd acc1 0)))
  replace HO := am (Kd.R_far (p := ⟨w3.heap.size, 3, none⟩) HO.out (fun k h => show k ≠ w3.heap.size by omega) (.int .i64 (rd acc1 0)))
  clear aT px0 qx0 a_ hz3 hac q0 q1 q2 q3 q4 q5
  go_cut [] (fun wc => Aside0 (IsCu w0 wc g s (wrap64 (at1 + 1)) l1 0 0 A1 cc1) ∧ Aside0 (Kept w wc (fun k => k = g)) ∧ Aside0 (wc.heap[w3.heap.size]? = some (.cells #[.int .i64 op, .int .i64 W2, .int .i64 K2, .int .i64 (rd acc1 0), .int .i64 (if 1 < cnt then rd acc1 1 else B2), .int .i64 0] 31 (0, 0))) ∧ Aside0 (Kd.R (Kd.int .i64) 3 wc w0.heap.size (fun k => w3.heap.size < k) (.slice (some b6) acc1.length aC) acc1))
  case first =>
   as_aux_lemma =>
    by_cases hc : 1 < cnt
    ·have t2 : decide (1 < cnt) = true := decide_eq_true hc
     obtain ⟨a0, e1, aI⟩ := Kd.at_int (Kd.R_reads' HO.out).2.2 1 (by decide) (by have := HAC.out.2.1 hc; omega)
     obtain rfl := oI e1
     simp only [show ((1 : Int)).toNat = 1 from rfl, Nat.reduceMul, Nat.reduceEqDiff, Go.Addr.add, ↓reduceIte] at aI
     have qi : (1 < acc1.length) = True := eq_true (by have := HAC.out.2.1 hc; omega)
     have px := eq_true (show (0 : Int) ≤ 1 by decide)
     have qx := eq_true (show (1 : Int) < (acc1.length : Int) by have := HAC.out.2.1 hc; omega)
     have hz4 := kE BN.out 4
     obtain ⟨q0, q1, q2, q3, q4, q5⟩ := a2a BN.out
     go_wp2_with fail
     go_meet
     replace HI := am (HI.out.far (x := w3.heap.size) (j := 4) (by have := HG.out; omega) (fun k e => (HOW.out k e).2.1) HB3.out (.int .i64 (rd acc1 1))); replace HK := am (HK.out.setCell (p := ⟨w3.heap.size, 4, none⟩) (.inr HW3.out) (.int .i64 (rd acc1 1)))
     replace BN := am (show _ = some (Obj.cells #[.int .i64 op, .int .i64 W2, .int .i64 K2, .int .i64 (rd acc1 0), .int .i64 (rd acc1 1), .int .i64 0] 31 (0, 0)) from by simpa using qM BN.out 4 (.int .i64 (rd acc1 1)))
     replace HO := am (Kd.R_far (p := ⟨w3.heap.size, 4, none⟩) HO.out (fun k h => show k ≠ w3.heap.size by omega) (.int .i64 (rd acc1 1)))
     case rel => exact ⟨HI, HK, by rw [if_pos hc]; exact BN, HO⟩
    have t2 : decide (1 < cnt) = false := decide_eq_false hc
    go_wp2_with fail
    go_meet
    case rel => exact ⟨HI, HK, by rw [if_neg (show ¬ ((1 : Int) < cnt) by omega)]; exact BN, HO⟩
  obtain ⟨HI, HK, BN, HO⟩ := hcut
  go_upto_if 155 with (fail)
  (try simp only [Act.put, List.setIfInBounds_toArray, List.set_cons_zero, List.set_cons_succ])
  go_cut [] (fun wc => Aside0 (IsCu w0 wc g s (wrap64 (at1 + 1)) l1 0 0 A1 cc1) ∧ Aside0 (Kept w wc (fun k => k = g)) ∧ Aside0 (wc.heap[w3.heap.size]? = some (.cells #[.int .i64 op, .int .i64 W2, .int .i64 K2, .int .i64 (rd acc1 0), .int .i64 (if 1 < cnt then rd acc1 1 else B2), .int .i64 (if 2 < cnt then rd acc1 2 else 0)] 31 (0, 0))))
  case first =>
   as_aux_lemma =>
    by_cases hc : 2 < cnt
    ·have t2 : decide (2 < cnt) = true := decide_eq_true hc
     obtain ⟨b4, e2, b3⟩ := Kd.at_int (Kd.R_reads' HO.out).2.2 2 (by decide) (by have := HAC.out.2.2 hc; omega)
     obtain rfl := oI e2
     simp only [show ((2 : Int)).toNat = 2 from rfl, Nat.reduceMul, Nat.reduceEqDiff, Go.Addr.add, ↓reduceIte] at b3
     have qi : (2 < acc1.length) = True := eq_true (by have := HAC.out.2.2 hc; omega)
     have px := eq_true (show (0 : Int) ≤ 2 by decide)
     have qx := eq_true (show (2 : Int) < (acc1.length : Int) by have := HAC.out.2.2 hc; omega)
     have hz5 := kE BN.out 5
     obtain ⟨q0, q1, q2, q3, q4, q5⟩ := a2a BN.out
     go_wp2_with fail
     go_meet
     replace HI := am (HI.out.far (x := w3.heap.size) (j := 5) (by have := HG.out; omega) (fun k e => (HOW.out k e).2.1) HB3.out (.int .i64 (rd acc1 2))); replace HK := am (HK.out.setCell (p := ⟨w3.heap.size, 5, none⟩) (.inr HW3.out) (.int .i64 (rd acc1 2)))
     replace BN := am (show _ = some (Obj.cells #[.int .i64 op, .int .i64 W2, .int .i64 K2, .int .i64 (rd acc1 0), .int .i64 (if 1 < cnt then rd acc1 1 else B2), .int .i64 (rd acc1 2)] 31 (0, 0)) from by simpa using qM BN.out 5 (.int .i64 (rd acc1 2)))
     case rel => exact ⟨HI, HK, by rw [if_pos hc]; exact BN⟩
    have t2 : decide (2 < cnt) = false := decide_eq_false hc
    go_wp2_with fail
    go_meet
    case rel => exact ⟨HI, HK, by rw [if_neg (show ¬ ((2 : Int) < cnt) by omega)]; exact BN⟩
  obtain ⟨HI, HK, BN⟩ := hcut
  generalize hB3 : (if 1 < cnt then rd acc1 1 else B2) = B3 at *
  generalize hC3 : (if 2 < cnt then rd acc1 2 else 0) = C3 at *
  clear HAC HO hB3 hC3
  go_upto_block 2 with (fail)
  (try simp only [Act.put, List.setIfInBounds_toArray, List.set_cons_zero, List.set_cons_succ])
  go_cut [] (fun wc => Aside0 (IsCu w0 wc g s (wrap64 (at1 + 1)) l1 0 0 A1 cc1) ∧ Aside0 (Kept w wc (fun k => k = g)) ∧ Aside0 (wc.heap[w3.heap.size]? = some (.cells #[.int .i64 op, .int .i64 wd, .int .i64 K2, .int .i64 (rd acc1 0), .int .i64 B3, .int .i64 C3] 31 (0, 0))))
  case first =>
   have hw := HWD.out
   unfold c0g at hw
   as_aux_lemma =>
    by_cases h1 : op = 17 ∨ op = 19 ∨ op = 20
    ·rw [if_pos h1] at hw
     obtain rfl := oI hw
     clear hw HWD
     by_cases aA : op = 17
     ·have t2 : (op == 17) = true := beq_iff_eq.mpr aA
      clear h1 aA
      go_wp2_with fail
      go_meet
      case rel => exact ⟨HI, HK, BN⟩
     have t2 : (op == 17) = false := beq_eq_false_iff_ne.mpr aA
     go_wp2_with fail
     refine (spec_l02Quant.calls op true _ (by unfold rF; split <;> simp <;> omega)).mono ?_
     rintro e w24 ⟨rfl, hd0⟩
     try dsimp only
     have hd := hd0.below
     replace HI := am (HI.out.below hd); replace HK := am (HK.out.below hd); replace BN := am (kI BN.out hd)
     clear hd hd0
     go_wp2_with fail
     go_meet
     case rel => exact ⟨HI, HK, BN⟩
    rw [if_neg h1] at hw
    have t2 : (op == 17) = false := beq_eq_false_iff_ne.mpr (fun e => h1 (.inl e))
    go_wp2_with fail
    refine (spec_l02Quant.calls op false _ (by unfold rF; rw [if_neg oM]; simp; omega)).mono ?_
    rintro e w25 ⟨rfl, hd0⟩
    try dsimp only
    have hd := hd0.below
    replace HI := am (HI.out.below hd); replace HK := am (HK.out.below hd); replace BN := am (kI BN.out hd)
    clear hd hd0
    by_cases h2 : 13 ≤ op ∧ op ≤ 15
    ·rw [if_pos h2] at hw
     obtain rfl := oI hw
     clear hw HWD
     go_wp2_with fail
     refine (spec_l01In.calls op 13 15 true _ (by unfold pW; rw [if_pos h2.1]; simp; exact h2.2)).mono ?_
     rintro e w26 ⟨rfl, hd0⟩
     try dsimp only
     have hd := hd0.below
     replace HI := am (HI.out.below hd); replace HK := am (HK.out.below hd); replace BN := am (kI BN.out hd)
     clear hd hd0
     have hz1 := kE BN.out 1
     obtain ⟨q0, q1, q2, q3, q4, q5⟩ := a2a BN.out
     go_wp2_with fail
     go_meet
     replace HI := am (HI.out.far (x := w3.heap.size) (j := 1) (by have := HG.out; omega) (fun k e => (HOW.out k e).2.1) HB3.out (.int .i64 1)); replace HK := am (HK.out.setCell (p := ⟨w3.heap.size, 1, none⟩) (.inr HW3.out) (.int .i64 1))
     replace BN := am (show _ = some (Obj.cells #[.int .i64 op, .int .i64 1, .int .i64 K2, .int .i64 (rd acc1 0), .int .i64 B3, .int .i64 C3] 31 (0, 0)) from by simpa using qM BN.out 1 (.int .i64 1))
     case rel => exact ⟨HI, HK, BN⟩
    rw [if_neg h2] at hw
    go_wp2_with fail
    refine (spec_l01In.calls op 13 15 false _ (by unfold pW; split <;> simp <;> omega)).mono ?_
    rintro e w27 ⟨rfl, hd0⟩
    try dsimp only
    have hd := hd0.below
    replace HI := am (HI.out.below hd); replace HK := am (HK.out.below hd); replace BN := am (kI BN.out hd)
    clear hd hd0
    by_cases h3 : op = 16
    ·have t3 : (op == 16) = true := beq_iff_eq.mpr h3
     rw [if_pos h3] at hw
     by_cases h4 : 0 ≤ rd acc1 0 ∧ rd acc1 0 < (l1.length : Int) ∧ 0 ≤ B3 ∧ B3 < (l1.length : Int)
     rotate_left
     ·rw [if_neg h4] at hw; cases hw
     rw [if_pos h4] at hw
     obtain rfl := oI hw
     clear hw HWD
     obtain ⟨h5, h6, h7, h8⟩ := h4
     obtain ⟨g0, g1, g2, g3, hz, hg0, hgw⟩ := HI.out.cells
     clear g0 g1 g3 hz hg0 hgw
     have hz1 := kE BN.out 1
     obtain ⟨q0, q1, q2, q3, q4, q5⟩ := a2a BN.out
     obtain ⟨a0, ey, y0, y1, y2, y3, y4, y5⟩ := pL (Kd.R_reads' HI.out.2.1).2.2 (rd acc1 0) h5 h6
     have py := eq_true h5
     have qy := eq_true h6
     subst ey
     obtain ⟨b4, ex, x0, x1, x2, x3, x4, x5⟩ := pL (Kd.R_reads' HI.out.2.1).2.2 (B3) h7 h8
     have px := eq_true h7
     have qx := eq_true h8
     obtain rfl := oI ex
     clear h1 h2 h3 h5 h6 h7 h8
     go_wp2_with fail
     refine tM (n := 21) (S := fun w' => w'.cell? ⟨g, 2, none⟩ = some (.slice (some a0) l1.length cc1) ∧ w'.cell? ⟨w3.heap.size, 3, none⟩ = some (.int .i64 (rd acc1 0)) ∧ w'.cell? ⟨w3.heap.size, 4, none⟩ = some (.int .i64 B3) ∧ w'.cell? ⟨(a0.add ((rd acc1 0).toNat * 6)).block, (a0.add ((rd acc1 0).toNat * 6)).off + 1, none⟩ = some (.int .i64 (kA l1 (rd acc1 0)).f1) ∧ w'.cell? ⟨(a0.add ((B3).toNat * 6)).block, (a0.add ((B3).toNat * 6)).off + 1, none⟩ = some (.int .i64 (kA l1 (B3)).f1)) (ds := [20]) c8w (by kernel_rfl) rfl rfl ⟨g2, q3, q4, y1, x1⟩ (fun hHeld => ?_)
     refine pN (i := 0) (N := some 184) (v := ?_) (a' := ?_) c8r rfl rfl (by kernel_rfl) (fun _ _ _ h => h) (Or.inl ⟨by rfl, ?_⟩) ?_ ?_
     rotate_left
     ·intro w'
      go_simp
      with_reducible rfl
     rotate_left
     ·exact rU
     refine pN (i := 1) (N := some 185) (v := ?_) (a' := ?_) c8m rfl rfl (by kernel_rfl) (fun _ _ _ h => h) (Or.inl ⟨by rfl, ?_⟩) ?_ ?_
     rotate_left
     ·intro w'
      go_simp
      with_reducible rfl
     rotate_left
     ·exact rU
     refine pN (i := 2) (N := some 186) (v := ?_) (a' := ?_) c8h rfl rfl (by kernel_rfl) (fun _ _ _ h => h) (Or.inl ⟨by rfl, ?_⟩) ?_ ?_
     rotate_left
     ·intro w'
      go_simp
      with_reducible rfl
     rotate_left
     ·exact rU
     refine pN (i := 4) (N := some 188) (v := ?_) (a' := ?_) c8c rfl rfl (by kernel_rfl) (fun _ _ _ h => h) (Or.inl ⟨by rfl, ?_⟩) ?_ ?_
     rotate_left
     ·intro w'
      go_simp
      with_reducible rfl
     rotate_left
     ·exact rU
     refine pN (i := 9) (N := some 193) (v := ?_) (a' := ?_) c7x rfl rfl (by kernel_rfl) (fun _ _ _ h => h) (Or.inl ⟨by rfl, ?_⟩) ?_ ?_
     rotate_left
     ·intro w'
      go_simp
      with_reducible rfl
     rotate_left
     ·exact rU
     refine pN (i := 10) (N := some 194) (v := ?_) (a' := ?_) c7t rfl rfl (by kernel_rfl) (fun _ _ _ h => h) (Or.inl ⟨by rfl, ?_⟩) ?_ ?_
     rotate_left
     ·intro w'
      go_simp
      with_reducible rfl
     rotate_left
     ·exact rU
     refine pN (i := 11) (N := some 195) (v := ?_) (a' := ?_) c7o rfl rfl (by kernel_rfl) (fun _ _ _ h => h) (Or.inl ⟨by rfl, ?_⟩) ?_ ?_
     rotate_left
     ·intro w'
      go_simp
      with_reducible rfl
     rotate_left
     ·exact rU
     refine pN (i := 13) (N := some 197) (v := ?_) (a' := ?_) c7j rfl rfl (by kernel_rfl) (fun _ _ _ h => h) (Or.inl ⟨by rfl, ?_⟩) ?_ ?_
     rotate_left
     ·intro w'
      go_simp
      with_reducible rfl
     rotate_left
     ·exact rU
     refine qF (i := 3) (N := some 187) (v := ?_) (a' := ?_) c7f rfl rfl (by kernel_rfl) (fun _ _ _ h => h) (Or.inl ⟨by rfl, ?_⟩) hHeld ?_ ?_
     rotate_left
     ·rintro w' ⟨s0, s1, s2, s3, s4⟩
      go_simp
      with_reducible rfl
     rotate_left
     ·exact rU
     refine qF (i := 5) (N := some 189) (v := ?_) (a' := ?_) c3q rfl rfl (by kernel_rfl) (fun _ _ _ h => h) (Or.inl ⟨by rfl, ?_⟩) hHeld ?_ ?_
     rotate_left
     ·rintro w' ⟨s0, s1, s2, s3, s4⟩
      go_simp
      with_reducible rfl
     rotate_left
     ·exact rU
     refine pN (i := 6) (N := some 190) (v := ?_) (a' := ?_) c3m rfl rfl (by kernel_rfl) (fun _ _ _ h => h) (Or.inl ⟨by rfl, ?_⟩) ?_ ?_
     rotate_left
     ·intro w'
      go_simp
      with_reducible rfl
     rotate_left
     ·exact rU
     refine pN (i := 7) (N := some 191) (v := ?_) (a' := ?_) c3j rfl rfl (by kernel_rfl) (fun _ _ _ h => h) (Or.inl ⟨by rfl, ?_⟩) ?_ ?_
     rotate_left
     ·intro w'
      go_simp
      with_reducible rfl
     rotate_left
     ·exact rU
     refine qF (i := 8) (N := some 192) (v := ?_) (a' := ?_) c3h rfl rfl (by kernel_rfl) (fun _ _ _ h => h) (Or.inl ⟨by rfl, ?_⟩) hHeld ?_ ?_
     rotate_left
     ·rintro w' ⟨s0, s1, s2, s3, s4⟩
      go_simp
      with_reducible rfl
     rotate_left
     ·exact rU
     refine qF (i := 12) (N := some 196) (v := ?_) (a' := ?_) c3g rfl rfl (by kernel_rfl) (fun _ _ _ h => h) (Or.inl ⟨by rfl, ?_⟩) hHeld ?_ ?_
     rotate_left
     ·rintro w' ⟨s0, s1, s2, s3, s4⟩
      go_simp
      with_reducible rfl
     rotate_left
     ·exact rU
     refine qF (i := 14) (N := some 198) (v := ?_) (a' := ?_) c3f rfl rfl (by kernel_rfl) (fun _ _ _ h => h) (Or.inl ⟨by rfl, ?_⟩) hHeld ?_ ?_
     rotate_left
     ·rintro w' ⟨s0, s1, s2, s3, s4⟩
      go_simp
      with_reducible rfl
     rotate_left
     ·exact rU
     refine pN (i := 15) (N := some 199) (v := ?_) (a' := ?_) c3e rfl rfl (by kernel_rfl) (fun _ _ _ h => h) (Or.inl ⟨by rfl, ?_⟩) ?_ ?_
     rotate_left
     ·intro w'
      go_simp
      with_reducible rfl
     rotate_left
     ·exact rU
     refine pN (i := 16) (N := some 200) (v := ?_) (a' := ?_) c3d rfl rfl (by kernel_rfl) (fun _ _ _ h => h) (Or.inl ⟨by rfl, ?_⟩) ?_ ?_
     rotate_left
     ·intro w'
      go_simp
      with_reducible rfl
     rotate_left
     ·exact rU
     refine qF (i := 17) (N := some 201) (v := ?_) (a' := ?_) c3c rfl rfl (by kernel_rfl) (fun _ _ _ h => h) (Or.inl ⟨by rfl, ?_⟩) hHeld ?_ ?_
     rotate_left
     ·rintro w' ⟨s0, s1, s2, s3, s4⟩
      go_simp
      with_reducible rfl
     rotate_left
     ·exact rU
     refine pN (i := 18) (N := some 202) (v := ?_) (a' := ?_) c3b rfl rfl (by kernel_rfl) (fun _ _ _ h => h) (Or.inl ⟨by rfl, ?_⟩) ?_ ?_
     rotate_left
     ·intro w'
      go_simp
      with_reducible rfl
     rotate_left
     ·exact rU
     refine pN (i := 19) (N := some 203) (v := ?_) (a' := ?_) c3a rfl rfl (by kernel_rfl) (fun _ _ _ h => h) (Or.inl ⟨by rfl, ?_⟩) ?_ ?_
     rotate_left
     ·intro w'
      go_simp
      with_reducible rfl
     rotate_left
     ·exact rU
     refine b3x (i := 20) (N := none) c2z rfl rfl (by kernel_rfl) (by decide) (fun K hK => ?_)
     refine a3w (w1 := ?_) (by rfl) rfl ?_ ?_
     rotate_left
     ·go_simp
      rfl
     refine hK.out _ _ ?_
     clear hK K
     refine yK (by kernel_rfl) ?_
     go_wp2_with fail
     go_meet
     replace HI := am (HI.out.far (x := w3.heap.size) (j := 1) (by have := HG.out; omega) (fun k e => (HOW.out k e).2.1) HB3.out (.int .i64 (wrap64 ((kA l1 (rd acc1 0)).f1 + (kA l1 B3).f1)))); replace HK := am (HK.out.setCell (p := ⟨w3.heap.size, 1, none⟩) (.inr HW3.out) (.int .i64 (wrap64 ((kA l1 (rd acc1 0)).f1 + (kA l1 B3).f1))))
     replace BN := am (show _ = some (Obj.cells #[.int .i64 op, .int .i64 (wrap64 ((kA l1 (rd acc1 0)).f1 + (kA l1 B3).f1)), .int .i64 K2, .int .i64 (rd acc1 0), .int .i64 B3, .int .i64 C3] 31 (0, 0)) from by simpa using qM BN.out 1 (.int .i64 (wrap64 ((kA l1 (rd acc1 0)).f1 + (kA l1 B3).f1))))
     case rel => exact ⟨⟨(HI.out.below (kO (Below.refl _ _)))⟩, ⟨Kept.drew HK.out⟩, ⟨BN.out⟩⟩
    have t3 : (op == 16) = false := beq_eq_false_iff_ne.mpr h3
    rw [if_neg h3] at hw
    by_cases aD : op = 18
    ·have t4 : (op == 18) = true := beq_iff_eq.mpr aD
     rw [if_pos aD] at hw
     by_cases h4 : 0 ≤ B3 ∧ B3 < (l1.length : Int)
     rotate_left
     ·rw [if_neg h4] at hw; cases hw
     rw [if_pos h4] at hw
     obtain rfl := oI hw
     clear hw HWD
     obtain ⟨h5, h6⟩ := h4
     obtain ⟨g0, g1, g2, g3, hz, hg0, hgw⟩ := HI.out.cells
     clear g0 g1 g3 hz hg0 hgw
     have hz1 := kE BN.out 1
     obtain ⟨q0, q1, q2, q3, q4, q5⟩ := a2a BN.out
     obtain ⟨a0, ey, y0, y1, y2, y3, y4, y5⟩ := pL (Kd.R_reads' HI.out.2.1).2.2 (B3) h5 h6
     have py := eq_true h5
     have qy := eq_true h6
     subst ey
     clear h1 h2 h3 aD h5 h6
     go_wp2_with fail
     refine tM (n := 11) (S := fun w' => w'.cell? ⟨g, 2, none⟩ = some (.slice (some a0) l1.length cc1) ∧ w'.cell? ⟨w3.heap.size, 4, none⟩ = some (.int .i64 B3) ∧ w'.cell? ⟨(a0.add ((B3).toNat * 6)).block, (a0.add ((B3).toNat * 6)).off + 1, none⟩ = some (.int .i64 (kA l1 (B3)).f1)) (ds := [10]) b5p (by kernel_rfl) rfl rfl ⟨g2, q4, y1⟩ (fun hHeld => ?_)
     refine pN (i := 0) (N := some 207) (v := ?_) (a' := ?_) b5o rfl rfl (by kernel_rfl) (fun _ _ _ h => h) (Or.inl ⟨by rfl, ?_⟩) ?_ ?_
     rotate_left
     ·intro w'
      go_simp
      with_reducible rfl
     rotate_left
     ·exact rU
     refine pN (i := 1) (N := some 208) (v := ?_) (a' := ?_) b5n rfl rfl (by kernel_rfl) (fun _ _ _ h => h) (Or.inl ⟨by rfl, ?_⟩) ?_ ?_
     rotate_left
     ·intro w'
      go_simp
      with_reducible rfl
     rotate_left
     ·exact rU
     refine pN (i := 2) (N := some 209) (v := ?_) (a' := ?_) b5m rfl rfl (by kernel_rfl) (fun _ _ _ h => h) (Or.inl ⟨by rfl, ?_⟩) ?_ ?_
     rotate_left
     ·intro w'
      go_simp
      with_reducible rfl
     rotate_left
     ·exact rU
     refine pN (i := 4) (N := some 211) (v := ?_) (a' := ?_) b5l rfl rfl (by kernel_rfl) (fun _ _ _ h => h) (Or.inl ⟨by rfl, ?_⟩) ?_ ?_
     rotate_left
     ·intro w'
      go_simp
      with_reducible rfl
     rotate_left
     ·exact rU
     refine qF (i := 3) (N := some 210) (v := ?_) (a' := ?_) b5k rfl rfl (by kernel_rfl) (fun _ _ _ h => h) (Or.inl ⟨by rfl, ?_⟩) hHeld ?_ ?_
     rotate_left
     ·rintro w' ⟨s0, s1, s2⟩
      go_simp
      with_reducible rfl
     rotate_left
     ·exact rU
     refine qF (i := 5) (N := some 212) (v := ?_) (a' := ?_) b5j rfl rfl (by kernel_rfl) (fun _ _ _ h => h) (Or.inl ⟨by rfl, ?_⟩) hHeld ?_ ?_
     rotate_left
     ·rintro w' ⟨s0, s1, s2⟩
      go_simp
      with_reducible rfl
     rotate_left
     ·exact rU
     refine pN (i := 6) (N := some 213) (v := ?_) (a' := ?_) b5i rfl rfl (by kernel_rfl) (fun _ _ _ h => h) (Or.inl ⟨by rfl, ?_⟩) ?_ ?_
     rotate_left
     ·intro w'
      go_simp
      with_reducible rfl
     rotate_left
     ·exact rU
     refine pN (i := 7) (N := some 214) (v := ?_) (a' := ?_) b5g rfl rfl (by kernel_rfl) (fun _ _ _ h => h) (Or.inl ⟨by rfl, ?_⟩) ?_ ?_
     rotate_left
     ·intro w'
      go_simp
      with_reducible rfl
     rotate_left
     ·exact rU
     refine qF (i := 8) (N := some 215) (v := ?_) (a' := ?_) b5f rfl rfl (by kernel_rfl) (fun _ _ _ h => h) (Or.inl ⟨by rfl, ?_⟩) hHeld ?_ ?_
     rotate_left
     ·rintro w' ⟨s0, s1, s2⟩
      go_simp
      with_reducible rfl
     rotate_left
     ·exact rU
     refine pN (i := 9) (N := some 216) (v := ?_) (a' := ?_) b5e rfl rfl (by kernel_rfl) (fun _ _ _ h => h) (Or.inl ⟨by rfl, ?_⟩) ?_ ?_
     rotate_left
     ·intro w'
      go_simp
      with_reducible rfl
     rotate_left
     ·exact rU
     refine b3x (i := 10) (N := none) b5d rfl rfl (by kernel_rfl) (by decide) (fun K hK => ?_)
     refine a3w (w1 := ?_) (by rfl) rfl ?_ ?_
     rotate_left
     ·go_simp
      rfl
     refine hK.out _ _ ?_
     clear hK K
     refine yK (by kernel_rfl) ?_
     go_wp2_with fail
     go_meet
     replace HI := am (HI.out.far (x := w3.heap.size) (j := 1) (by have := HG.out; omega) (fun k e => (HOW.out k e).2.1) HB3.out (.int .i64 (kA l1 B3).f1)); replace HK := am (HK.out.setCell (p := ⟨w3.heap.size, 1, none⟩) (.inr HW3.out) (.int .i64 (kA l1 B3).f1))
     replace BN := am (show _ = some (Obj.cells #[.int .i64 op, .int .i64 (kA l1 B3).f1, .int .i64 K2, .int .i64 (rd acc1 0), .int .i64 B3, .int .i64 C3] 31 (0, 0)) from by simpa using qM BN.out 1 (.int .i64 (kA l1 B3).f1))
     case rel => exact ⟨⟨(HI.out.below (kO (Below.refl _ _)))⟩, ⟨Kept.drew HK.out⟩, ⟨BN.out⟩⟩
    have t4 : (op == 18) = false := beq_eq_false_iff_ne.mpr aD
    rw [if_neg aD] at hw
    by_cases h4 : 0 ≤ rd acc1 0 ∧ rd acc1 0 < (l1.length : Int)
    rotate_left
    ·rw [if_neg h4] at hw; cases hw
    rw [if_pos h4] at hw
    obtain rfl := oI hw
    clear hw HWD
    obtain ⟨h5, h6⟩ := h4
    obtain ⟨g0, g1, g2, g3, hz, hg0, hgw⟩ := HI.out.cells
    clear g0 g1 g3 hz hg0 hgw
    have hz1 := kE BN.out 1
    obtain ⟨q0, q1, q2, q3, q4, q5⟩ := a2a BN.out
    obtain ⟨a0, ey, y0, y1, y2, y3, y4, y5⟩ := pL (Kd.R_reads' HI.out.2.1).2.2 (rd acc1 0) h5 h6
    have py := eq_true h5
    have qy := eq_true h6
    subst ey
    clear h1 h2 h3 aD h5 h6
    go_wp2_with fail
    refine tM (n := 11) (S := fun w' => w'.cell? ⟨g, 2, none⟩ = some (.slice (some a0) l1.length cc1) ∧ w'.cell? ⟨w3.heap.size, 3, none⟩ = some (.int .i64 (rd acc1 0)) ∧ w'.cell? ⟨(a0.add ((rd acc1 0).toNat * 6)).block, (a0.add ((rd acc1 0).toNat * 6)).off + 1, none⟩ = some (.int .i64 (kA l1 (rd acc1 0)).f1)) (ds := [10]) b5p (by kernel_rfl) rfl rfl ⟨g2, q3, y1⟩ (fun hHeld => ?_)
    refine pN (i := 0) (N := some 160) (v := ?_) (a' := ?_) b5o rfl rfl (by kernel_rfl) (fun _ _ _ h => h) (Or.inl ⟨by rfl, ?_⟩) ?_ ?_
    rotate_left
    ·intro w'
     go_simp
     with_reducible rfl
    rotate_left
    ·exact rU
    refine pN (i := 1) (N := some 161) (v := ?_) (a' := ?_) b5n rfl rfl (by kernel_rfl) (fun _ _ _ h => h) (Or.inl ⟨by rfl, ?_⟩) ?_ ?_
    rotate_left
    ·intro w'
     go_simp
     with_reducible rfl
    rotate_left
    ·exact rU
    refine pN (i := 2) (N := some 162) (v := ?_) (a' := ?_) b5m rfl rfl (by kernel_rfl) (fun _ _ _ h => h) (Or.inl ⟨by rfl, ?_⟩) ?_ ?_
    rotate_left
    ·intro w'
     go_simp
     with_reducible rfl
    rotate_left
    ·exact rU
    refine pN (i := 4) (N := some 164) (v := ?_) (a' := ?_) b5l rfl rfl (by kernel_rfl) (fun _ _ _ h => h) (Or.inl ⟨by rfl, ?_⟩) ?_ ?_
    rotate_left
    ·intro w'
     go_simp
     with_reducible rfl
    rotate_left
    ·exact rU
    refine qF (i := 3) (N := some 163) (v := ?_) (a' := ?_) b5k rfl rfl (by kernel_rfl) (fun _ _ _ h => h) (Or.inl ⟨by rfl, ?_⟩) hHeld ?_ ?_
    rotate_left
    ·rintro w' ⟨s0, s1, s2⟩
     go_simp
     with_reducible rfl
    rotate_left
    ·exact rU
    refine qF (i := 5) (N := some 165) (v := ?_) (a' := ?_) b5j rfl rfl (by kernel_rfl) (fun _ _ _ h => h) (Or.inl ⟨by rfl, ?_⟩) hHeld ?_ ?_
    rotate_left
    ·rintro w' ⟨s0, s1, s2⟩
     go_simp
     with_reducible rfl
    rotate_left
    ·exact rU
    refine pN (i := 6) (N := some 166) (v := ?_) (a' := ?_) b5i rfl rfl (by kernel_rfl) (fun _ _ _ h => h) (Or.inl ⟨by rfl, ?_⟩) ?_ ?_
    rotate_left
    ·intro w'
     go_simp
     with_reducible rfl
    rotate_left
    ·exact rU
    refine pN (i := 7) (N := some 167) (v := ?_) (a' := ?_) b5g rfl rfl (by kernel_rfl) (fun _ _ _ h => h) (Or.inl ⟨by rfl, ?_⟩) ?_ ?_
    rotate_left
    ·intro w'
     go_simp
     with_reducible rfl
    rotate_left
    ·exact rU
    refine qF (i := 8) (N := some 168) (v := ?_) (a' := ?_) b5f rfl rfl (by kernel_rfl) (fun _ _ _ h => h) (Or.inl ⟨by rfl, ?_⟩) hHeld ?_ ?_
    rotate_left
    ·rintro w' ⟨s0, s1, s2⟩
     go_simp
     with_reducible rfl
    rotate_left
    ·exact rU
    refine pN (i := 9) (N := some 169) (v := ?_) (a' := ?_) b5e rfl rfl (by kernel_rfl) (fun _ _ _ h => h) (Or.inl ⟨by rfl, ?_⟩) ?_ ?_
    rotate_left
    ·intro w'
     go_simp
     with_reducible rfl
    rotate_left
    ·exact rU
    refine b3x (i := 10) (N := none) b5d rfl rfl (by kernel_rfl) (by decide) (fun K hK => ?_)
    refine a3w (w1 := ?_) (by rfl) rfl ?_ ?_
    rotate_left
    ·go_simp
     rfl
    refine hK.out _ _ ?_
    clear hK K
    refine yK (by kernel_rfl) ?_
    go_wp2_with fail
    go_meet
    replace HI := am (HI.out.far (x := w3.heap.size) (j := 1) (by have := HG.out; omega) (fun k e => (HOW.out k e).2.1) HB3.out (.int .i64 (kA l1 (rd acc1 0)).f1)); replace HK := am (HK.out.setCell (p := ⟨w3.heap.size, 1, none⟩) (.inr HW3.out) (.int .i64 (kA l1 (rd acc1 0)).f1))
    replace BN := am (show _ = some (Obj.cells #[.int .i64 op, .int .i64 (kA l1 (rd acc1 0)).f1, .int .i64 K2, .int .i64 (rd acc1 0), .int .i64 B3, .int .i64 C3] 31 (0, 0)) from by simpa using qM BN.out 1 (.int .i64 (kA l1 (rd acc1 0)).f1))
    case rel => exact ⟨⟨(HI.out.below (kO (Below.refl _ _)))⟩, ⟨Kept.drew HK.out⟩, ⟨BN.out⟩⟩
  obtain ⟨HI, HK, BN⟩ := hcut
  obtain ⟨q0, q1, q2, q3, q4, q5⟩ := a2a BN.out
  go_wp2_with fail
  refine (spec_l03Put.calls k g s (wrap64 (at1 + 1)) l1 op wd K2 (rd acc1 0) B3 C3 frm p2 l2 c2 b2 A1 cc1 w0 _ HI.out HL1.out HPUT.out).mono ?_
  rintro e wz ⟨rfl, ⟨A', c', hi, ho⟩, hk, hl2⟩
  try dsimp only
  have HZ := am hi; have HZO := am ho; have HZK := am hk; have HZL := am hl2
  clear hi ho hk hl2 q0 q1 q2 q3 q4 q5
  go_wp2_with fail
  go_ret
  exact ⟨rfl, ⟨A', c', HZ.out, fun k e => (HZO.out k e).elim (fun h => (HOW.out k h.symm).1) (fun h => .inr (Nat.le_trans HK.out.1 h))⟩, HK.out.then_ HZK.out (fun k h => .inl h), HZL.out⟩
variable {Ax : Option Addr} {cx : Nat}
def b2x (s : ByteArray) (a : Int) : Option Bool := if a < (s.size : Int) then (if 0 ≤ a then some (bt s a == 40) else none) else some false
def b2y (k : Nat) (s : ByteArray) (a : Int) (l : List (S31)) : Option (Int × Int × List (S31) × Int × Int) :=
 (cwF k s a l).bind fun w1 => (uR k w1.1 35).bind fun r => if r.1 ≥ 0 then (a6h k l ⟨0, r.1, r.2, 0, 0, 0⟩ a).map (fun q => (q.1, w1.2, q.2)) else (uR k w1.1 118).bind fun q => if q.1 ≥ 0 then (a6h k l ⟨1, q.2, q.1, 0, 0, 0⟩ a).map (fun q => (q.1, w1.2, q.2)) else some (0, w1.2, l, 2, a)
def creadR (k : Nat) (V : CdV) (s : ByteArray) : CdV := fun a l => (b2x s a).bind fun b => if b = true then a6i k V s l a else b2y k s a l
def creadF (s : ByteArray) : Nat → CdV
 | 0 => fun _ _ => none
 | n + 1 => creadR (n + 1) (creadF s n) s
theorem c1f {P : Prop} (h : P := by
 rintro e wz ⟨rfl, ⟨A', c', hi, ho⟩, hk, hl2⟩
 try dsimp only
 have HZ := am hi; have HZO := am ho; have HZK := am hk; have HZL := am hl2
 clear hi ho hk hl2
 go_wp2_with fail
 go_ret
 exact ⟨rfl, ⟨A', c', HZ.out, fun k e => (HZO.out k e).elim .inl (fun h => .inr (Nat.le_trans HK.out.1 h))⟩, HK.out.then_ HZK.out (fun k h => .inl h), HZL.out⟩) : P := h
set_option maxHeartbeats 4000000 in
set_option maxRecDepth 100000 in
theorem creadR.calls (k : Nat) (V : CdV) (s : ByteArray) (hV : a4g s V) : a4g s (creadR k V s) := by
 intro g a l p a' l' code' bad' A c w0 w hI hl h
 unfold creadR at h
 obtain ⟨ob, hob, h⟩ := oB h
 have HV := am hV; have HL := am hl; have HI := am hI; have HH := am h
 have HK := am (Kept.refl w (fun k => k = g))
 obtain ⟨g0, g1, g2, g3, hz, hg0, hgw⟩ := hI.cells
 clear hV hl hI h g2 g3 hz hg0 hgw
 unfold b2x at hob
 cases ob with
 | true =>
  by_cases h1 : a < (s.size : Int)
  rotate_left
  ·rw [if_neg h1] at hob; cases hob
  rw [if_pos h1] at hob
  by_cases h2 : 0 ≤ a
  ·rw [if_pos h2] at hob
   have t1 : decide (a < (s.size : Int)) = true := decide_eq_true h1
   have t2 : (bt s a == 40) = true := oI hob
   have a2 := xG s a
   have a4 := eq_true h2
   have a3 := eq_true h1
   clear hob h1 h2
   have hf := HH.out
   rw [if_pos rfl] at hf
   have HF := am hf
   clear hf HH
   go_enter Try.func62, Try.ntmps62
   go_wp2_with (go_at_call 97; refine (spec_l03Inner.calls k g V s HV.out a l a p a' l' code' bad' A c w0 w HI.out HL.out HF.out).mono ?_; rintro e w1 ⟨rfl, hc⟩; have HC := am hc; clear hc)
   go_ret
   exact ⟨rfl, HC.out⟩
  rw [if_neg h2] at hob; cases hob
 | false =>
  have hf := HH.out
  rw [if_neg (show ¬ (false = true) by decide)] at hf
  unfold b2y at hf
  obtain ⟨⟨v1, a1⟩, a5, hf⟩ := oB hf
  obtain ⟨⟨x1, y1⟩, hr1, hf⟩ := oB hf
  have HW := am a5; have HR := am hr1; have HF := am hf
  clear hf a5 hr1 HH
  by_cases h1 : a < (s.size : Int)
  rw [if_pos h1] at hob
  by_cases h2 : 0 ≤ a
  rotate_left
  ·rw [if_neg h2] at hob; cases hob
  rotate_left
  rw [if_pos h2] at hob
  have t1 : decide (a < (s.size : Int)) = true := decide_eq_true h1
  have t2 : (bt s a == 40) = false := oI hob
  have a2 := xG s a
  have a4 := eq_true h2
  have a3 := eq_true h1
  clear hob h1 h2
  go_enter Try.func62, Try.ntmps62
  go_wp2_with fail
  clear a2 a4 a3
  rotate_left
  have t1 : decide (a < (s.size : Int)) = false := decide_eq_false oM
  clear hob h1
  go_enter Try.func62, Try.ntmps62
  go_wp2_with fail
  all_goals
   refine (b0o k g s a l v1 a1 A c w0 _ HI.out HW.out).mono ?_
   rintro e w2 ⟨rfl, hi, hk⟩
   try dsimp only
   replace HI := am hi; replace HK := am (kY HK.out hk (.inl rfl))
   clear hi hk
   go_wp2_with fail
   refine (spec_l03Two.calls k v1 35 x1 y1 _ HR.out).mono ?_
   rintro e w2 ⟨rfl, hd⟩
   try dsimp only
   replace HI := am (HI.out.below hd.below); replace HK := am (HK.out.below hd.below)
   clear hd
   have hf := HF.out
   clear g0 g1
   by_cases hx : x1 ≥ 0
   ·have t3 : decide (0 ≤ x1) = true := decide_eq_true hx
    rw [if_pos hx] at hf
    obtain ⟨⟨q1, q2, q3, q4⟩, hput, heq⟩ := Option.map_eq_some_iff.mp hf
    simp only [Prod.mk.injEq] at heq
    obtain ⟨rfl, rfl, rfl, rfl, rfl⟩ := heq
    have HPUT := am hput
    clear hf hput
    go_wp2_with fail
    refine (spec_l03Put.calls k g s a1 l 0 x1 y1 0 0 0 a q1 q2 q3 q4 A c w0 _ HI.out HL.out HPUT.out).mono ?_
    exact c1f
   have t3 : decide (0 ≤ x1) = false := decide_eq_false hx
   rw [if_neg hx] at hf
   obtain ⟨⟨x2, y2⟩, hr2, hf_⟩ := oB hf
   clear hf
   have hf := hf_
   clear hf_
   have a6 := am hr2; replace HF := am hf
   clear hr2 hf
   go_wp2_with fail
   refine (spec_l03Two.calls k v1 118 x2 y2 _ a6.out).mono ?_
   rintro e w2 ⟨rfl, hd⟩
   try dsimp only
   replace HI := am (HI.out.below hd.below); replace HK := am (HK.out.below hd.below)
   clear hd
   have hf := HF.out
   try dsimp only at hf
   by_cases a0 : x2 ≥ 0
   ·have t4 : decide (0 ≤ x2) = true := decide_eq_true a0
    rw [if_pos a0] at hf
    obtain ⟨⟨q1, q2, q3, q4⟩, hput, heq⟩ := Option.map_eq_some_iff.mp hf
    simp only [Prod.mk.injEq] at heq
    obtain ⟨rfl, rfl, rfl, rfl, rfl⟩ := heq
    have HPUT := am hput
    clear hf hput
    go_wp2_with fail
    refine (spec_l03Put.calls k g s a1 l 1 y2 x2 0 0 0 a q1 q2 q3 q4 A c w0 _ HI.out HL.out HPUT.out).mono ?_
    exact c1f
   have t4 : decide (0 ≤ x2) = false := decide_eq_false a0
   rw [if_neg a0] at hf
   simp only [Option.some.injEq, Prod.mk.injEq] at hf
   obtain ⟨rfl, rfl, rfl, rfl, rfl⟩ := hf
   go_wp2_with fail
   refine (a1o g s a1 l 2 a A c w0 _ HI.out).mono ?_
   rintro e w4 ⟨rfl, hi, hk⟩
   try dsimp only
   replace HI := am hi; replace HK := am (kY HK.out hk (.inl rfl))
   clear hi hk
   go_wp2_with fail
   go_ret
   exact ⟨rfl, ⟨A, c, HI.out, fun k e => .inl e.symm⟩, HK.out, HL.out⟩
theorem creadF.calls (s : ByteArray) : ∀ n, a4g s (creadF s n)
 | 0 => by
  intro g a l p a' l' code' bad' A c w0 w hI hl h
  exact absurd h (by simp [creadF])
 | n + 1 => creadR.calls (n + 1) (creadF s n) s (creadF.calls s n)
end Go.Proofs.Ytkpipmojkhikaaa.PAll
