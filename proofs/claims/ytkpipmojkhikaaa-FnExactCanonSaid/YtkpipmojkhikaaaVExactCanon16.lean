/- Written by a program of this session over the loaded program, and by hand: Go functions as plain Lean functions, and that a call comes to what they say. -/
import Derived.Test.YtkpipmojkhikaaaVExactCanon0
import Derived.Test.YtkpipmojkhikaaaVExactCanon6
import Derived.Test.YtkpipmojkhikaaaVExactCanon13
import Derived.Test.YtkpipmojkhikaaaVExactCanon15
import Derived.Test.YtkpipmojkhikaaaBase
import Derived.Test.YtkpipmojkhikaaaSq
namespace Go.Proofs.Ytkpipmojkhikaaa.PAll
open Go.RowKit Go.Proofs.YtkpipmojkhikaaaW.PrintWords Go.Proofs.YtkpipmojkhikaaaW.PrintLast Go.Proofs.YtkpipmojkhikaaaW.PrintMore Go.Proofs.YtkpipmojkhikaaaW.Sq
attribute [local go_sem] max2_int min2_int max_two min_two max_three min_three max_four min_four   -- for this text's walks alone
set_option linter.unusedVariables false
set_option linter.unusedSimpArgs false

/-! ### spec_ReadTerm: by hand -/
variable {Ax : Option Addr} {cx : Nat}
/-- Where it reads a node and nothing follows, the root is the list's last one: else nothing is said. -/
def creadTermF (k : Nat) (s : ByteArray) : Option (List (S31) × Int × Int) :=
 if (s.size : Int) > 4000 then some ([], 1, 0) else (creadF s k 0 []).bind fun r => if r.2.2.2.1 = 0 then (if r.2.1 < (s.size : Int) then some ([], 5, r.2.1) else if wrap64 (r.1 + 1) = (r.2.2.1.length : Int) then some (r.2.2.1, 0, 0) else none) else some ([], r.2.2.2.1, r.2.2.2.2)
set_option maxHeartbeats 4000000 in
set_option maxRecDepth 100000 in
theorem spec_ReadTerm.calls (k : Nat) (s : ByteArray) (r1 : List (S31)) (r2 r3 : Int) (w : World) (h : creadTermF k s = some (r1, r2, r3)) :
  Calls Try.prog 33 #[.string s] w fun e w' => ∃ v0_ : Value, e = .returned (.tuple #[v0_, .int .i64 r2, .int .i64 r3]) ∧ Kd.R k31 31 w' w.heap.size (fun _ => True) v0_ r1 ∧ Below w.heap.size w w' := by
 unfold creadTermF at h
 have HH := am h
 clear h
 by_cases hs : (s.size : Int) > 4000
 ·have h := HH.out
  rw [if_pos hs] at h
  simp only [Option.some.injEq, Prod.mk.injEq] at h
  obtain ⟨rfl, rfl, rfl⟩ := h
  have t1 : decide (4000 < (s.size : Int)) = true := decide_eq_true hs
  clear hs HH
  go_enter Try.func33, Try.ntmps33
  go_wp2_with ((with_reducible refine gate_dst (N := 8) rfl ?_); refine Kd.R_lit k31 _ 31 ?hg (N := 8) ?hd (xs := ([] : List (S31))) (inner := []) (ok := fun _ => True) (okp := fun _ => True) ?hr ?hp (fun _ hk => hk) trivial (Below.refl _ _) (Nat.le_refl _) (by simp) ?_; (case hd => rfl); (case hg => rfl); (case hr => (go_simp; done)); (case hp => exact (Reps.none _ _)); intro v8 w8 ho hb hg_ hnew_; clear hg_ hnew_; have HN := am ho; have HB := am hb; clear ho hb)
  refine bodyPost_ret (results_list (rs := [.tmp 2, .tmp 3, .tmp 4]) rfl (by simp) (.tmp (.tmp (.tmp .nil)))) rfl ?_
  exact ⟨_, rfl, HN.out, HB.out⟩
 ·have h := HH.out
  rw [if_neg hs] at h
  obtain ⟨⟨p, a1, l1, c1, b1⟩, hn, h_⟩ := oB h
  clear h
  have HRD := am hn; replace HH := am h_
  have t1 : decide (4000 < (s.size : Int)) = false := decide_eq_false (by omega)
  clear hn h_ hs
  go_enter Try.func33, Try.ntmps33
  go_wp2_with ((with_reducible refine gate_dst (N := 8) rfl ?_); refine Kd.R_lit k31 _ 31 ?hg (N := 8) ?hd (xs := ([] : List (S31))) (inner := []) (ok := fun _ => True) (okp := fun _ => True) ?hr ?hp (fun _ hk => hk) trivial (Below.refl _ _) (Nat.le_refl _) (by simp) ?_; (case hd => rfl); (case hg => rfl); (case hr => (go_simp; done)); (case hp => exact (Reps.none _ _)); intro v8 w8 ho hb hg_ hnew_; clear hg_ hnew_; have HN := am ho; have HB := am hb; clear ho hb)
  have hI : IsCu w (w8.alloc (Obj.cells #[.string s, .int .i64 0, .slice none 0 0, .int .i64 0, .int .i64 0] 88)) w8.heap.size s 0 [] 0 0 none 0 := ⟨⟨none, 0, heap_alloc_new w8 _, HB.out.size, rfl, rfl⟩, Kd.R_nil .., by exact sW HB.out⟩
  refine (creadF.calls s k w8.heap.size 0 [] p a1 l1 c1 b1 none 0 w _ hI (by simp) HRD.out).mono ?_
  rintro e w2 ⟨rfl, ⟨A2, c2, hi, _⟩, hk, _⟩
  try dsimp only
  have HI := am hi
  have HN2 := am (show Kd.R k31 31 w2 w.heap.size (fun k => k ≠ w8.heap.size) v8 [] from Kd.R_mono (Kd.R_kept (Kd.R_below (Kd.R_mono (Kd.R_bound HN.out) (fun k h => (show k ≠ w8.heap.size by have := h.2.2.1; omega))) (below_alloc (Below.refl w8.heap.size w8) _)) hk (fun k h e => h e)) (fun k h => h))
  clear hi hk hI HN
  obtain ⟨g0, g1, g2, g3, hz, hg0, hgw⟩ := HI.out.cells
  have g4 : w2.cell? ⟨w8.heap.size, 4, none⟩ = some (.int .i64 b1) := by
   obtain ⟨A3, c3, hb, _, _⟩ := HI.out.1
   exact (blk_cell hb 4).trans rfl
  clear hz hg0 hgw g0
  by_cases hc : c1 = 0
  ·subst hc
   have hf := HH.out
   rw [if_pos rfl] at hf
   by_cases ha : a1 < (s.size : Int)
   ·have t2 : decide (a1 < (s.size : Int)) = true := decide_eq_true ha
    rw [if_pos ha] at hf
    simp only [Option.some.injEq, Prod.mk.injEq] at hf
    obtain ⟨rfl, rfl, rfl⟩ := hf
    clear ha
    go_wp2_with fail
    refine (spec_l03Fail.calls w8.heap.size s a1 l1 0 b1 5 a1 0 s a1 5 a1 w w2 HI.out.1 HI.out.2.2 rfl).mono ?_
    rintro e w3 ⟨rfl, hi, hb, hk⟩
    try dsimp only
    replace HI := am (HI.out.keep hi hb hk); replace HN2 := am (Kd.R_keep HN2.out hk (fun _ h => h))
    clear hi hb hk g1 g2 g3 g4
    obtain ⟨g0, g1, g2, g3, hz, hg0, hgw⟩ := HI.out.cells
    have g4 : w3.cell? ⟨w8.heap.size, 4, none⟩ = some (.int .i64 a1) := by
     obtain ⟨A3, c3, hb, _, _⟩ := HI.out.1
     exact (blk_cell hb 4).trans rfl
    go_wp2_with fail
    go_quiet (fail)
    go_wp2_with fail
    refine bodyPost_ret (results_list (rs := [.tmp 2, .tmp 3, .tmp 4]) rfl (by simp) (.tmp (.tmp (.tmp .nil)))) rfl ?_
    exact ⟨_, rfl, sR (Kd.R_mono HN2.out (fun _ _ => trivial)), sW HI.out.2.2⟩
   ·have t2 : decide (a1 < (s.size : Int)) = false := decide_eq_false ha
    rw [if_neg ha] at hf
    by_cases he : wrap64 (p + 1) = (l1.length : Int)
    ·rw [if_pos he] at hf
     simp only [Option.some.injEq, Prod.mk.injEq] at hf
     obtain ⟨rfl, rfl, rfl⟩ := hf
     have q1 := eq_true (show (0 : Int) ≤ (l1.length : Int) by omega)
     have q2 := eq_true (show (l1.length : Int) ≤ (c2 : Int) by have := (Kd.R_reads' HI.out.2.1).2.1; omega)
     clear ha
     go_wp2_with fail
     refine bodyPost_ret (results_list (rs := [.tmp 2, .tmp 3, .tmp 4]) rfl (by simp) (.tmp (.tmp (.tmp .nil)))) rfl ?_
     exact ⟨_, rfl, Kd.R_mono HI.out.2.1 (fun _ _ => trivial), HI.out.2.2⟩
    ·rw [if_neg he] at hf; cases hf
  ·have hf := HH.out
   rw [if_neg hc] at hf
   simp only [Option.some.injEq, Prod.mk.injEq] at hf
   obtain ⟨rfl, rfl, rfl⟩ := hf
   have t2 : (c1 == 0) = false := beq_eq_false_iff_ne.mpr hc
   have t3 : (c1 != 0) = true := bne_iff_ne.mpr hc
   clear hc
   go_wp2_with fail
   go_quiet (fail)
   go_wp2_with fail
   refine bodyPost_ret (results_list (rs := [.tmp 2, .tmp 3, .tmp 4]) rfl (by simp) (.tmp (.tmp (.tmp .nil)))) rfl ?_
   exact ⟨_, rfl, sR (Kd.R_mono HN2.out (fun _ _ => trivial)), sW HI.out.2.2⟩
/-! ### spec_Canon: by hand -/
variable {Ax : Option Addr} {cx : Nat}
def spec_Canon.f (k : Nat) (l0 : List (S31)) : Option (List (S31)) :=
 (spec_ShowTerm.f k l0).bind fun t => if t.2 = true then (creadTermF k t.1).bind fun r => some r.1 else some []
set_option maxHeartbeats 4000000 in
set_option maxRecDepth 100000 in
theorem spec_Canon.calls (k : Nat) (A0 : Option Addr) (c0 : Nat) (l0 : List (S31)) (r : List (S31)) (w : World) (hr0 : Kd.C k31 w A0 l0.length l0) (hc0 : l0.length ≤ c0) (h : spec_Canon.f k l0 = some r) :
  Calls Try.prog 27 #[.slice A0 l0.length c0] w fun e w' => ∃ v0_ : Value, e = .returned (v0_) ∧ Kd.R k31 31 w' w.heap.size (fun _ => True) v0_ r ∧ Below w.heap.size w w' := by
 unfold spec_Canon.f at h
 obtain ⟨⟨s, ok⟩, hs, h⟩ := oB h
 have HR0 := am hr0; have HC0 := am hc0; have HS := am hs; have HF := am h
 clear hr0 hc0 hs h
 go_enter Try.func27, Try.ntmps27
 go_wp2_with fail
 refine (spec_ShowTerm.calls k A0 c0 l0 s ok w HR0.out HC0.out HS.out).mono ?_
 rintro e w1 ⟨rfl, hb⟩
 have HB := am hb
 clear hb
 cases ok with
 | false =>
  have hf := HF.out
  rw [if_neg (show ¬ (false = true) by decide)] at hf
  obtain rfl := oI hf
  go_wp2_with ((with_reducible refine gate_dst (N := 15) rfl ?_); refine Kd.R_lit k31 _ 31 ?hg (N := 15) ?hd (xs := ([] : List (S31))) (inner := []) (ok := fun _ => True) (okp := fun _ => True) ?hr ?hp (fun _ hk => hk) trivial (Below.refl _ _) (Nat.le_refl _) (by simp) ?_; (case hd => rfl); (case hg => rfl); (case hr => (go_simp; done)); (case hp => exact (Reps.none _ _)); intro v8 w8 ho hb hg_ hnew_; clear hg_ hnew_; have HO := am (Kd.R_lower ho HB.out.size); replace HB := am (HB.out.trans (hb.mono HB.out.size)); clear ho hb)
  go_ret
  exact ⟨_, rfl, HO.out, HB.out⟩
 | true =>
  have hf := HF.out
  rw [if_pos rfl] at hf
  obtain ⟨⟨r1, r2, r3⟩, hr, hf⟩ := oB hf
  obtain rfl := oI hf
  have HR := am hr
  clear hr hf
  go_wp2_with fail
  refine (spec_ReadTerm.calls k s r1 r2 r3 _ HR.out).mono ?_
  rintro e w2 ⟨v0, rfl, hR, hb⟩
  have HO := am (Kd.R_lower hR HB.out.size); have HB := am (HB.out.trans (hb.mono HB.out.size))
  clear hR hb
  go_wp2_with fail
  go_ret
  exact ⟨_, rfl, HO.out, HB.out⟩
end Go.Proofs.Ytkpipmojkhikaaa.PAll
