/- Written by a program of this session over the loaded program, and by hand: Go functions as plain Lean functions, and that a call comes to what they say. -/
import Derived.Test.YtkpipmojkhikaaaVDenied0
import Derived.Test.YtkpipmojkhikaaaVDenied9
import Derived.Test.YtkpipmojkhikaaaVDenied10
import Derived.Test.YtkpipmojkhikaaaVDenied12
import Derived.Test.YtkpipmojkhikaaaBase
import Derived.Test.YtkpipmojkhikaaaSq
namespace Go.Proofs.Ytkpipmojkhikaaa.PAll
open Go.RowKit Go.Proofs.YtkpipmojkhikaaaW.PrintWords Go.Proofs.YtkpipmojkhikaaaW.PrintLast Go.Proofs.YtkpipmojkhikaaaW.PrintMore Go.Proofs.YtkpipmojkhikaaaW.Sq
attribute [local go_sem] qZ qX sT sS qC qB qY qW
set_option linter.unusedVariables false
set_option maxHeartbeats 8000000
set_option maxRecDepth 100000
set_option linter.unusedSimpArgs false
@[reducible] def c6l : Array Bool := #[false, false, false, false, false, false, false, false]
@[reducible] def c6h : Array Bool := #[true, false, false, false, false, false, false, false]
@[reducible] def c6d : Array Bool := #[true, true, false, false, false, false, false, false]
@[reducible] def c5z : Array Bool := #[true, true, false, true, false, false, false, false]
@[reducible] def c5v : Array Bool := #[true, true, false, true, false, false, true, false]
@[reducible] def c5r : Array Bool := #[true, true, true, true, false, false, true, false]
@[reducible] def c5n : Array Bool := #[true, true, true, true, true, false, true, false]
@[reducible] def c5j : Array Bool := #[true, true, true, true, true, true, true, false]
@[reducible] def c5d : Array Bool := #[true, true, true, true, true, true, true, true]
def a3i (g : Nat) (A0 : Option Addr) (c0 : Nat) (l0 : List (S31)) (V : List Int → Int → List Int → Option (Int × List Int)) : Prop :=
 ∀ (hk ck base : Nat) (env : List Int) (i : Int) (known : List Int) (r : Int) (known' : List Int) (w : World), w.heap[g]? = some (.cells (zB A0 l0.length c0 env) 65 (0, 0)) → env.length = 8 → g ≠ hk → (∀ W_, Kept w W_ (fun k => k = g ∨ k = hk) → Kd.C k31 W_ A0 l0.length l0) → known.length = l0.length →
  Kd.R (Kd.int .i64) 3 w base (fun k => k = hk) (.slice (some ⟨hk, 0, none⟩) l0.length ck) known → V env i known = some (r, known') →
  Calls Try.prog 47 #[.pointer (some ⟨g, 0, none⟩), .int .i64 i, .slice (some ⟨hk, 0, none⟩) l0.length ck] w fun e w' => e = .returned (.int .i64 r) ∧ Kd.R (Kd.int .i64) 3 w' base (fun k => k = hk) (.slice (some ⟨hk, 0, none⟩) l0.length ck) known' ∧ known'.length = l0.length ∧ Kept w w' (fun k => k = hk) ∧ Below 0 w w'
theorem a9l {w : World} {g T : Nat} {a b c d e f : Int} (h : w.heap[g]? = some (.cells #[.int .i64 a, .int .i64 b, .int .i64 c, .int .i64 d, .int .i64 e, .int .i64 f] T (0, 0))) :
  (w.cell? ⟨g, 0, none⟩ = some (.int .i64 a) ∧ w.cell? ⟨g, 1, none⟩ = some (.int .i64 b) ∧ w.cell? ⟨g, 2, none⟩ = some (.int .i64 c) ∧ w.cell? ⟨g, 3, none⟩ = some (.int .i64 d) ∧ w.cell? ⟨g, 4, none⟩ = some (.int .i64 e) ∧ w.cell? ⟨g, 5, none⟩ = some (.int .i64 f)) :=
 ⟨(kG h 0).trans rfl, (kG h 1).trans rfl, (kG h 2).trans rfl, (kG h 3).trans rfl, (kG h 4).trans rfl, (kG h 5).trans rfl⟩
theorem a6m {w w' : World} {g j T : Nat} {cs cs' : Array Value} (hw : w.heap[g]? = some (.cells cs T (0, 0))) (hk : Kept w w' (fun k => k = g)) (h0 : Below 0 w w') (hb : w'.heap[g]? = some (.cells cs' T (0, 0))) (u : Value) (e : cs'.setIfInBounds j u = cs) : Below w.heap.size w (w'.setCell ⟨g, j, none⟩ u) := by
 have h1 : Below 0 w (w'.setCell ⟨g, j, none⟩ u) := h0.setCell (Nat.zero_le _) u
 refine ⟨h1.os, h1.tape, h1.output, h1.size, fun k hlt => ?_⟩
 by_cases hg : k = g
 ·subst hg
  rw [zK hb j u, e, hw]
 ·rw [Below.heap_setCell w' ⟨g, j, none⟩ u k hg, hk.2 k hlt hg]
theorem a7j (env : List Int) (Kq : Int) (h0 : 0 ≤ Kq) (h : Kq < (env.length : Int)) : env.set Kq.toNat (rd env Kq) = env := by
 have hl : Kq.toNat < env.length := by omega
 refine List.ext_getElem (by simp) (fun i h1 h2 => ?_)
 rw [List.getElem_set]
 split
 ·subst_vars; simp [rd, hl, List.getD_eq_getElem?_getD]
 ·rfl
theorem b4f (B : Int) (h0 : 0 ≤ B) (h8 : B ≤ 8) : wrap64 (2 ^ min (IntKind.u64.wrap B).toNat 64) = ((2 ^ B.toNat : Nat) : Int) := by
 have h : B = 0 ∨ B = 1 ∨ B = 2 ∨ B = 3 ∨ B = 4 ∨ B = 5 ∨ B = 6 ∨ B = 7 ∨ B = 8 := by omega
 have hw : IntKind.u64.wrap B = B := by
  rw [show IntKind.u64.wrap B = B % 18446744073709551616 by simp [IntKind.wrap, IntKind.bits, IntKind.signed]]; omega
 rw [hw]
 rcases h with rfl | rfl | rfl | rfl | rfl | rfl | rfl | rfl | rfl <;> simp [wrap64]
theorem b1n (B : Int) (h8 : B ≤ 8) : 2 ^ B.toNat ≤ 256 := (Nat.pow_le_pow_right (by decide) (show B.toNat ≤ 8 by omega) : 2 ^ B.toNat ≤ 2 ^ 8)
def a8i (V : List Int → Int → List Int → Option (Int × List Int)) (n : Nat) (env : List Int) (Kq : Nat) (A out : Int) : Nat → Int → Option Int
 | 0, _ => some out
 | m + 1, x => (V (env.set Kq x) A (List.replicate n (-1))).bind fun r => if r.1 = out then a8i V n env Kq A out m (x + 1) else some (1 - out)
def impl_quantR (V : List Int → Int → List Int → Option (Int × List Int)) (n : Nat) (env : List Int) (op Kq A B : Int) : Option Int :=
 if 0 ≤ Kq ∧ Kq < 8 ∧ 0 ≤ B ∧ B ≤ 8 then a8i V n env Kq.toNat A (if op = 19 then 1 else 0) (2 ^ B.toNat) 0 else none
theorem b3k {P : Prop} (h : P := by
 simp only [Act.put, List.setIfInBounds_toArray, List.set_cons_zero, List.set_cons_succ, vY, a5f]
 rfl) : P := h
set_option maxHeartbeats 4000000 in
theorem impl_quantR.calls (g : Nat) (A0 : Option Addr) (c0 : Nat) (l0 : List (S31)) (V : List Int → Int → List Int → Option (Int × List Int)) (hV : a3i g A0 c0 l0 V) (env : List Int) (op W Kq A B C r : Int) (w : World) (hb : w.heap[g]? = some (.cells (zB A0 l0.length c0 env) 65 (0, 0))) (he : env.length = 8) (hl : 1 ≤ l0.length) (hm : l0.length ≤ 1048576)
  (hr0 : ∀ W_, Kept w W_ (fun k => k = g) → Kd.C k31 W_ A0 l0.length l0) (h : impl_quantR V l0.length env op Kq A B = some r) :
  Calls Try.prog 78 #[.pointer (some ⟨g, 0, none⟩), .agg #[.int .i64 op, .int .i64 W, .int .i64 Kq, .int .i64 A, .int .i64 B, .int .i64 C]] w fun e w' => e = .returned (.int .i64 r) ∧ Below w.heap.size w w' := by
 unfold impl_quantR at h
 by_cases hc : 0 ≤ Kq ∧ Kq < 8 ∧ 0 ≤ B ∧ B ≤ 8
 rotate_left
 ·rw [if_neg hc] at h
  exact absurd h (by simp)
 rw [if_pos hc] at h
 obtain ⟨k0, k8, b0, b8⟩ := hc
 unfold a3i at hV
 have HH := am h; have HV := am hV; have HE := am he; have HL := am hl; have HM := am hm; have a5 := am hr0; have B8 := am (And.intro b0 b8)
 clear h hV hl hm hr0 b0 b8
 have t1 : decide (0 ≤ Kq) = true := decide_eq_true k0
 have t2 : decide (Kq < 8) = true := decide_eq_true k8
 have BG := am hb; have BG0 := am hb
 have K8 := am (And.intro k0 k8)
 clear hb k0 k8 he
 go_enter Try.func78, Try.ntmps78
 go_wp2_with fail
 have BN := am (heap_alloc_new w (Obj.cells #[Value.int .i64 op, Value.int .i64 W, Value.int .i64 Kq, Value.int .i64 A, Value.int .i64 B, Value.int .i64 C] 31))
 have BG1 := am (pD BG.out (Obj.cells #[Value.int .i64 op, Value.int .i64 W, Value.int .i64 Kq, Value.int .i64 A, Value.int .i64 B, Value.int .i64 C] 31))
 obtain ⟨q0, q1, q2, q3, q4, q5⟩ := a9l BN.out
 have x1 := (kG BG1.out (Kq.toNat + 1)).trans (a1z _ _ _ _ Kq.toNat (by rw [HE.out]; have := K8.out; omega))
 rw [Int.toNat_of_nonneg K8.out.1, Nat.add_comm Kq.toNat 1] at x1
 have kk := K8.out
 go_region
 clear q0 q1 q2 q3 q4 q5 x1 kk
 have HB := am (show Below w.heap.size w (w.alloc (Obj.cells #[Value.int .i64 op, Value.int .i64 W, Value.int .i64 Kq, Value.int .i64 A, Value.int .i64 B, Value.int .i64 C] 31)).drew from wL (kR (Below.refl _ _) _))
 have BG := am (pB BG1.out); have BN := am (pB BN.out)
 clear BG1
 generalize (w.alloc (Obj.cells #[Value.int .i64 op, Value.int .i64 W, Value.int .i64 Kq, Value.int .i64 A, Value.int .i64 B, Value.int .i64 C] 31)).drew = w1 at *
 obtain ⟨q0, q1, q2, q3, q4, q5⟩ := a9l BN.out
 obtain ⟨out, hout⟩ : ∃ out : Int, (if op = 19 then 1 else 0) = out := ⟨_, rfl⟩
 rw [hout] at HH
 have a1 : out = 0 ∨ out = 1 := by rw [← hout]; split <;> simp
 have hbt : uV (op == 19) = some out := by unfold uV; rw [← hout]; by_cases h : op = 19 <;> simp [h]
 have O1 := am a1; have HBT := am hbt
 clear a1 hbt hout
 go_wp2_with fail
 refine (impl_bit.calls _ out _ HBT.out).mono ?_
 rintro e w2 ⟨rfl, nd, a3⟩
 clear q0 q1 q2 q3 q4 q5
 obtain rfl := a3
 have HB := am (kI HB.out nd); have BG := am (pG BG.out nd); have BN := am (pG BN.out nd)
 generalize w1.drewN nd = w2 at *
 obtain ⟨q0, q1, q2, q3, q4, q5⟩ := a9l BN.out
 go_wp2_with fail
 rw [b4f B B8.out.1 B8.out.2]
 have hN := b1n B B8.out.2
 generalize 2 ^ B.toNat = N at *
 have HN := am hN
 clear hN q0 q1 q2 q3 q4 q5
 have KW := am (a2m HB.out (fun k => k = g)); have H0 := am (HB.out.mono (Nat.zero_le _))
 have GL := am (show g < w.heap.size from by have := vQ BG0.out; exact this)
 go_loopg [6, 7, 23] N (fun gk v6 v7 a2 w' => ∃ (j : Nat) (y : Int), a2 = .int .i64 (j : Int) ∧ v6 = .int .i64 out ∧ Aside0 (gk + j = N) ∧ Aside0 (a8i V l0.length env Kq.toNat A out gk (j : Int) = some r) ∧
  Aside0 (w'.heap[g]? = some (.cells (zB A0 l0.length c0 (env.set Kq.toNat y)) 65 (0, 0))) ∧ Aside0 (w'.heap[w.heap.size]? = some (.cells #[.int .i64 op, .int .i64 W, .int .i64 Kq, .int .i64 A, .int .i64 B, .int .i64 C] 31 (0, 0))) ∧ Aside0 (Kept w w' (fun k => k = g)) ∧ Aside0 (Below 0 w w'))
 case atStart => exact ⟨0, rd env Kq, rfl, rfl, ⟨rfl⟩, HH, ⟨by rw [a7j env Kq K8.out.1 (by rw [HE.out]; exact K8.out.2)]; exact BG.out⟩, BN, KW, H0⟩
 obtain ⟨j, y, rfl, rfl, HG, HH, BG, BN, KW, H0⟩ := hrel
 obtain ⟨q0, q1, q2, q3, q4, q5⟩ := a9l BN.out
 have x1 := (kG BG.out (Kq.toNat + 1)).trans (a1z _ _ _ _ Kq.toNat (by rw [List.length_set, HE.out]; have := K8.out; omega))
 rw [Int.toNat_of_nonneg K8.out.1, Nat.add_comm Kq.toNat 1] at x1
 have f1 := kP BG.out (1 + Kq.toNat)
 have kk := K8.out
 by_cases hj : j < N
 rotate_left
 ·have t3 : decide ((j : Int) < (N : Int)) = false := decide_eq_false oM
  have hgk : gk = 0 := by have := HG.out; omega
  subst hgk
  have hn := HH.out
  unfold a8i at hn
  obtain rfl := oI hn
  clear hn q0 q1 q2 q3 q4 q5 x1 f1 kk
  go_wp2_with fail
  obtain ⟨q0, q1, q2, q3, q4, q5⟩ := a9l BN.out
  have x1 := (kG BG.out (Kq.toNat + 1)).trans (a1z _ _ _ _ Kq.toNat (by rw [List.length_set, HE.out]; have := K8.out; omega))
  rw [Int.toNat_of_nonneg K8.out.1, Nat.add_comm Kq.toNat 1] at x1
  have f1 := kP BG.out (1 + Kq.toNat)
  have kk := K8.out
  go_region
  clear q0 q1 q2 q3 q4 q5 x1 f1 kk
  have HE2 := am (wL (a6m (j := 1 + Kq.toNat) BG0.out KW.out H0.out BG.out (.int .i64 (rd env Kq)) (by rw [Nat.add_comm 1 Kq.toNat, a2o, List.set_set, a7j env Kq K8.out.1 (by rw [HE.out]; exact K8.out.2)])))
  go_wp2_with fail
  go_ret
  exact ⟨rfl, HE2.out⟩
 have t3 : decide ((j : Int) < (N : Int)) = true := decide_eq_true oM
 go_wp2_with fail
 go_region
 clear q0 q1 q2 q3 q4 q5 x1 f1 kk
 have BG1 := zK BG.out (1 + Kq.toNat) (.int .i64 (j : Int))
 rw [Nat.add_comm 1 Kq.toNat, a2o, List.set_set, Nat.add_comm Kq.toNat 1] at BG1
 have BG := am (pB BG1)
 have BN := am (pB (vZ (p := ⟨g, 1 + Kq.toNat, none⟩) BN.out (by have := GL.out; simp; omega) (.int .i64 (j : Int))))
 have KW := am (Kept.drew (KW.out.setCell (p := ⟨g, 1 + Kq.toNat, none⟩) (.inl rfl) (.int .i64 (j : Int))))
 have H0 := am (show Below 0 w (wr.setCell ⟨g, 1 + Kq.toNat, none⟩ (.int .i64 (j : Int))).drew from wL (H0.out.setCell (Nat.zero_le _) _))
 clear BG1
 generalize (wr.setCell ⟨g, 1 + Kq.toNat, none⟩ (.int .i64 (j : Int))).drew = wA at *
 obtain ⟨q0, q1, q2, q3, q4, q5⟩ := a9l BN.out
 go_wp2_with fail
 obtain ⟨g1, rfl⟩ : ∃ g1, gk = g1 + 1 := ⟨gk - 1, by have := HG.out; omega⟩
 have hh := HH.out
 unfold a8i at hh
 obtain ⟨⟨rv, kn⟩, hvr, hh⟩ := oB hh
 have HVR := am hvr; have HN2 := am hh
 clear hvr hh HH q0 q1 q2 q4 q5
 refine xE (n := 8) (S := fun w' => w'.cell? ⟨w.heap.size, 3, none⟩ = some (.int .i64 A)) (ds := []) c6l (by kernel_rfl) rfl rfl (q3) (fun hHeld => ?_)
 refine pS (i := 0) (N := some 33) c6h ?_
 refine pS (i := 1) (N := some 34) c6d ?_
 refine pS (i := 3) (N := some 36) c5z ?_
 refine pS (i := 6) (N := some 39) c5v ?_
 refine sI (i := 2) (N := some 35) (v := ?_) (a' := ?_) c5r rfl rfl (by kernel_rfl) (fun _ _ _ h => h) (Or.inl ⟨by rfl, ?_⟩) hHeld ?_ ?_
 rotate_left
 ·intro w' s0
  go_simp
  with_reducible rfl
 rotate_left
 ·exact b3k
 refine a3e (i := 4) (N := some 37) c5n rfl rfl (by kernel_rfl) (by decide) (fun K hK => ?_)
 refine a5g Try.func48 (by kernel_rfl) rfl #[.pointer (some ⟨g, 0, none⟩)] (by rfl) rfl rfl (by simp only [List.map_toArray, List.map_cons, List.map_nil]; rfl) ?_
 with_reducible refine (impl_valuer_blank.calls g A0 c0 l0 (env.set Kq.toNat (j : Int)) _ (pB BG.out) HL.out HM.out).mono ?_
 rintro e w3 ⟨hk, ck, rfl, hRK, hb⟩
 refine ⟨_, rfl, ?_⟩
 have RK := am hRK
 have HKN := am (show w.heap.size < hk from by
  obtain ⟨g2, c2, e2, a4, _⟩ := Kd.R_form hRK (by rw [List.length_replicate]; exact HL.out)
  rw [List.length_replicate] at e2
  cases e2
  exact Nat.lt_of_lt_of_le (vQ BN.out) a4)
 have BG := am (kM (pB BG.out) hb)
 have BN := am (kM (pB BN.out) hb)
 have KW := am ((Kept.drew KW.out).below hb)
 have H0 := am ((wL H0.out).trans (hb.mono (Nat.zero_le _)))
 clear hb hRK
 refine hK.out _ _ (((kG BN.out 3).trans rfl)) (fun hHeld => ?_)
 clear hK K
 refine wO (a' := ?_) ?_ ?_
 rotate_left
 ·show Act.put _ (some 37) _ = _
  exact b3k
 refine a3e (i := 5) (N := some 38) c5j rfl rfl (by kernel_rfl) (by decide) (fun K hK => ?_)
 refine a5g Try.func47 (by kernel_rfl) rfl #[.pointer (some ⟨g, 0, none⟩), .int .i64 A, .slice (some ⟨hk, 0, none⟩) l0.length ck] (by rfl) rfl rfl (by simp only [List.map_toArray, List.map_cons, List.map_nil]; rfl) ?_
 with_reducible refine (HV.out hk ck _ (env.set Kq.toNat (j : Int)) A (List.replicate l0.length (-1)) rv kn _ BG.out (by rw [List.length_set]; exact HE.out) (by have := HKN.out; have := GL.out; omega) (fun W_ hW => a5.out W_ (KW.out.then_ hW (fun k hk' => by have := HKN.out; rcases hk' with rfl | rfl; exact .inl rfl; exact .inr oM))) (by simp) (RK.out) HVR.out).mono ?_
 rintro e w4 ⟨rfl, hR4, _, hK4, a0⟩
 refine ⟨_, rfl, ?_⟩
 have BG := am (wV BG.out hK4 (by have := HKN.out; have := GL.out; omega))
 have BN := am (wV BN.out hK4 (by have := HKN.out; omega))
 have KW := am (KW.out.then_ hK4 (fun k hk' => .inr (by have := HKN.out; omega)))
 have H0 := am (H0.out.trans a0)
 clear hR4 hK4 a0
 refine hK.out _ _ (((kG BN.out 3).trans rfl)) (fun hHeld => ?_)
 clear hK K
 refine wO (a' := ?_) ?_ ?_
 rotate_left
 ·show Act.put _ (some 38) _ = _
  exact b3k
 refine pS (i := 7) (N := some 40) c5d ?_
 refine a1v (by kernel_rfl) ?_
 by_cases hv : rv = out
 ·have t4 : (rv != out) = false := by rw [hv]; exact bne_self_eq_false' _
  have hn := HN2.out
  rw [if_pos hv] at hn
  clear q3 hv
  go_wp2_with fail
  have HH := am hn
  clear hn
  go_roundg g1
  case measure => omega
  case rel => exact ⟨j + 1, (j : Int), by rw [show wrap64 ((j : Int) + 1) = ((j + 1 : Nat) : Int) by have := HN.out; unfold wrap64; omega], rfl, ⟨by have := HG.out; omega⟩, ⟨by have h := HH.out; rw [show ((j + 1 : Nat) : Int) = (j : Int) + 1 by omega]; exact h⟩, BG, BN, KW, H0⟩
 have t4 : (rv != out) = true := bne_iff_ne.mpr hv
 have hn := HN2.out
 rw [if_neg hv] at hn
 obtain rfl := oI hn
 clear q3 hv hn
 have hw : wrap64 (1 - out) = 1 - out := by rcases O1.out with h | h <;> rw [h] <;> simp [wrap64]
 go_wp2_with fail
 obtain ⟨q0, q1, q2, q3, q4, q5⟩ := a9l BN.out
 have x1 := (kG BG.out (Kq.toNat + 1)).trans (a1z _ _ _ _ Kq.toNat (by rw [List.length_set, HE.out]; have := K8.out; omega))
 rw [Int.toNat_of_nonneg K8.out.1, Nat.add_comm Kq.toNat 1] at x1
 have f1 := kP BG.out (1 + Kq.toNat)
 have kk := K8.out
 go_region
 clear q0 q1 q2 q3 q4 q5 x1 f1 kk
 have HE2 := am (wL (a6m (j := 1 + Kq.toNat) BG0.out KW.out H0.out BG.out (.int .i64 (rd env Kq)) (by rw [Nat.add_comm 1 Kq.toNat, a2o, List.set_set, a7j env Kq K8.out.1 (by rw [HE.out]; exact K8.out.2)])))
 go_wp2_with fail
 go_ret
 exact ⟨by rw [← hw]; rfl, HE2.out⟩
def a2y (l0 : List (S31)) (met : List Bool) (v x : Int) : Nat → Nat → Option Bool
 | 0, _ => some true
 | m + 1, i => if (met.getD i false && (kA l0 (i : Int)).f0 == 1 && (kA l0 (i : Int)).f2 == v) = true then (rI (kA l0 (i : Int)).f1 x).bind fun b => if b = true then a2y l0 met v x m (i + 1) else some false else a2y l0 met v x m (i + 1)
def a1i (k : Nat) (l0 : List (S31)) (l1 : List Int) : Nat → Nat → Option Bool
 | 0, _ => some true
 | m + 1, v => if v < l1.length then (vF k l0 (v : Int)).bind fun met => (if met.length = l0.length then (a2y l0 met (v : Int) (rd l1 (v : Int)) l0.length 0).bind fun b => (if b = true then a1i k l0 l1 m (v + 1) else some false) else none) else none
def a1j (l0 : List (S31)) (met : List Bool) (Kq B : Int) : Nat → Nat → Bool
 | 0, _ => true
 | m + 1, i => if (met.getD i false && (kA l0 (i : Int)).f0 == 1 && (kA l0 (i : Int)).f2 == Kq && (kA l0 (i : Int)).f1 != B) = true then false else a1j l0 met Kq B m (i + 1)
def a2a (k : Nat) (l0 : List (S31)) (rch : List Bool) : Nat → Nat → Option Bool
 | 0, _ => some true
 | m + 1, i => if (rch.getD i false && ((kA l0 (i : Int)).f0 == 19 || (kA l0 (i : Int)).f0 == 20)) = true then (vW (vM l0 (kA l0 (i : Int)).f2) k l0 (kA l0 (i : Int)).f3).bind fun met => (if met.length = l0.length then (if a1j l0 met (kA l0 (i : Int)).f2 (kA l0 (i : Int)).f4 l0.length 0 = true then a2a k l0 rch m (i + 1) else some false) else none) else a2a k l0 rch m (i + 1)
def wZ (k : Nat) (l0 : List (S31)) (l1 : List Int) : Option Bool :=
 if l0.length ≤ 1048576 then (a1i k l0 l1 8 0).bind fun b => (if b = true then (uK k l0).bind fun rch => (if rch.length = l0.length then a2a k l0 rch l0.length 0 else none) else some false) else none
theorem b0q {P : Prop} (h : P := by
 go_wp2_with fail
 go_roundg g2
 case measure => omega
 case rel => exact ⟨i + 1, by rw [show wrap64 ((i : Int) + 1) = ((i + 1 : Nat) : Int) by have := HM.out; unfold wrap64; omega], ⟨by have := HJ.out; omega⟩, HN3, ⟨BT.out⟩, ⟨by exact MC.out⟩, ⟨by exact kI HB.out _⟩⟩) : P := h
theorem b0o {P : Prop} (h : P := by
 go_wp2_with fail
 go_roundg g3
 case measure => omega
 case rel => exact ⟨j + 1, by rw [show wrap64 ((j : Int) + 1) = ((j + 1 : Nat) : Int) by have := HM.out; unfold wrap64; omega], ⟨by have := a2.out; omega⟩, HN6, BT, BN, MC, M2, HB⟩) : P := h
theorem b8v {P : Prop} (h : P := by
 go_wp2_with fail
 go_roundg g2
 case measure => omega
 case rel => exact ⟨i + 1, by rw [show wrap64 ((i : Int) + 1) = ((i + 1 : Nat) : Int) by have := HM.out; unfold wrap64; omega], ⟨by have := HJ.out; omega⟩, HN3, BT, MC, HB⟩) : P := h
set_option maxHeartbeats 4000000 in
theorem impl_suits.calls (k : Nat) (A0 : Option Addr) (c0 : Nat) (l0 : List (S31)) (A1 : Option Addr) (c1 : Nat) (l1 : List Int) (r : Bool) (w : World) (hr0 : Kd.C k31 w A0 l0.length l0) (hc0 : l0.length ≤ c0) (hr1 : Kd.C (Kd.int .i64) w A1 l1.length l1) (hc1 : l1.length ≤ c1) (h : wZ k l0 l1 = some r) :
  Calls Try.prog 45 #[.slice A0 l0.length c0, .slice A1 l1.length c1] w fun e w' => e = .returned (.bool r) ∧ Below w.heap.size w w' := by
 unfold wZ at h
 by_cases hm : l0.length ≤ 1048576
 rotate_left
 ·rw [if_neg hm] at h
  exact absurd h (by simp)
 rw [if_pos hm] at h
 have a1 := am hr0; have a3 := am hc0; have a9 := am hr1; have aF := am hc1; have HM := am hm; have HH := am h
 clear hr0 hc0 hr1 hc1 hm h
 go_enter Try.func45, Try.ntmps45
 go_wp2_with fail
 have BT := am (heap_alloc_new w (Obj.cells #[Value.slice A0 l0.length c0] 24))
 have HB := am (kR (Below.refl w.heap.size w) (Obj.cells #[Value.slice A0 l0.length c0] 24))
 generalize w.alloc (Obj.cells #[Value.slice A0 l0.length c0] 24) = wA at *
 obtain ⟨b1, hb1, h⟩ := oB HH.out
 have HV := am hb1; have HH := am h
 clear hb1 h
 go_loopg [5, 6, 7, 8, 15] 8 (fun gk v5 v6 v7 v8 a7 w' => ∃ v : Nat, a7 = .int .i64 (v : Int) ∧ Aside0 (gk + v = 8) ∧ Aside0 (a1i k l0 l1 gk v = some b1) ∧ Aside0 (w'.heap[w.heap.size]? = some (.cells #[.slice A0 l0.length c0] 24 (0, 0))) ∧ Aside0 (Below w.heap.size w w'))
 case atStart => exact ⟨0, rfl, ⟨rfl⟩, HV, BT, HB⟩
 obtain ⟨v, rfl, HG, HV, BT, HB⟩ := hrel
 have x0 : wr.cell? ⟨w.heap.size, 0, none⟩ = some (.slice A0 l0.length c0) := (kG BT.out 0).trans rfl
 by_cases hv : v < 8
 ·have t1 : decide ((v : Int) < 8) = true := decide_eq_true oM
  obtain ⟨g1, rfl⟩ : ∃ g1, gk = g1 + 1 := ⟨gk - 1, by have := HG.out; omega⟩
  have hh := HV.out
  unfold a1i at hh
  by_cases hv1 : v < l1.length
  rotate_left
  ·rw [if_neg hv1] at hh
   exact absurd hh (by simp)
  rw [if_pos hv1] at hh
  obtain ⟨met, hmet, hh⟩ := oB hh
  by_cases hml : met.length = l0.length
  rotate_left
  ·rw [if_neg hml] at hh
   exact absurd hh (by simp)
  rw [if_pos hml] at hh
  obtain ⟨b2, hA, hh⟩ := oB hh
  have HMT := am hmet; have HML := am hml; have HA := am hA; have HN := am hh; have HV1 := am hv1
  clear hmet hml hA hh hv1 HV
  go_wp2_with fail
  refine (impl_freeAt.calls k A0 c0 l0 (v : Int) met wr (Kd.C_below a1.out HB.out) a3.out HMT.out).mono ?_
  rintro e w2 ⟨v0, rfl, HO, hb⟩
  obtain ⟨Am, cm, rfl, hmc, hMC⟩ := Kd.R_reads HO
  have HB := am (HB.out.trans (hb.mono HB.out.size)); have BT := am (kM BT.out hb); have MC := am hMC
  clear hb HO hMC hmc x0
  have x0 : w2.cell? ⟨w.heap.size, 0, none⟩ = some (.slice A0 l0.length c0) := (kG BT.out 0).trans rfl
  go_wp2_with fail
  clear x0
  go_loopg [7, 8, 23] l0.length (fun gj u7 u8 u23 w' => ∃ i : Nat, u23 = .int .i64 (i : Int) ∧ Aside0 (gj + i = l0.length) ∧ Aside0 (a2y l0 met (v : Int) (rd l1 (v : Int)) gj i = some b2) ∧ Aside0 (w'.heap[w.heap.size]? = some (.cells #[.slice A0 l0.length c0] 24 (0, 0))) ∧ Aside0 (Kd.C Kd.bool w' Am met.length met) ∧ Aside0 (Below w.heap.size w w'))
  case atStart => exact ⟨0, rfl, ⟨rfl⟩, HA, BT, MC, HB⟩
  obtain ⟨i, rfl, HJ, HA, BT, MC, HB⟩ := hrel
  by_cases hi : i < l0.length
  rotate_left
  ·obtain rfl : i = l0.length := by have := HJ.out; omega
   have hgk : gk = 0 := by have := HJ.out; omega
   subst hgk
   have t2 : decide ((l0.length : Int) < (l0.length : Int)) = false := decide_eq_false oM
   have hh := HA.out
   unfold a2y at hh
   obtain rfl := oI hh
   have h1 := HN.out
   rw [if_pos rfl] at h1
   have HN3 := am h1
   clear hh h1 HA HN
   go_wp2_with fail
   go_roundg g1
   case measure => omega
   case rel => exact ⟨v + 1, by go_num, ⟨by have := HG.out; omega⟩, HN3, BT, HB⟩
  have p1 : (0 : Int) ≤ (i : Int) := by omega
  have p2 : (i : Int) < (l0.length : Int) := by omega
  have t2 : decide ((i : Int) < (l0.length : Int)) = true := decide_eq_true p2
  obtain ⟨a0, e0, y0, y1, y2, y3, y4, y5⟩ := oZ (Kd.C_below a1.out HB.out) (i : Int) p1 p2
  rw [Int.toNat_natCast] at y0 y1 y2 y3 y4 y5
  have hml := HML.out
  obtain ⟨adm, em, hm1⟩ := Kd.at_bool MC.out (i : Int) p1 oM
  rw [Int.toNat_natCast, show vU false met (i : Int) = met.getD i false from rfl] at hm1
  obtain ⟨ade, ee, he1⟩ := Kd.at_int (Kd.C_below a9.out HB.out) (v : Int) oM (by have := HV1.out; omega)
  rw [Int.toNat_natCast] at he1
  subst e0
  subst em
  subst ee
  obtain ⟨⟨op, W, Kq, A, B, C⟩, hnd⟩ : ∃ n, kA l0 (i : Int) = n := ⟨_, rfl⟩
  obtain ⟨mb, hmb⟩ : ∃ mb, met.getD i false = mb := ⟨_, rfl⟩
  obtain ⟨g2, rfl⟩ : ∃ g2, gk = g2 + 1 := ⟨gk - 1, by have := HJ.out; omega⟩
  have hh := HA.out
  unfold a2y at hh
  rw [hnd, hmb] at hh
  rw [hnd] at y0 y1 y2 y3 y4 y5
  rw [hmb] at hm1
  simp only [] at y0 y1 y2 y3 y4 y5 hh
  have HN2 := am hh
  have t3 : decide ((i : Int) < (met.length : Int)) = true := decide_eq_true oM
  have t4 : decide ((v : Int) < (l1.length : Int)) = true := decide_eq_true (by have := HV1.out; omega)
  have aB := HV1.out
  have aC : i < met.length := by omega
  clear hml
  have BN := am (heap_alloc_new wr (Obj.cells #[Value.int .i64 op, Value.int .i64 W, Value.int .i64 Kq, Value.int .i64 A, Value.int .i64 B, Value.int .i64 C] 31))
  have hA2 := kR (Below.refl wr.heap.size wr) (Obj.cells #[Value.int .i64 op, Value.int .i64 W, Value.int .i64 Kq, Value.int .i64 A, Value.int .i64 B, Value.int .i64 C] 31)
  have hm2 := kC hA2 hm1
  have he2 := kC hA2 he1
  have BT := am (kM BT.out hA2); have MC := am (Kd.C_below MC.out hA2); have HB := am (HB.out.trans (hA2.mono HB.out.size))
  clear hnd hmb hh HA hA2 hm1 he1
  go_wp2_with fail
  clear y0 y1 y2 y3 y4 y5
  generalize wr.alloc (Obj.cells #[Value.int .i64 op, Value.int .i64 W, Value.int .i64 Kq, Value.int .i64 A, Value.int .i64 B, Value.int .i64 C] 31) = wN at *
  obtain ⟨q0, q1, q2, q3, q4, q5⟩ := a9l BN.out
  cases mb with
  | false =>
   have hn := HN2.out
   rw [if_neg (by simp)] at hn
   have HN3 := am hn
   clear hn
   go_quiet (fail)
   exact b0q
  | true =>
   by_cases o1 : op = 1
   rotate_left
   ·have t5 : (op == 1) = false := beq_eq_false_iff_ne.mpr o1
    have hn := HN2.out
    rw [if_neg (by rw [t5]; simp)] at hn
    have HN3 := am hn
    clear hn o1
    go_quiet (fail)
    exact b0q
   have t5 : (op == 1) = true := beq_iff_eq.mpr o1
   by_cases k1 : Kq = (v : Int)
   rotate_left
   ·have t6 : (Kq == (v : Int)) = false := beq_eq_false_iff_ne.mpr k1
    have hn := HN2.out
    rw [if_neg (by rw [t6]; simp)] at hn
    have HN3 := am hn
    clear hn o1 k1
    go_quiet (fail)
    exact b0q
   have t6 : (Kq == (v : Int)) = true := beq_iff_eq.mpr k1
   have hn := HN2.out
   rw [if_pos (by rw [t5, t6]; rfl)] at hn
   obtain ⟨b3, hw, hn⟩ := oB hn
   have HW := am hw; have HN3 := am hn; have K1 := am k1
   clear hw hn o1 k1
   cases b3 with
   | true =>
    have hn := HN3.out
    rw [if_pos rfl] at hn
    have HN3 := am hn
    clear hn
    go_quiet ((go_at_call 54; refine cD (impl_WordOk.calls W (rd l1 (v : Int)) true _ HW.out) fun nd => ?_; exact ⟨rfl, _, World.drewN_drewN _ _ _⟩))
    exact b0q
   | false =>
    have hn := HN3.out
    rw [if_neg (by decide)] at hn
    obtain rfl := oI hn
    clear hn
    go_quiet ((go_at_call 54; refine cD (impl_WordOk.calls W (rd l1 (v : Int)) false _ HW.out) fun nd => ?_; exact ⟨rfl, _, World.drewN_drewN _ _ _⟩))
    go_wp2_with fail
    have h1 := HN.out
    rw [if_neg (by decide)] at h1
    obtain rfl := oI h1
    have h2 := HH.out
    rw [if_neg (by decide)] at h2
    obtain rfl := oI h2
    go_ret
    exact ⟨rfl, by exact kI HB.out _⟩
 obtain rfl : v = 8 := by have := HG.out; omega
 have hgk : gk = 0 := by have := HG.out; omega
 subst hgk
 have t1 : decide (((8 : Nat) : Int) < 8) = false := by decide
 have hh := HV.out
 unfold a1i at hh
 obtain rfl := oI hh
 clear hh HV
 have h2 := HH.out
 rw [if_pos rfl] at h2
 obtain ⟨rch, hrc, h2⟩ := oB h2
 by_cases hrl : rch.length = l0.length
 rotate_left
 ·rw [if_neg hrl] at h2
  exact absurd h2 (by simp)
 rw [if_pos hrl] at h2
 have HRC := am hrc; have HRL := am hrl; have HH3 := am h2
 clear hrc hrl h2
 go_wp2_with fail
 refine (impl_reached.calls k A0 c0 l0 rch wr (Kd.C_below a1.out HB.out) a3.out HRC.out).mono ?_
 rintro e w2 ⟨v0, rfl, HO, hb⟩
 obtain ⟨Am, cm, rfl, hmc, hMC⟩ := Kd.R_reads HO
 have HB := am (HB.out.trans (hb.mono HB.out.size)); have BT := am (kM BT.out hb); have MC := am hMC
 clear hb HO hMC hmc x0
 go_wp2_with fail
 go_loopg [9, 10, 11, 12, 13, 14, 58] rch.length (fun gk u9 u10 u11 u12 u13 u14 u58 w' => ∃ i : Nat, u58 = .int .i64 (i : Int) ∧ Aside0 (gk + i = l0.length) ∧ Aside0 (a2a k l0 rch gk i = some r) ∧ Aside0 (w'.heap[w.heap.size]? = some (.cells #[.slice A0 l0.length c0] 24 (0, 0))) ∧ Aside0 (Kd.C Kd.bool w' Am rch.length rch) ∧ Aside0 (Below w.heap.size w w'))
 case atStart => exact ⟨0, rfl, ⟨by have := HRL.out; omega⟩, by rw [HRL.out]; exact HH3, BT, MC, HB⟩
 obtain ⟨i, rfl, HJ, HR, BT, MC, HB⟩ := hrel
 by_cases hi : i < l0.length
 rotate_left
 ·obtain rfl : i = l0.length := by have := HJ.out; omega
  have hgk : gk = 0 := by have := HJ.out; omega
  subst hgk
  have t2 : decide ((l0.length : Int) < (rch.length : Int)) = false := decide_eq_false (by have := HRL.out; omega)
  have a8 : ¬ l0.length < rch.length := by have := HRL.out; omega
  have hh := HR.out
  unfold a2a at hh
  obtain rfl := oI hh
  clear hh HR
  go_wp2_with fail
  go_ret
  exact ⟨rfl, HB.out⟩
 have p1 : (0 : Int) ≤ (i : Int) := by omega
 have p2 : (i : Int) < (l0.length : Int) := by omega
 have t2 : decide ((i : Int) < (rch.length : Int)) = true := decide_eq_true (by have := HRL.out; omega)
 have a8 : i < rch.length := by have := HRL.out; omega
 have t3 : decide ((i : Int) < (l0.length : Int)) = true := decide_eq_true p2
 obtain ⟨a0, e0, y0, y1, y2, y3, y4, y5⟩ := oZ (Kd.C_below a1.out HB.out) (i : Int) p1 p2
 rw [Int.toNat_natCast] at y0 y1 y2 y3 y4 y5
 obtain ⟨adm, em, hm1⟩ := Kd.at_bool MC.out (i : Int) p1 (by have := HRL.out; omega)
 rw [Int.toNat_natCast, show vU false rch (i : Int) = rch.getD i false from rfl] at hm1
 subst e0
 subst em
 have x0 : wr.cell? ⟨w.heap.size, 0, none⟩ = some (.slice (some a0) l0.length c0) := (kG BT.out 0).trans rfl
 obtain ⟨⟨op, W, Kq, A, B, C⟩, hnd⟩ : ∃ n, kA l0 (i : Int) = n := ⟨_, rfl⟩
 obtain ⟨mb, hmb⟩ : ∃ mb, rch.getD i false = mb := ⟨_, rfl⟩
 obtain ⟨g2, rfl⟩ : ∃ g2, gk = g2 + 1 := ⟨gk - 1, by have := HJ.out; omega⟩
 have hh := HR.out
 unfold a2a at hh
 rw [hnd, hmb] at hh
 rw [hnd] at y0 y1 y2 y3 y4 y5
 rw [hmb] at hm1
 simp only [] at y0 y1 y2 y3 y4 y5 hh
 have HN2 := am hh
 clear hnd hmb hh HR
 have BN := am (heap_alloc_new wr (Obj.cells #[Value.int .i64 op, Value.int .i64 W, Value.int .i64 Kq, Value.int .i64 A, Value.int .i64 B, Value.int .i64 C] 31))
 have hA2 := kR (Below.refl wr.heap.size wr) (Obj.cells #[Value.int .i64 op, Value.int .i64 W, Value.int .i64 Kq, Value.int .i64 A, Value.int .i64 B, Value.int .i64 C] 31)
 have BT := am (kM BT.out hA2); have MC := am (Kd.C_below MC.out hA2); have HB := am (HB.out.trans (hA2.mono HB.out.size))
 clear hA2
 cases mb with
 | false =>
  have hn := HN2.out
  rw [if_neg (by simp)] at hn
  have HN3 := am hn
  clear hn
  exact b8v
 | true =>
  obtain ⟨q0, q1, q2, q3, q4, q5⟩ := a9l BN.out
  cases hq : (op == 19 || op == 20) with
  | false =>
   have hn := HN2.out
   rw [hq, if_neg (by simp)] at hn
   have HN3 := am hn; have HQ := am hq
   clear hn hq
   go_wp2_with fail
   refine (impl_isQuant.calls false _ (by rw [zF, HQ.out])).mono ?_
   rintro e w3 ⟨rfl, hb⟩
   have BT := am (kM BT.out hb); have MC := am (Kd.C_below MC.out hb); have HB := am (HB.out.trans (hb.mono HB.out.size))
   clear hb
   exact b8v
  | true =>
   have hn := HN2.out
   rw [hq, if_pos (show (true && true) = true from rfl)] at hn
   obtain ⟨met, hmt, hn⟩ := oB hn
   have HQ := am hq; have HMT := am hmt; have HN3 := am hn
   clear hn hq hmt
   have hmf : ∀ (fn : Fn) (first cap : Array Value) (w : World), (Instr.makeFunc fn first cap).run Try.prog w = .ok (.func fn first cap) w := fun _ _ _ _ => rfl
   go_wp2_with fail
   refine (impl_isQuant.calls true _ (by rw [zF, HQ.out])).mono ?_
   rintro e w3 ⟨rfl, hb⟩
   have BT := am (kM BT.out hb); have BN := am (kM BN.out hb); have MC := am (Kd.C_below MC.out hb); have HB := am (HB.out.trans (hb.mono HB.out.size))
   clear hb q0 q1 q2 q3 q4 q5 x0
   obtain ⟨q0, q1, q2, q3, q4, q5⟩ := a9l BN.out
   have x0 : w3.cell? ⟨w.heap.size, 0, none⟩ = some (.slice (some a0) l0.length c0) := (kG BT.out 0).trans rfl
   go_wp2_with fail
   refine (impl_reach.calls 77 #[.pointer (some ⟨w.heap.size, 0, none⟩), .pointer (some ⟨wr.heap.size, 0, none⟩)] (vM l0 Kq) k (some a0) c0 l0 A met w3 (Kd.C_below a1.out HB.out) a3.out (fun _ _ => rfl) ?hp HMT.out).mono ?_
   case hp =>
    intro W2 i2 b2 hW hb2
    exact impl_suits_1.calls (some a0) c0 l0 Kq i2 b2 w.heap.size wr.heap.size W2 (Kd.C_below (Kd.C_below a1.out HB.out) hW) a3.out ((kG (kM BT.out hW) 0).trans rfl) ((kG (kM BN.out hW) 2).trans rfl) hb2
   rintro e w4 ⟨v0, rfl, HO, hb⟩
   obtain ⟨A2, c2, rfl, hmc2, hMC2⟩ := Kd.R_reads HO
   have BT := am (kM BT.out hb); have BN := am (kM BN.out hb); have MC := am (Kd.C_below MC.out hb); have M2 := am hMC2; have HB := am (HB.out.trans (hb.mono HB.out.size))
   clear hb HO hMC2 hmc2 q0 q1 q2 q3 q4 q5 x0
   by_cases hml2 : met.length = l0.length
   rotate_left
   ·have hn := HN3.out
    rw [if_neg hml2] at hn
    exact absurd hn (by simp)
   have hn := HN3.out
   rw [if_pos hml2] at hn
   obtain ⟨b3, hb3⟩ : ∃ b3, a1j l0 met Kq B l0.length 0 = b3 := ⟨_, rfl⟩
   rw [hb3] at hn
   have HN4 := am hn; have HB3 := am hb3; have HML2 := am hml2
   clear hn hb3 hml2 HN3 HMT y0 y1 y2 y3 y4 y5 hm1
   have x0 : w4.cell? ⟨w.heap.size, 0, none⟩ = some (.slice (some a0) l0.length c0) := (kG BT.out 0).trans rfl
   go_wp2_with fail
   clear x0
   go_loopg [13, 14, 81] l0.length (fun gj u13 u14 u81 w' => ∃ j : Nat, u81 = .int .i64 (j : Int) ∧ Aside0 (gj + j = l0.length) ∧ Aside0 (a1j l0 met Kq B gj j = b3) ∧ Aside0 (w'.heap[w.heap.size]? = some (.cells #[.slice (some a0) l0.length c0] 24 (0, 0))) ∧ Aside0 (w'.heap[wr.heap.size]? = some (.cells #[Value.int .i64 op, Value.int .i64 W, Value.int .i64 Kq, Value.int .i64 A, Value.int .i64 B, Value.int .i64 C] 31 (0, 0))) ∧ Aside0 (Kd.C Kd.bool w' (some adm) rch.length rch) ∧ Aside0 (Kd.C Kd.bool w' A2 met.length met) ∧ Aside0 (Below w.heap.size w w'))
   case atStart => exact ⟨0, rfl, ⟨rfl⟩, HB3, BT, BN, MC, M2, HB⟩
   obtain ⟨j, rfl, a2, HQ2, BT, BN, MC, M2, HB⟩ := hrel
   by_cases hj : j < l0.length
   rotate_left
   ·obtain rfl : j = l0.length := by have := a2.out; omega
    have hgk : gk = 0 := by have := a2.out; omega
    subst hgk
    have t9 : decide ((l0.length : Int) < (l0.length : Int)) = false := decide_eq_false oM
    have hh := HQ2.out
    unfold a1j at hh
    have h1 := HN4.out
    rw [← hh, if_pos rfl] at h1
    have HN6 := am h1
    clear hh h1 HQ2
    go_wp2_with fail
    go_roundg g2
    case measure => omega
    case rel => exact ⟨i + 1, by rw [show wrap64 ((i : Int) + 1) = ((i + 1 : Nat) : Int) by have := HM.out; unfold wrap64; omega], ⟨by have := HJ.out; omega⟩, HN6, BT, MC, HB⟩
   have a5 : (0 : Int) ≤ (j : Int) := by omega
   have a4 : (j : Int) < (l0.length : Int) := by omega
   have t9 : decide ((j : Int) < (l0.length : Int)) = true := decide_eq_true a4
   obtain ⟨aE, e1, y0, y1, y2, y3, y4, y5⟩ := oZ (Kd.C_below a1.out HB.out) (j : Int) a5 a4
   rw [Int.toNat_natCast] at y0 y1 y2 y3 y4 y5
   obtain rfl := oI e1
   have hml := HML2.out
   obtain ⟨adn, em, hm1⟩ := Kd.at_bool M2.out (j : Int) a5 oM
   rw [Int.toNat_natCast, show vU false met (j : Int) = met.getD j false from rfl] at hm1
   subst em
   obtain ⟨⟨op2, W2, K2, a6, B2, C2⟩, hnd⟩ : ∃ n, kA l0 (j : Int) = n := ⟨_, rfl⟩
   obtain ⟨mb2, hmb⟩ : ∃ mb, met.getD j false = mb := ⟨_, rfl⟩
   obtain ⟨g3, rfl⟩ : ∃ g3, gk = g3 + 1 := ⟨gk - 1, by have := a2.out; omega⟩
   have hh := HQ2.out
   unfold a1j at hh
   rw [hnd, hmb] at hh
   rw [hnd] at y0 y1 y2 y3 y4 y5
   rw [hmb] at hm1
   simp only [] at y0 y1 y2 y3 y4 y5 hh
   have HN5 := am hh
   have aD : decide ((j : Int) < (met.length : Int)) = true := decide_eq_true oM
   have aA : j < met.length := by omega
   clear hml e1
   have BM := am (heap_alloc_new wr (Obj.cells #[Value.int .i64 op2, Value.int .i64 W2, Value.int .i64 K2, Value.int .i64 a6, Value.int .i64 B2, Value.int .i64 C2] 31))
   have hA2 := kR (Below.refl wr.heap.size wr) (Obj.cells #[Value.int .i64 op2, Value.int .i64 W2, Value.int .i64 K2, Value.int .i64 a6, Value.int .i64 B2, Value.int .i64 C2] 31)
   have hm2 := kC hA2 hm1
   have BT := am (kM BT.out hA2); have BN := am (kM BN.out hA2); have MC := am (Kd.C_below MC.out hA2); have M2 := am (Kd.C_below M2.out hA2); have HB := am (HB.out.trans (hA2.mono HB.out.size))
   clear hnd hmb hh HQ2 hA2 hm1
   obtain ⟨q0, q1, q2, q3, q4, q5⟩ := a9l BM.out
   obtain ⟨z0, z1, z2, z3, z4, z5⟩ := a9l BN.out
   cases mb2 with
   | false =>
    have hn := HN5.out
    rw [if_neg (by simp)] at hn
    have HN6 := am hn
    clear hn HN5
    exact b0o
   | true =>
    by_cases o1 : op2 = 1
    rotate_left
    ·have t5 : (op2 == 1) = false := beq_eq_false_iff_ne.mpr o1
     have hn := HN5.out
     rw [if_neg (by rw [t5]; simp)] at hn
     have HN6 := am hn
     clear hn HN5 o1
     exact b0o
    have t5 : (op2 == 1) = true := beq_iff_eq.mpr o1
    by_cases k1 : K2 = Kq
    ·have t6 : (K2 == Kq) = true := beq_iff_eq.mpr k1
     by_cases w1 : W2 = B
     ·have t7 : (W2 != B) = false := by rw [w1]; simp
      have hn := HN5.out
      rw [if_neg (by rw [t7]; simp)] at hn
      have HN6 := am hn
      clear hn HN5 o1 k1 w1
      exact b0o
     have t7 : (W2 != B) = true := bne_iff_ne.mpr w1
     have hn := HN5.out
     rw [if_pos (by rw [t5, t6, t7]; rfl)] at hn
     have HN6 := am hn
     clear hn HN5 o1 k1 w1
     go_wp2_with fail
     have h1 := HN4.out
     rw [← HN6.out, if_neg (by decide)] at h1
     obtain rfl := oI h1
     go_ret
     exact ⟨rfl, HB.out⟩
    have t6 : (K2 == Kq) = false := beq_eq_false_iff_ne.mpr k1
    have hn := HN5.out
    rw [if_neg (by rw [t6]; simp)] at hn
    have HN6 := am hn
    clear hn HN5 o1 k1
    exact b0o
def wG (a0 : Int) : Option (Bool) := (qD a0 0 255).bind fun a1 => (some a1)
theorem impl_isByte.calls {a0 : Int} {r : Bool} {w : World} (h : wG a0 = some r) :
  Calls Try.prog 114 #[.int .i64 a0] w fun e w' => e = .returned (.bool r) ∧ Drawn0 w w' := by
 have H := h
 clear h
 unfold wG at H
 replace H := oA H; obtain ⟨a1, A2, H⟩ := H
 obtain rfl := oI H
 go_enter Try.func114, Try.ntmps114
 go_wp2_with (first | ((with_reducible refine gW ?_); first | (refine gD (some 4) Try.func72 rfl (impl_within.calls A2.out) fun nd => ?_)))
 go_ret
 exact ⟨rfl, dR⟩
def yX (a0 : Int) (a1 : Int) : Option (Int) := (rI a0 a1).bind fun a2 => (if a2 = true then (if 0 ≤ (IntKind.u64.wrap (a0)) then (some (wrap64 ((wrap64 ((shl .i64 1 (IntKind.u64.wrap (a0))) - 1)) - a1))) else (none)) else (some 0))
theorem b8p {P : Prop} (h : P := by
 obtain rfl := oI H
 go_enter Try.func115, Try.ntmps115
 go_wp2_with (first | ((with_reducible refine gW ?_); first | (refine gD (some 7) Try.func54 rfl (impl_WordOk.calls _ _ _ _ A3.out) fun nd => ?_)))
 go_ret
 exact ⟨rfl, dR⟩) : P := h
theorem impl_Flip.calls {a0 a1 r : Int} {w : World} (h : yX a0 a1 = some r) :
  Calls Try.prog 115 #[.int .i64 a0, .int .i64 a1] w fun e w' => e = .returned (.int .i64 r) ∧ Drawn0 w w' := by
 have H := h
 clear h
 unfold yX at H
 replace H := oA H; obtain ⟨aC, A3, H⟩ := H
 replace H := iB H; rcases H with ⟨rfl, H⟩ | ⟨rfl, H⟩
 ·generalize a7 : IntKind.u64.wrap (a0) = a2 at H
  (try rw [a7] at A3)
  replace H := iTD H; obtain ⟨aE, aD, H⟩ := H
  generalize a4 : shl .i64 1 (a2) = a3 at H
  (try rw [a4] at A3)
  have a6 : (IntKind.i64.wrap (1 * 2 ^ min (a2).toNat 64)) = a3 := a4
  have a5 : (a2) ≤ 64 → (IntKind.i64.wrap (1 * 2 ^ (a2).toNat)) = a3 := xZ a4
  have aB : (IntKind.i64.wrap (2 ^ min (a2).toNat 64)) = a3 := by have h_ := a6; rw [Int.one_mul] at h_; exact h_
  have aA : (a2) ≤ 64 → (IntKind.i64.wrap (2 ^ (a2).toNat)) = a3 := fun hle_ => by have h_ := a5 hle_; rw [Int.one_mul] at h_; exact h_
  have a8 : (wrap64 (1 * 2 ^ min (a2).toNat 64)) = a3 := (vY _).symm.trans a6
  have a9 : (a2) ≤ 64 → (wrap64 (1 * 2 ^ (a2).toNat)) = a3 := fun h_ => (vY _).symm.trans (a5 h_)
  exact b8p
 exact b8p
def tP (a0 : Int) (a1 : Int) (a2 : Int) : Option (Bool) := (rI a0 a1).bind fun a4 => (if a4 = true then ((rI a0 a2).bind fun a3 => (some a3)) else (some false))
theorem impl_two.calls {a0 a1 a2 : Int} {r : Bool} {w : World} (h : tP a0 a1 a2 = some r) :
  Calls Try.prog 139 #[.int .i64 a0, .int .i64 a1, .int .i64 a2] w fun e w' => e = .returned (.bool r) ∧ Drawn0 w w' := by
 have H := h
 clear h
 unfold tP at H
 replace H := oA H; obtain ⟨a4, A4, H⟩ := H
 replace H := iB H; rcases H with ⟨rfl, H⟩ | ⟨rfl, H⟩
 ·replace H := oA H; obtain ⟨a3, A6, H⟩ := H
  obtain rfl := oI H
  go_enter Try.func139, Try.ntmps139
  go_wp2_with (first | (go_at_call 54; refine cD (impl_WordOk.calls _ _ _ _ A6.out) fun nd => ?_) | ((with_reducible refine gW ?_); first | (refine gD (some 9) Try.func54 rfl (impl_WordOk.calls _ _ _ _ A4.out) fun nd => ?_)))
  go_ret
  exact ⟨rfl, dR⟩
 obtain rfl := oI H
 go_enter Try.func139, Try.ntmps139
 go_wp2_with (first | ((with_reducible refine gW ?_); first | (refine gD (some 9) Try.func54 rfl (impl_WordOk.calls _ _ _ _ A4.out) fun nd => ?_)))
 go_ret
 exact ⟨rfl, dR⟩
def wH (a0 : Int) (a1 : Int) : Option (Int) := if 0 ≤ (IntKind.u64.wrap (a0)) then (some (Go.bits .and .i64 a1 (wrap64 ((shl .i64 1 (IntKind.u64.wrap (a0))) - 1)))) else (none)
theorem impl_cut.calls {a0 a1 r : Int} {w : World} (h : wH a0 a1 = some r) :
  Calls Try.prog 141 #[.int .i64 a0, .int .i64 a1] w fun e w' => e = .returned (.int .i64 r) ∧ Drawn0 w w' := by
 have H := h
 clear h
 unfold wH at H
 generalize aB : IntKind.u64.wrap (a0) = a2 at H
 replace H := iTD H; obtain ⟨aD, aC, H⟩ := H
 generalize a6 : shl .i64 1 (a2) = a3 at H
 have a5 : (IntKind.i64.wrap (1 * 2 ^ min (a2).toNat 64)) = a3 := a6
 have a4 : (a2) ≤ 64 → (IntKind.i64.wrap (1 * 2 ^ (a2).toNat)) = a3 := xZ a6
 have aA : (IntKind.i64.wrap (2 ^ min (a2).toNat 64)) = a3 := by have h_ := a5; rw [Int.one_mul] at h_; exact h_
 have a9 : (a2) ≤ 64 → (IntKind.i64.wrap (2 ^ (a2).toNat)) = a3 := fun hle_ => by have h_ := a4 hle_; rw [Int.one_mul] at h_; exact h_
 have a7 : (wrap64 (1 * 2 ^ min (a2).toNat 64)) = a3 := (vY _).symm.trans a5
 have a8 : (a2) ≤ 64 → (wrap64 (1 * 2 ^ (a2).toNat)) = a3 := fun h_ => (vY _).symm.trans (a4 h_)
 obtain rfl := oI H
 go_enter Try.func141, Try.ntmps141
 go_wp2
 go_ret
 exact ⟨rfl, dR⟩
def a0f (a0 : Int) (a1 : Int) (a2 : Int) : Option (Int) := (tP a0 a1 a2).bind fun a4 => (if a4 = true then ((wH a0 (wrap64 (a1 + a2))).bind fun a3 => (some a3)) else (some 0))
theorem impl_Add.calls {a0 a1 a2 r : Int} {w : World} (h : a0f a0 a1 a2 = some r) :
  Calls Try.prog 132 #[.int .i64 a0, .int .i64 a1, .int .i64 a2] w fun e w' => e = .returned (.int .i64 r) ∧ Drawn0 w w' := by
 have H := h
 clear h
 unfold a0f at H
 replace H := oA H; obtain ⟨a4, A4, H⟩ := H
 replace H := iB H; rcases H with ⟨rfl, H⟩ | ⟨rfl, H⟩
 ·replace H := oA H; obtain ⟨a3, A6, H⟩ := H
  obtain rfl := oI H
  go_enter Try.func132, Try.ntmps132
  go_wp2_with (first | ((with_reducible refine gW ?_); first | (refine gD (some 10) Try.func139 rfl (impl_two.calls A4.out) fun nd => ?_) | (refine gD (some 16) Try.func141 rfl (impl_cut.calls A6.out) fun nd => ?_)))
  go_ret
  exact ⟨rfl, dR⟩
 obtain rfl := oI H
 go_enter Try.func132, Try.ntmps132
 go_wp2_with (first | ((with_reducible refine gW ?_); first | (refine gD (some 10) Try.func139 rfl (impl_two.calls A4.out) fun nd => ?_)))
 go_ret
 exact ⟨rfl, dR⟩
def zZ (a0 : Int) (a1 : Int) (a2 : Int) : Option (Int) := (tP a0 a1 a2).bind fun a4 => (if a4 = true then ((wH a0 (wrap64 (a1 - a2))).bind fun a3 => (some a3)) else (some 0))
theorem impl_Sub.calls {a0 a1 a2 r : Int} {w : World} (h : zZ a0 a1 a2 = some r) :
  Calls Try.prog 133 #[.int .i64 a0, .int .i64 a1, .int .i64 a2] w fun e w' => e = .returned (.int .i64 r) ∧ Drawn0 w w' := by
 have H := h
 clear h
 unfold zZ at H
 replace H := oA H; obtain ⟨a4, A4, H⟩ := H
 replace H := iB H; rcases H with ⟨rfl, H⟩ | ⟨rfl, H⟩
 ·replace H := oA H; obtain ⟨a3, A6, H⟩ := H
  obtain rfl := oI H
  go_enter Try.func133, Try.ntmps133
  go_wp2_with (first | ((with_reducible refine gW ?_); first | (refine gD (some 10) Try.func139 rfl (impl_two.calls A4.out) fun nd => ?_) | (refine gD (some 16) Try.func141 rfl (impl_cut.calls A6.out) fun nd => ?_)))
  go_ret
  exact ⟨rfl, dR⟩
 obtain rfl := oI H
 go_enter Try.func133, Try.ntmps133
 go_wp2_with (first | ((with_reducible refine gW ?_); first | (refine gD (some 10) Try.func139 rfl (impl_two.calls A4.out) fun nd => ?_)))
 go_ret
 exact ⟨rfl, dR⟩
def a0d (a0 : Int) (a1 : Int) (a2 : Int) : Option (Int) := (tP a0 a1 a2).bind fun a4 => (if a4 = true then ((wH a0 (wrap64 (a1 * a2))).bind fun a3 => (some a3)) else (some 0))
theorem impl_Mul.calls {a0 a1 a2 r : Int} {w : World} (h : a0d a0 a1 a2 = some r) :
  Calls Try.prog 134 #[.int .i64 a0, .int .i64 a1, .int .i64 a2] w fun e w' => e = .returned (.int .i64 r) ∧ Drawn0 w w' := by
 have H := h
 clear h
 unfold a0d at H
 replace H := oA H; obtain ⟨a4, A4, H⟩ := H
 replace H := iB H; rcases H with ⟨rfl, H⟩ | ⟨rfl, H⟩
 ·replace H := oA H; obtain ⟨a3, A6, H⟩ := H
  obtain rfl := oI H
  go_enter Try.func134, Try.ntmps134
  go_wp2_with (first | ((with_reducible refine gW ?_); first | (refine gD (some 10) Try.func139 rfl (impl_two.calls A4.out) fun nd => ?_) | (refine gD (some 16) Try.func141 rfl (impl_cut.calls A6.out) fun nd => ?_)))
  go_ret
  exact ⟨rfl, dR⟩
 obtain rfl := oI H
 go_enter Try.func134, Try.ntmps134
 go_wp2_with (first | ((with_reducible refine gW ?_); first | (refine gD (some 10) Try.func139 rfl (impl_two.calls A4.out) fun nd => ?_)))
 go_ret
 exact ⟨rfl, dR⟩
def a0e (a0 : Int) (a1 : Int) (a2 : Int) : Option (Int) := (tP a0 a1 a2).bind fun a3 => (if a3 = true then (if a2 = 0 then (if 0 ≤ (IntKind.u64.wrap (a0)) then (some (wrap64 ((shl .i64 1 (IntKind.u64.wrap (a0))) - 1))) else (none)) else (some (wrap64 (Int.tdiv a1 a2)))) else (some 0))
theorem b2w {P : Prop} (h : P := by
 obtain rfl := oI H
 go_enter Try.func135, Try.ntmps135
 go_wp2_with (first | ((with_reducible refine gW ?_); first | (refine gD (some 11) Try.func139 rfl (impl_two.calls A4.out) fun nd => ?_)))
 go_ret
 exact ⟨rfl, dR⟩) : P := h
theorem impl_Div.calls {a0 a1 a2 r : Int} {w : World} (h : a0e a0 a1 a2 = some r) :
  Calls Try.prog 135 #[.int .i64 a0, .int .i64 a1, .int .i64 a2] w fun e w' => e = .returned (.int .i64 r) ∧ Drawn0 w w' := by
 have H := h
 clear h
 unfold a0e at H
 replace H := oA H; obtain ⟨aF, A4, H⟩ := H
 replace H := iB H; rcases H with ⟨rfl, H⟩ | ⟨rfl, H⟩
 rotate_left
 ·exact b2w
 by_cases c6 : a2 = 0
 ·rw [if_pos c6] at H
  have aA : (a2 == 0) = true := beq_iff_eq.mpr c6
  have a9 : (a2 != 0) = false := bne_eq_false_iff_eq.mpr c6
  clear c6
  generalize a8 : IntKind.u64.wrap (a0) = a3 at H
  (try rw [a8] at A4)
  replace H := iTD H; obtain ⟨aH, aG, H⟩ := H
  generalize a5 : shl .i64 1 (a3) = a4 at H
  (try rw [a5] at A4)
  have a7 : (IntKind.i64.wrap (1 * 2 ^ min (a3).toNat 64)) = a4 := a5
  have a6 : (a3) ≤ 64 → (IntKind.i64.wrap (1 * 2 ^ (a3).toNat)) = a4 := xZ a5
  have aE : (IntKind.i64.wrap (2 ^ min (a3).toNat 64)) = a4 := by have h_ := a7; rw [Int.one_mul] at h_; exact h_
  have aD : (a3) ≤ 64 → (IntKind.i64.wrap (2 ^ (a3).toNat)) = a4 := fun hle_ => by have h_ := a6 hle_; rw [Int.one_mul] at h_; exact h_
  have aB : (wrap64 (1 * 2 ^ min (a3).toNat 64)) = a4 := (vY _).symm.trans a7
  have aC : (a3) ≤ 64 → (wrap64 (1 * 2 ^ (a3).toNat)) = a4 := fun h_ => (vY _).symm.trans (a6 h_)
  exact b2w
 rw [if_neg c6] at H
 have aA : (a2 == 0) = false := beq_eq_false_iff_ne.mpr c6
 have a9 : (a2 != 0) = true := bne_iff_ne.mpr c6
 exact b2w
end Go.Proofs.Ytkpipmojkhikaaa.PAll
