/- Written by a program of this session over the loaded program: Go functions as plain Lean functions, and that a call comes to what they say. -/
import Derived.Test.YtdebihfmceclkaaPAllx0
import Derived.Test.YtdebihfmceclkaaPAllx12
import Derived.Test.YtdebihfmceclkaaPAllx15
import Derived.Test.YtdebihfmceclkaaPAllx16
import Derived.Test.YtdebihfmceclkaaPAllx19
import Derived.Test.YtdebihfmceclkaaSq
namespace Go.Proofs.Ytdebihfmceclkaa.PAll
open Go.RowKit Go.Proofs.YtdebihfmceclkaaW.PrintWords Go.Proofs.YtdebihfmceclkaaW.PrintLast Go.Proofs.YtdebihfmceclkaaW.PrintMore Go.Proofs.YtdebihfmceclkaaW.Sq
attribute [local go_sem] max2_int min2_int max_two min_two max_three min_three max_four min_four   -- for this text's walks alone
set_option linter.unusedVariables false
set_option linter.unusedSimpArgs false

/-! ### impl_Prune: by hand -/
/-- A node with its parts told anew. -/
def renN (g : Int → Int) (n : S36) : S36 := ⟨n.f0, n.f1, n.f2, if 0 < (partsL n.f0 n.f3 n.f4 n.f5).length then g n.f3 else n.f3, if 1 < (partsL n.f0 n.f3 n.f4 n.f5).length then g n.f4 else n.f4, if 2 < (partsL n.f0 n.f3 n.f4 n.f5).length then g n.f5 else n.f5⟩
theorem cz6p {w : World} {g T : Nat} {a b c d e f : Int} (h : w.heap[g]? = some (.cells #[.int .i64 a, .int .i64 b, .int .i64 c, .int .i64 d, .int .i64 e, .int .i64 f] T (0, 0))) :
  (w.cell? ⟨g, 0, none⟩ = some (.int .i64 a) ∧ w.cell? ⟨g, 1, none⟩ = some (.int .i64 b) ∧ w.cell? ⟨g, 2, none⟩ = some (.int .i64 c) ∧ w.cell? ⟨g, 3, none⟩ = some (.int .i64 d) ∧ w.cell? ⟨g, 4, none⟩ = some (.int .i64 e) ∧ w.cell? ⟨g, 5, none⟩ = some (.int .i64 f)) ∧
  (w.frozen? ⟨g, 0, none⟩ = false ∧ w.frozen? ⟨g, 1, none⟩ = false ∧ w.frozen? ⟨g, 2, none⟩ = false ∧ w.frozen? ⟨g, 3, none⟩ = false ∧ w.frozen? ⟨g, 4, none⟩ = false ∧ w.frozen? ⟨g, 5, none⟩ = false) :=
 ⟨⟨(blk_cell h 0).trans rfl, (blk_cell h 1).trans rfl, (blk_cell h 2).trans rfl, (blk_cell h 3).trans rfl, (blk_cell h 4).trans rfl, (blk_cell h 5).trans rfl⟩, blk_frozen h 0, blk_frozen h 1, blk_frozen h 2, blk_frozen h 3, blk_frozen h 4, blk_frozen h 5⟩
set_option maxHeartbeats 4000000 in
set_option maxRecDepth 100000 in
theorem impl_renumber.calls (F : Nat) (cp : Array Value) (g : Int → Int) (ok : Int → Prop) (op W K A B C : Int) (w : World) (eg : ∀ args w, (callFunc F args).run Try.prog w = .ok (.enter F args) w)
  (hp : ∀ (W' : World) (i : Int), Below w.heap.size w W' → ok i → Calls Try.prog F (#[.int .i64 i] ++ cp) W' fun e w' => e = .returned (.int .i64 (g i)) ∧ Below W'.heap.size W' w') (hok : ∀ p ∈ partsL op A B C, ok p) (A' B' C' : Int) (hA : A' = if 0 < (partsL op A B C).length then g A else A) (hB : B' = if 1 < (partsL op A B C).length then g B else B) (hC : C' = if 2 < (partsL op A B C).length then g C else C) :
  Calls Try.prog 107 #[.agg #[.int .i64 op, .int .i64 W, .int .i64 K, .int .i64 A, .int .i64 B, .int .i64 C], .func (.func F) #[] cp] w fun e w' =>
   e = .returned (.agg #[.int .i64 op, .int .i64 W, .int .i64 K, .int .i64 A', .int .i64 B', .int .i64 C']) ∧ Below w.heap.size w w' := by
 have HP := Aside0.mk hp
 clear hp
 have h3 : 1 ≤ (partsL op A B C).length → A ∈ partsL op A B C := by unfold partsL; split <;> (try split) <;> (try split) <;> simp
 have h4 : 2 ≤ (partsL op A B C).length → B ∈ partsL op A B C := by unfold partsL; split <;> (try split) <;> (try split) <;> simp
 have h5 : 3 ≤ (partsL op A B C).length → C ∈ partsL op A B C := by unfold partsL; split <;> (try split) <;> (try split) <;> simp
 have H3 := Aside0.mk (fun h => hok _ (h3 h)); have H4 := Aside0.mk (fun h => hok _ (h4 h)); have H5 := Aside0.mk (fun h => hok _ (h5 h))
 have hps3 := partsL_len op A B C
 have HA := Aside0.mk hA; have HBB := Aside0.mk hB; have HC := Aside0.mk hC
 clear h3 h4 h5 hok hA hB hC
 go_enter Try.func107, Try.ntmps107
 go_wp2_with fail
 have bk0 := heap_alloc_new w (Obj.cells #[Value.int .i64 op, Value.int .i64 W, Value.int .i64 K, Value.int .i64 A, Value.int .i64 B, Value.int .i64 C] 36)
 refine (impl_Parts.calls 1 _ _ _ _ _ _ _ _ (partsI _ _ _ _ _ _ (by omega))).mono ?_
 rintro e w2 ⟨v0, rfl, HO, hb⟩
 obtain ⟨A5, c5, rfl, _, _⟩ := Kd.R_reads HO
 have bk := blk_below (blk_alloc bk0 (Obj.cells #[Value.int .i64 0, Value.int .i64 0, Value.int .i64 0, Value.int .i64 0, Value.int .i64 0, Value.int .i64 0] 36)) hb
 have bz := blk_below (heap_alloc_new (w.alloc (Obj.cells #[Value.int .i64 op, Value.int .i64 W, Value.int .i64 K, Value.int .i64 A, Value.int .i64 B, Value.int .i64 C] 36)) (Obj.cells #[Value.int .i64 0, Value.int .i64 0, Value.int .i64 0, Value.int .i64 0, Value.int .i64 0, Value.int .i64 0] 36)) hb
 rw [show (w.alloc (Obj.cells #[Value.int .i64 op, Value.int .i64 W, Value.int .i64 K, Value.int .i64 A, Value.int .i64 B, Value.int .i64 C] 36)).heap.size = w.heap.size + 1 from by simp] at bz
 have BK := Aside0.mk bk; have BZ := Aside0.mk bz
 have HB := Aside0.mk (show Below w.heap.size w w2 from Below.trans (below_alloc (below_alloc (Below.refl _ _) _) _) (hb.mono (by simp; omega)))
 have GN : ∀ w' : World, Below w.heap.size w w' → w.heap.size ≤ w.heap.size := fun _ _ => Nat.le_refl _
 clear GN bk bz bk0 HO hb
 obtain ⟨m, hm⟩ : ∃ m, (partsL op A B C).length = m := ⟨_, rfl⟩
 rw [hm] at hps3 H3 H4 H5 HA HBB HC
 try rw [hm]
 have hm' : m = 0 ∨ m = 1 ∨ m = 2 ∨ m = 3 := by omega
 have HM := Aside0.mk hm
 clear hm hps3
 rcases hm' with rfl | rfl | rfl | rfl
 ·obtain ⟨⟨q0, q1, q2, q3, q4, q5⟩, f0, f1, f2, f3, f4, f5⟩ := cz6p BK.out
  obtain ⟨⟨z0, z1, z2, z3, z4, z5⟩, y0, y1, y2, y3, y4, y5⟩ := cz6p BZ.out
  go_wp2_with fail
  clear q0 q1 q2 q3 q4 q5 f0 f1 f2 f3 f4 f5 z0 z1 z2 z3 z4 z5 y0 y1 y2 y3 y4 y5
  have bz1 := blk_put (cs' := #[.int .i64 op, .int .i64 0, .int .i64 0, .int .i64 0, .int .i64 0, .int .i64 0]) BZ.out 0 (.int .i64 op) rfl
  have bz2 := blk_put (cs' := #[.int .i64 op, .int .i64 W, .int .i64 0, .int .i64 0, .int .i64 0, .int .i64 0]) bz1 1 (.int .i64 W) rfl
  have bz3 := blk_put (cs' := #[.int .i64 op, .int .i64 W, .int .i64 K, .int .i64 0, .int .i64 0, .int .i64 0]) bz2 2 (.int .i64 K) rfl
  have bz4 := blk_put (cs' := #[.int .i64 op, .int .i64 W, .int .i64 K, .int .i64 A, .int .i64 0, .int .i64 0]) bz3 3 (.int .i64 A) rfl
  have bz5 := blk_put (cs' := #[.int .i64 op, .int .i64 W, .int .i64 K, .int .i64 A, .int .i64 B, .int .i64 0]) bz4 4 (.int .i64 B) rfl
  have bz6 := blk_put (cs' := #[.int .i64 op, .int .i64 W, .int .i64 K, .int .i64 A, .int .i64 B, .int .i64 C]) bz5 5 (.int .i64 C) rfl
  refine bodyPost_ret (results_cell_row rfl _ _ (w.heap.size + 1) 36 #[.int .i64 op, .int .i64 W, .int .i64 K, .int .i64 A, .int .i64 B, .int .i64 C] (0, 0) _ rfl bz6 Try.underlying36 rfl (by kernel_rfl)) rfl ⟨?_, ?_⟩
  ·rw [show A' = A from HA.out, show B' = B from HBB.out, show C' = C from HC.out]
  ·exact below_set (below_set (below_set (below_set (below_set (below_set HB.out (by omega)) (by omega)) (by omega)) (by omega)) (by omega)) (by omega)
 ·obtain ⟨⟨q0, q1, q2, q3, q4, q5⟩, f0, f1, f2, f3, f4, f5⟩ := cz6p BK.out
  obtain ⟨⟨z0, z1, z2, z3, z4, z5⟩, y0, y1, y2, y3, y4, y5⟩ := cz6p BZ.out
  go_wp2_with fail
  clear q0 q1 q2 q3 q4 q5 f0 f1 f2 f3 f4 f5 z0 z1 z2 z3 z4 z5 y0 y1 y2 y3 y4 y5
  refine (HP.out _ A HB.out (H3.out (by omega))).mono ?_
  rintro e w3 ⟨rfl, hb⟩
  have BK := Aside0.mk (blk_below BK.out hb)
  have BZ := Aside0.mk (blk_below BZ.out hb)
  have HB := Aside0.mk (HB.out.trans (hb.mono HB.out.size))
  clear hb
  obtain ⟨⟨q0, q1, q2, q3, q4, q5⟩, f0, f1, f2, f3, f4, f5⟩ := cz6p BK.out
  obtain ⟨⟨z0, z1, z2, z3, z4, z5⟩, y0, y1, y2, y3, y4, y5⟩ := cz6p BZ.out
  go_wp2_with fail
  clear q0 q1 q2 q3 q4 q5 f0 f1 f2 f3 f4 f5 z0 z1 z2 z3 z4 z5 y0 y1 y2 y3 y4 y5
  have BZ := Aside0.mk (blk_far (p := ⟨w.heap.size, 3, none⟩) BZ.out (by simp) (.int .i64 (g A)))
  have HB := Aside0.mk (below_set (g := w.heap.size) (j := 3) (v := .int .i64 (g A)) HB.out (Nat.le_refl _))
  have bz1 := blk_put (cs' := #[.int .i64 op, .int .i64 0, .int .i64 0, .int .i64 0, .int .i64 0, .int .i64 0]) BZ.out 0 (.int .i64 op) rfl
  have bz2 := blk_put (cs' := #[.int .i64 op, .int .i64 W, .int .i64 0, .int .i64 0, .int .i64 0, .int .i64 0]) bz1 1 (.int .i64 W) rfl
  have bz3 := blk_put (cs' := #[.int .i64 op, .int .i64 W, .int .i64 K, .int .i64 0, .int .i64 0, .int .i64 0]) bz2 2 (.int .i64 K) rfl
  have bz4 := blk_put (cs' := #[.int .i64 op, .int .i64 W, .int .i64 K, .int .i64 (g A), .int .i64 0, .int .i64 0]) bz3 3 (.int .i64 (g A)) rfl
  have bz5 := blk_put (cs' := #[.int .i64 op, .int .i64 W, .int .i64 K, .int .i64 (g A), .int .i64 B, .int .i64 0]) bz4 4 (.int .i64 B) rfl
  have bz6 := blk_put (cs' := #[.int .i64 op, .int .i64 W, .int .i64 K, .int .i64 (g A), .int .i64 B, .int .i64 C]) bz5 5 (.int .i64 C) rfl
  refine bodyPost_ret (results_cell_row rfl _ _ (w.heap.size + 1) 36 #[.int .i64 op, .int .i64 W, .int .i64 K, .int .i64 (g A), .int .i64 B, .int .i64 C] (0, 0) _ rfl bz6 Try.underlying36 rfl (by kernel_rfl)) rfl ⟨?_, ?_⟩
  ·rw [show A' = (g A) from HA.out, show B' = B from HBB.out, show C' = C from HC.out]
  ·exact below_set (below_set (below_set (below_set (below_set (below_set HB.out (by omega)) (by omega)) (by omega)) (by omega)) (by omega)) (by omega)
 ·obtain ⟨⟨q0, q1, q2, q3, q4, q5⟩, f0, f1, f2, f3, f4, f5⟩ := cz6p BK.out
  obtain ⟨⟨z0, z1, z2, z3, z4, z5⟩, y0, y1, y2, y3, y4, y5⟩ := cz6p BZ.out
  go_wp2_with fail
  clear q0 q1 q2 q3 q4 q5 f0 f1 f2 f3 f4 f5 z0 z1 z2 z3 z4 z5 y0 y1 y2 y3 y4 y5
  refine (HP.out _ A HB.out (H3.out (by omega))).mono ?_
  rintro e w3 ⟨rfl, hb⟩
  have BK := Aside0.mk (blk_below BK.out hb)
  have BZ := Aside0.mk (blk_below BZ.out hb)
  have HB := Aside0.mk (HB.out.trans (hb.mono HB.out.size))
  clear hb
  obtain ⟨⟨q0, q1, q2, q3, q4, q5⟩, f0, f1, f2, f3, f4, f5⟩ := cz6p BK.out
  obtain ⟨⟨z0, z1, z2, z3, z4, z5⟩, y0, y1, y2, y3, y4, y5⟩ := cz6p BZ.out
  go_wp2_with fail
  clear q0 q1 q2 q3 q4 q5 f0 f1 f2 f3 f4 f5 z0 z1 z2 z3 z4 z5 y0 y1 y2 y3 y4 y5
  have BK := Aside0.mk (blk_put (cs' := #[.int .i64 op, .int .i64 W, .int .i64 K, .int .i64 (g A), .int .i64 B, .int .i64 C]) BK.out 3 (.int .i64 (g A)) rfl)
  have BZ := Aside0.mk (blk_far (p := ⟨w.heap.size, 3, none⟩) BZ.out (by simp) (.int .i64 (g A)))
  have HB := Aside0.mk (below_set (g := w.heap.size) (j := 3) (v := .int .i64 (g A)) HB.out (Nat.le_refl _))
  refine (HP.out _ B HB.out (H4.out (by omega))).mono ?_
  rintro e w4 ⟨rfl, hb⟩
  have BK := Aside0.mk (blk_below BK.out hb)
  have BZ := Aside0.mk (blk_below BZ.out hb)
  have HB := Aside0.mk (HB.out.trans (hb.mono HB.out.size))
  clear hb
  obtain ⟨⟨q0, q1, q2, q3, q4, q5⟩, f0, f1, f2, f3, f4, f5⟩ := cz6p BK.out
  obtain ⟨⟨z0, z1, z2, z3, z4, z5⟩, y0, y1, y2, y3, y4, y5⟩ := cz6p BZ.out
  go_wp2_with fail
  clear q0 q1 q2 q3 q4 q5 f0 f1 f2 f3 f4 f5 z0 z1 z2 z3 z4 z5 y0 y1 y2 y3 y4 y5
  have BZ := Aside0.mk (blk_far (p := ⟨w.heap.size, 4, none⟩) BZ.out (by simp) (.int .i64 (g B)))
  have HB := Aside0.mk (below_set (g := w.heap.size) (j := 4) (v := .int .i64 (g B)) HB.out (Nat.le_refl _))
  have bz1 := blk_put (cs' := #[.int .i64 op, .int .i64 0, .int .i64 0, .int .i64 0, .int .i64 0, .int .i64 0]) BZ.out 0 (.int .i64 op) rfl
  have bz2 := blk_put (cs' := #[.int .i64 op, .int .i64 W, .int .i64 0, .int .i64 0, .int .i64 0, .int .i64 0]) bz1 1 (.int .i64 W) rfl
  have bz3 := blk_put (cs' := #[.int .i64 op, .int .i64 W, .int .i64 K, .int .i64 0, .int .i64 0, .int .i64 0]) bz2 2 (.int .i64 K) rfl
  have bz4 := blk_put (cs' := #[.int .i64 op, .int .i64 W, .int .i64 K, .int .i64 (g A), .int .i64 0, .int .i64 0]) bz3 3 (.int .i64 (g A)) rfl
  have bz5 := blk_put (cs' := #[.int .i64 op, .int .i64 W, .int .i64 K, .int .i64 (g A), .int .i64 (g B), .int .i64 0]) bz4 4 (.int .i64 (g B)) rfl
  have bz6 := blk_put (cs' := #[.int .i64 op, .int .i64 W, .int .i64 K, .int .i64 (g A), .int .i64 (g B), .int .i64 C]) bz5 5 (.int .i64 C) rfl
  refine bodyPost_ret (results_cell_row rfl _ _ (w.heap.size + 1) 36 #[.int .i64 op, .int .i64 W, .int .i64 K, .int .i64 (g A), .int .i64 (g B), .int .i64 C] (0, 0) _ rfl bz6 Try.underlying36 rfl (by kernel_rfl)) rfl ⟨?_, ?_⟩
  ·rw [show A' = (g A) from HA.out, show B' = (g B) from HBB.out, show C' = C from HC.out]
  ·exact below_set (below_set (below_set (below_set (below_set (below_set HB.out (by omega)) (by omega)) (by omega)) (by omega)) (by omega)) (by omega)
 ·obtain ⟨⟨q0, q1, q2, q3, q4, q5⟩, f0, f1, f2, f3, f4, f5⟩ := cz6p BK.out
  obtain ⟨⟨z0, z1, z2, z3, z4, z5⟩, y0, y1, y2, y3, y4, y5⟩ := cz6p BZ.out
  go_wp2_with fail
  clear q0 q1 q2 q3 q4 q5 f0 f1 f2 f3 f4 f5 z0 z1 z2 z3 z4 z5 y0 y1 y2 y3 y4 y5
  refine (HP.out _ A HB.out (H3.out (by omega))).mono ?_
  rintro e w3 ⟨rfl, hb⟩
  have BK := Aside0.mk (blk_below BK.out hb)
  have BZ := Aside0.mk (blk_below BZ.out hb)
  have HB := Aside0.mk (HB.out.trans (hb.mono HB.out.size))
  clear hb
  obtain ⟨⟨q0, q1, q2, q3, q4, q5⟩, f0, f1, f2, f3, f4, f5⟩ := cz6p BK.out
  obtain ⟨⟨z0, z1, z2, z3, z4, z5⟩, y0, y1, y2, y3, y4, y5⟩ := cz6p BZ.out
  go_wp2_with fail
  clear q0 q1 q2 q3 q4 q5 f0 f1 f2 f3 f4 f5 z0 z1 z2 z3 z4 z5 y0 y1 y2 y3 y4 y5
  have BK := Aside0.mk (blk_put (cs' := #[.int .i64 op, .int .i64 W, .int .i64 K, .int .i64 (g A), .int .i64 B, .int .i64 C]) BK.out 3 (.int .i64 (g A)) rfl)
  have BZ := Aside0.mk (blk_far (p := ⟨w.heap.size, 3, none⟩) BZ.out (by simp) (.int .i64 (g A)))
  have HB := Aside0.mk (below_set (g := w.heap.size) (j := 3) (v := .int .i64 (g A)) HB.out (Nat.le_refl _))
  refine (HP.out _ B HB.out (H4.out (by omega))).mono ?_
  rintro e w4 ⟨rfl, hb⟩
  have BK := Aside0.mk (blk_below BK.out hb)
  have BZ := Aside0.mk (blk_below BZ.out hb)
  have HB := Aside0.mk (HB.out.trans (hb.mono HB.out.size))
  clear hb
  obtain ⟨⟨q0, q1, q2, q3, q4, q5⟩, f0, f1, f2, f3, f4, f5⟩ := cz6p BK.out
  obtain ⟨⟨z0, z1, z2, z3, z4, z5⟩, y0, y1, y2, y3, y4, y5⟩ := cz6p BZ.out
  go_wp2_with fail
  clear q0 q1 q2 q3 q4 q5 f0 f1 f2 f3 f4 f5 z0 z1 z2 z3 z4 z5 y0 y1 y2 y3 y4 y5
  have BK := Aside0.mk (blk_put (cs' := #[.int .i64 op, .int .i64 W, .int .i64 K, .int .i64 (g A), .int .i64 (g B), .int .i64 C]) BK.out 4 (.int .i64 (g B)) rfl)
  have BZ := Aside0.mk (blk_far (p := ⟨w.heap.size, 4, none⟩) BZ.out (by simp) (.int .i64 (g B)))
  have HB := Aside0.mk (below_set (g := w.heap.size) (j := 4) (v := .int .i64 (g B)) HB.out (Nat.le_refl _))
  refine (HP.out _ C HB.out (H5.out (by omega))).mono ?_
  rintro e w5 ⟨rfl, hb⟩
  have BK := Aside0.mk (blk_below BK.out hb)
  have BZ := Aside0.mk (blk_below BZ.out hb)
  have HB := Aside0.mk (HB.out.trans (hb.mono HB.out.size))
  clear hb
  obtain ⟨⟨q0, q1, q2, q3, q4, q5⟩, f0, f1, f2, f3, f4, f5⟩ := cz6p BK.out
  obtain ⟨⟨z0, z1, z2, z3, z4, z5⟩, y0, y1, y2, y3, y4, y5⟩ := cz6p BZ.out
  go_wp2_with fail
  clear q0 q1 q2 q3 q4 q5 f0 f1 f2 f3 f4 f5 z0 z1 z2 z3 z4 z5 y0 y1 y2 y3 y4 y5
  have BZ := Aside0.mk (blk_far (p := ⟨w.heap.size, 5, none⟩) BZ.out (by simp) (.int .i64 (g C)))
  have HB := Aside0.mk (below_set (g := w.heap.size) (j := 5) (v := .int .i64 (g C)) HB.out (Nat.le_refl _))
  have bz1 := blk_put (cs' := #[.int .i64 op, .int .i64 0, .int .i64 0, .int .i64 0, .int .i64 0, .int .i64 0]) BZ.out 0 (.int .i64 op) rfl
  have bz2 := blk_put (cs' := #[.int .i64 op, .int .i64 W, .int .i64 0, .int .i64 0, .int .i64 0, .int .i64 0]) bz1 1 (.int .i64 W) rfl
  have bz3 := blk_put (cs' := #[.int .i64 op, .int .i64 W, .int .i64 K, .int .i64 0, .int .i64 0, .int .i64 0]) bz2 2 (.int .i64 K) rfl
  have bz4 := blk_put (cs' := #[.int .i64 op, .int .i64 W, .int .i64 K, .int .i64 (g A), .int .i64 0, .int .i64 0]) bz3 3 (.int .i64 (g A)) rfl
  have bz5 := blk_put (cs' := #[.int .i64 op, .int .i64 W, .int .i64 K, .int .i64 (g A), .int .i64 (g B), .int .i64 0]) bz4 4 (.int .i64 (g B)) rfl
  have bz6 := blk_put (cs' := #[.int .i64 op, .int .i64 W, .int .i64 K, .int .i64 (g A), .int .i64 (g B), .int .i64 (g C)]) bz5 5 (.int .i64 (g C)) rfl
  refine bodyPost_ret (results_cell_row rfl _ _ (w.heap.size + 1) 36 #[.int .i64 op, .int .i64 W, .int .i64 K, .int .i64 (g A), .int .i64 (g B), .int .i64 (g C)] (0, 0) _ rfl bz6 Try.underlying36 rfl (by kernel_rfl)) rfl ⟨?_, ?_⟩
  ·rw [show A' = (g A) from HA.out, show B' = (g B) from HBB.out, show C' = (g C) from HC.out]
  ·exact below_set (below_set (below_set (below_set (below_set (below_set HB.out (by omega)) (by omega)) (by omega)) (by omega)) (by omega)) (by omega)
/-- What kept has made of the first i nodes: the new places, the nodes kept. -/
def keptS (l : List (S36)) (met : List Bool) : Nat → List Int × List (S36)
 | 0 => (List.replicate l.length 0, [])
 | i + 1 => if met.getD i false = true then ((keptS l met i).1.set i ((keptS l met i).2.length : Int), (keptS l met i).2 ++ [renN (fun p => rd ((keptS l met i).1.set i ((keptS l met i).2.length : Int)) p) (rd_T36 l (i : Int))]) else keptS l met i
theorem keptS_len (l : List (S36)) (met : List Bool) (i : Nat) : (keptS l met i).1.length = l.length ∧ (keptS l met i).2.length ≤ i := by
 induction i with
 | zero => simp [keptS]
 | succ i ih =>
  unfold keptS
  split
  ·simp [ih.1, ih.2]
  ·exact ⟨ih.1, by omega⟩
def partsInB (l : List (S36)) : Bool := (List.range l.length).all fun i => (partsL (rd_T36 l (i : Int)).f0 (rd_T36 l (i : Int)).f3 (rd_T36 l (i : Int)).f4 (rd_T36 l (i : Int)).f5).all fun p => inB p 0 ((l.length : Int) - 1)
set_option maxHeartbeats 2000000 in
set_option maxRecDepth 100000 in
/-- Prune's predicate tells the place itself. -/
theorem impl_Prune_1.calls (i : Int) (w : World) : Calls Try.prog 86 #[.int .i64 i] w fun e w' => e = .returned (.int .i64 i) ∧ w' = w := by
 go_enter Try.func86, Try.ntmps86
 go_wp2
 go_ret
 exact ⟨rfl, rfl⟩
set_option maxHeartbeats 2000000 in
set_option maxRecDepth 100000 in
theorem impl_kept_1.calls (ad : Addr) (c : Nat) (ats : List Int) (p : Int) (g1 g2 : Nat) (w : World) (hc : w.cell? (ad.add p.toNat) = some (.int .i64 (rd ats p)))
  (b1 : w.cell? ⟨g1, 0, none⟩ = some (.slice (some ad) ats.length c)) (b2 : w.cell? ⟨g2, 0, none⟩ = some (.func (.func 86) #[] #[])) (p0 : 0 ≤ p) (p1 : p < (ats.length : Int)) :
  Calls Try.prog 108 #[.int .i64 p, .pointer (some ⟨g1, 0, none⟩), .pointer (some ⟨g2, 0, none⟩)] w fun e w' => e = .returned (.int .i64 (rd ats p)) ∧ Below w.heap.size w w' := by
 have t1 : decide (0 ≤ p) = true := decide_eq_true p0
 have t2 : decide (p < (ats.length : Int)) = true := decide_eq_true p1
 generalize rd ats p = x at *
 go_enter Try.func108, Try.ntmps108
 go_wp2_with fail
 go_quiet ((go_at_call 86; exact Calls.quiet_of_same (impl_Prune_1.calls _ _)))
 go_wp2
 go_ret
 exact ⟨rfl, pw_below_drewN (Below.refl _ _) _⟩
set_option maxHeartbeats 4000000 in
set_option maxRecDepth 100000 in
theorem impl_kept.calls (A0 : Option Addr) (c0 : Nat) (l0 : List (S36)) (A1 : Option Addr) (c1 : Nat) (met : List Bool) (w : World) (hr0 : Kd.C k36 w A0 l0.length l0) (hc0 : l0.length ≤ c0) (hr1 : Kd.C Kd.bool w A1 met.length met) (hc1 : met.length ≤ c1) (hl : l0.length ≤ 1048576) (hm : met.length = l0.length) (hp : partsInB l0 = true) :
  Calls Try.prog 85 #[.slice A0 l0.length c0, .slice A1 met.length c1, .func (.func 86) #[] #[]] w fun e w' => ∃ v0_ : Value, e = .returned v0_ ∧ Kd.R k36 36 w' w.heap.size (fun _ => True) v0_ (keptS l0 met l0.length).2 ∧ Below w.heap.size w w' := by
 have hl0 : (l0.length : Int) ≤ 1048576 := by omega
 have hc3 : (0 : Int) ≤ (l0.length : Int) := by omega
 have d3 : decide (0 ≤ (l0.length : Int)) = true := decide_eq_true hc3
 have HR0 := Aside0.mk hr0; have HC0 := Aside0.mk hc0; have HR1 := Aside0.mk hr1; have HC1 := Aside0.mk hc1; have HL := Aside0.mk hl; have HMM := Aside0.mk hm; have HP := Aside0.mk hp
 clear hr0 hc0 hr1 hc1 hl hm hp hc3
 go_enter Try.func85, Try.ntmps85
 go_wp2_with (first
  | ((with_reducible refine gate_dst (N := 13) rfl ?_); refine Kd.R_make (Kd.int .i64) (w0 := w) w.heap.size 3 rfl (N := 13) rfl 39 _ _ rfl (l0.length : Int) rfl rfl Try.underlying39 (.int .i64 0) 8 info3 rfl (by decide) (by omega) 0 (ok := fun k => k ≠ w.heap.size) (okp := fun _ => False) rfl (fun _ hk => hk.elim) (by simp) (by omega) (by have := HL.out; omega) (below_alloc (Below.refl _ _) _) (by simp) ?_; intro v13 w3 ho hb hg hnew; obtain ⟨Aat, cat, ev⟩ := Kd.R_slice ho; rw [List.length_replicate, Int.toNat_natCast] at ev; subst ev; rw [Int.toNat_natCast] at ho; have RA := Aside0.mk (Kd.R_mono (Kd.R_bound ho) (fun k hk => (⟨hk.1, hk.2.2.1⟩ : k ≠ w.heap.size ∧ k < w3.heap.size))); have HB := Aside0.mk hb; have BP := Aside0.mk (blk_grown (heap_alloc_new w (Obj.cells #[Value.func (.func 86) #[] #[]] 69)) hg (by simp)); have HN := Aside0.mk hnew; have HS3 := Aside0.mk (show w.heap.size < w3.heap.size from by have := hg.size; simp at this; omega); clear ho hb hg hnew)
  | ((with_reducible refine gate_dst (N := 14) rfl ?_); refine Kd.R_lit k36 w.heap.size 36 rfl (N := 14) rfl (xs := ([] : List (S36))) (inner := []) (w0 := w) (ok := fun k => w3.heap.size < k) (okp := fun _ => False) (by go_simp) (Reps.none _ _) (fun _ hk => hk.elim) (by simp) (below_alloc HB.out _) (by have := HS3.out; simp; omega) (by simp) ?_; intro v14 w4 ho hb hg hnew; have RO := Aside0.mk ho; have RA := Aside0.mk (Kd.R_step (Kd.R_alloc RA.out (Obj.cells #[Value.slice Aat l0.length cat] 39)) (fun k _ hk => hg.block k hk (by simp))); have BP := Aside0.mk (blk_grown (blk_alloc BP.out _) hg (by simp)); have BA := Aside0.mk (blk_grown (heap_alloc_new w3 (Obj.cells #[Value.slice Aat l0.length cat] 39)) hg (by simp)); have HB := Aside0.mk hb; clear ho hb hg hnew))
 have hz : keptS l0 met 0 = (List.replicate l0.length 0, []) := rfl
 go_loopg [8, 17] l0.length (fun g v8 v17 w' => ∃ j : Nat, v17 = .int .i64 (j : Int) ∧ Aside0 (g + j = l0.length) ∧ Aside0 (Kd.R (Kd.int .i64) 3 w' w.heap.size (fun k => k ≠ w.heap.size ∧ k < w3.heap.size) (.slice Aat l0.length cat) (keptS l0 met j).1) ∧ Aside0 (Kd.R k36 36 w' w.heap.size (fun k => w3.heap.size < k) v8 (keptS l0 met j).2) ∧
  Aside0 (w'.heap[w.heap.size]? = some (.cells #[.func (.func 86) #[] #[]] 69 (0, 0))) ∧ Aside0 (w'.heap[w3.heap.size]? = some (.cells #[.slice Aat l0.length cat] 39 (0, 0))) ∧ Aside0 (Below w.heap.size w w'))
 case atStart => exact ⟨0, rfl, ⟨rfl⟩, RA, RO, BP, BA, HB⟩
 case round =>
  clear hz
  obtain ⟨j, rfl, HG, RA, RO, BP, BA, HB⟩ := hrel
  obtain ⟨kl1, kl2⟩ := keptS_len l0 met j
  have KL1 := Aside0.mk kl1; have KL2 := Aside0.mk kl2
  clear kl1 kl2
  by_cases hj : j < l0.length
  ·have p1 : (0 : Int) ≤ (j : Int) := by omega
   have p2 : (j : Int) < (l0.length : Int) := by omega
   have t2 : decide ((j : Int) < (l0.length : Int)) = true := decide_eq_true p2
   obtain ⟨ad0, e0, y0, y1, y2, y3, y4, y5⟩ := at_T36 HR0.out (j : Int) p1 p2
   cases e0
   replace y0 := pw_cell_below HB.out y0; replace y1 := pw_cell_below HB.out y1; replace y2 := pw_cell_below HB.out y2; replace y3 := pw_cell_below HB.out y3; replace y4 := pw_cell_below HB.out y4; replace y5 := pw_cell_below HB.out y5
   rw [Int.toNat_natCast] at y0 y1 y2 y3 y4 y5
   have hml : (j : Int) < (met.length : Int) := by have := HMM.out; omega
   obtain ⟨adm, em, hm1⟩ := Kd.at_bool HR1.out (j : Int) p1 hml
   cases em
   replace hm1 := pw_cell_below HB.out hm1
   have hmv : rdOf false met (j : Int) = met.getD j false := rfl
   rw [hmv, Int.toNat_natCast] at hm1
   have t4 : decide ((j : Int) < (met.length : Int)) = true := decide_eq_true hml
   obtain ⟨go, cg, eg, gb, gl, cl, HGO⟩ := Kd.R_form RA.out (by have := KL1.out; omega)
   rw [KL1.out] at eg
   cases eg
   have hpl : ∀ p ∈ partsL (rd_T36 l0 (j : Int)).f0 (rd_T36 l0 (j : Int)).f3 (rd_T36 l0 (j : Int)).f4 (rd_T36 l0 (j : Int)).f5, 0 ≤ p ∧ p < (l0.length : Int) := by
    intro p hp
    have h := List.all_eq_true.mp (List.all_eq_true.mp HP.out j (List.mem_range.mpr hj)) p hp
    simp only [inB, decide_eq_true_eq] at h
    omega
   have hnx : keptS l0 met (j + 1) = if met.getD j false = true then ((keptS l0 met j).1.set j ((keptS l0 met j).2.length : Int), (keptS l0 met j).2 ++ [renN (fun p => rd ((keptS l0 met j).1.set j ((keptS l0 met j).2.length : Int)) p) (rd_T36 l0 (j : Int))]) else keptS l0 met j := rfl
   obtain ⟨ats, hats⟩ : ∃ ats, (keptS l0 met j).1 = ats := ⟨_, rfl⟩
   obtain ⟨out, hout⟩ : ∃ out, (keptS l0 met j).2 = out := ⟨_, rfl⟩
   obtain ⟨⟨op, W, K, A, B, C⟩, hnd⟩ : ∃ n, rd_T36 l0 (j : Int) = n := ⟨_, rfl⟩
   rw [hats] at RA KL1 hnx
   rw [hout] at RO KL2 hnx
   rw [hnd] at y0 y1 y2 y3 y4 y5 hpl hnx
   simp only [] at y0 y1 y2 y3 y4 y5 hpl
   have HPL := Aside0.mk hpl; have HNX := Aside0.mk hnx; have HS := Aside0.mk (And.intro hats hout)
   clear hpl hnx hats hout hnd hmv
   obtain ⟨adx, ex, hx⟩ := Kd.at_int (Kd.R_reads' RA.out).2.2 (j : Int) p1 (by have := KL1.out; omega)
   cases ex
   simp only [add_plain, Int.toNat_natCast] at hx
   have hA := below_alloc (Below.refl wr.heap.size wr) (Obj.cells #[Value.int .i64 op, Value.int .i64 W, Value.int .i64 K, Value.int .i64 A, Value.int .i64 B, Value.int .i64 C] 36)
   have ha2 := (blk_cell (blk_below BA.out hA) 0).trans rfl
   have hx2 := pw_cell_below hA hx
   have hfx := blk_frozen (blk_below HGO hA) j
   have hm2 := pw_cell_below hA hm1
   clear hx hm1 hA
   have gg : go ≠ w.heap.size ∧ go < w3.heap.size := RA.out.1 go rfl
   have GG := Aside0.mk gg
   clear gg
   have AP := Aside0.mk (show ∀ k, Kd.M k36 k w.heap.size (fun _ => False) (⟨0, 0, 0, 0, 0, 0⟩ : S36) [] → True from fun _ _ => trivial)
   clear AP
   cases hmj : met.getD j false with
   | true =>
    rw [hmj] at hm2
    obtain ⟨Ao, co, eo⟩ := Kd.R_slice RO.out
    subst eo
    go_wp2_with fail
    have RA1 := Kd.R_putn RA.out (j : Int) (out.length : Int)
    rw [Int.toNat_natCast] at RA1
    have RA1 := Kd.R_alloc RA1 (Obj.cells #[Value.int .i64 op, Value.int .i64 W, Value.int .i64 K, Value.int .i64 A, Value.int .i64 B, Value.int .i64 C] 36)
    have hb0 : Below w.heap.size w ((wr.setCell ⟨go, j, none⟩ (.int .i64 (out.length : Int))).alloc (Obj.cells #[Value.int .i64 op, Value.int .i64 W, Value.int .i64 K, Value.int .i64 A, Value.int .i64 B, Value.int .i64 C] 36)) := below_alloc (below_set HB.out gb) _
    have BA1 := blk_alloc (blk_far (p := ⟨go, j, none⟩) BA.out (by have := GG.out; simp; omega) (.int .i64 (out.length : Int))) (Obj.cells #[Value.int .i64 op, Value.int .i64 W, Value.int .i64 K, Value.int .i64 A, Value.int .i64 B, Value.int .i64 C] 36)
    have BP1 := blk_alloc (blk_far (p := ⟨go, j, none⟩) BP.out (by have := GG.out; simp; omega) (.int .i64 (out.length : Int))) (Obj.cells #[Value.int .i64 op, Value.int .i64 W, Value.int .i64 K, Value.int .i64 A, Value.int .i64 B, Value.int .i64 C] 36)
    have RO1 := Kd.R_alloc (Kd.R_far (p := ⟨go, j, none⟩) RO.out (fun k hk => by have := GG.out; simp; omega) (.int .i64 (out.length : Int))) (Obj.cells #[Value.int .i64 op, Value.int .i64 W, Value.int .i64 K, Value.int .i64 A, Value.int .i64 B, Value.int .i64 C] 36)
    obtain ⟨A', hA'⟩ : ∃ A', A' = if 0 < (partsL op A B C).length then rd (ats.set j (out.length : Int)) A else A := ⟨_, rfl⟩
    obtain ⟨B', hB'⟩ : ∃ B', B' = if 1 < (partsL op A B C).length then rd (ats.set j (out.length : Int)) B else B := ⟨_, rfl⟩
    obtain ⟨C', hC'⟩ : ∃ C', C' = if 2 < (partsL op A B C).length then rd (ats.set j (out.length : Int)) C else C := ⟨_, rfl⟩
    have HND := Aside0.mk (show (⟨op, W, K, A', B', C'⟩ : S36) = renN (fun p => rd (ats.set j (out.length : Int)) p) ⟨op, W, K, A, B, C⟩ from by unfold renN; simp only []; rw [← hA', ← hB', ← hC'])
    have HA' := Aside0.mk hA'; have HB' := Aside0.mk hB'; have HC' := Aside0.mk hC'
    clear hA' hB' hC'
    refine (impl_renumber.calls 108 #[.pointer (some ⟨w3.heap.size, 0, none⟩), .pointer (some ⟨w.heap.size, 0, none⟩)] (fun p => rd (ats.set j (out.length : Int)) p) (fun p => 0 ≤ p ∧ p < (l0.length : Int)) op W K A B C _ (fun _ _ => rfl) ?hp HPL.out A' B' C' HA'.out HB'.out HC'.out).mono ?_
    case hp =>
     intro W' i hW' hi
     have hlen : ((ats.set j (out.length : Int)).length : Int) = l0.length := by rw [List.length_set]; have := KL1.out; omega
     obtain ⟨ad', e', hx'⟩ := Kd.at_int (Kd.R_reads' (Kd.R_below RA1 hW')).2.2 i hi.1 (by omega)
     cases e'
     have hs : (l0.length : Nat) = (ats.set j (out.length : Int)).length := by omega
     refine impl_kept_1.calls ⟨go, 0, none⟩ cat (ats.set j (out.length : Int)) i w3.heap.size w.heap.size W' hx' ?_ ((blk_cell (blk_below BP1 hW') 0).trans rfl) hi.1 (by omega)
     rw [← hs]
     exact (blk_cell (blk_below BA1 hW') 0).trans rfl
    rintro e w5 ⟨rfl, hb⟩
    have RA := Aside0.mk (Kd.R_below RA1 hb); have RO := Aside0.mk (Kd.R_below RO1 hb); have BA := Aside0.mk (blk_below BA1 hb); have BP := Aside0.mk (blk_below BP1 hb); have HB := Aside0.mk (hb0.trans (hb.mono (below_size hb0)))
    have GL := Aside0.mk (show w3.heap.size < w5.heap.size from by have := (Array.getElem?_eq_some_iff.1 BA.out).1; omega)
    clear RA1 RO1 BA1 BP1 hb hb0
    have LO := Aside0.mk (show out.length ≤ 1048576 from by have := KL2.out; omega)
    go_wp2_with (((with_reducible refine gate_builtin (b := .append) (xs := #[.tmp 31, .tmp 35]) rfl ?_); at_builtin; refine Kd.R_append k36 (w0 := w) w.heap.size rfl (.tmp 31) (.tmp 35) 25 36 (.agg #[(.int .i64 0), (.int .i64 0), (.int .i64 0), (.int .i64 0), (.int .i64 0), (.int .i64 0)]) 48 rfl Try.underlying25 info36 rfl (by decide) (by omega) (.slice Ao out.length co) out (⟨op, W, K, A', B', C'⟩ : S36) [.int .i64 op, .int .i64 W, .int .i64 K, .int .i64 A', .int .i64 B', .int .i64 C'] (fun k => w3.heap.size < k) (fun _ => False) rfl rfl (k36_mkM _ _ _ (⟨op, W, K, A', B', C'⟩ : S36)) (fun _ hk => hk.elim) (fun k hk => by have := GL.out; omega) RO.out HB.out HB.out.size (by have := LO.out; omega) ?_; intro v36 w6 ho hb hg hat; have RA := Aside0.mk (Kd.R_step RA.out (fun k hk hl => hg.block k hl (by intro h; have := RO.out.1 k h.symm; have := hk.2; omega))); have BP := Aside0.mk (blk_grown BP.out hg (by intro h; have := RO.out.1 _ h.symm; have := HS3.out; omega)); have BA := Aside0.mk (blk_grown BA.out hg (by intro h; have := RO.out.1 _ h.symm; omega)); have RO := Aside0.mk ho; have HB := Aside0.mk hb; clear ho hb hg hat))
    obtain ⟨g1, rfl⟩ : ∃ g1, gk = g1 + 1 := ⟨gk - 1, by have := HG.out; omega⟩
    have hn := HNX.out
    rw [hmj, if_pos rfl] at hn
    have h1 : (keptS l0 met (j + 1)).1 = ats.set j (out.length : Int) := by rw [hn]
    have h2 : (keptS l0 met (j + 1)).2 = out ++ [⟨op, W, K, A', B', C'⟩] := by rw [hn, HND.out]
    clear hn
    go_roundg g1
    case measure => omega
    case rel =>
     refine ⟨j + 1, by go_num, ⟨by have := HG.out; omega⟩, ⟨?_⟩, ⟨?_⟩, BP, BA, HB⟩
     ·rw [h1]; exact RA.out
     ·rw [h2]; exact RO.out
   | false =>
    rw [hmj] at hm2
    have RA1 := Kd.R_alloc RA.out (Obj.cells #[Value.int .i64 op, Value.int .i64 W, Value.int .i64 K, Value.int .i64 A, Value.int .i64 B, Value.int .i64 C] 36)
    have RO1 := Kd.R_alloc RO.out (Obj.cells #[Value.int .i64 op, Value.int .i64 W, Value.int .i64 K, Value.int .i64 A, Value.int .i64 B, Value.int .i64 C] 36)
    have BP1 := blk_alloc BP.out (Obj.cells #[Value.int .i64 op, Value.int .i64 W, Value.int .i64 K, Value.int .i64 A, Value.int .i64 B, Value.int .i64 C] 36)
    have BA1 := blk_alloc BA.out (Obj.cells #[Value.int .i64 op, Value.int .i64 W, Value.int .i64 K, Value.int .i64 A, Value.int .i64 B, Value.int .i64 C] 36)
    have HB1 := below_alloc HB.out (Obj.cells #[Value.int .i64 op, Value.int .i64 W, Value.int .i64 K, Value.int .i64 A, Value.int .i64 B, Value.int .i64 C] 36)
    have RA := Aside0.mk RA1; have RO := Aside0.mk RO1; have BP := Aside0.mk BP1; have BA := Aside0.mk BA1; have HB := Aside0.mk HB1
    clear RA1 RO1 BP1 BA1 HB1
    go_wp2_with fail
    obtain ⟨g1, rfl⟩ : ∃ g1, gk = g1 + 1 := ⟨gk - 1, by have := HG.out; omega⟩
    have hn := HNX.out
    rw [hmj, if_neg (by decide)] at hn
    have h1 : (keptS l0 met (j + 1)).1 = ats := by rw [hn]; exact HS.out.1
    have h2 : (keptS l0 met (j + 1)).2 = out := by rw [hn]; exact HS.out.2
    clear hn
    go_roundg g1
    case measure => omega
    case rel =>
     refine ⟨j + 1, by go_num, ⟨by have := HG.out; omega⟩, ⟨?_⟩, ⟨?_⟩, BP, BA, HB⟩
     ·rw [h1]; exact RA.out
     ·rw [h2]; exact RO.out
  ·obtain rfl : j = l0.length := by have := HG.out; omega
   have t2 : decide ((l0.length : Int) < (l0.length : Int)) = false := decide_eq_false (by omega)
   go_wp2_with fail
   go_ret
   exact ⟨_, rfl, Kd.R_mono RO.out (fun _ _ => trivial), HB.out⟩
def impl_Prune.f (k : Nat) (l0 : List (S36)) : Option (List (S36)) :=
 (impl_TermOk.f k l0).bind fun b => if b = true then (impl_reached.f k l0).bind fun met => (if met.length = l0.length ∧ l0.length ≤ 1048576 ∧ partsInB l0 = true then some (keptS l0 met l0.length).2 else none) else some []
theorem impl_Prune.mono : ∀ a0 k, LeO (impl_Prune.f k a0) (impl_Prune.f (k + 1) a0) := by
 intro a0 k
 unfold impl_Prune.f
 exact LeO.bind (impl_TermOk.mono _ _) (fun b => LeO.ite (LeO.bind (impl_reached.mono _ _) (fun _ => LeO.refl _)) (LeO.refl _))
set_option maxHeartbeats 4000000 in
set_option maxRecDepth 100000 in
theorem impl_Prune.calls (k : Nat) (A0 : Option Addr) (c0 : Nat) (l0 : List (S36)) (r : List (S36)) (w : World) (hr0 : Kd.C k36 w A0 l0.length l0) (hc0 : l0.length ≤ c0) (h : impl_Prune.f k l0 = some r) :
  Calls Try.prog 37 #[.slice A0 l0.length c0] w fun e w' => ∃ v0_ : Value, e = .returned (v0_) ∧ Kd.R k36 36 w' w.heap.size (fun _ => True) v0_ r ∧ Below w.heap.size w w' := by
 unfold impl_Prune.f at h
 obtain ⟨b, hb, h⟩ := Option.bind_eq_some_iff.mp h
 have HR0 := Aside0.mk hr0; have HC0 := Aside0.mk hc0; have HT := Aside0.mk hb
 clear hr0 hc0 hb
 cases b with
 | false =>
  rw [if_neg (by decide)] at h
  obtain rfl := Option.some.inj h
  clear h
  go_enter Try.func37, Try.ntmps37
  go_wp2_with fail
  refine (impl_TermOk.calls k A0 c0 l0 false w HR0.out HC0.out HT.out).mono ?_
  rintro e w2 ⟨rfl, hb⟩
  have HB := Aside0.mk hb
  clear hb
  go_wp2
  go_ret
  exact ⟨_, rfl, Kd.R_nil _ _ _ _ (fun _ => True), HB.out⟩
 | true =>
  rw [if_pos rfl] at h
  obtain ⟨met, hm, h⟩ := Option.bind_eq_some_iff.mp h
  by_cases hc : met.length = l0.length ∧ l0.length ≤ 1048576 ∧ partsInB l0 = true
  ·rw [if_pos hc] at h
   obtain rfl := Option.some.inj h
   clear h
   have HM := Aside0.mk hm; have HC := Aside0.mk hc
   clear hm hc
   go_enter Try.func37, Try.ntmps37
   go_wp2_with fail
   refine (impl_TermOk.calls k A0 c0 l0 true w HR0.out HC0.out HT.out).mono ?_
   rintro e w2 ⟨rfl, hb⟩
   have HB := Aside0.mk hb
   clear hb
   go_wp2_with fail
   refine (impl_reached.calls k A0 c0 l0 met w2 (Kd.C_below HR0.out HB.out) HC0.out HM.out).mono ?_
   rintro e w3 ⟨v0, rfl, HO, hb⟩
   have HB3 := Aside0.mk (HB.out.trans (hb.mono HB.out.size))
   obtain ⟨A1, c1, rfl, h1, h2⟩ := Kd.R_reads HO
   have H2 := Aside0.mk h2; have H1 := Aside0.mk h1
   clear hb HO h1 h2
   go_wp2_with fail
   refine (impl_kept.calls A0 c0 l0 A1 c1 met w3 (Kd.C_below HR0.out HB3.out) HC0.out H2.out H1.out HC.out.2.1 HC.out.1 HC.out.2.2).mono ?_
   rintro e w4 ⟨v1, rfl, HO, hb⟩
   have HO4 := Aside0.mk (Kd.R_lower HO HB3.out.size)
   have HB4 := Aside0.mk (HB3.out.trans (hb.mono HB3.out.size))
   clear HO hb
   go_wp2
   go_ret
   exact ⟨v1, rfl, HO4.out, HB4.out⟩
  ·rw [if_neg hc] at h
   exact absurd h (by simp)

end Go.Proofs.Ytdebihfmceclkaa.PAll
