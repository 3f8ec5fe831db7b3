/- FnExactHalf: what the printed functions come to, for every input. -/
import Derived.Test.YthepgolhpllpbaaPFnExactHalfx2
import Derived.Test.YthepgolhpllpbaaBase
import Derived.Test.YthepgolhpllpbaaEv
import Derived.Test.YthepgolhpllpbaaWalkFnExactHalf
set_option linter.unusedVariables false
set_option linter.unusedSimpArgs false
namespace Go.Proofs.Ythepgolhpllpbaa.Pure.ExactHalfW
open Go.RowKit Go.Proofs.Ythepgolhpllpbaa.PFnExactHalf Go.Proofs.YthepgolhpllpbaaW.PrintWords Go.Proofs.YthepgolhpllpbaaW.PrintLast Go.Proofs.YthepgolhpllpbaaW.PrintMore Go.Proofs.Ythepgolhpllpbaa.Base

theorem pow2 {w : Int} (h0 : 0 ≤ w) (h8 : w ≤ 8) {k : Nat} (hk : 20 ≤ k) : spec_l01Pow2.f k w = some (P2 w) := by
  obtain ⟨m, rfl⟩ := rounds_of hk
  have : w = 0 ∨ w = 1 ∨ w = 2 ∨ w = 3 ∨ w = 4 ∨ w = 5 ∨ w = 6 ∨ w = 7 ∨ w = 8 := by omega
  rcases this with rfl | rfl | rfl | rfl | rfl | rfl | rfl | rfl | rfl <;> simp [spec_l01Pow2.f, spec_l01Pow2.l0, P2, wrap64]


theorem inS (x a b : Int) : spec_l01In.f x a b = some (decide (a ≤ x ∧ x ≤ b)) := by
  unfold spec_l01In.f
  by_cases h : x ≥ a
  · rw [if_pos h]; simp [h]
  · rw [if_neg h]; simp [h]


theorem inI (x a b : Int) : impl_within.f x a b = some (decide (a ≤ x ∧ x ≤ b)) := by
  unfold impl_within.f
  by_cases h : x ≥ a
  · rw [if_pos h]; simp [h]
  · rw [if_neg h]; simp [h]

end Go.Proofs.Ythepgolhpllpbaa.Pure.ExactHalfW
namespace Go.Proofs.Ythepgolhpllpbaa.Pure
open Go.RowKit Go.Proofs.Ythepgolhpllpbaa.PFnExactHalf Go.Proofs.YthepgolhpllpbaaW.PrintWords Go.Proofs.YthepgolhpllpbaaW.PrintLast Go.Proofs.YthepgolhpllpbaaW.PrintMore Go.Proofs.Ythepgolhpllpbaa.Base Go.Proofs.Ythepgolhpllpbaa.Pure.ExactHalfW

theorem pow12 {w : Int} (h0 : 0 ≤ w) (h8 : w ≤ 12) {k : Nat} (hk : 20 ≤ k) : spec_l01Pow2.f k w = some (P2 w) := by
  obtain ⟨m, rfl⟩ := rounds_of hk
  have : w = 0 ∨ w = 1 ∨ w = 2 ∨ w = 3 ∨ w = 4 ∨ w = 5 ∨ w = 6 ∨ w = 7 ∨ w = 8 ∨ w = 9 ∨ w = 10 ∨ w = 11 ∨ w = 12 := by omega
  rcases this with rfl | rfl | rfl | rfl | rfl | rfl | rfl | rfl | rfl | rfl | rfl | rfl | rfl <;> simp [spec_l01Pow2.f, spec_l01Pow2.l0, P2, wrap64]
theorem shl12 {w : Int} (h0 : 0 ≤ w) (h8 : w ≤ 12) : shl .i64 1 w = P2 w := by
  have : w = 0 ∨ w = 1 ∨ w = 2 ∨ w = 3 ∨ w = 4 ∨ w = 5 ∨ w = 6 ∨ w = 7 ∨ w = 8 ∨ w = 9 ∨ w = 10 ∨ w = 11 ∨ w = 12 := by omega
  rcases this with rfl | rfl | rfl | rfl | rfl | rfl | rfl | rfl | rfl | rfl | rfl | rfl | rfl <;> simp [shl, IntKind.wrap_i64, IntKind.bits, P2]
theorem tab_same (n : Int) (s : ByteArray) (hs : s.size ≤ 9223372036854775807) (d : Nat) : ∀ (i : Nat), i ≤ s.size → s.size - i = d → ∃ r, Ev (fun k => spec_TableOk.l0 k (i : Int) n s) r ∧ Ev (fun k => impl_TableOk.l0 k (s.size : Int) (i : Int) n s) r := by
  induction d with
  | zero =>
    intro i hi hd
    refine ⟨true, ev_succ ?_, ev_succ ?_⟩
    · simp only [spec_TableOk.l0]; exact ev_neg (by omega) ev_now
    · simp only [impl_TableOk.l0]; exact ev_neg (by omega) ev_now
  | succ d ih =>
    intro i hi hd
    obtain ⟨r, e1, e2⟩ := ih (i + 1) (by omega) (by omega)
    by_cases h48 : bt s (i : Int) = 48
    · refine ⟨r, ev_succ ?_, ev_succ ?_⟩
      · simp only [spec_TableOk.l0]
        refine ev_pos (by omega) (ev_pos (by omega) (ev_pos h48 ?_))
        rw [wrap_id (by omega) (by omega)]; exact e1
      · simp only [impl_TableOk.l0]
        refine ev_pos (by omega) (ev_pos (by omega) (ev_pos (by omega) (ev_pos h48 ?_)))
        rw [wrap_id (by omega) (by omega)]; exact e2
    · by_cases h49 : bt s (i : Int) = 49
      · refine ⟨r, ev_succ ?_, ev_succ ?_⟩
        · simp only [spec_TableOk.l0]
          refine ev_pos (by omega) (ev_pos (by omega) (ev_neg h48 (ev_pos h49 ?_)))
          rw [wrap_id (by omega) (by omega)]; exact e1
        · simp only [impl_TableOk.l0]
          refine ev_pos (by omega) (ev_pos (by omega) (ev_pos (by omega) (ev_neg h48 (ev_pos h49 ?_))))
          rw [wrap_id (by omega) (by omega)]; exact e2
      · refine ⟨false, ev_succ ?_, ev_succ ?_⟩
        · simp only [spec_TableOk.l0]
          exact ev_pos (by omega) (ev_pos (by omega) (ev_neg h48 (ev_neg h49 ev_now)))
        · simp only [impl_TableOk.l0]
          exact ev_pos (by omega) (ev_pos (by omega) (ev_pos (by omega) (ev_neg h48 (ev_neg h49 ev_now))))
theorem table_ev (n : Int) (s : ByteArray) (hs : s.size ≤ 9223372036854775807) : ∃ r, Ev (fun k => spec_TableOk.f k n s) r ∧ Ev (fun k => impl_TableOk.f k n s) r ∧ (r = true → 0 ≤ n ∧ n ≤ 12 ∧ (s.size : Int) = P2 n) := by
  have no : Ev (fun k => spec_TableOk.j0 k true n s) false ∧ Ev (fun k => impl_TableOk.j0 k true n s) false := by
    refine ⟨ev_succ ?_, ev_succ ?_⟩
    · simp only [spec_TableOk.j0]; exact ev_pos trivial ev_now
    · simp only [impl_TableOk.j0]; exact ev_pos trivial ev_now
  by_cases hn : 0 ≤ n ∧ n ≤ 12
  · by_cases hsz : (s.size : Int) = P2 n
    · obtain ⟨r, e1, e2⟩ := tab_same n s hs s.size 0 (by omega) (by omega)
      refine ⟨r, ?_, ?_, fun _ => ⟨hn.1, hn.2, hsz⟩⟩
      · unfold spec_TableOk.f
        refine ev_bind0 (inS _ _ _) (ev_pos (by simpa using hn) (ev_bind (ev_of 20 fun k hk => pow12 hn.1 hn.2 hk) ?_))
        rw [show ((s.size : Int) != P2 n) = false by simp [hsz]]
        refine ev_succ ?_
        simp only [spec_TableOk.j0]; exact ev_neg (by simp) e1
      · unfold impl_TableOk.f
        refine ev_bind0 (inI _ _ _) (ev_pos (by simpa using hn) (ev_pos (u64_nonneg n) ?_))
        rw [u64_id (by omega) (by omega), shl12 hn.1 hn.2, show ((s.size : Int) != P2 n) = false by simp [hsz]]
        refine ev_succ ?_
        simp only [impl_TableOk.j0]; exact ev_neg (by simp) e2
    · refine ⟨false, ?_, ?_, fun h => by cases h⟩
      · unfold spec_TableOk.f
        refine ev_bind0 (inS _ _ _) (ev_pos (by simpa using hn) (ev_bind (ev_of 20 fun k hk => pow12 hn.1 hn.2 hk) ?_))
        rw [show ((s.size : Int) != P2 n) = true by simp [hsz]]; exact no.1
      · unfold impl_TableOk.f
        refine ev_bind0 (inI _ _ _) (ev_pos (by simpa using hn) (ev_pos (u64_nonneg n) ?_))
        rw [u64_id (by omega) (by omega), shl12 hn.1 hn.2, show ((s.size : Int) != P2 n) = true by simp [hsz]]; exact no.2
  · refine ⟨false, ?_, ?_, fun h => by cases h⟩
    · unfold spec_TableOk.f
      exact ev_bind0 (inS _ _ _) (ev_neg (by simpa using hn) no.1)
    · unfold impl_TableOk.f
      exact ev_bind0 (inI _ _ _) (ev_neg (by simpa using hn) no.2)
theorem szTable (n : Int) (s : ByteArray) (hs : s.size ≤ 9223372036854775807) : laws_szTable.f n s 1048576 = some (if (s.size : Int) > 1048576 then -1 else 1048576 - (s.size : Int)) := by
  unfold laws_szTable.f
  rw [wrap_id (by omega) (by omega)]
  by_cases c : (s.size : Int) > 1048576
  · rw [if_pos (by omega), if_pos c]
  · rw [if_neg (by omega), if_neg c]

theorem eqTableH (n : Int) (s : ByteArray) : laws_eqTable.f n s n s = some true := by
  unfold laws_eqTable.f; simp
theorem P2_up {n : Int} (h1 : 1 ≤ n) (h2 : n ≤ 12) : P2 n = 2 * P2 (n - 1) ∧ 1 ≤ P2 (n - 1) ∧ P2 (n - 1) ≤ 2048 := by
  have : n = 1 ∨ n = 2 ∨ n = 3 ∨ n = 4 ∨ n = 5 ∨ n = 6 ∨ n = 7 ∨ n = 8 ∨ n = 9 ∨ n = 10 ∨ n = 11 ∨ n = 12 := by omega
  rcases this with rfl | rfl | rfl | rfl | rfl | rfl | rfl | rfl | rfl | rfl | rfl | rfl <;> simp [P2]
theorem half_ev (n : Int) (s : ByteArray) (b : Int) (hs : s.size ≤ 9223372036854775807) : ∃ r : Int × ByteArray × Bool, Ev (fun k => spec_Half.f k n s b) r ∧ Ev (fun k => impl_Half.f k n s b) r := by
  obtain ⟨r, e1, e2, hr⟩ := table_ev n s hs
  unfold spec_Half.f impl_Half.f
  by_cases hb : r = true
  · obtain ⟨h0, h12, hsz⟩ := hr hb
    by_cases hn : n = 0
    · exact ⟨_, ev_bind e1 (ev_pos hb (ev_pos hn ev_now)), ev_bind e2 (ev_pos hb (ev_pos hn ev_now))⟩
    · obtain ⟨hp, p1, p2⟩ := P2_up (by omega : 1 ≤ n) h12
      have hh : (s.size : Int) / 2 = P2 (n - 1) := by omega
      have hw : wrap64 ((s.size : Int) / 2) = P2 (n - 1) := by rw [hh, wrap_id (by omega) (by omega)]
      by_cases h_0 : b = 0
      · refine ⟨(wrap64 (n - 1), s.extract 0 (P2 (n - 1)).toNat, true), ev_bind e1 (ev_pos hb (ev_neg hn (ev_bind0 (inS _ _ _) (ev_pos (by simp [h_0]) ?_)))), ev_bind e2 (ev_pos hb (ev_neg hn (ev_pos h_0 ?_)))⟩
        · subst h_0
          rw [hw, show (0 : Int) * P2 (n - 1) = 0 by omega, wrap_id (x := (0 : Int)) (by omega) (by omega), wrap_id (by omega) (by omega), Int.zero_add]
          exact ev_pos (by omega) (ev_pos (by omega) (ev_pos (by omega) ev_now))
        · refine ev_bind0 (a := (wrap64 (n - 1), s.extract 0 (P2 (n - 1)).toNat)) ?_ ev_now
          unfold impl_Table_half.f
          rw [hw, if_pos h_0, if_pos (by omega), if_pos (by omega)]
      · by_cases h_1 : b = 1
        · refine ⟨(wrap64 (n - 1), s.extract (P2 (n - 1)).toNat s.size, true), ev_bind e1 (ev_pos hb (ev_neg hn (ev_bind0 (inS _ _ _) (ev_pos (by simp [h_1]) ?_)))), ev_bind e2 (ev_pos hb (ev_neg hn (ev_neg h_0 (ev_pos h_1 ?_))))⟩
          · subst h_1
            rw [hw, Int.one_mul, wrap_id (x := P2 (n - 1)) (by omega) (by omega), wrap_id (x := P2 (n - 1) + P2 (n - 1)) (by omega) (by omega), show (P2 (n - 1) + P2 (n - 1)).toNat = s.size by omega]
            exact ev_pos (by omega) (ev_pos (by omega) (ev_pos (by omega) ev_now))
          · refine ev_bind0 (a := (wrap64 (n - 1), s.extract (P2 (n - 1)).toNat s.size)) ?_ ev_now
            unfold impl_Table_half.f
            rw [hw, if_neg h_0, if_pos (by omega), if_pos (by omega)]
        · exact ⟨_, ev_bind e1 (ev_pos hb (ev_neg hn (ev_bind0 (inS _ _ _) (ev_neg (by simp; omega) ev_now)))), ev_bind e2 (ev_pos hb (ev_neg hn (ev_neg h_0 (ev_neg h_1 ev_now))))⟩
  · exact ⟨_, ev_bind e1 (ev_neg hb ev_now), ev_bind e2 (ev_neg hb ev_now)⟩
theorem FnExactHalf : laws_FnExactHalf.Pure := by
  intro n s b hn hs hb
  refine Ev.rounds ?_
  unfold laws_FnExactHalf.f
  refine ev_bind0 (szTable n s hs) ?_
  by_cases hb : (s.size : Int) > 1048576
  · rw [if_pos hb]; exact ev_pos (by omega) ev_now
  · rw [if_neg hb]
    obtain ⟨r, e1, e2⟩ := half_ev n s b hs
    exact ev_neg (by omega) (ev_bind0 rfl (ev_bind e1 (ev_bind0 rfl (ev_bind e2 (ev_bind0 (eqTableH _ _) (ev_pos rfl (ev_neg (by simp) ev_now)))))))
end Go.Proofs.Ythepgolhpllpbaa.Pure
