/- FnExactSwaps: what the printed functions come to, for every input. -/
import Derived.Test.YthepgolhpllpbaaPFnExactSwapsx2
import Derived.Test.YthepgolhpllpbaaBase
import Derived.Test.YthepgolhpllpbaaEv
import Derived.Test.YthepgolhpllpbaaWalkFnExactSwaps
set_option linter.unusedVariables false
set_option linter.unusedSimpArgs false
namespace Go.Proofs.Ythepgolhpllpbaa.Pure.ExactSwapsW
open Go.RowKit Go.Proofs.Ythepgolhpllpbaa.PFnExactSwaps Go.Proofs.YthepgolhpllpbaaW.PrintWords Go.Proofs.YthepgolhpllpbaaW.PrintLast Go.Proofs.YthepgolhpllpbaaW.PrintMore Go.Proofs.Ythepgolhpllpbaa.Base

theorem szQuant (l : List S72) (h : l.length ≤ 9223372036854775807) : laws_szQuantS.f l 1048576 = some (if (l.length : Int) > 1048576 then -1 else 1048576 - (l.length : Int)) := by
  unfold laws_szQuantS.f
  rw [wrap_id (by omega) (by omega)]
  by_cases c : (l.length : Int) > 1048576
  · rw [if_pos (by omega), if_pos c]
  · rw [if_neg (by omega), if_neg c]


theorem szQuant_left (l : List S72) (h : l.length ≤ 9223372036854775807) (m : Int) (h0 : 0 ≤ m) (h1 : m ≤ 1048576) : laws_szQuantS.f l m = some (if (l.length : Int) > m then -1 else m - (l.length : Int)) := by
  unfold laws_szQuantS.f
  rw [wrap_id (by omega) (by omega)]
  by_cases c : (l.length : Int) > m
  · rw [if_pos (by omega), if_pos c]
  · rw [if_neg (by omega), if_neg c]


def cvQuant (x : S72) : S70 := ⟨x.f0, x.f1, x.f2⟩
theorem toQuant_from (l : List S72) (hl : l.length ≤ 1048576) (d : Nat) : ∀ (k : Nat) (acc : List S70) (i : Nat), acc.length = l.length → i ≤ l.length → l.length - i = d → d < k →
    laws_toQuantS.l0 k l acc (i : Int) = some (acc.take i ++ (l.drop i).map cvQuant) := by
  induction d with
  | zero =>
    intro k acc i ha hi hd hk
    obtain ⟨k, rfl⟩ : ∃ m, k = m + 1 := ⟨k - 1, by omega⟩
    simp only [laws_toQuantS.l0]
    rw [if_neg (by omega), List.drop_eq_nil_of_le (by omega), List.take_of_length_le (by omega)]; simp
  | succ d ih =>
    intro k acc i ha hi hd hk
    obtain ⟨k, rfl⟩ : ∃ m, k = m + 1 := ⟨k - 1, by omega⟩
    have hlt : i < l.length := by omega
    simp only [laws_toQuantS.l0]
    rw [if_pos (by omega), if_pos (by omega)]
    unfold laws_toQuant.f
    simp only [Option.bind_some]
    have hrd : rd_T72 l (i : Int) = l[i] := by
      unfold rd_T72
      rw [Int.toNat_natCast, List.getD_eq_getElem?_getD, List.getElem?_eq_getElem hlt]; rfl
    rw [if_pos (by omega), hrd, wrap_id (by omega) (by omega), show ((i : Int) + 1) = ((i + 1 : Nat) : Int) by omega, Int.toNat_natCast,
      ih k _ (i + 1) (by simpa using ha) (by omega) (by omega) (by omega)]
    congr 1
    rw [List.drop_eq_getElem_cons hlt, List.map_cons]
    have ht : (acc.set i (cvQuant l[i])).take (i + 1) = acc.take i ++ [cvQuant l[i]] := by
      rw [List.take_succ_eq_append_getElem (by simpa using (by omega : i < acc.length)), List.take_set_of_le (by omega)]
      simp
    show (acc.set i (cvQuant l[i])).take (i + 1) ++ _ = _
    rw [ht, List.append_assoc]; rfl
theorem toQuant (l : List S72) (hl : l.length ≤ 1048576) : Ev (fun k => laws_toQuantS.f k l) (l.map cvQuant) := by
  refine ev_of (l.length + 2) fun k hk => ?_
  unfold laws_toQuantS.f
  rw [if_pos (by omega), if_pos (by omega)]
  have := toQuant_from l hl l.length k (List.replicate ((l.length : Int) : Int).toNat z70) 0 (by simp) (by omega) (by omega) (by omega)
  simpa using this


theorem eqQuant_one (x : S70) : laws_eqQuant.f x.f0 x.f1 x.f2 x.f0 x.f1 x.f2 = some true := by
  unfold laws_eqQuant.f; simp
theorem eqQuant_from (l : List S70) (hl : l.length ≤ 4611686018427387904) (d : Nat) : ∀ (k i : Nat), i ≤ l.length → l.length - i = d → d < k → laws_eqQuantS.l0 k l l (i : Int) = some true := by
  induction d with
  | zero =>
    intro k i hi hd hk
    obtain ⟨k, rfl⟩ : ∃ m, k = m + 1 := ⟨k - 1, by omega⟩
    simp only [laws_eqQuantS.l0]
    rw [if_neg (by omega)]
  | succ d ih =>
    intro k i hi hd hk
    obtain ⟨k, rfl⟩ : ∃ m, k = m + 1 := ⟨k - 1, by omega⟩
    simp only [laws_eqQuantS.l0]
    rw [if_pos (by omega), if_pos (by omega), if_pos (by omega), eqQuant_one]
    simp only [Option.bind_some, if_true]
    rw [wrap_id (by omega) (by omega), show ((i : Int) + 1) = ((i + 1 : Nat) : Int) by omega]
    exact ih k (i + 1) (by omega) (by omega) (by omega)
theorem eqQuant (l : List S70) (hl : l.length ≤ 4611686018427387904) : Ev (fun k => laws_eqQuantS.f k l l) true := by
  refine ev_of (l.length + 2) fun k hk => ?_
  unfold laws_eqQuantS.f
  rw [if_pos rfl]
  exact eqQuant_from l hl l.length k 0 (by omega) (by omega) (by omega)

end Go.Proofs.Ythepgolhpllpbaa.Pure.ExactSwapsW
namespace Go.Proofs.Ythepgolhpllpbaa.Pure
open Go.RowKit Go.Proofs.Ythepgolhpllpbaa.PFnExactSwaps Go.Proofs.YthepgolhpllpbaaW.PrintWords Go.Proofs.YthepgolhpllpbaaW.PrintLast Go.Proofs.YthepgolhpllpbaaW.PrintMore Go.Proofs.Ythepgolhpllpbaa.Base Go.Proofs.Ythepgolhpllpbaa.Pure.ExactSwapsW

theorem swaps_same (l : List S70) (hl : l.length ≤ 1048576) (d : Nat) : ∀ (k : Nat) (c : Int) (i : Nat), 1 ≤ i → l.length - i = d → d < k → 0 ≤ c → c ≤ i → ∃ r, spec_Swaps.l0 k l c (i : Int) = some r ∧ impl_Swaps.l0 k l c (i : Int) = some r := by
  induction d with
  | zero =>
    intro k c i h1 hd hk c0 c1
    obtain ⟨k, rfl⟩ : ∃ m, k = m + 1 := ⟨k - 1, by omega⟩
    simp only [spec_Swaps.l0, impl_Swaps.l0]
    rw [if_neg (by omega), if_neg (by omega)]; exact ⟨_, rfl, rfl⟩
  | succ d ih =>
    intro k c i h1 hd hk c0 c1
    obtain ⟨k, rfl⟩ : ∃ m, k = m + 1 := ⟨k - 1, by omega⟩
    simp only [spec_Swaps.l0, impl_Swaps.l0]
    rw [wrap_id (x := (i : Int) - 1) (by omega) (by omega), wrap_id (x := c + 1) (by omega) (by omega), wrap_id (x := (i : Int) + 1) (by omega) (by omega), show ((i : Int) + 1) = ((i + 1 : Nat) : Int) by omega]
    have p1 : (i : Int) < (l.length : Int) := by omega
    have p2 : (0 : Int) ≤ (i : Int) := by omega
    have p3 : (0 : Int) ≤ (i : Int) - 1 := by omega
    have p4 : (i : Int) - 1 < (l.length : Int) := by omega
    simp only [p1, p2, p3, p4, if_true]
    by_cases hc : ((rd_T70 l (i : Int)).f0 != (rd_T70 l ((i : Int) - 1)).f0) = true
    · rw [if_pos hc, if_pos hc]; exact ih k (c + 1) (i + 1) (by omega) (by omega) (by omega) (by omega) (by omega)
    · rw [if_neg hc, if_neg hc]; exact ih k c (i + 1) (by omega) (by omega) (by omega) (by omega) (by omega)
theorem swaps_ev (l : List S70) (hl : l.length ≤ 1048576) : ∃ r, Ev (fun k => spec_Swaps.f k l) r ∧ Ev (fun k => impl_Swaps.f k l) r := by
  obtain ⟨r, h1, h2⟩ := swaps_same l hl (l.length - 1) (l.length + 1) 0 1 (by omega) (by omega) (by omega) (by omega) (by omega)
  exact ⟨r, Ev.of (spec_Swaps.mono l) h1, Ev.of (impl_Swaps.mono l) h2⟩
theorem FnExactSwaps : laws_FnExactSwaps.Pure := by
  intro l h0 h1 h2
  refine Ev.rounds ?_
  unfold laws_FnExactSwaps.f
  refine ev_bind0 (szQuant l h0) ?_
  by_cases hb : (l.length : Int) > 1048576
  · rw [if_pos hb]; exact ev_pos (by omega) ev_now
  · rw [if_neg hb]
    refine ev_neg (by omega) ?_
    have hl : l.length ≤ 1048576 := by omega
    refine ev_bind (toQuant l hl) ?_
    have hl2 : (l.map cvQuant).length ≤ 1048576 := by simpa using hl
    obtain ⟨r, e1, e2⟩ := swaps_ev (l.map cvQuant) hl2
    refine ev_bind e1 (ev_bind (toQuant l hl) (ev_bind e2 (ev_pos rfl (ev_bind (toQuant l hl) (ev_bind (eqQuant _ (by omega)) (ev_pos rfl ev_now))))))
end Go.Proofs.Ythepgolhpllpbaa.Pure
