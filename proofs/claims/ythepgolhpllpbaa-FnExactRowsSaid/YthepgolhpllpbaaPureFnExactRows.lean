/- FnExactRows: what the printed functions come to, for every input. -/
import Derived.Test.YthepgolhpllpbaaPFnExactRowsx3
import Derived.Test.YthepgolhpllpbaaBase
import Derived.Test.YthepgolhpllpbaaEv
import Derived.Test.YthepgolhpllpbaaWalkFnExactRows
set_option linter.unusedVariables false
set_option linter.unusedSimpArgs false
namespace Go.Proofs.Ythepgolhpllpbaa.Pure.ExactRowsW
open Go.RowKit Go.Proofs.Ythepgolhpllpbaa.PFnExactRows Go.Proofs.YthepgolhpllpbaaW.PrintWords Go.Proofs.YthepgolhpllpbaaW.PrintLast Go.Proofs.YthepgolhpllpbaaW.PrintMore Go.Proofs.Ythepgolhpllpbaa.Base

theorem inS (x a b : Int) : spec_l01In.f x a b = some (decide (a ≤ x ∧ x ≤ b)) := by
  unfold spec_l01In.f
  by_cases h : x ≥ a
  · rw [if_pos h]; simp [h]
  · rw [if_neg h]; simp [h]


theorem inI (x a b : Int) : impl_within.f x a b = some (decide (a ≤ x ∧ x ≤ b)) := by
  unfold impl_within.f
  by_cases h : x ≥ a
  · rw [if_pos h]; simp [h]
  · rw [if_neg h]; simp [h]


theorem szQuant (l : List S72) (h : l.length ≤ 9223372036854775807) : laws_szQuantS.f l 1048576 = some (if (l.length : Int) > 1048576 then -1 else 1048576 - (l.length : Int)) := by
  unfold laws_szQuantS.f
  rw [wrap_id (by omega) (by omega)]
  by_cases c : (l.length : Int) > 1048576
  · rw [if_pos (by omega), if_pos c]
  · rw [if_neg (by omega), if_neg c]


theorem szQuant_left (l : List S72) (h : l.length ≤ 9223372036854775807) (m : Int) (h0 : 0 ≤ m) (h1 : m ≤ 1048576) : laws_szQuantS.f l m = some (if (l.length : Int) > m then -1 else m - (l.length : Int)) := by
  unfold laws_szQuantS.f
  rw [wrap_id (by omega) (by omega)]
  by_cases c : (l.length : Int) > m
  · rw [if_pos (by omega), if_pos c]
  · rw [if_neg (by omega), if_neg c]


def cvQuant (x : S72) : S70 := ⟨x.f0, x.f1, x.f2⟩
theorem toQuant_from (l : List S72) (hl : l.length ≤ 1048576) (d : Nat) : ∀ (k : Nat) (acc : List S70) (i : Nat), acc.length = l.length → i ≤ l.length → l.length - i = d → d < k →
    laws_toQuantS.l0 k l acc (i : Int) = some (acc.take i ++ (l.drop i).map cvQuant) := by
  induction d with
  | zero =>
    intro k acc i ha hi hd hk
    obtain ⟨k, rfl⟩ : ∃ m, k = m + 1 := ⟨k - 1, by omega⟩
    simp only [laws_toQuantS.l0]
    rw [if_neg (by omega), List.drop_eq_nil_of_le (by omega), List.take_of_length_le (by omega)]; simp
  | succ d ih =>
    intro k acc i ha hi hd hk
    obtain ⟨k, rfl⟩ : ∃ m, k = m + 1 := ⟨k - 1, by omega⟩
    have hlt : i < l.length := by omega
    simp only [laws_toQuantS.l0]
    rw [if_pos (by omega), if_pos (by omega)]
    unfold laws_toQuant.f
    simp only [Option.bind_some]
    have hrd : rd_T72 l (i : Int) = l[i] := by
      unfold rd_T72
      rw [Int.toNat_natCast, List.getD_eq_getElem?_getD, List.getElem?_eq_getElem hlt]; rfl
    rw [if_pos (by omega), hrd, wrap_id (by omega) (by omega), show ((i : Int) + 1) = ((i + 1 : Nat) : Int) by omega, Int.toNat_natCast,
      ih k _ (i + 1) (by simpa using ha) (by omega) (by omega) (by omega)]
    congr 1
    rw [List.drop_eq_getElem_cons hlt, List.map_cons]
    have ht : (acc.set i (cvQuant l[i])).take (i + 1) = acc.take i ++ [cvQuant l[i]] := by
      rw [List.take_succ_eq_append_getElem (by simpa using (by omega : i < acc.length)), List.take_set_of_le (by omega)]
      simp
    show (acc.set i (cvQuant l[i])).take (i + 1) ++ _ = _
    rw [ht, List.append_assoc]; rfl
theorem toQuant (l : List S72) (hl : l.length ≤ 1048576) : Ev (fun k => laws_toQuantS.f k l) (l.map cvQuant) := by
  refine ev_of (l.length + 2) fun k hk => ?_
  unfold laws_toQuantS.f
  rw [if_pos (by omega), if_pos (by omega)]
  have := toQuant_from l hl l.length k (List.replicate ((l.length : Int) : Int).toNat z70) 0 (by simp) (by omega) (by omega) (by omega)
  simpa using this


theorem eqQuant_one (x : S70) : laws_eqQuant.f x.f0 x.f1 x.f2 x.f0 x.f1 x.f2 = some true := by
  unfold laws_eqQuant.f; simp
theorem eqQuant_from (l : List S70) (hl : l.length ≤ 4611686018427387904) (d : Nat) : ∀ (k i : Nat), i ≤ l.length → l.length - i = d → d < k → laws_eqQuantS.l0 k l l (i : Int) = some true := by
  induction d with
  | zero =>
    intro k i hi hd hk
    obtain ⟨k, rfl⟩ : ∃ m, k = m + 1 := ⟨k - 1, by omega⟩
    simp only [laws_eqQuantS.l0]
    rw [if_neg (by omega)]
  | succ d ih =>
    intro k i hi hd hk
    obtain ⟨k, rfl⟩ : ∃ m, k = m + 1 := ⟨k - 1, by omega⟩
    simp only [laws_eqQuantS.l0]
    rw [if_pos (by omega), if_pos (by omega), if_pos (by omega), eqQuant_one]
    simp only [Option.bind_some, if_true]
    rw [wrap_id (by omega) (by omega), show ((i : Int) + 1) = ((i + 1 : Nat) : Int) by omega]
    exact ih k (i + 1) (by omega) (by omega) (by omega)
theorem eqQuant (l : List S70) (hl : l.length ≤ 4611686018427387904) : Ev (fun k => laws_eqQuantS.f k l l) true := by
  refine ev_of (l.length + 2) fun k hk => ?_
  unfold laws_eqQuantS.f
  rw [if_pos rfl]
  exact eqQuant_from l hl l.length k 0 (by omega) (by omega) (by omega)


def mkQuant (m : Int) : S70 := ⟨(Int.tmod (m) 3 == 0), m + 1, m + 2⟩
def mksQuant : Nat → Int → List S70
  | 0, _ => []
  | c + 1, m => mkQuant m :: mksQuant c (m + 3)
theorem mksQuant_len (c : Nat) : ∀ m, (mksQuant c m).length = c := by
  induction c with
  | zero => intro m; rfl
  | succ c ih => intro m; simp [mksQuant, ih]
theorem markQuant_from (d : Nat) : ∀ (k : Nat) (l : List S70) (i : Nat) (m : Int), l.length ≤ 576460752303423488 → 0 ≤ m → m + 3 * (l.length - i : Nat) ≤ 9223372036854775807 → i ≤ l.length → l.length - i = d → d < k →
    laws_markQuantS.l0 k l m (i : Int) = some (m + 3 * (d : Int), l.take i ++ mksQuant d m) := by
  induction d with
  | zero =>
    intro k l i m hl h0 h1 hi hd hk
    obtain ⟨k, rfl⟩ : ∃ m, k = m + 1 := ⟨k - 1, by omega⟩
    simp only [laws_markQuantS.l0]
    rw [if_neg (by omega), List.take_of_length_le (by omega)]; simp [mksQuant]
  | succ d ih =>
    intro k l i m hl h0 h1 hi hd hk
    obtain ⟨k, rfl⟩ : ∃ m, k = m + 1 := ⟨k - 1, by omega⟩
    have hlt : i < l.length := by omega
    have hset : ∀ (x : S70) (l : List S70), i < l.length → rd_T70 (l.set i x) (i : Int) = x := by
      intro x l hlt
      unfold rd_T70
      rw [Int.toNat_natCast, List.getD_eq_getElem?_getD, List.getElem?_set_self hlt]; rfl
    simp only [laws_markQuantS.l0]
    rw [if_pos (by omega), if_pos (by omega)]
    simp only [Option.bind_some, Int.toNat_natCast]
    simp only [hset _ _ hlt, hset _ _ (by simpa using hlt : i < (l.set i _).length), List.set_set, List.length_set, hlt]
    rw [wrap_id (x := m + 1) (by omega) (by omega)]
    rw [wrap_id (x := m + 1 + 1) (by omega) (by omega)]
    rw [wrap_id (x := m + 1 + 1 + 1) (by omega) (by omega)]
    rw [wrap_id (x := (i : Int) + 1) (by omega) (by omega)]
    rw [show ((i : Int) + 1) = ((i + 1 : Nat) : Int) by omega]
    rw [show m + 1 + 1 + 1 = m + 3 by omega]
    rw [ih k _ (i + 1) (m + 3) (by simpa using hl) (by omega) (by rw [List.length_set]; omega) (by rw [List.length_set]; omega) (by rw [List.length_set]; omega) (by omega)]
    congr 1
    rw [Prod.mk.injEq]
    refine ⟨by omega, ?_⟩
    rw [List.take_succ_eq_append_getElem (by simpa using hlt), List.take_set_of_le (by omega), List.append_assoc]
    simp only [List.getElem_set_self, List.singleton_append, mksQuant, mkQuant]
    try simp only [show ∀ z : Int, z + 1 + 1 = z + 2 from fun z => by omega]
    try simp [Int.add_assoc]
theorem markQuant (l : List S70) (hl : l.length ≤ 576460752303423488) : Ev (fun k => laws_markQuantS.f k l 1) (1 + 3 * (l.length : Int), mksQuant l.length 1) := by
  refine ev_of (l.length + 2) fun k hk => ?_
  unfold laws_markQuantS.f
  have := markQuant_from l.length k l 0 1 (by omega) (by omega) (by omega) (by omega) (by omega) (by omega)
  simpa using this


theorem eqBool_from (l : List Bool) (hl : l.length ≤ 4611686018427387904) (d : Nat) : ∀ (k i : Nat), i ≤ l.length → l.length - i = d → d < k → laws_eqBoolS.l0 k l l (i : Int) = some true := by
  induction d with
  | zero =>
    intro k i hi hd hk
    obtain ⟨k, rfl⟩ : ∃ m, k = m + 1 := ⟨k - 1, by omega⟩
    simp only [laws_eqBoolS.l0]
    rw [if_neg (by omega)]
  | succ d ih =>
    intro k i hi hd hk
    obtain ⟨k, rfl⟩ : ∃ m, k = m + 1 := ⟨k - 1, by omega⟩
    simp only [laws_eqBoolS.l0]
    rw [if_pos (by omega), if_pos (by omega), if_pos (by omega)]
    rw [if_neg (by simp)]
    rw [wrap_id (by omega) (by omega), show ((i : Int) + 1) = ((i + 1 : Nat) : Int) by omega]
    exact ih k (i + 1) (by omega) (by omega) (by omega)
theorem eqBool (l : List Bool) (hl : l.length ≤ 4611686018427387904) : Ev (fun k => laws_eqBoolS.f k l l) true := by
  refine ev_of (l.length + 2) fun k hk => ?_
  unfold laws_eqBoolS.f
  rw [if_pos rfl]
  exact eqBool_from l hl l.length k 0 (by omega) (by omega) (by omega)


def mksBool : Nat → Int → List Bool
  | 0, _ => []
  | c + 1, m => (Int.tmod m 3 == 0) :: mksBool c (m + 1)
theorem mksBool_len (c : Nat) : ∀ m, (mksBool c m).length = c := by
  induction c with
  | zero => intro m; rfl
  | succ c ih => intro m; simp [mksBool, ih]
theorem markBool_from (d : Nat) : ∀ (k : Nat) (l : List Bool) (i : Nat) (m : Int), l.length ≤ 576460752303423488 → 0 ≤ m → m + (d : Int) ≤ 9223372036854775807 → i ≤ l.length → l.length - i = d → d < k →
    laws_markBoolS.l0 k l m (i : Int) = some (m + (d : Int), l.take i ++ mksBool d m) := by
  induction d with
  | zero =>
    intro k l i m hl h0 h1 hi hd hk
    obtain ⟨k, rfl⟩ : ∃ m, k = m + 1 := ⟨k - 1, by omega⟩
    simp only [laws_markBoolS.l0]
    rw [if_neg (by omega), List.take_of_length_le (by omega)]; simp [mksBool]
  | succ d ih =>
    intro k l i m hl h0 h1 hi hd hk
    obtain ⟨k, rfl⟩ : ∃ m, k = m + 1 := ⟨k - 1, by omega⟩
    have hlt : i < l.length := by omega
    simp only [laws_markBoolS.l0]
    rw [if_pos (by omega), if_pos (by omega), wrap_id (x := m + 1) (by omega) (by omega), wrap_id (x := (i : Int) + 1) (by omega) (by omega), show ((i : Int) + 1) = ((i + 1 : Nat) : Int) by omega, Int.toNat_natCast,
      ih k _ (i + 1) (m + 1) (by simpa using hl) (by omega) (by omega) (by rw [List.length_set]; omega) (by rw [List.length_set]; omega) (by omega)]
    congr 1
    rw [Prod.mk.injEq]
    refine ⟨by omega, ?_⟩
    rw [List.take_succ_eq_append_getElem (by simpa using hlt), List.take_set_of_le (by omega), List.append_assoc]
    simp only [List.getElem_set_self, List.singleton_append, mksBool]
theorem markBool (l : List Bool) (hl : l.length ≤ 576460752303423488) : Ev (fun k => laws_markBoolS.f k l 1) (1 + (l.length : Int), mksBool l.length 1) := by
  refine ev_of (l.length + 2) fun k hk => ?_
  unfold laws_markBoolS.f
  have := markBool_from l.length k l 0 1 (by omega) (by omega) (by omega) (by omega) (by omega) (by omega)
  simpa using this


theorem heldBool_from (d : Nat) : ∀ (k : Nat) (l : List Bool) (i : Nat) (m : Int), l.length ≤ 576460752303423488 → 0 ≤ m → m + (d : Int) ≤ 9223372036854775807 → i ≤ l.length → l.length - i = d → l.drop i = mksBool d m → d < k →
    laws_heldBoolS.l0 k l m (i : Int) = some (m + (d : Int)) := by
  induction d with
  | zero =>
    intro k l i m hl h0 h1 hi hd he hk
    obtain ⟨k, rfl⟩ : ∃ m, k = m + 1 := ⟨k - 1, by omega⟩
    simp only [laws_heldBoolS.l0]
    rw [if_neg (by omega)]; simp
  | succ d ih =>
    intro k l i m hl h0 h1 hi hd he hk
    obtain ⟨k, rfl⟩ : ∃ m, k = m + 1 := ⟨k - 1, by omega⟩
    have hlt : i < l.length := by omega
    have hx : rdOf false l (i : Int) = (Int.tmod m 3 == 0) := by
      unfold rdOf
      rw [Int.toNat_natCast, List.getD_eq_getElem?_getD, List.getElem?_eq_getElem hlt]
      rw [List.drop_eq_getElem_cons hlt, mksBool] at he
      exact (List.cons.inj he).1
    have he2 : l.drop (i + 1) = mksBool d (m + 1) := by
      rw [List.drop_eq_getElem_cons hlt, mksBool] at he
      exact (List.cons.inj he).2
    simp only [laws_heldBoolS.l0]
    rw [if_pos (by omega), if_pos (by omega), hx]
    rw [if_neg (by simp)]
    rw [wrap_id (x := m + 1) (by omega) (by omega), wrap_id (x := (i : Int) + 1) (by omega) (by omega), show ((i : Int) + 1) = ((i + 1 : Nat) : Int) by omega,
      ih k l (i + 1) (m + 1) hl (by omega) (by omega) (by omega) (by omega) he2 (by omega)]
    congr 1; omega
theorem heldBool (c : Nat) (hl : c ≤ 576460752303423488) : Ev (fun k => laws_heldBoolS.f k (mksBool c 1) 1) (1 + (c : Int)) := by
  refine ev_of (c + 2) fun k hk => ?_
  unfold laws_heldBoolS.f
  have hlen := mksBool_len c 1
  exact heldBool_from c k (mksBool c 1) 0 1 (by omega) (by omega) (by omega) (by omega) (by omega) rfl (by omega)

end Go.Proofs.Ythepgolhpllpbaa.Pure.ExactRowsW
namespace Go.Proofs.Ythepgolhpllpbaa.Pure
open Go.RowKit Go.Proofs.Ythepgolhpllpbaa.PFnExactRows Go.Proofs.YthepgolhpllpbaaW.PrintWords Go.Proofs.YthepgolhpllpbaaW.PrintLast Go.Proofs.YthepgolhpllpbaaW.PrintMore Go.Proofs.Ythepgolhpllpbaa.Base Go.Proofs.Ythepgolhpllpbaa.Pure.ExactRowsW

def rowsL (l : List S70) : List Bool := l.flatMap fun x => List.replicate x.f2.toNat x.f0
def sumB (l : List S70) : Nat := (l.map fun x => x.f2.toNat).sum
def okB (x : S70) : Prop := 1 ≤ x.f2 ∧ x.f2 ≤ 8
theorem rowsL_len (l : List S70) : (rowsL l).length = sumB l := by
  induction l with
  | nil => rfl
  | cons x l ih => simp only [rowsL, sumB, List.flatMap_cons, List.length_append, List.length_replicate, List.map_cons, List.sum_cons] at ih ⊢; omega
theorem rdT (l : List S70) (i : Nat) (h : i < l.length) : rd_T70 l (i : Int) = l[i] := by
  unfold rd_T70
  rw [Int.toNat_natCast, List.getD_eq_getElem?_getD, List.getElem?_eq_getElem h]; rfl
theorem bitsS (l : List S70) (hl : l.length ≤ 1048576) (d : Nat) : ∀ (i : Nat) (c : Int), l.length - i = d → 0 ≤ c → c ≤ 8 * (i : Int) →
    ∃ r, Ev (fun k => spec_l05Bits.l0 k l c (i : Int)) r ∧ ((∀ x ∈ l.drop i, okB x) → r = c + sumB (l.drop i)) ∧ ((¬ ∀ x ∈ l.drop i, okB x) → r = 13) := by
  induction d with
  | zero =>
    intro i c hd c0 c1
    refine ⟨c, ev_succ ?_, fun _ => ?_, fun h => absurd ?_ h⟩
    · simp only [spec_l05Bits.l0]; exact ev_neg (by omega) ev_now
    · rw [List.drop_eq_nil_of_le (by omega)]; simp [sumB]
    · rw [List.drop_eq_nil_of_le (by omega)]; simp
  | succ d ih =>
    intro i c hd c0 c1
    have hlt : i < l.length := by omega
    by_cases hx : okB l[i]
    · obtain ⟨r, e, h1, h2⟩ := ih (i + 1) (c + l[i].f2) (by omega) (by unfold okB at hx; omega) (by unfold okB at hx; omega)
      refine ⟨r, ev_succ ?_, fun h => ?_, fun h => ?_⟩
      · simp only [spec_l05Bits.l0, rdT l i hlt]
        refine ev_pos (by omega) (ev_pos (by omega) (ev_bind0 (inS _ _ _) (ev_pos (by unfold okB at hx; simpa using hx) ?_)))
        unfold okB at hx
        rw [wrap_id (x := c + l[i].f2) (by omega) (by omega), wrap_id (x := (i : Int) + 1) (by omega) (by omega)]
        exact e
      · rw [h1 (fun x hx' => h x (by rw [List.drop_eq_getElem_cons hlt]; exact List.mem_cons_of_mem _ hx')), List.drop_eq_getElem_cons hlt]
        unfold okB at hx; simp only [sumB, List.map_cons, List.sum_cons]; omega
      · refine h2 (fun h' => h fun x hx' => ?_)
        rw [List.drop_eq_getElem_cons hlt] at hx'
        rcases List.mem_cons.1 hx' with rfl | hx'
        · exact hx
        · exact h' x hx'
    · refine ⟨13, ev_succ ?_, fun h => absurd (h l[i] (by rw [List.drop_eq_getElem_cons hlt]; exact List.mem_cons_self)) hx, fun _ => rfl⟩
      simp only [spec_l05Bits.l0, rdT l i hlt]
      exact ev_pos (by omega) (ev_pos (by omega) (ev_bind0 (inS _ _ _) (ev_neg (by unfold okB at hx; simpa using hx) ev_now)))
theorem bitsI (l : List S70) (hl : l.length ≤ 1048576) (d : Nat) : ∀ (i : Nat) (c : Int), l.length - i = d → 0 ≤ c → c ≤ 13 →
    ∃ r, Ev (fun k => impl_frontBits.l0 k c l (l.length : Int) (i : Int)) r ∧ ((∀ x ∈ l.drop i, okB x) → r = if c + sumB (l.drop i) > 12 then -1 else c + sumB (l.drop i)) ∧ ((¬ ∀ x ∈ l.drop i, okB x) → r = -1) := by
  induction d with
  | zero =>
    intro i c hd c0 c1
    refine ⟨if c > 12 then -1 else c, ev_succ ?_, fun _ => ?_, fun h => absurd ?_ h⟩
    · simp only [impl_frontBits.l0]; refine ev_neg (by omega) ?_
      exact ev_c (by by_cases h : c > 12 <;> simp [h])
    · rw [List.drop_eq_nil_of_le (by omega)]; simp [sumB]
    · rw [List.drop_eq_nil_of_le (by omega)]; simp
  | succ d ih =>
    intro i c hd c0 c1
    have hlt : i < l.length := by omega
    by_cases hx : okB l[i]
    · have hx' := hx
      unfold okB at hx'
      have hm : mn (c + l[i].f2) 13 = if c + l[i].f2 > 13 then 13 else c + l[i].f2 := by unfold mn; by_cases h : c + l[i].f2 > 13 <;> simp [h] <;> omega
      obtain ⟨r, e, h1, h2⟩ := ih (i + 1) (mn (c + l[i].f2) 13) (by omega) (by rw [hm]; split <;> omega) (by rw [hm]; split <;> omega)
      refine ⟨r, ev_succ ?_, fun h => ?_, fun h => ?_⟩
      · simp only [impl_frontBits.l0, rdT l i hlt]
        have hw : impl_isWidth.f l[i].f2 = some true := by unfold impl_isWidth.f; rw [inI]; simp [hx']
        refine ev_pos (by omega) (ev_pos (by omega) (ev_pos (by omega) (ev_bind0 hw (ev_pos rfl ?_))))
        rw [wrap_id (x := c + l[i].f2) (by omega) (by omega), wrap_id (x := (i : Int) + 1) (by omega) (by omega)]
        exact e
      · rw [h1 (fun x hx' => h x (by rw [List.drop_eq_getElem_cons hlt]; exact List.mem_cons_of_mem _ hx')), List.drop_eq_getElem_cons hlt, hm]
        simp only [sumB, List.map_cons, List.sum_cons]
        obtain ⟨z, hz⟩ : ∃ z, (List.map (fun x => x.f2.toNat) (List.drop (i + 1) l)).sum = z := ⟨_, rfl⟩
        simp only [hz]
        split <;> split <;> split <;> omega
      · refine h2 (fun h' => h fun x hx' => ?_)
        rw [List.drop_eq_getElem_cons hlt] at hx'
        rcases List.mem_cons.1 hx' with rfl | hx'
        · exact hx
        · exact h' x hx'
    · refine ⟨-1, ev_succ ?_, fun h => absurd (h l[i] (by rw [List.drop_eq_getElem_cons hlt]; exact List.mem_cons_self)) hx, fun _ => rfl⟩
      have hw : impl_isWidth.f l[i].f2 = some false := by unfold impl_isWidth.f; rw [inI]; unfold okB at hx; simpa using hx
      simp only [impl_frontBits.l0, rdT l i hlt]
      exact ev_pos (by omega) (ev_pos (by omega) (ev_pos (by omega) (ev_bind0 hw (ev_neg (by simp) ev_now))))
theorem rowsS_in (l : List S70) (i : Nat) (hi : i < l.length) (hl : l.length ≤ 1048576) (R : List Bool) (B : Nat) (hB : B < 140737488355328) (hout : ∀ acc : List Bool, acc.length ≤ B → Ev (fun k => spec_Rows.l0 k l acc ((i + 1 : Nat) : Int)) (acc ++ R)) (e : Nat) :
    ∀ (acc : List Bool) (j : Nat), (l[i].f2.toNat - j : Nat) = e → acc.length + e ≤ B → l[i].f2 ≤ 8 → Ev (fun k => spec_Rows.l1 k l acc (i : Int) (j : Int)) (acc ++ (List.replicate e l[i].f0 ++ R)) := by
  induction e with
  | zero =>
    intro acc j he hb h8
    refine ev_succ ?_
    simp only [spec_Rows.l1, rdT l i hi]
    refine ev_pos (by omega) (ev_pos (by omega) (ev_neg (by omega) ?_))
    rw [wrap_id (x := (i : Int) + 1) (by omega) (by omega)]
    simpa using hout acc (by omega)
  | succ e ih =>
    intro acc j he hb h8
    refine ev_succ ?_
    simp only [spec_Rows.l1, rdT l i hi]
    refine ev_pos (by omega) (ev_pos (by omega) (ev_pos (by omega) (ev_pos (by omega) ?_)))
    rw [wrap_id (x := (j : Int) + 1) (by omega) (by omega)]
    have := ih (acc ++ [l[i].f0]) (j + 1) (by omega) (by simp; omega) h8
    simpa [List.replicate_succ] using this
theorem rowsS (l : List S70) (hl : l.length ≤ 1048576) (hok : ∀ x ∈ l, okB x) (B : Nat) (hB : B < 140737488355328) (d : Nat) : ∀ (i : Nat) (acc : List Bool), l.length - i = d → acc.length + sumB (l.drop i) ≤ B → Ev (fun k => spec_Rows.l0 k l acc (i : Int)) (acc ++ rowsL (l.drop i)) := by
  induction d with
  | zero =>
    intro i acc hd hb
    refine ev_succ ?_
    simp only [spec_Rows.l0]
    refine ev_neg (by omega) (ev_eq ?_)
    rw [List.drop_eq_nil_of_le (by omega)]; simp [rowsL]
  | succ d ih =>
    intro i acc hd hb
    have hlt : i < l.length := by omega
    have hx := hok l[i] (List.getElem_mem _)
    unfold okB at hx
    refine ev_succ ?_
    simp only [spec_Rows.l0]
    refine ev_pos (by omega) ?_
    rw [List.drop_eq_getElem_cons hlt] at hb ⊢
    simp only [sumB, List.map_cons, List.sum_cons] at hb
    have hcons : rowsL (l[i] :: l.drop (i + 1)) = List.replicate l[i].f2.toNat l[i].f0 ++ rowsL (l.drop (i + 1)) := by unfold rowsL; rw [List.flatMap_cons]
    rw [hcons]
    refine rowsS_in l i hlt hl (rowsL (l.drop (i + 1))) (B - sumB (l.drop (i + 1))) (by omega) (fun acc' ha => ih (i + 1) acc' (by omega) ?_) l[i].f2.toNat acc 0 (by omega) ?_ (by omega)
    · have : sumB (l.drop (i + 1)) ≤ B := by unfold sumB; omega
      omega
    · unfold sumB; omega
theorem rowsI_in (l : List S70) (i : Nat) (hi : i < l.length) (hl : l.length ≤ 1048576) (R : List Bool) (B : Nat) (hB : B < 140737488355328) (hout : ∀ acc : List Bool, acc.length ≤ B → Ev (fun k => impl_Rows.l0 k acc l (l.length : Int) ((i + 1 : Nat) : Int)) (acc ++ R)) (f1 f2 : Int) (e : Nat) :
    ∀ (acc : List Bool) (j : Nat), (l[i].f2.toNat - j : Nat) = e → acc.length + e ≤ B → l[i].f2 ≤ 8 → Ev (fun k => impl_Rows.l1 k acc l (l.length : Int) (i : Int) l[i].f2 (j : Int) l[i].f0 f1 f2) (acc ++ (List.replicate e l[i].f0 ++ R)) := by
  induction e with
  | zero =>
    intro acc j he hb h8
    refine ev_succ ?_
    simp only [impl_Rows.l1]
    refine ev_neg (by omega) ?_
    rw [wrap_id (x := (i : Int) + 1) (by omega) (by omega)]
    simpa using hout acc (by omega)
  | succ e ih =>
    intro acc j he hb h8
    refine ev_succ ?_
    simp only [impl_Rows.l1]
    refine ev_pos (by omega) (ev_pos (by omega) ?_)
    rw [wrap_id (x := (j : Int) + 1) (by omega) (by omega)]
    have := ih (acc ++ [l[i].f0]) (j + 1) (by omega) (by simp; omega) h8
    simpa [List.replicate_succ] using this
theorem rowsI (l : List S70) (hl : l.length ≤ 1048576) (hok : ∀ x ∈ l, okB x) (B : Nat) (hB : B < 140737488355328) (d : Nat) : ∀ (i : Nat) (acc : List Bool), l.length - i = d → acc.length + sumB (l.drop i) ≤ B → Ev (fun k => impl_Rows.l0 k acc l (l.length : Int) (i : Int)) (acc ++ rowsL (l.drop i)) := by
  induction d with
  | zero =>
    intro i acc hd hb
    refine ev_succ ?_
    simp only [impl_Rows.l0]
    refine ev_neg (by omega) (ev_eq ?_)
    rw [List.drop_eq_nil_of_le (by omega)]; simp [rowsL]
  | succ d ih =>
    intro i acc hd hb
    have hlt : i < l.length := by omega
    have hx := hok l[i] (List.getElem_mem _)
    unfold okB at hx
    refine ev_succ ?_
    simp only [impl_Rows.l0, rdT l i hlt]
    refine ev_pos (by omega) (ev_pos (by omega) (ev_pos (by omega) ?_))
    rw [List.drop_eq_getElem_cons hlt] at hb ⊢
    simp only [sumB, List.map_cons, List.sum_cons] at hb
    have hcons : rowsL (l[i] :: l.drop (i + 1)) = List.replicate l[i].f2.toNat l[i].f0 ++ rowsL (l.drop (i + 1)) := by unfold rowsL; rw [List.flatMap_cons]
    rw [hcons]
    refine rowsI_in l i hlt hl (rowsL (l.drop (i + 1))) (B - sumB (l.drop (i + 1))) (by omega) (fun acc' ha => ih (i + 1) acc' (by omega) ?_) _ _ l[i].f2.toNat acc 0 (by omega) ?_ (by omega)
    · have : sumB (l.drop (i + 1)) ≤ B := by unfold sumB; omega
      omega
    · unfold sumB; omega
theorem rows_ev (l : List S70) (hl : l.length ≤ 1048576) : ∃ r : List Bool, r.length ≤ 12 ∧ Ev (fun k => spec_Rows.f k l) r ∧ Ev (fun k => impl_Rows.f k l) r := by
  obtain ⟨r, e, h1, h2⟩ := bitsS l hl l.length 0 0 (by omega) (by omega) (by omega)
  obtain ⟨q, f, g1, g2⟩ := bitsI l hl l.length 0 0 (by omega) (by omega) (by omega)
  rw [List.drop_zero] at h1 h2 g1 g2
  by_cases hok : ∀ x ∈ l, okB x
  · have h1 := h1 hok
    have g1 := g1 hok
    by_cases hs : (0 : Int) + sumB l > 12
    · rw [if_pos hs] at g1
      subst g1; subst h1
      refine ⟨[], by simp, ?_, ?_⟩
      · unfold spec_Rows.f spec_l05Bits.f; exact ev_bind0 rfl (ev_bind e (ev_pos hs ev_now))
      · unfold impl_Rows.f impl_frontBits.f; exact ev_bind0 rfl (ev_bind f (ev_pos (by omega) ev_now))
    · rw [if_neg hs] at g1
      subst g1; subst h1
      refine ⟨rowsL l, by rw [rowsL_len]; omega, ?_, ?_⟩
      · unfold spec_Rows.f spec_l05Bits.f
        refine ev_bind0 rfl (ev_bind e (ev_neg hs ?_))
        have := rowsS l hl hok 12 (by omega) l.length 0 [] (by omega) (by simp; omega)
        simpa using this
      · unfold impl_Rows.f impl_frontBits.f
        refine ev_bind0 rfl (ev_bind f (ev_neg (by omega) ?_))
        have := rowsI l hl hok 12 (by omega) l.length 0 [] (by omega) (by simp; omega)
        simpa using this
  · have h2 := h2 hok
    have g2 := g2 hok
    subst h2; subst g2
    refine ⟨[], by simp, ?_, ?_⟩
    · unfold spec_Rows.f spec_l05Bits.f; exact ev_bind0 rfl (ev_bind e (ev_pos (by omega) ev_now))
    · unfold impl_Rows.f impl_frontBits.f; exact ev_bind0 rfl (ev_bind f (ev_pos (by omega) ev_now))
theorem FnExactRows : laws_FnExactRows.Pure := by
  intro l h0 h1 h2
  refine Ev.rounds ?_
  unfold laws_FnExactRows.f
  refine ev_bind0 (szQuant l h0) ?_
  by_cases hb : (l.length : Int) > 1048576
  · rw [if_pos hb]; exact ev_pos (by omega) ev_now
  · rw [if_neg hb]
    refine ev_neg (by omega) ?_
    have hl : l.length ≤ 1048576 := by omega
    have hl2 : (l.map cvQuant).length ≤ 1048576 := by simpa using hl
    obtain ⟨r, hr, e1, e2⟩ := rows_ev (l.map cvQuant) hl2
    have hto := toQuant l hl
    refine ev_bind hto (ev_bind e1 (ev_bind hto (ev_bind e2 (ev_bind (eqBool r (by omega)) (ev_pos rfl ?_)))))
    refine ev_bind hto (ev_bind (eqQuant _ (by omega)) (ev_pos rfl ?_))
    refine ev_bind (markQuant _ (by omega)) (ev_neg (by simp; omega) (ev_bind (eqBool r (by omega)) ?_))
    refine ev_succ ?_
    simp only [laws_FnExactRows.j0]
    refine ev_neg (by simp) ?_
    refine ev_bind (markBool r (by omega)) (ev_bind (heldBool _ (by omega)) (ev_neg (by simp; omega) (ev_pos (by simp) ?_)))
    refine ev_bind hto (ev_bind e2 (ev_bind (eqBool r (by omega)) (ev_pos rfl ?_)))
    exact ev_bind (heldBool _ (by omega)) (ev_neg (by simp; omega) (ev_pos (by simp) ev_now))
end Go.Proofs.Ythepgolhpllpbaa.Pure
