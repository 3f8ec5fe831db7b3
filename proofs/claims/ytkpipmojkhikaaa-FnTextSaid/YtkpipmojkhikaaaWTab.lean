/- Words of the kit's print, laid for this seat and cut by a program of this session to what the seat's texts name. -/
import Derived.Test.YtkpipmojkhikaaaWLast
import Derived.Test.YtkpipmojkhikaaaWWords
namespace Go.Proofs.YtkpipmojkhikaaaW.PrintLast
open Go.Proofs.YtkpipmojkhikaaaW.PrintWords (Aside0)
def a3i (md : Region.Mode) (o : Oper) : List Nat := (o.after.toList.filter (fun e => Region.binds md e)).map (fun e => e.on)
def b2a (md : Region.Mode) (ops : Array Oper) (i : Nat) (oi : Oper) : List Nat := (List.range ops.size).filter fun j => !(j == i) && match ops[j]? with
  | some oj => !(oj.after.any (fun e => Region.binds md e && e.on == i) || oi.apart ops oj)
  | none => false
def a0r (md : Region.Mode) (ops : Array Oper) : Bool × List (List Nat × List Nat) := (Region.noSelect ops, (List.range ops.size).map fun i => match ops[i]? with
  | some o => (a3i md o, b2a md ops i o)
  | none => ([], []))
def a0s (T : List (List Nat × List Nat)) (l : List Bool) (i : Nat) : Bool := !l.getD i true && match T[i]? with
  | some r => r.1.all (fun j => l.getD j false)
  | none => false
def a9v (T : List (List Nat × List Nat)) (l : List Bool) : List Nat := (List.range T.length).filter (a0s T l)
def b7y (T : List (List Nat × List Nat)) (l : List Bool) (i : Nat) : Bool := match T[i]? with
  | some r => r.2.all (fun j => l.getD j true)
  | none => false
def a8r (T : List (List Nat × List Nat)) (l : List Bool) : Bool := (List.range T.length).all fun j => !l.getD j false || match T[j]? with
  | some r => r.1.all (fun k => l.getD k false)
  | none => true
def a7h (T : List (List Nat × List Nat)) (i : Nat) : Nat → Nat → Bool
  | 0, _ => false
  | fuel + 1, d => match T[d]? with
    | some r => r.1.any fun j => j == i || a7h T i fuel j
    | none => false
def b9v (T : List (List Nat × List Nat)) (l : List Bool) (ds : List Nat) (i : Nat) : Bool := ds.all fun d => l.getD d true || a7h T i T.length d
section
variable {md : Region.Mode} {ops : Array Oper} {T : Bool × List (List Nat × List Nat)} {l l' li lj lk : Array Bool} {ds : List Nat} {i j k : Nat}
theorem gd (l : Array Bool) (j : Nat) (b : Bool) : l.getD j b = l.toList.getD j b := by simp [Array.getD_eq_getD_getElem?, List.getD_eq_getElem?_getD]
theorem b0c (o : Oper) (p : Nat → Bool) : o.after.all (fun e => !Region.binds md e || p e.on) = (a3i md o).all p := by
  unfold a3i
  rw [← Array.all_toList]
  induction o.after.toList with
  | nil => rfl
  | cons e r ih =>
    rw [List.all_cons, ih, List.filter_cons]
    cases h : Region.binds md e <;> simp
theorem b7p (o : Oper) (p : Nat → Bool) : o.after.any (fun e => Region.binds md e && p e.on) = (a3i md o).any p := by
  unfold a3i
  rw [← Array.any_toList]
  induction o.after.toList with
  | nil => rfl
  | cons e r ih =>
    rw [List.any_cons, ih, List.filter_cons]
    cases h : Region.binds md e <;> simp
theorem zZ : (a0r md ops).2.length = ops.size := by simp [a0r]
theorem a2m {o : Oper} (h : ops[i]? = some o) : (a0r md ops).2[i]? = some (a3i md o, b2a md ops i o) := by
  have hi := (Array.getElem?_eq_some_iff.1 h).1
  unfold a0r
  rw [List.getElem?_map, List.getElem?_range hi, Option.map_some, h]
theorem a2n (h : ops[i]? = none) : (a0r md ops).2[i]? = none := by
  have hi : ops.size ≤ i := Array.getElem?_eq_none_iff.1 h
  exact List.getElem?_eq_none (by rw [zZ]; exact hi)
theorem b3p : a0s (a0r md ops).2 l.toList i = (!l.getD i true && ((ops[i]?).map (·.after.all fun e => !Region.binds md e || l.getD e.on false)).getD false) := by
  unfold a0s
  rw [gd]
  cases h : ops[i]? with
  | none => rw [a2n h]; rfl
  | some o =>
    rw [a2m h]
    simp only [Option.map_some, Option.getD_some]
    rw [← b0c]
    simp only [gd]
theorem a8g : Region.ready md ops l = a9v (a0r md ops).2 l.toList := by
  unfold Region.ready a9v
  rw [zZ]
  refine List.filter_congr (fun i _ => ?_)
  rw [b3p]
theorem b7x : Region.free md ops l i = b7y (a0r md ops).2 l.toList i := by
  unfold Region.free b7y
  cases h : ops[i]? with
  | none => rw [a2n h]
  | some oi =>
    rw [a2m h]
    simp only [b2a]
    rw [List.all_filter]
    congr 1
    funext j
    rw [gd]
    cases hj : ops[j]? with
    | none => cases (j == i) <;> cases (l.toList.getD j true) <;> simp
    | some oj =>
      cases (j == i) <;> cases (l.toList.getD j true) <;> cases (oj.after.any (fun e => Region.binds md e && e.on == i) || oi.apart ops oj) <;> simp_all
theorem b8i : xE md ops l = a8r (a0r md ops).2 l.toList := by
  unfold xE a8r
  rw [zZ]
  congr 1
  funext j
  rw [gd]
  cases h : ops[j]? with
  | none => rw [a2n h]
  | some o =>
    rw [a2m h]
    simp only
    rw [← b0c]
    simp only [gd]
theorem b2s : ∀ (fuel d : Nat), rN md ops i fuel d = a7h (a0r md ops).2 i fuel d
  | 0, _ => rfl
  | fuel + 1, d => by
    unfold rN a7h
    cases h : ops[d]? with
    | none => rw [a2n h]
    | some o =>
      rw [a2m h]
      simp only
      rw [← b7p]
      congr 1
      funext e
      rw [b2s fuel]
theorem c6f : zK md ops l ds i = b9v (a0r md ops).2 l.toList ds i := by
  unfold zK b9v
  rw [zZ]
  congr 1
  funext d
  rw [gd, b2s]
theorem a5l (h : a0s T.2 l.toList i = true) (hT : a0r md ops = T) : (Region.ready md ops l).contains i = true := by
  subst hT
  rw [a8g]
  unfold a9v
  rw [List.contains_iff_mem, List.mem_filter, List.mem_range]
  refine ⟨?_, h⟩
  unfold a0s at h
  rw [Bool.and_eq_true] at h
  cases hq : (a0r md ops).2[i]? with
  | none => rw [hq] at h; simp at h
  | some r => exact (List.getElem?_eq_some_iff.1 hq).1
theorem b6q (h : (l.toList.set i true == l'.toList) = true) : (l.setIfInBounds i true == l') = true := by
  rw [beq_iff_eq] at h ⊢
  apply Array.ext'
  rw [Array.toList_setIfInBounds]
  exact h
def d3e (T : Bool × List (List Nat × List Nat)) (l l' : List Bool) (i : Nat) : Bool := T.1 && b7y T.2 l i && a0s T.2 l i && (l.set i true == l')
theorem qO (hT : a0r md ops = T) (h : d3e T l.toList l'.toList i = true) : c7b md ops l l' i = true := by
  simp only [d3e, Bool.and_eq_true] at h
  obtain ⟨⟨⟨h1, h2⟩, h3⟩, h4⟩ := h
  have h5 := a5l h3 hT
  have h6 := b6q h4
  subst hT
  simp only [c7b, Bool.and_eq_true]
  exact ⟨⟨⟨h1, by rw [b7x]; exact h2⟩, h5⟩, h6⟩
def c5h (T : Bool × List (List Nat × List Nat)) (ds : List Nat) (l l' : List Bool) (i : Nat) : Bool := T.1 && b7y T.2 l i && a0s T.2 l i && a8r T.2 l && b9v T.2 l ds i && (l.set i true == l')
theorem c5g (hT : a0r md ops = T) (h : c5h T ds l.toList l'.toList i = true) : b6l md ops ds l l' i = true := by
  simp only [c5h, Bool.and_eq_true] at h
  obtain ⟨⟨⟨⟨⟨h1, h2⟩, h3⟩, h4⟩, h5⟩, h6⟩ := h
  have h7 := a5l h3 hT
  have h8 := b6q h6
  subst hT
  simp only [b6l, Bool.and_eq_true]
  exact ⟨⟨⟨⟨⟨h1, by rw [b7x]; exact h2⟩, h7⟩, by rw [b8i]; exact h4⟩, by rw [c6f]; exact h5⟩, h8⟩
theorem uW (hT : a0r md ops = T) (h : (a9v T.2 l.toList == [i] && l.toList.set i true == l'.toList) = true) : a7g md ops l l' i = true := by
  simp only [Bool.and_eq_true] at h
  obtain ⟨h1, h2⟩ := h
  subst hT
  simp only [a7g, Bool.and_eq_true]
  exact ⟨by rw [a8g]; exact h1, b6q h2⟩
theorem yP (hT : a0r md ops = T) (h : (a9v T.2 l.toList == []) = true) : (Region.ready md ops l == []) = true := by
  subst hT
  rw [a8g]
  exact h
def upM (B : List Nat) (d : Nat) : List Nat → Nat
  | [] => 0
  | n :: r => (2 ^ n ||| (if n < d then B.getD n 0 else 0)) ||| upM B d r
def vL (T : List (List Nat × List Nat)) (B : List Nat) : Bool := (List.range T.length).all fun d => match T[d]? with
  | some r => (B.getD d 0 ||| upM B d r.1) == upM B d r.1
  | none => false
theorem b6f {B : List Nat} {d i : Nat} : ∀ {ns : List Nat}, (upM B d ns).testBit i = true → ∃ n ∈ ns, n = i ∨ (n < d ∧ (B.getD n 0).testBit i = true)
  | [], h => by simp [upM] at h
  | n :: r, h => by
    unfold upM at h
    rw [Nat.testBit_or, Nat.testBit_or, Bool.or_eq_true, Bool.or_eq_true] at h
    rcases h with (h | h) | h
    · rw [Nat.testBit_two_pow] at h
      exact ⟨n, List.mem_cons_self, .inl (by simpa using h)⟩
    · by_cases hn : n < d
      · rw [if_pos hn] at h
        exact ⟨n, List.mem_cons_self, .inr ⟨hn, h⟩⟩
      · rw [if_neg hn] at h
        simp at h
    · obtain ⟨m, hm, h2⟩ := b6f h
      exact ⟨m, List.mem_cons_of_mem _ hm, h2⟩
theorem a9w {T : List (List Nat × List Nat)} {B : List Nat} (hB : vL T B = true) : ∀ (fuel d : Nat), d < fuel → d < T.length → (B.getD d 0).testBit i = true → a7h T i fuel d = true
  | 0, d, h, _, _ => by omega
  | fuel + 1, d, h, hd, hb => by
    have h1 := List.all_eq_true.1 hB d (List.mem_range.2 hd)
    cases hr : T[d]? with
    | none => rw [hr] at h1; simp at h1
    | some r =>
      rw [hr] at h1
      simp only [beq_iff_eq] at h1
      have h2 : (upM B d r.1).testBit i = true := by rw [← h1, Nat.testBit_or, hb, Bool.true_or]
      obtain ⟨n, hn, h3⟩ := b6f h2
      unfold a7h
      rw [hr]
      simp only
      rw [List.any_eq_true]
      refine ⟨n, hn, ?_⟩
      rcases h3 with rfl | ⟨h4, h5⟩
      · simp
      · rw [a9w hB fuel n (by omega) (by omega) h5, Bool.or_true]
def d0o (T : List (List Nat × List Nat)) (B : List Nat) (l : List Bool) (ds : List Nat) (i : Nat) : Bool := ds.all fun d => l.getD d true || (decide (d < T.length) && (B.getD d 0).testBit i)
def d0d (T : Bool × List (List Nat × List Nat)) (B : List Nat) (ds : List Nat) (l l' : List Bool) (i : Nat) : Bool := T.1 && b7y T.2 l i && a0s T.2 l i && a8r T.2 l && d0o T.2 B l ds i && (l.set i true == l')
theorem pE {B : List Nat} (hT : a0r md ops = T) (hB : vL T.2 B = true) (h : d0d T B ds l.toList l'.toList i = true) : b6l md ops ds l l' i = true := by
  refine c5g hT ?_
  simp only [d0d, c5h, Bool.and_eq_true] at h ⊢
  obtain ⟨⟨⟨⟨⟨h1, h2⟩, h3⟩, h4⟩, h5⟩, h6⟩ := h
  refine ⟨⟨⟨⟨⟨h1, h2⟩, h3⟩, h4⟩, ?_⟩, h6⟩
  unfold d0o at h5
  unfold b9v
  rw [List.all_eq_true] at h5 ⊢
  intro d hd
  have h7 := h5 d hd
  rw [Bool.or_eq_true, Bool.and_eq_true, decide_eq_true_eq] at h7
  rcases h7 with h7 | ⟨h8, h9⟩
  · rw [h7, Bool.true_or]
  · rw [a9w hB _ d h8 h8 h9, Bool.or_true]
theorem rV {P : Program} {Q : Exit → Act → World → Prop} {S : World → Prop} {n : Nat} {a : Act} {w : World} {B : List Nat} (hT : a0r md ops = T) (hB : vL T.2 B = true) (h : Aside0 (a0r md ops = T) → Aside0 (vL T.2 B = true) → oZ P md ops Q S ds n l a w) : oZ P md ops Q S ds n l a w := h ⟨hT⟩ ⟨hB⟩
end
def a6t : Code → Nat → Option (Array Oper)
  | .region id ops _, k => if id == k then some ops else none
  | .seq a b, k => match a6t a k with
    | some o => some o
    | none => a6t b k
  | .cond _ a b, k => match a6t a k with
    | some o => some o
    | none => a6t b k
  | .block _ c, k => a6t c k
  | .loop c, k => a6t c k
  | .scope c, k => a6t c k
  | .rangeFunc _ _ a b, k => match a6t a k with
    | some o => some o
    | none => a6t b k
  | _, _ => none
def a1u (f : Func) (k : Nat) : Array Oper := ((f.body.bind fun c => a6t c k)).getD #[]
end Go.Proofs.YtkpipmojkhikaaaW.PrintLast
