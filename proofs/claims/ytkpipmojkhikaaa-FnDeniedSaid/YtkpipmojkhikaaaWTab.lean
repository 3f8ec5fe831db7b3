/- Words of the kit's print, laid for this seat and cut by a program of this session to what the seat's texts name. -/
import Derived.Test.YtkpipmojkhikaaaWLast
import Derived.Test.YtkpipmojkhikaaaWWords
namespace Go.Proofs.YtkpipmojkhikaaaW.PrintLast
open Go.Proofs.YtkpipmojkhikaaaW.PrintWords (Aside0)
def a2w (md : Region.Mode) (o : Oper) : List Nat := (o.after.toList.filter (fun e => Region.binds md e)).map (fun e => e.on)
def b0e (md : Region.Mode) (ops : Array Oper) (i : Nat) (oi : Oper) : List Nat := (List.range ops.size).filter fun j => !(j == i) && match ops[j]? with
  | some oj => !(oj.after.any (fun e => Region.binds md e && e.on == i) || oi.apart ops oj)
  | none => false
def a3b (md : Region.Mode) (ops : Array Oper) : Bool × List (List Nat × List Nat) := (Region.noSelect ops, (List.range ops.size).map fun i => match ops[i]? with
  | some o => (a2w md o, b0e md ops i o)
  | none => ([], []))
def a0r (T : List (List Nat × List Nat)) (l : List Bool) (i : Nat) : Bool := !l.getD i true && match T[i]? with
  | some r => r.1.all (fun j => l.getD j false)
  | none => false
def a8f (T : List (List Nat × List Nat)) (l : List Bool) : List Nat := (List.range T.length).filter (a0r T l)
def b5v (T : List (List Nat × List Nat)) (l : List Bool) (i : Nat) : Bool := match T[i]? with
  | some r => r.2.all (fun j => l.getD j true)
  | none => false
def a7s (T : List (List Nat × List Nat)) (l : List Bool) : Bool := (List.range T.length).all fun j => !l.getD j false || match T[j]? with
  | some r => r.1.all (fun k => l.getD k false)
  | none => true
def a6l (T : List (List Nat × List Nat)) (i : Nat) : Nat → Nat → Bool
  | 0, _ => false
  | fuel + 1, d => match T[d]? with
    | some r => r.1.any fun j => j == i || a6l T i fuel j
    | none => false
def b7q (T : List (List Nat × List Nat)) (l : List Bool) (ds : List Nat) (i : Nat) : Bool := ds.all fun d => l.getD d true || a6l T i T.length d
section
variable {md : Region.Mode} {ops : Array Oper} {T : Bool × List (List Nat × List Nat)} {l l' li lj lk : Array Bool} {ds : List Nat} {i j k : Nat}
theorem gd (l : Array Bool) (j : Nat) (b : Bool) : l.getD j b = l.toList.getD j b := by simp [Array.getD_eq_getD_getElem?, List.getD_eq_getElem?_getD]
theorem a8n (o : Oper) (p : Nat → Bool) : o.after.all (fun e => !Region.binds md e || p e.on) = (a2w md o).all p := by
  unfold a2w
  rw [← Array.all_toList]
  induction o.after.toList with
  | nil => rfl
  | cons e r ih =>
    rw [List.all_cons, ih, List.filter_cons]
    cases h : Region.binds md e <;> simp
theorem b5m (o : Oper) (p : Nat → Bool) : o.after.any (fun e => Region.binds md e && p e.on) = (a2w md o).any p := by
  unfold a2w
  rw [← Array.any_toList]
  induction o.after.toList with
  | nil => rfl
  | cons e r ih =>
    rw [List.any_cons, ih, List.filter_cons]
    cases h : Region.binds md e <;> simp
theorem a0g : (a3b md ops).2.length = ops.size := by simp [a3b]
theorem a2d {o : Oper} (h : ops[i]? = some o) : (a3b md ops).2[i]? = some (a2w md o, b0e md ops i o) := by
  have hi := (Array.getElem?_eq_some_iff.1 h).1
  unfold a3b
  rw [List.getElem?_map, List.getElem?_range hi, Option.map_some, h]
theorem a2e (h : ops[i]? = none) : (a3b md ops).2[i]? = none := by
  have hi : ops.size ≤ i := Array.getElem?_eq_none_iff.1 h
  exact List.getElem?_eq_none (by rw [a0g]; exact hi)
theorem b2a : a0r (a3b md ops).2 l.toList i = (!l.getD i true && ((ops[i]?).map (·.after.all fun e => !Region.binds md e || l.getD e.on false)).getD false) := by
  unfold a0r
  rw [gd]
  cases h : ops[i]? with
  | none => rw [a2e h]; rfl
  | some o =>
    rw [a2d h]
    simp only [Option.map_some, Option.getD_some]
    rw [← a8n]
    simp only [gd]
theorem a7k : Region.ready md ops l = a8f (a3b md ops).2 l.toList := by
  unfold Region.ready a8f
  rw [a0g]
  refine List.filter_congr (fun i _ => ?_)
  rw [b2a]
theorem b5t : Region.free md ops l i = b5v (a3b md ops).2 l.toList i := by
  unfold Region.free b5v
  cases h : ops[i]? with
  | none => rw [a2e h]
  | some oi =>
    rw [a2d h]
    simp only [b0e]
    rw [List.all_filter]
    congr 1
    funext j
    rw [gd]
    cases hj : ops[j]? with
    | none => cases (j == i) <;> cases (l.toList.getD j true) <;> simp
    | some oj =>
      cases (j == i) <;> cases (l.toList.getD j true) <;> cases (oj.after.any (fun e => Region.binds md e && e.on == i) || oi.apart ops oj) <;> simp_all
theorem b6c : wU md ops l = a7s (a3b md ops).2 l.toList := by
  unfold wU a7s
  rw [a0g]
  congr 1
  funext j
  rw [gd]
  cases h : ops[j]? with
  | none => rw [a2e h]
  | some o =>
    rw [a2d h]
    simp only
    rw [← a8n]
    simp only [gd]
theorem b0z : ∀ (fuel d : Nat), rJ md ops i fuel d = a6l (a3b md ops).2 i fuel d
  | 0, _ => rfl
  | fuel + 1, d => by
    unfold rJ a6l
    cases h : ops[d]? with
    | none => rw [a2e h]
    | some o =>
      rw [a2d h]
      simp only
      rw [← b5m]
      congr 1
      funext e
      rw [b0z fuel]
theorem c3v : zI md ops l ds i = b7q (a3b md ops).2 l.toList ds i := by
  unfold zI b7q
  rw [a0g]
  congr 1
  funext d
  rw [gd, b0z]
theorem a4w (h : a0r T.2 l.toList i = true) (hT : a3b md ops = T) : (Region.ready md ops l).contains i = true := by
  subst hT
  rw [a7k]
  unfold a8f
  rw [List.contains_iff_mem, List.mem_filter, List.mem_range]
  refine ⟨?_, h⟩
  unfold a0r at h
  rw [Bool.and_eq_true] at h
  cases hq : (a3b md ops).2[i]? with
  | none => rw [hq] at h; simp at h
  | some r => exact (List.getElem?_eq_some_iff.1 hq).1
theorem b4m (h : (l.toList.set i true == l'.toList) = true) : (l.setIfInBounds i true == l') = true := by
  rw [beq_iff_eq] at h ⊢
  apply Array.ext'
  rw [Array.toList_setIfInBounds]
  exact h
def d0e (T : Bool × List (List Nat × List Nat)) (l l' : List Bool) (i : Nat) : Bool := T.1 && b5v T.2 l i && a0r T.2 l i && (l.set i true == l')
theorem qM (hT : a3b md ops = T) (h : d0e T l.toList l'.toList i = true) : c4u md ops l l' i = true := by
  simp only [d0e, Bool.and_eq_true] at h
  obtain ⟨⟨⟨h1, h2⟩, h3⟩, h4⟩ := h
  have h5 := a4w h3 hT
  have h6 := b4m h4
  subst hT
  simp only [c4u, Bool.and_eq_true]
  exact ⟨⟨⟨h1, by rw [b5t]; exact h2⟩, h5⟩, h6⟩
def c3f (T : Bool × List (List Nat × List Nat)) (ds : List Nat) (l l' : List Bool) (i : Nat) : Bool := T.1 && b5v T.2 l i && a0r T.2 l i && a7s T.2 l && b7q T.2 l ds i && (l.set i true == l')
theorem c3e (hT : a3b md ops = T) (h : c3f T ds l.toList l'.toList i = true) : b4h md ops ds l l' i = true := by
  simp only [c3f, Bool.and_eq_true] at h
  obtain ⟨⟨⟨⟨⟨h1, h2⟩, h3⟩, h4⟩, h5⟩, h6⟩ := h
  have h7 := a4w h3 hT
  have h8 := b4m h6
  subst hT
  simp only [b4h, Bool.and_eq_true]
  exact ⟨⟨⟨⟨⟨h1, by rw [b5t]; exact h2⟩, h7⟩, by rw [b6c]; exact h4⟩, by rw [c3v]; exact h5⟩, h8⟩
theorem a1k (hT : a3b md ops = T) (h : (a8f T.2 l.toList == [i] && l.toList.set i true == l'.toList) = true) : a6j md ops l l' i = true := by
  simp only [Bool.and_eq_true] at h
  obtain ⟨h1, h2⟩ := h
  subst hT
  simp only [a6j, Bool.and_eq_true]
  exact ⟨by rw [a7k]; exact h1, b4m h2⟩
theorem a0v (hT : a3b md ops = T) (h : (a8f T.2 l.toList == []) = true) : (Region.ready md ops l == []) = true := by
  subst hT
  rw [a7k]
  exact h
def upM (B : List Nat) (d : Nat) : List Nat → Nat
  | [] => 0
  | n :: r => (2 ^ n ||| (if n < d then B.getD n 0 else 0)) ||| upM B d r
def zJ (T : List (List Nat × List Nat)) (B : List Nat) : Bool := (List.range T.length).all fun d => match T[d]? with
  | some r => (B.getD d 0 ||| upM B d r.1) == upM B d r.1
  | none => false
theorem b4e {B : List Nat} {d i : Nat} : ∀ {ns : List Nat}, (upM B d ns).testBit i = true → ∃ n ∈ ns, n = i ∨ (n < d ∧ (B.getD n 0).testBit i = true)
  | [], h => by simp [upM] at h
  | n :: r, h => by
    unfold upM at h
    rw [Nat.testBit_or, Nat.testBit_or, Bool.or_eq_true, Bool.or_eq_true] at h
    rcases h with (h | h) | h
    · rw [Nat.testBit_two_pow] at h
      exact ⟨n, List.mem_cons_self, .inl (by simpa using h)⟩
    · by_cases hn : n < d
      · rw [if_pos hn] at h
        exact ⟨n, List.mem_cons_self, .inr ⟨hn, h⟩⟩
      · rw [if_neg hn] at h
        simp at h
    · obtain ⟨m, hm, h2⟩ := b4e h
      exact ⟨m, List.mem_cons_of_mem _ hm, h2⟩
theorem a8g {T : List (List Nat × List Nat)} {B : List Nat} (hB : zJ T B = true) : ∀ (fuel d : Nat), d < fuel → d < T.length → (B.getD d 0).testBit i = true → a6l T i fuel d = true
  | 0, d, h, _, _ => by omega
  | fuel + 1, d, h, hd, hb => by
    have h1 := List.all_eq_true.1 hB d (List.mem_range.2 hd)
    cases hr : T[d]? with
    | none => rw [hr] at h1; simp at h1
    | some r =>
      rw [hr] at h1
      simp only [beq_iff_eq] at h1
      have h2 : (upM B d r.1).testBit i = true := by rw [← h1, Nat.testBit_or, hb, Bool.true_or]
      obtain ⟨n, hn, h3⟩ := b4e h2
      unfold a6l
      rw [hr]
      simp only
      rw [List.any_eq_true]
      refine ⟨n, hn, ?_⟩
      rcases h3 with rfl | ⟨h4, h5⟩
      · simp
      · rw [a8g hB fuel n (by omega) (by omega) h5, Bool.or_true]
def c7k (T : List (List Nat × List Nat)) (B : List Nat) (l : List Bool) (ds : List Nat) (i : Nat) : Bool := ds.all fun d => l.getD d true || (decide (d < T.length) && (B.getD d 0).testBit i)
def c6t (T : Bool × List (List Nat × List Nat)) (B : List Nat) (ds : List Nat) (l l' : List Bool) (i : Nat) : Bool := T.1 && b5v T.2 l i && a0r T.2 l i && a7s T.2 l && c7k T.2 B l ds i && (l.set i true == l')
theorem pU {B : List Nat} (hT : a3b md ops = T) (hB : zJ T.2 B = true) (h : c6t T B ds l.toList l'.toList i = true) : b4h md ops ds l l' i = true := by
  refine c3e hT ?_
  simp only [c6t, c3f, Bool.and_eq_true] at h ⊢
  obtain ⟨⟨⟨⟨⟨h1, h2⟩, h3⟩, h4⟩, h5⟩, h6⟩ := h
  refine ⟨⟨⟨⟨⟨h1, h2⟩, h3⟩, h4⟩, ?_⟩, h6⟩
  unfold c7k at h5
  unfold b7q
  rw [List.all_eq_true] at h5 ⊢
  intro d hd
  have h7 := h5 d hd
  rw [Bool.or_eq_true, Bool.and_eq_true, decide_eq_true_eq] at h7
  rcases h7 with h7 | ⟨h8, h9⟩
  · rw [h7, Bool.true_or]
  · rw [a8g hB _ d h8 h8 h9, Bool.or_true]
theorem wP {P : Program} {Q : Exit → Act → World → Prop} {S : World → Prop} {n : Nat} {a : Act} {w : World} {B : List Nat} (hT : a3b md ops = T) (hB : zJ T.2 B = true) (h : Aside0 (a3b md ops = T) → Aside0 (zJ T.2 B = true) → kY P md ops Q S ds n l a w) : kY P md ops Q S ds n l a w := h ⟨hT⟩ ⟨hB⟩
end
def a6d : Code → Nat → Option (Array Oper)
  | .region id ops _, k => if id == k then some ops else none
  | .seq a b, k => match a6d a k with
    | some o => some o
    | none => a6d b k
  | .cond _ a b, k => match a6d a k with
    | some o => some o
    | none => a6d b k
  | .block _ c, k => a6d c k
  | .loop c, k => a6d c k
  | .scope c, k => a6d c k
  | .rangeFunc _ _ a b, k => match a6d a k with
    | some o => some o
    | none => a6d b k
  | _, _ => none
def b2e (f : Func) (k : Nat) : Array Oper := ((f.body.bind fun c => a6d c k)).getD #[]
end Go.Proofs.YtkpipmojkhikaaaW.PrintLast
