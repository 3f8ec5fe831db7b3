/- Short words for what a printed walk says again and again: the cells of a block of its own, what stands in the old world, one step of a region. -/
import Derived.Test.YtkpipmojkhikaaaWMore
import Derived.Test.YtkpipmojkhikaaaWLast
import Derived.Test.YtkpipmojkhikaaaWTab
import Derived.RowKit
set_option linter.unusedVariables false
namespace Go.Proofs.YtkpipmojkhikaaaW.Sq
open Go Go.RowKit Go.Proofs.YtkpipmojkhikaaaW.PrintWords Go.Proofs.YtkpipmojkhikaaaW.PrintLast Go.Proofs.YtkpipmojkhikaaaW.PrintMore
section
variable {w : World} {g : Nat} {T : TypeId} {x0 x1 x2 x3 x4 x5 : Value}
theorem cz1 (h : w.heap[g]? = some (.cells #[x0] T (0, 0))) : w.cell? ⟨g, 0, none⟩ = some x0 := (blk_cell h 0).trans rfl
theorem cz2 (h : w.heap[g]? = some (.cells #[x0, x1] T (0, 0))) : w.cell? ⟨g, 0, none⟩ = some x0 ∧ w.cell? ⟨g, 1, none⟩ = some x1 := ⟨(blk_cell h 0).trans rfl, (blk_cell h 1).trans rfl⟩
theorem cz3 (h : w.heap[g]? = some (.cells #[x0, x1, x2] T (0, 0))) : w.cell? ⟨g, 0, none⟩ = some x0 ∧ w.cell? ⟨g, 1, none⟩ = some x1 ∧ w.cell? ⟨g, 2, none⟩ = some x2 := ⟨(blk_cell h 0).trans rfl, (blk_cell h 1).trans rfl, (blk_cell h 2).trans rfl⟩
theorem cz4 (h : w.heap[g]? = some (.cells #[x0, x1, x2, x3] T (0, 0))) : w.cell? ⟨g, 0, none⟩ = some x0 ∧ w.cell? ⟨g, 1, none⟩ = some x1 ∧ w.cell? ⟨g, 2, none⟩ = some x2 ∧ w.cell? ⟨g, 3, none⟩ = some x3 := ⟨(blk_cell h 0).trans rfl, (blk_cell h 1).trans rfl, (blk_cell h 2).trans rfl, (blk_cell h 3).trans rfl⟩
theorem cz5 (h : w.heap[g]? = some (.cells #[x0, x1, x2, x3, x4] T (0, 0))) : w.cell? ⟨g, 0, none⟩ = some x0 ∧ w.cell? ⟨g, 1, none⟩ = some x1 ∧ w.cell? ⟨g, 2, none⟩ = some x2 ∧ w.cell? ⟨g, 3, none⟩ = some x3 ∧ w.cell? ⟨g, 4, none⟩ = some x4 := ⟨(blk_cell h 0).trans rfl, (blk_cell h 1).trans rfl, (blk_cell h 2).trans rfl, (blk_cell h 3).trans rfl, (blk_cell h 4).trans rfl⟩
theorem cz6 (h : w.heap[g]? = some (.cells #[x0, x1, x2, x3, x4, x5] T (0, 0))) : w.cell? ⟨g, 0, none⟩ = some x0 ∧ w.cell? ⟨g, 1, none⟩ = some x1 ∧ w.cell? ⟨g, 2, none⟩ = some x2 ∧ w.cell? ⟨g, 3, none⟩ = some x3 ∧ w.cell? ⟨g, 4, none⟩ = some x4 ∧ w.cell? ⟨g, 5, none⟩ = some x5 := ⟨(blk_cell h 0).trans rfl, (blk_cell h 1).trans rfl, (blk_cell h 2).trans rfl, (blk_cell h 3).trans rfl, (blk_cell h 4).trans rfl, (blk_cell h 5).trans rfl⟩
theorem fz2 (h : w.heap[g]? = some (.cells #[x0, x1] T (0, 0))) : w.frozen? ⟨g, 0, none⟩ = false ∧ w.frozen? ⟨g, 1, none⟩ = false := ⟨blk_frozen h 0, blk_frozen h 1⟩
theorem fz3 (h : w.heap[g]? = some (.cells #[x0, x1, x2] T (0, 0))) : w.frozen? ⟨g, 0, none⟩ = false ∧ w.frozen? ⟨g, 1, none⟩ = false ∧ w.frozen? ⟨g, 2, none⟩ = false := ⟨blk_frozen h 0, blk_frozen h 1, blk_frozen h 2⟩
theorem fz4 (h : w.heap[g]? = some (.cells #[x0, x1, x2, x3] T (0, 0))) : w.frozen? ⟨g, 0, none⟩ = false ∧ w.frozen? ⟨g, 1, none⟩ = false ∧ w.frozen? ⟨g, 2, none⟩ = false ∧ w.frozen? ⟨g, 3, none⟩ = false := ⟨blk_frozen h 0, blk_frozen h 1, blk_frozen h 2, blk_frozen h 3⟩
theorem fz5 (h : w.heap[g]? = some (.cells #[x0, x1, x2, x3, x4] T (0, 0))) : w.frozen? ⟨g, 0, none⟩ = false ∧ w.frozen? ⟨g, 1, none⟩ = false ∧ w.frozen? ⟨g, 2, none⟩ = false ∧ w.frozen? ⟨g, 3, none⟩ = false ∧ w.frozen? ⟨g, 4, none⟩ = false := ⟨blk_frozen h 0, blk_frozen h 1, blk_frozen h 2, blk_frozen h 3, blk_frozen h 4⟩
theorem fz6 (h : w.heap[g]? = some (.cells #[x0, x1, x2, x3, x4, x5] T (0, 0))) : w.frozen? ⟨g, 0, none⟩ = false ∧ w.frozen? ⟨g, 1, none⟩ = false ∧ w.frozen? ⟨g, 2, none⟩ = false ∧ w.frozen? ⟨g, 3, none⟩ = false ∧ w.frozen? ⟨g, 4, none⟩ = false ∧ w.frozen? ⟨g, 5, none⟩ = false := ⟨blk_frozen h 0, blk_frozen h 1, blk_frozen h 2, blk_frozen h 3, blk_frozen h 4, blk_frozen h 5⟩
theorem dq1 {α : Type} {a : α} {m n : Nat} : a = a ∧ ∃ k, (w.drewN m).drewN n = w.drewN k := ⟨rfl, _, World.drewN_drewN _ _ _⟩
theorem dq2 {α : Type} {a : α} {m n k : Nat} : a = a ∧ ∃ j, (w.drewN (m + n)).drewN k = w.drewN (m + j) := ⟨rfl, _, Eq.trans (World.drewN_drewN _ _ _) (congrArg (World.drewN _) (Nat.add_assoc _ _ _))⟩
end
-- what reads in a world reads in one that grows from it by what is laid and drawn
theorem sB {w w' : World} {g : Nat} {o : Obj} (k : w.heap[g]? = some o) (h : Below w.heap.size w w' := by repeat (with_reducible first | exact Below.refl _ _ | apply below_alloc | apply pw_below_drewN | apply below_drew1)) : w'.heap[g]? = some o := blk_below k h
theorem sW {w0 w w' : World} (k : Below w0.heap.size w0 w) (h : Below w.heap.size w w' := by repeat (with_reducible first | exact Below.refl _ _ | apply below_alloc | apply pw_below_drewN | apply below_drew1)) : Below w0.heap.size w0 w' := k.trans (h.mono k.size)
theorem sR {α : Type} {d : Kd α} {e : Nat} {w w' : World} {base : Nat} {ok : Nat → Prop} {v : Value} {xs : List α} (k : d.R e w base ok v xs) (h : Below w.heap.size w w' := by repeat (with_reducible first | exact Below.refl _ _ | apply below_alloc | apply pw_below_drewN | apply below_drew1)) : d.R e w' base ok v xs := Kd.R_below k h
theorem sC {α : Type} {d : Kd α} {w w' : World} {A : Option Addr} {n : Nat} {xs : List α} (k : d.C w A n xs) (h : Below w.heap.size w w' := by repeat (with_reducible first | exact Below.refl _ _ | apply below_alloc | apply pw_below_drewN | apply below_drew1)) : d.C w' A n xs := Kd.C_below k h
theorem am {p : Prop} (h : p) : Aside0 p := ⟨h⟩
theorem bW {P : Prop} (h : P := by repeat (first | (with_reducible first | exact HB.out | apply below_alloc | apply pw_below_drewN | apply below_drew1 | refine below_set ?_ (Aside0.out (by assumption))) | exact HB.out)) : P := h
theorem tm {P : Prop} (h : P := by (try simp only [List.map_toArray, List.map_cons, List.map_nil]); rfl) : P := h
theorem pS {P : Program} {ops : Array Oper} {Q : Exit → Act → World → Prop} {md : Region.Mode} {S : World → Prop} {ds : List Nat} {i : Nat} {N : Option Tmp} {oi : Oper} {v : Value} {fuel : Nat} {l : Array Bool} {a : Act} {w : World} (l' : Array Bool) {a' : Act} (h : wpAnyLast P md ops Q S ds fuel l' a' w) (hi : ops[i]? = some oi := by rfl) (hN : oi.dst = N := by rfl) (hc : anyB md ops l l' i = true := by kernel_rfl) (hQ : ∀ c a w, Q (.panic c) (a.put oi.dst v) w → Q (.panic c) a w := by exact fun _ _ _ h => h) (hy : Yields P ops oi v a := by refine Or.inl ⟨by rfl, ?_⟩; intro w'; go_simp; with_reducible rfl) (ha : a.put N v = a' := by simp only [Act.put, List.setIfInBounds_toArray, List.set_cons_zero, List.set_cons_succ, i64_w, i32_w]; rfl) : wpAnyLast P md ops Q S ds (fuel + 1) l a w := pure_ l' hi hN hc hQ hy ha h
theorem pT {P : Program} {ops : Array Oper} {Q : Exit → Act → World → Prop} {md : Region.Mode} {S : World → Prop} {ds : List Nat} {i : Nat} {N : Option Tmp} {oi : Oper} {v : Value} {fuel : Nat} {l : Array Bool} {a : Act} {w : World} (l' : Array Bool) {a' : Act} (h : wpAnyLast P md ops Q S ds fuel l' a' w) (hi : ops[i]? = some oi := by rfl) (hN : oi.dst = N := by rfl) (hc : anyB md ops l l' i = true := by exact any_of HT_.out (by kernel_rfl)) (hQ : ∀ c a w, Q (.panic c) (a.put oi.dst v) w → Q (.panic c) a w := by exact fun _ _ _ h => h) (hy : Yields P ops oi v a := by refine Or.inl ⟨by rfl, ?_⟩; intro w'; go_simp; with_reducible rfl) (ha : a.put N v = a' := by simp only [Act.put, List.setIfInBounds_toArray, List.set_cons_zero, List.set_cons_succ, i64_w, i32_w]; rfl) : wpAnyLast P md ops Q S ds (fuel + 1) l a w := pure_ l' hi hN hc hQ hy ha h
theorem aP {P : Prop} (h : P := by simp only [Act.put, List.setIfInBounds_toArray, List.set_cons_zero, List.set_cons_succ, i64_w, i32_w]; rfl) : P := h
theorem tn0 : ((0 : Int)).toNat = 0 := rfl
theorem oB {α β : Type} {x : Option α} {f : α → Option β} {b : β} (h : x.bind f = some b) : ∃ a, x = some a ∧ f a = some b := Option.bind_eq_some_iff.mp h
theorem oI {α : Type} {a b : α} (h : some a = some b) : a = b := Option.some.inj h
theorem oD {p : Prop} [Decidable p] (h : decide p = true) : p := of_decide_eq_true h
section
variable {α : Type} {p q E : Prop} [Decidable p] [Decidable q] {u v : Option α} {r : α}
theorem iN (h : (if p then u else none) = some r) : decide p = true ∧ u = some r := by
  by_cases c : p
  · rw [if_pos c] at h; exact ⟨decide_eq_true c, h⟩
  · rw [if_neg c] at h; cases h
theorem iP (h : (if p then u else none) = some r) : p ∧ u = some r := ⟨of_decide_eq_true (iN h).1, (iN h).2⟩
theorem iT (h : (if p then u else none) = some r) : p = True ∧ u = some r := ⟨eq_true (iP h).1, (iP h).2⟩
theorem iTD (h : (if p then u else none) = some r) : p = True ∧ decide p = true ∧ u = some r := ⟨eq_true (iP h).1, iN h⟩
theorem iD (h : (if p then u else v) = some r) : (decide p = true ∧ u = some r) ∨ (decide p = false ∧ v = some r) := by
  by_cases c : p
  · rw [if_pos c] at h; exact .inl ⟨decide_eq_true c, h⟩
  · rw [if_neg c] at h; exact .inr ⟨decide_eq_false c, h⟩
theorem iE {β : Type} [BEq β] [LawfulBEq β] {a b : β} [Decidable (a = b)] (h : (if a = b then u else v) = some r) : ((a == b) = true ∧ (a != b) = false ∧ u = some r) ∨ ((a == b) = false ∧ (a != b) = true ∧ v = some r) := by
  by_cases c : a = b
  · rw [if_pos c] at h; exact .inl ⟨beq_iff_eq.mpr c, bne_eq_false_iff_eq.mpr c, h⟩
  · rw [if_neg c] at h; exact .inr ⟨beq_eq_false_iff_ne.mpr c, bne_iff_ne.mpr c, h⟩
theorem iNE {β : Type} [BEq β] [LawfulBEq β] {a b : β} [Decidable (a = b)] (h : (if a = b then u else none) = some r) : (a == b) = true ∧ (a != b) = false ∧ u = some r := by
  rcases iE h with h | ⟨_, _, h⟩
  · exact h
  · cases h
theorem iB {b : Bool} (h : (if b = true then u else v) = some r) : (b = true ∧ u = some r) ∨ (b = false ∧ v = some r) := by
  cases b with
  | true => exact .inl ⟨rfl, h⟩
  | false => exact .inr ⟨rfl, h⟩
theorem iNB {b : Bool} (h : (if b = true then u else none) = some r) : b = true ∧ u = some r := by
  rcases iB h with h | ⟨_, h⟩
  · exact h
  · cases h
theorem oA {β : Type} {x : Option α} {f : α → Option β} {b : β} (h : x.bind f = some b) : ∃ a, Aside0 (x = some a) ∧ f a = some b := by
  obtain ⟨a, h1, h2⟩ := Option.bind_eq_some_iff.mp h
  exact ⟨a, ⟨h1⟩, h2⟩
theorem ix (f : p → q → E) (h0 : decide p = true := by assumption) (h1 : decide q = true := by assumption) : (p = True) ∧ (q = True) ∧ E := ⟨eq_true (of_decide_eq_true h0), eq_true (of_decide_eq_true h1), f (of_decide_eq_true h0) (of_decide_eq_true h1)⟩
end
theorem cD {P : Program} {f : FuncId} {as : Array Value} {w : World} {v : Value} {Q : Ending → World → Prop} (h : Calls P f as w fun e w' => e = .returned v ∧ Drawn0 w w') (k : ∀ nd, Q (.returned v) (w.drewN nd)) : Calls P f as w Q := h.mono (by rintro e w' ⟨rfl, ⟨nd, rfl⟩⟩; exact k nd)
theorem dq {P : Prop} (h : P := by first | exact dq1 | exact dq2) : P := h
end Go.Proofs.YtkpipmojkhikaaaW.Sq
