/- FnExactCanon: what the printed functions come to, for every input. -/
import Derived.Test.YtkpipmojkhikaaaVExactCanon0
import Derived.Test.YtkpipmojkhikaaaVExactCanon1
import Derived.Test.YtkpipmojkhikaaaVExactCanon2
import Derived.Test.YtkpipmojkhikaaaVExactCanon3
import Derived.Test.YtkpipmojkhikaaaVExactCanon4
import Derived.Test.YtkpipmojkhikaaaVExactCanon5
import Derived.Test.YtkpipmojkhikaaaVExactCanon6
import Derived.Test.YtkpipmojkhikaaaVExactCanon7
import Derived.Test.YtkpipmojkhikaaaVExactCanon8
import Derived.Test.YtkpipmojkhikaaaVExactCanon9
import Derived.Test.YtkpipmojkhikaaaVExactCanon10
import Derived.Test.YtkpipmojkhikaaaVExactCanon11
import Derived.Test.YtkpipmojkhikaaaVExactCanon12
import Derived.Test.YtkpipmojkhikaaaVExactCanon13
import Derived.Test.YtkpipmojkhikaaaVExactCanon14
import Derived.Test.YtkpipmojkhikaaaVExactCanon15
import Derived.Test.YtkpipmojkhikaaaVExactCanon16
import Derived.Test.YtkpipmojkhikaaaVExactCanon17
import Derived.Test.YtkpipmojkhikaaaBase
import Derived.Test.YtkpipmojkhikaaaEv
import Derived.Test.YtkpipmojkhikaaaWalkFnExactCanon
set_option linter.unusedVariables false
set_option linter.unusedSimpArgs false
namespace Go.Proofs.Ytkpipmojkhikaaa.Pure.ExactCanonW
open Go.RowKit Go.Proofs.Ytkpipmojkhikaaa.PAll Go.Proofs.YtkpipmojkhikaaaW.PrintWords Go.Proofs.YtkpipmojkhikaaaW.PrintLast Go.Proofs.YtkpipmojkhikaaaW.PrintMore Go.Proofs.Ytkpipmojkhikaaa.Base

theorem pow2 {w : Int} (h0 : 0 ≤ w) (h8 : w ≤ 8) {k : Nat} (hk : 20 ≤ k) : spec_l01Pow2.f k w = some (P2 w) := by
 obtain ⟨m, rfl⟩ := rounds_of hk
 have : w = 0 ∨ w = 1 ∨ w = 2 ∨ w = 3 ∨ w = 4 ∨ w = 5 ∨ w = 6 ∨ w = 7 ∨ w = 8 := by omega
 rcases this with rfl | rfl | rfl | rfl | rfl | rfl | rfl | rfl | rfl <;> simp [spec_l01Pow2.f, spec_l01Pow2.l0, P2, wrap64]
theorem inS (x a b : Int) : spec_l01In.f x a b = some (decide (a ≤ x ∧ x ≤ b)) := by
 unfold spec_l01In.f
 by_cases h : x ≥ a
 ·rw [if_pos h]; simp [h]
 ·rw [if_neg h]; simp [h]
theorem inI (x a b : Int) : impl_within.f x a b = some (decide (a ≤ x ∧ x ≤ b)) := by
 unfold impl_within.f
 by_cases h : x ≥ a
 ·rw [if_pos h]; simp [h]
 ·rw [if_neg h]; simp [h]
theorem wokS (w a : Int) {k : Nat} (hk : 20 ≤ k) : spec_WordOk.f k w a = some (wok w a) := by
 unfold spec_WordOk.f wok
 rw [inS]; simp only [Option.bind_some]
 by_cases h : 1 ≤ w ∧ w ≤ 8
 ·have hp := P2_pos (by omega : 0 ≤ w) h.2
  rw [if_pos (by simp [h]), pow2 (by omega) h.2 hk]; simp only [Option.bind_some]
  rw [inS, wrap_id (by omega) (by omega)]; simp [h]
 ·rw [if_neg (by simp; omega)]; simp; omega
theorem szNode (l : List S75) (h : l.length ≤ 9223372036854775807) : laws_szNodeS.f l 1048576 = some (if (l.length : Int) > 1048576 then -1 else 1048576 - (l.length : Int)) := by
 unfold laws_szNodeS.f
 rw [wrap_id (by omega) (by omega)]
 by_cases c : (l.length : Int) > 1048576
 ·rw [if_pos (by omega), if_pos c]
 ·rw [if_neg (by omega), if_neg c]
def cvNode (x : S75) : S31 := ⟨x.f0, x.f1, x.f2, x.f3, x.f4, x.f5⟩
theorem toNode_from (l : List S75) (hl : l.length ≤ 1048576) (d : Nat) : ∀ (k : Nat) (acc : List S31) (i : Nat), acc.length = l.length → i ≤ l.length → l.length - i = d → d < k →
  laws_toNodeS.l0 k l acc (i : Int) = some (acc.take i ++ (l.drop i).map cvNode) := by
 induction d with
 | zero =>
  intro k acc i ha hi hd hk
  obtain ⟨k, rfl⟩ : ∃ m, k = m + 1 := ⟨k - 1, by omega⟩
  simp only [laws_toNodeS.l0]
  rw [if_neg (by omega), List.drop_eq_nil_of_le (by omega), List.take_of_length_le (by omega)]; simp
 | succ d ih =>
  intro k acc i ha hi hd hk
  obtain ⟨k, rfl⟩ : ∃ m, k = m + 1 := ⟨k - 1, by omega⟩
  have hlt : i < l.length := by omega
  simp only [laws_toNodeS.l0]
  rw [if_pos (by omega), if_pos (by omega)]
  unfold laws_toNode.f
  simp only [Option.bind_some]
  have hrd : rd_T75 l (i : Int) = l[i] := by
   unfold rd_T75
   rw [Int.toNat_natCast, List.getD_eq_getElem?_getD, List.getElem?_eq_getElem hlt]; rfl
  rw [if_pos (by omega), hrd, wrap_id (by omega) (by omega), show ((i : Int) + 1) = ((i + 1 : Nat) : Int) by omega, Int.toNat_natCast,
   ih k _ (i + 1) (by simpa using ha) (by omega) (by omega) (by omega)]
  congr 1
  rw [List.drop_eq_getElem_cons hlt, List.map_cons]
  have ht : (acc.set i (cvNode l[i])).take (i + 1) = acc.take i ++ [cvNode l[i]] := by
   rw [List.take_succ_eq_append_getElem (by simpa using (by omega : i < acc.length)), List.take_set_of_le (by omega)]
   simp
  show (acc.set i (cvNode l[i])).take (i + 1) ++ _ = _
  rw [ht, List.append_assoc]; rfl
theorem toNode (l : List S75) (hl : l.length ≤ 1048576) : Ev (fun k => laws_toNodeS.f k l) (l.map cvNode) := by
 refine ev_of (l.length + 2) fun k hk => ?_
 unfold laws_toNodeS.f
 rw [if_pos (by omega), if_pos (by omega)]
 have := toNode_from l hl l.length k (List.replicate ((l.length : Int) : Int).toNat z31) 0 (by simp) (by omega) (by omega) (by omega)
 simpa using this
theorem eqNode_one (x : S31) : laws_eqNode.f x.f0 x.f1 x.f2 x.f3 x.f4 x.f5 x.f0 x.f1 x.f2 x.f3 x.f4 x.f5 = some true := by
 unfold laws_eqNode.f; simp
theorem eqNode_from (l : List S31) (hl : l.length ≤ 4611686018427387904) (d : Nat) : ∀ (k i : Nat), i ≤ l.length → l.length - i = d → d < k → laws_eqNodeS.l0 k l l (i : Int) = some true := by
 induction d with
 | zero =>
  intro k i hi hd hk
  obtain ⟨k, rfl⟩ : ∃ m, k = m + 1 := ⟨k - 1, by omega⟩
  simp only [laws_eqNodeS.l0]
  rw [if_neg (by omega)]
 | succ d ih =>
  intro k i hi hd hk
  obtain ⟨k, rfl⟩ : ∃ m, k = m + 1 := ⟨k - 1, by omega⟩
  simp only [laws_eqNodeS.l0]
  rw [if_pos (by omega), if_pos (by omega), if_pos (by omega), eqNode_one]
  simp only [Option.bind_some, if_true]
  rw [wrap_id (by omega) (by omega), show ((i : Int) + 1) = ((i + 1 : Nat) : Int) by omega]
  exact ih k (i + 1) (by omega) (by omega) (by omega)
theorem eqNode (l : List S31) (hl : l.length ≤ 4611686018427387904) : Ev (fun k => laws_eqNodeS.f k l l) true := by
 refine ev_of (l.length + 2) fun k hk => ?_
 unfold laws_eqNodeS.f
 rw [if_pos rfl]
 exact eqNode_from l hl l.length k 0 (by omega) (by omega) (by omega)
def mkNode (m : Int) : S31 := ⟨m, m + 1, m + 2, m + 3, m + 4, m + 5⟩
def mksNode : Nat → Int → List S31
 | 0, _ => []
 | c + 1, m => mkNode m :: mksNode c (m + 6)
theorem mksNode_len (c : Nat) : ∀ m, (mksNode c m).length = c := by
 induction c with
 | zero => intro m; rfl
 | succ c ih => intro m; simp [mksNode, ih]
theorem markNode_from (d : Nat) : ∀ (k : Nat) (l : List S31) (i : Nat) (m : Int), l.length ≤ 576460752303423488 → 0 ≤ m → m + 6 * (l.length - i : Nat) ≤ 9223372036854775807 → i ≤ l.length → l.length - i = d → d < k →
  laws_markNodeS.l0 k l m (i : Int) = some (m + 6 * (d : Int), l.take i ++ mksNode d m) := by
 induction d with
 | zero =>
  intro k l i m hl h0 h1 hi hd hk
  obtain ⟨k, rfl⟩ : ∃ m, k = m + 1 := ⟨k - 1, by omega⟩
  simp only [laws_markNodeS.l0]
  rw [if_neg (by omega), List.take_of_length_le (by omega)]; simp [mksNode]
 | succ d ih =>
  intro k l i m hl h0 h1 hi hd hk
  obtain ⟨k, rfl⟩ : ∃ m, k = m + 1 := ⟨k - 1, by omega⟩
  have hlt : i < l.length := by omega
  have hset : ∀ (x : S31) (l : List S31), i < l.length → rd_T31 (l.set i x) (i : Int) = x := by
   intro x l hlt
   unfold rd_T31
   rw [Int.toNat_natCast, List.getD_eq_getElem?_getD, List.getElem?_set_self hlt]; rfl
  simp only [laws_markNodeS.l0]
  rw [if_pos (by omega), if_pos (by omega)]
  simp only [Option.bind_some, Int.toNat_natCast]
  simp only [hset _ _ hlt, hset _ _ (by simpa using hlt : i < (l.set i _).length), List.set_set, List.length_set, hlt]
  rw [wrap_id (x := m + 1) (by omega) (by omega)]
  rw [wrap_id (x := m + 1 + 1) (by omega) (by omega)]
  rw [wrap_id (x := m + 1 + 1 + 1) (by omega) (by omega)]
  rw [wrap_id (x := m + 1 + 1 + 1 + 1) (by omega) (by omega)]
  rw [wrap_id (x := m + 1 + 1 + 1 + 1 + 1) (by omega) (by omega)]
  rw [wrap_id (x := m + 1 + 1 + 1 + 1 + 1 + 1) (by omega) (by omega)]
  rw [wrap_id (x := (i : Int) + 1) (by omega) (by omega)]
  rw [show ((i : Int) + 1) = ((i + 1 : Nat) : Int) by omega]
  rw [show m + 1 + 1 + 1 + 1 + 1 + 1 = m + 6 by omega]
  rw [ih k _ (i + 1) (m + 6) (by simpa using hl) (by omega) (by rw [List.length_set]; omega) (by rw [List.length_set]; omega) (by rw [List.length_set]; omega) (by omega)]
  congr 1
  rw [Prod.mk.injEq]
  refine ⟨by omega, ?_⟩
  rw [List.take_succ_eq_append_getElem (by simpa using hlt), List.take_set_of_le (by omega), List.append_assoc]
  simp only [List.getElem_set_self, List.singleton_append, mksNode, mkNode]
  try simp only [show ∀ z : Int, z + 1 + 1 = z + 2 from fun z => by omega]
  try simp [Int.add_assoc]
theorem markNode (l : List S31) (hl : l.length ≤ 576460752303423488) : Ev (fun k => laws_markNodeS.f k l 1) (1 + 6 * (l.length : Int), mksNode l.length 1) := by
 refine ev_of (l.length + 2) fun k hk => ?_
 unfold laws_markNodeS.f
 have := markNode_from l.length k l 0 1 (by omega) (by omega) (by omega) (by omega) (by omega) (by omega)
 simpa using this
theorem heldNode_from (d : Nat) : ∀ (k : Nat) (l : List S31) (i : Nat) (m : Int), l.length ≤ 576460752303423488 → 0 ≤ m → m + 6 * (d : Int) ≤ 9223372036854775807 → i ≤ l.length → l.length - i = d → l.drop i = mksNode d m → d < k →
  laws_heldNodeS.l0 k l m (i : Int) = some (m + 6 * (d : Int)) := by
 induction d with
 | zero =>
  intro k l i m hl h0 h1 hi hd he hk
  obtain ⟨k, rfl⟩ : ∃ m, k = m + 1 := ⟨k - 1, by omega⟩
  simp only [laws_heldNodeS.l0]
  rw [if_neg (by omega)]; simp
 | succ d ih =>
  intro k l i m hl h0 h1 hi hd he hk
  obtain ⟨k, rfl⟩ : ∃ m, k = m + 1 := ⟨k - 1, by omega⟩
  have hlt : i < l.length := by omega
  have hx : rd_T31 l (i : Int) = mkNode m := by
   unfold rd_T31
   rw [Int.toNat_natCast, List.getD_eq_getElem?_getD, List.getElem?_eq_getElem hlt]
   rw [List.drop_eq_getElem_cons hlt, mksNode] at he
   exact (List.cons.inj he).1
  have he2 : l.drop (i + 1) = mksNode d (m + 6) := by
   rw [List.drop_eq_getElem_cons hlt, mksNode] at he
   exact (List.cons.inj he).2
  simp only [laws_heldNodeS.l0]
  rw [if_pos (by omega), if_pos (by omega), hx]
  simp only [mkNode]
  rw [wrap_id (x := m + 1) (by omega) (by omega)]
  rw [wrap_id (x := m + 1 + 1) (by omega) (by omega)]
  rw [wrap_id (x := m + 1 + 1 + 1) (by omega) (by omega)]
  rw [wrap_id (x := m + 1 + 1 + 1 + 1) (by omega) (by omega)]
  rw [wrap_id (x := m + 1 + 1 + 1 + 1 + 1) (by omega) (by omega)]
  rw [wrap_id (x := m + 1 + 1 + 1 + 1 + 1 + 1) (by omega) (by omega)]
  rw [wrap_id (x := (i : Int) + 1) (by omega) (by omega)]
  simp only [show m + 1 + 1 = m + 2 by omega, show m + 2 + 1 = m + 3 by omega, show m + 3 + 1 = m + 4 by omega, show m + 4 + 1 = m + 5 by omega, show m + 5 + 1 = m + 6 by omega, if_true, bne_self_eq_false, Bool.false_eq_true, if_false]
  rw [show ((i : Int) + 1) = ((i + 1 : Nat) : Int) by omega]
  rw [ih k l (i + 1) (m + 6) hl (by omega) (by omega) (by omega) (by omega) he2 (by omega)]
  congr 1; omega
theorem heldNode (c : Nat) (hl : c ≤ 576460752303423488) : Ev (fun k => laws_heldNodeS.f k (mksNode c 1) 1) (1 + 6 * (c : Int)) := by
 refine ev_of (c + 2) fun k hk => ?_
 unfold laws_heldNodeS.f
 have hlen := mksNode_len c 1
 exact heldNode_from c k (mksNode c 1) 0 1 (by omega) (by omega) (by omega) (by omega) (by omega) rfl (by omega)
theorem partsS (op w q a b c : Int) {k : Nat} (hk : 1 ≤ k) : spec_Parts.f k op w q a b c = some (partsL op a b c) := by
 obtain ⟨k, rfl⟩ : ∃ m, k = m + 1 := ⟨k - 1, by omega⟩
 unfold spec_Parts.f partsL
 simp only [spec_Parts.j0, inS]
 by_cases h2 : op = 2
 ·subst h2; simp
 ·by_cases h17 : op = 17
  ·subst h17; simp
  ·by_cases h19 : op = 19
   ·subst h19; simp
   ·by_cases h20 : op = 20
    ·subst h20; simp
    ·have hq : ¬ (op = 2 ∨ op = 17 ∨ op = 19 ∨ op = 20) := by omega
     rw [if_neg h2, if_neg h17, if_neg h19, if_neg (by simpa using h20), if_neg hq]
     simp only [Option.bind_some, decide_eq_true_eq]
     by_cases h3 : 3 ≤ op ∧ op ≤ 16
     ·rw [if_pos h3, if_pos h3]
     ·rw [if_neg h3, if_neg h3]
      by_cases h18 : op = 18
      ·rw [if_pos h18, if_pos h18]
      ·rw [if_neg h18, if_neg h18]
theorem rdI (l : List Int) (i : Nat) (h : i < l.length) : rd l (i : Int) = l[i] := by simp [rd, h]
theorem inB_iff {x a b : Int} : inB x a b = true ↔ a ≤ x ∧ x ≤ b := by simp [inB]
theorem inSB (x a b : Int) : spec_l01In.f x a b = some (inB x a b) := inS x a b
theorem node_l0 (l : List S31) (i : Int) (hi0 : 0 ≤ i) (hi1 : i ≤ 9223372036854775807) (ps : List Int) (hps : ps.length ≤ 3) (n0 n1 n2 n3 n4 n5 : Int) (r : Bool)
  (h1 : (∀ p ∈ ps, inB p 0 (i - 1) = true) → Ev (fun k => spec_l02Node.l0 k l i ps (ps.length : Int) n0 n1 n2 n3 n4 n5) r) (h2 : (¬ ∀ p ∈ ps, inB p 0 (i - 1) = true) → r = false) (d : Nat) :
  ∀ j : Nat, j + d = ps.length → (∀ t : Nat, t < j → inB (rd ps (t : Int)) 0 (i - 1) = true) → Ev (fun k => spec_l02Node.l0 k l i ps (j : Int) n0 n1 n2 n3 n4 n5) r := by
 induction d with
 | zero =>
  intro j hj hA
  obtain rfl : j = ps.length := by omega
  refine h1 fun p hp => ?_
  obtain ⟨t, ht, rfl⟩ := List.getElem_of_mem hp
  rw [← rdI ps t ht]; exact hA t ht
 | succ d ih =>
  intro j hj hA
  have hlt : j < ps.length := by omega
  refine ev_succ ?_
  simp only [spec_l02Node.l0]
  refine ev_pos (by omega) (ev_pos (by omega) (ev_bind0 (inSB _ _ _) ?_))
  rw [wrap_id (x := i - 1) (by omega) (by omega)]
  by_cases hb : inB (rd ps (j : Int)) 0 (i - 1) = true
  ·refine ev_pos hb ?_
   rw [wrap_id (by omega) (by omega)]
   refine ih (j + 1) (by omega) fun t ht => ?_
   rcases Nat.lt_or_ge t j with h | h
   ·exact hA t h
   ·obtain rfl : t = j := by omega
    exact hb
  ·refine ev_neg hb ?_
   rw [h2 fun h => hb (by rw [rdI ps j hlt]; exact h _ (List.getElem_mem hlt))]
   exact ev_now
theorem node_l1 (l : List S31) (hl : l.length ≤ 4611686018427387904) (ps : List Int) (hps : ps.length ≤ 3) (hp : ∀ p ∈ ps, 0 ≤ p ∧ p < (l.length : Int)) (n0 n1 n2 n3 n4 n5 : Int) (r : Bool)
  (h : Ev (fun k => spec_l02Node.l1 k l ps (ps.map fun p => (rd_T31 l p).f1) (ps.length : Int) n0 n1 n2 n3 n4 n5) r) (d : Nat) :
  ∀ j : Nat, j + d = ps.length → Ev (fun k => spec_l02Node.l1 k l ps ((ps.take j).map fun p => (rd_T31 l p).f1) (j : Int) n0 n1 n2 n3 n4 n5) r := by
 induction d with
 | zero =>
  intro j hj
  obtain rfl : j = ps.length := by omega
  rw [List.take_of_length_le (by omega)]; exact h
 | succ d ih =>
  intro j hj
  have hlt : j < ps.length := by omega
  have hq := hp _ (List.getElem_mem hlt)
  refine ev_succ ?_
  simp only [spec_l02Node.l1]
  rw [rdI ps j hlt]
  refine ev_pos (by omega) (ev_pos (by omega) (ev_pos hq.1 (ev_pos hq.2 (ev_pos (by simp; omega) ?_))))
  rw [wrap_id (by omega) (by omega), show ((j : Int) + 1) = ((j + 1 : Nat) : Int) by omega]
  have := ih (j + 1) (by omega)
  rwa [List.take_succ_eq_append_getElem hlt, List.map_append] at this
theorem rd_take (l : List S31) (i : Nat) (p : Int) (h0 : 0 ≤ p) (h1 : p < i) : rd_T31 (l.take i) p = rd_T31 l p := by
 unfold rd_T31
 rw [List.getD_eq_getElem?_getD, List.getD_eq_getElem?_getD, List.getElem?_take, if_pos (by omega)]
theorem sw_ev (l : List S31) (ps ws : List Int) (op W K A B C : Int) (hps : ps = partsL op A B C) (hws : ws.length = ps.length) :
  Ev (fun k => spec_l02Node.l1 k l ps ws (ps.length : Int) op W K A B C) (inB op 0 20 && usesB op K A B C && rightSw op W K B (ws.getD 0 0) (ws.getD 1 0) (ws.getD 2 0)) := by
 have hl := partsL_len op A B C
 refine ev_of 60 fun k hk => ?_
 obtain ⟨k, rfl⟩ : ∃ m, k = m + 2 := ⟨k - 2, by omega⟩
 simp only [spec_l02Node.l1]
 rw [if_neg (by omega), wokS _ _ (by omega), inSB, inSB, inSB]
 simp only [Option.bind_some, spec_l02Node.j2, inSB]
 have rd0 : rd ws 0 = ws.getD 0 0 := rfl
 have rd1 : rd ws 1 = ws.getD 1 0 := rfl
 have rd2 : rd ws 2 = ws.getD 2 0 := rfl
 rw [rd0, rd1, rd2]
 generalize ws.getD 0 0 = u
 generalize ws.getD 1 0 = v
 generalize ws.getD 2 0 = x
 by_cases h0 : op = 0
 ·subst h0; simp [inB, usesB, rightSw]; by_cases g : wok W K = true <;> by_cases a : A = 0 <;> by_cases b : B = 0 <;> simp [g, a, b]
 rw [if_neg h0]
 by_cases h1 : op = 1
 ·subst h1; by_cases g : inB K 0 7 = true <;> by_cases a : A = 0 <;> by_cases b : B = 0 <;> simp [usesB, rightSw, g, a, b, inB_iff.mpr (show (0 : Int) ≤ 1 ∧ (1 : Int) ≤ 20 by omega)]
 rw [if_neg h1]
 by_cases h2 : op = 2
 ·subst h2
  have hn : (0 : Int) < (ws.length : Int) := by rw [hws, hps]; simp [partsL]
  rw [if_pos rfl, if_pos hn]
  by_cases a : u = W <;> by_cases b : K = 0 <;> by_cases c : B = 0 <;> simp [inB, usesB, rightSw, a, b, c]
 rw [if_neg h2]
 by_cases h3 : 3 ≤ op ∧ op ≤ 12
 ·have e : ps = [A, B] := by rw [hps]; unfold partsL; rw [if_neg (by omega), if_pos (by omega)]
  have hn : ws.length = 2 := by rw [hws, e]; rfl
  rw [if_pos (inB_iff.mpr h3), if_pos (by omega), if_pos (c := (1 : Int) < _) (by omega)]
  have hu : usesB op K A B C = (K == 0 && C == 0) := by unfold usesB; rw [if_neg (by omega), if_neg (by omega), if_neg (by omega), if_neg (by omega), if_pos (by omega)]
  have hr : rightSw op W K B u v x = (u == W && v == W) := by unfold rightSw; rw [if_neg (by omega), if_neg (by omega), if_neg (by omega), if_pos (by omega)]
  rw [hu, hr, inB_iff.mpr (show 0 ≤ op ∧ op ≤ 20 by omega)]
  by_cases a : u = W <;> by_cases b : K = 0 <;> by_cases c : v = W <;> simp [a, b, c]
 rw [if_neg (fun h => h3 (inB_iff.mp h))]
 by_cases h4 : 13 ≤ op ∧ op ≤ 15
 ·have e : ps = [A, B] := by rw [hps]; unfold partsL; rw [if_neg (by omega), if_pos (by omega)]
  have hn : ws.length = 2 := by rw [hws, e]; rfl
  rw [if_pos (inB_iff.mpr h4), if_pos (by omega), if_pos (c := (1 : Int) < _) (by omega)]
  have hu : usesB op K A B C = (K == 0 && C == 0) := by unfold usesB; rw [if_neg (by omega), if_neg (by omega), if_neg (by omega), if_neg (by omega), if_pos (by omega)]
  have hr : rightSw op W K B u v x = (u == v && W == 1) := by unfold rightSw; rw [if_neg (by omega), if_neg (by omega), if_neg (by omega), if_neg (by omega), if_pos (by omega)]
  rw [hu, hr, inB_iff.mpr (show 0 ≤ op ∧ op ≤ 20 by omega)]
  by_cases a : u = v <;> by_cases b : K = 0 <;> by_cases c : W = 1 <;> simp [a, b, c]
 rw [if_neg (fun h => h4 (inB_iff.mp h))]
 by_cases h16 : op = 16
 ·subst h16
  have hn : ws.length = 2 := by rw [hws, hps]; rfl
  rw [if_pos rfl, if_pos (by omega), if_pos (c := (1 : Int) < _) (by omega)]
  by_cases a : wrap64 (u + v) = W <;> by_cases b : K = 0 <;> simp [inB, usesB, rightSw, a, b]
 rw [if_neg h16]
 by_cases h17 : op = 17
 ·subst h17
  have hn : ws.length = 1 := by rw [hws, hps]; rfl
  rw [if_pos rfl, if_pos (c := (0 : Int) < _) (by omega)]
  by_cases a : 0 ≤ K <;> by_cases b : K ≤ wrap64 (u - W) <;> by_cases c : B = 0 <;> simp [inB, usesB, rightSw, a, b, c]
 rw [if_neg h17]
 by_cases h18 : op = 18
 ·subst h18
  have hn : ws.length = 3 := by rw [hws, hps]; rfl
  rw [if_pos rfl, if_pos (c := (0 : Int) < _) (by omega), if_pos (c := (1 : Int) < _) (by omega), if_pos (c := (2 : Int) < _) (by omega)]
  by_cases a : u = 1 <;> by_cases b : v = W <;> by_cases c : x = W <;> simp [inB, usesB, rightSw, a, b, c]
 rw [if_neg h18]
 by_cases h19 : op = 19
 ·subst h19
  have hn : ws.length = 1 := by rw [hws, hps]; rfl
  rw [if_pos rfl, if_pos trivial, if_pos (c := (0 : Int) < _) (by omega)]
  by_cases a : inB K 0 7 = true <;> by_cases b : inB B 1 8 = true <;> by_cases c : u = 1 <;> by_cases d : W = 1 <;> simp [usesB, rightSw, a, b, c, d, inB_iff.mpr (show (0 : Int) ≤ 19 ∧ (19 : Int) ≤ 20 by omega)]
 rw [if_neg h19]
 by_cases h20 : op = 20
 ·subst h20
  have hn : ws.length = 1 := by rw [hws, hps]; rfl
  rw [if_pos (by rfl), if_pos (c := (0 : Int) < _) (by omega)]
  by_cases a : inB K 0 7 = true <;> by_cases b : inB B 1 8 = true <;> by_cases c : u = 1 <;> by_cases d : W = 1 <;> simp [usesB, rightSw, a, b, c, d, inB_iff.mpr (show (0 : Int) ≤ 20 ∧ (20 : Int) ≤ 20 by omega)]
 rw [if_neg (by simpa using h20)]
 have hn : inB op 0 20 = false := by simp [inB]; omega
 simp [hn]
theorem node_ev (l : List S31) (hl : l.length ≤ 4611686018427387904) (i : Nat) (hi : i < l.length) : Ev (fun k => spec_l02Node.f k l (i : Int)) (rightB (l.take i) (rd_T31 l i).f0 (rd_T31 l i).f1 (rd_T31 l i).f2 (rd_T31 l i).f3 (rd_T31 l i).f4 (rd_T31 l i).f5) := by
 unfold spec_l02Node.f
 refine ev_pos (by omega) (ev_pos (by omega) (ev_bind (ev_of 1 fun k hk => partsS _ _ _ _ _ _ hk) ?_))
 generalize (rd_T31 l i).f0 = op
 generalize (rd_T31 l i).f1 = W
 generalize (rd_T31 l i).f2 = K
 generalize (rd_T31 l i).f3 = A
 generalize (rd_T31 l i).f4 = B
 generalize (rd_T31 l i).f5 = C
 have hlen := partsL_len op A B C
 have htk : ((l.take i).length : Int) = i := by rw [List.length_take]; omega
 refine node_l0 l i (by omega) (by omega) _ hlen op W K A B C _ (fun hall => ?_) (fun hn => ?_) _ 0 (Nat.zero_add _) (fun t ht => absurd ht (by omega))
 ·refine ev_succ ?_
  simp only [spec_l02Node.l0]
  refine ev_neg (by omega) (ev_bind0 (inSB _ _ _) ?_)
  have hall' : (partsL op A B C).all (fun p => inB p 0 (((l.take i).length : Int) - 1)) = true := by rw [htk]; exact List.all_eq_true.mpr hall
  unfold rightB
  rw [hall']
  by_cases hw : inB W 1 8 = true
  ·refine ev_pos hw ?_
   rw [hw]
   have hwv : ∀ t : Nat, wv (l.take i) (partsL op A B C) (partsL op A B C).length t = ((partsL op A B C).map fun p => (rd_T31 l p).f1).getD t 0 := by
    intro t
    unfold wv
    by_cases ht : t < (partsL op A B C).length
    ·rw [if_pos ht, rdI _ t ht, List.getD_eq_getElem?_getD, List.getElem?_map, List.getElem?_eq_getElem ht]
     have := inB_iff.mp (hall _ (List.getElem_mem ht))
     rw [rd_take l i _ this.1 (by omega)]; rfl
    ·rw [if_neg ht, List.getD_eq_getElem?_getD, List.getElem?_eq_none (by simp; omega)]; rfl
   rw [hwv, hwv, hwv]
   simp only [Bool.true_and, Bool.and_true]
   exact node_l1 l hl _ hlen (fun p hp => by have := inB_iff.mp (hall p hp); omega) op W K A B C _ (sw_ev l _ _ op W K A B C rfl (by simp)) _ 0 (Nat.zero_add _)
  ·have hw' : inB W 1 8 = false := by simpa using hw
   refine ev_neg hw ?_
   rw [hw']; simp only [Bool.false_and]; exact ev_now
 ·unfold rightB
  have hnot : (partsL op A B C).all (fun p => inB p 0 (((l.take i).length : Int) - 1)) = false := by
   rw [htk]
   cases e : (partsL op A B C).all (fun p => inB p 0 ((i : Int) - 1)) with
   | false => rfl
   | true => exact absurd (List.all_eq_true.mp e) hn
  rw [hnot]; simp
/-- Node i of a list is right. -/
def nodeB (l : List S31) (i : Nat) : Bool := rightB (l.take i) (rd_T31 l i).f0 (rd_T31 l i).f1 (rd_T31 l i).f2 (rd_T31 l i).f3 (rd_T31 l i).f4 (rd_T31 l i).f5
def NodesOk (l : List S31) : Prop := ∀ i < l.length, nodeB l i = true
def TermOkP (l : List S31) : Prop := 1 ≤ l.length ∧ l.length ≤ 80 ∧ NodesOk l
theorem termS_from (l : List S31) (hl : l.length ≤ 80) (d : Nat) : ∀ i : Nat, i + d = l.length → ∃ r, Ev (fun k => spec_TermOk.l0 k l (i : Int)) r ∧ Ev (fun k => impl_TermOk.l0 k l l (l.length : Int) (i : Int)) r ∧ (r = true ↔ ∀ j < l.length, i ≤ j → nodeB l j = true) := by
 induction d with
 | zero =>
  intro i hi
  refine ⟨true, ev_succ ?_, ev_succ ?_, by simp; intro j h1 h2; omega⟩
  ·simp only [spec_TermOk.l0]; exact ev_neg (by omega) ev_now
  ·simp only [impl_TermOk.l0]; exact ev_neg (by omega) ev_now
 | succ d ih =>
  intro i hi
  have hlt : i < l.length := by omega
  obtain ⟨r, e1, e2, h⟩ := ih (i + 1) (by omega)
  have hn := node_ev l (by omega) i hlt
  by_cases hb : nodeB l i = true
  ·refine ⟨r, ev_succ ?_, ev_succ ?_, ?_⟩
   ·simp only [spec_TermOk.l0]
    refine ev_pos (by omega) (ev_bind hn (ev_pos hb ?_))
    rw [wrap_id (by omega) (by omega), show ((i : Int) + 1) = ((i + 1 : Nat) : Int) by omega]; exact e1
   ·simp only [impl_TermOk.l0]
    refine ev_pos (by omega) (ev_pos (by omega) (ev_pos (by omega) (ev_pos (by omega) (ev_bind0 rfl (ev_pos hb ?_)))))
    rw [wrap_id (by omega) (by omega), show ((i : Int) + 1) = ((i + 1 : Nat) : Int) by omega]; exact e2
   ·rw [h]
    constructor
    ·intro hh j h1 h2
     rcases Nat.lt_or_ge i j with h3 | h3
     ·exact hh j h1 h3
     ·obtain rfl : i = j := by omega
      exact hb
    ·intro hh j h1 h2
     exact hh j h1 (by omega)
  ·refine ⟨false, ev_succ ?_, ev_succ ?_, ?_⟩
   ·simp only [spec_TermOk.l0]
    exact ev_pos (by omega) (ev_bind hn (ev_neg hb ev_now))
   ·simp only [impl_TermOk.l0]
    exact ev_pos (by omega) (ev_pos (by omega) (ev_pos (by omega) (ev_pos (by omega) (ev_bind0 rfl (ev_neg hb ev_now)))))
   ·simp only [Bool.false_eq_true, false_iff]
    intro hh
    exact hb (hh i hlt (by omega))
theorem term_ev (l : List S31) : ∃ r, Ev (fun k => spec_TermOk.f k l) r ∧ Ev (fun k => impl_TermOk.f k l) r ∧ (r = true ↔ TermOkP l) := by
 by_cases hb : 1 ≤ (l.length : Int) ∧ (l.length : Int) ≤ 80
 ·obtain ⟨r, e1, e2, h⟩ := termS_from l (by omega) l.length 0 (by omega)
  refine ⟨r, ?_, ?_, ?_⟩
  ·unfold spec_TermOk.f; exact ev_bind0 (inS _ _ _) (ev_pos (by simpa using hb) e1)
  ·unfold impl_TermOk.f; exact ev_bind0 (inI _ _ _) (ev_pos (by simpa using hb) e2)
  ·rw [h]; unfold TermOkP NodesOk
   constructor
   ·intro hh; exact ⟨by omega, by omega, fun i hi => hh i hi (by omega)⟩
   ·intro hh j h1 _; exact hh.2.2 j h1
 ·refine ⟨false, ?_, ?_, ?_⟩
  ·unfold spec_TermOk.f; exact ev_bind0 (inS _ _ _) (ev_neg (by simpa using hb) ev_now)
  ·unfold impl_TermOk.f; exact ev_bind0 (inI _ _ _) (ev_neg (by simpa using hb) ev_now)
  ·simp only [Bool.false_eq_true, false_iff]; unfold TermOkP; omega
/-- The places of node i's parts. -/
def pl (l : List S31) (i : Nat) : List Int := partsL (rd_T31 l i).f0 (rd_T31 l i).f3 (rd_T31 l i).f4 (rd_T31 l i).f5
def PartsIn (l : List S31) : Prop := ∀ i < l.length, ∀ p ∈ pl l i, 0 ≤ p ∧ p < (i : Int)
theorem parts_in {l : List S31} (h : NodesOk l) : PartsIn l := by
 intro i hi p hp
 have hb := h i hi
 unfold nodeB rightB at hb
 simp only [Bool.and_eq_true] at hb
 have := inB_iff.mp (List.all_eq_true.mp hb.1.2 p hp)
 rw [List.length_take] at this
 omega
theorem isqI (a b c d e f : Int) : impl_isQuant.f a b c d e f = some ((a == 19) || (a == 20)) := by
 unfold impl_isQuant.f
 by_cases h : a = 19
 ·rw [if_pos h]; simp [h]
 ·rw [if_neg h]; simp [h]
theorem isqS (a : Int) : spec_l02Quant.f a = some ((a == 19) || (a == 20)) := by
 unfold spec_l02Quant.f
 by_cases h : a = 19
 ·rw [if_pos h]; simp [h]
 ·rw [if_neg h]; simp [h]
/-- Texts as lists of bytes. -/
def mkB (l : List UInt8) : ByteArray := ⟨l.toArray⟩
theorem mkB_app (a b : List UInt8) : mkB a ++ mkB b = mkB (a ++ b) := by
 unfold mkB
 apply ByteArray.ext
 rw [ByteArray.data_append]; simp
theorem mkB_size (a : List UInt8) : (mkB a).size = a.length := by unfold mkB; simp [ByteArray.size]
theorem mkB_toList (a : List UInt8) : (mkB a).toList = a := by rw [ByteArray.toList_eq]; unfold mkB; simp
/-- A whole number from 0 to 999 in decimal. -/
def d8 (n : Int) : UInt8 := UInt8.ofNat (48 + n.toNat)
def decL (n : Int) : List UInt8 := if n < 10 then [d8 n] else if n < 100 then [d8 (n / 10), d8 (n % 10)] else [d8 (n / 100), d8 (n / 10 % 10), d8 (n % 10)]
theorem decL_len (n : Int) : 1 ≤ (decL n).length ∧ (decL n).length ≤ 3 := by unfold decL; split <;> (try split) <;> simp
theorem digS {d : Int} (h0 : 0 ≤ d) (h1 : d < 10) : (⟨#[48, 49, 50, 51, 52, 53, 54, 55, 56, 57]⟩ : ByteArray).extract d.toNat (d + 1).toNat = mkB [d8 d] := by
 have : d = 0 ∨ d = 1 ∨ d = 2 ∨ d = 3 ∨ d = 4 ∨ d = 5 ∨ d = 6 ∨ d = 7 ∨ d = 8 ∨ d = 9 := by omega
 rcases this with rfl | rfl | rfl | rfl | rfl | rfl | rfl | rfl | rfl | rfl <;> decide +kernel
theorem digI {d : Int} (h0 : 0 ≤ d) (h1 : d < 10) : strOfNums [(IntKind.u64.wrap (48 + d)) % 256] = mkB [d8 d] := by
 have : d = 0 ∨ d = 1 ∨ d = 2 ∨ d = 3 ∨ d = 4 ∨ d = 5 ∨ d = 6 ∨ d = 7 ∨ d = 8 ∨ d = 9 := by omega
 rcases this with rfl | rfl | rfl | rfl | rfl | rfl | rfl | rfl | rfl | rfl <;> decide +kernel
theorem decS_step (a m : Int) (ha : 0 ≤ a) (h0 : 0 < m) (h1 : m ≤ 999) (acc : List UInt8) (hacc : acc.length ≤ 100) (r : ByteArray) (h : Ev (fun k => spec_l03Dec.l0 k a (mkB (d8 (m % 10) :: acc)) (m / 10)) r) :
  Ev (fun k => spec_l03Dec.l0 k a (mkB acc) m) r := by
 refine ev_succ ?_
 simp only [spec_l03Dec.l0]
 rw [Int.tmod_eq_emod_of_nonneg (by omega), Int.tdiv_eq_ediv_of_nonneg (by omega)]
 have hm : 0 ≤ m % 10 ∧ m % 10 < 10 := by omega
 rw [wrap_id (x := m % 10 + 1) (by omega) (by omega), wrap_id (x := m / 10) (by omega) (by omega), digS hm.1 hm.2, mkB_app, mkB_size, mkB_size]
 exact ev_neg (by omega) (ev_neg (by omega) (ev_pos (by omega) (ev_pos (by omega) (ev_pos (by omega) (ev_pos (by simp; omega) h)))))
theorem decS (n : Int) (h0 : 0 ≤ n) (h1 : n ≤ 999) : Ev (fun k => spec_l03Dec.f k n) (mkB (decL n)) := by
 unfold spec_l03Dec.f
 by_cases hz : n = 0
 ·subst hz; exact ev_pos rfl (ev_eq (by decide +kernel))
 ·refine ev_neg hz ?_
  have fin : ∀ l : List UInt8, Ev (fun k => spec_l03Dec.l0 k n (mkB l) 0) (mkB l) := by
   intro l
   refine ev_succ ?_
   simp only [spec_l03Dec.l0]
   exact ev_pos trivial (ev_neg (by omega) ev_now)
  refine decS_step n n h0 (by omega) h1 [] (by simp) _ ?_
  by_cases h10 : n < 10
  ·rw [show n / 10 = 0 by omega, show n % 10 = n by omega]
   unfold decL; rw [if_pos h10]; exact fin _
  ·refine decS_step n _ h0 (by omega) (by omega) _ (by simp) _ ?_
   by_cases h100 : n < 100
   ·rw [show n / 10 / 10 = 0 by omega, show n / 10 % 10 = n / 10 by omega]
    unfold decL; rw [if_neg h10, if_pos h100]; exact fin _
   ·refine decS_step n _ h0 (by omega) (by omega) _ (by simp) _ ?_
    rw [show n / 10 / 10 / 10 = 0 by omega, show n / 10 / 10 % 10 = n / 100 by omega]
    unfold decL; rw [if_neg h10, if_neg h100]; exact fin _
theorem decI_step (m : Int) (h1 : 0 ≤ m) (h2 : m ≤ 999) (acc : List UInt8) (hacc : acc.length ≤ 100) (h0 : 0 < m ∨ acc = []) (r : ByteArray) (h : Ev (fun k => impl_digits.l0 k (m / 10) (mkB (d8 (m % 10) :: acc))) r) :
  Ev (fun k => impl_digits.l0 k m (mkB acc)) r := by
 have hw : IntKind.u64.wrap (m / 10) = m / 10 := u64_id (by omega) (by omega)
 refine ev_succ ?_
 simp only [impl_digits.l0]
 rw [Int.tmod_eq_emod_of_nonneg (by omega), Int.tdiv_eq_ediv_of_nonneg (by omega), hw, mkB_toList]
 have hd := digI (d := m % 10) (by omega) (by omega)
 have fin : Ev (fun k => if (strOfNums [(IntKind.u64.wrap (48 + m % 10)) % 256]).size + (mkB acc).size ≤ 9223372036854775807 then impl_digits.l0 k (m / 10) (strOfNums [(IntKind.u64.wrap (48 + m % 10)) % 256] ++ mkB acc) else none) r := by
  rw [hd, mkB_app, mkB_size, mkB_size]
  exact ev_pos (by simp; omega) h
 by_cases he : acc = []
 ·exact ev_pos he (ev_bind0 rfl fin)
 ·exact ev_neg he (ev_pos (by rcases h0 with h | h; exact h; exact absurd h he) (ev_bind0 rfl fin))
theorem decI (n : Int) (h0 : 0 ≤ n) (h1 : n ≤ 999) : Ev (fun k => impl_decimal.f k n) (mkB (decL n)) := by
 unfold impl_decimal.f impl_digits.f
 have hu : IntKind.u64.wrap n = n := u64_id (by omega) (by omega)
 rw [hu]
 refine ev_neg (by omega) (ev_bind (a := mkB (decL n)) ?_ ev_now)
 have fin : ∀ l : List UInt8, l ≠ [] → Ev (fun k => impl_digits.l0 k 0 (mkB l)) (mkB l) := by
  intro l hl
  refine ev_succ ?_
  simp only [impl_digits.l0]
  rw [mkB_toList]
  exact ev_neg hl (ev_neg (by omega) ev_now)
 refine decI_step n h0 h1 [] (by simp) (.inr rfl) _ ?_
 by_cases h10 : n < 10
 ·rw [show n / 10 = 0 by omega, show n % 10 = n by omega]
  unfold decL; rw [if_pos h10]; exact fin _ (by simp)
 ·refine decI_step _ (by omega) (by omega) _ (by simp) (.inl (by omega)) _ ?_
  by_cases h100 : n < 100
  ·rw [show n / 10 / 10 = 0 by omega, show n / 10 % 10 = n / 10 by omega]
   unfold decL; rw [if_neg h10, if_pos h100]; exact fin _ (by simp)
  ·refine decI_step _ (by omega) (by omega) _ (by simp) (.inl (by omega)) _ ?_
   rw [show n / 10 / 10 / 10 = 0 by omega, show n / 10 / 10 % 10 = n / 100 by omega]
   unfold decL; rw [if_neg h10, if_neg h100]; exact fin _ (by simp)
/-- The words of the operators of two parts. -/
def wordsL : List (List UInt8) := [[97, 110, 100], [111, 114], [120, 111, 114], [97, 100, 100], [115, 117, 98], [109, 117, 108], [100, 105, 118], [114, 101, 109], [115, 104, 108], [115, 104, 114], [61], [60], [115, 60], [106, 111, 105, 110]]
theorem wordsL_len (i : Nat) : (wordsL.getD i []).length ≤ 4 := by
 by_cases h : i < 14
 ·have : i = 0 ∨ i = 1 ∨ i = 2 ∨ i = 3 ∨ i = 4 ∨ i = 5 ∨ i = 6 ∨ i = 7 ∨ i = 8 ∨ i = 9 ∨ i = 10 ∨ i = 11 ∨ i = 12 ∨ i = 13 := by omega
  rcases this with rfl | rfl | rfl | rfl | rfl | rfl | rfl | rfl | rfl | rfl | rfl | rfl | rfl | rfl <;> decide
 ·rw [List.getD_eq_getElem?_getD, List.getElem?_eq_none (by simp [wordsL]; omega)]; simp
/-- What stands behind the opening bracket of a node, ahead of its parts. -/
def hdL (op W K B : Int) : List UInt8 :=
 if op = 2 then [110, 111, 116] else if op = 17 then [115, 108, 105, 99, 101, 32] ++ decL K ++ [32] ++ decL W else if op = 18 then [105, 102]
 else if op = 19 then [97, 108, 108, 32, 118] ++ decL K ++ [58] ++ decL B else if op = 20 then [115, 111, 109, 101, 32, 118] ++ decL K ++ [58] ++ decL B else wordsL.getD (op - 3).toNat []
theorem hdL_len (op W K B : Int) : (hdL op W K B).length ≤ 20 := by
 have h1 := decL_len K; have h2 := decL_len W; have h3 := decL_len B; have h4 := wordsL_len (op - 3).toNat
 unfold hdL; repeat' split
 all_goals (try simp only [List.length_append, List.length_cons, List.length_nil])
 all_goals omega
def leafL (op W K : Int) : List UInt8 := if op = 0 then [35] ++ decL W ++ [58] ++ decL K else [118] ++ decL K ++ [58] ++ decL W
theorem leafL_len (op W K : Int) : 4 ≤ (leafL op W K).length ∧ (leafL op W K).length ≤ 10 := by
 have h1 := decL_len K; have h2 := decL_len W
 unfold leafL; split <;> simp only [List.length_append, List.length_cons, List.length_nil] <;> omega
/-- The parts' texts, a blank ahead of each. -/
def ptsL (ts : List (List UInt8)) (ps : List Int) : List UInt8 := ps.flatMap fun p => 32 :: ts.getD p.toNat []
def wholeL (op W K B : Int) (ts : List (List UInt8)) (ps : List Int) : List UInt8 := 40 :: hdL op W K B ++ ptsL ts ps ++ [41]
/-- The text of a node; empty where it is too long, or a part's is. -/
def txtN (ts : List (List UInt8)) (op W K A B C : Int) : List UInt8 :=
 if op = 0 ∨ op = 1 then leafL op W K else if ((partsL op A B C).all fun p => ts.getD p.toNat [] != []) = true ∧ (wholeL op W K B ts (partsL op A B C)).length ≤ 4000 then wholeL op W K B ts (partsL op A B C) else []
def textsL (l : List S31) : Nat → List (List UInt8)
 | 0 => []
 | i + 1 => textsL l i ++ [txtN (textsL l i) (rd_T31 l (i : Int)).f0 (rd_T31 l (i : Int)).f1 (rd_T31 l (i : Int)).f2 (rd_T31 l (i : Int)).f3 (rd_T31 l (i : Int)).f4 (rd_T31 l (i : Int)).f5]
theorem textsL_len (l : List S31) (i : Nat) : (textsL l i).length = i := by
 induction i with
 | zero => rfl
 | succ i ih => simp [textsL, ih]
theorem txtN_le (ts : List (List UInt8)) (op W K A B C : Int) : (txtN ts op W K A B C).length ≤ 4000 := by
 unfold txtN
 split
 ·have := leafL_len op W K; omega
 ·split
  ·rename_i h; exact h.2
  ·simp
theorem textsL_le (l : List S31) (i : Nat) : ∀ t ∈ textsL l i, t.length ≤ 4000 := by
 induction i with
 | zero => intro t ht; simp [textsL] at ht
 | succ i ih =>
  intro t ht
  simp only [textsL, List.mem_append, List.mem_singleton] at ht
  rcases ht with ht | rfl
  ·exact ih t ht
  ·exact txtN_le _ _ _ _ _ _ _
theorem getD_le (ts : List (List UInt8)) (h : ∀ t ∈ ts, t.length ≤ 4000) (i : Nat) : (ts.getD i []).length ≤ 4000 := by
 rw [List.getD_eq_getElem?_getD]
 by_cases hi : i < ts.length
 ·rw [List.getElem?_eq_getElem hi]; exact h _ (List.getElem_mem hi)
 ·rw [List.getElem?_eq_none (by omega)]; simp
theorem ptsL_le (ts : List (List UInt8)) (h : ∀ t ∈ ts, t.length ≤ 4000) (ps : List Int) : (ptsL ts ps).length ≤ 4001 * ps.length := by
 unfold ptsL
 induction ps with
 | nil => simp
 | cons p ps ih =>
  simp only [List.flatMap_cons, List.length_append, List.length_cons]
  have := getD_le ts h p.toNat
  omega
theorem ptsL_snoc (ts : List (List UInt8)) (ps : List Int) (t : Nat) (h : t < ps.length) : ptsL ts (ps.take (t + 1)) = ptsL ts (ps.take t) ++ ([32] ++ ts.getD (rd ps (t : Int)).toNat []) := by
 unfold ptsL
 rw [List.take_succ_eq_append_getElem h, List.flatMap_append, rdI ps t h]; simp
theorem rdB8 (ts : List (List UInt8)) (p : Int) (h0 : 0 ≤ p) (h1 : p.toNat < ts.length) (rest : List ByteArray) : rdOf ByteArray.empty (ts.map mkB ++ rest) p = mkB (ts.getD p.toNat []) := by
 unfold rdOf
 rw [List.getD_eq_getElem?_getD, List.getElem?_append_left (by simpa using h1), List.getElem?_map, List.getD_eq_getElem?_getD, List.getElem?_eq_getElem h1]; rfl
/-- What a right node's numbers are. -/
structure NumOk (op W K A B C : Int) : Prop where
 op0 : 0 ≤ op
 op1 : op ≤ 20
 w0 : 1 ≤ W
 w1 : W ≤ 8
 k0 : op = 0 ∨ op = 1 ∨ op = 17 ∨ op = 19 ∨ op = 20 → 0 ≤ K ∧ K ≤ 255
 b0 : op = 19 ∨ op = 20 → 0 ≤ B ∧ B ≤ 8
theorem width_ok {l : List S31} (h : NodesOk l) (i : Nat) (hi : i < l.length) : 1 ≤ (rd_T31 l (i : Int)).f1 ∧ (rd_T31 l (i : Int)).f1 ≤ 8 := by
 have hb := h i hi
 unfold nodeB rightB at hb
 simp only [Bool.and_eq_true] at hb
 exact inB_iff.mp hb.1.1.1.1
theorem num_ok {l : List S31} (hN : NodesOk l) (i : Nat) (hi : i < l.length) : NumOk (rd_T31 l i).f0 (rd_T31 l i).f1 (rd_T31 l i).f2 (rd_T31 l i).f3 (rd_T31 l i).f4 (rd_T31 l i).f5 := by
 have hb := hN i hi
 unfold nodeB at hb
 have hwid : ∀ p : Int, inB p 0 (((l.take i).length : Int) - 1) = true → 1 ≤ (rd_T31 (l.take i) p).f1 ∧ (rd_T31 (l.take i) p).f1 ≤ 8 := by
  intro p hp
  have hp := inB_iff.mp hp
  rw [List.length_take] at hp
  obtain ⟨q, rfl⟩ := Int.eq_ofNat_of_zero_le hp.1
  rw [rd_take l i _ hp.1 (by omega)]
  exact width_ok hN q (by omega)
 generalize l.take i = L at hb hwid
 generalize (rd_T31 l i).f0 = op at *
 generalize (rd_T31 l i).f1 = W at *
 generalize (rd_T31 l i).f2 = K at *
 generalize (rd_T31 l i).f3 = A at *
 generalize (rd_T31 l i).f4 = B at *
 generalize (rd_T31 l i).f5 = C at *
 unfold rightB at hb
 simp only [Bool.and_eq_true] at hb
 obtain ⟨⟨⟨⟨hw, hop⟩, hu⟩, hp⟩, hs⟩ := hb
 have hw := inB_iff.mp hw
 have hop := inB_iff.mp hop
 refine ⟨hop.1, hop.2, hw.1, hw.2, fun h => ?_, fun h => ?_⟩
 ·rcases h with rfl | rfl | rfl | rfl | rfl
  ·have hs : wok W K = true := by simpa [rightSw] using hs
   obtain ⟨h1, h2, h3, h4⟩ := wok_iff.mp hs
   have := P2_pos (by omega : 0 ≤ W) h2
   omega
  ·have hs : inB K 0 7 = true := by simpa [rightSw] using hs
   have := inB_iff.mp hs; omega
  ·have hA := hwid A (List.all_eq_true.mp hp A (by simp [partsL]))
   have hwv : wv L (partsL 17 A B C) (partsL 17 A B C).length 0 = (rd_T31 L A).f1 := by simp [wv, partsL, rd]
   rw [hwv] at hs
   have hs : inB K 0 (wrap64 ((rd_T31 L A).f1 - W)) = true := by simpa [rightSw] using hs
   rw [wrap_id (by omega) (by omega)] at hs
   have := inB_iff.mp hs; omega
  ·have hs : inB K 0 7 = true := by
    simp only [rightSw] at hs; simp at hs; exact hs.1.1.1
   have := inB_iff.mp hs; omega
  ·have hs : inB K 0 7 = true := by
    simp only [rightSw] at hs; simp at hs; exact hs.1.1.1
   have := inB_iff.mp hs; omega
 ·have hs : inB B 1 8 = true := by
   rcases h with rfl | rfl <;> (simp only [rightSw] at hs; simp at hs; exact hs.1.1.2)
  have := inB_iff.mp hs; omega
theorem showS_l0 (ts : List (List UInt8)) (hts : ∀ t ∈ ts, t.length ≤ 4000) (ps : List Int) (hps : ps.length ≤ 3) (hp : ∀ p ∈ ps, 0 ≤ p ∧ p < (ts.length : Int)) (hd : List UInt8) (hh : hd.length ≤ 20) (d : Nat) : ∀ t : Nat, t + d = ps.length →
  Ev (fun k => spec_l03Show.l0 k (ts.map mkB) (mkB (hd ++ ptsL ts (ps.take t))) ps (t : Int)) (mkB (if ((ps.drop t).all fun p => ts.getD p.toNat [] != []) = true ∧ (40 :: hd ++ ptsL ts ps ++ [41]).length ≤ 4000 then 40 :: hd ++ ptsL ts ps ++ [41] else [])) := by
 have hle : ∀ t, (ptsL ts (ps.take t)).length ≤ 12003 := by
  intro t
  have := ptsL_le ts hts (ps.take t)
  rw [List.length_take] at this
  omega
 induction d with
 | zero =>
  intro t ht
  refine ev_succ ?_
  simp only [spec_l03Show.l0]
  have h1 := hle t
  rw [List.take_of_length_le (by omega)] at h1 ⊢
  rw [List.drop_eq_nil_of_le (by omega)]
  refine ev_neg (by omega) ?_
  rw [show (⟨#[40]⟩ : ByteArray) = mkB [40] from rfl, show (⟨#[41]⟩ : ByteArray) = mkB [41] from rfl, mkB_app, mkB_app, mkB_size, mkB_size, List.length_append, wrap_id (by omega) (by omega)]
  by_cases hb : (40 :: hd ++ ptsL ts ps ++ [41]).length ≤ 4000
  ·have e : (if ((([] : List Int)).all fun p => ts.getD p.toNat [] != []) = true ∧ (40 :: hd ++ ptsL ts ps ++ [41]).length ≤ 4000 then 40 :: hd ++ ptsL ts ps ++ [41] else []) = 40 :: hd ++ ptsL ts ps ++ [41] := if_pos ⟨rfl, hb⟩
   rw [e]
   simp only [List.length_append, List.length_cons, List.length_nil] at hb
   refine ev_neg (by push_cast; omega) (ev_pos (by omega) (ev_pos (by simp; omega) (ev_eq ?_)))
   simp
  ·have e : (if ((([] : List Int)).all fun p => ts.getD p.toNat [] != []) = true ∧ (40 :: hd ++ ptsL ts ps ++ [41]).length ≤ 4000 then 40 :: hd ++ ptsL ts ps ++ [41] else []) = [] := if_neg (fun h => hb h.2)
   rw [e]
   simp only [List.length_append, List.length_cons, List.length_nil] at hb
   exact ev_pos (by push_cast; omega) ev_now
 | succ d ih =>
  intro t ht
  have hlt : t < ps.length := by omega
  have hq := hp _ (List.getElem_mem hlt)
  have hr : rd ps (t : Int) = ps[t] := rdI ps t hlt
  have h1 := hle t
  refine ev_succ ?_
  simp only [spec_l03Show.l0]
  have hrd := rdB8 ts (rd ps (t : Int)) (by rw [hr]; exact hq.1) (by rw [hr]; omega) []
  rw [List.append_nil] at hrd
  have hlast := getD_le ts hts (rd ps (t : Int)).toNat
  rw [hrd, show (⟨#[32]⟩ : ByteArray) = mkB [32] from rfl, mkB_app, mkB_app, mkB_size, mkB_size, mkB_size, mkB_toList]
  refine ev_pos (by omega) (ev_pos (by omega) (ev_pos (by rw [hr]; exact hq.1) (ev_pos (by rw [hr, List.length_map]; exact hq.2) ?_)))
  rw [List.drop_eq_getElem_cons hlt, List.all_cons, ← hr]
  by_cases hz : ts.getD (rd ps (t : Int)).toNat [] = []
  ·rw [if_neg (fun h => by rw [hz] at h; simp at h)]
   exact ev_pos hz ev_now
  ·refine ev_neg hz (ev_pos (by simp only [List.length_append]; omega) (ev_pos (by simp only [List.length_append, List.length_cons, List.length_nil]; omega) ?_))
   rw [wrap_id (by omega) (by omega), show ((t : Int) + 1) = ((t + 1 : Nat) : Int) by omega, List.append_assoc, List.append_assoc, ← ptsL_snoc ts ps t hlt]
   have := ih (t + 1) (by omega)
   have e : (ts.getD (rd ps (t : Int)).toNat [] != []) = true := by simpa using hz
   rw [e, Bool.true_and]
   exact this
theorem showS (ts : List (List UInt8)) (hts : ∀ t ∈ ts, t.length ≤ 4000) (op W K A B C : Int) (hn : NumOk op W K A B C) (hp : ∀ p ∈ partsL op A B C, 0 ≤ p ∧ p < (ts.length : Int)) :
  Ev (fun k => spec_l03Show.f k op W K A B C (ts.map mkB)) (mkB (txtN ts op W K A B C)) := by
 have hW := decS W (by have := hn.w0; omega) (by have := hn.w1; omega)
 have lW := decL_len W; have lK := decL_len K; have lB := decL_len B
 have join : ∀ hd : List UInt8, hd = hdL op W K B → ¬ (op = 0 ∨ op = 1) → Ev (fun k => spec_l03Show.j0 k (ts.map mkB) (mkB hd) op W K A B C) (mkB (txtN ts op W K A B C)) := by
  intro hd he h01
  subst he
  refine ev_succ ?_
  simp only [spec_l03Show.j0]
  refine ev_bind (ev_of 1 fun k hk => partsS _ _ _ _ _ _ hk) ?_
  have := showS_l0 ts hts _ (partsL_len op A B C) hp (hdL op W K B) (hdL_len op W K B) (partsL op A B C).length 0 (by omega)
  rw [List.take_zero, List.drop_zero] at this
  unfold txtN
  rw [if_neg h01]
  simpa [ptsL, wholeL] using this
 unfold spec_l03Show.f
 by_cases o0 : op = 0
 ·have hK := decS K (hn.k0 (.inl o0)).1 (by have := (hn.k0 (.inl o0)).2; omega)
  refine ev_pos o0 (ev_bind hW (ev_pos (by rw [mkB_size]; omega) (ev_pos (by rw [show (⟨#[35]⟩ : ByteArray) = mkB [35] from rfl, mkB_app, mkB_size]; simp; omega) (ev_bind hK (ev_pos ?_ (ev_eq ?_))))))
  ·rw [show (⟨#[35]⟩ : ByteArray) = mkB [35] from rfl, show (⟨#[58]⟩ : ByteArray) = mkB [58] from rfl, mkB_app, mkB_app, mkB_size, mkB_size]; simp; omega
  ·rw [show (⟨#[35]⟩ : ByteArray) = mkB [35] from rfl, show (⟨#[58]⟩ : ByteArray) = mkB [58] from rfl, mkB_app, mkB_app, mkB_app]
   unfold txtN leafL; rw [if_pos (.inl o0), if_pos o0]
 refine ev_neg o0 ?_
 by_cases o1 : op = 1
 ·have hK := decS K (hn.k0 (.inr (.inl o1))).1 (by have := (hn.k0 (.inr (.inl o1))).2; omega)
  refine ev_pos o1 (ev_bind hK (ev_pos (by rw [mkB_size]; omega) (ev_pos (by rw [show (⟨#[118]⟩ : ByteArray) = mkB [118] from rfl, mkB_app, mkB_size]; simp; omega) (ev_bind hW (ev_pos ?_ (ev_eq ?_))))))
  ·rw [show (⟨#[118]⟩ : ByteArray) = mkB [118] from rfl, show (⟨#[58]⟩ : ByteArray) = mkB [58] from rfl, mkB_app, mkB_app, mkB_size, mkB_size]; simp; omega
  ·rw [show (⟨#[118]⟩ : ByteArray) = mkB [118] from rfl, show (⟨#[58]⟩ : ByteArray) = mkB [58] from rfl, mkB_app, mkB_app, mkB_app]
   unfold txtN leafL; rw [if_pos (.inr o1), if_neg o0]
 refine ev_neg o1 ?_
 have h01 : ¬ (op = 0 ∨ op = 1) := by omega
 by_cases o2 : op = 2
 ·exact ev_pos o2 (join _ (by unfold hdL; rw [if_pos o2]) h01)
 refine ev_neg o2 ?_
 by_cases o17 : op = 17
 ·have hK := decS K (hn.k0 (.inr (.inr (.inl o17)))).1 (by have := (hn.k0 (.inr (.inr (.inl o17)))).2; omega)
  refine ev_pos o17 (ev_bind hK (ev_pos (by rw [mkB_size]; omega) (ev_pos (by rw [show (⟨#[115, 108, 105, 99, 101, 32]⟩ : ByteArray) = mkB [115, 108, 105, 99, 101, 32] from rfl, mkB_app, mkB_size]; simp; omega) (ev_bind hW (ev_pos ?_ ?_)))))
  ·rw [show (⟨#[115, 108, 105, 99, 101, 32]⟩ : ByteArray) = mkB [115, 108, 105, 99, 101, 32] from rfl, show (⟨#[32]⟩ : ByteArray) = mkB [32] from rfl, mkB_app, mkB_app, mkB_size, mkB_size]; simp; omega
  ·rw [show (⟨#[115, 108, 105, 99, 101, 32]⟩ : ByteArray) = mkB [115, 108, 105, 99, 101, 32] from rfl, show (⟨#[32]⟩ : ByteArray) = mkB [32] from rfl, mkB_app, mkB_app, mkB_app]
   exact join _ (by unfold hdL; rw [if_neg o2, if_pos o17]) h01
 refine ev_neg o17 ?_
 by_cases o18 : op = 18
 ·exact ev_pos o18 (join _ (by unfold hdL; rw [if_neg o2, if_neg o17, if_pos o18]) h01)
 refine ev_neg o18 ?_
 by_cases o19 : op = 19
 ·have hK := decS K (hn.k0 (.inr (.inr (.inr (.inl o19))))).1 (by have := (hn.k0 (.inr (.inr (.inr (.inl o19))))).2; omega)
  have hB := decS B (hn.b0 (.inl o19)).1 (by have := (hn.b0 (.inl o19)).2; omega)
  refine ev_pos o19 (ev_bind hK (ev_pos (by rw [mkB_size]; omega) (ev_pos (by rw [show (⟨#[97, 108, 108, 32, 118]⟩ : ByteArray) = mkB [97, 108, 108, 32, 118] from rfl, mkB_app, mkB_size]; simp; omega) (ev_bind hB (ev_pos ?_ ?_)))))
  ·rw [show (⟨#[97, 108, 108, 32, 118]⟩ : ByteArray) = mkB [97, 108, 108, 32, 118] from rfl, show (⟨#[58]⟩ : ByteArray) = mkB [58] from rfl, mkB_app, mkB_app, mkB_size, mkB_size]; simp; omega
  ·rw [show (⟨#[97, 108, 108, 32, 118]⟩ : ByteArray) = mkB [97, 108, 108, 32, 118] from rfl, show (⟨#[58]⟩ : ByteArray) = mkB [58] from rfl, mkB_app, mkB_app, mkB_app]
   exact join _ (by unfold hdL; rw [if_neg o2, if_neg o17, if_neg o18, if_pos o19]) h01
 refine ev_neg o19 ?_
 by_cases o20 : op = 20
 ·have hK := decS K (hn.k0 (.inr (.inr (.inr (.inr o20))))).1 (by have := (hn.k0 (.inr (.inr (.inr (.inr o20))))).2; omega)
  have hB := decS B (hn.b0 (.inr o20)).1 (by have := (hn.b0 (.inr o20)).2; omega)
  refine ev_pos o20 (ev_bind hK (ev_pos (by rw [mkB_size]; omega) (ev_pos (by rw [show (⟨#[115, 111, 109, 101, 32, 118]⟩ : ByteArray) = mkB [115, 111, 109, 101, 32, 118] from rfl, mkB_app, mkB_size]; simp; omega) (ev_bind hB (ev_pos ?_ ?_)))))
  ·rw [show (⟨#[115, 111, 109, 101, 32, 118]⟩ : ByteArray) = mkB [115, 111, 109, 101, 32, 118] from rfl, show (⟨#[58]⟩ : ByteArray) = mkB [58] from rfl, mkB_app, mkB_app, mkB_size, mkB_size]; simp; omega
  ·rw [show (⟨#[115, 111, 109, 101, 32, 118]⟩ : ByteArray) = mkB [115, 111, 109, 101, 32, 118] from rfl, show (⟨#[58]⟩ : ByteArray) = mkB [58] from rfl, mkB_app, mkB_app, mkB_app]
   exact join _ (by unfold hdL; rw [if_neg o2, if_neg o17, if_neg o18, if_neg o19, if_pos o20]) h01
 refine ev_neg o20 ?_
 have hop := hn.op0; have hop1 := hn.op1
 have e3 : wrap64 (op - 3) = op - 3 := wrap_id (by omega) (by omega)
 refine ev_bind0 (show spec_l03Words.f = some (wordsL.map mkB) from rfl) ?_
 rw [e3]
 refine ev_pos (by omega) (ev_pos (by simp [wordsL]; omega) ?_)
 have hrd := rdB8 wordsL (op - 3) (by omega) (by simp [wordsL]; omega) []
 rw [List.append_nil] at hrd
 rw [hrd]
 exact join _ (by unfold hdL; rw [if_neg o2, if_neg o17, if_neg o18, if_neg o19, if_neg o20]) h01
theorem headI (op W K A B C : Int) (hn : NumOk op W K A B C) : Ev (fun k => impl_head.f k op W K A B C) (mkB (if op = 0 ∨ op = 1 then leafL op W K else 40 :: hdL op W K B)) := by
 have hW := decI W (by have := hn.w0; omega) (by have := hn.w1; omega)
 have lW := decL_len W; have lK := decL_len K; have lB := decL_len B
 unfold impl_head.f
 by_cases o0 : op = 0
 ·have hK := decI K (hn.k0 (.inl o0)).1 (by have := (hn.k0 (.inl o0)).2; omega)
  refine ev_pos o0 (ev_bind hW (ev_pos (by rw [mkB_size]; omega) (ev_pos (by rw [show (⟨#[35]⟩ : ByteArray) = mkB [35] from rfl, mkB_app, mkB_size]; simp; omega) (ev_bind hK (ev_pos ?_ (ev_eq ?_))))))
  ·rw [show (⟨#[35]⟩ : ByteArray) = mkB [35] from rfl, show (⟨#[58]⟩ : ByteArray) = mkB [58] from rfl, mkB_app, mkB_app, mkB_size, mkB_size]; simp; omega
  ·rw [show (⟨#[35]⟩ : ByteArray) = mkB [35] from rfl, show (⟨#[58]⟩ : ByteArray) = mkB [58] from rfl, mkB_app, mkB_app, mkB_app]
   unfold leafL; rw [if_pos (.inl o0), if_pos o0]
 refine ev_neg o0 ?_
 by_cases o1 : op = 1
 ·have hK := decI K (hn.k0 (.inr (.inl o1))).1 (by have := (hn.k0 (.inr (.inl o1))).2; omega)
  refine ev_pos o1 (ev_bind hK (ev_pos (by rw [mkB_size]; omega) (ev_pos (by rw [show (⟨#[118]⟩ : ByteArray) = mkB [118] from rfl, mkB_app, mkB_size]; simp; omega) (ev_bind hW (ev_pos ?_ (ev_eq ?_))))))
  ·rw [show (⟨#[118]⟩ : ByteArray) = mkB [118] from rfl, show (⟨#[58]⟩ : ByteArray) = mkB [58] from rfl, mkB_app, mkB_app, mkB_size, mkB_size]; simp; omega
  ·rw [show (⟨#[118]⟩ : ByteArray) = mkB [118] from rfl, show (⟨#[58]⟩ : ByteArray) = mkB [58] from rfl, mkB_app, mkB_app, mkB_app]
   unfold leafL; rw [if_pos (.inr o1), if_neg o0]
 refine ev_neg o1 ?_
 rw [if_neg (show ¬ (op = 0 ∨ op = 1) by omega)]
 by_cases o2 : op = 2
 ·exact ev_pos o2 (ev_eq (by unfold hdL; rw [if_pos o2]; rfl))
 refine ev_neg o2 ?_
 by_cases o17 : op = 17
 ·have hK := decI K (hn.k0 (.inr (.inr (.inl o17)))).1 (by have := (hn.k0 (.inr (.inr (.inl o17)))).2; omega)
  refine ev_pos o17 (ev_bind hK (ev_pos (by rw [mkB_size]; omega) (ev_pos (by rw [show (⟨#[40, 115, 108, 105, 99, 101, 32]⟩ : ByteArray) = mkB [40, 115, 108, 105, 99, 101, 32] from rfl, mkB_app, mkB_size]; simp; omega) (ev_bind hW (ev_pos ?_ (ev_eq ?_))))))
  ·rw [show (⟨#[40, 115, 108, 105, 99, 101, 32]⟩ : ByteArray) = mkB [40, 115, 108, 105, 99, 101, 32] from rfl, show (⟨#[32]⟩ : ByteArray) = mkB [32] from rfl, mkB_app, mkB_app, mkB_size, mkB_size]; simp; omega
  ·rw [show (⟨#[40, 115, 108, 105, 99, 101, 32]⟩ : ByteArray) = mkB [40, 115, 108, 105, 99, 101, 32] from rfl, show (⟨#[32]⟩ : ByteArray) = mkB [32] from rfl, mkB_app, mkB_app, mkB_app]
   unfold hdL; rw [if_neg o2, if_pos o17]; rfl
 refine ev_neg o17 ?_
 by_cases o18 : op = 18
 ·exact ev_pos o18 (ev_eq (by unfold hdL; rw [if_neg o2, if_neg o17, if_pos o18]; rfl))
 refine ev_neg o18 ?_
 by_cases o19 : op = 19
 ·have hK := decI K (hn.k0 (.inr (.inr (.inr (.inl o19))))).1 (by have := (hn.k0 (.inr (.inr (.inr (.inl o19))))).2; omega)
  have hB := decI B (hn.b0 (.inl o19)).1 (by have := (hn.b0 (.inl o19)).2; omega)
  refine ev_pos o19 (ev_bind hK (ev_pos (by rw [mkB_size]; omega) (ev_pos (by rw [show (⟨#[40, 97, 108, 108, 32, 118]⟩ : ByteArray) = mkB [40, 97, 108, 108, 32, 118] from rfl, mkB_app, mkB_size]; simp; omega) (ev_bind hB (ev_pos ?_ (ev_eq ?_))))))
  ·rw [show (⟨#[40, 97, 108, 108, 32, 118]⟩ : ByteArray) = mkB [40, 97, 108, 108, 32, 118] from rfl, show (⟨#[58]⟩ : ByteArray) = mkB [58] from rfl, mkB_app, mkB_app, mkB_size, mkB_size]; simp; omega
  ·rw [show (⟨#[40, 97, 108, 108, 32, 118]⟩ : ByteArray) = mkB [40, 97, 108, 108, 32, 118] from rfl, show (⟨#[58]⟩ : ByteArray) = mkB [58] from rfl, mkB_app, mkB_app, mkB_app]
   unfold hdL; rw [if_neg o2, if_neg o17, if_neg o18, if_pos o19]; rfl
 refine ev_neg o19 ?_
 by_cases o20 : op = 20
 ·have hK := decI K (hn.k0 (.inr (.inr (.inr (.inr o20))))).1 (by have := (hn.k0 (.inr (.inr (.inr (.inr o20))))).2; omega)
  have hB := decI B (hn.b0 (.inr o20)).1 (by have := (hn.b0 (.inr o20)).2; omega)
  refine ev_pos o20 (ev_bind hK (ev_pos (by rw [mkB_size]; omega) (ev_pos (by rw [show (⟨#[40, 115, 111, 109, 101, 32, 118]⟩ : ByteArray) = mkB [40, 115, 111, 109, 101, 32, 118] from rfl, mkB_app, mkB_size]; simp; omega) (ev_bind hB (ev_pos ?_ (ev_eq ?_))))))
  ·rw [show (⟨#[40, 115, 111, 109, 101, 32, 118]⟩ : ByteArray) = mkB [40, 115, 111, 109, 101, 32, 118] from rfl, show (⟨#[58]⟩ : ByteArray) = mkB [58] from rfl, mkB_app, mkB_app, mkB_size, mkB_size]; simp; omega
  ·rw [show (⟨#[40, 115, 111, 109, 101, 32, 118]⟩ : ByteArray) = mkB [40, 115, 111, 109, 101, 32, 118] from rfl, show (⟨#[58]⟩ : ByteArray) = mkB [58] from rfl, mkB_app, mkB_app, mkB_app]
   unfold hdL; rw [if_neg o2, if_neg o17, if_neg o18, if_neg o19, if_pos o20]; rfl
 refine ev_neg o20 ?_
 have hop := hn.op0; have hop1 := hn.op1
 have e3 : wrap64 (op - 3) = op - 3 := wrap_id (by omega) (by omega)
 have hlen := wordsL_len (op - 3).toNat
 refine ev_bind (a := mkB (wordsL.getD (op - 3).toNat [])) ?_ (ev_pos (by rw [mkB_size]; omega) (ev_eq ?_))
 ·unfold impl_opWord.f
  refine ev_bind0 (a := wordsL.map mkB) rfl (ev_bind0 (inI _ _ _) (ev_pos (by simp; omega) ?_))
  rw [e3]
  refine ev_pos (by omega) (ev_pos (by simp [wordsL]; omega) (ev_eq ?_))
  have hrd := rdB8 wordsL (op - 3) (by omega) (by simp [wordsL]; omega) []
  rwa [List.append_nil] at hrd
 ·rw [show (⟨#[40]⟩ : ByteArray) = mkB [40] from rfl, mkB_app]
  unfold hdL; rw [if_neg o2, if_neg o17, if_neg o18, if_neg o19, if_neg o20]; rfl
/-- The reference's texts. -/
theorem showS_from (l : List S31) (hl : l.length ≤ 80) (hN : NodesOk l) (d : Nat) : ∀ i : Nat, i + d = l.length → 1 ≤ l.length →
  Ev (fun k => spec_ShowTerm.l0 k l ((textsL l i).map mkB) (i : Int)) (mkB ((textsL l l.length).getD (l.length - 1) []), ((textsL l l.length).getD (l.length - 1) [] != [])) := by
 induction d with
 | zero =>
  intro i hi h0
  obtain rfl : i = l.length := by omega
  refine ev_succ ?_
  simp only [spec_ShowTerm.l0]
  rw [wrap_id (x := (l.length : Int) - 1) (by omega) (by omega)]
  have hrd := rdB8 (textsL l l.length) ((l.length : Int) - 1) (by omega) (by rw [textsL_len]; omega) []
  rw [List.append_nil, show ((l.length : Int) - 1).toNat = l.length - 1 by omega] at hrd
  rw [hrd, mkB_toList]
  exact ev_neg (by omega) (ev_pos (by omega) (ev_pos (by rw [List.length_map, textsL_len]; omega) ev_now))
 | succ d ih =>
  intro i hi h0
  have hlt : i < l.length := by omega
  have hn := num_ok hN i hlt
  have hp : ∀ p ∈ pl l i, 0 ≤ p ∧ p < ((textsL l i).length : Int) := by rw [textsL_len]; exact parts_in hN i hlt
  have hs := showS (textsL l i) (textsL_le l i) _ _ _ _ _ _ hn hp
  refine ev_succ ?_
  simp only [spec_ShowTerm.l0]
  refine ev_pos (by omega) (ev_pos (by omega) (ev_bind hs (ev_pos (by rw [List.length_map, textsL_len]; omega) ?_)))
  rw [wrap_id (by omega) (by omega), show ((i : Int) + 1) = ((i + 1 : Nat) : Int) by omega]
  have := ih (i + 1) (by omega) h0
  simpa [textsL, List.map_append] using this
/-- Whether a text stands, for each. -/
def fitsL (ts : List (List UInt8)) : List Bool := ts.map fun t => t != []
theorem map_set_next (ts : List (List UInt8)) (n : Nat) (t : List UInt8) (h : ts.length < n) :
  (ts.map mkB ++ List.replicate (n - ts.length) (mkB [])).set ts.length (mkB t) = (ts ++ [t]).map mkB ++ List.replicate (n - (ts.length + 1)) (mkB []) := by
 rw [List.set_append_right _ _ (by simp), List.length_map, Nat.sub_self, show n - ts.length = (n - (ts.length + 1)) + 1 by omega, List.replicate_succ]
 simp
theorem map_keep_next (ts : List (List UInt8)) (n : Nat) (h : ts.length < n) :
  ts.map mkB ++ List.replicate (n - ts.length) (mkB []) = (ts ++ [[]]).map mkB ++ List.replicate (n - (ts.length + 1)) (mkB []) := by
 rw [show n - ts.length = (n - (ts.length + 1)) + 1 by omega, List.replicate_succ]
 simp
theorem fit_set (ts : List (List UInt8)) (n : Nat) (b : Bool) (x : Bool) (rest : List Bool) : (fitsL ts ++ x :: rest).set ts.length b = fitsL ts ++ b :: rest := by
 rw [List.set_append_right _ _ (by simp [fitsL])]; simp [fitsL]
theorem fit_get (ts : List (List UInt8)) (b : Bool) (rest : List Bool) (i : Int) (hi : i = ts.length) : rdOf false (fitsL ts ++ b :: rest) i = b := by
 subst hi
 unfold rdOf
 rw [Int.toNat_natCast, List.getD_eq_getElem?_getD, List.getElem?_append_right (by simp [fitsL])]; simp [fitsL]
theorem fit_get_part (ts : List (List UInt8)) (rest : List Bool) (p : Int) (h0 : 0 ≤ p) (h1 : p < (ts.length : Int)) : rdOf false (fitsL ts ++ rest) p = (ts.getD p.toNat [] != []) := by
 have hlt : p.toNat < ts.length := by omega
 unfold rdOf
 rw [List.getD_eq_getElem?_getD, List.getElem?_append_left (by simpa [fitsL] using hlt), List.getD_eq_getElem?_getD, List.getElem?_eq_getElem hlt]
 simp [fitsL, hlt]
theorem showI_l1 (l : List S31) (hl : l.length ≤ 80) (i : Nat) (hi : i < l.length) (ts : List (List UInt8)) (hts : ∀ t ∈ ts, t.length ≤ 4000) (hlen : ts.length = i) (hd : List UInt8) (hh1 : 1 ≤ hd.length) (hh2 : hd.length ≤ 21) (op W K A B C : Int) (ps : List Int) (hps : partsL op A B C = ps)
  (hp : ∀ p ∈ ps, 0 ≤ p ∧ p < (i : Int)) (rest : List Bool) (R : ByteArray × Bool) (T : List UInt8)
  (hT : T = if (ps.all fun p => ts.getD p.toNat [] != []) = true ∧ (hd ++ ptsL ts ps ++ (if 0 < ps.length then [41] else [])).length ≤ 4000 then hd ++ ptsL ts ps ++ (if 0 < ps.length then [41] else []) else [])
  (hnext : Ev (fun k => impl_ShowTerm.l0 k l ((ts ++ [T]).map mkB ++ List.replicate (l.length - (i + 1)) (mkB [])) (fitsL (ts ++ [T]) ++ rest) l (l.length : Int) ((i + 1 : Nat) : Int)) R) (d : Nat) : ∀ t : Nat, t + d = ps.length →
  Ev (fun k => impl_ShowTerm.l1 k l (ts.map mkB ++ List.replicate (l.length - i) (mkB [])) (fitsL ts ++ ((ps.take t).all fun p => ts.getD p.toNat [] != []) :: rest) (i : Int) (mkB (hd ++ ptsL ts (ps.take t))) l (l.length : Int) (i : Int) ps (ps.length : Int) (t : Int) op W K A B C) R := by
 have hps3 : ps.length ≤ 3 := by rw [← hps]; exact partsL_len _ _ _ _
 have hle : ∀ t, (ptsL ts (ps.take t)).length ≤ 12003 := by
  intro t
  have := ptsL_le ts hts (ps.take t)
  rw [List.length_take] at this
  omega
 have hfl : (fitsL ts).length = i := by simp [fitsL, hlen]
 have hx4 : (ts.map mkB ++ List.replicate (l.length - i) (mkB [])).length = l.length := by simp [hlen]; omega
 induction d with
 | zero =>
  intro t ht
  have h1 := hle t
  rw [List.take_of_length_le (by omega)] at h1 ⊢
  have hT' : T = if (ps.all fun p => ts.getD p.toNat [] != []) = true ∧ (hd ++ ptsL ts ps ++ (if 0 < ps.length then [41] else [])).length ≤ 4000 then hd ++ ptsL ts ps ++ (if 0 < ps.length then [41] else []) else [] := hT
  clear hT
  generalize (ps.all fun p => ts.getD p.toNat [] != []) = b at hT' ⊢
  have fin : ∀ s' : List UInt8, hd ++ ptsL ts ps ++ (if 0 < ps.length then [41] else []) = s' → Ev (fun k => if 0 ≤ (i : Int) then (if (i : Int) < ((fitsL ts ++ b :: rest).length : Int) then (if rdOf false (fitsL ts ++ b :: rest) (i : Int) = true then ((some ((fitsL ts ++ b :: rest).set ((i : Int) : Int).toNat (decide (((mkB s').size : Int) ≤ 4000)) : List Bool)).bind fun y => (if rdOf false y (i : Int) = true then (if (i : Int) < ((ts.map mkB ++ List.replicate (l.length - i) (mkB [])).length : Int) then (impl_ShowTerm.l0 k l ((ts.map mkB ++ List.replicate (l.length - i) (mkB [])).set ((i : Int) : Int).toNat (mkB s')) y l (l.length : Int) (wrap64 ((i : Int) + 1))) else (none)) else (impl_ShowTerm.l0 k l (ts.map mkB ++ List.replicate (l.length - i) (mkB [])) y l (l.length : Int) (wrap64 ((i : Int) + 1)))))
    else ((some ((fitsL ts ++ b :: rest).set ((i : Int) : Int).toNat false : List Bool)).bind fun y => (if rdOf false y (i : Int) = true then (if (i : Int) < ((ts.map mkB ++ List.replicate (l.length - i) (mkB [])).length : Int) then (impl_ShowTerm.l0 k l ((ts.map mkB ++ List.replicate (l.length - i) (mkB [])).set ((i : Int) : Int).toNat (mkB s')) y l (l.length : Int) (wrap64 ((i : Int) + 1))) else (none)) else (impl_ShowTerm.l0 k l (ts.map mkB ++ List.replicate (l.length - i) (mkB [])) y l (l.length : Int) (wrap64 ((i : Int) + 1)))))) else (none)) else (none)) R := by
   intro s' hs'
   rw [hs'] at hT'
   have hs1 : s' ≠ [] := by rw [← hs']; intro h; have := congrArg List.length h; rw [List.length_append, List.length_append] at this; simp only [List.length_nil] at this; omega
   have hset := fit_set ts l.length (decide (((mkB s').size : Int) ≤ 4000)) b rest
   have hset0 := fit_set ts l.length false b rest
   rw [hlen] at hset hset0
   rw [Int.toNat_natCast, hset, hset0, wrap_id (by omega) (by omega), show ((i : Int) + 1) = ((i + 1 : Nat) : Int) by omega]
   refine ev_pos (by omega) (ev_pos (by rw [List.length_append, hfl]; simp; omega) ?_)
   rw [fit_get ts b rest i (by omega)]
   have keep := map_keep_next ts l.length (by omega)
   have sett := map_set_next ts l.length s' (by omega)
   rw [hlen] at keep sett
   cases hb : b with
   | true =>
    subst hb
    refine ev_pos rfl (ev_bind0 rfl ?_)
    rw [fit_get ts _ rest i (by omega)]
    by_cases hc : s'.length ≤ 4000
    ·rw [if_pos ⟨rfl, hc⟩] at hT'
     rw [hT'] at hnext
     have hd4 : decide (((mkB s').size : Int) ≤ 4000) = true := decide_eq_true (by rw [mkB_size]; omega)
     rw [hd4]
     refine ev_pos rfl (ev_pos (by rw [hx4]; omega) ?_)
     rw [sett]
     have e : fitsL (ts ++ [s']) ++ rest = fitsL ts ++ true :: rest := by simp [fitsL, hs1]
     rw [e] at hnext; exact hnext
    ·rw [if_neg (fun h => hc h.2)] at hT'
     rw [hT'] at hnext
     have hd4 : decide (((mkB s').size : Int) ≤ 4000) = false := decide_eq_false (by rw [mkB_size]; omega)
     rw [hd4]
     refine ev_neg (by simp) ?_
     rw [keep]
     have e : fitsL (ts ++ [[]]) ++ rest = fitsL ts ++ false :: rest := by simp [fitsL]
     rw [e] at hnext; exact hnext
   | false =>
    subst hb
    rw [if_neg (fun h => by simp at h)] at hT'
    rw [hT'] at hnext
    refine ev_neg (by simp) (ev_bind0 rfl ?_)
    rw [fit_get ts _ rest i (by omega)]
    refine ev_neg (by simp) ?_
    rw [keep]
    have e : fitsL (ts ++ [[]]) ++ rest = fitsL ts ++ false :: rest := by simp [fitsL]
    rw [e] at hnext; exact hnext
  refine ev_succ ?_
  simp only [impl_ShowTerm.l1]
  refine ev_neg (by omega) (ev_bind (ev_of 1 fun k hk => partsI _ _ _ _ _ _ hk) ?_)
  rw [hps]
  by_cases h0 : (ps.length : Int) > 0
  ·refine ev_pos h0 (ev_pos (by rw [mkB_size, List.length_append]; omega) ?_)
   rw [show (⟨#[41]⟩ : ByteArray) = mkB [41] from rfl, mkB_app]
   exact fin _ (by rw [if_pos (by omega)])
  ·exact ev_neg h0 (fin _ (by rw [if_neg (by omega), List.append_nil]))
 | succ d ih =>
  intro t ht
  have hlt : t < ps.length := by omega
  have hq := hp _ (List.getElem_mem hlt)
  have hr : rd ps (t : Int) = ps[t] := rdI ps t hlt
  have h1 := hle t
  refine ev_succ ?_
  simp only [impl_ShowTerm.l1]
  have hrd := rdB8 ts (rd ps (t : Int)) (by rw [hr]; exact hq.1) (by rw [hr]; omega) (List.replicate (l.length - i) (mkB []))
  have hlast := getD_le ts hts (rd ps (t : Int)).toNat
  have hset := fun b => fit_set ts l.length b ((ps.take t).all fun p => ts.getD p.toNat [] != []) rest
  rw [hlen] at hset
  rw [hrd, show (⟨#[32]⟩ : ByteArray) = mkB [32] from rfl, mkB_app, mkB_app, mkB_size, mkB_size, mkB_size, Int.toNat_natCast, hset, hset, fit_get ts _ rest i (by omega), fit_get_part ts _ (rd ps (t : Int)) (by rw [hr]; exact hq.1) (by rw [hr]; omega)]
  have hx5 : ((fitsL ts ++ ((ps.take t).all fun p => ts.getD p.toNat [] != []) :: rest).length : Int) = i + 1 + rest.length := by rw [List.length_append, hfl]; simp; omega
  refine ev_pos (by omega) (ev_pos (by omega) (ev_pos (by omega) (ev_pos (by simp only [List.length_append]; omega) (ev_pos (by rw [hr]; exact hq.1) (ev_pos (by rw [hr, hx4]; omega) (ev_pos (by simp only [List.length_append, List.length_cons, List.length_nil]; omega) (ev_pos (by omega) (ev_pos (by rw [hx5]; omega) ?_))))))))
  rw [wrap_id (by omega) (by omega), show ((t : Int) + 1) = ((t + 1 : Nat) : Int) by omega, List.append_assoc, List.append_assoc, ← ptsL_snoc ts ps t hlt]
  have := ih (t + 1) (by omega)
  rw [List.take_succ_eq_append_getElem hlt, List.all_append, ← hr] at this
  by_cases hb : ((ps.take t).all fun p => ts.getD p.toNat [] != []) = true
  ·refine ev_pos hb (ev_pos (by rw [hx5, hr]; omega) ?_)
   rw [hb] at this
   simpa [← List.take_succ_eq_append_getElem hlt, hr] using this
  ·refine ev_neg hb ?_
   have hb' : ((ps.take t).all fun p => ts.getD p.toNat [] != []) = false := by simpa using hb
   rw [hb'] at this
   simpa [← List.take_succ_eq_append_getElem hlt, hr] using this
theorem showI_from (l : List S31) (hl : l.length ≤ 80) (hN : NodesOk l) (h0 : 1 ≤ l.length) (d : Nat) : ∀ i : Nat, i + d = l.length →
  Ev (fun k => impl_ShowTerm.l0 k l ((textsL l i).map mkB ++ List.replicate (l.length - i) (mkB [])) (fitsL (textsL l i) ++ List.replicate (l.length - i) false) l (l.length : Int) (i : Int)) (mkB ((textsL l l.length).getD (l.length - 1) []), ((textsL l l.length).getD (l.length - 1) [] != [])) := by
 induction d with
 | zero =>
  intro i hi
  obtain rfl : i = l.length := by omega
  refine ev_succ ?_
  simp only [impl_ShowTerm.l0]
  rw [wrap_id (x := (l.length : Int) - 1) (by omega) (by omega)]
  have hrd := rdB8 (textsL l l.length) ((l.length : Int) - 1) (by omega) (by rw [textsL_len]; omega) (List.replicate (l.length - l.length) (mkB []))
  rw [show ((l.length : Int) - 1).toNat = l.length - 1 by omega] at hrd
  have hrf := fit_get_part (textsL l l.length) (List.replicate (l.length - l.length) false) ((l.length : Int) - 1) (by omega) (by rw [textsL_len]; omega)
  rw [show ((l.length : Int) - 1).toNat = l.length - 1 by omega] at hrf
  rw [hrd, hrf]
  exact ev_neg (by omega) (ev_pos (by omega) (ev_pos (by simp [textsL_len]; omega) (ev_pos (by simp [textsL_len, fitsL]; omega) ev_now)))
 | succ d ih =>
  intro i hi
  have hlt : i < l.length := by omega
  have hn := num_ok hN i hlt
  have hp : ∀ p ∈ pl l i, 0 ≤ p ∧ p < (i : Int) := parts_in hN i hlt
  have hh := headI _ _ _ _ _ _ hn
  have hsp : List.replicate (l.length - i) false = false :: List.replicate (l.length - (i + 1)) false := by rw [show l.length - i = (l.length - (i + 1)) + 1 by omega, List.replicate_succ]
  have hset := fit_set (textsL l i) l.length true false (List.replicate (l.length - (i + 1)) false)
  rw [textsL_len] at hset
  refine ev_succ ?_
  simp only [impl_ShowTerm.l0]
  rw [hsp, Int.toNat_natCast, hset]
  refine ev_pos (by omega) (ev_pos (by omega) (ev_pos (by omega) (ev_bind hh (ev_pos (by simp [textsL_len, fitsL]; omega) (ev_bind (ev_of 1 fun k hk => partsI _ _ _ _ _ _ hk) ?_)))))
  have hnext := ih (i + 1) (by omega)
  have key := showI_l1 l hl i hlt (textsL l i) (textsL_le l i) (textsL_len l i) (if (rd_T31 l (i : Int)).f0 = 0 ∨ (rd_T31 l (i : Int)).f0 = 1 then leafL (rd_T31 l (i : Int)).f0 (rd_T31 l (i : Int)).f1 (rd_T31 l (i : Int)).f2 else 40 :: hdL (rd_T31 l (i : Int)).f0 (rd_T31 l (i : Int)).f1 (rd_T31 l (i : Int)).f2 (rd_T31 l (i : Int)).f4)
   (by split; exact Nat.le_trans (by omega) (leafL_len _ _ _).1; simp) (by split; exact Nat.le_trans (leafL_len _ _ _).2 (by omega); have := hdL_len (rd_T31 l (i : Int)).f0 (rd_T31 l (i : Int)).f1 (rd_T31 l (i : Int)).f2 (rd_T31 l (i : Int)).f4; simp; omega)
   (rd_T31 l (i : Int)).f0 (rd_T31 l (i : Int)).f1 (rd_T31 l (i : Int)).f2 (rd_T31 l (i : Int)).f3 (rd_T31 l (i : Int)).f4 (rd_T31 l (i : Int)).f5 (pl l i) rfl hp (List.replicate (l.length - (i + 1)) false) _ _ ?_ hnext (pl l i).length 0 (by omega)
  ·rw [List.take_zero] at key
   simp only [ptsL, List.flatMap_nil, List.append_nil, List.all_nil] at key
   exact key
  ·have hop := hn.op0; have hop1 := hn.op1
   unfold txtN
   by_cases h01 : (rd_T31 l (i : Int)).f0 = 0 ∨ (rd_T31 l (i : Int)).f0 = 1
   ·have hpl : pl l i = [] := by unfold pl partsL; rw [if_neg (by omega), if_neg (by omega), if_neg (by omega)]
    have := leafL_len (rd_T31 l (i : Int)).f0 (rd_T31 l (i : Int)).f1 (rd_T31 l (i : Int)).f2
    rw [if_pos h01, if_pos h01, hpl]
    simp only [ptsL, List.flatMap_nil, List.length_nil, List.append_nil, List.all_nil, Nat.lt_irrefl, if_false, true_and]
    rw [if_pos (by omega)]
   ·have hpl : 0 < (pl l i).length := by
     unfold pl partsL
     split
     ·simp
     ·split
      ·simp
      ·rw [if_pos (by omega)]; simp
    rw [if_neg h01, if_neg h01, if_pos hpl]
    rfl
theorem ShowTerm_ev (l : List S31) : ∃ r : ByteArray × Bool, Ev (fun k => spec_ShowTerm.f k l) r ∧ Ev (fun k => impl_ShowTerm.f k l) r := by
 obtain ⟨b, e1, e2, h⟩ := term_ev l
 unfold spec_ShowTerm.f impl_ShowTerm.f
 by_cases hb : b = true
 ·obtain ⟨h1, h2, h3⟩ := h.mp hb
  refine ⟨(mkB ((textsL l l.length).getD (l.length - 1) []), ((textsL l l.length).getD (l.length - 1) [] != [])), ev_bind e1 (ev_pos hb ?_), ev_bind e2 (ev_pos hb (ev_pos (by omega) (ev_pos (by simp; omega) (ev_pos (by simp; omega) ?_))))⟩
  ·exact showS_from l h2 h3 l.length 0 (by omega) h1
  ·have := showI_from l h2 h3 h1 l.length 0 (by omega)
   simp only [textsL, fitsL, List.map_nil, List.nil_append, Nat.sub_zero] at this
   exact this
 ·exact ⟨(mkB [], false), ev_bind e1 (ev_neg hb ev_now), ev_bind e2 (ev_neg hb ev_now)⟩

end Go.Proofs.Ytkpipmojkhikaaa.Pure.ExactCanonW
namespace Go.Proofs.Ytkpipmojkhikaaa.Pure
open Go.RowKit Go.Proofs.Ytkpipmojkhikaaa.PAll Go.Proofs.YtkpipmojkhikaaaW.PrintWords Go.Proofs.YtkpipmojkhikaaaW.PrintLast Go.Proofs.YtkpipmojkhikaaaW.PrintMore Go.Proofs.Ytkpipmojkhikaaa.Base Go.Proofs.Ytkpipmojkhikaaa.Pure.ExactCanonW
/-! ### Numbers in a text -/
theorem bt_mkB (L : List UInt8) (i : Nat) (h : i < L.length) : bt (mkB L) (i : Int) = ((L.getD i 0).toNat : Int) := by
 unfold bt mkB
 rw [Int.toNat_natCast, dif_pos (by simpa [ByteArray.size] using h)]
 simp [ByteArray.getElem_eq_getElem_data, List.getD_eq_getElem?_getD, h]
def dig (x : UInt8) : Bool := decide (48 ≤ x.toNat ∧ x.toNat ≤ 57)
def dv (x : UInt8) : Int := (x.toNat : Int) - 48
theorem dig_iff {x : UInt8} : dig x = true ↔ 0 ≤ dv x ∧ dv x ≤ 9 := by unfold dig dv; simp only [decide_eq_true_eq]; omega
theorem d8_dv {x : UInt8} (h : dig x = true) : d8 (dv x) = x := by
 have := dig_iff.mp h
 unfold d8 dv at *
 rw [show 48 + ((x.toNat : Int) - 48).toNat = x.toNat by omega]
 exact UInt8.ofNat_toNat
def valF (v : Int) (L : List UInt8) : Int := L.foldl (fun n x => 10 * n + dv x) v
theorem valF_snoc (v : Int) (L : List UInt8) (x : UInt8) : valF v (L ++ [x]) = 10 * valF v L + dv x := by unfold valF; simp [List.foldl_append]
theorem p10_le {i : Nat} (h : i ≤ 9) : (1 : Int) ≤ 10 ^ i ∧ (10 : Int) ^ i ≤ 1000000000 := by
 have : i = 0 ∨ i = 1 ∨ i = 2 ∨ i = 3 ∨ i = 4 ∨ i = 5 ∨ i = 6 ∨ i = 7 ∨ i = 8 ∨ i = 9 := by omega
 rcases this with rfl | rfl | rfl | rfl | rfl | rfl | rfl | rfl | rfl | rfl <;> decide
theorem valF_lt (L : List UInt8) : ∀ (v : Int) (i : Nat), L.all dig = true → 0 ≤ v → v < 10 ^ i → 0 ≤ valF v L ∧ valF v L < 10 ^ (i + L.length) := by
 induction L with
 | nil => intro v i _ h0 h1; exact ⟨h0, h1⟩
 | cons x L ih =>
  intro v i h h0 h1
  rw [List.all_cons, Bool.and_eq_true] at h
  have hx := dig_iff.mp h.1
  have := ih (10 * v + dv x) (i + 1) h.2 (by omega) (by rw [Int.pow_succ]; omega)
  rw [List.length_cons, show i + (L.length + 1) = i + 1 + L.length by omega]
  exact this
theorem val_bound (L : List UInt8) (h : L.all dig = true) (hl : L.length ≤ 9) : 0 ≤ valF 0 L ∧ valF 0 L ≤ 999999999 := by
 have h1 := valF_lt L 0 0 h (by omega) (by decide)
 rw [Nat.zero_add] at h1
 have := (p10_le hl).2
 omega
theorem valF_pos (L : List UInt8) : ∀ v : Int, L.all dig = true → 0 < v → 0 < valF v L := by
 induction L with
 | nil => intro v _ h; exact h
 | cons x L ih =>
  intro v h h0
  rw [List.all_cons, Bool.and_eq_true] at h
  have hx := dig_iff.mp h.1
  exact ih (10 * v + dv x) h.2 (by omega)
theorem val_pos (L : List UInt8) (h : L.all dig = true) (hne : L ≠ []) (h0 : L.headD 0 ≠ 48) : 0 < valF 0 L := by
 cases L with
 | nil => exact absurd rfl hne
 | cons x L =>
  rw [List.all_cons, Bool.and_eq_true] at h
  have hx := dig_iff.mp h.1
  have h0 : x ≠ 48 := h0
  have : dv x ≠ 0 := fun e => h0 (by have := d8_dv h.1; rw [e] at this; rw [← this]; rfl)
  exact valF_pos L (10 * 0 + dv x) h.2 (by omega)
theorem decG_step (a m : Int) (ha : 0 ≤ a) (h0 : 0 < m) (h1 : m ≤ 999999999) (acc : List UInt8) (hacc : acc.length ≤ 100) (r : ByteArray) (h : Ev (fun k => spec_l03Dec.l0 k a (mkB (d8 (m % 10) :: acc)) (m / 10)) r) :
  Ev (fun k => spec_l03Dec.l0 k a (mkB acc) m) r := by
 refine ev_succ ?_
 simp only [spec_l03Dec.l0]
 rw [Int.tmod_eq_emod_of_nonneg (by omega), Int.tdiv_eq_ediv_of_nonneg (by omega)]
 have hm : 0 ≤ m % 10 ∧ m % 10 < 10 := by omega
 rw [wrap_id (x := m % 10 + 1) (by omega) (by omega), wrap_id (x := m / 10) (by omega) (by omega), digS hm.1 hm.2, mkB_app, mkB_size, mkB_size]
 exact ev_neg (by omega) (ev_neg (by omega) (ev_pos (by omega) (ev_pos (by omega) (ev_pos (by omega) (ev_pos (by simp; omega) h)))))
theorem decG_from (a : Int) (ha : 0 ≤ a) (n : Nat) : ∀ (M acc : List UInt8), M.length = n → M.all dig = true → (M ≠ [] → M.headD 0 ≠ 48) → M.length ≤ 9 → M.length + acc.length ≤ 50 →
  Ev (fun k => spec_l03Dec.l0 k a (mkB acc) (valF 0 M)) (mkB (M ++ acc)) := by
 induction n with
 | zero =>
  intro M acc hn _ _ _ _
  obtain rfl := List.length_eq_zero_iff.mp hn
  refine ev_succ ?_
  simp only [spec_l03Dec.l0]
  exact ev_pos rfl (ev_neg (by omega) ev_now)
 | succ n ih =>
  intro M acc hn hd h0 hl hb
  have hne : M ≠ [] := fun e => by rw [e] at hn; simp at hn
  have hpos := val_pos M hd hne (h0 hne)
  have hbd := val_bound M hd hl
  obtain ⟨M2, x, rfl⟩ : ∃ M2 x, M = M2 ++ [x] := ⟨M.dropLast, M.getLast hne, (List.dropLast_concat_getLast hne).symm⟩
  rw [List.all_append, Bool.and_eq_true] at hd
  have hx : dig x = true := by simpa using hd.2
  have hxv := dig_iff.mp hx
  rw [List.length_append] at hn hl hb
  simp only [List.length_cons, List.length_nil] at hn hl hb
  refine decG_step a _ ha hpos hbd.2 acc (by omega) _ ?_
  rw [valF_snoc] at hpos hbd ⊢
  rw [show (10 * valF 0 M2 + dv x) % 10 = dv x by omega, show (10 * valF 0 M2 + dv x) / 10 = valF 0 M2 by omega, d8_dv hx]
  have := ih M2 (x :: acc) (by omega) hd.1 (fun h2 => by cases M2 with | nil => exact absurd rfl h2 | cons y M2 => exact h0 hne) (by omega) (by simp only [List.length_cons]; omega)
  rw [List.append_assoc]
  exact this
/-- The decimal text of a row of digits' value: the row, less noughts ahead. -/
theorem decG (L : List UInt8) : L.all dig = true → L ≠ [] → L.length ≤ 9 → ∃ T : List UInt8, Ev (fun k => spec_l03Dec.f k (valF 0 L)) (mkB T) ∧ T.length ≤ L.length ∧ (1 < L.length → L.headD 0 = 48 → T.length < L.length) ∧ (¬ (1 < L.length ∧ L.headD 0 = 48) → T = L) := by
 induction L with
 | nil => intro _ h; exact absurd rfl h
 | cons x L ih =>
  intro hd _ hl
  by_cases hx : x = 48
  ·subst hx
   cases L with
   | nil =>
    refine ⟨[48], ?_, by simp, fun h => absurd h (by simp), fun _ => rfl⟩
    unfold spec_l03Dec.f
    exact ev_pos rfl ev_now
   | cons y L =>
    rw [List.all_cons, Bool.and_eq_true] at hd
    obtain ⟨T, h1, h2, h3, h4⟩ := ih hd.2 (by simp) (by simp only [List.length_cons] at hl ⊢; omega)
    refine ⟨T, h1, by simp only [List.length_cons] at h2 ⊢; omega, fun _ _ => by simp only [List.length_cons] at h2 ⊢; omega, fun h => absurd ⟨by simp, rfl⟩ h⟩
  ·have hpos := val_pos (x :: L) hd (by simp) hx
   refine ⟨x :: L, ?_, Nat.le_refl _, fun _ h => absurd h hx, fun _ => rfl⟩
   unfold spec_l03Dec.f
   refine ev_neg (by omega) ?_
   have := decG_from (valF 0 (x :: L)) (by omega) (x :: L).length (x :: L) [] rfl hd (fun _ => hx) hl (by simp only [List.length_nil]; omega)
   rw [List.append_nil] at this
   exact this
/-- A number of at most nine digits without needless noughts. -/
def numL (L : List UInt8) : Option Int := if (1 ≤ L.length ∧ L.length ≤ 9) ∧ L.all dig = true ∧ ¬ (1 < L.length ∧ L.headD 0 = 48) then some (valF 0 L) else none
theorem numL_nonneg {L : List UInt8} {v : Int} (h : numL L = some v) : 0 ≤ v ∧ v ≤ 999999999 := by
 unfold numL at h
 split at h
 ·rename_i hc
  obtain rfl := Option.some.inj h
  exact val_bound L hc.2.1 hc.1.2
 ·cases h
theorem drop_next (L : List UInt8) (i : Nat) (h : i < L.length) : L.drop i = L.getD i 0 :: L.drop (i + 1) := by
 rw [List.drop_eq_getElem_cons h, List.getD_eq_getElem?_getD, List.getElem?_eq_getElem h]; rfl
theorem numI_from (L : List UInt8) (hl : L.length ≤ 9) (d : Nat) : ∀ (i : Nat) (v : Int), i + d = L.length → 0 ≤ v → v < 10 ^ i →
  Ev (fun k => impl_readNumber.l0 k (mkB L) v (L.length : Int) (i : Int)) (if (L.drop i).all dig = true then (valF v (L.drop i), true) else (0, false)) := by
 induction d with
 | zero =>
  intro i v hi h0 h1
  refine ev_succ ?_
  simp only [impl_readNumber.l0]
  rw [List.drop_eq_nil_of_le (by omega)]
  exact ev_neg (by omega) (ev_eq rfl)
 | succ d ih =>
  intro i v hi h0 h1
  have hb := p10_le (i := i) (by omega)
  refine ev_succ ?_
  simp only [impl_readNumber.l0]
  rw [bt_mkB L i (by omega), mkB_size, drop_next L i (by omega), List.all_cons]
  have hx := UInt8.toNat_lt (L.getD i 0)
  generalize L.getD i 0 = x at *
  refine ev_pos (by omega) (ev_pos (by omega) (ev_pos (by omega) ?_))
  by_cases hd : dig x = true
  ·have hv := dig_iff.mp hd
   have hb2 := p10_le (i := i + 1) (by omega)
   rw [hd, Bool.true_and]
   refine ev_neg (by unfold dv at hv; omega) (ev_neg (by unfold dv at hv; omega) ?_)
   rw [show ((x.toNat : Int) - 48) % 256 = dv x by unfold dv at *; omega, wrap_id (x := 10 * v) (by omega) (by omega), wrap_id (x := 10 * v + dv x) (by omega) (by omega), wrap_id (x := (i : Int) + 1) (by omega) (by omega)]
   exact ih (i + 1) (10 * v + dv x) (by omega) (by omega) (by rw [Int.pow_succ]; omega)
  ·have e : dig x = false := by simpa using hd
   rw [e, Bool.false_and, if_neg (by simp)]
   have hnd : ¬ (0 ≤ dv x ∧ dv x ≤ 9) := fun h => hd (dig_iff.mpr h)
   unfold dv at hnd
   by_cases h48 : (x.toNat : Int) < 48
   ·exact ev_pos h48 ev_now
   ·exact ev_neg h48 (ev_pos (by omega) ev_now)
theorem numI (L : List UInt8) (hb : L.length ≤ 4000) : Ev (fun k => impl_readNumber.f k (mkB L)) (match numL L with | some v => (v, true) | none => (0, false)) := by
 unfold impl_readNumber.f
 rw [inI, mkB_size]
 simp only [Option.bind_some]
 have hj : ∀ b : Bool, (1 ≤ L.length ∧ L.length ≤ 9) → (b = true ↔ 1 < L.length ∧ L.headD 0 = 48) → Ev (fun k => impl_readNumber.j0 k (mkB L) b) (match numL L with | some v => (v, true) | none => (0, false)) := by
  intro b hl hbb
  refine ev_succ ?_
  simp only [impl_readNumber.j0]
  by_cases h : b = true
  ·refine ev_pos h ?_
   rw [show numL L = none by unfold numL; rw [if_neg (fun hc => hc.2.2 (hbb.mp h))]]
   exact ev_now
  ·refine ev_neg h ?_
   rw [mkB_size]
   have := numI_from L hl.2 L.length 0 0 (by omega) (by omega) (by decide)
   rw [List.drop_zero] at this
   have e : (match numL L with | some v => (v, true) | none => ((0 : Int), false)) = if L.all dig = true then (valF 0 L, true) else (0, false) := by
    unfold numL
    by_cases hd : L.all dig = true
    ·rw [if_pos ⟨hl, hd, fun hc => h (hbb.mpr hc)⟩, if_pos hd]
    ·rw [if_neg (fun hc => hd hc.2.1), if_neg hd]
   rw [e]
   exact this
 by_cases hl : 1 ≤ L.length ∧ L.length ≤ 9
 ·refine ev_pos (by simp; omega) ?_
  by_cases h1 : 1 < L.length
  ·refine ev_pos (by omega) (ev_pos (by omega) (hj _ hl ?_))
   have := bt_mkB L 0 (by omega)
   rw [show ((0 : Nat) : Int) = 0 from rfl] at this
   rw [this]
   cases L with
   | nil => simp at h1
   | cons x L =>
    simp only [List.getD_cons_zero, List.headD_cons, beq_iff_eq]
    constructor
    ·intro h; exact ⟨h1, by apply UInt8.toNat_inj.mp; show x.toNat = 48; omega⟩
    ·intro h; rw [h.2]; rfl
  ·exact ev_neg (by omega) (hj _ hl ⟨fun h => absurd h (by decide), fun h => absurd h.1 h1⟩)
 ·refine ev_neg (by simp; omega) ?_
  rw [show numL L = none by unfold numL; rw [if_neg (fun hc => hl hc.1)]]
  refine ev_succ ?_
  simp only [impl_readNumber.j0]
  exact ev_pos trivial ev_now
theorem numS_from (L : List UInt8) (hl : L.length ≤ 9) (hne : L ≠ []) (d : Nat) : ∀ (i : Nat) (v : Int), i + d = L.length → 0 ≤ v → v < 10 ^ i → (valF v (L.drop i) = valF 0 L) → (L.take i).all dig = true →
  Ev (fun k => spec_l03Num.l0 k (mkB L) v (i : Int)) (match numL L with | some v => v | none => -1) := by
 induction d with
 | zero =>
  intro i v hi h0 h1 he ht
  rw [List.drop_eq_nil_of_le (by omega)] at he
  rw [List.take_of_length_le (by omega)] at ht
  have he : v = valF 0 L := he
  refine ev_succ ?_
  simp only [spec_l03Num.l0]
  rw [mkB_size]
  refine ev_neg (by omega) ?_
  obtain ⟨T, h1, h2, h3, h4⟩ := decG L ht hne hl
  rw [he]
  refine ev_bind h1 ?_
  rw [mkB_toList, mkB_toList]
  by_cases hc : 1 < L.length ∧ L.headD 0 = 48
  ·rw [show numL L = none by unfold numL; rw [if_neg (fun h => h.2.2 hc)]]
   exact ev_neg (fun e => by have := h3 hc.1 hc.2; rw [e] at this; omega) ev_now
  ·have hp : 1 ≤ L.length := by cases L with | nil => exact absurd rfl hne | cons x L => simp
   rw [show numL L = some (valF 0 L) by unfold numL; rw [if_pos ⟨⟨hp, hl⟩, ht, hc⟩]]
   exact ev_pos (h4 hc) ev_now
 | succ d ih =>
  intro i v hi h0 h1 he ht
  have hb := p10_le (i := i) (by omega)
  refine ev_succ ?_
  simp only [spec_l03Num.l0]
  rw [bt_mkB L i (by omega), mkB_size]
  rw [drop_next L i (by omega)] at he
  have hx := UInt8.toNat_lt (L.getD i 0)
  have htk : L.take (i + 1) = L.take i ++ [L.getD i 0] := by
   rw [List.take_add_one, List.getD_eq_getElem?_getD, List.getElem?_eq_getElem (by omega)]; rfl
  have hmem : L.getD i 0 ∈ L := by rw [List.getD_eq_getElem?_getD, List.getElem?_eq_getElem (by omega)]; exact List.getElem_mem _
  generalize L.getD i 0 = x at *
  refine ev_pos (by omega) (ev_pos (by omega) ?_)
  rw [wrap_id (x := (x.toNat : Int)) (by omega) (by omega), inS]
  simp only [Option.bind_some]
  by_cases hd : dig x = true
  ·have hv := dig_iff.mp hd
   have hb2 := p10_le (i := i + 1) (by omega)
   refine ev_pos (by unfold dv at hv; simp; omega) ?_
   unfold dv at hv
   rw [wrap_id (x := 10 * v) (by omega) (by omega), wrap_id (x := 10 * v + (x.toNat : Int)) (by omega) (by omega), wrap_id (x := 10 * v + (x.toNat : Int) - 48) (by omega) (by omega), wrap_id (x := (i : Int) + 1) (by omega) (by omega)]
   rw [show 10 * v + (x.toNat : Int) - 48 = 10 * v + dv x by unfold dv; omega]
   refine ih (i + 1) (10 * v + dv x) (by omega) (by unfold dv; omega) (by rw [Int.pow_succ]; unfold dv; omega) he (by rw [htk, List.all_append, ht]; simp [hd])
  ·have hnd : ¬ (0 ≤ dv x ∧ dv x ≤ 9) := fun h => hd (dig_iff.mpr h)
   unfold dv at hnd
   refine ev_neg (by simp; omega) ?_
   rw [show numL L = none by unfold numL; rw [if_neg (fun h => hd (List.all_eq_true.mp h.2.1 _ hmem))]]
   exact ev_now
theorem numS (L : List UInt8) (hb : L.length ≤ 4000) : Ev (fun k => spec_l03Num.f k (mkB L)) (match numL L with | some v => v | none => -1) := by
 unfold spec_l03Num.f
 rw [mkB_size]
 have hj : ∀ b : Bool, (b = true ↔ ¬ (1 ≤ L.length ∧ L.length ≤ 9)) → Ev (fun k => spec_l03Num.j0 k (mkB L) 0 b) (match numL L with | some v => v | none => -1) := by
  intro b hbb
  refine ev_succ ?_
  simp only [spec_l03Num.j0]
  by_cases h : b = true
  ·refine ev_pos h ?_
   rw [show numL L = none by unfold numL; rw [if_neg (fun hc => hbb.mp h hc.1)]]
   exact ev_now
  ·have hl : 1 ≤ L.length ∧ L.length ≤ 9 := by
    by_cases hl : 1 ≤ L.length ∧ L.length ≤ 9
    ·exact hl
    ·exact absurd (hbb.mpr hl) h
   exact ev_neg h (numS_from L hl.2 (fun e => by rw [e] at hl; simp at hl) L.length 0 0 (by omega) (by omega) (by decide) (by rw [List.drop_zero]) (by simp))
 by_cases h0 : (L.length : Int) = 0
 ·exact ev_pos h0 (hj true ⟨fun _ => by omega, fun _ => rfl⟩)
 ·exact ev_neg h0 (hj _ (by simp; omega))
/-! ### Words of a text -/
theorem mkB_extract (L : List UInt8) (i j : Nat) : (mkB L).extract i j = mkB ((L.drop i).take (j - i)) := by
 unfold mkB
 apply ByteArray.ext
 simp [ByteArray.data_extract, List.extract_eq_take_drop]
def endI (x : UInt8) : Bool := x == 32 || x == 40 || x == 41
def endS (x : UInt8) : Bool := x == 32 || x == 41
/-- The word at a place: up to a byte that ends it. -/
def wd (e : UInt8 → Bool) (L : List UInt8) (a : Nat) : List UInt8 := (L.drop a).takeWhile fun x => !e x
theorem take_while_len {p : UInt8 → Bool} (L : List UInt8) : L.take (L.takeWhile p).length = L.takeWhile p := by
 induction L with
 | nil => rfl
 | cons x L ih =>
  by_cases h : p x = true
  ·rw [List.takeWhile_cons_of_pos h, List.length_cons, List.take_succ_cons, ih]
  ·rw [List.takeWhile_cons_of_neg h]; rfl
theorem wd_len (e : UInt8 → Bool) (L : List UInt8) (a : Nat) (h : a ≤ L.length) : a + (wd e L a).length ≤ L.length := by
 have := congrArg List.length (take_while_len (p := fun x => !e x) (L.drop a))
 rw [List.length_take, List.length_drop] at this
 unfold wd; omega
theorem wd_next (e : UInt8 → Bool) (L : List UInt8) (a : Nat) (h : a < L.length) : wd e L a = if e (L.getD a 0) = true then [] else L.getD a 0 :: wd e L (a + 1) := by
 unfold wd
 rw [drop_next L a h]
 by_cases he : e (L.getD a 0) = true
 ·rw [if_pos he, List.takeWhile_cons_of_neg (by rw [he]; decide)]
 ·rw [if_neg he, List.takeWhile_cons_of_pos (by rw [Bool.eq_false_iff.mpr he]; rfl)]
theorem isEnd_ev (x : UInt8) : Ev (fun _ => impl_isEnd.f (x.toNat : Int)) (endI x) := by
 refine ev_c ?_
 have e32 : ((x.toNat : Int) = 32) ↔ x = 32 := ⟨fun h => UInt8.toNat_inj.mp (by show x.toNat = 32; omega), fun h => by subst h; rfl⟩
 have e40 : ((x.toNat : Int) = 40) ↔ x = 40 := ⟨fun h => UInt8.toNat_inj.mp (by show x.toNat = 40; omega), fun h => by subst h; rfl⟩
 have e41 : ((x.toNat : Int) = 41) ↔ x = 41 := ⟨fun h => UInt8.toNat_inj.mp (by show x.toNat = 41; omega), fun h => by subst h; rfl⟩
 unfold impl_isEnd.f endI
 by_cases h1 : x = 32
 ·subst h1; rfl
 ·by_cases h2 : x = 40
  ·subst h2; rfl
  ·rw [if_neg (fun h => h1 (e32.mp h)), if_neg (fun h => h2 (e40.mp h))]
   have b1 : (x == 32) = false := by simpa using h1
   have b2 : (x == 40) = false := by simpa using h2
   rw [b1, b2]
   by_cases h3 : x = 41
   ·subst h3; rfl
   ·have b3 : (x == 41) = false := by simpa using h3
    rw [b3]
    have : ((x.toNat : Int) == 41) = false := by simpa using fun h => h3 (e41.mp h)
    rw [this]; rfl
theorem wordI_from (L : List UInt8) (hL : L.length ≤ 4000) (l : List S31) (c b : Int) (a : Nat) (d : Nat) : ∀ j : Nat, j + d = L.length → a ≤ j →
  Ev (fun k => impl_termReader_word.l0 k (a : Int) (mkB L) (j : Int) l c b) (mkB ((L.drop a).take (j + (wd endI L j).length - a)), mkB L, ((j + (wd endI L j).length : Nat) : Int), c, b) := by
 induction d with
 | zero =>
  intro j hj ha
  have hw : wd endI L j = [] := by unfold wd; rw [List.drop_eq_nil_of_le (by omega)]; rfl
  refine ev_succ ?_
  simp only [impl_termReader_word.l0]
  rw [hw, mkB_size, Int.toNat_natCast, Int.toNat_natCast, mkB_extract]
  exact ev_neg (by omega) (ev_pos (by omega) (ev_pos (by omega) (ev_pos (by omega) ev_now)))
 | succ d ih =>
  intro j hj ha
  refine ev_succ ?_
  simp only [impl_termReader_word.l0]
  rw [mkB_size, bt_mkB L j (by omega), Int.toNat_natCast, Int.toNat_natCast, mkB_extract, wd_next endI L j (by omega)]
  refine ev_pos (by omega) (ev_pos (by omega) (ev_bind (isEnd_ev _) ?_))
  by_cases he : endI (L.getD j 0) = true
  ·rw [if_pos he]
   exact ev_pos he (ev_pos (by omega) (ev_pos (by omega) (ev_pos (by omega) ev_now)))
  ·rw [if_neg he, wrap_id (by omega) (by omega)]
   refine ev_neg he ?_
   have := ih (j + 1) (by omega) (by omega)
   rw [List.length_cons, show j + ((wd endI L (j + 1)).length + 1) = j + 1 + (wd endI L (j + 1)).length by omega]
   exact this
theorem wordI (L : List UInt8) (hL : L.length ≤ 4000) (l : List S31) (c b : Int) (a : Nat) (ha : a ≤ L.length) : Ev (fun k => wF k (mkB L) (a : Int) l c b) (mkB (wd endI L a), ((a + (wd endI L a).length : Nat) : Int)) := by
 obtain ⟨K, hK⟩ := wordI_from L hL l c b a (L.length - a) a (by omega) (Nat.le_refl _)
 refine ⟨K, fun k hk => ?_⟩
 have h := hK k hk
 dsimp only at h ⊢
 unfold wF impl_termReader_word.f
 rw [h, show a + (wd endI L a).length - a = (wd endI L a).length by omega]
 simp only [Option.map_some]
 unfold wd
 rw [take_while_len]
theorem wordS_from (L : List UInt8) (hL : L.length ≤ 4000) (l : List S31) (a : Nat) (d : Nat) : ∀ j : Nat, j + d = L.length → a ≤ j →
  Ev (fun k => spec_l03Word.l0 k (a : Int) (mkB L) (j : Int) l 0 0) (mkB ((L.drop a).take (j + (wd endS L j).length - a)), mkB L, ((j + (wd endS L j).length : Nat) : Int), 0, 0) := by
 induction d with
 | zero =>
  intro j hj ha
  have hw : wd endS L j = [] := by unfold wd; rw [List.drop_eq_nil_of_le (by omega)]; rfl
  refine ev_succ ?_
  simp only [spec_l03Word.l0]
  rw [hw, mkB_size, Int.toNat_natCast, Int.toNat_natCast, mkB_extract]
  exact ev_neg (by omega) (ev_pos (by omega) (ev_pos (by omega) (ev_pos (by omega) ev_now)))
 | succ d ih =>
  intro j hj ha
  refine ev_succ ?_
  simp only [spec_l03Word.l0]
  rw [mkB_size, bt_mkB L j (by omega), Int.toNat_natCast, Int.toNat_natCast, mkB_extract, wd_next endS L j (by omega)]
  refine ev_pos (by omega) (ev_pos (by omega) ?_)
  generalize hx : L.getD j 0 = x at *
  have e32 : ((x.toNat : Int) = 32) ↔ x = 32 := ⟨fun h => UInt8.toNat_inj.mp (by show x.toNat = 32; omega), fun h => by subst h; rfl⟩
  have e41 : ((x.toNat : Int) = 41) ↔ x = 41 := ⟨fun h => UInt8.toNat_inj.mp (by show x.toNat = 41; omega), fun h => by subst h; rfl⟩
  by_cases h1 : x = 32
  ·subst h1
   exact ev_pos rfl (ev_pos (by omega) (ev_pos (by omega) (ev_pos (by omega) ev_now)))
  refine ev_neg (fun h => h1 (e32.mp h)) ?_
  by_cases h2 : x = 41
  ·subst h2
   exact ev_pos rfl (ev_pos (by omega) (ev_pos (by omega) (ev_pos (by omega) ev_now)))
  refine ev_neg (fun h => h2 (e41.mp h)) ?_
  have he : ¬ endS x = true := by unfold endS; simp [h1, h2]
  rw [if_neg he, wrap_id (by omega) (by omega)]
  have := ih (j + 1) (by omega) (by omega)
  rw [List.length_cons, show j + ((wd endS L (j + 1)).length + 1) = j + 1 + (wd endS L (j + 1)).length by omega]
  exact this
theorem wordS (L : List UInt8) (hL : L.length ≤ 4000) (l : List S31) (a : Nat) (ha : a ≤ L.length) : Ev (fun k => cwF k (mkB L) (a : Int) l) (mkB (wd endS L a), ((a + (wd endS L a).length : Nat) : Int)) := by
 obtain ⟨K, hK⟩ := wordS_from L hL l a (L.length - a) a (by omega) (Nat.le_refl _)
 refine ⟨K, fun k hk => ?_⟩
 have h := hK k hk
 dsimp only at h ⊢
 unfold cwF spec_l03Word.f
 rw [h, show a + (wd endS L a).length - a = (wd endS L a).length by omega]
 simp only [Option.map_some]
 unfold wd
 rw [take_while_len]
/-- Where an opening bracket stands at the head or behind a blank alone. -/
def Good (L : List UInt8) : Prop := ∀ i < L.length, L.getD i 0 = 40 → i = 0 ∨ L.getD (i - 1) 0 = 32
theorem wd_same (L : List UInt8) (hG : Good L) (d : Nat) : ∀ a : Nat, a + d = L.length → (a < L.length → L.getD a 0 ≠ 40) → wd endI L a = wd endS L a := by
 induction d with
 | zero => intro a ha _; unfold wd; rw [List.drop_eq_nil_of_le (by omega)]; rfl
 | succ d ih =>
  intro a ha h
  have h := h (by omega)
  rw [wd_next endI L a (by omega), wd_next endS L a (by omega)]
  by_cases he : endS (L.getD a 0) = true
  ·have : endI (L.getD a 0) = true := by unfold endI endS at *; simp only [Bool.or_eq_true] at he ⊢; rcases he with h | h; exact .inl (.inl h); exact .inr h
   rw [if_pos he, if_pos this]
  ·have : ¬ endI (L.getD a 0) = true := by
    intro hi
    unfold endI endS at *
    simp only [Bool.or_eq_true, beq_iff_eq] at hi he
    rcases hi with (h1 | h1) | h1
    ·exact he (.inl h1)
    ·exact h h1
    ·exact he (.inr h1)
   rw [if_neg he, if_neg this, ih (a + 1) (by omega) ?_]
   intro hlt h40
   rcases hG (a + 1) hlt h40 with h0 | h0
   ·omega
   ·rw [Nat.add_sub_cancel] at h0
    exact he (by unfold endS; rw [h0]; rfl)
/-! ### Pairs of numbers -/
def colE (L : List UInt8) (j : Nat) : Nat := j + ((L.drop j).takeWhile fun x => x != 58).length
theorem colE_le (L : List UInt8) (j : Nat) (h : j ≤ L.length) : j ≤ colE L j ∧ colE L j ≤ L.length := by
 have := congrArg List.length (take_while_len (p := fun x => x != 58) (L.drop j))
 rw [List.length_take, List.length_drop] at this
 unfold colE; omega
theorem colE_next (L : List UInt8) (j : Nat) (h : j < L.length) : colE L j = if L.getD j 0 = 58 then j else colE L (j + 1) := by
 unfold colE
 rw [drop_next L j h]
 by_cases he : L.getD j 0 = 58
 ·rw [if_pos he, List.takeWhile_cons_of_neg (by rw [he]; decide)]; rfl
 ·rw [if_neg he, List.takeWhile_cons_of_pos (by simpa using he), List.length_cons]; omega
def pairAt (L : List UInt8) (e : Nat) : Option (Int × Int) := if e < L.length then (match numL ((L.drop 1).take (e - 1)), numL (L.drop (e + 1)) with | some a, some b => some (a, b) | _, _ => none) else none
def pairL (L : List UInt8) (sg : Int) : Option (Int × Int) := if L ≠ [] ∧ ((L.headD 0).toNat : Int) = sg then pairAt L (colE L 1) else none
theorem pairL_nonneg {L : List UInt8} {sg a b : Int} (h : pairL L sg = some (a, b)) : (0 ≤ a ∧ a ≤ 999999999) ∧ 0 ≤ b ∧ b ≤ 999999999 := by
 unfold pairL pairAt at h
 split at h
 ·split at h
  ·split at h
   ·rename_i h1 h2
    simp only [Option.some.injEq, Prod.mk.injEq] at h
    obtain ⟨rfl, rfl⟩ := h
    exact ⟨numL_nonneg h1, numL_nonneg h2⟩
   ·cases h
  ·cases h
 ·cases h
theorem c58 (x : UInt8) : ((x.toNat : Int) = 58) ↔ x = 58 := ⟨fun h => UInt8.toNat_inj.mp (by show x.toNat = 58; omega), fun h => by subst h; rfl⟩
theorem pairI_from (L : List UInt8) (hL : L.length ≤ 4000) (r : Int × Int × Bool) (d : Nat) : ∀ j : Nat, j + d = L.length → 1 ≤ j → Ev (fun k => impl_readPair.j2 k (mkB L) ((colE L j : Nat) : Int)) r → Ev (fun k => impl_readPair.l0 k (mkB L) (j : Int)) r := by
 induction d with
 | zero =>
  intro j hj h1 h
  have := colE_le L j (by omega)
  rw [show colE L j = j by omega] at h
  refine ev_succ ?_
  simp only [impl_readPair.l0]
  rw [mkB_size]
  exact ev_neg (by omega) h
 | succ d ih =>
  intro j hj h1 h
  rw [colE_next L j (by omega)] at h
  refine ev_succ ?_
  simp only [impl_readPair.l0]
  rw [mkB_size, bt_mkB L j (by omega)]
  refine ev_pos (by omega) (ev_pos (by omega) ?_)
  by_cases he : L.getD j 0 = 58
  ·rw [if_pos he] at h
   exact ev_pos ((c58 _).mpr he) h
  ·rw [if_neg he] at h
   rw [wrap_id (by omega) (by omega)]
   exact ev_neg (fun h => he ((c58 _).mp h)) (ih (j + 1) (by omega) (by omega) h)
theorem pairI (L : List UInt8) (hL : L.length ≤ 4000) (sg : Int) : ∃ x y, Ev (fun k => impl_readPair.f k (mkB L) sg) (x, y, (pairL L sg).isSome) ∧ ∀ a b, pairL L sg = some (a, b) → x = a ∧ y = b := by
 unfold impl_readPair.f
 have nope : pairL L sg = none → ∃ x y, Ev (fun k => impl_readPair.j0 k (mkB L) true) (x, y, (pairL L sg).isSome) ∧ ∀ a b, pairL L sg = some (a, b) → x = a ∧ y = b := by
  intro hn
  refine ⟨0, 0, ?_, fun a b h => by rw [hn] at h; cases h⟩
  rw [hn]
  refine ev_succ ?_
  simp only [impl_readPair.j0]
  exact ev_pos trivial ev_now
 by_cases hne : L = []
 ·obtain ⟨x, y, h1, h2⟩ := nope (by unfold pairL; rw [if_neg (fun h => h.1 hne)])
  exact ⟨x, y, ev_pos (by rw [mkB_toList]; exact hne) h1, h2⟩
 have hp : 0 < L.length := by cases L with | nil => exact absurd rfl hne | cons x L => simp
 have hb0 := bt_mkB L 0 hp
 rw [show ((0 : Nat) : Int) = 0 from rfl] at hb0
 have hh : L.getD 0 0 = L.headD 0 := by cases L <;> rfl
 rw [hb0, hh, mkB_size]
 by_cases hs : ((L.headD 0).toNat : Int) = sg
 ·have hpl : pairL L sg = pairAt L (colE L 1) := by unfold pairL; rw [if_pos ⟨hne, hs⟩]
  have hc := colE_le L 1 (by omega)
  rw [hpl]
  have step : ∀ r, Ev (fun k => impl_readPair.j2 k (mkB L) ((colE L 1 : Nat) : Int)) r → Ev (fun k => if (mkB L).toList = [] then impl_readPair.j0 k (mkB L) true else if (0 : Int) < (L.length : Int) then impl_readPair.j0 k (mkB L) (((L.headD 0).toNat : Int) != sg) else none) r := by
   intro r h
   refine ev_neg (by rw [mkB_toList]; exact hne) (ev_pos (by omega) (ev_succ ?_))
   simp only [impl_readPair.j0]
   exact ev_neg (by rw [hs]; simp) (pairI_from L hL r (L.length - 1) 1 (by omega) (by omega) h)
  generalize colE L 1 = e at *
  by_cases he : e = L.length
  ·refine ⟨0, 0, step _ ?_, fun a b h => by unfold pairAt at h; rw [if_neg (by omega)] at h; cases h⟩
   unfold pairAt
   rw [if_neg (by omega)]
   refine ev_succ ?_
   simp only [impl_readPair.j2]
   rw [mkB_size]
   exact ev_pos (by omega) ev_now
  ·have n1 := numI ((L.drop 1).take (e - 1)) (by simp; omega)
   have n2 := numI (L.drop (e + 1)) (by simp; omega)
   have key : ∀ x1 o1 x2 o2, Ev (fun k => impl_readNumber.f k (mkB ((L.drop 1).take (e - 1)))) (x1, o1) → Ev (fun k => impl_readNumber.f k (mkB (L.drop (e + 1)))) (x2, o2) → Ev (fun k => impl_readPair.j2 k (mkB L) ((e : Nat) : Int)) (x1, x2, o1 && o2) := by
    intro x1 o1 x2 o2 h1 h2
    refine ev_succ ?_
    simp only [impl_readPair.j2]
    rw [mkB_size, wrap_id (by omega) (by omega), Int.toNat_natCast, show ((e : Int) + 1).toNat = e + 1 by omega, mkB_extract, mkB_extract, show (L.drop (e + 1)).take (L.length - (e + 1)) = L.drop (e + 1) from List.take_of_length_le (by simp)]
    refine ev_neg (by omega) (ev_pos (by omega) (ev_pos (by omega) (ev_bind h1 (ev_pos (by omega) (ev_pos (by omega) (ev_bind h2 ?_))))))
    cases o1 with
    | true => exact ev_pos rfl (ev_eq (by simp))
    | false => exact ev_neg (by simp) (ev_eq (by simp))
   unfold pairAt
   rw [if_pos (by omega)]
   cases h1 : numL ((L.drop 1).take (e - 1)) with
   | none =>
    rw [h1] at n1
    cases h2 : numL (L.drop (e + 1)) with
    | none => rw [h2] at n2; exact ⟨0, 0, step _ (key _ _ _ _ n1 n2), fun a b h => by cases h⟩
    | some b => rw [h2] at n2; exact ⟨0, b, step _ (key _ _ _ _ n1 n2), fun a b h => by cases h⟩
   | some a =>
    rw [h1] at n1
    cases h2 : numL (L.drop (e + 1)) with
    | none => rw [h2] at n2; exact ⟨a, 0, step _ (key _ _ _ _ n1 n2), fun a b h => by cases h⟩
    | some b => rw [h2] at n2; exact ⟨a, b, step _ (key _ _ _ _ n1 n2), fun a b h => by simp only [Option.some.injEq, Prod.mk.injEq] at h; exact h⟩
 ·obtain ⟨x, y, h1, h2⟩ := nope (by unfold pairL; rw [if_neg (fun h => hs h.2)])
  refine ⟨x, y, ev_neg (by rw [mkB_toList]; exact hne) (ev_pos (by omega) ?_), h2⟩
  have : (((L.headD 0).toNat : Int) != sg) = true := by simpa using hs
  rw [this]
  exact h1
theorem pairS_from (L : List UInt8) (hL : L.length ≤ 4000) (d : Nat) : ∀ j : Nat, j + d = L.length → 1 ≤ j → Ev (fun k => spec_l03Two.l0 k (mkB L) (j : Int)) (match pairAt L (colE L j) with | some r => r | none => (-1, -1)) := by
 induction d with
 | zero =>
  intro j hj h1
  have := colE_le L j (by omega)
  have e : pairAt L (colE L j) = none := by unfold pairAt; rw [if_neg (by omega)]
  rw [e]
  refine ev_succ ?_
  simp only [spec_l03Two.l0]
  rw [mkB_size]
  exact ev_neg (by omega) ev_now
 | succ d ih =>
  intro j hj h1
  rw [colE_next L j (by omega)]
  refine ev_succ ?_
  simp only [spec_l03Two.l0]
  rw [mkB_size, bt_mkB L j (by omega)]
  refine ev_pos (by omega) (ev_pos (by omega) ?_)
  by_cases he : L.getD j 0 = 58
  ·rw [if_pos he]
   have n1 := numS ((L.drop 1).take (j - 1)) (by simp; omega)
   have n2 := numS (L.drop (j + 1)) (by simp; omega)
   have hn1 : ∀ v, numL ((L.drop 1).take (j - 1)) = some v → 0 ≤ v := fun v h => (numL_nonneg h).1
   have hn2 : ∀ v, numL (L.drop (j + 1)) = some v → 0 ≤ v := fun v h => (numL_nonneg h).1
   rw [wrap_id (by omega) (by omega), Int.toNat_natCast, show ((j : Int) + 1).toNat = j + 1 by omega, mkB_extract, mkB_extract, show (L.drop (j + 1)).take (L.length - (j + 1)) = L.drop (j + 1) from List.take_of_length_le (by simp)]
   refine ev_pos ((c58 _).mpr he) (ev_pos (by omega) (ev_pos (by omega) (ev_bind n1 (ev_pos (by omega) (ev_pos (by omega) (ev_bind n2 ?_))))))
   unfold pairAt
   rw [if_pos (show j < L.length by omega)]
   generalize numL ((L.drop 1).take (j - 1)) = o1 at *
   generalize numL (L.drop (j + 1)) = o2 at *
   cases o1 with
   | none => exact ev_pos (show (-1 : Int) < 0 by decide) ev_now
   | some a =>
    have := hn1 a rfl
    refine ev_neg (show ¬ (a < 0) by omega) ?_
    cases o2 with
    | none => exact ev_pos (show (-1 : Int) < 0 by decide) ev_now
    | some b =>
     have := hn2 b rfl
     exact ev_neg (show ¬ (b < 0) by omega) ev_now
  ·rw [if_neg he, wrap_id (by omega) (by omega)]
   exact ev_neg (fun h => he ((c58 _).mp h)) (ih (j + 1) (by omega) (by omega))
theorem pairS (L : List UInt8) (hL : L.length ≤ 4000) (sg : Int) : Ev (fun k => spec_l03Two.f k (mkB L) sg) (match pairL L sg with | some r => r | none => (-1, -1)) := by
 unfold spec_l03Two.f
 rw [mkB_size]
 have nope : pairL L sg = none → Ev (fun k => spec_l03Two.j0 k (mkB L) true) (match pairL L sg with | some r => r | none => (-1, -1)) := by
  intro hn
  rw [hn]
  refine ev_succ ?_
  simp only [spec_l03Two.j0]
  exact ev_pos trivial ev_now
 by_cases hne : L = []
 ·exact ev_pos (by rw [hne]; rfl) (nope (by unfold pairL; rw [if_neg (fun h => h.1 hne)]))
 have hp : 0 < L.length := by cases L with | nil => exact absurd rfl hne | cons x L => simp
 have hb0 := bt_mkB L 0 hp
 rw [show ((0 : Nat) : Int) = 0 from rfl] at hb0
 have hh : L.getD 0 0 = L.headD 0 := by cases L <;> rfl
 rw [hb0, hh]
 refine ev_neg (by omega) (ev_pos (by omega) ?_)
 by_cases hs : ((L.headD 0).toNat : Int) = sg
 ·rw [show pairL L sg = pairAt L (colE L 1) by unfold pairL; rw [if_pos ⟨hne, hs⟩]]
  refine ev_succ ?_
  simp only [spec_l03Two.j0]
  exact ev_neg (by rw [hs]; simp) (pairS_from L hL (L.length - 1) 1 (by omega) (by omega))
 ·have : (((L.headD 0).toNat : Int) != sg) = true := by simpa using hs
  rw [this]
  exact nope (by unfold pairL; rw [if_neg (fun h => hs h.2)])
/-! ### Bytes and operators -/
theorem ev_shift {α : Type} {g : Nat → Option α} {r : α} (h : Ev g r) : Ev (fun k => g (k + 1)) r := by
 obtain ⟨K, hK⟩ := h
 exact ⟨K, fun k hk => hK (k + 1) (by omega)⟩
/-- Does this byte stand there. -/
def isB (L : List UInt8) (a : Nat) (x : Int) : Bool := decide (a < L.length ∧ ((L.getD a 0).toNat : Int) = x)
theorem goesL (L : List UInt8) (hL : L.length ≤ 4000) (a : Nat) (ha : a ≤ L.length) (l : List S31) (c b x : Int) : gF (mkB L) (a : Int) l c b x = some (isB L a x, ((if isB L a x = true then a + 1 else a : Nat) : Int)) := by
 unfold gF impl_termReader_goes.f isB
 rw [mkB_size]
 by_cases h1 : a < L.length
 ·rw [bt_mkB L a h1]
  rw [if_neg (by omega), if_pos (by omega), if_pos (by omega)]
  by_cases h2 : ((L.getD a 0).toNat : Int) = x
  ·have : ¬ (((L.getD a 0).toNat : Int) ≠ x) := fun h => h h2
   simp only [h1, h2, and_self, decide_true, if_true, Option.map_some]
   rw [wrap_id (by omega) (by omega)]
   first | rfl | simp
  ·simp only [h2, and_false, decide_false]
   first | rfl | simp [h2]
 ·rw [if_pos (by omega)]
  simp only [h1, false_and, decide_false]
  first | rfl | simp
theorem blankL (L : List UInt8) (hL : L.length ≤ 4000) (a : Nat) (ha : a ≤ L.length) (l : List S31) : cbF (mkB L) (a : Int) l = some (isB L a 32, ((if isB L a 32 = true then a + 1 else a : Nat) : Int)) := by
 unfold cbF spec_l03Blank.f isB
 rw [mkB_size]
 by_cases h1 : a < L.length
 ·rw [bt_mkB L a h1, if_pos (by omega), if_pos (by omega)]
  by_cases h2 : ((L.getD a 0).toNat : Int) = 32
  ·rw [if_pos h2, wrap_id (by omega) (by omega)]
   simp only [h1, h2, and_self, decide_true, if_true, Option.map_some]
   first | rfl | simp
  ·rw [if_neg h2]
   simp only [h2, and_false, decide_false]
   first | rfl | simp
 ·rw [if_neg (by omega)]
  simp only [h1, false_and, decide_false]
  first | rfl | simp
theorem openL (L : List UInt8) (a : Nat) : copenF (mkB L) (a : Int) = some (isB L a 40) := by
 unfold copenF isB
 rw [mkB_size]
 by_cases h1 : a < L.length
 ·rw [if_pos (by omega), if_pos (by omega), bt_mkB L a h1]
  by_cases h2 : ((L.getD a 0).toNat : Int) = 40
  ·rw [h2]; simp [h1]
  ·simp only [h2, and_false, decide_false]; simpa using h2
 ·rw [if_neg (by omega)]; simp [h1]
theorem endL (L : List UInt8) (a : Nat) : cendF (mkB L) (a : Int) = some (isB L a 41) := by
 unfold cendF isB
 rw [mkB_size]
 by_cases h1 : a < L.length
 ·rw [if_neg (by omega), if_pos (by omega), bt_mkB L a h1]
  by_cases h2 : ((L.getD a 0).toNat : Int) = 41
  ·rw [h2]; simp [h1]
  ·simp only [h2, and_false, decide_false]; simpa using h2
 ·rw [if_pos (by omega)]; simp [h1]
theorem opWordI (i : Nat) (hi : i < 14) : impl_opWord.f ((i : Int) + 3) = some (mkB (wordsL.getD i [])) := by
 unfold impl_opWord.f
 simp only [Option.bind_some]
 rw [inI]
 simp only [Option.bind_some]
 rw [wrap_id (by omega) (by omega), show (i : Int) + 3 - 3 = (i : Int) by omega, if_pos (by simp; omega), if_pos (by omega), if_pos (by simp; omega)]
 have := rdB8 wordsL (i : Int) (by omega) (by simp [wordsL]; omega) []
 rw [List.append_nil, Int.toNat_natCast] at this
 exact congrArg some this
theorem words_ne : ∀ i, i < 14 → ∀ j, j < i → wordsL.getD j [] ≠ wordsL.getD i [] := by decide
theorem opI_hit (i : Nat) (hi : i < 14) (d : Nat) : ∀ j : Nat, j + d = i → Ev (fun k => impl_opOf.l0 k (mkB (wordsL.getD i [])) ((j : Int) + 3)) ((i : Int) + 3, true) := by
 induction d with
 | zero =>
  intro j hj
  obtain rfl : j = i := by omega
  refine ev_succ ?_
  simp only [impl_opOf.l0]
  refine ev_pos (by omega) (ev_bind0 (opWordI j hi) (ev_pos rfl ev_now))
 | succ d ih =>
  intro j hj
  refine ev_succ ?_
  simp only [impl_opOf.l0]
  refine ev_pos (by omega) (ev_bind0 (opWordI j (by omega)) (ev_neg (by rw [mkB_toList, mkB_toList]; exact fun e => words_ne i hi j (by omega) e.symm) ?_))
  rw [wrap_id (by omega) (by omega)]
  have := ih (j + 1) (by omega)
  rw [show ((j + 1 : Nat) : Int) + 3 = (j : Int) + 3 + 1 by omega] at this
  exact this
theorem opI_miss (W : List UInt8) (h : ∀ i < 14, wordsL.getD i [] ≠ W) (d : Nat) : ∀ j : Nat, j + d = 14 → Ev (fun k => impl_opOf.l0 k (mkB W) ((j : Int) + 3)) (0, false) := by
 induction d with
 | zero =>
  intro j hj
  refine ev_succ ?_
  simp only [impl_opOf.l0]
  exact ev_neg (by omega) ev_now
 | succ d ih =>
  intro j hj
  refine ev_succ ?_
  simp only [impl_opOf.l0]
  refine ev_pos (by omega) (ev_bind0 (opWordI j (by omega)) (ev_neg (by rw [mkB_toList, mkB_toList]; exact fun e => h j (by omega) e.symm) ?_))
  rw [wrap_id (by omega) (by omega)]
  have := ih (j + 1) (by omega)
  rw [show ((j + 1 : Nat) : Int) + 3 = (j : Int) + 3 + 1 by omega] at this
  exact this
theorem wordsM : spec_l03Words.f = some (wordsL.map mkB) := rfl
theorem rdW (j : Nat) (h : j < 14) : (rdOf ByteArray.empty (wordsL.map mkB) (j : Int)).toList = wordsL.getD j [] := by
 have := rdB8 wordsL (j : Int) (by omega) (by simp [wordsL]; omega) []
 rw [List.append_nil] at this
 rw [this, mkB_toList, Int.toNat_natCast]
theorem opS_hit (i : Nat) (hi : i < 14) (d : Nat) : ∀ j : Nat, j + d = i → Ev (fun k => spec_l03Op.l0 k (mkB (wordsL.getD i [])) (wordsL.map mkB) (j : Int)) ((i : Int) + 3, 2) := by
 induction d with
 | zero =>
  intro j hj
  obtain rfl : j = i := by omega
  refine ev_succ ?_
  simp only [spec_l03Op.l0]
  rw [rdW j hi, mkB_toList, wrap_id (by omega) (by omega)]
  exact ev_pos (by simp [wordsL]; omega) (ev_pos (by omega) (ev_pos rfl (ev_eq (by rw [Int.add_comm]))))
 | succ d ih =>
  intro j hj
  refine ev_succ ?_
  simp only [spec_l03Op.l0]
  rw [rdW j (by omega), mkB_toList, wrap_id (x := (j : Int) + 1) (by omega) (by omega)]
  exact ev_pos (by simp [wordsL]; omega) (ev_pos (by omega) (ev_neg (words_ne i hi j (by omega)) (ih (j + 1) (by omega))))
theorem opS_miss (W : List UInt8) (h : ∀ i < 14, wordsL.getD i [] ≠ W) (r : Int × Int) (ht : Ev (fun _ => if W = [110, 111, 116] then some ((2 : Int), (1 : Int)) else if W = [115, 108, 105, 99, 101] then some (17, 1) else if W = [105, 102] then some (18, 3) else if W = [97, 108, 108] then some (19, 1) else if W = [115, 111, 109, 101] then some (20, 1) else some (-1, 0)) r) (d : Nat) : ∀ j : Nat, j + d = 14 → Ev (fun k => spec_l03Op.l0 k (mkB W) (wordsL.map mkB) (j : Int)) r := by
 induction d with
 | zero =>
  intro j hj
  refine ev_succ ?_
  simp only [spec_l03Op.l0]
  rw [mkB_toList]
  exact ev_neg (by simp [wordsL]; omega) ht
 | succ d ih =>
  intro j hj
  refine ev_succ ?_
  simp only [spec_l03Op.l0]
  rw [rdW j (by omega), mkB_toList, wrap_id (x := (j : Int) + 1) (by omega) (by omega)]
  exact ev_pos (by simp [wordsL]; omega) (ev_pos (by omega) (ev_neg (h j (by omega)) (ih (j + 1) (by omega))))
/-- An operator's word is read alike. -/
theorem ops (W : List UInt8) : (∃ op cnt : Int, Ev (fun k => impl_opOf.f k (mkB W)) (op, true) ∧ Ev (fun k => spec_l03Op.f k (mkB W)) (op, cnt) ∧ 2 ≤ op ∧ op ≤ 20 ∧ ∀ A B C, ((partsL op A B C).length : Int) = cnt) ∨
  (∃ x : Int, Ev (fun k => impl_opOf.f k (mkB W)) (x, false) ∧ Ev (fun k => spec_l03Op.f k (mkB W)) (-1, 0)) := by
 unfold impl_opOf.f spec_l03Op.f
 rw [mkB_toList, wordsM]
 simp only [Option.bind_some]
 by_cases hw : ∃ i, i < 14 ∧ wordsL.getD i [] = W
 ·obtain ⟨i, hi, rfl⟩ := hw
  left
  refine ⟨(i : Int) + 3, 2, ?_, opS_hit i hi i 0 (by omega), by omega, by omega, fun A B C => ?_⟩
  ·have ne : ∀ V ∈ ([[110, 111, 116], [115, 108, 105, 99, 101], [105, 102], [97, 108, 108], [115, 111, 109, 101]] : List (List UInt8)), ∀ i, i < 14 → wordsL.getD i [] ≠ V := by decide
   refine ev_neg (ne _ (by simp) i hi) (ev_neg (ne _ (by simp) i hi) (ev_neg (ne _ (by simp) i hi) (ev_neg (ne _ (by simp) i hi) (ev_neg (ne _ (by simp) i hi) ?_))))
   have := opI_hit i hi i 0 (by omega)
   exact this
  ·unfold partsL
   rw [if_neg (by omega), if_pos (by omega)]; rfl
 ·have hm : ∀ i < 14, wordsL.getD i [] ≠ W := fun i hi e => hw ⟨i, hi, e⟩
  have S := fun r h => opS_miss W hm r h 14 0 (by omega)
  by_cases h1 : W = [110, 111, 116]
  ·exact .inl ⟨2, 1, ev_pos h1 ev_now, S _ (ev_pos h1 ev_now), by omega, by omega, fun _ _ _ => rfl⟩
  by_cases h2 : W = [115, 108, 105, 99, 101]
  ·exact .inl ⟨17, 1, ev_neg h1 (ev_pos h2 ev_now), S _ (ev_neg h1 (ev_pos h2 ev_now)), by omega, by omega, fun _ _ _ => rfl⟩
  by_cases h3 : W = [105, 102]
  ·exact .inl ⟨18, 3, ev_neg h1 (ev_neg h2 (ev_pos h3 ev_now)), S _ (ev_neg h1 (ev_neg h2 (ev_pos h3 ev_now))), by omega, by omega, fun _ _ _ => rfl⟩
  by_cases h4 : W = [97, 108, 108]
  ·exact .inl ⟨19, 1, ev_neg h1 (ev_neg h2 (ev_neg h3 (ev_pos h4 ev_now))), S _ (ev_neg h1 (ev_neg h2 (ev_neg h3 (ev_pos h4 ev_now)))), by omega, by omega, fun _ _ _ => rfl⟩
  by_cases h5 : W = [115, 111, 109, 101]
  ·exact .inl ⟨20, 1, ev_neg h1 (ev_neg h2 (ev_neg h3 (ev_neg h4 (ev_pos h5 ev_now)))), S _ (ev_neg h1 (ev_neg h2 (ev_neg h3 (ev_neg h4 (ev_pos h5 ev_now))))), by omega, by omega, fun _ _ _ => rfl⟩
  right
  refine ⟨0, ev_neg h1 (ev_neg h2 (ev_neg h3 (ev_neg h4 (ev_neg h5 ?_)))), S _ (ev_neg h1 (ev_neg h2 (ev_neg h3 (ev_neg h4 (ev_neg h5 ev_now)))))⟩
  have := opI_miss W hm 14 0 (by omega)
  exact this
theorem numL_nil : numL [] = none := by unfold numL; rw [if_neg (by simp)]
theorem pairL_nil (sg : Int) : pairL [] sg = none := by unfold pairL; rw [if_neg (fun h => h.1 rfl)]
/-- Where no node opens, the words agree; where one opens, neither is a number or a pair. -/
theorem wd_num (L : List UInt8) (hG : Good L) (a : Nat) (ha : a ≤ L.length) : (wd endI L a = wd endS L a) ∨ (numL (wd endI L a) = none ∧ numL (wd endS L a) = none ∧ pairL (wd endI L a) 118 = none ∧ pairL (wd endS L a) 118 = none) := by
 by_cases h : a < L.length ∧ L.getD a 0 = 40
 ·right
  rw [wd_next endI L a h.1, wd_next endS L a h.1, h.2, if_pos (by decide), if_neg (by decide)]
  refine ⟨numL_nil, ?_, pairL_nil _, ?_⟩
  ·unfold numL
   rw [if_neg (fun h => by have := h.2.1; rw [List.all_cons, Bool.and_eq_true] at this; exact absurd this.1 (by decide))]
  ·unfold pairL
   rw [if_neg (fun h => by have := h.2; rw [List.headD_cons] at this; exact absurd this (by decide))]
 ·left
  exact wd_same L hG (L.length - a) a (by omega) (fun h1 h2 => h ⟨h1, h2⟩)
/-! ### A node is put in; its width; its numbers -/
def OKL (l : List S31) : Prop := NodesOk l ∧ l.length ≤ 80
theorem rd_app (l m : List S31) (p : Int) (h0 : 0 ≤ p) (h1 : p < (l.length : Int)) : rd_T31 (l ++ m) p = rd_T31 l p := by
 unfold rd_T31
 rw [List.getD_eq_getElem?_getD, List.getD_eq_getElem?_getD, List.getElem?_append_left (by omega)]
theorem right_mono {l : List S31} (m : List S31) {op W K A B C : Int} (h : rightB l op W K A B C = true) : rightB (l ++ m) op W K A B C = true := by
 unfold rightB at h ⊢
 simp only [Bool.and_eq_true] at h ⊢
 obtain ⟨⟨⟨h1, h2⟩, h3⟩, h4⟩ := h
 refine ⟨⟨⟨h1, h2⟩, ?_⟩, ?_⟩
 ·refine List.all_eq_true.mpr fun p hp => ?_
  have := inB_iff.mp (List.all_eq_true.mp h3 p hp)
  exact inB_iff.mpr (by simp; omega)
 ·have e : ∀ t, wv (l ++ m) (partsL op A B C) (partsL op A B C).length t = wv l (partsL op A B C) (partsL op A B C).length t := by
   intro t
   unfold wv
   by_cases ht : t < (partsL op A B C).length
   ·rw [if_pos ht, if_pos ht]
    have hr : rd (partsL op A B C) (t : Int) = (partsL op A B C)[t] := rdI _ t ht
    have := inB_iff.mp (List.all_eq_true.mp h3 _ (List.getElem_mem ht))
    rw [hr, rd_app l m _ this.1 (by omega)]
   ·rw [if_neg ht, if_neg ht]
  rw [e, e, e]
  exact h4
theorem first_some (l : List S31) (n : S31) (m : Nat) : ∀ i j : Nat, firstN l n m i = some j → i ≤ j ∧ j < i + m ∧ rd_T31 l (j : Int) = n := by
 induction m with
 | zero => intro i j h; simp [firstN] at h
 | succ m ih =>
  intro i j h
  unfold firstN at h
  split at h
  ·rename_i hs
   obtain rfl := Option.some.inj h
   refine ⟨Nat.le_refl _, by omega, ?_⟩
   unfold sameN at hs
   simp only [Bool.and_eq_true, beq_iff_eq] at hs
   obtain ⟨h0, h1, h2, h3, h4, h5⟩ := hs
   generalize rd_T31 l (i : Int) = x at *
   obtain ⟨x0, x1, x2, x3, x4, x5⟩ := x
   obtain ⟨n0, n1, n2, n3, n4, n5⟩ := n
   simp only [] at h0 h1 h2 h3 h4 h5
   subst h0 h1 h2 h3 h4 h5
   rfl
  ·have := ih (i + 1) j h
   exact ⟨by omega, by omega, this.2.2⟩
theorem nodes_snoc {l : List S31} (h : NodesOk l) (n : S31) (hn : rightB l n.f0 n.f1 n.f2 n.f3 n.f4 n.f5 = true) : NodesOk (l ++ [n]) := by
 intro i hi
 rw [List.length_append] at hi
 simp only [List.length_cons, List.length_nil] at hi
 unfold nodeB
 by_cases h1 : i < l.length
 ·have := h i h1
  unfold nodeB at this
  rw [rd_app l [n] (i : Int) (by omega) (by omega), List.take_append_of_le_length (by omega)]
  exact this
 ·obtain rfl : i = l.length := by omega
  have e : rd_T31 (l ++ [n]) ((l.length : Nat) : Int) = n := by unfold rd_T31; simp
  rw [e, List.take_left']
  ·exact hn
  ·rfl
theorem put_ev (l : List S31) (hO : OKL l) (n : S31) (frm : Int) :
  (∃ (p : Nat) (l' : List S31), putsF l 0 0 n frm = (((p : Int), true), l', 0, 0) ∧ Ev (fun k => cputF k l n frm) ((p : Int), l', 0, 0) ∧ p < l'.length ∧ OKL l' ∧ (∃ m, l' = l ++ m) ∧ (l' = l ∨ l'.length = p + 1) ∧ rd_T31 l' (p : Int) = n) ∨
  (∃ c b : Int, c ≠ 0 ∧ putsF l 0 0 n frm = ((0, false), l, c, b) ∧ Ev (fun k => cputF k l n frm) (0, l, c, b)) := by
 unfold putsF cputF
 have hev := node_ev (l ++ [n]) (by have := hO.2; simp; omega) l.length (by simp)
 have e : rd_T31 (l ++ [n]) ((l.length : Nat) : Int) = n := by unfold rd_T31; simp
 rw [e, List.take_left' rfl] at hev
 cases hf : firstN l n l.length 0 with
 | some i =>
  left
  obtain ⟨_, h1, h2⟩ := first_some l n _ _ _ hf
  rw [Nat.zero_add] at h1
  have hr : rightB l n.f0 n.f1 n.f2 n.f3 n.f4 n.f5 = true := by
   have := hO.1 i h1
   unfold nodeB at this
   rw [h2] at this
   have := right_mono (l.drop i) this
   rwa [List.take_append_drop] at this
  exact ⟨i, l, by rw [if_pos hr], ev_now, h1, hO, ⟨[], by simp⟩, .inl rfl, h2⟩
 | none =>
  by_cases hr : rightB l n.f0 n.f1 n.f2 n.f3 n.f4 n.f5 = true
  ·by_cases h80 : l.length = 80
   ·right
    exact ⟨4, frm, by decide, by rw [if_pos hr]; simp only []; rw [if_pos h80], ev_bind hev (ev_pos hr (ev_pos h80 ev_now))⟩
   ·left
    refine ⟨l.length, l ++ [n], by rw [if_pos hr]; simp only []; rw [if_neg h80], ev_bind hev (ev_pos hr (ev_neg h80 ev_now)), by simp, ⟨nodes_snoc hO.1 n hr, by have := hO.2; simp; omega⟩, ⟨[n], rfl⟩, .inr (by simp), e⟩
  ·right
   exact ⟨3, frm, by decide, by rw [if_neg hr], ev_bind hev (ev_neg hr ev_now)⟩
theorem width_ev (s : ByteArray) (a c b : Int) (l : List S31) (op W W' K A B B' C : Int) (h0 : 2 ≤ op) (h1 : op ≤ 20) (hA : 0 ≤ A ∧ A < (l.length : Int)) (hB : op = 16 ∨ op = 18 → B' = B ∧ 0 ≤ B ∧ B < (l.length : Int)) (hW : op = 17 → W' = W) (hQ : op = 19 ∨ op = 20 → W' = 1) :
  ∃ wd, Ev (fun k => impl_termReader_width.f k s a l c b op W K A B C) (wd, s, a, c, b) ∧ cwidF l op W' A B' = some wd := by
 unfold impl_termReader_width.f cwidF
 rw [inI, isqI]
 simp only [Option.bind_some]
 have hj : ∀ (q : Bool) (r : Int), (q = true → r = 1) → (q = false → (op = 16 → r = wrap64 ((rd_T31 l A).f1 + (rd_T31 l B).f1)) ∧ (op = 18 → r = (rd_T31 l B).f1) ∧ (op ≠ 16 → op ≠ 18 → r = (rd_T31 l A).f1)) → Ev (fun k => impl_termReader_width.j0 k q s a l c b op W K A B C) (r, s, a, c, b) := by
  intro q r hq1 hq2
  refine ev_succ ?_
  simp only [impl_termReader_width.j0]
  cases q with
  | true => exact ev_pos rfl (ev_eq (by rw [hq1 rfl]))
  | false =>
   obtain ⟨e1, e2, e3⟩ := hq2 rfl
   refine ev_neg (by decide) ?_
   by_cases o16 : op = 16
   ·have := hB (.inl o16)
    exact ev_pos o16 (ev_pos hA.1 (ev_pos hA.2 (ev_pos this.2.1 (ev_pos this.2.2 (ev_eq (by rw [e1 o16]))))))
   ·refine ev_neg o16 ?_
    by_cases o18 : op = 18
    ·have := hB (.inr o18)
     exact ev_pos o18 (ev_pos this.2.1 (ev_pos this.2.2 (ev_eq (by rw [e2 o18]))))
    ·exact ev_neg o18 (ev_pos hA.1 (ev_pos hA.2 (ev_eq (by rw [e3 o16 o18]))))
 by_cases o17 : op = 17
 ·exact ⟨W, ev_pos o17 ev_now, by rw [if_pos (.inl o17), hW o17]⟩
 by_cases oq : op = 19 ∨ op = 20
 ·refine ⟨1, ev_neg o17 (ev_neg (by simp; omega) (hj _ 1 (fun _ => rfl) (fun h => ?_))), by rw [if_pos (by omega), hQ oq]⟩
  rcases oq with rfl | rfl <;> exact absurd h (by decide)
 have qf : ((op == 19) || (op == 20)) = false := by simp; omega
 by_cases o13 : 13 ≤ op ∧ op ≤ 15
 ·exact ⟨1, ev_neg o17 (ev_pos (by simp; exact o13) (hj true 1 (fun _ => rfl) (fun h => absurd h (by decide)))), by rw [if_neg (by omega), if_pos o13]⟩
 rw [qf]
 by_cases o16 : op = 16
 ·have := hB (.inl o16)
  refine ⟨_, ev_neg o17 (ev_neg (by simp; omega) (hj false (wrap64 ((rd_T31 l A).f1 + (rd_T31 l B).f1)) (fun h => absurd h (by decide)) (fun _ => ⟨fun _ => rfl, fun h => by omega, fun h => absurd o16 h⟩))), ?_⟩
  rw [if_neg (by omega), if_neg (by omega), if_pos o16, this.1, if_pos ⟨hA.1, hA.2, this.2.1, this.2.2⟩]
 by_cases o18 : op = 18
 ·have := hB (.inr o18)
  refine ⟨_, ev_neg o17 (ev_neg (by simp; omega) (hj false (rd_T31 l B).f1 (fun h => absurd h (by decide)) (fun _ => ⟨fun h => by omega, fun _ => rfl, fun _ h => absurd o18 h⟩))), ?_⟩
  rw [if_neg (by omega), if_neg (by omega), if_neg o16, if_pos o18, this.1, if_pos ⟨this.2.1, this.2.2⟩]
 ·refine ⟨_, ev_neg o17 (ev_neg (by simp; omega) (hj false (rd_T31 l A).f1 (fun h => absurd h (by decide)) (fun _ => ⟨fun h => absurd h o16, fun h => absurd h o18, fun _ _ => rfl⟩))), ?_⟩
  rw [if_neg (by omega), if_neg (by omega), if_neg o16, if_neg o18, if_pos hA]
theorem nums_ev (L : List UInt8) (hL : L.length ≤ 4000) (hG : Good L) (l : List S31) (op : Int) (a : Nat) (ha : a ≤ L.length) :
  (∃ (e : Nat) (K B W W' : Int), a ≤ e ∧ e ≤ L.length ∧ Ev (fun k => numbersF k (mkB L) (a : Int) l 0 0 ⟨op, 0, 0, 0, 0, 0⟩) (true, (e : Int), ⟨op, W', K, 0, B, 0⟩) ∧
   (∃ a2 K1 W1, Ev (fun k => csliceF k (mkB L) (a : Int) l op) (true, a2, K1, W1) ∧ Ev (fun k => cquantF k (mkB L) a2 l op K1 W1) (true, (e : Int), K, B, W)) ∧ (op = 17 → W = W') ∧ (op = 19 ∨ op = 20 → W = 1) ∧ (¬ (op = 19 ∨ op = 20) → B = 0)) ∨
  (∃ x n', Ev (fun k => numbersF k (mkB L) (a : Int) l 0 0 ⟨op, 0, 0, 0, 0, 0⟩) (false, x, n') ∧ ((∃ y, Ev (fun k => csliceF k (mkB L) (a : Int) l op) (false, y, 0, 0)) ∨ ∃ a2 K1 W1, Ev (fun k => csliceF k (mkB L) (a : Int) l op) (true, a2, K1, W1) ∧ ∃ y, Ev (fun k => cquantF k (mkB L) a2 l op K1 W1) (false, y, 0, 0, 0))) := by
 unfold numbersF csliceF
 simp only []
 rw [goesL L hL a ha, blankL L hL a ha]
 simp only [Option.bind_some]
 have wl : ∀ e b, b ≤ L.length → (wd e L b).length ≤ 4000 := fun e b hb => by have := wd_len e L b hb; omega
 have qn : ¬ (op = 19 ∨ op = 20) → ∀ (a2 K1 W1 : Int), Ev (fun k => cquantF k (mkB L) a2 l op K1 W1) (true, a2, K1, 0, W1) := by
  intro hq a2 K1 W1
  unfold cquantF
  rw [isqS]
  simp only [Option.bind_some]
  exact ev_neg (by simp; omega) ev_now
 by_cases o17 : op = 17
 ·have hq : ¬ (op = 19 ∨ op = 20) := by omega
  cases hb : isB L a 32 with
  | false =>
   right
   exact ⟨_, _, ev_pos o17 (ev_neg (by decide) ev_now), .inl ⟨_, ev_pos o17 (ev_neg (by decide) ev_now)⟩⟩
  | true =>
   have ha1 : a + 1 ≤ L.length := by unfold isB at hb; simp at hb; omega
   simp only [if_true]
   have w1 := wordI L hL l 0 0 (a + 1) ha1; have w2 := wordS L hL l (a + 1) ha1
   have n1 := numI (wd endI L (a + 1)) (wl _ _ ha1); have n2 := numS (wd endS L (a + 1)) (wl _ _ ha1)
   rcases wd_num L hG (a + 1) ha1 with he | ⟨he1, he2, _, _⟩
   ·rw [← he] at w2 n2
    have hle := wd_len endI L (a + 1) ha1
    generalize wd endI L (a + 1) = V at *
    cases hv : numL V with
    | none =>
     rw [hv] at n1 n2
     right
     exact ⟨_, _, ev_pos o17 (ev_bind w1 (ev_bind n1 (ev_neg (by decide) ev_now))), .inl ⟨_, ev_pos o17 (ev_bind w2 (ev_bind n2 (ev_pos (show (-1 : Int) < 0 by decide) ev_now)))⟩⟩
    | some v =>
     rw [hv] at n1 n2
     have hv0 := numL_nonneg hv
     have g1 := goesL L hL (a + 1 + V.length) hle l 0 0 32; have g2 := blankL L hL (a + 1 + V.length) hle l
     cases hc : isB L (a + 1 + V.length) 32 with
     | false =>
      rw [hc] at g1 g2
      right
      exact ⟨_, _, ev_pos o17 (ev_bind w1 (ev_bind n1 (ev_pos rfl (ev_bind0 g1 (ev_neg (by simp) ev_now))))), .inl ⟨_, ev_pos o17 (ev_bind w2 (ev_bind n2 (ev_neg (show ¬ (v < 0) by omega) (ev_bind0 g2 (ev_neg (by simp) ev_now)))))⟩⟩
     | true =>
      rw [hc] at g1 g2
      have ha2 : a + 1 + V.length + 1 ≤ L.length := by unfold isB at hc; simp at hc; omega
      have ha3 : a ≤ a + 1 + V.length := by omega
      generalize a + 1 + V.length = a3 at *
      simp only [if_true] at g1 g2
      have w3 := wordI L hL l 0 0 (a3 + 1) ha2; have w4 := wordS L hL l (a3 + 1) ha2
      have n3 := numI (wd endI L (a3 + 1)) (wl _ _ ha2); have n4 := numS (wd endS L (a3 + 1)) (wl _ _ ha2)
      rcases wd_num L hG (a3 + 1) ha2 with he3 | ⟨he1, he2, _, _⟩
      ·rw [← he3] at w4 n4
       have hle2 := wd_len endI L (a3 + 1) ha2
       generalize wd endI L (a3 + 1) = V2 at *
       cases hv2 : numL V2 with
       | none =>
        rw [hv2] at n3 n4
        right
        exact ⟨_, _, ev_pos o17 (ev_bind w1 (ev_bind n1 (ev_pos rfl (ev_bind0 g1 (ev_pos rfl (ev_bind w3 (ev_bind n3 ev_now))))))), .inl ⟨_, ev_pos o17 (ev_bind w2 (ev_bind n2 (ev_neg (show ¬ (v < 0) by omega) (ev_bind0 g2 (ev_pos rfl (ev_bind w4 (ev_bind n4 (ev_pos (show (-1 : Int) < 0 by decide) ev_now))))))))⟩⟩
       | some v2 =>
        rw [hv2] at n3 n4
        have hv20 := numL_nonneg hv2
        left
        exact ⟨a3 + 1 + V2.length, v, 0, v2, v2, by omega, hle2, ev_pos o17 (ev_bind w1 (ev_bind n1 (ev_pos rfl (ev_bind0 g1 (ev_pos rfl (ev_bind w3 (ev_bind n3 ev_now))))))), ⟨_, _, _, ev_pos o17 (ev_bind w2 (ev_bind n2 (ev_neg (show ¬ (v < 0) by omega) (ev_bind0 g2 (ev_pos rfl (ev_bind w4 (ev_bind n4 (ev_neg (show ¬ (v2 < 0) by omega) ev_now)))))))), qn hq _ _ _⟩, fun _ => rfl, fun h => absurd h hq, fun _ => rfl⟩
      ·rw [he1] at n3
       rw [he2] at n4
       right
       exact ⟨_, _, ev_pos o17 (ev_bind w1 (ev_bind n1 (ev_pos rfl (ev_bind0 g1 (ev_pos rfl (ev_bind w3 (ev_bind n3 ev_now))))))), .inl ⟨_, ev_pos o17 (ev_bind w2 (ev_bind n2 (ev_neg (show ¬ (v < 0) by omega) (ev_bind0 g2 (ev_pos rfl (ev_bind w4 (ev_bind n4 (ev_pos (show (-1 : Int) < 0 by decide) ev_now))))))))⟩⟩
   ·rw [he1] at n1
    rw [he2] at n2
    right
    exact ⟨_, _, ev_pos o17 (ev_bind w1 (ev_bind n1 (ev_neg (by decide) ev_now))), .inl ⟨_, ev_pos o17 (ev_bind w2 (ev_bind n2 (ev_pos (show (-1 : Int) < 0 by decide) ev_now)))⟩⟩
 by_cases oq : op = 19 ∨ op = 20
 ·have sl : Ev (fun k => if op = 17 then (if isB L a 32 = true then (cwF k (mkB L) ((if isB L a 32 = true then a + 1 else a : Nat) : Int) l).bind fun w => (spec_l03Num.f k w.1).bind fun x => (if x < 0 then some (false, w.2, (0 : Int), (0 : Int)) else (cbF (mkB L) w.2 l).bind fun b2 => if b2.1 = true then (cwF k (mkB L) b2.2 l).bind fun w2 => (spec_l03Num.f k w2.1).bind fun y => (if y < 0 then some (false, w2.2, 0, 0) else some (true, w2.2, x, y)) else some (false, b2.2, 0, 0)) else some (false, ((if isB L a 32 = true then a + 1 else a : Nat) : Int), 0, 0)) else some (true, (a : Int), 0, 0)) (true, (a : Int), 0, 0) := ev_neg o17 ev_now
  have cq : ∀ r, Ev (fun k => if isB L a 32 = true then (cwF k (mkB L) ((if isB L a 32 = true then a + 1 else a : Nat) : Int) l).bind fun w => (spec_l03Two.f k w.1 118).bind fun t => (if t.1 < 0 then some (false, w.2, (0 : Int), (0 : Int), (0 : Int)) else some (true, w.2, t.1, t.2, 1)) else some (false, ((if isB L a 32 = true then a + 1 else a : Nat) : Int), 0, 0, 0)) r → Ev (fun k => cquantF k (mkB L) (a : Int) l op 0 0) r := by
   intro r h
   unfold cquantF
   rw [isqS, blankL L hL a ha]
   simp only [Option.bind_some]
   exact ev_pos (by simpa using oq) h
  cases hb : isB L a 32 with
  | false =>
   rw [hb] at cq sl
   right
   exact ⟨_, _, ev_neg o17 (ev_pos oq (ev_neg (by decide) ev_now)), .inr ⟨_, _, _, sl, _, cq _ (ev_neg (by decide) ev_now)⟩⟩
  | true =>
   rw [hb] at cq sl
   have ha1 : a + 1 ≤ L.length := by unfold isB at hb; simp at hb; omega
   simp only [if_true] at cq sl ⊢
   have w1 := wordI L hL l 0 0 (a + 1) ha1; have w2 := wordS L hL l (a + 1) ha1
   obtain ⟨x, y, n1, hn1⟩ := pairI (wd endI L (a + 1)) (wl _ _ ha1) 118
   have n2 := pairS (wd endS L (a + 1)) (wl _ _ ha1) 118
   rcases wd_num L hG (a + 1) ha1 with he | ⟨_, _, he1, he2⟩
   ·rw [← he] at w2 n2
    have hle := wd_len endI L (a + 1) ha1
    generalize wd endI L (a + 1) = V at *
    cases hv : pairL V 118 with
    | none =>
     rw [hv] at n1 n2
     right
     exact ⟨_, _, ev_neg o17 (ev_pos oq (ev_bind w1 (ev_bind n1 ev_now))), .inr ⟨_, _, _, sl, _, cq _ (ev_bind w2 (ev_bind n2 (ev_pos (show (-1 : Int) < 0 by decide) ev_now)))⟩⟩
    | some r =>
     obtain ⟨v, u⟩ := r
     rw [hv] at n1 n2
     have hv0 := pairL_nonneg hv
     obtain ⟨rfl, rfl⟩ := hn1 v u hv
     left
     exact ⟨a + 1 + V.length, x, y, 1, 0, by omega, hle, ev_neg o17 (ev_pos oq (ev_bind w1 (ev_bind n1 ev_now))), ⟨_, _, _, sl, cq _ (ev_bind w2 (ev_bind n2 (ev_neg (show ¬ (x < 0) by omega) ev_now)))⟩, fun h => absurd h o17, fun _ => rfl, fun h => absurd oq h⟩
   ·rw [he1] at n1
    rw [he2] at n2
    right
    exact ⟨_, _, ev_neg o17 (ev_pos oq (ev_bind w1 (ev_bind n1 ev_now))), .inr ⟨_, _, _, sl, _, cq _ (ev_bind w2 (ev_bind n2 (ev_pos (show (-1 : Int) < 0 by decide) ev_now)))⟩⟩
 ·left
  exact ⟨a, 0, 0, 0, 0, Nat.le_refl _, ha, ev_neg o17 (ev_neg oq ev_now), ⟨_, _, _, ev_neg o17 ev_now, qn oq _ _ _⟩, fun h => absurd h o17, fun h => absurd h oq, fun _ => rfl⟩
/-! ### Both readers read alike -/
/-- What is read from a place on, by both. -/
def Reads (VI : Nat → RdV) (VS : Nat → CdV) (L : List UInt8) (a : Nat) (l : List S31) : Prop :=
 (∃ (p a' : Nat) (l' : List S31), Ev (fun k => VI k (a : Int) l 0 0) (((p : Int), true), (a' : Int), l', 0, 0) ∧ Ev (fun k => VS k (a : Int) l) ((p : Int), (a' : Int), l', 0, 0) ∧ a ≤ a' ∧ a' ≤ L.length ∧ p < l'.length ∧ OKL l' ∧ (∃ m, l' = l ++ m) ∧ (l'.length ≤ l.length ∨ l'.length ≤ p + 1)) ∨
 (∃ (p1 a1 : Int) (l1 : List S31) (p2 a2 : Int) (l2 : List S31) (c b : Int), c ≠ 0 ∧ Ev (fun k => VI k (a : Int) l 0 0) ((p1, false), a1, l1, c, b) ∧ Ev (fun k => VS k (a : Int) l) (p2, a2, l2, c, b))
theorem kids_ev (L : List UInt8) (hL : L.length ≤ 4000) (VI : Nat → RdV) (VS : Nat → CdV) (frm : Int) (a0 : Nat) (hV : ∀ (b : Nat) (l : List S31), a0 ≤ b → b ≤ L.length → OKL l → Reads VI VS L b l) (m : Nat) : ∀ (a : Nat) (l : List S31) (acc : List Int), a0 ≤ a → a ≤ L.length → OKL l →
  (∃ (ps : List Int) (a' : Nat) (l' : List S31), Ev (fun k => kidsF (VI k) (mkB L) frm m (a : Int) l 0 0 acc) (true, acc ++ ps, (a' : Int), l', 0, 0) ∧ Ev (fun k => ckidsF (VS k) (mkB L) frm m (a : Int) l acc) (true, acc ++ ps, (a' : Int), l', 0, 0) ∧ ps.length = m ∧ a ≤ a' ∧ a' ≤ L.length ∧ OKL l' ∧ (∃ m, l' = l ++ m) ∧ (∀ p ∈ ps, 0 ≤ p ∧ p < (l'.length : Int)) ∧ (l'.length ≤ l.length ∨ ∃ p ∈ ps, (l'.length : Int) ≤ p + 1)) ∨
  (∃ (q1 : List Int) (q2 : Int) (q3 : List S31) (q4 : List Int) (q5 : Int) (q6 : List S31) (c b : Int), c ≠ 0 ∧ Ev (fun k => kidsF (VI k) (mkB L) frm m (a : Int) l 0 0 acc) (false, q1, q2, q3, c, b) ∧ Ev (fun k => ckidsF (VS k) (mkB L) frm m (a : Int) l acc) (false, q4, q5, q6, c, b)) := by
 induction m with
 | zero =>
  intro a l acc h0 h1 hO
  left
  refine ⟨[], a, l, ?_, ?_, rfl, Nat.le_refl _, h1, hO, ⟨[], by simp⟩, fun p hp => (by cases hp), .inl (Nat.le_refl _)⟩
  ·rw [List.append_nil]; exact ev_now
  ·rw [List.append_nil]; exact ev_now
 | succ m ih =>
  intro a l acc h0 h1 hO
  have g1 := goesL L hL a h1 l 0 0 32; have g2 := blankL L hL a h1 l
  simp only [kidsF, ckidsF]
  cases hb : isB L a 32 with
  | false =>
   rw [hb] at g1 g2
   right
   exact ⟨_, _, _, _, _, _, 2, frm, by decide, ev_bind0 g1 (ev_neg (by simp) ev_now), ev_bind0 g2 (ev_neg (by simp) ev_now)⟩
  | true =>
   rw [hb] at g1 g2
   have ha1 : a + 1 ≤ L.length := by unfold isB at hb; simp at hb; omega
   simp only [if_true] at g1 g2
   rcases hV (a + 1) l (by omega) ha1 hO with ⟨p, a', l', e1, e2, h3, h4, h5, hO', ⟨m1, hm1⟩, h6⟩ | ⟨p1, a1, l1, p2, a2, l2, c, b, hc, e1, e2⟩
   ·rcases ih a' l' (acc ++ [(p : Int)]) (by omega) h4 hO' with ⟨ps, a'', l'', f1, f2, k1, k2, k3, k4, ⟨m2, hm2⟩, k5, k6⟩ | ⟨q1, q2, q3, q4, q5, q6, c, b, hc, f1, f2⟩
    ·left
     rw [List.append_assoc] at f1 f2
     have hlen : l'.length ≤ l''.length := by rw [hm2]; simp
     refine ⟨(p : Int) :: ps, a'', l'', ev_bind0 g1 (ev_pos rfl (ev_bind e1 (ev_pos rfl f1))), ev_bind0 g2 (ev_pos rfl (ev_bind e2 (ev_pos rfl (ev_pos rfl f2)))), by simp [k1], by omega, k3, k4, ⟨m1 ++ m2, by rw [hm2, hm1, List.append_assoc]⟩, ?_, ?_⟩
     ·intro q hq
      rcases List.mem_cons.mp hq with rfl | hq
      ·omega
      ·exact k5 q hq
     ·rcases k6 with k6 | ⟨q, hq, k6⟩
      ·rcases h6 with h6 | h6
       ·exact .inl (by omega)
       ·exact .inr ⟨(p : Int), List.mem_cons_self, by omega⟩
      ·exact .inr ⟨q, List.mem_cons_of_mem _ hq, k6⟩
    ·right
     exact ⟨q1, q2, q3, q4, q5, q6, c, b, hc, ev_bind0 g1 (ev_pos rfl (ev_bind e1 (ev_pos rfl f1))), ev_bind0 g2 (ev_pos rfl (ev_bind e2 (ev_pos rfl (ev_pos rfl f2))))⟩
   ·right
    exact ⟨_, _, _, _, _, _, c, b, hc, ev_bind0 g1 (ev_pos rfl (ev_bind e1 (ev_neg (by simp) ev_now))), ev_bind0 g2 (ev_pos rfl (ev_bind e2 (ev_neg hc ev_now)))⟩
theorem leaf_ev (L : List UInt8) (hL : L.length ≤ 4000) (hG : Good L) (a : Nat) (ha : a ≤ L.length) (h40 : isB L a 40 = false) (l : List S31) (hO : OKL l) :
  Reads (fun k => fun x m _ _ => leafF (k + 1) (mkB L) x m 0 0 x) (fun k => fun x m => cleafF (k + 1) (mkB L) x m) L a l := by
 unfold Reads
 dsimp only
 have hs := wd_same L hG (L.length - a) a (by omega) (fun h1 h2 => by unfold isB at h40; rw [h2] at h40; simp at h40; omega)
 have w1 := ev_shift (wordI L hL l 0 0 a ha); have w2 := ev_shift (wordS L hL l a ha)
 have hle := wd_len endI L a ha
 rw [← hs] at w2
 have hwl : (wd endI L a).length ≤ 4000 := by omega
 generalize wd endI L a = V at *
 obtain ⟨x1, y1, n1, hn1⟩ := pairI V hwl 35
 have n2 := ev_shift (pairS V hwl 35)
 have n1 := ev_shift n1
 have done : ∀ n : S31, (∃ (p a' : Nat) (l' : List S31), Ev (fun k => some (putR l 0 0 n (a : Int) ((a + V.length : Nat) : Int))) (((p : Int), true), (a' : Int), l', 0, 0) ∧ Ev (fun k => (cputF (k + 1) l n (a : Int)).map fun q => (q.1, (((a + V.length : Nat) : Int)), q.2)) ((p : Int), (a' : Int), l', 0, 0) ∧ a ≤ a' ∧ a' ≤ L.length ∧ p < l'.length ∧ OKL l' ∧ (∃ m, l' = l ++ m) ∧ (l'.length ≤ l.length ∨ l'.length ≤ p + 1)) ∨
   (∃ (p1 a1 : Int) (l1 : List S31) (p2 a2 : Int) (l2 : List S31) (c b : Int), c ≠ 0 ∧ Ev (fun k => some (putR l 0 0 n (a : Int) ((a + V.length : Nat) : Int))) ((p1, false), a1, l1, c, b) ∧ Ev (fun k => (cputF (k + 1) l n (a : Int)).map fun q => (q.1, (((a + V.length : Nat) : Int)), q.2)) (p2, a2, l2, c, b)) := by
  intro n
  rcases put_ev l hO n (a : Int) with ⟨p, l', e1, e2, h1, h2, h3, h4, h5⟩ | ⟨c, b, hc, e1, e2⟩
  ·left
   refine ⟨p, a + V.length, l', ev_eq (by unfold putR; rw [e1]), ?_, by omega, hle, h1, h2, h3, ?_⟩
   ·obtain ⟨K, hK⟩ := ev_shift e2
    exact ⟨K, fun k hk => by have := hK k hk; dsimp only at this ⊢; rw [this]; rfl⟩
   ·rcases h4 with rfl | h4
    ·exact .inl (Nat.le_refl _)
    ·exact .inr (by omega)
  ·right
   refine ⟨0, ((a + V.length : Nat) : Int), l, 0, ((a + V.length : Nat) : Int), l, c, b, hc, ev_eq (by unfold putR; rw [e1]), ?_⟩
   obtain ⟨K, hK⟩ := ev_shift e2
   exact ⟨K, fun k hk => by have := hK k hk; dsimp only at this ⊢; rw [this]; rfl⟩
 unfold leafF cleafF
 cases hv : pairL V 35 with
 | some r =>
  obtain ⟨v, u⟩ := r
  rw [hv] at n1 n2
  have hv0 := pairL_nonneg hv
  obtain ⟨rfl, rfl⟩ := hn1 v u hv
  rcases done ⟨0, x1, y1, 0, 0, 0⟩ with ⟨p, a', l', e1, e2, h⟩ | ⟨p1, a1, l1, p2, a2, l2, c, b, hc, e1, e2⟩
  ·exact .inl ⟨p, a', l', ev_bind w1 (ev_bind n1 (ev_pos rfl e1)), ev_bind w2 (ev_bind n2 (ev_pos (show x1 ≥ 0 by omega) e2)), h⟩
  ·exact .inr ⟨p1, a1, l1, p2, a2, l2, c, b, hc, ev_bind w1 (ev_bind n1 (ev_pos rfl e1)), ev_bind w2 (ev_bind n2 (ev_pos (show x1 ≥ 0 by omega) e2))⟩
 | none =>
  rw [hv] at n1 n2
  obtain ⟨x3, y3, n3, hn3⟩ := pairI V hwl 118
  have n4 := ev_shift (pairS V hwl 118)
  have n3 := ev_shift n3
  cases hv3 : pairL V 118 with
  | some r =>
   obtain ⟨v, u⟩ := r
   rw [hv3] at n3 n4
   have hv0 := pairL_nonneg hv3
   obtain ⟨rfl, rfl⟩ := hn3 v u hv3
   rcases done ⟨1, y3, x3, 0, 0, 0⟩ with ⟨p, a', l', e1, e2, h⟩ | ⟨p1, a1, l1, p2, a2, l2, c, b, hc, e1, e2⟩
   ·exact .inl ⟨p, a', l', ev_bind w1 (ev_bind n1 (ev_neg (by simp) (ev_bind n3 (ev_pos rfl e1)))), ev_bind w2 (ev_bind n2 (ev_neg (show ¬ ((-1 : Int) ≥ 0) by decide) (ev_bind n4 (ev_pos (show x3 ≥ 0 by omega) e2)))), h⟩
   ·exact .inr ⟨p1, a1, l1, p2, a2, l2, c, b, hc, ev_bind w1 (ev_bind n1 (ev_neg (by simp) (ev_bind n3 (ev_pos rfl e1)))), ev_bind w2 (ev_bind n2 (ev_neg (show ¬ ((-1 : Int) ≥ 0) by decide) (ev_bind n4 (ev_pos (show x3 ≥ 0 by omega) e2))))⟩
  | none =>
   rw [hv3] at n3 n4
   exact .inr ⟨0, _, l, 0, _, l, 2, (a : Int), by decide, ev_bind w1 (ev_bind n1 (ev_neg (by simp) (ev_bind n3 (ev_neg (by simp) ev_now)))), ev_bind w2 (ev_bind n2 (ev_neg (show ¬ ((-1 : Int) ≥ 0) by decide) (ev_bind n4 (ev_neg (show ¬ ((-1 : Int) ≥ 0) by decide) ev_now))))⟩
theorem parts_cnt {op : Int} (h0 : 2 ≤ op) (h1 : op ≤ 20) {cnt : Int} (h : ∀ A B C, ((partsL op A B C).length : Int) = cnt) :
  (op = 2 ∨ op = 17 ∨ op = 19 ∨ op = 20) ∧ cnt = 1 ∨ (3 ≤ op ∧ op ≤ 16) ∧ cnt = 2 ∨ op = 18 ∧ cnt = 3 := by
 have := h 0 0 0
 unfold partsL at this
 split at this
 ·exact .inl ⟨by assumption, by simpa using this.symm⟩
 ·split at this
  ·exact .inr (.inl ⟨by assumption, by simpa using this.symm⟩)
  ·split at this
   ·exact .inr (.inr ⟨by assumption, by simpa using this.symm⟩)
   ·omega
theorem inner_ev (L : List UInt8) (hL : L.length ≤ 4000) (hG : Good L) (VI : Nat → RdV) (VS : Nat → CdV) (a : Nat) (ha : a ≤ L.length) (h40 : isB L a 40 = true) (l : List S31) (hO : OKL l) (hV : ∀ (b : Nat) (l : List S31), a + 1 ≤ b → b ≤ L.length → OKL l → Reads VI VS L b l) :
  Reads (fun k => fun x m _ _ => innerF (k + 1) (VI k) (mkB L) (x + 1) m 0 0 x) (fun k => fun x m => cinnerF (k + 1) (VS k) (mkB L) m x) L a l := by
 unfold Reads
 dsimp only
 have h41 : a < L.length ∧ L.getD a 0 = 40 := by
  unfold isB at h40
  simp only [decide_eq_true_eq] at h40
  exact ⟨h40.1, UInt8.toNat_inj.mp (by show (L.getD a 0).toNat = 40; omega)⟩
 have ha1 : a + 1 ≤ L.length := by omega
 have hs := wd_same L hG (L.length - (a + 1)) (a + 1) (by omega) (fun h1 h2 => by
  rcases hG (a + 1) h1 h2 with h | h
  ·omega
  ·rw [Nat.add_sub_cancel, h41.2] at h; exact absurd h (by decide))
 have w1 := ev_shift (wordI L hL l 0 0 (a + 1) ha1); have w2 := ev_shift (wordS L hL l (a + 1) ha1)
 have hle := wd_len endI L (a + 1) ha1
 rw [← hs] at w2
 have e1 : wrap64 ((a : Int) + 1) = ((a + 1 : Nat) : Int) := by rw [wrap_id (by omega) (by omega)]; omega
 have e2 : ((a : Int) + 1) = ((a + 1 : Nat) : Int) := by omega
 unfold innerF cinnerF
 rw [e1, e2]
 have hops := ops (wd endI L (a + 1))
 generalize wd endI L (a + 1) = V at *
 have fails : ∀ (p1 a1 : Int) (l1 : List S31) (p2 a2 : Int) (l2 : List S31) (c b : Int) (F1 : Nat → Option ((Int × Bool) × Int × List S31 × Int × Int)) (F2 : Nat → Option (Int × Int × List S31 × Int × Int)), c ≠ 0 → Ev F1 ((p1, false), a1, l1, c, b) → Ev F2 (p2, a2, l2, c, b) → ((∃ (p a' : Nat) (l' : List S31), Ev F1 (((p : Int), true), (a' : Int), l', 0, 0) ∧ Ev F2 ((p : Int), (a' : Int), l', 0, 0) ∧ a ≤ a' ∧ a' ≤ L.length ∧ p < l'.length ∧ OKL l' ∧ (∃ m, l' = l ++ m) ∧ (l'.length ≤ l.length ∨ l'.length ≤ p + 1)) ∨
   (∃ (p1 a1 : Int) (l1 : List S31) (p2 a2 : Int) (l2 : List S31) (c b : Int), c ≠ 0 ∧ Ev F1 ((p1, false), a1, l1, c, b) ∧ Ev F2 (p2, a2, l2, c, b))) := fun p1 a1 l1 p2 a2 l2 c b F1 F2 hc x y => .inr ⟨p1, a1, l1, p2, a2, l2, c, b, hc, x, y⟩
 rcases hops with ⟨op, cnt, o1, o2, hop0, hop1, hcnt⟩ | ⟨x, o1, o2⟩
 rotate_left
 ·exact fails _ _ _ _ _ _ 2 (a : Int) _ _ (by decide) (ev_bind w1 (ev_bind (ev_shift o1) (ev_neg (by simp) ev_now))) (ev_bind w2 (ev_bind (ev_shift o2) (ev_pos (show (-1 : Int) < 0 by decide) ev_now)))
 have o1 := ev_shift o1; have o2 := ev_shift o2
 have hcn := parts_cnt hop0 hop1 hcnt
 rcases nums_ev L hL hG l op (a + 1 + V.length) hle with ⟨e, K, B, W, W', k1, k2, n1, ⟨a2, K1, W1, n2, n3⟩, hW, hQ, hB⟩ | ⟨x, n', n1, n2⟩
 rotate_left
 ·rcases n2 with ⟨y, n2⟩ | ⟨a2, K1, W1, n2, y, n3⟩
  ·exact fails _ _ _ _ _ _ 2 (a : Int) _ _ (by decide) (ev_bind w1 (ev_bind o1 (ev_pos rfl (ev_bind (ev_shift n1) (ev_neg (by simp) ev_now))))) (ev_bind w2 (ev_bind o2 (ev_neg (show ¬ (op < 0) by omega) (ev_bind (ev_shift n2) (ev_neg (by simp) ev_now)))))
  ·exact fails _ _ _ _ _ _ 2 (a : Int) _ _ (by decide) (ev_bind w1 (ev_bind o1 (ev_pos rfl (ev_bind (ev_shift n1) (ev_neg (by simp) ev_now))))) (ev_bind w2 (ev_bind o2 (ev_neg (show ¬ (op < 0) by omega) (ev_bind (ev_shift n2) (ev_pos rfl (ev_bind (ev_shift n3) (ev_neg (by simp) ev_now)))))))
 have n1 := ev_shift n1; have n2 := ev_shift n2; have n3 := ev_shift n3
 have hm : (partsL op 0 B 0).length = cnt.toNat := by have := hcnt 0 B 0; omega
 rcases kids_ev L hL VI VS (a : Int) (a + 1) hV cnt.toNat e l [] (by omega) k2 hO with ⟨ps, a', l', f1, f2, q1, q2, q3, hO', ⟨m1, hm1⟩, q5, q6⟩ | ⟨q1, q2, q3, q4, q5, q6, c, b, hc, f1, f2⟩
 rotate_left
 ·exact fails _ _ _ _ _ _ c b _ _ hc (ev_bind w1 (ev_bind o1 (ev_pos rfl (ev_bind n1 (ev_pos rfl (ev_bind (by rw [hm]; exact f1) (ev_neg (by simp) ev_now))))))) (ev_bind w2 (ev_bind o2 (ev_neg (show ¬ (op < 0) by omega) (ev_bind n2 (ev_pos rfl (ev_bind n3 (ev_pos rfl (ev_bind f2 (ev_neg (by simp) ev_now)))))))))
 rw [List.nil_append] at f1 f2
 have Q6 := Aside0.mk q6
 clear q6
 have g1 := goesL L hL a' q3 l' 0 0 41; have g2 := endL L a'
 have I1 : ∀ r, Ev (fun k => (gF (mkB L) (a' : Int) l' 0 0 41).bind fun e => (if e.1 = true then
     (impl_termReader_width.f (k + 1) (mkB L) e.2 l' 0 0 op W' K (rd ps 0) (if op = 19 ∨ op = 20 then B else rd ps 1) (rd ps 2)).bind fun wd =>
      some (putR l' 0 0 ⟨op, wd.1, K, rd ps 0, if op = 19 ∨ op = 20 then B else rd ps 1, rd ps 2⟩ (a : Int) e.2)
    else some ((0, false), e.2, l', 2, (a : Int)))) r → Ev (fun k => (wF (k + 1) (mkB L) ((a + 1 : Nat) : Int) l 0 0).bind fun w1 => (impl_opOf.f (k + 1) w1.1).bind fun o => if o.2 = true then
  (numbersF (k + 1) (mkB L) w1.2 l 0 0 ⟨o.1, 0, 0, 0, 0, 0⟩).bind fun m => (if m.1 = true then
   (kidsF (VI k) (mkB L) (a : Int) (partsL m.2.2.f0 m.2.2.f3 m.2.2.f4 m.2.2.f5).length m.2.1 l 0 0 []).bind fun q => (if q.1 = true then
    (gF (mkB L) q.2.2.1 q.2.2.2.1 q.2.2.2.2.1 q.2.2.2.2.2 41).bind fun e => (if e.1 = true then
     (impl_termReader_width.f (k + 1) (mkB L) e.2 q.2.2.2.1 q.2.2.2.2.1 q.2.2.2.2.2 m.2.2.f0 m.2.2.f1 m.2.2.f2 (rd q.2.1 0) (if m.2.2.f0 = 19 ∨ m.2.2.f0 = 20 then m.2.2.f4 else rd q.2.1 1) (rd q.2.1 2)).bind fun wd =>
      some (putR q.2.2.2.1 q.2.2.2.2.1 q.2.2.2.2.2 ⟨m.2.2.f0, wd.1, m.2.2.f2, rd q.2.1 0, if m.2.2.f0 = 19 ∨ m.2.2.f0 = 20 then m.2.2.f4 else rd q.2.1 1, rd q.2.1 2⟩ (a : Int) e.2)
    else some ((0, false), e.2, q.2.2.2.1, 2, (a : Int)))
   else some ((0, false), q.2.2.1, q.2.2.2.1, q.2.2.2.2.1, q.2.2.2.2.2))
  else some ((0, false), m.2.1, l, 2, (a : Int)))
 else some ((0, false), w1.2, l, 2, (a : Int))) r := fun r h => ev_bind w1 (ev_bind o1 (ev_pos rfl (ev_bind n1 (ev_pos rfl (ev_bind (by rw [hm]; exact f1) (ev_pos rfl h))))))
 have I2 : ∀ r, Ev (fun k => ccloseF (k + 1) (mkB L) (a' : Int) l' ps op cnt K B W (a : Int)) r → Ev (fun k => (cwF (k + 1) (mkB L) ((a + 1 : Nat) : Int) l).bind fun w1 => (spec_l03Op.f (k + 1) w1.1).bind fun o => if o.1 < 0 then some (0, w1.2, l, 2, (a : Int)) else
  (csliceF (k + 1) (mkB L) w1.2 l o.1).bind fun m => (if m.1 = true then (cquantF (k + 1) (mkB L) m.2.1 l o.1 m.2.2.1 m.2.2.2).bind fun n => (if n.1 = true then
   (ckidsF (VS k) (mkB L) (a : Int) o.2.toNat n.2.1 l []).bind fun q => (if q.1 = true then ccloseF (k + 1) (mkB L) q.2.2.1 q.2.2.2.1 q.2.1 o.1 o.2 n.2.2.1 n.2.2.2.1 n.2.2.2.2 (a : Int) else some (0, q.2.2.1, q.2.2.2.1, q.2.2.2.2.1, q.2.2.2.2.2))
   else some (0, n.2.1, l, 2, (a : Int))) else some (0, m.2.1, l, 2, (a : Int)))) r := fun r h => ev_bind w2 (ev_bind o2 (ev_neg (show ¬ (op < 0) by omega) (ev_bind n2 (ev_pos rfl (ev_bind n3 (ev_pos rfl (ev_bind f2 (ev_pos rfl h))))))))
 cases hb : isB L a' 41 with
 | false =>
  rw [hb] at g1 g2
  refine fails 0 (a' : Int) l' 0 (a' : Int) l' 2 (a : Int) _ _ (by decide) (I1 _ (ev_bind0 g1 (ev_neg (by simp) ev_now))) (I2 (0, (a' : Int), l', 2, (a : Int)) ?_)
  unfold ccloseF
  exact ev_bind0 g2 (ev_neg (by simp) ev_now)
 | true =>
  rw [hb] at g1 g2
  have ha2 : a' + 1 ≤ L.length := by unfold isB at hb; simp at hb; omega
  simp only [if_true] at g1
  have hps : (ps.length : Int) = cnt := by omega
  have r0 : ∀ t : Nat, t < ps.length → 0 ≤ rd ps (t : Int) ∧ rd ps (t : Int) < (l'.length : Int) := fun t ht => by rw [rdI ps t ht]; exact q5 _ (List.getElem_mem ht)
  have rz : ∀ t : Nat, ps.length ≤ t → rd ps (t : Int) = 0 := fun t ht => by unfold rd; rw [Int.toNat_natCast, List.getD_eq_getElem?_getD, List.getElem?_eq_none ht]; rfl
  have A0 := r0 0 (by omega)
  have eB : (if 1 < cnt then rd ps 1 else B) = (if op = 19 ∨ op = 20 then B else rd ps 1) := by
   rcases hcn with ⟨h, hc⟩ | ⟨h, hc⟩ | ⟨h, hc⟩
   ·rw [if_neg (by omega)]
    by_cases hq : op = 19 ∨ op = 20
    ·rw [if_pos hq]
    ·rw [if_neg hq, hB hq]; exact (rz 1 (by omega)).symm
   ·rw [if_pos (by omega), if_neg (by omega)]
   ·rw [if_pos (by omega), if_neg (by omega)]
  have eC : (if 2 < cnt then rd ps 2 else 0) = rd ps 2 := by
   by_cases h : 2 < cnt
   ·rw [if_pos h]
   ·rw [if_neg h]; exact (rz 2 (by omega)).symm
  obtain ⟨wd, hw1, hw2⟩ := width_ev (mkB L) ((a' + 1 : Nat) : Int) 0 0 l' op W' W K (rd ps 0) (if op = 19 ∨ op = 20 then B else rd ps 1) (if op = 19 ∨ op = 20 then B else rd ps 1) (rd ps 2) hop0 hop1 A0 (fun h => by
   have := r0 1 (by omega)
   rw [if_neg (by omega)]
   exact ⟨rfl, this⟩) hW hQ
  have hw1 := ev_shift hw1
  have C2 : ∀ r : Int × List S31 × Int × Int, Ev (fun k => cputF k l' ⟨op, wd, K, rd ps 0, if op = 19 ∨ op = 20 then B else rd ps 1, rd ps 2⟩ (a : Int)) r → Ev (fun k => ccloseF (k + 1) (mkB L) (a' : Int) l' ps op cnt K B W (a : Int)) (r.1, ((a' + 1 : Nat) : Int), r.2) := by
   intro r h
   unfold ccloseF
   rw [eB, eC]
   refine ev_bind0 g2 (ev_pos rfl (ev_pos ⟨by omega, by omega, by omega⟩ (ev_bind0 hw2 ?_)))
   rw [show wrap64 ((a' : Int) + 1) = ((a' + 1 : Nat) : Int) by rw [wrap_id (by omega) (by omega)]; omega]
   obtain ⟨K0, hK⟩ := ev_shift h
   exact ⟨K0, fun k hk => by have := hK k hk; dsimp only at this ⊢; rw [this]; rfl⟩
  rcases put_ev l' hO' ⟨op, wd, K, rd ps 0, if op = 19 ∨ op = 20 then B else rd ps 1, rd ps 2⟩ (a : Int) with ⟨p, l'', u1, u2, u3, u4, ⟨m2, hm2⟩, u5, u6⟩ | ⟨c, b, hc, u1, u2⟩
  ·left
   refine ⟨p, a' + 1, l'', I1 _ (ev_bind0 g1 (ev_pos rfl (ev_bind hw1 (ev_eq (by unfold putR; rw [u1]))))), I2 _ (C2 _ u2), by omega, ha2, u3, u4, ⟨m1 ++ m2, by rw [hm2, hm1, List.append_assoc]⟩, ?_⟩
   rcases u5 with u5 | u5
   rotate_left
   ·exact .inr (by omega)
   rcases Q6.out with q6 | ⟨q, hq, q6⟩
   ·exact .inl (by rw [u5]; exact q6)
   ·right
    have hp := u4.1 p u3
    unfold nodeB at hp
    rw [u6] at hp
    unfold rightB at hp
    simp only [Bool.and_eq_true] at hp
    have hq2 : q ∈ partsL op (rd ps 0) (if op = 19 ∨ op = 20 then B else rd ps 1) (rd ps 2) := by
     obtain ⟨t, ht, rfl⟩ := List.mem_iff_getElem.mp hq
     rw [← rdI ps t ht]
     have ht3 : t = 0 ∨ t = 1 ∨ t = 2 := by omega
     unfold partsL
     rcases hcn with ⟨h, hc⟩ | ⟨h, hc⟩ | ⟨h, hc⟩
     ·rw [if_pos h]
      obtain rfl : t = 0 := by omega
      simp
     ·rw [if_neg (by omega), if_pos h, if_neg (by omega)]
      rcases ht3 with rfl | rfl | rfl
      ·simp
      ·simp
      ·omega
     ·rw [if_neg (by omega), if_neg (by omega), if_pos h, if_neg (by omega)]
      rcases ht3 with rfl | rfl | rfl <;> simp
    have := inB_iff.mp (List.all_eq_true.mp hp.1.2 q hq2)
    rw [List.length_take] at this
    rw [u5]
    omega
  ·exact fails _ _ _ _ _ _ c b _ _ hc (I1 _ (ev_bind0 g1 (ev_pos rfl (ev_bind hw1 (ev_eq (by unfold putR; rw [u1])))))) (I2 _ (C2 _ u2))
theorem read_ev (L : List UInt8) (hL : L.length ≤ 4000) (hG : Good L) (d : Nat) : ∀ (a : Nat) (l : List S31), a ≤ L.length → L.length - a ≤ d → OKL l → Reads (fun k => nodeF (mkB L) k) (fun k => creadF (mkB L) k) L a l := by
 induction d with
 | zero =>
  intro a l ha hd hO
  have h40 : isB L a 40 = false := by unfold isB; simp; omega
  rcases leaf_ev L hL hG a ha h40 l hO with ⟨p, a', l', e1, e2, h⟩ | ⟨p1, a1, l1, p2, a2, l2, c, b, hc, e1, e2⟩
  ·refine .inl ⟨p, a', l', ev_succ ?_, ev_succ ?_, h⟩
   ·simp only [nodeF, nodeR]; exact ev_bind0 (goesL L hL a ha l 0 0 40) (by rw [h40]; exact ev_neg (by simp) e1)
   ·simp only [creadF, creadR]; exact ev_bind0 (openL L a) (by rw [h40]; exact ev_neg (by simp) e2)
  ·refine .inr ⟨p1, a1, l1, p2, a2, l2, c, b, hc, ev_succ ?_, ev_succ ?_⟩
   ·simp only [nodeF, nodeR]; exact ev_bind0 (goesL L hL a ha l 0 0 40) (by rw [h40]; exact ev_neg (by simp) e1)
   ·simp only [creadF, creadR]; exact ev_bind0 (openL L a) (by rw [h40]; exact ev_neg (by simp) e2)
 | succ d ih =>
  intro a l ha hd hO
  cases h40 : isB L a 40 with
  | false =>
   rcases leaf_ev L hL hG a ha h40 l hO with ⟨p, a', l', e1, e2, h⟩ | ⟨p1, a1, l1, p2, a2, l2, c, b, hc, e1, e2⟩
   ·refine .inl ⟨p, a', l', ev_succ ?_, ev_succ ?_, h⟩
    ·simp only [nodeF, nodeR]; exact ev_bind0 (goesL L hL a ha l 0 0 40) (by rw [h40]; exact ev_neg (by simp) e1)
    ·simp only [creadF, creadR]; exact ev_bind0 (openL L a) (by rw [h40]; exact ev_neg (by simp) e2)
   ·refine .inr ⟨p1, a1, l1, p2, a2, l2, c, b, hc, ev_succ ?_, ev_succ ?_⟩
    ·simp only [nodeF, nodeR]; exact ev_bind0 (goesL L hL a ha l 0 0 40) (by rw [h40]; exact ev_neg (by simp) e1)
    ·simp only [creadF, creadR]; exact ev_bind0 (openL L a) (by rw [h40]; exact ev_neg (by simp) e2)
  | true =>
   have hlt : a < L.length := by unfold isB at h40; simp at h40; omega
   rcases inner_ev L hL hG (fun k => nodeF (mkB L) k) (fun k => creadF (mkB L) k) a ha h40 l hO (fun b l hb1 hb2 hO => ih b l hb2 (by omega) hO) with ⟨p, a', l', e1, e2, h⟩ | ⟨p1, a1, l1, p2, a2, l2, c, b, hc, e1, e2⟩
   ·refine .inl ⟨p, a', l', ev_succ ?_, ev_succ ?_, h⟩
    ·simp only [nodeF, nodeR]; exact ev_bind0 (goesL L hL a ha l 0 0 40) (by rw [h40]; exact ev_pos rfl e1)
    ·simp only [creadF, creadR]; exact ev_bind0 (openL L a) (by rw [h40]; exact ev_pos rfl e2)
   ·refine .inr ⟨p1, a1, l1, p2, a2, l2, c, b, hc, ev_succ ?_, ev_succ ?_⟩
    ·simp only [nodeF, nodeR]; exact ev_bind0 (goesL L hL a ha l 0 0 40) (by rw [h40]; exact ev_pos rfl e1)
    ·simp only [creadF, creadR]; exact ev_bind0 (openL L a) (by rw [h40]; exact ev_pos rfl e2)
/-- A good text is read alike, whole. -/
theorem term_read (L : List UInt8) (hL : L.length ≤ 4000) (hG : Good L) : ∃ r : List S31 × Int × Int, r.1.length ≤ 80 ∧ Ev (fun k => readF k (mkB L)) r ∧ Ev (fun k => creadTermF k (mkB L)) r := by
 unfold readF creadTermF
 rw [mkB_size]
 have hO0 : OKL ([] : List S31) := ⟨fun i hi => absurd hi (by simp), by simp⟩
 rcases read_ev L hL hG L.length 0 [] (by omega) (by omega) hO0 with ⟨p, a', l', e1, e2, h1, h2, h3, h4, _, h6⟩ | ⟨p1, a1, l1, p2, a2, l2, c, b, hc, e1, e2⟩
 ·by_cases h : (a' : Int) < (L.length : Int)
  ·exact ⟨([], 5, (a' : Int)), by simp, ev_neg (by omega) (ev_bind e1 (ev_pos rfl (ev_pos h ev_now))), ev_neg (by omega) (ev_bind e2 (ev_pos rfl (ev_pos h ev_now)))⟩
  ·have hp : l'.length = p + 1 := by rcases h6 with h6 | h6; simp at h6; rw [h6] at h3; simp at h3; omega
   have := h4.2
   exact ⟨(l', 0, 0), h4.2, ev_neg (by omega) (ev_bind e1 (ev_pos rfl (ev_neg h ev_now))), ev_neg (by omega) (ev_bind e2 (ev_pos rfl (ev_neg h (ev_pos (by dsimp only; rw [wrap_id (by omega) (by omega)]; omega) ev_now))))⟩
 ·exact ⟨([], c, b), by simp, ev_neg (by omega) (ev_bind e1 (ev_neg (by simp) ev_now)), ev_neg (by omega) (ev_bind e2 (ev_neg hc ev_now))⟩
/-! ### What is written of a term is a good text -/
def No40 (M : List UInt8) : Prop := ∀ x ∈ M, x ≠ 40
theorem no40_app {A B : List UInt8} (ha : No40 A) (hb : No40 B) : No40 (A ++ B) := fun x hx => by
 rcases List.mem_append.mp hx with h | h
 ·exact ha x h
 ·exact hb x h
theorem getD_app_l (A B : List UInt8) (i : Nat) (h : i < A.length) : (A ++ B).getD i 0 = A.getD i 0 := by
 rw [List.getD_eq_getElem?_getD, List.getElem?_append_left h, List.getD_eq_getElem?_getD]
theorem getD_app_r (A B : List UInt8) (i : Nat) (h : A.length ≤ i) : (A ++ B).getD i 0 = B.getD (i - A.length) 0 := by
 rw [List.getD_eq_getElem?_getD, List.getElem?_append_right h, List.getD_eq_getElem?_getD]
theorem getD_mem8 (B : List UInt8) (i : Nat) (h : i < B.length) : B.getD i 0 ∈ B := by
 rw [List.getD_eq_getElem?_getD, List.getElem?_eq_getElem h]; exact List.getElem_mem h
theorem good_no40 {A B : List UInt8} (ha : Good A) (hb : No40 B) : Good (A ++ B) := by
 intro i hi h
 by_cases hl : i < A.length
 ·rw [getD_app_l A B i hl] at h
  rcases ha i hl h with h0 | h0
  ·exact .inl h0
  ·right
   rw [getD_app_l A B (i - 1) (by omega)]
   exact h0
 ·rw [getD_app_r A B i (by omega)] at h
  rw [List.length_append] at hi
  exact absurd h (hb _ (getD_mem8 B _ (by omega)))
theorem good_part {A B : List UInt8} (ha : Good A) (hb : Good B) : Good (A ++ 32 :: B) := by
 intro i hi h
 by_cases hl : i < A.length
 ·rw [getD_app_l A _ i hl] at h
  rcases ha i hl h with h0 | h0
  ·exact .inl h0
  ·right
   rw [getD_app_l A _ (i - 1) (by omega)]
   exact h0
 ·rw [getD_app_r A _ i (by omega)] at h
  rw [List.length_append, List.length_cons] at hi
  by_cases h0 : i = A.length
  ·rw [h0, Nat.sub_self, List.getD_cons_zero] at h
   exact absurd h (by decide)
  ·obtain ⟨j, rfl⟩ : ∃ j, i = A.length + 1 + j := ⟨i - A.length - 1, by omega⟩
   rw [show A.length + 1 + j - A.length = j + 1 by omega, List.getD_cons_succ] at h
   right
   rw [getD_app_r A _ _ (by omega)]
   rcases hb j (by omega) h with hj | hj
   ·subst hj
    rw [show A.length + 1 + 0 - 1 - A.length = 0 by omega]; rfl
   ·by_cases hj0 : j = 0
    ·subst hj0
     rw [show A.length + 1 + 0 - 1 - A.length = 0 by omega]; rfl
    ·rw [show A.length + 1 + j - 1 - A.length = (j - 1) + 1 by omega, List.getD_cons_succ]
     exact hj
theorem no40_d8 {n : Int} (h0 : 0 ≤ n) (h1 : n < 10) : d8 n ≠ 40 := by
 have : n = 0 ∨ n = 1 ∨ n = 2 ∨ n = 3 ∨ n = 4 ∨ n = 5 ∨ n = 6 ∨ n = 7 ∨ n = 8 ∨ n = 9 := by omega
 rcases this with rfl | rfl | rfl | rfl | rfl | rfl | rfl | rfl | rfl | rfl <;> decide
theorem no40_dec {n : Int} (h0 : 0 ≤ n) (h1 : n ≤ 999) : No40 (decL n) := by
 unfold decL
 intro x hx
 split at hx
 ·simp only [List.mem_singleton] at hx; subst hx; exact no40_d8 h0 (by omega)
 ·split at hx
  ·simp only [List.mem_cons, List.not_mem_nil, or_false] at hx
   rcases hx with rfl | rfl
   ·exact no40_d8 (by omega) (by omega)
   ·exact no40_d8 (by omega) (by omega)
  ·simp only [List.mem_cons, List.not_mem_nil, or_false] at hx
   rcases hx with rfl | rfl | rfl
   ·exact no40_d8 (by omega) (by omega)
   ·exact no40_d8 (by omega) (by omega)
   ·exact no40_d8 (by omega) (by omega)
theorem no40_dec' (M : List UInt8) (h : M.all (fun x => x != 40) = true) : No40 M := fun x hx => by
 have := List.all_eq_true.mp h x hx
 simpa using this
theorem no40_words (i : Nat) : No40 (wordsL.getD i []) := by
 by_cases h : i < 14
 ·have : i = 0 ∨ i = 1 ∨ i = 2 ∨ i = 3 ∨ i = 4 ∨ i = 5 ∨ i = 6 ∨ i = 7 ∨ i = 8 ∨ i = 9 ∨ i = 10 ∨ i = 11 ∨ i = 12 ∨ i = 13 := by omega
  rcases this with rfl | rfl | rfl | rfl | rfl | rfl | rfl | rfl | rfl | rfl | rfl | rfl | rfl | rfl <;> exact no40_dec' _ (by decide)
 ·rw [List.getD_eq_getElem?_getD, List.getElem?_eq_none (by simp [wordsL]; omega)]; intro x hx; cases hx
theorem no40_hd {op W K A B C : Int} (hn : NumOk op W K A B C) : No40 (hdL op W K B) := by
 have hW := no40_dec (n := W) (by have := hn.w0; omega) (by have := hn.w1; omega)
 unfold hdL
 split
 ·exact no40_dec' _ (by decide)
 ·split
  ·rename_i h
   have hK := hn.k0 (by omega)
   exact no40_app (no40_app (no40_app (no40_dec' _ (by decide)) (no40_dec hK.1 (by omega))) (no40_dec' _ (by decide))) hW
  ·split
   ·exact no40_dec' _ (by decide)
   ·split
    ·have hK := hn.k0 (by omega); have hB := hn.b0 (by omega)
     exact no40_app (no40_app (no40_app (no40_dec' _ (by decide)) (no40_dec hK.1 (by omega))) (no40_dec' _ (by decide))) (no40_dec hB.1 (by omega))
    ·split
     ·have hK := hn.k0 (by omega); have hB := hn.b0 (by omega)
      exact no40_app (no40_app (no40_app (no40_dec' _ (by decide)) (no40_dec hK.1 (by omega))) (no40_dec' _ (by decide))) (no40_dec hB.1 (by omega))
     ·exact no40_words _
theorem good_of_no40 {M : List UInt8} (h : No40 M) : Good M := fun i hi e => absurd e (h _ (getD_mem8 M i hi))
theorem good_pts (ts : List (List UInt8)) (hts : ∀ t ∈ ts, Good t) (ps : List Int) : ∀ A : List UInt8, Good A → Good (A ++ ptsL ts ps) := by
 induction ps with
 | nil => intro A hA; simpa [ptsL] using hA
 | cons p ps ih =>
  intro A hA
  have e : A ++ ptsL ts (p :: ps) = (A ++ 32 :: ts.getD p.toNat []) ++ ptsL ts ps := by simp [ptsL]
  rw [e]
  refine ih _ (good_part hA ?_)
  by_cases h : p.toNat < ts.length
  ·rw [List.getD_eq_getElem?_getD, List.getElem?_eq_getElem h]
   exact hts _ (List.getElem_mem h)
  ·rw [List.getD_eq_getElem?_getD, List.getElem?_eq_none (by omega)]
   intro i hi; simp at hi
theorem good_txt (ts : List (List UInt8)) (hts : ∀ t ∈ ts, Good t) {op W K A B C : Int} (hn : NumOk op W K A B C) : Good (txtN ts op W K A B C) := by
 unfold txtN
 split
 ·rename_i h
  have hW := no40_dec (n := W) (by have := hn.w0; omega) (by have := hn.w1; omega)
  have hK := hn.k0 (by omega)
  have hK := no40_dec (n := K) hK.1 (by omega)
  refine good_of_no40 ?_
  unfold leafL
  split
  ·exact no40_app (no40_app (no40_app (no40_dec' _ (by decide)) hW) (no40_dec' _ (by decide))) hK
  ·exact no40_app (no40_app (no40_app (no40_dec' _ (by decide)) hK) (no40_dec' _ (by decide))) hW
 ·split
  ·unfold wholeL
   refine good_no40 (good_pts ts hts _ _ ?_) (no40_dec' _ (by decide))
   have : Good [40] := fun i hi _ => .inl (by simp at hi; exact hi)
   exact good_no40 this (no40_hd hn)
  ·intro i hi; simp at hi
theorem good_texts (l : List S31) (hN : NodesOk l) (i : Nat) : i ≤ l.length → ∀ t ∈ textsL l i, Good t := by
 induction i with
 | zero => intro _ t ht; simp [textsL] at ht
 | succ i ih =>
  intro hi t ht
  simp only [textsL, List.mem_append, List.mem_singleton] at ht
  rcases ht with ht | rfl
  ·exact ih (by omega) t ht
  ·exact good_txt _ (ih (by omega)) (num_ok hN i (by omega))
theorem Show_good (l : List S31) : ∃ (L : List UInt8) (b : Bool), Ev (fun k => spec_ShowTerm.f k l) (mkB L, b) ∧ Ev (fun k => impl_ShowTerm.f k l) (mkB L, b) ∧ L.length ≤ 4000 ∧ Good L := by
 obtain ⟨b, e1, e2, h⟩ := term_ev l
 unfold spec_ShowTerm.f impl_ShowTerm.f
 by_cases hb : b = true
 ·obtain ⟨h1, h2, h3⟩ := h.mp hb
  have hm : (textsL l l.length).getD (l.length - 1) [] ∈ textsL l l.length := by
   rw [List.getD_eq_getElem?_getD, List.getElem?_eq_getElem (by rw [textsL_len]; omega)]; exact List.getElem_mem _
  refine ⟨(textsL l l.length).getD (l.length - 1) [], ((textsL l l.length).getD (l.length - 1) [] != []), ev_bind e1 (ev_pos hb ?_), ev_bind e2 (ev_pos hb (ev_pos (by omega) (ev_pos (by simp; omega) (ev_pos (by simp; omega) ?_)))), textsL_le l _ _ hm, good_texts l h3 _ (Nat.le_refl _) _ hm⟩
  ·exact showS_from l h2 h3 l.length 0 (by omega) h1
  ·have := showI_from l h2 h3 h1 l.length 0 (by omega)
   simp only [textsL, fitsL, List.map_nil, List.nil_append, Nat.sub_zero] at this
   exact this
 ·exact ⟨[], false, ev_bind e1 (ev_neg hb ev_now), ev_bind e2 (ev_neg hb ev_now), by simp, fun i hi => by simp at hi⟩
theorem Canon_ev (l : List S31) : ∃ r : List S31, r.length ≤ 80 ∧ Ev (fun k => spec_Canon.f k l) r ∧ Ev (fun k => impl_Canon.f k l) r := by
 obtain ⟨L, b, e1, e2, hL, hG⟩ := Show_good l
 unfold spec_Canon.f impl_Canon.f
 cases b with
 | true =>
  obtain ⟨r, h80, f1, f2⟩ := term_read L hL hG
  exact ⟨r.1, h80, ev_bind e1 (ev_pos rfl (ev_bind f2 ev_now)), ev_bind e2 (ev_pos rfl (ev_bind f1 ev_now))⟩
 | false => exact ⟨[], by simp, ev_bind e1 (ev_neg (by simp) ev_now), ev_bind e2 (ev_neg (by simp) ev_now)⟩
theorem FnExactCanon : laws_FnExactCanon.Pure := by
 intro l h0 h1 h2
 refine Ev.rounds ?_
 unfold laws_FnExactCanon.f
 refine ev_bind0 (szNode l h0) ?_
 by_cases hb : (l.length : Int) > 1048576
 ·rw [if_pos hb]; exact ev_pos (by omega) ev_now
 ·rw [if_neg hb]
  refine ev_neg (by omega) ?_
  have hl : l.length ≤ 1048576 := by omega
  have hl2 : (l.map cvNode).length ≤ 1048576 := by rw [List.length_map]; exact hl
  obtain ⟨r, hr, e1, e2⟩ := Canon_ev (l.map cvNode)
  refine ev_bind (toNode l hl) (ev_bind e1 (ev_bind (toNode l hl) (ev_bind e2 (ev_bind (eqNode r (by omega)) (ev_pos rfl ?_)))))
  refine ev_bind (toNode l hl) (ev_bind (eqNode _ (by omega)) (ev_pos rfl ?_))
  refine ev_bind (markNode _ (by omega)) (ev_neg (by simp; omega) (ev_bind (eqNode r (by omega)) ?_))
  refine ev_succ ?_
  simp only [laws_FnExactCanon.j0]
  refine ev_neg (by simp) ?_
  refine ev_bind (markNode r (by omega)) (ev_bind (heldNode _ (by omega)) (ev_neg (by simp; omega) (ev_pos (by simp) ?_)))
  refine ev_bind (toNode l hl) (ev_bind e2 (ev_bind (eqNode r (by omega)) (ev_pos rfl ?_)))
  exact ev_bind (heldNode _ (by omega)) (ev_neg (by simp; omega) (ev_pos (by simp) ev_now))
end Go.Proofs.Ytkpipmojkhikaaa.Pure
