/- FnText: what the printed functions come to, for every input. -/
import Derived.Test.YtkpipmojkhikaaaVText0
import Derived.Test.YtkpipmojkhikaaaVText1
import Derived.Test.YtkpipmojkhikaaaVText2
import Derived.Test.YtkpipmojkhikaaaVText3
import Derived.Test.YtkpipmojkhikaaaVText4
import Derived.Test.YtkpipmojkhikaaaVText5
import Derived.Test.YtkpipmojkhikaaaVText6
import Derived.Test.YtkpipmojkhikaaaVText7
import Derived.Test.YtkpipmojkhikaaaVText8
import Derived.Test.YtkpipmojkhikaaaVText9
import Derived.Test.YtkpipmojkhikaaaVText10
import Derived.Test.YtkpipmojkhikaaaVText11
import Derived.Test.YtkpipmojkhikaaaVText12
import Derived.Test.YtkpipmojkhikaaaVText13
import Derived.Test.YtkpipmojkhikaaaVText14
import Derived.Test.YtkpipmojkhikaaaVText15
import Derived.Test.YtkpipmojkhikaaaVText16
import Derived.Test.YtkpipmojkhikaaaVText17
import Derived.Test.YtkpipmojkhikaaaVText18
import Derived.Test.YtkpipmojkhikaaaVText19
import Derived.Test.YtkpipmojkhikaaaVText20
import Derived.Test.YtkpipmojkhikaaaVText21
import Derived.Test.YtkpipmojkhikaaaVText22
import Derived.Test.YtkpipmojkhikaaaBase
import Derived.Test.YtkpipmojkhikaaaEv
set_option linter.unusedVariables false
set_option linter.unusedSimpArgs false
namespace Go.Proofs.Ytkpipmojkhikaaa.Pure.TextW
open Go.RowKit Go.Proofs.Ytkpipmojkhikaaa.PAll Go.Proofs.YtkpipmojkhikaaaW.PrintWords Go.Proofs.YtkpipmojkhikaaaW.PrintLast Go.Proofs.YtkpipmojkhikaaaW.PrintMore Go.Proofs.Ytkpipmojkhikaaa.Base
theorem d2v {w : Int} (h0 : 0 ≤ w) (h8 : w ≤ 8) {k : Nat} (hk : 20 ≤ k) : vW k w = some (P2 w) := by
  obtain ⟨m, rfl⟩ := b6r hk
  have : w = 0 ∨ w = 1 ∨ w = 2 ∨ w = 3 ∨ w = 4 ∨ w = 5 ∨ w = 6 ∨ w = 7 ∨ w = 8 := by omega
  rcases this with rfl | rfl | rfl | rfl | rfl | rfl | rfl | rfl | rfl <;> simp [vW, wE, P2, wrap64]
theorem inS (x a b : Int) : pW x a b = some (decide (a ≤ x ∧ x ≤ b)) := by
  unfold pW
  by_cases h : x ≥ a
  · rw [if_pos h]; simp [h]
  · rw [if_neg h]; simp [h]
theorem inI (x a b : Int) : qN x a b = some (decide (a ≤ x ∧ x ≤ b)) := by
  unfold qN
  by_cases h : x ≥ a
  · rw [if_pos h]; simp [h]
  · rw [if_neg h]; simp [h]
theorem d3m (w a : Int) {k : Nat} (hk : 20 ≤ k) : xR k w a = some (wok w a) := by
  unfold xR wok
  rw [inS]; simp only [Option.bind_some]
  by_cases h : 1 ≤ w ∧ w ≤ 8
  · have hp := b3d (by omega : 0 ≤ w) h.2
    rw [if_pos (by simp [h]), d2v oM h.2 hk]; simp only [Option.bind_some]
    rw [inS, oY oM oM]; simp [h]
  · rw [if_neg (by simp; omega)]; simp; omega
def Cur (l : List Int) (i : Int) : Prop := 0 ≤ i ∧ i ≤ (l.length : Int) ∧ (l.length : Int) ≤ 140737488351232
theorem b3b (x : Int) : 0 ≤ Go.bits .and .i64 x 255 ∧ Go.bits .and .i64 x 255 ≤ 255 := by
  have hm : (BitVec.ofInt 64 (255 : Int)).toNat = 255 := by decide
  have hle : ((BitVec.ofInt 64 x).toNat &&& 255) ≤ 255 := Nat.and_le_right
  have e : Go.bits .and .i64 x 255 = IntKind.i64.wrap (((BitVec.ofInt 64 x).toNat &&& 255 : Nat) : Int) := by
    show IntKind.i64.wrap ((BitVec.ofInt 64 x &&& BitVec.ofInt 64 (255 : Int)).toNat : Int) = _
    rw [BitVec.toNat_and, hm]
  rw [e, IntKind.wrap_i64]
  omega
theorem a1a (l : List Int) (i h : Int) (hc : Cur l i) : ∃ x i' h', sZ l i h = some (x, i', h') ∧ 0 ≤ x ∧ x ≤ 255 ∧ Cur l i' := by
  unfold sZ
  obtain ⟨h0, h1, h2⟩ := hc
  by_cases hi : i < (l.length : Int)
  · rw [if_pos hi, if_pos h0]
    exact ⟨_, _, _, rfl, (b3b _).1, (b3b _).2, by rw [oY oM oM]; exact ⟨oM, oM, h2⟩⟩
  · rw [if_neg hi]
    exact ⟨_, _, _, rfl, (b3b _).1, (b3b _).2, h0, h1, h2⟩
theorem qS (l : List Int) (i h n : Int) (hc : Cur l i) : ∃ x i' h', kW l i h n = some (x, i', h') ∧ 0 ≤ x ∧ (n ≤ 0 → x = 0) ∧ (0 < n → x < n) ∧ Cur l i' := by
  unfold kW
  by_cases h0 : n ≤ 0
  · rw [if_pos h0]
    exact ⟨0, i, h, rfl, oM, fun _ => rfl, fun _ => by omega, hc⟩
  · rw [if_neg h0]
    by_cases h1 : n ≤ 256
    · rw [if_pos h1]
      obtain ⟨x, i1, h2, e, b0, b1, c1⟩ := a1a l i h hc
      rw [e]; simp only [Option.bind_some]
      rw [if_neg oM]
      refine ⟨_, _, _, rfl, ?_, oM, fun _ => ?_, c1⟩
      · exact Int.tmod_nonneg _ b0
      · rw [Int.tmod_eq_emod_of_nonneg b0]; exact Int.emod_lt_of_pos _ oM
    · rw [if_neg h1]
      obtain ⟨x, i1, z1, e1, b0, b1, c1⟩ := a1a l i h hc
      rw [e1]; simp only [Option.bind_some]
      obtain ⟨y, i2, z2, e2, d0, d1, c2⟩ := a1a l i1 z1 c1
      rw [e2]; simp only [Option.bind_some]
      obtain ⟨z, i3, z3, e3, f0, f1, c3⟩ := a1a l i2 z2 c2
      rw [e3]; simp only [Option.bind_some]
      obtain ⟨v, i4, z4, e4, g0, g1, c4⟩ := a1a l i3 z3 c3
      rw [e4]; simp only [Option.bind_some]
      rw [if_neg oM, oY (x := x * 16777216) oM oM, oY (x := y * 65536) oM oM, oY (x := x * 16777216 + y * 65536) oM oM, oY (x := z * 256) oM oM, oY (x := x * 16777216 + y * 65536 + z * 256) oM oM, oY oM oM]
      refine ⟨_, _, _, rfl, ?_, oM, fun _ => ?_, c4⟩
      · exact Int.tmod_nonneg _ oM
      · rw [Int.tmod_eq_emod_of_nonneg oM]; exact Int.emod_lt_of_pos _ oM
theorem a0u (l : List Int) (i h n : Int) (hc : Cur l i) : ∃ b i' h', sY l i h n = some (b, i', h') ∧ Cur l i' := by
  unfold sY
  obtain ⟨x, i1, h1, e, _, _, _, c⟩ := qS l i h n hc
  rw [e]; exact ⟨_, _, _, rfl, c⟩
theorem a3n (l : List Int) (i h : Int) (xs : List Int) (hx : xs ≠ []) (hc : Cur l i) : ∃ x i' h', uC l i h xs = some (x, i', h') ∧ x ∈ xs ∧ Cur l i' := by
  unfold uC
  have hl : 0 < (xs.length : Int) := by have := List.length_pos_iff.mpr hx; omega
  obtain ⟨x, i1, h1, e, x0, _, x1, c⟩ := qS l i h (xs.length : Int) hc
  rw [e]; simp only [Option.bind_some]
  have hlt := x1 hl
  rw [if_pos x0, if_pos hlt]
  refine ⟨_, _, _, rfl, ?_, c⟩
  unfold rd
  rw [List.getD_eq_getElem?_getD, List.getElem?_eq_getElem oM]
  exact List.getElem_mem _
theorem c6r (l : List Int) (hl : (l.length : Int) ≤ 140737488351232) (hw : ∀ x ∈ l, (Lit.int .u8 x).wf = true) (i : Int) (i0 : 0 ≤ i) (i1 : i ≤ 1000) : ∃ x, a0w l i = some x ∧ 0 ≤ x ∧ x ≤ 255 := by
  unfold a0w
  by_cases c : i < (l.length : Int)
  · rw [if_pos c, if_pos i0]
    have hm : rd l i ∈ l := by
      unfold rd
      rw [List.getD_eq_getElem?_getD, List.getElem?_eq_getElem oM]
      exact List.getElem_mem _
    have hb := hw _ hm
    have hmin : IntKind.u8.min = 0 := rfl
    have hmax : IntKind.u8.max = 255 := rfl
    simp only [Lit.wf, Bool.and_eq_true, decide_eq_true_eq] at hb
    rw [oY oM oM]
    exact ⟨_, rfl, oM, oM⟩
  · rw [if_neg c, oY (x := i * 7) oM oM, oY oM oM, Int.tmod_eq_emod_of_nonneg oM]
    exact ⟨_, rfl, oM, oM⟩
theorem a7i (op w q a b c : Int) {k : Nat} (hk : 1 ≤ k) : tY k op w q a b c = some (kV op a b c) := by
  obtain ⟨k, rfl⟩ : ∃ m, k = m + 1 := ⟨k - 1, oM⟩
  unfold tY kV
  simp only [vM, inS]
  by_cases h2 : op = 2
  · subst h2; simp
  · by_cases h17 : op = 17
    · subst h17; simp
    · by_cases h19 : op = 19
      · subst h19; simp
      · by_cases h20 : op = 20
        · subst h20; simp
        · have hq : ¬ (op = 2 ∨ op = 17 ∨ op = 19 ∨ op = 20) := by omega
          rw [if_neg h2, if_neg h17, if_neg h19, if_neg (by simpa using h20), if_neg hq]
          simp only [Option.bind_some, decide_eq_true_eq]
          by_cases h3 : 3 ≤ op ∧ op ≤ 16
          · rw [if_pos h3, if_pos h3]
          · rw [if_neg h3, if_neg h3]
            by_cases h18 : op = 18
            · rw [if_pos h18, if_pos h18]
            · rw [if_neg h18, if_neg h18]
theorem rdN (l : List S31) (i : Nat) (h : i < l.length) : kA l (i : Int) = l[i] := by
  unfold kA
  rw [Int.toNat_natCast, List.getD_eq_getElem?_getD, List.getElem?_eq_getElem h]; rfl
theorem rdI (l : List Int) (i : Nat) (h : i < l.length) : rd l (i : Int) = l[i] := by simp [rd, h]
theorem rP {x a b : Int} : inB x a b = true ↔ a ≤ x ∧ x ≤ b := by simp [inB]
theorem c7a (x a b : Int) : pW x a b = some (inB x a b) := inS x a b
theorem c5z (l : List S31) (i : Int) (hi0 : 0 ≤ i) (hi1 : i ≤ 9223372036854775807) (ps : List Int) (hps : ps.length ≤ 3) (n0 n1 n2 n3 n4 n5 : Int) (r : Bool)
    (h1 : (∀ p ∈ ps, inB p 0 (i - 1) = true) → Ev (fun k => tE k l i ps (ps.length : Int) n0 n1 n2 n3 n4 n5) r) (h2 : (¬ ∀ p ∈ ps, inB p 0 (i - 1) = true) → r = false) (d : Nat) :
    ∀ j : Nat, j + d = ps.length → (∀ t : Nat, t < j → inB (rd ps (t : Int)) 0 (i - 1) = true) → Ev (fun k => tE k l i ps (j : Int) n0 n1 n2 n3 n4 n5) r := by
  induction d with
  | zero =>
    intro j hj hA
    obtain rfl : j = ps.length := by omega
    refine h1 fun p hp => ?_
    obtain ⟨t, ht, rfl⟩ := List.getElem_of_mem hp
    rw [← rdI ps t ht]; exact hA t ht
  | succ d ih =>
    intro j hj hA
    have hlt : j < ps.length := by omega
    refine kR ?_
    simp only [tE]
    refine kD oM (kD oM (kU (c7a _ _ _) ?_))
    rw [oY (x := i - 1) oM oM]
    by_cases hb : inB (rd ps (j : Int)) 0 (i - 1) = true
    · refine kD hb ?_
      rw [oY oM oM]
      refine ih (j + 1) oM fun t ht => ?_
      rcases Nat.lt_or_ge t j with h | h
      · exact hA t h
      · obtain rfl : t = j := by omega
        exact hb
    · refine kH hb ?_
      rw [h2 fun h => hb (by rw [rdI ps j hlt]; exact h _ (List.getElem_mem hlt))]
      exact kQ
theorem c5y (l : List S31) (hl : l.length ≤ 4611686018427387904) (ps : List Int) (hps : ps.length ≤ 3) (hp : ∀ p ∈ ps, 0 ≤ p ∧ p < (l.length : Int)) (n0 n1 n2 n3 n4 n5 : Int) (r : Bool)
    (h : Ev (fun k => rW k l ps (ps.map fun p => (kA l p).f1) (ps.length : Int) n0 n1 n2 n3 n4 n5) r) (d : Nat) :
    ∀ j : Nat, j + d = ps.length → Ev (fun k => rW k l ps ((ps.take j).map fun p => (kA l p).f1) (j : Int) n0 n1 n2 n3 n4 n5) r := by
  induction d with
  | zero =>
    intro j hj
    obtain rfl : j = ps.length := by omega
    rw [List.take_of_length_le oM]; exact h
  | succ d ih =>
    intro j hj
    have hlt : j < ps.length := by omega
    have hq := hp _ (List.getElem_mem hlt)
    refine kR ?_
    simp only [rW]
    rw [rdI ps j hlt]
    refine kD oM (kD oM (kD hq.1 (kD hq.2 (kD (by simp; omega) ?_))))
    rw [wS j]
    have := ih (j + 1) oM
    rwa [List.take_succ_eq_append_getElem hlt, List.map_append] at this
theorem b1o (l : List S31) (i : Nat) (p : Int) (h0 : 0 ≤ p) (h1 : p < i) : kA (l.take i) p = kA l p := by
  unfold kA
  rw [List.getD_eq_getElem?_getD, List.getD_eq_getElem?_getD, List.getElem?_take, if_pos oM]
theorem d1s (l : List S31) (ps ws : List Int) (op W K A B C : Int) (hps : ps = kV op A B C) (hws : ws.length = ps.length) :
    Ev (fun k => rW k l ps ws (ps.length : Int) op W K A B C) (inB op 0 20 && xM op K A B C && pM op W K B (ws.getD 0 0) (ws.getD 1 0) (ws.getD 2 0)) := by
  have hl := uD op A B C
  refine a6x 60 fun k hk => ?_
  obtain ⟨k, rfl⟩ : ∃ m, k = m + 2 := ⟨k - 2, oM⟩
  simp only [rW]
  rw [if_neg oM, d3m _ _ oM, c7a, c7a, c7a]
  simp only [Option.bind_some, wD, c7a]
  have rd0 : rd ws 0 = ws.getD 0 0 := rfl
  have rd1 : rd ws 1 = ws.getD 1 0 := rfl
  have rd2 : rd ws 2 = ws.getD 2 0 := rfl
  rw [rd0, rd1, rd2]
  generalize ws.getD 0 0 = u
  generalize ws.getD 1 0 = v
  generalize ws.getD 2 0 = x
  by_cases h0 : op = 0
  · subst h0; simp [inB, xM, pM]; by_cases g : wok W K = true <;> by_cases a : A = 0 <;> by_cases b : B = 0 <;> simp [g, a, b]
  rw [if_neg h0]
  by_cases h1 : op = 1
  · subst h1; by_cases g : inB K 0 7 = true <;> by_cases a : A = 0 <;> by_cases b : B = 0 <;> simp [xM, pM, g, a, b, rP.mpr (show (0 : Int) ≤ 1 ∧ (1 : Int) ≤ 20 by omega)]
  rw [if_neg h1]
  by_cases h2 : op = 2
  · subst h2
    have hn : (0 : Int) < (ws.length : Int) := by rw [hws, hps]; simp [kV]
    rw [if_pos rfl, if_pos hn]
    by_cases a : u = W <;> by_cases b : K = 0 <;> by_cases c : B = 0 <;> simp [inB, xM, pM, a, b, c]
  rw [if_neg h2]
  by_cases h3 : 3 ≤ op ∧ op ≤ 12
  · have e : ps = [A, B] := by rw [hps]; unfold kV; rw [if_neg oM, if_pos oM]
    have hn : ws.length = 2 := by rw [hws, e]; rfl
    rw [if_pos (rP.mpr h3), if_pos oM, if_pos (c := (1 : Int) < _) oM]
    have hu : xM op K A B C = (K == 0 && C == 0) := by unfold xM; rw [if_neg oM, if_neg oM, if_neg oM, if_neg oM, if_pos oM]
    have hr : pM op W K B u v x = (u == W && v == W) := by unfold pM; rw [if_neg oM, if_neg oM, if_neg oM, if_pos oM]
    rw [hu, hr, rP.mpr (show 0 ≤ op ∧ op ≤ 20 by omega)]
    by_cases a : u = W <;> by_cases b : K = 0 <;> by_cases c : v = W <;> simp [a, b, c]
  rw [if_neg (fun h => h3 (rP.mp h))]
  by_cases h4 : 13 ≤ op ∧ op ≤ 15
  · have e : ps = [A, B] := by rw [hps]; unfold kV; rw [if_neg oM, if_pos oM]
    have hn : ws.length = 2 := by rw [hws, e]; rfl
    rw [if_pos (rP.mpr h4), if_pos oM, if_pos (c := (1 : Int) < _) oM]
    have hu : xM op K A B C = (K == 0 && C == 0) := by unfold xM; rw [if_neg oM, if_neg oM, if_neg oM, if_neg oM, if_pos oM]
    have hr : pM op W K B u v x = (u == v && W == 1) := by unfold pM; rw [if_neg oM, if_neg oM, if_neg oM, if_neg oM, if_pos oM]
    rw [hu, hr, rP.mpr (show 0 ≤ op ∧ op ≤ 20 by omega)]
    by_cases a : u = v <;> by_cases b : K = 0 <;> by_cases c : W = 1 <;> simp [a, b, c]
  rw [if_neg (fun h => h4 (rP.mp h))]
  by_cases h16 : op = 16
  · subst h16
    have hn : ws.length = 2 := by rw [hws, hps]; rfl
    rw [if_pos rfl, if_pos oM, if_pos (c := (1 : Int) < _) oM]
    by_cases a : wrap64 (u + v) = W <;> by_cases b : K = 0 <;> simp [inB, xM, pM, a, b]
  rw [if_neg h16]
  by_cases h17 : op = 17
  · subst h17
    have hn : ws.length = 1 := by rw [hws, hps]; rfl
    rw [if_pos rfl, if_pos (c := (0 : Int) < _) oM]
    by_cases a : 0 ≤ K <;> by_cases b : K ≤ wrap64 (u - W) <;> by_cases c : B = 0 <;> simp [inB, xM, pM, a, b, c]
  rw [if_neg h17]
  by_cases h18 : op = 18
  · subst h18
    have hn : ws.length = 3 := by rw [hws, hps]; rfl
    rw [if_pos rfl, if_pos (c := (0 : Int) < _) oM, if_pos (c := (1 : Int) < _) oM, if_pos (c := (2 : Int) < _) oM]
    by_cases a : u = 1 <;> by_cases b : v = W <;> by_cases c : x = W <;> simp [inB, xM, pM, a, b, c]
  rw [if_neg h18]
  by_cases h19 : op = 19
  · subst h19
    have hn : ws.length = 1 := by rw [hws, hps]; rfl
    rw [if_pos rfl, if_pos trivial, if_pos (c := (0 : Int) < _) oM]
    by_cases a : inB K 0 7 = true <;> by_cases b : inB B 1 8 = true <;> by_cases c : u = 1 <;> by_cases d : W = 1 <;> simp [xM, pM, a, b, c, d, rP.mpr (show (0 : Int) ≤ 19 ∧ (19 : Int) ≤ 20 by omega)]
  rw [if_neg h19]
  by_cases h20 : op = 20
  · subst h20
    have hn : ws.length = 1 := by rw [hws, hps]; rfl
    rw [if_pos (by rfl), if_pos (c := (0 : Int) < _) oM]
    by_cases a : inB K 0 7 = true <;> by_cases b : inB B 1 8 = true <;> by_cases c : u = 1 <;> by_cases d : W = 1 <;> simp [xM, pM, a, b, c, d, rP.mpr (show (0 : Int) ≤ 20 ∧ (20 : Int) ≤ 20 by omega)]
  rw [if_neg (by simpa using h20)]
  have hn : inB op 0 20 = false := by simp [inB]; omega
  simp [hn]
theorem b7o (l : List S31) (hl : l.length ≤ 4611686018427387904) (i : Nat) (hi : i < l.length) : Ev (fun k => vV k l (i : Int)) (sM (l.take i) (kA l i).f0 (kA l i).f1 (kA l i).f2 (kA l i).f3 (kA l i).f4 (kA l i).f5) := by
  unfold vV
  refine kD oM (kD oM (kF (a6x 1 fun k hk => a7i _ _ _ _ _ _ hk) ?_))
  generalize (kA l i).f0 = op
  generalize (kA l i).f1 = W
  generalize (kA l i).f2 = K
  generalize (kA l i).f3 = A
  generalize (kA l i).f4 = B
  generalize (kA l i).f5 = C
  have hlen := uD op A B C
  have htk : ((l.take i).length : Int) = i := by rw [List.length_take]; omega
  refine c5z l i oM oM _ hlen op W K A B C _ (fun hall => ?_) (fun hn => ?_) _ 0 (Nat.zero_add _) (fun t ht => absurd ht oM)
  · refine kR ?_
    simp only [tE]
    refine kH oM (kU (c7a _ _ _) ?_)
    have hall' : (kV op A B C).all (fun p => inB p 0 (((l.take i).length : Int) - 1)) = true := by rw [htk]; exact List.all_eq_true.mpr hall
    unfold sM
    rw [hall']
    by_cases hw : inB W 1 8 = true
    · refine kD hw ?_
      rw [hw]
      have hwv : ∀ t : Nat, wv (l.take i) (kV op A B C) (kV op A B C).length t = ((kV op A B C).map fun p => (kA l p).f1).getD t 0 := by
        intro t
        unfold wv
        by_cases ht : t < (kV op A B C).length
        · rw [if_pos ht, rdI _ t ht, List.getD_eq_getElem?_getD, List.getElem?_map, List.getElem?_eq_getElem ht]
          have := rP.mp (hall _ (List.getElem_mem ht))
          rw [b1o l i _ this.1 oM]; rfl
        · rw [if_neg ht, List.getD_eq_getElem?_getD, List.getElem?_eq_none (by simp; omega)]; rfl
      rw [hwv, hwv, hwv]
      simp only [Bool.true_and, Bool.and_true]
      exact c5y l hl _ hlen (fun p hp => by have := rP.mp (hall p hp); omega) op W K A B C _ (d1s l _ _ op W K A B C rfl (by simp)) _ 0 (Nat.zero_add _)
    · have hw' : inB W 1 8 = false := by simpa using hw
      refine kH hw ?_
      rw [hw']; simp only [Bool.false_and]; exact kQ
  · unfold sM
    have hnot : (kV op A B C).all (fun p => inB p 0 (((l.take i).length : Int) - 1)) = false := by
      rw [htk]
      cases e : (kV op A B C).all (fun p => inB p 0 ((i : Int) - 1)) with
      | false => rfl
      | true => exact absurd (List.all_eq_true.mp e) hn
    rw [hnot]; simp
def a1v (l : List S31) (i : Nat) : Bool := sM (l.take i) (kA l i).f0 (kA l i).f1 (kA l i).f2 (kA l i).f3 (kA l i).f4 (kA l i).f5
def rT (l : List S31) : Prop := ∀ i < l.length, a1v l i = true
def yC (l : List S31) : Prop := 1 ≤ l.length ∧ l.length ≤ 80 ∧ rT l
theorem b3h (l : List S31) (hl : l.length ≤ 80) (d : Nat) : ∀ i : Nat, i + d = l.length → ∃ r, Ev (fun k => tX k l (i : Int)) r ∧ Ev (fun k => uA k l l (l.length : Int) (i : Int)) r ∧ (r = true ↔ ∀ j < l.length, i ≤ j → a1v l j = true) := by
  induction d with
  | zero =>
    intro i hi
    refine ⟨true, kR ?_, kR ?_, by simp; intro j h1 h2; omega⟩
    · simp only [tX]; exact kH oM kQ
    · simp only [uA]; exact kH oM kQ
  | succ d ih =>
    intro i hi
    have hlt : i < l.length := by omega
    obtain ⟨r, e1, e2, h⟩ := ih (i + 1) oM
    have hn := b7o l oM i hlt
    by_cases hb : a1v l i = true
    · refine ⟨r, kR ?_, kR ?_, ?_⟩
      · simp only [tX]
        refine kD oM (kF hn (kD hb ?_))
        rw [wS i]; exact e1
      · simp only [uA]
        refine kD oM (kD oM (kD oM (kD oM (kU rfl (kD hb ?_)))))
        rw [wS i]; exact e2
      · rw [h]
        constructor
        · intro hh j h1 h2
          rcases Nat.lt_or_ge i j with h3 | h3
          · exact hh j h1 h3
          · obtain rfl : i = j := by omega
            exact hb
        · intro hh j h1 h2
          exact hh j h1 oM
    · refine ⟨false, kR ?_, kR ?_, ?_⟩
      · simp only [tX]
        exact kD oM (kF hn (kH hb kQ))
      · simp only [uA]
        exact kD oM (kD oM (kD oM (kD oM (kU rfl (kH hb kQ)))))
      · simp only [Bool.false_eq_true, false_iff]
        intro hh
        exact hb (hh i hlt oM)
theorem a8d (l : List S31) : ∃ r, Ev (fun k => uU k l) r ∧ Ev (fun k => wO k l) r ∧ (r = true ↔ yC l) := by
  by_cases hb : 1 ≤ (l.length : Int) ∧ (l.length : Int) ≤ 80
  · obtain ⟨r, e1, e2, h⟩ := b3h l oM l.length 0 oM
    refine ⟨r, ?_, ?_, ?_⟩
    · unfold uU; exact kU (inS _ _ _) (kD (by simpa using hb) e1)
    · unfold wO; exact kU (inI _ _ _) (kD (by simpa using hb) e2)
    · rw [h]; unfold yC rT
      constructor
      · intro hh; exact ⟨oM, oM, fun i hi => hh i hi oM⟩
      · intro hh j h1 _; exact hh.2.2 j h1
  · refine ⟨false, ?_, ?_, ?_⟩
    · unfold uU; exact kU (inS _ _ _) (kH (by simpa using hb) kQ)
    · unfold wO; exact kU (inI _ _ _) (kH (by simpa using hb) kQ)
    · simp only [Bool.false_eq_true, false_iff]; unfold yC; omega
def pl (l : List S31) (i : Nat) : List Int := kV (kA l i).f0 (kA l i).f3 (kA l i).f4 (kA l i).f5
def yQ (l : List S31) : Prop := ∀ i < l.length, ∀ p ∈ pl l i, 0 ≤ p ∧ p < (i : Int)
theorem rS {l : List S31} (h : rT l) : yQ l := by
  intro i hi p hp
  have hb := h i hi
  unfold a1v sM at hb
  simp only [Bool.and_eq_true] at hb
  have := rP.mp (List.all_eq_true.mp hb.1.2 p hp)
  rw [List.length_take] at this
  omega
def a3m (met : List Bool) (ps : List Int) : List Bool := ps.foldl (fun m p => m.set p.toNat true) met
theorem a7f (ps : List Int) : ∀ met : List Bool, (a3m met ps).length = met.length := by
  induction ps with
  | nil => intro met; rfl
  | cons p ps ih => intro met; show (a3m (met.set p.toNat true) ps).length = _; rw [ih, List.length_set]
def a9u (pb : Nat → Bool) (l : List S31) (j : Nat) (met : List Bool) : List Bool := if met.getD j false = true ∧ pb j = true then a3m met (pl l j) else met
def rgo (pb : Nat → Bool) (l : List S31) : Nat → List Bool → List Bool
  | 0, met => met
  | j + 1, met => rgo pb l j (a9u pb l j met)
theorem b6o (pb : Nat → Bool) (l : List S31) (j : Nat) (met : List Bool) : (a9u pb l j met).length = met.length := by
  unfold a9u; split
  · rw [a7f]
  · rfl
theorem c5p (pb : Nat → Bool) (l : List S31) (j : Nat) : ∀ met, (rgo pb l j met).length = met.length := by
  induction j with
  | zero => intro met; rfl
  | succ j ih => intro met; show (rgo pb l j _).length = _; rw [ih, b6o]
def b2t (pb : Nat → Bool) (l : List S31) (root : Nat) : List Bool := rgo pb l (root + 1) ((List.replicate l.length false).set root true)
theorem b3q (pb : Nat → Bool) (l : List S31) (root : Nat) : (b2t pb l root).length = l.length := by unfold b2t; rw [c5p]; simp
theorem rdB (l : List Bool) (i : Nat) (h : i < l.length) : vD false l (i : Int) = l[i] := by
  unfold vD
  rw [Int.toNat_natCast, List.getD_eq_getElem?_getD, List.getElem?_eq_getElem h]; rfl
theorem gdB (l : List Bool) (i : Nat) (h : i < l.length) : l.getD i false = l[i] := by
  rw [List.getD_eq_getElem?_getD, List.getElem?_eq_getElem h]; rfl
theorem b1l (ps : List Int) (t : Nat) (h : t < ps.length) (met : List Bool) : a3m met (ps.drop t) = a3m (met.set (rd ps (t : Int)).toNat true) (ps.drop (t + 1)) := by
  rw [List.drop_eq_getElem_cons h, rdI ps t h]; rfl
theorem b6v (l : List S31) (i : Nat) (hi : i < l.length) (ps : List Int) (hps : ps.length ≤ 3) (hp : ∀ p ∈ ps, 0 ≤ p ∧ p < (l.length : Int)) (R : List Bool) (d : Nat) : ∀ (t : Nat) (met : List Bool), t + d = ps.length → met.length = l.length → met.getD i false = true →
    Ev (fun k => qW k l (a3m met (ps.drop t)) (wrap64 ((i : Int) - 1))) R → Ev (fun k => sH k l met (i : Int) ps (t : Int)) R := by
  induction d with
  | zero =>
    intro t met ht hm hb h
    refine kR ?_
    simp only [sH]
    refine kH oM ?_
    rw [List.drop_eq_nil_of_le oM] at h
    exact h
  | succ d ih =>
    intro t met ht hm hb h
    have hlt : t < ps.length := by omega
    have hq := hp _ (List.getElem_mem hlt)
    have him : i < met.length := by omega
    refine kR ?_
    simp only [sH]
    rw [b1l ps t hlt] at h
    refine kD oM (kD oM (kD oM (kD (by rw [rdB met i him, ← gdB met i him]; exact hb) (kD oM (kD (by rw [rdI ps t hlt]; exact hq.1) (kD (by rw [rdI ps t hlt]; omega) ?_))))))
    rw [wS t]
    refine ih (t + 1) _ oM (by rw [List.length_set]; exact hm) ?_ h
    rw [gdB _ i (by rw [List.length_set]; exact him), List.getElem_set]
    split
    · rfl
    · rw [← gdB met i him]; exact hb
theorem b6w (l : List S31) (hl : l.length ≤ 4611686018427387904) (hP : yQ l) (j : Nat) : ∀ met : List Bool, j ≤ l.length → met.length = l.length → Ev (fun k => qW k l met ((j : Int) - 1)) (rgo (fun _ => true) l j met) := by
  induction j with
  | zero =>
    intro met hj hm
    refine kR ?_
    simp only [qW]
    exact kH oM kQ
  | succ j ih =>
    intro met hj hm
    have hlt : j < met.length := by omega
    rw [show ((j + 1 : Nat) : Int) - 1 = (j : Int) by omega]
    show Ev _ (rgo _ l j (a9u _ l j met))
    have jump : ∀ met' : List Bool, met'.length = l.length → Ev (fun k => qW k l met' (wrap64 ((j : Int) - 1))) (rgo (fun _ => true) l j met') := by
      intro met' hm'
      rw [oY oM oM]
      exact ih met' oM hm'
    refine kR ?_
    simp only [qW]
    refine kD oM (kD oM (kD oM (kF (a6x 1 fun k hk => a7i _ _ _ _ _ _ hk) ?_)))
    by_cases hb : met.getD j false = true
    · have hs : a9u (fun _ => true) l j met = a3m met (pl l j) := by unfold a9u; rw [if_pos ⟨hb, rfl⟩]
      rw [hs]
      exact b6v l j oM (pl l j) (uD _ _ _ _) (fun p hp => by have := hP j oM p hp; omega) (rgo _ l j (a3m met (pl l j))) (pl l j).length 0 met oM hm hb (jump _ (by rw [List.drop_zero, a7f]; exact hm))
    · have hs : a9u (fun _ => true) l j met = met := by unfold a9u; rw [if_neg (fun h => hb h.1)]
      rw [hs]
      refine kR ?_
      simp only [sH]
      by_cases h0 : (0 : Int) < ((pl l j).length : Int)
      · refine kD h0 (kD oM (kD oM (kH ?_ (jump met hm))))
        rw [rdB met j hlt, ← gdB met j hlt]; exact hb
      · exact kH h0 (jump met hm)
theorem b6x (l : List S31) (hl : l.length ≤ 1048576) (hP : yQ l) (d : Nat) : ∀ i : Nat, i + d = l.length →
    Ev (fun k => tN k l ((List.range i).map fun t : Nat => ((t : Int) == (l.length : Int) - 1)) (i : Int)) (rgo (fun _ => true) l l.length ((List.range l.length).map fun t : Nat => ((t : Int) == (l.length : Int) - 1))) := by
  induction d with
  | zero =>
    intro i hi
    obtain rfl : i = l.length := by omega
    refine kR ?_
    simp only [tN]
    refine kH oM ?_
    rw [oY oM oM]
    exact b6w l oM hP l.length _ (Nat.le_refl _) (by simp)
  | succ d ih =>
    intro i hi
    refine kR ?_
    simp only [tN]
    refine kD oM (kD (by rw [List.length_map, List.length_range]; omega) ?_)
    rw [oY (x := (l.length : Int) - 1) oM oM, wS i]
    have := ih (i + 1) oM
    rwa [List.range_succ, List.map_append] at this
theorem b1t (l : List S31) (hl : l.length ≤ 1048576) (h0 : 1 ≤ l.length) (hP : yQ l) : Ev (fun k => wC k l) (b2t (fun _ => true) l (l.length - 1)) := by
  unfold wC b2t
  have := b6x l hl hP l.length 0 oM
  rw [show l.length - 1 + 1 = l.length by omega]
  have e : (List.replicate l.length false).set (l.length - 1) true = (List.range l.length).map fun t : Nat => ((t : Int) == (l.length : Int) - 1) := by
    apply List.ext_getElem
    · simp
    · intro t h1 h2
      rw [List.getElem_set, List.getElem_map, List.getElem_range]
      by_cases c : l.length - 1 = t
      · rw [if_pos c]; symm; simp; omega
      · rw [if_neg c, List.getElem_replicate]; symm; simp; simp at h2; omega
  rw [e]
  exact this
theorem d2w (a b c d e f : Int) : rG a b c d e f = some ((a == 19) || (a == 20)) := by
  unfold rG
  by_cases h : a = 19
  · rw [if_pos h]; simp [h]
  · rw [if_neg h]; simp [h]
theorem d0q (a : Int) : rF a = some ((a == 19) || (a == 20)) := by
  unfold rF
  by_cases h : a = 19
  · rw [if_pos h]; simp [h]
  · rw [if_neg h]; simp [h]
def d2x (l : List S31) (i : Nat) : Bool := ((kA l i).f0 == 19) || ((kA l i).f0 == 20)
def d1n (l : List S31) (v : Int) (i : Nat) : Bool := ((kA l i).f0 == 1) && ((kA l i).f2 == v)
def c6q (l : List S31) (v : Int) (i : Nat) : Bool := d2x l i && ((kA l i).f2 == v)
def b8k (l : List S31) (T : List (List Bool)) (i v : Nat) : Bool :=
  if c6q l v i = true then false else (d1n l v i || (pl l i).any fun p => (T.getD p.toNat []).getD v false)
def FT (l : List S31) : Nat → List (List Bool)
  | 0 => []
  | i + 1 => FT l i ++ [(List.range 8).map (b8k l (FT l i) i)]
theorem b1a (l : List S31) (i : Nat) : (FT l i).length = i := by
  induction i with
  | zero => rfl
  | succ i ih => simp [FT, ih]
theorem d1l (l : List S31) (i : Nat) : ∀ r ∈ FT l i, r.length = 8 := by
  induction i with
  | zero => intro r hr; simp [FT] at hr
  | succ i ih =>
    intro r hr
    simp only [FT, List.mem_append, List.mem_singleton] at hr
    rcases hr with hr | rfl
    · exact ih r hr
    · simp
theorem d1m (l : List S31) (n : Nat) : ∀ i < n, (FT l n).getD i [] = (List.range 8).map (b8k l (FT l i) i) := by
  induction n with
  | zero => intro i hi; omega
  | succ n ih =>
    intro i hi
    rw [FT, List.getD_eq_getElem?_getD]
    by_cases h : i < n
    · rw [List.getElem?_append_left (by rw [b1a]; exact h), ← List.getD_eq_getElem?_getD]; exact ih i h
    · obtain rfl : i = n := by omega
      rw [List.getElem?_append_right (by rw [b1a]; exact Nat.le_refl _), b1a, Nat.sub_self]; rfl
theorem l2F (l : List S31) (i : Nat) (hi : i < l.length) (hl : l.length ≤ 80) (T : List (List Bool)) (hT : T.length = i) (hR : ∀ r ∈ T, r.length = 8) (row : List Bool) (v : Nat) (hv : v < 8) (hrow : row.length = v) (ps : List Int) (hps : ps.length ≤ 3) (hp : ∀ p ∈ ps, 0 ≤ p ∧ p < (i : Int)) (R : List Bool) (d : Nat) :
    ∀ (t : Nat) (x7 : Bool), t + d = ps.length →
    Ev (fun k => qH k l T (i : Int) (row ++ [if c6q l v i = true then false else (x7 || (ps.drop t).any fun p => (T.getD p.toNat []).getD v false)]) (wrap64 ((v : Int) + 1))) R →
    Ev (fun k => tG k l T (i : Int) row (v : Int) x7 ps (t : Int)) R := by
  induction d with
  | zero =>
    intro t x7 ht h
    rw [List.drop_eq_nil_of_le oM] at h
    simp only [List.any_nil, Bool.or_false] at h
    refine kR ?_
    simp only [tG]
    refine kH oM (kD oM (kD oM ?_))
    unfold c6q d2x at h
    by_cases a : (kA l i).f0 = 19
    · refine kD a ?_
      by_cases b : (kA l i).f2 = (v : Int)
      · rw [if_pos (by simp [a, b])] at h
        exact kD b (kD oM h)
      · rw [if_neg (by simp [a, b])] at h
        exact kH b (kD oM h)
    · refine kH a ?_
      by_cases a2 : (kA l i).f0 = 20
      · refine kD a2 ?_
        by_cases b : (kA l i).f2 = (v : Int)
        · rw [if_pos (by simp [a2, b])] at h
          exact kD b (kD oM h)
        · rw [if_neg (by simp [a2, b])] at h
          exact kH b (kD oM h)
      · rw [if_neg (by simp [a, a2])] at h
        exact kH a2 (kD oM h)
  | succ d ih =>
    intro t x7 ht h
    have hlt : t < ps.length := by omega
    have hq := hp _ (List.getElem_mem hlt)
    rw [List.drop_eq_getElem_cons hlt, List.any_cons, ← Bool.or_assoc] at h
    refine kR ?_
    simp only [tG]
    refine kD oM ?_
    rw [wS t, rdI ps t hlt]
    by_cases hx : x7 = true
    · rw [hx, Bool.true_or] at h
      exact kD hx (ih (t + 1) true oM h)
    · have hx' : x7 = false := by simpa using hx
      rw [hx', Bool.false_or] at h
      have hr : (T.getD ps[t].toNat []).length = 8 := by
        rw [List.getD_eq_getElem?_getD, List.getElem?_eq_getElem oM]
        exact hR _ (List.getElem_mem _)
      refine kH hx (kD oM (kD hq.1 (kD oM (kD oM (kD ?_ ?_)))))
      · show (v : Int) < ((T.getD ps[t].toNat []).length : Int); omega
      · refine ih (t + 1) _ oM ?_
        exact h
theorem l1F (l : List S31) (i : Nat) (hi : i < l.length) (hl : l.length ≤ 80) (hP : yQ l) (T : List (List Bool)) (hT : T.length = i) (hR : ∀ r ∈ T, r.length = 8) (R : List Bool)
    (h : Ev (fun k => tH k l (T ++ [(List.range 8).map (b8k l T i)]) (wrap64 ((i : Int) + 1))) R) (d : Nat) :
    ∀ v : Nat, v + d = 8 → Ev (fun k => qH k l T (i : Int) ((List.range v).map (b8k l T i)) (v : Int)) R := by
  induction d with
  | zero =>
    intro v hv
    obtain rfl : v = 8 := by omega
    refine kR ?_
    simp only [qH]
    exact kH oM (kD oM h)
  | succ d ih =>
    intro v hv
    refine kR ?_
    simp only [qH]
    have go : ∀ x7 : Bool, x7 = d1n l v i → Ev (fun k => vI k l T (i : Int) ((List.range v).map (b8k l T i)) (v : Int) x7) R := by
      rintro x7 rfl
      refine kR ?_
      simp only [vI]
      refine kD oM (kD oM (kF (a6x 1 fun k hk => a7i _ _ _ _ _ _ hk) ?_))
      refine l2F l i hi hl T hT hR _ v oM (by simp) (pl l i) (uD _ _ _ _) (hP i hi) R (pl l i).length 0 _ oM ?_
      have := ih (v + 1) oM
      rw [List.range_succ, List.map_append] at this
      rw [wS v]
      exact this
    refine kD oM (kD oM (kD oM ?_))
    by_cases a : (kA l i).f0 = 1
    · exact kD a (go _ (by unfold d1n; simp [a]))
    · exact kH a (go _ (by unfold d1n; simp [a]))
theorem l0F (l : List S31) (hl : l.length ≤ 80) (h0 : 1 ≤ l.length) (hP : yQ l) (d : Nat) : ∀ i : Nat, i + d = l.length → Ev (fun k => tH k l (FT l i) (i : Int)) ((FT l l.length).getD (l.length - 1) []) := by
  induction d with
  | zero =>
    intro i hi
    obtain rfl : i = l.length := by omega
    refine kR ?_
    simp only [tH]
    rw [oY (x := (l.length : Int) - 1) oM oM]
    refine kH oM (kD oM (kD (by rw [b1a]; omega) (uN ?_)))
    unfold a5n
    rw [show ((l.length : Int) - 1).toNat = l.length - 1 by omega]
  | succ d ih =>
    intro i hi
    refine kR ?_
    simp only [tH]
    refine kD oM ?_
    refine l1F l i oM hl hP (FT l i) (b1a l i) (d1l l i) _ ?_ 8 0 rfl
    have := ih (i + 1) oM
    rw [wS i]
    exact this
theorem b3y (l : List S31) (hl : l.length ≤ 80) (h0 : 1 ≤ l.length) (hP : yQ l) : Ev (fun k => yD k l) ((FT l l.length).getD (l.length - 1) []) := l0F l hl h0 hP l.length 0 oM
def mkB (l : List UInt8) : ByteArray := ⟨l.toArray⟩
theorem kX (a b : List UInt8) : mkB a ++ mkB b = mkB (a ++ b) := by
  unfold mkB
  apply ByteArray.ext
  rw [ByteArray.data_append]; simp
theorem kP (a : List UInt8) : (mkB a).size = a.length := by unfold mkB; simp [ByteArray.size]
theorem qQ (a : List UInt8) : (mkB a).toList = a := by rw [ByteArray.toList_eq]; unfold mkB; simp
def d8 (n : Int) : UInt8 := UInt8.ofNat (48 + n.toNat)
def wH (n : Int) : List UInt8 := if n < 10 then [d8 n] else if n < 100 then [d8 (n / 10), d8 (n % 10)] else [d8 (n / 100), d8 (n / 10 % 10), d8 (n % 10)]
theorem vE (n : Int) : 1 ≤ (wH n).length ∧ (wH n).length ≤ 3 := by unfold wH; split <;> (try split) <;> simp
theorem d2z {d : Int} (h0 : 0 ≤ d) (h1 : d < 10) : (⟨#[48, 49, 50, 51, 52, 53, 54, 55, 56, 57]⟩ : ByteArray).extract d.toNat (d + 1).toNat = mkB [d8 d] := by
  have : d = 0 ∨ d = 1 ∨ d = 2 ∨ d = 3 ∨ d = 4 ∨ d = 5 ∨ d = 6 ∨ d = 7 ∨ d = 8 ∨ d = 9 := by omega
  rcases this with rfl | rfl | rfl | rfl | rfl | rfl | rfl | rfl | rfl | rfl <;> decide +kernel
theorem d3s {d : Int} (h0 : 0 ≤ d) (h1 : d < 10) : strOfNums [(IntKind.u64.wrap (48 + d)) % 256] = mkB [d8 d] := by
  have : d = 0 ∨ d = 1 ∨ d = 2 ∨ d = 3 ∨ d = 4 ∨ d = 5 ∨ d = 6 ∨ d = 7 ∨ d = 8 ∨ d = 9 := by omega
  rcases this with rfl | rfl | rfl | rfl | rfl | rfl | rfl | rfl | rfl | rfl <;> decide +kernel
theorem a6e (a m : Int) (ha : 0 ≤ a) (h0 : 0 < m) (h1 : m ≤ 999) (acc : List UInt8) (hacc : acc.length ≤ 100) (r : ByteArray) (h : Ev (fun k => pX k a (mkB (d8 (m % 10) :: acc)) (m / 10)) r) :
    Ev (fun k => pX k a (mkB acc) m) r := by
  refine kR ?_
  simp only [pX]
  rw [Int.tmod_eq_emod_of_nonneg oM, Int.tdiv_eq_ediv_of_nonneg oM]
  have hm : 0 ≤ m % 10 ∧ m % 10 < 10 := by omega
  rw [oY (x := m % 10 + 1) oM oM, oY (x := m / 10) oM oM, d2z hm.1 hm.2, kX, kP, kP]
  exact kH oM (kH oM (kD oM (kD oM (kD oM (kD (by simp; omega) h)))))
theorem c2q (n : Int) (h0 : 0 ≤ n) (h1 : n ≤ 999) : Ev (fun k => pQ k n) (mkB (wH n)) := by
  unfold pQ
  by_cases hz : n = 0
  · subst hz; exact kD rfl (uN (by decide +kernel))
  · refine kH hz ?_
    have fin : ∀ l : List UInt8, Ev (fun k => pX k n (mkB l) 0) (mkB l) := by
      intro l
      refine kR ?_
      simp only [pX]
      exact kD trivial (kH oM kQ)
    refine a6e n n h0 oM h1 [] (by simp) _ ?_
    by_cases h10 : n < 10
    · rw [show n / 10 = 0 by omega, show n % 10 = n by omega]
      unfold wH; rw [if_pos h10]; exact fin _
    · refine a6e n _ h0 oM oM _ (by simp) _ ?_
      by_cases h100 : n < 100
      · rw [show n / 10 / 10 = 0 by omega, show n / 10 % 10 = n / 10 by omega]
        unfold wH; rw [if_neg h10, if_pos h100]; exact fin _
      · refine a6e n _ h0 oM oM _ (by simp) _ ?_
        rw [show n / 10 / 10 / 10 = 0 by omega, show n / 10 / 10 % 10 = n / 100 by omega]
        unfold wH; rw [if_neg h10, if_neg h100]; exact fin _
theorem a6f (m : Int) (h1 : 0 ≤ m) (h2 : m ≤ 999) (acc : List UInt8) (hacc : acc.length ≤ 100) (h0 : 0 < m ∨ acc = []) (r : ByteArray) (h : Ev (fun k => rH k (m / 10) (mkB (d8 (m % 10) :: acc))) r) :
    Ev (fun k => rH k m (mkB acc)) r := by
  have hw : IntKind.u64.wrap (m / 10) = m / 10 := b6g oM oM
  refine kR ?_
  simp only [rH]
  rw [Int.tmod_eq_emod_of_nonneg oM, Int.tdiv_eq_ediv_of_nonneg oM, hw, qQ]
  have hd := d3s (d := m % 10) oM oM
  have fin : Ev (fun k => if (strOfNums [(IntKind.u64.wrap (48 + m % 10)) % 256]).size + (mkB acc).size ≤ 9223372036854775807 then rH k (m / 10) (strOfNums [(IntKind.u64.wrap (48 + m % 10)) % 256] ++ mkB acc) else none) r := by
    rw [hd, kX, kP, kP]
    exact kD (by simp; omega) h
  by_cases he : acc = []
  · exact kD he (kU rfl fin)
  · exact kH he (kD (by rcases h0 with h | h; exact h; exact absurd h he) (kU rfl fin))
theorem c2r (n : Int) (h0 : 0 ≤ n) (h1 : n ≤ 999) : Ev (fun k => qE k n) (mkB (wH n)) := by
  unfold qE xU
  have hu : IntKind.u64.wrap n = n := b6g oM oM
  rw [hu]
  refine kH oM (kF (a := mkB (wH n)) ?_ kQ)
  have fin : ∀ l : List UInt8, l ≠ [] → Ev (fun k => rH k 0 (mkB l)) (mkB l) := by
    intro l hl
    refine kR ?_
    simp only [rH]
    rw [qQ]
    exact kH hl (kH oM kQ)
  refine a6f n h0 h1 [] (by simp) (.inr rfl) _ ?_
  by_cases h10 : n < 10
  · rw [show n / 10 = 0 by omega, show n % 10 = n by omega]
    unfold wH; rw [if_pos h10]; exact fin _ (by simp)
  · refine a6f _ oM oM _ (by simp) (.inl oM) _ ?_
    by_cases h100 : n < 100
    · rw [show n / 10 / 10 = 0 by omega, show n / 10 % 10 = n / 10 by omega]
      unfold wH; rw [if_neg h10, if_pos h100]; exact fin _ (by simp)
    · refine a6f _ oM oM _ (by simp) (.inl oM) _ ?_
      rw [show n / 10 / 10 / 10 = 0 by omega, show n / 10 / 10 % 10 = n / 100 by omega]
      unfold wH; rw [if_neg h10, if_neg h100]; exact fin _ (by simp)
def rA : List (List UInt8) := [[97, 110, 100], [111, 114], [120, 111, 114], [97, 100, 100], [115, 117, 98], [109, 117, 108], [100, 105, 118], [114, 101, 109], [115, 104, 108], [115, 104, 114], [61], [60], [115, 60], [106, 111, 105, 110]]
theorem a7c (i : Nat) : (rA.getD i []).length ≤ 4 := by
  by_cases h : i < 14
  · have : i = 0 ∨ i = 1 ∨ i = 2 ∨ i = 3 ∨ i = 4 ∨ i = 5 ∨ i = 6 ∨ i = 7 ∨ i = 8 ∨ i = 9 ∨ i = 10 ∨ i = 11 ∨ i = 12 ∨ i = 13 := by omega
    rcases this with rfl | rfl | rfl | rfl | rfl | rfl | rfl | rfl | rfl | rfl | rfl | rfl | rfl | rfl <;> decide
  · rw [List.getD_eq_getElem?_getD, List.getElem?_eq_none (by simp [rA]; omega)]; simp
def hdL (op W K B : Int) : List UInt8 :=
  if op = 2 then [110, 111, 116] else if op = 17 then [115, 108, 105, 99, 101, 32] ++ wH K ++ [32] ++ wH W else if op = 18 then [105, 102]
  else if op = 19 then [97, 108, 108, 32, 118] ++ wH K ++ [58] ++ wH B else if op = 20 then [115, 111, 109, 101, 32, 118] ++ wH K ++ [58] ++ wH B else rA.getD (op - 3).toNat []
theorem b7v (op W K B : Int) : (hdL op W K B).length ≤ 20 := by
  have h1 := vE K; have h2 := vE W; have h3 := vE B; have h4 := a7c (op - 3).toNat
  unfold hdL; repeat' split
  all_goals (try simp only [List.length_append, List.length_cons, List.length_nil])
  all_goals omega
def yW (op W K : Int) : List UInt8 := if op = 0 then [35] ++ wH W ++ [58] ++ wH K else [118] ++ wH K ++ [58] ++ wH W
theorem zS (op W K : Int) : 4 ≤ (yW op W K).length ∧ (yW op W K).length ≤ 10 := by
  have h1 := vE K; have h2 := vE W
  unfold yW; split <;> simp only [List.length_append, List.length_cons, List.length_nil] <;> omega
def a1k (ts : List (List UInt8)) (ps : List Int) : List UInt8 := ps.flatMap fun p => 32 :: ts.getD p.toNat []
def a9s (op W K B : Int) (ts : List (List UInt8)) (ps : List Int) : List UInt8 := 40 :: hdL op W K B ++ a1k ts ps ++ [41]
def b2r (ts : List (List UInt8)) (op W K A B C : Int) : List UInt8 :=
  if op = 0 ∨ op = 1 then yW op W K else if ((kV op A B C).all fun p => ts.getD p.toNat [] != []) = true ∧ (a9s op W K B ts (kV op A B C)).length ≤ 4000 then a9s op W K B ts (kV op A B C) else []
def tW (l : List S31) : Nat → List (List UInt8)
  | 0 => []
  | i + 1 => tW l i ++ [b2r (tW l i) (kA l (i : Int)).f0 (kA l (i : Int)).f1 (kA l (i : Int)).f2 (kA l (i : Int)).f3 (kA l (i : Int)).f4 (kA l (i : Int)).f5]
theorem sT (l : List S31) (i : Nat) : (tW l i).length = i := by
  induction i with
  | zero => rfl
  | succ i ih => simp [tW, ih]
theorem c5d (ts : List (List UInt8)) (op W K A B C : Int) : (b2r ts op W K A B C).length ≤ 4000 := by
  unfold b2r
  split
  · have := zS op W K; omega
  · split
    · rename_i h; exact h.2
    · simp
theorem a5e (l : List S31) (i : Nat) : ∀ t ∈ tW l i, t.length ≤ 4000 := by
  induction i with
  | zero => intro t ht; simp [tW] at ht
  | succ i ih =>
    intro t ht
    simp only [tW, List.mem_append, List.mem_singleton] at ht
    rcases ht with ht | rfl
    · exact ih t ht
    · exact c5d _ _ _ _ _ _ _
theorem b1v (ts : List (List UInt8)) (h : ∀ t ∈ ts, t.length ≤ 4000) (i : Nat) : (ts.getD i []).length ≤ 4000 := by
  rw [List.getD_eq_getElem?_getD]
  by_cases hi : i < ts.length
  · rw [List.getElem?_eq_getElem hi]; exact h _ (List.getElem_mem hi)
  · rw [List.getElem?_eq_none oM]; simp
theorem b7a (ts : List (List UInt8)) (h : ∀ t ∈ ts, t.length ≤ 4000) (ps : List Int) : (a1k ts ps).length ≤ 4001 * ps.length := by
  unfold a1k
  induction ps with
  | nil => simp
  | cons p ps ih =>
    simp only [List.flatMap_cons, List.length_append, List.length_cons]
    have := b1v ts h p.toNat
    omega
theorem a9y (ts : List (List UInt8)) (ps : List Int) (t : Nat) (h : t < ps.length) : a1k ts (ps.take (t + 1)) = a1k ts (ps.take t) ++ ([32] ++ ts.getD (rd ps (t : Int)).toNat []) := by
  unfold a1k
  rw [List.take_succ_eq_append_getElem h, List.flatMap_append, rdI ps t h]; simp
theorem c2k (ts : List (List UInt8)) (p : Int) (h0 : 0 ≤ p) (h1 : p.toNat < ts.length) (rest : List ByteArray) : vD ByteArray.empty (ts.map mkB ++ rest) p = mkB (ts.getD p.toNat []) := by
  unfold vD
  rw [List.getD_eq_getElem?_getD, List.getElem?_append_left (by simpa using h1), List.getElem?_map, List.getD_eq_getElem?_getD, List.getElem?_eq_getElem h1]; rfl
structure NumOk (op W K A B C : Int) : Prop where
  op0 : 0 ≤ op
  op1 : op ≤ 20
  w0 : 1 ≤ W
  w1 : W ≤ 8
  k0 : op = 0 ∨ op = 1 ∨ op = 17 ∨ op = 19 ∨ op = 20 → 0 ≤ K ∧ K ≤ 255
  b0 : op = 19 ∨ op = 20 → 0 ≤ B ∧ B ≤ 8
theorem b8v {l : List S31} (h : rT l) (i : Nat) (hi : i < l.length) : 1 ≤ (kA l (i : Int)).f1 ∧ (kA l (i : Int)).f1 ≤ 8 := by
  have hb := h i hi
  unfold a1v sM at hb
  simp only [Bool.and_eq_true] at hb
  exact rP.mp hb.1.1.1.1
theorem a7l {l : List S31} (hN : rT l) (i : Nat) (hi : i < l.length) : NumOk (kA l i).f0 (kA l i).f1 (kA l i).f2 (kA l i).f3 (kA l i).f4 (kA l i).f5 := by
  have hb := hN i hi
  unfold a1v at hb
  have hwid : ∀ p : Int, inB p 0 (((l.take i).length : Int) - 1) = true → 1 ≤ (kA (l.take i) p).f1 ∧ (kA (l.take i) p).f1 ≤ 8 := by
    intro p hp
    have hp := rP.mp hp
    rw [List.length_take] at hp
    obtain ⟨q, rfl⟩ := Int.eq_ofNat_of_zero_le hp.1
    rw [b1o l i _ hp.1 oM]
    exact b8v hN q oM
  generalize l.take i = L at hb hwid
  generalize (kA l i).f0 = op at *
  generalize (kA l i).f1 = W at *
  generalize (kA l i).f2 = K at *
  generalize (kA l i).f3 = A at *
  generalize (kA l i).f4 = B at *
  generalize (kA l i).f5 = C at *
  unfold sM at hb
  simp only [Bool.and_eq_true] at hb
  obtain ⟨⟨⟨⟨hw, hop⟩, hu⟩, hp⟩, hs⟩ := hb
  have hw := rP.mp hw
  have hop := rP.mp hop
  refine ⟨hop.1, hop.2, hw.1, hw.2, fun h => ?_, fun h => ?_⟩
  · rcases h with rfl | rfl | rfl | rfl | rfl
    · have hs : wok W K = true := by simpa [pM] using hs
      obtain ⟨h1, h2, h3, h4⟩ := c5a.mp hs
      have := b3d (by omega : 0 ≤ W) h2
      omega
    · have hs : inB K 0 7 = true := by simpa [pM] using hs
      have := rP.mp hs; omega
    · have hA := hwid A (List.all_eq_true.mp hp A (by simp [kV]))
      have hwv : wv L (kV 17 A B C) (kV 17 A B C).length 0 = (kA L A).f1 := by simp [wv, kV, rd]
      rw [hwv] at hs
      have hs : inB K 0 (wrap64 ((kA L A).f1 - W)) = true := by simpa [pM] using hs
      rw [oY oM oM] at hs
      have := rP.mp hs; omega
    · have hs : inB K 0 7 = true := by
        simp only [pM] at hs; simp at hs; exact hs.1.1.1
      have := rP.mp hs; omega
    · have hs : inB K 0 7 = true := by
        simp only [pM] at hs; simp at hs; exact hs.1.1.1
      have := rP.mp hs; omega
  · have hs : inB B 1 8 = true := by
      rcases h with rfl | rfl <;> (simp only [pM] at hs; simp at hs; exact hs.1.1.2)
    have := rP.mp hs; omega
theorem b9e (ts : List (List UInt8)) (hts : ∀ t ∈ ts, t.length ≤ 4000) (ps : List Int) (hps : ps.length ≤ 3) (hp : ∀ p ∈ ps, 0 ≤ p ∧ p < (ts.length : Int)) (hd : List UInt8) (hh : hd.length ≤ 20) (d : Nat) : ∀ t : Nat, t + d = ps.length →
    Ev (fun k => uE k (ts.map mkB) (mkB (hd ++ a1k ts (ps.take t))) ps (t : Int)) (mkB (if ((ps.drop t).all fun p => ts.getD p.toNat [] != []) = true ∧ (40 :: hd ++ a1k ts ps ++ [41]).length ≤ 4000 then 40 :: hd ++ a1k ts ps ++ [41] else [])) := by
  have hle : ∀ t, (a1k ts (ps.take t)).length ≤ 12003 := by
    intro t
    have := b7a ts hts (ps.take t)
    rw [List.length_take] at this
    omega
  induction d with
  | zero =>
    intro t ht
    refine kR ?_
    simp only [uE]
    have h1 := hle t
    rw [List.take_of_length_le oM] at h1 ⊢
    rw [List.drop_eq_nil_of_le oM]
    refine kH oM ?_
    rw [show (⟨#[40]⟩ : ByteArray) = mkB [40] from rfl, show (⟨#[41]⟩ : ByteArray) = mkB [41] from rfl, kX, kX, kP, kP, List.length_append, oY oM oM]
    by_cases hb : (40 :: hd ++ a1k ts ps ++ [41]).length ≤ 4000
    · have e : (if ((([] : List Int)).all fun p => ts.getD p.toNat [] != []) = true ∧ (40 :: hd ++ a1k ts ps ++ [41]).length ≤ 4000 then 40 :: hd ++ a1k ts ps ++ [41] else []) = 40 :: hd ++ a1k ts ps ++ [41] := if_pos ⟨rfl, hb⟩
      rw [e]
      simp only [List.length_append, List.length_cons, List.length_nil] at hb
      refine kH (by push_cast; omega) (kD oM (kD (by simp; omega) (uN ?_)))
      simp
    · have e : (if ((([] : List Int)).all fun p => ts.getD p.toNat [] != []) = true ∧ (40 :: hd ++ a1k ts ps ++ [41]).length ≤ 4000 then 40 :: hd ++ a1k ts ps ++ [41] else []) = [] := if_neg (fun h => hb h.2)
      rw [e]
      simp only [List.length_append, List.length_cons, List.length_nil] at hb
      exact kD (by push_cast; omega) kQ
  | succ d ih =>
    intro t ht
    have hlt : t < ps.length := by omega
    have hq := hp _ (List.getElem_mem hlt)
    have hr : rd ps (t : Int) = ps[t] := rdI ps t hlt
    have h1 := hle t
    refine kR ?_
    simp only [uE]
    have hrd := c2k ts (rd ps (t : Int)) (by rw [hr]; exact hq.1) (by rw [hr]; omega) []
    rw [List.append_nil] at hrd
    have hlast := b1v ts hts (rd ps (t : Int)).toNat
    rw [hrd, show (⟨#[32]⟩ : ByteArray) = mkB [32] from rfl, kX, kX, kP, kP, kP, qQ]
    refine kD oM (kD oM (kD (by rw [hr]; exact hq.1) (kD (by rw [hr, List.length_map]; exact hq.2) ?_)))
    rw [List.drop_eq_getElem_cons hlt, List.all_cons, ← hr]
    by_cases hz : ts.getD (rd ps (t : Int)).toNat [] = []
    · rw [if_neg (fun h => by rw [hz] at h; simp at h)]
      exact kD hz kQ
    · refine kH hz (kD (by simp only [List.length_append]; omega) (kD (by simp only [List.length_append, List.length_cons, List.length_nil]; omega) ?_))
      rw [wS t, List.append_assoc, List.append_assoc, ← a9y ts ps t hlt]
      have := ih (t + 1) oM
      have e : (ts.getD (rd ps (t : Int)).toNat [] != []) = true := by simpa using hz
      rw [e, Bool.true_and]
      exact this
theorem d1t (ts : List (List UInt8)) (hts : ∀ t ∈ ts, t.length ≤ 4000) (op W K A B C : Int) (hn : NumOk op W K A B C) (hp : ∀ p ∈ kV op A B C, 0 ≤ p ∧ p < (ts.length : Int)) :
    Ev (fun k => wU k op W K A B C (ts.map mkB)) (mkB (b2r ts op W K A B C)) := by
  have hW := c2q W (by have := hn.w0; omega) (by have := hn.w1; omega)
  have lW := vE W; have lK := vE K; have lB := vE B
  have join : ∀ hd : List UInt8, hd = hdL op W K B → ¬ (op = 0 ∨ op = 1) → Ev (fun k => rD k (ts.map mkB) (mkB hd) op W K A B C) (mkB (b2r ts op W K A B C)) := by
    intro hd he h01
    subst he
    refine kR ?_
    simp only [rD]
    refine kF (a6x 1 fun k hk => a7i _ _ _ _ _ _ hk) ?_
    have := b9e ts hts _ (uD op A B C) hp (hdL op W K B) (b7v op W K B) (kV op A B C).length 0 oM
    rw [List.take_zero, List.drop_zero] at this
    unfold b2r
    rw [if_neg h01]
    simpa [a1k, a9s] using this
  unfold wU
  by_cases o0 : op = 0
  · have hK := c2q K (hn.k0 (.inl o0)).1 (by have := (hn.k0 (.inl o0)).2; omega)
    refine kD o0 (kF hW (kD (by rw [kP]; omega) (kD (by rw [show (⟨#[35]⟩ : ByteArray) = mkB [35] from rfl, kX, kP]; simp; omega) (kF hK (kD ?_ (uN ?_))))))
    · rw [show (⟨#[35]⟩ : ByteArray) = mkB [35] from rfl, show (⟨#[58]⟩ : ByteArray) = mkB [58] from rfl, kX, kX, kP, kP]; simp; omega
    · rw [show (⟨#[35]⟩ : ByteArray) = mkB [35] from rfl, show (⟨#[58]⟩ : ByteArray) = mkB [58] from rfl, kX, kX, kX]
      unfold b2r yW; rw [if_pos (.inl o0), if_pos o0]
  refine kH o0 ?_
  by_cases o1 : op = 1
  · have hK := c2q K (hn.k0 (.inr (.inl o1))).1 (by have := (hn.k0 (.inr (.inl o1))).2; omega)
    refine kD o1 (kF hK (kD (by rw [kP]; omega) (kD (by rw [show (⟨#[118]⟩ : ByteArray) = mkB [118] from rfl, kX, kP]; simp; omega) (kF hW (kD ?_ (uN ?_))))))
    · rw [show (⟨#[118]⟩ : ByteArray) = mkB [118] from rfl, show (⟨#[58]⟩ : ByteArray) = mkB [58] from rfl, kX, kX, kP, kP]; simp; omega
    · rw [show (⟨#[118]⟩ : ByteArray) = mkB [118] from rfl, show (⟨#[58]⟩ : ByteArray) = mkB [58] from rfl, kX, kX, kX]
      unfold b2r yW; rw [if_pos (.inr o1), if_neg o0]
  refine kH o1 ?_
  have h01 : ¬ (op = 0 ∨ op = 1) := by omega
  by_cases o2 : op = 2
  · exact kD o2 (join _ (by unfold hdL; rw [if_pos o2]) h01)
  refine kH o2 ?_
  by_cases o17 : op = 17
  · have hK := c2q K (hn.k0 (.inr (.inr (.inl o17)))).1 (by have := (hn.k0 (.inr (.inr (.inl o17)))).2; omega)
    refine kD o17 (kF hK (kD (by rw [kP]; omega) (kD (by rw [show (⟨#[115, 108, 105, 99, 101, 32]⟩ : ByteArray) = mkB [115, 108, 105, 99, 101, 32] from rfl, kX, kP]; simp; omega) (kF hW (kD ?_ ?_)))))
    · rw [show (⟨#[115, 108, 105, 99, 101, 32]⟩ : ByteArray) = mkB [115, 108, 105, 99, 101, 32] from rfl, show (⟨#[32]⟩ : ByteArray) = mkB [32] from rfl, kX, kX, kP, kP]; simp; omega
    · rw [show (⟨#[115, 108, 105, 99, 101, 32]⟩ : ByteArray) = mkB [115, 108, 105, 99, 101, 32] from rfl, show (⟨#[32]⟩ : ByteArray) = mkB [32] from rfl, kX, kX, kX]
      exact join _ (by unfold hdL; rw [if_neg o2, if_pos o17]) h01
  refine kH o17 ?_
  by_cases o18 : op = 18
  · exact kD o18 (join _ (by unfold hdL; rw [if_neg o2, if_neg o17, if_pos o18]) h01)
  refine kH o18 ?_
  by_cases o19 : op = 19
  · have hK := c2q K (hn.k0 (.inr (.inr (.inr (.inl o19))))).1 (by have := (hn.k0 (.inr (.inr (.inr (.inl o19))))).2; omega)
    have hB := c2q B (hn.b0 (.inl o19)).1 (by have := (hn.b0 (.inl o19)).2; omega)
    refine kD o19 (kF hK (kD (by rw [kP]; omega) (kD (by rw [show (⟨#[97, 108, 108, 32, 118]⟩ : ByteArray) = mkB [97, 108, 108, 32, 118] from rfl, kX, kP]; simp; omega) (kF hB (kD ?_ ?_)))))
    · rw [show (⟨#[97, 108, 108, 32, 118]⟩ : ByteArray) = mkB [97, 108, 108, 32, 118] from rfl, show (⟨#[58]⟩ : ByteArray) = mkB [58] from rfl, kX, kX, kP, kP]; simp; omega
    · rw [show (⟨#[97, 108, 108, 32, 118]⟩ : ByteArray) = mkB [97, 108, 108, 32, 118] from rfl, show (⟨#[58]⟩ : ByteArray) = mkB [58] from rfl, kX, kX, kX]
      exact join _ (by unfold hdL; rw [if_neg o2, if_neg o17, if_neg o18, if_pos o19]) h01
  refine kH o19 ?_
  by_cases o20 : op = 20
  · have hK := c2q K (hn.k0 (.inr (.inr (.inr (.inr o20))))).1 (by have := (hn.k0 (.inr (.inr (.inr (.inr o20))))).2; omega)
    have hB := c2q B (hn.b0 (.inr o20)).1 (by have := (hn.b0 (.inr o20)).2; omega)
    refine kD o20 (kF hK (kD (by rw [kP]; omega) (kD (by rw [show (⟨#[115, 111, 109, 101, 32, 118]⟩ : ByteArray) = mkB [115, 111, 109, 101, 32, 118] from rfl, kX, kP]; simp; omega) (kF hB (kD ?_ ?_)))))
    · rw [show (⟨#[115, 111, 109, 101, 32, 118]⟩ : ByteArray) = mkB [115, 111, 109, 101, 32, 118] from rfl, show (⟨#[58]⟩ : ByteArray) = mkB [58] from rfl, kX, kX, kP, kP]; simp; omega
    · rw [show (⟨#[115, 111, 109, 101, 32, 118]⟩ : ByteArray) = mkB [115, 111, 109, 101, 32, 118] from rfl, show (⟨#[58]⟩ : ByteArray) = mkB [58] from rfl, kX, kX, kX]
      exact join _ (by unfold hdL; rw [if_neg o2, if_neg o17, if_neg o18, if_neg o19, if_pos o20]) h01
  refine kH o20 ?_
  have hop := hn.op0; have hop1 := hn.op1
  have e3 : wrap64 (op - 3) = op - 3 := oY oM oM
  refine kU (show vF = some (rA.map mkB) from rfl) ?_
  rw [e3]
  refine kD oM (kD (by simp [rA]; omega) ?_)
  have hrd := c2k rA (op - 3) oM (by simp [rA]; omega) []
  rw [List.append_nil] at hrd
  rw [hrd]
  exact join _ (by unfold hdL; rw [if_neg o2, if_neg o17, if_neg o18, if_neg o19, if_neg o20]) h01
theorem d2a (op W K A B C : Int) (hn : NumOk op W K A B C) : Ev (fun k => yX k op W K A B C) (mkB (if op = 0 ∨ op = 1 then yW op W K else 40 :: hdL op W K B)) := by
  have hW := c2r W (by have := hn.w0; omega) (by have := hn.w1; omega)
  have lW := vE W; have lK := vE K; have lB := vE B
  unfold yX
  by_cases o0 : op = 0
  · have hK := c2r K (hn.k0 (.inl o0)).1 (by have := (hn.k0 (.inl o0)).2; omega)
    refine kD o0 (kF hW (kD (by rw [kP]; omega) (kD (by rw [show (⟨#[35]⟩ : ByteArray) = mkB [35] from rfl, kX, kP]; simp; omega) (kF hK (kD ?_ (uN ?_))))))
    · rw [show (⟨#[35]⟩ : ByteArray) = mkB [35] from rfl, show (⟨#[58]⟩ : ByteArray) = mkB [58] from rfl, kX, kX, kP, kP]; simp; omega
    · rw [show (⟨#[35]⟩ : ByteArray) = mkB [35] from rfl, show (⟨#[58]⟩ : ByteArray) = mkB [58] from rfl, kX, kX, kX]
      unfold yW; rw [if_pos (.inl o0), if_pos o0]
  refine kH o0 ?_
  by_cases o1 : op = 1
  · have hK := c2r K (hn.k0 (.inr (.inl o1))).1 (by have := (hn.k0 (.inr (.inl o1))).2; omega)
    refine kD o1 (kF hK (kD (by rw [kP]; omega) (kD (by rw [show (⟨#[118]⟩ : ByteArray) = mkB [118] from rfl, kX, kP]; simp; omega) (kF hW (kD ?_ (uN ?_))))))
    · rw [show (⟨#[118]⟩ : ByteArray) = mkB [118] from rfl, show (⟨#[58]⟩ : ByteArray) = mkB [58] from rfl, kX, kX, kP, kP]; simp; omega
    · rw [show (⟨#[118]⟩ : ByteArray) = mkB [118] from rfl, show (⟨#[58]⟩ : ByteArray) = mkB [58] from rfl, kX, kX, kX]
      unfold yW; rw [if_pos (.inr o1), if_neg o0]
  refine kH o1 ?_
  rw [if_neg (show ¬ (op = 0 ∨ op = 1) by omega)]
  by_cases o2 : op = 2
  · exact kD o2 (uN (by unfold hdL; rw [if_pos o2]; rfl))
  refine kH o2 ?_
  by_cases o17 : op = 17
  · have hK := c2r K (hn.k0 (.inr (.inr (.inl o17)))).1 (by have := (hn.k0 (.inr (.inr (.inl o17)))).2; omega)
    refine kD o17 (kF hK (kD (by rw [kP]; omega) (kD (by rw [show (⟨#[40, 115, 108, 105, 99, 101, 32]⟩ : ByteArray) = mkB [40, 115, 108, 105, 99, 101, 32] from rfl, kX, kP]; simp; omega) (kF hW (kD ?_ (uN ?_))))))
    · rw [show (⟨#[40, 115, 108, 105, 99, 101, 32]⟩ : ByteArray) = mkB [40, 115, 108, 105, 99, 101, 32] from rfl, show (⟨#[32]⟩ : ByteArray) = mkB [32] from rfl, kX, kX, kP, kP]; simp; omega
    · rw [show (⟨#[40, 115, 108, 105, 99, 101, 32]⟩ : ByteArray) = mkB [40, 115, 108, 105, 99, 101, 32] from rfl, show (⟨#[32]⟩ : ByteArray) = mkB [32] from rfl, kX, kX, kX]
      unfold hdL; rw [if_neg o2, if_pos o17]; rfl
  refine kH o17 ?_
  by_cases o18 : op = 18
  · exact kD o18 (uN (by unfold hdL; rw [if_neg o2, if_neg o17, if_pos o18]; rfl))
  refine kH o18 ?_
  by_cases o19 : op = 19
  · have hK := c2r K (hn.k0 (.inr (.inr (.inr (.inl o19))))).1 (by have := (hn.k0 (.inr (.inr (.inr (.inl o19))))).2; omega)
    have hB := c2r B (hn.b0 (.inl o19)).1 (by have := (hn.b0 (.inl o19)).2; omega)
    refine kD o19 (kF hK (kD (by rw [kP]; omega) (kD (by rw [show (⟨#[40, 97, 108, 108, 32, 118]⟩ : ByteArray) = mkB [40, 97, 108, 108, 32, 118] from rfl, kX, kP]; simp; omega) (kF hB (kD ?_ (uN ?_))))))
    · rw [show (⟨#[40, 97, 108, 108, 32, 118]⟩ : ByteArray) = mkB [40, 97, 108, 108, 32, 118] from rfl, show (⟨#[58]⟩ : ByteArray) = mkB [58] from rfl, kX, kX, kP, kP]; simp; omega
    · rw [show (⟨#[40, 97, 108, 108, 32, 118]⟩ : ByteArray) = mkB [40, 97, 108, 108, 32, 118] from rfl, show (⟨#[58]⟩ : ByteArray) = mkB [58] from rfl, kX, kX, kX]
      unfold hdL; rw [if_neg o2, if_neg o17, if_neg o18, if_pos o19]; rfl
  refine kH o19 ?_
  by_cases o20 : op = 20
  · have hK := c2r K (hn.k0 (.inr (.inr (.inr (.inr o20))))).1 (by have := (hn.k0 (.inr (.inr (.inr (.inr o20))))).2; omega)
    have hB := c2r B (hn.b0 (.inr o20)).1 (by have := (hn.b0 (.inr o20)).2; omega)
    refine kD o20 (kF hK (kD (by rw [kP]; omega) (kD (by rw [show (⟨#[40, 115, 111, 109, 101, 32, 118]⟩ : ByteArray) = mkB [40, 115, 111, 109, 101, 32, 118] from rfl, kX, kP]; simp; omega) (kF hB (kD ?_ (uN ?_))))))
    · rw [show (⟨#[40, 115, 111, 109, 101, 32, 118]⟩ : ByteArray) = mkB [40, 115, 111, 109, 101, 32, 118] from rfl, show (⟨#[58]⟩ : ByteArray) = mkB [58] from rfl, kX, kX, kP, kP]; simp; omega
    · rw [show (⟨#[40, 115, 111, 109, 101, 32, 118]⟩ : ByteArray) = mkB [40, 115, 111, 109, 101, 32, 118] from rfl, show (⟨#[58]⟩ : ByteArray) = mkB [58] from rfl, kX, kX, kX]
      unfold hdL; rw [if_neg o2, if_neg o17, if_neg o18, if_neg o19, if_pos o20]; rfl
  refine kH o20 ?_
  have hop := hn.op0; have hop1 := hn.op1
  have e3 : wrap64 (op - 3) = op - 3 := oY oM oM
  have hlen := a7c (op - 3).toNat
  refine kF (a := mkB (rA.getD (op - 3).toNat [])) ?_ (kD (by rw [kP]; omega) (uN ?_))
  · unfold vP
    refine kU (a := rA.map mkB) rfl (kU (inI _ _ _) (kD (by simp; omega) ?_))
    rw [e3]
    refine kD oM (kD (by simp [rA]; omega) (uN ?_))
    have hrd := c2k rA (op - 3) oM (by simp [rA]; omega) []
    rwa [List.append_nil] at hrd
  · rw [show (⟨#[40]⟩ : ByteArray) = mkB [40] from rfl, kX]
    unfold hdL; rw [if_neg o2, if_neg o17, if_neg o18, if_neg o19, if_neg o20]; rfl
theorem b3k (l : List S31) (hl : l.length ≤ 80) (hN : rT l) (d : Nat) : ∀ i : Nat, i + d = l.length → 1 ≤ l.length →
    Ev (fun k => tO k l ((tW l i).map mkB) (i : Int)) (mkB ((tW l l.length).getD (l.length - 1) []), ((tW l l.length).getD (l.length - 1) [] != [])) := by
  induction d with
  | zero =>
    intro i hi h0
    obtain rfl : i = l.length := by omega
    refine kR ?_
    simp only [tO]
    rw [oY (x := (l.length : Int) - 1) oM oM]
    have hrd := c2k (tW l l.length) ((l.length : Int) - 1) oM (by rw [sT]; omega) []
    rw [List.append_nil, show ((l.length : Int) - 1).toNat = l.length - 1 by omega] at hrd
    rw [hrd, qQ]
    exact kH oM (kD oM (kD (by rw [List.length_map, sT]; omega) kQ))
  | succ d ih =>
    intro i hi h0
    have hlt : i < l.length := by omega
    have hn := a7l hN i hlt
    have hp : ∀ p ∈ pl l i, 0 ≤ p ∧ p < ((tW l i).length : Int) := by rw [sT]; exact rS hN i hlt
    have hs := d1t (tW l i) (a5e l i) _ _ _ _ _ _ hn hp
    refine kR ?_
    simp only [tO]
    refine kD oM (kD oM (kF hs (kD (by rw [List.length_map, sT]; omega) ?_)))
    rw [wS i]
    have := ih (i + 1) oM h0
    simpa [tW, List.map_append] using this
def wX (ts : List (List UInt8)) : List Bool := ts.map fun t => t != []
theorem b0d (ts : List (List UInt8)) (n : Nat) (t : List UInt8) (h : ts.length < n) :
    (ts.map mkB ++ List.replicate (n - ts.length) (mkB [])).set ts.length (mkB t) = (ts ++ [t]).map mkB ++ List.replicate (n - (ts.length + 1)) (mkB []) := by
  rw [List.set_append_right _ _ (by simp), List.length_map, Nat.sub_self, show n - ts.length = (n - (ts.length + 1)) + 1 by omega, List.replicate_succ]
  simp
theorem a8j (ts : List (List UInt8)) (n : Nat) (h : ts.length < n) :
    ts.map mkB ++ List.replicate (n - ts.length) (mkB []) = (ts ++ [[]]).map mkB ++ List.replicate (n - (ts.length + 1)) (mkB []) := by
  rw [show n - ts.length = (n - (ts.length + 1)) + 1 by omega, List.replicate_succ]
  simp
theorem a8n (ts : List (List UInt8)) (n : Nat) (b : Bool) (x : Bool) (rest : List Bool) : (wX ts ++ x :: rest).set ts.length b = wX ts ++ b :: rest := by
  rw [List.set_append_right _ _ (by simp [wX])]; simp [wX]
theorem a8o (ts : List (List UInt8)) (b : Bool) (rest : List Bool) (i : Int) (hi : i = ts.length) : vD false (wX ts ++ b :: rest) i = b := by
  subst hi
  unfold vD
  rw [Int.toNat_natCast, List.getD_eq_getElem?_getD, List.getElem?_append_right (by simp [wX])]; simp [wX]
theorem a3r (ts : List (List UInt8)) (rest : List Bool) (p : Int) (h0 : 0 ≤ p) (h1 : p < (ts.length : Int)) : vD false (wX ts ++ rest) p = (ts.getD p.toNat [] != []) := by
  have hlt : p.toNat < ts.length := by omega
  unfold vD
  rw [List.getD_eq_getElem?_getD, List.getElem?_append_left (by simpa [wX] using hlt), List.getD_eq_getElem?_getD, List.getElem?_eq_getElem hlt]
  simp [wX, hlt]
theorem b9f (l : List S31) (hl : l.length ≤ 80) (i : Nat) (hi : i < l.length) (ts : List (List UInt8)) (hts : ∀ t ∈ ts, t.length ≤ 4000) (hlen : ts.length = i) (hd : List UInt8) (hh1 : 1 ≤ hd.length) (hh2 : hd.length ≤ 21) (op W K A B C : Int) (ps : List Int) (hps : kV op A B C = ps)
    (hp : ∀ p ∈ ps, 0 ≤ p ∧ p < (i : Int)) (rest : List Bool) (R : ByteArray × Bool) (T : List UInt8)
    (hT : T = if (ps.all fun p => ts.getD p.toNat [] != []) = true ∧ (hd ++ a1k ts ps ++ (if 0 < ps.length then [41] else [])).length ≤ 4000 then hd ++ a1k ts ps ++ (if 0 < ps.length then [41] else []) else [])
    (hnext : Ev (fun k => pD k l ((ts ++ [T]).map mkB ++ List.replicate (l.length - (i + 1)) (mkB [])) (wX (ts ++ [T]) ++ rest) l (l.length : Int) ((i + 1 : Nat) : Int)) R) (d : Nat) : ∀ t : Nat, t + d = ps.length →
    Ev (fun k => sN k l (ts.map mkB ++ List.replicate (l.length - i) (mkB [])) (wX ts ++ ((ps.take t).all fun p => ts.getD p.toNat [] != []) :: rest) (i : Int) (mkB (hd ++ a1k ts (ps.take t))) l (l.length : Int) (i : Int) ps (ps.length : Int) (t : Int) op W K A B C) R := by
  have hps3 : ps.length ≤ 3 := by rw [← hps]; exact uD _ _ _ _
  have hle : ∀ t, (a1k ts (ps.take t)).length ≤ 12003 := by
    intro t
    have := b7a ts hts (ps.take t)
    rw [List.length_take] at this
    omega
  have hfl : (wX ts).length = i := by simp [wX, hlen]
  have hx4 : (ts.map mkB ++ List.replicate (l.length - i) (mkB [])).length = l.length := by simp [hlen]; omega
  induction d with
  | zero =>
    intro t ht
    have h1 := hle t
    rw [List.take_of_length_le oM] at h1 ⊢
    have hT' : T = if (ps.all fun p => ts.getD p.toNat [] != []) = true ∧ (hd ++ a1k ts ps ++ (if 0 < ps.length then [41] else [])).length ≤ 4000 then hd ++ a1k ts ps ++ (if 0 < ps.length then [41] else []) else [] := hT
    clear hT
    generalize (ps.all fun p => ts.getD p.toNat [] != []) = b at hT' ⊢
    have fin : ∀ s' : List UInt8, hd ++ a1k ts ps ++ (if 0 < ps.length then [41] else []) = s' → Ev (fun k => if 0 ≤ (i : Int) then (if (i : Int) < ((wX ts ++ b :: rest).length : Int) then (if vD false (wX ts ++ b :: rest) (i : Int) = true then ((some ((wX ts ++ b :: rest).set ((i : Int) : Int).toNat (decide (((mkB s').size : Int) ≤ 4000)) : List Bool)).bind fun y => (if vD false y (i : Int) = true then (if (i : Int) < ((ts.map mkB ++ List.replicate (l.length - i) (mkB [])).length : Int) then (pD k l ((ts.map mkB ++ List.replicate (l.length - i) (mkB [])).set ((i : Int) : Int).toNat (mkB s')) y l (l.length : Int) (wrap64 ((i : Int) + 1))) else (none)) else (pD k l (ts.map mkB ++ List.replicate (l.length - i) (mkB [])) y l (l.length : Int) (wrap64 ((i : Int) + 1)))))
        else ((some ((wX ts ++ b :: rest).set ((i : Int) : Int).toNat false : List Bool)).bind fun y => (if vD false y (i : Int) = true then (if (i : Int) < ((ts.map mkB ++ List.replicate (l.length - i) (mkB [])).length : Int) then (pD k l ((ts.map mkB ++ List.replicate (l.length - i) (mkB [])).set ((i : Int) : Int).toNat (mkB s')) y l (l.length : Int) (wrap64 ((i : Int) + 1))) else (none)) else (pD k l (ts.map mkB ++ List.replicate (l.length - i) (mkB [])) y l (l.length : Int) (wrap64 ((i : Int) + 1)))))) else (none)) else (none)) R := by
      intro s' hs'
      rw [hs'] at hT'
      have hs1 : s' ≠ [] := by rw [← hs']; intro h; have := congrArg List.length h; rw [List.length_append, List.length_append] at this; simp only [List.length_nil] at this; omega
      have hset := a8n ts l.length (decide (((mkB s').size : Int) ≤ 4000)) b rest
      have hset0 := a8n ts l.length false b rest
      rw [hlen] at hset hset0
      rw [Int.toNat_natCast, hset, hset0, wS i]
      refine kD oM (kD (by rw [List.length_append, hfl]; simp; omega) ?_)
      rw [a8o ts b rest i oM]
      have keep := a8j ts l.length oM
      have sett := b0d ts l.length s' oM
      rw [hlen] at keep sett
      cases hb : b with
      | true =>
        subst hb
        refine kD rfl (kU rfl ?_)
        rw [a8o ts _ rest i oM]
        by_cases hc : s'.length ≤ 4000
        · rw [if_pos ⟨rfl, hc⟩] at hT'
          rw [hT'] at hnext
          have hd4 : decide (((mkB s').size : Int) ≤ 4000) = true := decide_eq_true (by rw [kP]; omega)
          rw [hd4]
          refine kD rfl (kD (by rw [hx4]; omega) ?_)
          rw [sett]
          have e : wX (ts ++ [s']) ++ rest = wX ts ++ true :: rest := by simp [wX, hs1]
          rw [e] at hnext; exact hnext
        · rw [if_neg (fun h => hc h.2)] at hT'
          rw [hT'] at hnext
          have hd4 : decide (((mkB s').size : Int) ≤ 4000) = false := decide_eq_false (by rw [kP]; omega)
          rw [hd4]
          refine kH (by simp) ?_
          rw [keep]
          have e : wX (ts ++ [[]]) ++ rest = wX ts ++ false :: rest := by simp [wX]
          rw [e] at hnext; exact hnext
      | false =>
        subst hb
        rw [if_neg (fun h => by simp at h)] at hT'
        rw [hT'] at hnext
        refine kH (by simp) (kU rfl ?_)
        rw [a8o ts _ rest i oM]
        refine kH (by simp) ?_
        rw [keep]
        have e : wX (ts ++ [[]]) ++ rest = wX ts ++ false :: rest := by simp [wX]
        rw [e] at hnext; exact hnext
    refine kR ?_
    simp only [sN]
    refine kH oM (kF (a6x 1 fun k hk => a9z _ _ _ _ _ _ hk) ?_)
    rw [hps]
    by_cases h0 : (ps.length : Int) > 0
    · refine kD h0 (kD (by rw [kP, List.length_append]; omega) ?_)
      rw [show (⟨#[41]⟩ : ByteArray) = mkB [41] from rfl, kX]
      exact fin _ (by rw [if_pos oM])
    · exact kH h0 (fin _ (by rw [if_neg oM, List.append_nil]))
  | succ d ih =>
    intro t ht
    have hlt : t < ps.length := by omega
    have hq := hp _ (List.getElem_mem hlt)
    have hr : rd ps (t : Int) = ps[t] := rdI ps t hlt
    have h1 := hle t
    refine kR ?_
    simp only [sN]
    have hrd := c2k ts (rd ps (t : Int)) (by rw [hr]; exact hq.1) (by rw [hr]; omega) (List.replicate (l.length - i) (mkB []))
    have hlast := b1v ts hts (rd ps (t : Int)).toNat
    have hset := fun b => a8n ts l.length b ((ps.take t).all fun p => ts.getD p.toNat [] != []) rest
    rw [hlen] at hset
    rw [hrd, show (⟨#[32]⟩ : ByteArray) = mkB [32] from rfl, kX, kX, kP, kP, kP, Int.toNat_natCast, hset, hset, a8o ts _ rest i oM, a3r ts _ (rd ps (t : Int)) (by rw [hr]; exact hq.1) (by rw [hr]; omega)]
    have hx5 : ((wX ts ++ ((ps.take t).all fun p => ts.getD p.toNat [] != []) :: rest).length : Int) = i + 1 + rest.length := by rw [List.length_append, hfl]; simp; omega
    refine kD oM (kD oM (kD oM (kD (by simp only [List.length_append]; omega) (kD (by rw [hr]; exact hq.1) (kD (by rw [hr, hx4]; omega) (kD (by simp only [List.length_append, List.length_cons, List.length_nil]; omega) (kD oM (kD (by rw [hx5]; omega) ?_))))))))
    rw [wS t, List.append_assoc, List.append_assoc, ← a9y ts ps t hlt]
    have := ih (t + 1) oM
    rw [List.take_succ_eq_append_getElem hlt, List.all_append, ← hr] at this
    by_cases hb : ((ps.take t).all fun p => ts.getD p.toNat [] != []) = true
    · refine kD hb (kD (by rw [hx5, hr]; omega) ?_)
      rw [hb] at this
      simpa [← List.take_succ_eq_append_getElem hlt, hr] using this
    · refine kH hb ?_
      have hb' : ((ps.take t).all fun p => ts.getD p.toNat [] != []) = false := by simpa using hb
      rw [hb'] at this
      simpa [← List.take_succ_eq_append_getElem hlt, hr] using this
theorem b3l (l : List S31) (hl : l.length ≤ 80) (hN : rT l) (h0 : 1 ≤ l.length) (d : Nat) : ∀ i : Nat, i + d = l.length →
    Ev (fun k => pD k l ((tW l i).map mkB ++ List.replicate (l.length - i) (mkB [])) (wX (tW l i) ++ List.replicate (l.length - i) false) l (l.length : Int) (i : Int)) (mkB ((tW l l.length).getD (l.length - 1) []), ((tW l l.length).getD (l.length - 1) [] != [])) := by
  induction d with
  | zero =>
    intro i hi
    obtain rfl : i = l.length := by omega
    refine kR ?_
    simp only [pD]
    rw [oY (x := (l.length : Int) - 1) oM oM]
    have hrd := c2k (tW l l.length) ((l.length : Int) - 1) oM (by rw [sT]; omega) (List.replicate (l.length - l.length) (mkB []))
    rw [show ((l.length : Int) - 1).toNat = l.length - 1 by omega] at hrd
    have hrf := a3r (tW l l.length) (List.replicate (l.length - l.length) false) ((l.length : Int) - 1) oM (by rw [sT]; omega)
    rw [show ((l.length : Int) - 1).toNat = l.length - 1 by omega] at hrf
    rw [hrd, hrf]
    exact kH oM (kD oM (kD (by simp [sT]; omega) (kD (by simp [sT, wX]; omega) kQ)))
  | succ d ih =>
    intro i hi
    have hlt : i < l.length := by omega
    have hn := a7l hN i hlt
    have hp : ∀ p ∈ pl l i, 0 ≤ p ∧ p < (i : Int) := rS hN i hlt
    have hh := d2a _ _ _ _ _ _ hn
    have hsp : List.replicate (l.length - i) false = false :: List.replicate (l.length - (i + 1)) false := by rw [show l.length - i = (l.length - (i + 1)) + 1 by omega, List.replicate_succ]
    have hset := a8n (tW l i) l.length true false (List.replicate (l.length - (i + 1)) false)
    rw [sT] at hset
    refine kR ?_
    simp only [pD]
    rw [hsp, Int.toNat_natCast, hset]
    refine kD oM (kD oM (kD oM (kF hh (kD (by simp [sT, wX]; omega) (kF (a6x 1 fun k hk => a9z _ _ _ _ _ _ hk) ?_)))))
    have hnext := ih (i + 1) oM
    have key := b9f l hl i hlt (tW l i) (a5e l i) (sT l i) (if (kA l (i : Int)).f0 = 0 ∨ (kA l (i : Int)).f0 = 1 then yW (kA l (i : Int)).f0 (kA l (i : Int)).f1 (kA l (i : Int)).f2 else 40 :: hdL (kA l (i : Int)).f0 (kA l (i : Int)).f1 (kA l (i : Int)).f2 (kA l (i : Int)).f4)
      (by split; exact Nat.le_trans oM (zS _ _ _).1; simp) (by split; exact Nat.le_trans (zS _ _ _).2 oM; have := b7v (kA l (i : Int)).f0 (kA l (i : Int)).f1 (kA l (i : Int)).f2 (kA l (i : Int)).f4; simp; omega)
      (kA l (i : Int)).f0 (kA l (i : Int)).f1 (kA l (i : Int)).f2 (kA l (i : Int)).f3 (kA l (i : Int)).f4 (kA l (i : Int)).f5 (pl l i) rfl hp (List.replicate (l.length - (i + 1)) false) _ _ ?_ hnext (pl l i).length 0 oM
    · rw [List.take_zero] at key
      simp only [a1k, List.flatMap_nil, List.append_nil, List.all_nil] at key
      exact key
    · have hop := hn.op0; have hop1 := hn.op1
      unfold b2r
      by_cases h01 : (kA l (i : Int)).f0 = 0 ∨ (kA l (i : Int)).f0 = 1
      · have hpl : pl l i = [] := by unfold pl kV; rw [if_neg oM, if_neg oM, if_neg oM]
        have := zS (kA l (i : Int)).f0 (kA l (i : Int)).f1 (kA l (i : Int)).f2
        rw [if_pos h01, if_pos h01, hpl]
        simp only [a1k, List.flatMap_nil, List.length_nil, List.append_nil, List.all_nil, Nat.lt_irrefl, if_false, true_and]
        rw [if_pos oM]
      · have hpl : 0 < (pl l i).length := by
          unfold pl kV
          split
          · simp
          · split
            · simp
            · rw [if_pos oM]; simp
        rw [if_neg h01, if_neg h01, if_pos hpl]
        rfl
def Ok {α : Type} (g : Nat → Option α) (P : α → Prop) : Prop := ∃ r, Ev g r ∧ P r
theorem tJ {α : Type} {P : α → Prop} {r : α} (h : P r) : Ok (fun _ => some r) P := ⟨r, kQ, h⟩
theorem b3v {α : Type} {g : Nat → Option α} {P : α → Prop} {r : α} (e : Ev g r) (h : P r) : Ok g P := ⟨r, e, h⟩
theorem b7l {α : Type} {g : Nat → Option α} {P Q : α → Prop} (h : Ok g P) (k : ∀ a, P a → Q a) : Ok g Q := by
  obtain ⟨r, e, p⟩ := h; exact ⟨r, e, k r p⟩
theorem sP {α β : Type} {g : Nat → Option α} {f : Nat → α → Option β} {P : α → Prop} {Q : β → Prop} (h : Ok g P) (k : ∀ a, P a → Ok (fun n => f n a) Q) : Ok (fun n => (g n).bind (f n)) Q := by
  obtain ⟨a, e, p⟩ := h
  obtain ⟨r, e2, q⟩ := k a p
  exact ⟨r, kF e e2, q⟩
theorem pJ {α β : Type} {c : Option α} {f : Nat → α → Option β} {Q : β → Prop} {a : α} (h : c = some a) (k : Ok (fun n => f n a) Q) : Ok (fun n => c.bind (f n)) Q := by
  subst h; exact k
theorem pK {α : Type} {c : Prop} [Decidable c] {A B : Nat → Option α} {P : α → Prop} (h : c) (k : Ok A P) : Ok (fun n => if c then A n else B n) P := by
  simpa [h] using k
theorem zR {α : Type} {c : Prop} [Decidable c] {A B : Nat → Option α} {P : α → Prop} (h : ¬ c) (k : Ok B P) : Ok (fun n => if c then A n else B n) P := by
  simpa [h] using k
theorem tL {α : Type} {c : Prop} [Decidable c] {A B : Nat → Option α} {P : α → Prop} (k : c → Ok A P) (j : ¬ c → Ok B P) : Ok (fun n => if c then A n else B n) P := by
  by_cases h : c
  · exact pK h (k h)
  · exact zR h (j h)
theorem qT {α : Type} {g : Nat → Option α} {P : α → Prop} (k : Ok (fun n => g (n + 1)) P) : Ok g P := by
  obtain ⟨r, e, p⟩ := k
  exact ⟨r, kR e, p⟩
theorem yV (t : List S31) (ht : t.length ≤ 1000000) (a b c d e f : Int) : pP t a b c d e f = some (t ++ [⟨a, b, c, d, e, f⟩], (t.length : Int)) := by
  unfold pP; rw [if_pos oM]
def DP (t : List S31) (s : Nat) (b : List Int) (r : List S31 × Int × Int × Int) : Prop := r.1.length ≤ t.length + s ∧ 0 ≤ r.2.1 ∧ r.2.1 < (r.1.length : Int) ∧ Cur b r.2.2.1
def a1d (vs : List S31) : Prop := vs.length ≤ 1000 ∧ ∀ x ∈ vs, 1 ≤ x.f1 ∧ x.f1 ≤ 8
theorem b2o {vs : List S31} (h : a1d vs) (p : Int) (h0 : 0 ≤ p) (h1 : p < (vs.length : Int)) : 1 ≤ (kA vs p).f1 ∧ (kA vs p).f1 ≤ 8 := by
  obtain ⟨q, rfl⟩ := Int.eq_ofNat_of_zero_le h0
  rw [rdN vs q oM]
  exact h.2 _ (List.getElem_mem _)
def DS : Nat → Nat
  | 0 => 1
  | d + 1 => 3 * DS d + 1
theorem c2y (d : Nat) : 1 ≤ DS d := by cases d <;> simp [DS]
def b8s (d : Nat) : Prop := ∀ (b : List Int) (i h : Int) (t vs : List S31) (w : Int), Cur b i → t.length ≤ 100000 → a1d vs → 1 ≤ w → w ≤ 8 → Ok (fun k => pF k b i h t vs w (d : Int)) (DP t (DS d) b)
theorem a8p (b : List Int) (i h : Int) (t vs : List S31) (w : Int) (same : List Int) (x : Bool) (hc : Cur b i) (ht : t.length ≤ 100000) (h0 : 1 ≤ w) (h8 : w ≤ 8) (hs : ∀ y ∈ same, 0 ≤ y ∧ y < (vs.length : Int)) (hx : x = true → 0 < same.length) (s : Nat) (h1 : 1 ≤ s) :
    Ok (fun k => vJ k t vs w same x b i h) (DP t s b) := by
  refine qT ?_
  simp only [vJ]
  refine tL (fun hxt => ?_) (fun _ => ?_)
  · obtain ⟨y, i', h', e, y0, _, y1, c⟩ := qS b i h (same.length : Int) hc
    have hl := hx hxt
    have y1 := y1 oM
    refine pJ e (pK y0 (pK y1 ?_))
    have hm := hs (rd same y) (by
      rw [show rd same y = same[y.toNat] from by unfold rd; rw [List.getD_eq_getElem?_getD, List.getElem?_eq_getElem oM]; rfl]
      exact List.getElem_mem _)
    refine pK hm.1 (pK hm.2 (pJ (yV t oM _ _ _ _ _ _) (tJ ?_)))
    refine ⟨by simp; omega, by simp, by simp; omega, c⟩
  · refine sP (b3v (a6x 20 fun k hk => d2v oM h8 hk) rfl) (fun p hp => ?_)
    subst hp
    obtain ⟨y, i', h', e, y0, _, y1, c⟩ := qS b i h (P2 w) hc
    refine pJ e (pJ (yV t oM _ _ _ _ _ _) (tJ ?_))
    refine ⟨by simp; omega, by simp, by simp; omega, c⟩
theorem c6l (d : Nat) (hd : d ≤ 10) (ih : b8s d) (b : List Int) (i h : Int) (t vs : List S31) (w : Int) (hc : Cur b i) (ht : t.length + 3 * DS d ≤ 100000) (hv : a1d vs) (h0 : 1 ≤ w) (h8 : w ≤ 8) :
    Ok (fun k => rX k t vs w ((d + 1 : Nat) : Int) b i h) (DP t (DS (d + 1)) b) := by
  refine qT ?_
  simp only [rX]
  rw [oY (x := ((d + 1 : Nat) : Int) - 1) oM oM, show ((d + 1 : Nat) : Int) - 1 = (d : Int) by omega]
  refine sP (ih b i h t vs w hc oM hv h0 h8) (fun r hr => ?_)
  obtain ⟨t1, a1, i1, h1⟩ := r
  obtain ⟨l1, m1, n1, c1⟩ := hr
  simp only at l1 m1 n1 c1
  refine sP (ih b i1 h1 t1 vs w c1 oM hv h0 h8) (fun r hr => ?_)
  obtain ⟨t2, a2, i2, h2⟩ := r
  obtain ⟨l2, m2, n2, c2⟩ := hr
  simp only at l2 m2 n2 c2
  obtain ⟨y, i3, h3, e, _, _, _, c3⟩ := qS b i2 h2 10 c2
  refine pJ e (pJ (yV t2 oM _ _ _ _ _ _) (tJ ?_))
  exact ⟨by simp [DS]; omega, by simp, by simp; omega, c3⟩
theorem b1w (d : Nat) (hd : d ≤ 10) (ih : b8s d) (b : List Int) (i h : Int) (t vs : List S31) (w : Int) (x : Bool) (hc : Cur b i) (ht : t.length + 3 * DS d ≤ 100000) (hv : a1d vs) (h0 : 1 ≤ w) (h8 : w ≤ 8) (hx : x = true → 0 < vs.length) :
    Ok (fun k => uG k t vs w ((d + 1 : Nat) : Int) x b i h) (DP t (DS (d + 1)) b) := by
  have hvl := hv.1
  have hj4 : ∀ i h, Cur b i → Ok (fun k => rX k t vs w ((d + 1 : Nat) : Int) b i h) (DP t (DS (d + 1)) b) := fun i h hc => c6l d hd ih b i h t vs w hc ht hv h0 h8
  refine qT ?_
  simp only [uG]
  rw [oY (x := ((d + 1 : Nat) : Int) - 1) oM oM, show ((d + 1 : Nat) : Int) - 1 = (d : Int) by omega]
  refine tL (fun hxt => ?_) (fun _ => ?_)
  · have hl := hx hxt
    obtain ⟨y, i1, h1, e, y0, _, y1, c1⟩ := qS b i h (vs.length : Int) hc
    have y1 := y1 oM
    have hw := b2o hv y y0 y1
    refine pJ e (pK y0 (pK y1 (sP (ih b i1 h1 t vs _ c1 oM hv hw.1 hw.2) (fun r hr => ?_))))
    obtain ⟨t1, a1, i2, h2⟩ := r
    obtain ⟨l1, m1, n1, c2⟩ := hr
    simp only at l1 m1 n1 c2
    refine sP (ih b i2 h2 t1 vs _ c2 oM hv hw.1 hw.2) (fun r hr => ?_)
    obtain ⟨t2, a2, i3, h3⟩ := r
    obtain ⟨l2, m2, n2, c3⟩ := hr
    simp only at l2 m2 n2 c3
    obtain ⟨z, i4, h4, e4, _, _, _, c4⟩ := qS b i3 h3 3 c3
    refine pJ e4 (pJ (yV t2 oM _ _ _ _ _ _) (tJ ?_))
    exact ⟨by simp [DS]; omega, by simp, by simp; omega, c4⟩
  · obtain ⟨y, i1, h1, e, y0, _, y1, c1⟩ := qS b i h 8 hc
    refine pJ e (tL (fun _ => ?_) (fun _ => tL (fun _ => tL (fun hw1 => ?_) (fun _ => hj4 _ _ c1)) (fun _ => tL (fun _ => tL (fun hv0 => ?_) (fun _ => hj4 _ _ c1)) (fun _ => tL (fun _ => ?_) (fun _ => hj4 _ _ c1)))))
    · refine sP (ih b i1 h1 t vs w c1 oM hv h0 h8) (fun r hr => ?_)
      obtain ⟨t1, a1, i2, h2⟩ := r
      obtain ⟨l1, m1, n1, c2⟩ := hr
      simp only at l1 m1 n1 c2
      refine pJ (yV t1 oM _ _ _ _ _ _) (tJ ?_)
      exact ⟨by simp [DS]; omega, by simp, by simp; omega, c2⟩
    · rw [oY (x := w - 1) oM oM]
      obtain ⟨z, i2, h2, e2, z0, _, z1, c2⟩ := qS b i1 h1 (w - 1) c1
      have z1 := z1 oM
      refine pJ e2 ?_
      simp only
      rw [oY (x := 1 + z) oM oM, oY (x := w - (1 + z)) oM oM]
      refine sP (ih b i2 h2 t vs (1 + z) c2 oM hv oM oM) (fun r hr => ?_)
      obtain ⟨t1, a1, i3, h3⟩ := r
      obtain ⟨l1, m1, n1, c3⟩ := hr
      simp only at l1 m1 n1 c3
      refine sP (ih b i3 h3 t1 vs (w - (1 + z)) c3 oM hv oM oM) (fun r hr => ?_)
      obtain ⟨t2, a2, i4, h4⟩ := r
      obtain ⟨l2, m2, n2, c4⟩ := hr
      simp only at l2 m2 n2 c4
      refine pJ (yV t2 oM _ _ _ _ _ _) (tJ ?_)
      exact ⟨by simp [DS]; omega, by simp, by simp; omega, c4⟩
    · obtain ⟨z, i2, h2, e2, z0, _, z1, c2⟩ := qS b i1 h1 (vs.length : Int) c1
      have z1 := z1 hv0
      have hw := b2o hv z z0 z1
      refine pJ e2 (pK z0 (pK z1 (tL (fun hgt => ?_) (fun _ => hj4 _ _ c2))))
      refine sP (ih b i2 h2 t vs _ c2 oM hv hw.1 hw.2) (fun r hr => ?_)
      obtain ⟨t1, a1, i3, h3⟩ := r
      obtain ⟨l1, m1, n1, c3⟩ := hr
      simp only at l1 m1 n1 c3
      obtain ⟨y2, i4, h4, e4, _, _, _, c4⟩ := qS b i3 h3 (wrap64 ((wrap64 (((kA vs z).f1) - w)) + 1)) c3
      refine pJ e4 (pJ (yV t1 oM _ _ _ _ _ _) (tJ ?_))
      exact ⟨by simp [DS]; omega, by simp, by simp; omega, c4⟩
    · refine sP (ih b i1 h1 t vs 1 c1 oM hv oM oM) (fun r hr => ?_)
      obtain ⟨t1, a1, i2, h2⟩ := r
      obtain ⟨l1, m1, n1, c2⟩ := hr
      simp only at l1 m1 n1 c2
      refine sP (ih b i2 h2 t1 vs w c2 oM hv h0 h8) (fun r hr => ?_)
      obtain ⟨t2, a2, i3, h3⟩ := r
      obtain ⟨l2, m2, n2, c3⟩ := hr
      simp only at l2 m2 n2 c3
      refine sP (ih b i3 h3 t2 vs w c3 oM hv h0 h8) (fun r hr => ?_)
      obtain ⟨t3, a3, i4, h4⟩ := r
      obtain ⟨l3, m3, n3, c4⟩ := hr
      simp only at l3 m3 n3 c4
      refine pJ (yV t3 oM _ _ _ _ _ _) (tJ ?_)
      exact ⟨by simp [DS]; omega, by simp, by simp; omega, c4⟩
theorem b8e (b : List Int) (i h : Int) (t vs : List S31) (w d : Int) (hv : a1d vs) (P : List S31 × Int × Int × Int → Prop)
    (hk : ∀ same : List Int, (∀ y ∈ same, 0 ≤ y ∧ y < (vs.length : Int)) → Ok (fun k => if d = 0 then (qI k t vs w d same true b i h) else (if (t.length : Int) > 40 then (qI k t vs w d same true b i h) else ((sY b i h 5).bind fun bt411 => (qI k t vs w d same bt411.1 b bt411.2.1 bt411.2.2)))) P) (n : Nat) :
    ∀ (j : Nat) (same : List Int), j + n = vs.length → same.length ≤ j → (∀ y ∈ same, 0 ≤ y ∧ y < (vs.length : Int)) → Ok (fun k => tI k t vs w d same (j : Int) b i h) P := by
  have hvl := hv.1
  induction n with
  | zero =>
    intro j same hj _ hs
    refine qT ?_
    simp only [tI]
    exact zR oM (hk same hs)
  | succ n ih =>
    intro j same hj hl hs
    refine qT ?_
    simp only [tI]
    rw [wS j]
    refine pK oM (pK oM (tL (fun _ => pK oM (ih (j + 1) _ oM (by simp; omega) ?_)) (fun _ => ih (j + 1) same oM oM hs)))
    intro y hy
    rcases List.mem_append.mp hy with h | h
    · exact hs y h
    · obtain rfl := List.mem_singleton.mp h; omega
theorem c6k (d : Nat) : d ≤ 3 → b8s d := by
  induction d with
  | zero =>
    intro _ b i h t vs w hc ht hv h0 h8
    refine qT ?_
    simp only [pF]
    refine b8e b i h t vs w _ hv _ (fun same hs => pK (by rfl) ?_) vs.length 0 [] oM (by simp) (by simp)
    refine qT ?_
    simp only [qI]
    refine pK trivial (tL (fun hl => ?_) (fun hl => ?_))
    · obtain ⟨x, i', h', e, c⟩ := a0u b i h 4 hc
      exact pJ e (a8p b i' h' t vs w same _ c ht h0 h8 hs (fun _ => by omega) 1 oM)
    · exact a8p b i h t vs w same _ hc ht h0 h8 hs (fun h => by simp at h) 1 oM
  | succ d ih =>
    intro hd b i h t vs w hc ht hv h0 h8
    have ih := ih oM
    have hds : 3 * DS d ≤ 39 := by
      have : d = 0 ∨ d = 1 ∨ d = 2 := by omega
      rcases this with rfl | rfl | rfl <;> simp [DS]
    refine qT ?_
    simp only [pF]
    refine b8e b i h t vs w _ hv _ (fun same hs => ?_) vs.length 0 [] oM (by simp) (by simp)
    have jt : ∀ i h, Cur b i → Ok (fun k => qI k t vs w ((d + 1 : Nat) : Int) same true b i h) (DP t (DS (d + 1)) b) := by
      intro i h hc
      refine qT ?_
      simp only [qI]
      refine pK trivial (tL (fun hl => ?_) (fun hl => ?_))
      · obtain ⟨x, i', h', e, c⟩ := a0u b i h 4 hc
        exact pJ e (a8p b i' h' t vs w same _ c ht h0 h8 hs (fun _ => by omega) _ (c2y _))
      · exact a8p b i h t vs w same _ hc ht h0 h8 hs (fun h => by simp at h) _ (c2y _)
    refine zR oM (tL (fun _ => jt i h hc) (fun hle => ?_))
    obtain ⟨x, i1, h1, e, c1⟩ := a0u b i h 5 hc
    refine pJ e ?_
    cases x with
    | true => exact jt i1 h1 c1
    | false =>
      refine qT ?_
      simp only [qI]
      refine zR (by simp) (tL (fun _ => tL (fun hv0 => ?_) (fun _ => ?_)) (fun _ => ?_))
      · obtain ⟨x, i', h', e, c⟩ := a0u b i1 h1 2 c1
        exact pJ e (b1w d oM ih b i' h' t vs w _ c oM hv h0 h8 (fun _ => by omega))
      · exact b1w d oM ih b i1 h1 t vs w _ c1 oM hv h0 h8 (fun h => by simp at h)
      · exact b1w d oM ih b i1 h1 t vs w _ c1 oM hv h0 h8 (fun h => by simp at h)
def MP (t : List S31) (s : Nat) (b : List Int) (r : List S31 × Int × Int × Int × Int × Int) : Prop := r.1.length ≤ t.length + s ∧ (0 ≤ r.2.2.1 ∧ r.2.2.1 ≤ 8) ∧ (0 ≤ r.2.2.2.1 ∧ r.2.2.2.1 ≤ 100) ∧ Cur b r.2.2.2.2.1
def MS : Nat → Nat
  | 0 => 41
  | e + 1 => 2 * MS e + 41
theorem d2p (e : Nat) : 41 ≤ MS e := by cases e <;> simp [MS]
def b0z (e : Nat) : Prop := ∀ (b : List Int) (i h : Int) (t vs : List S31) (nx bits : Int), Cur b i → t.length + MS e ≤ 100000 → a1d vs → vs.length + e ≤ 900 → 0 ≤ nx → nx ≤ 8 → 0 ≤ bits → bits ≤ 100 → Ok (fun k => pY k b i h t vs nx bits (e : Int)) (MP t (MS e) b)
theorem a5s (e : Nat) (b : List Int) (i h : Int) (t vs : List S31) (nx bits : Int) (hc : Cur b i) (ht : t.length + MS e ≤ 100000) (hv : a1d vs) (n0 : 0 ≤ nx) (n8 : nx ≤ 8) (b0 : 0 ≤ bits) (b1 : bits ≤ 100) :
    Ok (fun k => (pF k b i h t vs 1 3).bind fun r => (some (r.1, r.2.1, nx, bits, r.2.2.1, r.2.2.2) : Option (List S31 × Int × Int × Int × Int × Int))) (MP t (MS e) b) := by
  have hm := d2p e
  refine sP (c6k 3 oM b i h t vs 1 hc oM hv oM oM) (fun r hr => ?_)
  obtain ⟨l1, _, _, c1⟩ := hr
  refine tJ ⟨?_, ⟨n0, n8⟩, ⟨b0, b1⟩, c1⟩
  have : DS 3 = 40 := rfl
  simp only; omega
theorem b8x {vs : List S31} (hv : a1d vs) (hl : vs.length < 1000) (w nx : Int) (h0 : 1 ≤ w) (h8 : w ≤ 8) : a1d (([] ++ vs) ++ [(⟨1, w, nx, 0, 0, 0⟩ : S31)]) := by
  refine ⟨by simp; omega, fun x hx => ?_⟩
  simp only [List.nil_append, List.mem_append, List.mem_singleton] at hx
  rcases hx with hx | rfl
  · exact hv.2 x hx
  · exact ⟨h0, h8⟩
theorem b7q (e : Nat) (ih : ∀ e', e = e' + 1 → b0z e') (he : e ≤ 10) (b : List Int) (i h : Int) (t vs : List S31) (nx bits : Int) (x : Bool) (hc : Cur b i) (ht : t.length + MS e ≤ 100000) (hv : a1d vs) (hvl : vs.length + e ≤ 900) (n0 : 0 ≤ nx) (n8 : nx ≤ 8) (b0 : 0 ≤ bits) (b1 : bits ≤ 100) :
    Ok (fun k => vH k t vs nx bits (e : Int) x b i h) (MP t (MS e) b) := by
  refine qT ?_
  simp only [vH]
  refine tL (fun _ => tL (fun hp => ?_) (fun _ => a5s e b i h t vs nx bits hc ht hv n0 n8 b0 b1)) (fun _ => a5s e b i h t vs nx bits hc ht hv n0 n8 b0 b1)
  obtain ⟨e', rfl⟩ : ∃ e', e = e' + 1 := ⟨e - 1, oM⟩
  have hms : MS (e' + 1) = 2 * MS e' + 41 := rfl
  rw [oY (x := ((e' + 1 : Nat) : Int) - 1) oM oM, show ((e' + 1 : Nat) : Int) - 1 = (e' : Int) by omega]
  refine sP (ih e' rfl b i h t vs nx bits hc oM hv oM n0 n8 b0 b1) (fun r hr => ?_)
  obtain ⟨t1, a1, n1, bb1, i1, h1⟩ := r
  obtain ⟨l1, ⟨m1, m2⟩, ⟨k1, k2⟩, c1⟩ := hr
  simp only at l1 m1 m2 k1 k2 c1
  refine sP (ih e' rfl b i1 h1 t1 vs n1 bb1 c1 oM hv oM m1 m2 k1 k2) (fun r hr => ?_)
  obtain ⟨t2, a2, n2, bb2, i2, h2⟩ := r
  obtain ⟨l2, q2, s2, c2⟩ := hr
  simp only at l2 q2 s2 c2
  obtain ⟨y, i3, h3, e3, _, _, _, c3⟩ := qS b i2 h2 2 c2
  refine pJ e3 (pJ (yV t2 oM _ _ _ _ _ _) (tJ ?_))
  exact ⟨by simp; omega, q2, s2, c3⟩
theorem c6e (e : Nat) (ih : ∀ e', e = e' + 1 → b0z e') (he : e ≤ 10) (b : List Int) (i h : Int) (t vs : List S31) (nx bits : Int) (x : Bool) (hc : Cur b i) (ht : t.length + MS e ≤ 100000) (hv : a1d vs) (hvl : vs.length + e ≤ 900) (n0 : 0 ≤ nx) (n8 : nx ≤ 8) (b0 : 0 ≤ bits) (b1 : bits ≤ 100)
    (hx : x = true → 0 < e ∧ nx < 8 ∧ 0 < bits) : Ok (fun k => tF k t vs nx bits (e : Int) x b i h) (MP t (MS e) b) := by
  refine qT ?_
  simp only [tF]
  refine tL (fun hxt => ?_) (fun _ => ?_)
  · obtain ⟨g1, g2, g3⟩ := hx hxt
    obtain ⟨e', rfl⟩ : ∃ e', e = e' + 1 := ⟨e - 1, oM⟩
    have hms : MS (e' + 1) = 2 * MS e' + 41 := rfl
    obtain ⟨y, i1, h1, e1, y0, _, y1, c1⟩ := qS b i h 3 hc
    have y1 := y1 oM
    refine pJ e1 ?_
    simp only
    rw [oY (x := 1 + y) oM oM, oY (x := ((e' + 1 : Nat) : Int) - 1) oM oM, show ((e' + 1 : Nat) : Int) - 1 = (e' : Int) by omega, oY (x := nx + 1) oM oM, oY (x := bits - bits) oM oM, oY (x := bits - (1 + y)) oM oM]
    have fin : ∀ (w bits' z : Int) (i2 h2 : Int), 1 ≤ w → w ≤ 8 → 0 ≤ bits' → bits' ≤ 100 → Cur b i2 → Ok (fun k => (some (([] : List S31) : List S31)).bind fun y560 => (if y560.length + vs.length < 2932031007402 then ((some (y560 ++ vs : List S31)).bind fun y563 => ((some (([(⟨1, w, nx, 0, 0, 0⟩ : S31)] : List S31) : List S31)).bind fun y566 => (if y563.length + y566.length < 2932031007402 then ((pY k b i2 h2 t (y563 ++ y566) (nx + 1) bits' (e' : Int)).bind fun bt572 => ((pP bt572.1 z 1 nx bt572.2.1 w 0).bind fun bt580 => (some (bt580.1, bt580.2, bt572.2.2.1, bt572.2.2.2.1, bt572.2.2.2.2.1, bt572.2.2.2.2.2) : Option (List S31 × Int × Int × Int × Int × Int)))) else (none)))) else (none))) (MP t (MS (e' + 1)) b) := by
      intro w bits' z i2 h2 w0 w8 p0 p1 c2
      have hv1 := hv.1
      refine pJ rfl (pK (by simp; omega) (pJ rfl (pJ rfl (pK (by simp; omega) ?_))))
      refine sP (ih e' rfl b i2 h2 t _ (nx + 1) bits' c2 oM (b8x hv oM w nx w0 w8) (by simp; omega) oM oM p0 p1) (fun r hr => ?_)
      obtain ⟨t1, a1, n1, bb1, i3, h3⟩ := r
      obtain ⟨l1, q1, s1, c3⟩ := hr
      simp only at l1 q1 s1 c3
      refine pJ (yV t1 oM _ _ _ _ _ _) (tJ ?_)
      exact ⟨by simp; omega, q1, s1, c3⟩
    refine tL (fun hgt => ?_) (fun hle => ?_)
    · obtain ⟨z, i2, h2, e2, _, _, _, c2⟩ := qS b i1 h1 2 c1
      exact pJ e2 (fin bits (bits - bits) _ i2 h2 oM oM oM oM c2)
    · obtain ⟨z, i2, h2, e2, _, _, _, c2⟩ := qS b i1 h1 2 c1
      exact pJ e2 (fin (1 + y) (bits - (1 + y)) _ i2 h2 oM oM oM oM c2)
  · obtain ⟨y, i1, h1, e1, y0, _, y1, c1⟩ := qS b i h 5 hc
    refine pJ e1 (tL (fun _ => tL (fun hp => ?_) (fun _ => a5s e b i1 h1 t vs nx bits c1 ht hv n0 n8 b0 b1)) (fun _ => tL (fun _ => ?_) (fun _ => ?_)))
    · obtain ⟨e', rfl⟩ : ∃ e', e = e' + 1 := ⟨e - 1, oM⟩
      have hms : MS (e' + 1) = 2 * MS e' + 41 := rfl
      rw [oY (x := ((e' + 1 : Nat) : Int) - 1) oM oM, show ((e' + 1 : Nat) : Int) - 1 = (e' : Int) by omega]
      refine sP (ih e' rfl b i1 h1 t vs nx bits c1 oM hv oM n0 n8 b0 b1) (fun r hr => ?_)
      obtain ⟨t1, a1, n1, bb1, i3, h3⟩ := r
      obtain ⟨l1, q1, s1, c3⟩ := hr
      simp only at l1 q1 s1 c3
      refine pJ (yV t1 oM _ _ _ _ _ _) (tJ ?_)
      exact ⟨by simp; omega, q1, s1, c3⟩
    · exact b7q e ih he b i1 h1 t vs nx bits _ c1 ht hv hvl n0 n8 b0 b1
    · exact b7q e ih he b i1 h1 t vs nx bits _ c1 ht hv hvl n0 n8 b0 b1
theorem b0e (e : Nat) (ih : ∀ e', e = e' + 1 → b0z e') (he : e ≤ 10) : b0z e := by
  intro b i h t vs nx bits hc ht hv hvl n0 n8 b0 b1
  refine qT ?_
  simp only [pY]
  have j0 := fun (i h : Int) (x : Bool) (hc : Cur b i) (hx : x = true → 0 < e ∧ nx < 8 ∧ 0 < bits) => c6e e ih he b i h t vs nx bits x hc ht hv hvl n0 n8 b0 b1 hx
  refine tL (fun h1 => tL (fun h2 => tL (fun h3 => ?_) (fun _ => j0 i h false hc (by simp))) (fun _ => j0 i h false hc (by simp))) (fun _ => j0 i h false hc (by simp))
  obtain ⟨x, i1, z1, e1, c1⟩ := a0u b i h 5 hc
  exact pJ e1 (j0 i1 z1 _ c1 (fun _ => ⟨oM, h2, h3⟩))
theorem c6d (e : Nat) : e ≤ 10 → b0z e := by
  induction e with
  | zero => intro _; exact b0e 0 (fun e' h => by omega) oM
  | succ e ih => intro he; exact b0e (e + 1) (fun e' h => by have h' : e = e' := oM; subst h'; exact ih oM) he
theorem b7u (l : List S31) (hl : l.length ≤ 80) (i : Nat) (hi : i < l.length) (out : List Bool) (ho : out.length = i) (ps : List Int) (hps : ps.length ≤ 3) (hp : ∀ p ∈ ps, 0 ≤ p ∧ p < (i : Int)) (P : List Bool → Prop)
    (hk : ∀ b : Bool, Ok (fun k => rR k l (out ++ [b]) ((i + 1 : Nat) : Int)) P) (d : Nat) : ∀ (t : Nat) (b : Bool), t + d = ps.length → Ok (fun k => rQ k l out (i : Int) b ps (t : Int)) P := by
  induction d with
  | zero =>
    intro t b ht
    refine qT ?_
    simp only [rQ]
    rw [wS i]
    exact zR oM (pK oM (hk b))
  | succ d ih =>
    intro t b ht
    have hlt : t < ps.length := by omega
    have hq := hp _ (List.getElem_mem hlt)
    rw [← rdI ps t hlt] at hq
    refine qT ?_
    simp only [rQ]
    rw [wS t]
    exact pK oM (tL (fun _ => ih (t + 1) true oM) (fun _ => pK oM (pK hq.1 (pK oM (ih (t + 1) _ oM)))))
theorem b7t (l : List S31) (hl : l.length ≤ 80) (hP : yQ l) (d : Nat) : ∀ (i : Nat) (out : List Bool), i + d = l.length → out.length = i → Ok (fun k => rR k l out (i : Int)) (fun r => r.length = l.length) := by
  induction d with
  | zero =>
    intro i out hi ho
    refine qT ?_
    simp only [rR]
    exact zR oM (tJ oM)
  | succ d ih =>
    intro i out hi ho
    refine qT ?_
    simp only [rR]
    refine pK oM (pK oM (pJ (d0q _) (sP (b3v (a6x 1 fun k hk => a7i _ _ _ _ _ _ hk) rfl) (fun ps hps => ?_))))
    subst hps
    exact b7u l hl i oM out ho _ (uD _ _ _ _) (hP i oM) _ (fun b => ih (i + 1) _ oM (by simp; omega)) _ 0 _ (Nat.zero_add _)
theorem d0p {l : List S31} (h : rT l) (i : Nat) (hi : i < l.length) (ho : (kA l (i : Int)).f0 = 19 ∨ (kA l (i : Int)).f0 = 20 ∨ (kA l (i : Int)).f0 = 1) : 0 ≤ (kA l (i : Int)).f2 ∧ (kA l (i : Int)).f2 ≤ 7 := by
  have hb := h i hi
  unfold a1v sM at hb
  simp only [Bool.and_eq_true] at hb
  have hs := hb.2
  generalize (kA l (i : Int)).f0 = op at *
  generalize (kA l (i : Int)).f2 = K at *
  have : inB K 0 7 = true := by
    rcases ho with rfl | rfl | rfl
    · simp only [pM] at hs; simp at hs; exact hs.1.1.1
    · simp only [pM] at hs; simp at hs; exact hs.1.1.1
    · simpa [pM] using hs
  exact rP.mp this
theorem c5k (l : List S31) (hl : l.length ≤ 80) (m h : List Bool) (us : List Int) (hm : m.length = l.length) (hh : h.length = l.length) (hu : us.length = l.length) (d : Nat) : ∀ i : Nat, i + d = l.length → Ok (fun k => rI k l m h us (i : Int)) (fun _ => True) := by
  induction d with
  | zero =>
    intro i hi
    refine qT ?_
    simp only [rI]
    exact zR oM (tJ trivial)
  | succ d ih =>
    intro i hi
    refine qT ?_
    simp only [rI]
    rw [wS i]
    have hn := ih (i + 1) oM
    exact pK oM (pK oM (pK oM (tL (fun _ => pK oM (tL (fun _ => pK oM (tL (fun _ => tJ trivial) (fun _ => hn))) (fun _ => hn))) (fun _ => hn))))
theorem c5l (l : List S31) (hl : l.length ≤ 80) (hN : rT l) (m h : List Bool) (hm : m.length = l.length) (hh : h.length = l.length) (ws : List Int) (hw : ws.length = 8) (d : Nat) : ∀ (i : Nat) (us : List Int), i + d = l.length → us.length = l.length → Ok (fun k => sI k l m h ws us (i : Int)) (fun _ => True) := by
  have hP := rS hN
  induction d with
  | zero =>
    intro i us hi hu
    refine qT ?_
    simp only [sI]
    exact zR oM (c5k l hl m h us hm hh hu l.length 0 oM)
  | succ d ih =>
    intro i us hi hu
    have hlt : i < l.length := by omega
    have l4 : ∀ (n t : Nat) (us : List Int), t + n = (pl l i).length → us.length = l.length → Ok (fun k => tP k l m h ws us (i : Int) (pl l i) (t : Int)) (fun _ => True) := by
      intro n
      have hp3 : (pl l i).length ≤ 3 := uD _ _ _ _
      induction n with
      | zero =>
        intro t us ht hu
        refine qT ?_
        simp only [tP]
        rw [wS i]
        exact zR oM (ih (i + 1) us oM hu)
      | succ n ihn =>
        intro t us ht hu
        have hq := hP i hlt _ (List.getElem_mem (show t < (pl l i).length by omega))
        rw [← rdI (pl l i) t oM] at hq
        refine qT ?_
        simp only [tP]
        rw [wS t]
        exact pK oM (pK oM (pK hq.1 (pK oM (ihn (t + 1) _ oM (by rw [List.length_set]; exact hu)))))
    have j6 : ∀ x : Bool, Ok (fun k => qJ k l m h ws us (i : Int) x) (fun _ => True) := by
      intro x
      refine qT ?_
      simp only [qJ]
      refine tL (fun _ => tJ trivial) (fun _ => pK oM (pK oM (sP (b3v (a6x 1 fun k hk => a7i _ _ _ _ _ _ hk) rfl) (fun ps hps => ?_))))
      subst hps
      exact l4 (pl l i).length 0 us oM hu
    have outer : ∀ op : Int, ∃ b, uF op = some b := by
      intro op
      unfold uF
      by_cases a : op = 2
      · exact ⟨_, if_pos a⟩
      · rw [if_neg a]
        by_cases b : op = 3
        · exact ⟨_, if_pos b⟩
        · rw [if_neg b]
          by_cases c : op = 4
          · exact ⟨_, if_pos c⟩
          · rw [if_neg c, d0q]; exact ⟨_, rfl⟩
    obtain ⟨ob, hob⟩ := outer (kA l (i : Int)).f0
    have tail : Ok (fun k => if (i : Int) < (h.length : Int) then (if vD false h (i : Int) = true then ((uF ((kA l (i : Int)).f0)).bind fun t721 => (qJ k l m h ws us (i : Int) (!t721))) else (qJ k l m h ws us (i : Int) false)) else (none)) (fun _ => True) :=
      pK oM (tL (fun _ => pJ hob (j6 _)) (fun _ => j6 _))
    refine qT ?_
    simp only [sI]
    rw [wS i]
    refine pK oM (pK oM (pK oM (tL (fun _ => tL (fun hv => ?_) (fun _ => tail)) (fun _ => ih (i + 1) us oM hu))))
    have hK := d0p hN i hlt (.inr (.inr hv))
    exact pK hK.1 (pK oM (tL (fun _ => tail) (fun _ => j6 true)))
theorem c5m (l : List S31) (hl : l.length ≤ 80) (hN : rT l) (m h : List Bool) (hm : m.length = l.length) (hh : h.length = l.length) (ws : List Int) (hw : ws.length = 8) (d : Nat) : ∀ (i : Nat) (us : List Int), i + d = l.length → us.length = i → Ok (fun k => tQ k l m h ws us (i : Int)) (fun _ => True) := by
  induction d with
  | zero =>
    intro i us hi hu
    refine qT ?_
    simp only [tQ]
    exact zR oM (c5l l hl hN m h hm hh ws hw l.length 0 us oM oM)
  | succ d ih =>
    intro i us hi hu
    refine qT ?_
    simp only [tQ]
    rw [wS i]
    exact pK oM (pK oM (ih (i + 1) _ oM (by simp; omega)))
theorem c5n (l : List S31) (hl : l.length ≤ 80) (hN : rT l) (m h : List Bool) (hm : m.length = l.length) (hh : h.length = l.length) (d : Nat) : ∀ (i : Nat) (ws : List Int), i + d = l.length → ws.length = 8 → Ok (fun k => sJ k l m h ws (i : Int)) (fun _ => True) := by
  induction d with
  | zero =>
    intro i ws hi hw
    refine qT ?_
    simp only [sJ]
    exact zR oM (c5m l hl hN m h hm hh ws hw l.length 0 [] oM rfl)
  | succ d ih =>
    intro i ws hi hw
    have hlt : i < l.length := by omega
    have j3 : ∀ x : Bool, (x = true → (kA l (i : Int)).f0 = 19 ∨ (kA l (i : Int)).f0 = 20) → Ok (fun k => uO k l m h ws (i : Int) x) (fun _ => True) := by
      intro x hx
      refine qT ?_
      simp only [uO]
      rw [wS i]
      refine tL (fun hxt => ?_) (fun _ => ih (i + 1) ws oM hw)
      have hK := d0p hN i hlt (by rcases hx hxt with h | h; exact .inl h; exact .inr (.inl h))
      exact pK oM (pK oM (pK hK.1 (pK oM (tL (fun _ => ih (i + 1) _ oM (by rw [List.length_set]; exact hw)) (fun _ => tJ trivial)))))
    refine qT ?_
    simp only [sJ]
    refine pK oM (pK oM (pK oM (tL (fun _ => pJ (d0q _) (j3 _ (fun h => by simpa using h))) (fun _ => j3 false (by simp)))))
theorem c5o (l : List S31) (hl : l.length ≤ 80) (hN : rT l) (m h : List Bool) (hm : m.length = l.length) (hh : h.length = l.length) (d : Nat) : ∀ (i : Nat) (ws : List Int), i + d = 8 → ws.length = i → Ok (fun k => tR k l m h ws (i : Int)) (fun _ => True) := by
  induction d with
  | zero =>
    intro i ws hi hw
    refine qT ?_
    simp only [tR]
    exact zR oM (c5n l hl hN m h hm hh l.length 0 ws oM oM)
  | succ d ih =>
    intro i ws hi hw
    refine qT ?_
    simp only [tR]
    rw [wS i]
    exact pK oM (pK oM (ih (i + 1) _ oM (by simp; omega)))
theorem b2c (l : List S31) (FR : ∃ r, Ev (fun k => xZ k l) r) : Ok (fun k => uJ k l) (fun b => b = true → yC l) := by
  obtain ⟨b, e1, _, hb⟩ := a8d l
  unfold uJ
  refine sP (b3v e1 rfl) (fun b' hb' => ?_)
  subst hb'
  have jt : Ok (fun k => sL k l true) (fun b => b = true → yC l) := by
    refine qT ?_
    simp only [sL]
    exact pK trivial (tJ (by simp))
  refine tL (fun ht => ?_) (fun _ => jt)
  obtain ⟨h1, h2, h3⟩ := hb.mp ht
  rw [oY oM oM]
  refine pK oM (pK oM (tL (fun _ => ?_) (fun _ => jt)))
  obtain ⟨r, hr⟩ := FR
  refine sP (b3v hr rfl) (fun r' hr' => ?_)
  refine b7l (P := fun _ => True) ?_ (fun _ _ _ => ⟨h1, h2, h3⟩)
  refine qT ?_
  simp only [sL]
  have hP := rS h3
  refine tL (fun _ => tJ trivial) (fun _ => sP (b3v (b1t l oM h1 hP) rfl) (fun m hm => sP (b7t l h2 hP l.length 0 [] oM rfl) (fun h hh => ?_)))
  subst hm
  exact c5o l h2 h3 _ h (b3q _ _ _) hh 8 0 [] oM rfl
theorem d0t (l : List S31) (row : List Bool) (hr : row.length = 8) (d : Nat) : ∀ (v : Nat) (out : List Int), v + d = 8 → out.length + d ≤ 8 → ∃ r, Ev (fun k => uV k out row (v : Int)) r := by
  induction d with
  | zero =>
    intro v out hv ho
    refine ⟨out, kR ?_⟩
    simp only [uV]; exact kH oM kQ
  | succ d ih =>
    intro v out hv ho
    by_cases hD : vD false row (v : Int) = true
    · obtain ⟨r, e1⟩ := ih (v + 1) (out ++ [(v : Int)]) oM (by simp; omega)
      refine ⟨r, kR ?_⟩
      simp only [uV]
      refine kD oM (kD oM (kD oM (kD hD (kD oM ?_))))
      rw [wS v]; exact e1
    · obtain ⟨r, e1⟩ := ih (v + 1) out oM oM
      refine ⟨r, kR ?_⟩
      simp only [uV]
      refine kD oM (kD oM (kD oM (kH hD ?_)))
      rw [wS v]; exact e1
theorem d1k (l : List S31) : ∃ r, Ev (fun k => xZ k l) r := by
  obtain ⟨b, e1, _, h⟩ := a8d l
  unfold xZ
  by_cases hb : b = true
  · obtain ⟨h1, h2, h3⟩ := h.mp hb
    obtain ⟨r, f1⟩ := d0t l ((FT l l.length).getD (l.length - 1) []) (by rw [d1m l l.length _ oM]; simp) 8 0 [] rfl (by simp)
    exact ⟨r, kU rfl (kF e1 (kD hb (kF (b3y l h2 h1 (rS h3)) f1)))⟩
  · exact ⟨[], kU rfl (kF e1 (kH hb kQ))⟩
theorem a7o : yC [(⟨1, 1, 0, 0, 0, 0⟩ : S31), (⟨20, 1, 0, 0, 1, 0⟩ : S31)] := by
  refine ⟨by simp, by simp, fun i hi => ?_⟩
  have : i = 0 ∨ i = 1 := by simp at hi; omega
  rcases this with rfl | rfl <;> decide +kernel
theorem a8f (b : List Int) (i h bits : Int) (hc : Cur b i) (b0 : 0 ≤ bits) (b1 : bits ≤ 100) : Ok (fun k => uT k b i h bits) (fun r => yC r.1 ∧ Cur b r.2.1) := by
  unfold uT
  refine sP (c6d 4 oM b i h [] [] 0 bits hc (by simp [MS]) ⟨by simp, by simp⟩ (by simp) oM oM b0 b1) (fun r hr => ?_)
  obtain ⟨_, _, _, c⟩ := hr
  refine tL (fun _ => tJ ⟨a7o, c⟩) (fun hl => ?_)
  obtain ⟨q, hq⟩ := d1k r.1
  exact sP (b2c r.1 ⟨q, hq⟩) (fun x hx => tL (fun ht => tJ ⟨hx ht, c⟩) (fun _ => tJ ⟨a7o, c⟩))
theorem c0m (b : List Int) (i h : Int) (hc : Cur b i) : Ok (fun k => xP k b i h) (fun r => 1 ≤ r.1.length ∧ r.1.length ≤ 81 ∧ Cur b r.2.1) := by
  unfold xP
  refine sP (a8f b i h 8 hc oM oM) (fun r hr => ?_)
  obtain ⟨t, i1, h1⟩ := r
  obtain ⟨⟨l1, l2, _⟩, c1⟩ := hr
  simp only at l1 l2 c1
  obtain ⟨y, i2, h2, e2, y0, _, y1, c2⟩ := qS b i1 h1 (t.length : Int) c1
  have y1 := y1 oM
  refine pJ e2 ?_
  obtain ⟨z, i3, h3, e3, z0, _, z1, c3⟩ := qS b i2 h2 12 c2
  refine pJ e3 ?_
  simp only
  refine tL (fun _ => ?_) (fun _ => tL (fun _ => ?_) (fun _ => tL (fun _ => ?_) (fun _ => tL (fun _ => ?_) (fun _ => tL (fun _ => ?_) (fun _ => tL (fun _ => tL (fun _ => ?_) (fun _ => ?_)) (fun _ => ?_))))))
  · obtain ⟨w, i4, h4, e4, _, c4⟩ := a3n b i3 h3 [0, 1, 2, 9] (by simp) c3
    exact pJ e4 (pK y0 (pK y1 (tJ ⟨by simp; omega, by simp; omega, c4⟩)))
  · obtain ⟨w, i4, h4, e4, _, _, _, c4⟩ := qS b i3 h3 (wrap64 ((t.length : Int) + 2)) c3
    exact pJ e4 (pK y0 (pK y1 (tJ ⟨by simp; omega, by simp; omega, c4⟩)))
  · obtain ⟨w, i4, h4, e4, _, c4⟩ := a3n b i3 h3 [(-1), 0, 1, 8] (by simp) c3
    exact pJ e4 (pK y0 (pK y1 (tJ ⟨by simp; omega, by simp; omega, c4⟩)))
  · obtain ⟨w, i4, h4, e4, _, _, _, c4⟩ := qS b i3 h3 23 c3
    exact pJ e4 (pK y0 (pK y1 (tJ ⟨by simp; omega, by simp; omega, c4⟩)))
  · rw [oY (x := y + 1) oM oM]
    exact pK oM (pK oM (tJ ⟨by simp; omega, by simp; omega, c3⟩))
  · exact pK y0 (pK y1 (pK oM (tJ ⟨by simp, by simp; omega, c3⟩)))
  · exact tJ ⟨by simp only; omega, by simp only; omega, c3⟩
  · exact tJ ⟨by simp only; omega, by simp only; omega, c3⟩
end Go.Proofs.Ytkpipmojkhikaaa.Pure.TextW
namespace Go.Proofs.Ytkpipmojkhikaaa.Pure
open Go.RowKit Go.Proofs.Ytkpipmojkhikaaa.PAll Go.Proofs.YtkpipmojkhikaaaW.PrintWords Go.Proofs.YtkpipmojkhikaaaW.PrintLast Go.Proofs.YtkpipmojkhikaaaW.PrintMore Go.Proofs.Ytkpipmojkhikaaa.Base Go.Proofs.Ytkpipmojkhikaaa.Pure.TextW
theorem zI (L : List UInt8) (i : Nat) (h : i < L.length) : bt (mkB L) (i : Int) = ((L.getD i 0).toNat : Int) := by
  unfold bt mkB
  rw [Int.toNat_natCast, dif_pos (by simpa [ByteArray.size] using h)]
  simp [ByteArray.getElem_eq_getElem_data, List.getD_eq_getElem?_getD, h]
def dig (x : UInt8) : Bool := decide (48 ≤ x.toNat ∧ x.toNat ≤ 57)
def dv (x : UInt8) : Int := (x.toNat : Int) - 48
theorem a0d {x : UInt8} : dig x = true ↔ 0 ≤ dv x ∧ dv x ≤ 9 := by unfold dig dv; simp only [decide_eq_true_eq]; omega
theorem d0v {x : UInt8} (h : dig x = true) : d8 (dv x) = x := by
  have := a0d.mp h
  unfold d8 dv at *
  rw [show 48 + ((x.toNat : Int) - 48).toNat = x.toNat by omega]
  exact UInt8.ofNat_toNat
def a4d (v : Int) (L : List UInt8) : Int := L.foldl (fun n x => 10 * n + dv x) v
theorem b6e (v : Int) (L : List UInt8) (x : UInt8) : a4d v (L ++ [x]) = 10 * a4d v L + dv x := by unfold a4d; simp [List.foldl_append]
theorem b0a {i : Nat} (h : i ≤ 9) : (1 : Int) ≤ 10 ^ i ∧ (10 : Int) ^ i ≤ 1000000000 := by
  have : i = 0 ∨ i = 1 ∨ i = 2 ∨ i = 3 ∨ i = 4 ∨ i = 5 ∨ i = 6 ∨ i = 7 ∨ i = 8 ∨ i = 9 := by omega
  rcases this with rfl | rfl | rfl | rfl | rfl | rfl | rfl | rfl | rfl | rfl <;> decide
theorem c5c (L : List UInt8) : ∀ (v : Int) (i : Nat), L.all dig = true → 0 ≤ v → v < 10 ^ i → 0 ≤ a4d v L ∧ a4d v L < 10 ^ (i + L.length) := by
  induction L with
  | nil => intro v i _ h0 h1; exact ⟨h0, h1⟩
  | cons x L ih =>
    intro v i h h0 h1
    rw [List.all_cons, Bool.and_eq_true] at h
    have hx := a0d.mp h.1
    have := ih (10 * v + dv x) (i + 1) h.2 oM (by rw [Int.pow_succ]; omega)
    rw [List.length_cons, show i + (L.length + 1) = i + 1 + L.length by omega]
    exact this
theorem a9t (L : List UInt8) (h : L.all dig = true) (hl : L.length ≤ 9) : 0 ≤ a4d 0 L ∧ a4d 0 L ≤ 999999999 := by
  have h1 := c5c L 0 0 h oM (by decide)
  rw [Nat.zero_add] at h1
  have := (b0a hl).2
  omega
theorem b8z (L : List UInt8) : ∀ v : Int, L.all dig = true → 0 < v → 0 < a4d v L := by
  induction L with
  | nil => intro v _ h; exact h
  | cons x L ih =>
    intro v h h0
    rw [List.all_cons, Bool.and_eq_true] at h
    have hx := a0d.mp h.1
    exact ih (10 * v + dv x) h.2 oM
theorem b6d (L : List UInt8) (h : L.all dig = true) (hne : L ≠ []) (h0 : L.headD 0 ≠ 48) : 0 < a4d 0 L := by
  cases L with
  | nil => exact absurd rfl hne
  | cons x L =>
    rw [List.all_cons, Bool.and_eq_true] at h
    have hx := a0d.mp h.1
    have h0 : x ≠ 48 := h0
    have : dv x ≠ 0 := fun e => h0 (by have := d0v h.1; rw [e] at this; rw [← this]; rfl)
    exact b8z L (10 * 0 + dv x) h.2 oM
theorem b8f (a m : Int) (ha : 0 ≤ a) (h0 : 0 < m) (h1 : m ≤ 999999999) (acc : List UInt8) (hacc : acc.length ≤ 100) (r : ByteArray) (h : Ev (fun k => pX k a (mkB (d8 (m % 10) :: acc)) (m / 10)) r) :
    Ev (fun k => pX k a (mkB acc) m) r := by
  refine kR ?_
  simp only [pX]
  rw [Int.tmod_eq_emod_of_nonneg oM, Int.tdiv_eq_ediv_of_nonneg oM]
  have hm : 0 ≤ m % 10 ∧ m % 10 < 10 := by omega
  rw [oY (x := m % 10 + 1) oM oM, oY (x := m / 10) oM oM, d2z hm.1 hm.2, kX, kP, kP]
  exact kH oM (kH oM (kD oM (kD oM (kD oM (kD (by simp; omega) h)))))
theorem b8g (a : Int) (ha : 0 ≤ a) (n : Nat) : ∀ (M acc : List UInt8), M.length = n → M.all dig = true → (M ≠ [] → M.headD 0 ≠ 48) → M.length ≤ 9 → M.length + acc.length ≤ 50 →
    Ev (fun k => pX k a (mkB acc) (a4d 0 M)) (mkB (M ++ acc)) := by
  induction n with
  | zero =>
    intro M acc hn _ _ _ _
    obtain rfl := List.length_eq_zero_iff.mp hn
    refine kR ?_
    simp only [pX]
    exact kD rfl (kH oM kQ)
  | succ n ih =>
    intro M acc hn hd h0 hl hb
    have hne : M ≠ [] := fun e => by rw [e] at hn; simp at hn
    have hpos := b6d M hd hne (h0 hne)
    have hbd := a9t M hd hl
    obtain ⟨M2, x, rfl⟩ : ∃ M2 x, M = M2 ++ [x] := ⟨M.dropLast, M.getLast hne, (List.dropLast_concat_getLast hne).symm⟩
    rw [List.all_append, Bool.and_eq_true] at hd
    have hx : dig x = true := by simpa using hd.2
    have hxv := a0d.mp hx
    rw [List.length_append] at hn hl hb
    simp only [List.length_cons, List.length_nil] at hn hl hb
    refine b8f a _ ha hpos hbd.2 acc oM _ ?_
    rw [b6e] at hpos hbd ⊢
    rw [show (10 * a4d 0 M2 + dv x) % 10 = dv x by omega, show (10 * a4d 0 M2 + dv x) / 10 = a4d 0 M2 by omega, d0v hx]
    have := ih M2 (x :: acc) oM hd.1 (fun h2 => by cases M2 with | nil => exact absurd rfl h2 | cons y M2 => exact h0 hne) oM (by simp only [List.length_cons]; omega)
    rw [List.append_assoc]
    exact this
theorem d3t (L : List UInt8) : L.all dig = true → L ≠ [] → L.length ≤ 9 → ∃ T : List UInt8, Ev (fun k => pQ k (a4d 0 L)) (mkB T) ∧ T.length ≤ L.length ∧ (1 < L.length → L.headD 0 = 48 → T.length < L.length) ∧ (¬ (1 < L.length ∧ L.headD 0 = 48) → T = L) := by
  induction L with
  | nil => intro _ h; exact absurd rfl h
  | cons x L ih =>
    intro hd _ hl
    by_cases hx : x = 48
    · subst hx
      cases L with
      | nil =>
        refine ⟨[48], ?_, by simp, fun h => absurd h (by simp), fun _ => rfl⟩
        unfold pQ
        exact kD rfl kQ
      | cons y L =>
        rw [List.all_cons, Bool.and_eq_true] at hd
        obtain ⟨T, h1, h2, h3, h4⟩ := ih hd.2 (by simp) (by simp only [List.length_cons] at hl ⊢; omega)
        refine ⟨T, h1, by simp only [List.length_cons] at h2 ⊢; omega, fun _ _ => by simp only [List.length_cons] at h2 ⊢; omega, fun h => absurd ⟨by simp, rfl⟩ h⟩
    · have hpos := b6d (x :: L) hd (by simp) hx
      refine ⟨x :: L, ?_, Nat.le_refl _, fun _ h => absurd h hx, fun _ => rfl⟩
      unfold pQ
      refine kH oM ?_
      have := b8g (a4d 0 (x :: L)) oM (x :: L).length (x :: L) [] rfl hd (fun _ => hx) hl (by simp only [List.length_nil]; omega)
      rw [List.append_nil] at this
      exact this
def a0b (L : List UInt8) : Option Int := if (1 ≤ L.length ∧ L.length ≤ 9) ∧ L.all dig = true ∧ ¬ (1 < L.length ∧ L.headD 0 = 48) then some (a4d 0 L) else none
theorem yA {L : List UInt8} {v : Int} (h : a0b L = some v) : 0 ≤ v ∧ v ≤ 999999999 := by
  unfold a0b at h
  split at h
  · rename_i hc
    obtain rfl := Option.some.inj h
    exact a9t L hc.2.1 hc.1.2
  · cases h
theorem a0z (L : List UInt8) (i : Nat) (h : i < L.length) : L.drop i = L.getD i 0 :: L.drop (i + 1) := by
  rw [List.drop_eq_getElem_cons h, List.getD_eq_getElem?_getD, List.getElem?_eq_getElem h]; rfl
theorem b7n (L : List UInt8) (hl : L.length ≤ 9) (d : Nat) : ∀ (i : Nat) (v : Int), i + d = L.length → 0 ≤ v → v < 10 ^ i →
    Ev (fun k => sF k (mkB L) v (L.length : Int) (i : Int)) (if (L.drop i).all dig = true then (a4d v (L.drop i), true) else (0, false)) := by
  induction d with
  | zero =>
    intro i v hi h0 h1
    refine kR ?_
    simp only [sF]
    rw [List.drop_eq_nil_of_le oM]
    exact kH oM (uN rfl)
  | succ d ih =>
    intro i v hi h0 h1
    have hb := b0a (i := i) oM
    refine kR ?_
    simp only [sF]
    rw [zI L i oM, kP, a0z L i oM, List.all_cons]
    have hx := UInt8.toNat_lt (L.getD i 0)
    generalize L.getD i 0 = x at *
    refine kD oM (kD oM (kD oM ?_))
    by_cases hd : dig x = true
    · have hv := a0d.mp hd
      have hb2 := b0a (i := i + 1) oM
      rw [hd, Bool.true_and]
      refine kH (by unfold dv at hv; omega) (kH (by unfold dv at hv; omega) ?_)
      rw [show ((x.toNat : Int) - 48) % 256 = dv x by unfold dv at *; omega, oY (x := 10 * v) oM oM, oY (x := 10 * v + dv x) oM oM, oY (x := (i : Int) + 1) oM oM]
      exact ih (i + 1) (10 * v + dv x) oM oM (by rw [Int.pow_succ]; omega)
    · have e : dig x = false := by simpa using hd
      rw [e, Bool.false_and, if_neg (by simp)]
      have hnd : ¬ (0 ≤ dv x ∧ dv x ≤ 9) := fun h => hd (a0d.mpr h)
      unfold dv at hnd
      by_cases h48 : (x.toNat : Int) < 48
      · exact kD h48 kQ
      · exact kH h48 (kD oM kQ)
theorem c6z (L : List UInt8) (hb : L.length ≤ 4000) : Ev (fun k => qL k (mkB L)) (match a0b L with | some v => (v, true) | none => (0, false)) := by
  unfold qL
  rw [inI, kP]
  simp only [Option.bind_some]
  have hj : ∀ b : Bool, (1 ≤ L.length ∧ L.length ≤ 9) → (b = true ↔ 1 < L.length ∧ L.headD 0 = 48) → Ev (fun k => qY k (mkB L) b) (match a0b L with | some v => (v, true) | none => (0, false)) := by
    intro b hl hbb
    refine kR ?_
    simp only [qY]
    by_cases h : b = true
    · refine kD h ?_
      rw [show a0b L = none by unfold a0b; rw [if_neg (fun hc => hc.2.2 (hbb.mp h))]]
      exact kQ
    · refine kH h ?_
      rw [kP]
      have := b7n L hl.2 L.length 0 0 oM oM (by decide)
      rw [List.drop_zero] at this
      have e : (match a0b L with | some v => (v, true) | none => ((0 : Int), false)) = if L.all dig = true then (a4d 0 L, true) else (0, false) := by
        unfold a0b
        by_cases hd : L.all dig = true
        · rw [if_pos ⟨hl, hd, fun hc => h (hbb.mpr hc)⟩, if_pos hd]
        · rw [if_neg (fun hc => hd hc.2.1), if_neg hd]
      rw [e]
      exact this
  by_cases hl : 1 ≤ L.length ∧ L.length ≤ 9
  · refine kD (by simp; omega) ?_
    by_cases h1 : 1 < L.length
    · refine kD oM (kD oM (hj _ hl ?_))
      have := zI L 0 oM
      rw [show ((0 : Nat) : Int) = 0 from rfl] at this
      rw [this]
      cases L with
      | nil => simp at h1
      | cons x L =>
        simp only [List.getD_cons_zero, List.headD_cons, beq_iff_eq]
        constructor
        · intro h; exact ⟨h1, by apply UInt8.toNat_inj.mp; show x.toNat = 48; omega⟩
        · intro h; rw [h.2]; rfl
    · exact kH oM (hj _ hl ⟨fun h => absurd h (by decide), fun h => absurd h.1 h1⟩)
  · refine kH (by simp; omega) ?_
    rw [show a0b L = none by unfold a0b; rw [if_neg (fun hc => hl hc.1)]]
    refine kR ?_
    simp only [qY]
    exact kD trivial kQ
theorem b7m (L : List UInt8) (hl : L.length ≤ 9) (hne : L ≠ []) (d : Nat) : ∀ (i : Nat) (v : Int), i + d = L.length → 0 ≤ v → v < 10 ^ i → (a4d v (L.drop i) = a4d 0 L) → (L.take i).all dig = true →
    Ev (fun k => vA k (mkB L) v (i : Int)) (match a0b L with | some v => v | none => -1) := by
  induction d with
  | zero =>
    intro i v hi h0 h1 he ht
    rw [List.drop_eq_nil_of_le oM] at he
    rw [List.take_of_length_le oM] at ht
    have he : v = a4d 0 L := he
    refine kR ?_
    simp only [vA]
    rw [kP]
    refine kH oM ?_
    obtain ⟨T, h1, h2, h3, h4⟩ := d3t L ht hne hl
    rw [he]
    refine kF h1 ?_
    rw [qQ, qQ]
    by_cases hc : 1 < L.length ∧ L.headD 0 = 48
    · rw [show a0b L = none by unfold a0b; rw [if_neg (fun h => h.2.2 hc)]]
      exact kH (fun e => by have := h3 hc.1 hc.2; rw [e] at this; omega) kQ
    · have hp : 1 ≤ L.length := by cases L with | nil => exact absurd rfl hne | cons x L => simp
      rw [show a0b L = some (a4d 0 L) by unfold a0b; rw [if_pos ⟨⟨hp, hl⟩, ht, hc⟩]]
      exact kD (h4 hc) kQ
  | succ d ih =>
    intro i v hi h0 h1 he ht
    have hb := b0a (i := i) oM
    refine kR ?_
    simp only [vA]
    rw [zI L i oM, kP]
    rw [a0z L i oM] at he
    have hx := UInt8.toNat_lt (L.getD i 0)
    have htk : L.take (i + 1) = L.take i ++ [L.getD i 0] := by
      rw [List.take_add_one, List.getD_eq_getElem?_getD, List.getElem?_eq_getElem oM]; rfl
    have hmem : L.getD i 0 ∈ L := by rw [List.getD_eq_getElem?_getD, List.getElem?_eq_getElem oM]; exact List.getElem_mem _
    generalize L.getD i 0 = x at *
    refine kD oM (kD oM ?_)
    rw [oY (x := (x.toNat : Int)) oM oM, inS]
    simp only [Option.bind_some]
    by_cases hd : dig x = true
    · have hv := a0d.mp hd
      have hb2 := b0a (i := i + 1) oM
      refine kD (by unfold dv at hv; simp; omega) ?_
      unfold dv at hv
      rw [oY (x := 10 * v) oM oM, oY (x := 10 * v + (x.toNat : Int)) oM oM, oY (x := 10 * v + (x.toNat : Int) - 48) oM oM, oY (x := (i : Int) + 1) oM oM]
      rw [show 10 * v + (x.toNat : Int) - 48 = 10 * v + dv x by unfold dv; omega]
      refine ih (i + 1) (10 * v + dv x) oM (by unfold dv; omega) (by rw [Int.pow_succ]; unfold dv; omega) he (by rw [htk, List.all_append, ht]; simp [hd])
    · have hnd : ¬ (0 ≤ dv x ∧ dv x ≤ 9) := fun h => hd (a0d.mpr h)
      unfold dv at hnd
      refine kH (by simp; omega) ?_
      rw [show a0b L = none by unfold a0b; rw [if_neg (fun h => hd (List.all_eq_true.mp h.2.1 _ hmem))]]
      exact kQ
theorem d1o (L : List UInt8) (hb : L.length ≤ 4000) : Ev (fun k => sX k (mkB L)) (match a0b L with | some v => v | none => -1) := by
  unfold sX
  rw [kP]
  have hj : ∀ b : Bool, (b = true ↔ ¬ (1 ≤ L.length ∧ L.length ≤ 9)) → Ev (fun k => vU k (mkB L) 0 b) (match a0b L with | some v => v | none => -1) := by
    intro b hbb
    refine kR ?_
    simp only [vU]
    by_cases h : b = true
    · refine kD h ?_
      rw [show a0b L = none by unfold a0b; rw [if_neg (fun hc => hbb.mp h hc.1)]]
      exact kQ
    · have hl : 1 ≤ L.length ∧ L.length ≤ 9 := by
        by_cases hl : 1 ≤ L.length ∧ L.length ≤ 9
        · exact hl
        · exact absurd (hbb.mpr hl) h
      exact kH h (b7m L hl.2 (fun e => by rw [e] at hl; simp at hl) L.length 0 0 oM oM (by decide) (by rw [List.drop_zero]) (by simp))
  by_cases h0 : (L.length : Int) = 0
  · exact kD h0 (hj true ⟨fun _ => by omega, fun _ => rfl⟩)
  · exact kH h0 (hj _ (by simp; omega))
theorem vO (L : List UInt8) (i j : Nat) : (mkB L).extract i j = mkB ((L.drop i).take (j - i)) := by
  unfold mkB
  apply ByteArray.ext
  simp [ByteArray.data_extract, List.extract_eq_take_drop]
def yO (x : UInt8) : Bool := x == 32 || x == 40 || x == 41
def a4c (x : UInt8) : Bool := x == 32 || x == 41
def wd (e : UInt8 → Bool) (L : List UInt8) (a : Nat) : List UInt8 := (L.drop a).takeWhile fun x => !e x
theorem wR {p : UInt8 → Bool} (L : List UInt8) : L.take (L.takeWhile p).length = L.takeWhile p := by
  induction L with
  | nil => rfl
  | cons x L ih =>
    by_cases h : p x = true
    · rw [List.takeWhile_cons_of_pos h, List.length_cons, List.take_succ_cons, ih]
    · rw [List.takeWhile_cons_of_neg h]; rfl
theorem a7d (e : UInt8 → Bool) (L : List UInt8) (a : Nat) (h : a ≤ L.length) : a + (wd e L a).length ≤ L.length := by
  have := congrArg List.length (wR (p := fun x => !e x) (L.drop a))
  rw [List.length_take, List.length_drop] at this
  unfold wd; omega
theorem a2y (e : UInt8 → Bool) (L : List UInt8) (a : Nat) (h : a < L.length) : wd e L a = if e (L.getD a 0) = true then [] else L.getD a 0 :: wd e L (a + 1) := by
  unfold wd
  rw [a0z L a h]
  by_cases he : e (L.getD a 0) = true
  · rw [if_pos he, List.takeWhile_cons_of_neg (by rw [he]; decide)]
  · rw [if_neg he, List.takeWhile_cons_of_pos (by rw [Bool.eq_false_iff.mpr he]; rfl)]
theorem b9z (x : UInt8) : Ev (fun _ => yJ (x.toNat : Int)) (yO x) := by
  refine d3q ?_
  have e32 : ((x.toNat : Int) = 32) ↔ x = 32 := ⟨fun h => UInt8.toNat_inj.mp (by show x.toNat = 32; omega), fun h => by subst h; rfl⟩
  have e40 : ((x.toNat : Int) = 40) ↔ x = 40 := ⟨fun h => UInt8.toNat_inj.mp (by show x.toNat = 40; omega), fun h => by subst h; rfl⟩
  have e41 : ((x.toNat : Int) = 41) ↔ x = 41 := ⟨fun h => UInt8.toNat_inj.mp (by show x.toNat = 41; omega), fun h => by subst h; rfl⟩
  unfold yJ yO
  by_cases h1 : x = 32
  · subst h1; rfl
  · by_cases h2 : x = 40
    · subst h2; rfl
    · rw [if_neg (fun h => h1 (e32.mp h)), if_neg (fun h => h2 (e40.mp h))]
      have b1 : (x == 32) = false := by simpa using h1
      have b2 : (x == 40) = false := by simpa using h2
      rw [b1, b2]
      by_cases h3 : x = 41
      · subst h3; rfl
      · have b3 : (x == 41) = false := by simpa using h3
        rw [b3]
        have : ((x.toNat : Int) == 41) = false := by simpa using fun h => h3 (e41.mp h)
        rw [this]; rfl
theorem b3f (L : List UInt8) (hL : L.length ≤ 4000) (l : List S31) (c b : Int) (a : Nat) (d : Nat) : ∀ j : Nat, j + d = L.length → a ≤ j →
    Ev (fun k => pI k (a : Int) (mkB L) (j : Int) l c b) (mkB ((L.drop a).take (j + (wd yO L j).length - a)), mkB L, ((j + (wd yO L j).length : Nat) : Int), c, b) := by
  induction d with
  | zero =>
    intro j hj ha
    have hw : wd yO L j = [] := by unfold wd; rw [List.drop_eq_nil_of_le oM]; rfl
    refine kR ?_
    simp only [pI]
    rw [hw, kP, Int.toNat_natCast, Int.toNat_natCast, vO]
    exact kH oM (kD oM (kD oM (kD oM kQ)))
  | succ d ih =>
    intro j hj ha
    refine kR ?_
    simp only [pI]
    rw [kP, zI L j oM, Int.toNat_natCast, Int.toNat_natCast, vO, a2y yO L j oM]
    refine kD oM (kD oM (kF (b9z _) ?_))
    by_cases he : yO (L.getD j 0) = true
    · rw [if_pos he]
      exact kD he (kD oM (kD oM (kD oM kQ)))
    · rw [if_neg he, oY oM oM]
      refine kH he ?_
      have := ih (j + 1) oM oM
      rw [List.length_cons, show j + ((wd yO L (j + 1)).length + 1) = j + 1 + (wd yO L (j + 1)).length by omega]
      exact this
theorem a3s (L : List UInt8) (hL : L.length ≤ 4000) (l : List S31) (c b : Int) (a : Nat) (ha : a ≤ L.length) : Ev (fun k => wF k (mkB L) (a : Int) l c b) (mkB (wd yO L a), ((a + (wd yO L a).length : Nat) : Int)) := by
  obtain ⟨K, hK⟩ := b3f L hL l c b a (L.length - a) a oM (Nat.le_refl _)
  refine ⟨K, fun k hk => ?_⟩
  have h := hK k hk
  dsimp only at h ⊢
  unfold wF sQ
  rw [h, show a + (wd yO L a).length - a = (wd yO L a).length by omega]
  simp only [Option.map_some]
  unfold wd
  rw [wR]
theorem b3e (L : List UInt8) (hL : L.length ≤ 4000) (l : List S31) (a : Nat) (d : Nat) : ∀ j : Nat, j + d = L.length → a ≤ j →
    Ev (fun k => rC k (a : Int) (mkB L) (j : Int) l 0 0) (mkB ((L.drop a).take (j + (wd a4c L j).length - a)), mkB L, ((j + (wd a4c L j).length : Nat) : Int), 0, 0) := by
  induction d with
  | zero =>
    intro j hj ha
    have hw : wd a4c L j = [] := by unfold wd; rw [List.drop_eq_nil_of_le oM]; rfl
    refine kR ?_
    simp only [rC]
    rw [hw, kP, Int.toNat_natCast, Int.toNat_natCast, vO]
    exact kH oM (kD oM (kD oM (kD oM kQ)))
  | succ d ih =>
    intro j hj ha
    refine kR ?_
    simp only [rC]
    rw [kP, zI L j oM, Int.toNat_natCast, Int.toNat_natCast, vO, a2y a4c L j oM]
    refine kD oM (kD oM ?_)
    generalize hx : L.getD j 0 = x at *
    have e32 : ((x.toNat : Int) = 32) ↔ x = 32 := ⟨fun h => UInt8.toNat_inj.mp (by show x.toNat = 32; omega), fun h => by subst h; rfl⟩
    have e41 : ((x.toNat : Int) = 41) ↔ x = 41 := ⟨fun h => UInt8.toNat_inj.mp (by show x.toNat = 41; omega), fun h => by subst h; rfl⟩
    by_cases h1 : x = 32
    · subst h1
      exact kD rfl (kD oM (kD oM (kD oM kQ)))
    refine kH (fun h => h1 (e32.mp h)) ?_
    by_cases h2 : x = 41
    · subst h2
      exact kD rfl (kD oM (kD oM (kD oM kQ)))
    refine kH (fun h => h2 (e41.mp h)) ?_
    have he : ¬ a4c x = true := by unfold a4c; simp [h1, h2]
    rw [if_neg he, oY oM oM]
    have := ih (j + 1) oM oM
    rw [List.length_cons, show j + ((wd a4c L (j + 1)).length + 1) = j + 1 + (wd a4c L (j + 1)).length by omega]
    exact this
theorem b5z (L : List UInt8) (hL : L.length ≤ 4000) (l : List S31) (a : Nat) (ha : a ≤ L.length) : Ev (fun k => cwF k (mkB L) (a : Int) l) (mkB (wd a4c L a), ((a + (wd a4c L a).length : Nat) : Int)) := by
  obtain ⟨K, hK⟩ := b3e L hL l a (L.length - a) a oM (Nat.le_refl _)
  refine ⟨K, fun k hk => ?_⟩
  have h := hK k hk
  dsimp only at h ⊢
  unfold cwF wT
  rw [h, show a + (wd a4c L a).length - a = (wd a4c L a).length by omega]
  simp only [Option.map_some]
  unfold wd
  rw [wR]
def a6o (L : List UInt8) : Prop := ∀ i < L.length, L.getD i 0 = 40 → i = 0 ∨ L.getD (i - 1) 0 = 32
theorem b1j (L : List UInt8) (hG : a6o L) (d : Nat) : ∀ a : Nat, a + d = L.length → (a < L.length → L.getD a 0 ≠ 40) → wd yO L a = wd a4c L a := by
  induction d with
  | zero => intro a ha _; unfold wd; rw [List.drop_eq_nil_of_le oM]; rfl
  | succ d ih =>
    intro a ha h
    have h := h oM
    rw [a2y yO L a oM, a2y a4c L a oM]
    by_cases he : a4c (L.getD a 0) = true
    · have : yO (L.getD a 0) = true := by unfold yO a4c at *; simp only [Bool.or_eq_true] at he ⊢; rcases he with h | h; exact .inl (.inl h); exact .inr h
      rw [if_pos he, if_pos this]
    · have : ¬ yO (L.getD a 0) = true := by
        intro hi
        unfold yO a4c at *
        simp only [Bool.or_eq_true, beq_iff_eq] at hi he
        rcases hi with (h1 | h1) | h1
        · exact he (.inl h1)
        · exact h h1
        · exact he (.inr h1)
      rw [if_neg he, if_neg this, ih (a + 1) oM ?_]
      intro hlt h40
      rcases hG (a + 1) hlt h40 with h0 | h0
      · omega
      · rw [Nat.add_sub_cancel] at h0
        exact he (by unfold a4c; rw [h0]; rfl)
def b0q (L : List UInt8) (j : Nat) : Nat := j + ((L.drop j).takeWhile fun x => x != 58).length
theorem b1z (L : List UInt8) (j : Nat) (h : j ≤ L.length) : j ≤ b0q L j ∧ b0q L j ≤ L.length := by
  have := congrArg List.length (wR (p := fun x => x != 58) (L.drop j))
  rw [List.length_take, List.length_drop] at this
  unfold b0q; omega
theorem b0p (L : List UInt8) (j : Nat) (h : j < L.length) : b0q L j = if L.getD j 0 = 58 then j else b0q L (j + 1) := by
  unfold b0q
  rw [a0z L j h]
  by_cases he : L.getD j 0 = 58
  · rw [if_pos he, List.takeWhile_cons_of_neg (by rw [he]; decide)]; rfl
  · rw [if_neg he, List.takeWhile_cons_of_pos (by simpa using he), List.length_cons]; omega
def a0j (L : List UInt8) (e : Nat) : Option (Int × Int) := if e < L.length then (match a0b ((L.drop 1).take (e - 1)), a0b (L.drop (e + 1)) with | some a, some b => some (a, b) | _, _ => none) else none
def wV (L : List UInt8) (sg : Int) : Option (Int × Int) := if L ≠ [] ∧ ((L.headD 0).toNat : Int) = sg then a0j L (b0q L 1) else none
theorem a0t {L : List UInt8} {sg a b : Int} (h : wV L sg = some (a, b)) : (0 ≤ a ∧ a ≤ 999999999) ∧ 0 ≤ b ∧ b ≤ 999999999 := by
  unfold wV a0j at h
  split at h
  · split at h
    · split at h
      · rename_i h1 h2
        simp only [Option.some.injEq, Prod.mk.injEq] at h
        obtain ⟨rfl, rfl⟩ := h
        exact ⟨yA h1, yA h2⟩
      · cases h
    · cases h
  · cases h
theorem c58 (x : UInt8) : ((x.toNat : Int) = 58) ↔ x = 58 := ⟨fun h => UInt8.toNat_inj.mp (by show x.toNat = 58; omega), fun h => by subst h; rfl⟩
theorem b3t (L : List UInt8) (hL : L.length ≤ 4000) (r : Int × Int × Bool) (d : Nat) : ∀ j : Nat, j + d = L.length → 1 ≤ j → Ev (fun k => rJ k (mkB L) ((b0q L j : Nat) : Int)) r → Ev (fun k => tS k (mkB L) (j : Int)) r := by
  induction d with
  | zero =>
    intro j hj h1 h
    have := b1z L j oM
    rw [show b0q L j = j by omega] at h
    refine kR ?_
    simp only [tS]
    rw [kP]
    exact kH oM h
  | succ d ih =>
    intro j hj h1 h
    rw [b0p L j oM] at h
    refine kR ?_
    simp only [tS]
    rw [kP, zI L j oM]
    refine kD oM (kD oM ?_)
    by_cases he : L.getD j 0 = 58
    · rw [if_pos he] at h
      exact kD ((c58 _).mpr he) h
    · rw [if_neg he] at h
      rw [oY oM oM]
      exact kH (fun h => he ((c58 _).mp h)) (ih (j + 1) oM oM h)
theorem b7d (L : List UInt8) (hL : L.length ≤ 4000) (sg : Int) : ∃ x y, Ev (fun k => sE k (mkB L) sg) (x, y, (wV L sg).isSome) ∧ ∀ a b, wV L sg = some (a, b) → x = a ∧ y = b := by
  unfold sE
  have nope : wV L sg = none → ∃ x y, Ev (fun k => rK k (mkB L) true) (x, y, (wV L sg).isSome) ∧ ∀ a b, wV L sg = some (a, b) → x = a ∧ y = b := by
    intro hn
    refine ⟨0, 0, ?_, fun a b h => by rw [hn] at h; cases h⟩
    rw [hn]
    refine kR ?_
    simp only [rK]
    exact kD trivial kQ
  by_cases hne : L = []
  · obtain ⟨x, y, h1, h2⟩ := nope (by unfold wV; rw [if_neg (fun h => h.1 hne)])
    exact ⟨x, y, kD (by rw [qQ]; exact hne) h1, h2⟩
  have hp : 0 < L.length := by cases L with | nil => exact absurd rfl hne | cons x L => simp
  have hb0 := zI L 0 hp
  rw [show ((0 : Nat) : Int) = 0 from rfl] at hb0
  have hh : L.getD 0 0 = L.headD 0 := by cases L <;> rfl
  rw [hb0, hh, kP]
  by_cases hs : ((L.headD 0).toNat : Int) = sg
  · have hpl : wV L sg = a0j L (b0q L 1) := by unfold wV; rw [if_pos ⟨hne, hs⟩]
    have hc := b1z L 1 oM
    rw [hpl]
    have step : ∀ r, Ev (fun k => rJ k (mkB L) ((b0q L 1 : Nat) : Int)) r → Ev (fun k => if (mkB L).toList = [] then rK k (mkB L) true else if (0 : Int) < (L.length : Int) then rK k (mkB L) (((L.headD 0).toNat : Int) != sg) else none) r := by
      intro r h
      refine kH (by rw [qQ]; exact hne) (kD oM (kR ?_))
      simp only [rK]
      exact kH (by rw [hs]; simp) (b3t L hL r (L.length - 1) 1 oM oM h)
    generalize b0q L 1 = e at *
    by_cases he : e = L.length
    · refine ⟨0, 0, step _ ?_, fun a b h => by unfold a0j at h; rw [if_neg oM] at h; cases h⟩
      unfold a0j
      rw [if_neg oM]
      refine kR ?_
      simp only [rJ]
      rw [kP]
      exact kD oM kQ
    · have n1 := c6z ((L.drop 1).take (e - 1)) (by simp; omega)
      have n2 := c6z (L.drop (e + 1)) (by simp; omega)
      have key : ∀ x1 o1 x2 o2, Ev (fun k => qL k (mkB ((L.drop 1).take (e - 1)))) (x1, o1) → Ev (fun k => qL k (mkB (L.drop (e + 1)))) (x2, o2) → Ev (fun k => rJ k (mkB L) ((e : Nat) : Int)) (x1, x2, o1 && o2) := by
        intro x1 o1 x2 o2 h1 h2
        refine kR ?_
        simp only [rJ]
        rw [kP, oY oM oM, Int.toNat_natCast, show ((e : Int) + 1).toNat = e + 1 by omega, vO, vO, show (L.drop (e + 1)).take (L.length - (e + 1)) = L.drop (e + 1) from List.take_of_length_le (by simp)]
        refine kH oM (kD oM (kD oM (kF h1 (kD oM (kD oM (kF h2 ?_))))))
        cases o1 with
        | true => exact kD rfl (uN (by simp))
        | false => exact kH (by simp) (uN (by simp))
      unfold a0j
      rw [if_pos oM]
      cases h1 : a0b ((L.drop 1).take (e - 1)) with
      | none =>
        rw [h1] at n1
        cases h2 : a0b (L.drop (e + 1)) with
        | none => rw [h2] at n2; exact ⟨0, 0, step _ (key _ _ _ _ n1 n2), fun a b h => by cases h⟩
        | some b => rw [h2] at n2; exact ⟨0, b, step _ (key _ _ _ _ n1 n2), fun a b h => by cases h⟩
      | some a =>
        rw [h1] at n1
        cases h2 : a0b (L.drop (e + 1)) with
        | none => rw [h2] at n2; exact ⟨a, 0, step _ (key _ _ _ _ n1 n2), fun a b h => by cases h⟩
        | some b => rw [h2] at n2; exact ⟨a, b, step _ (key _ _ _ _ n1 n2), fun a b h => by simp only [Option.some.injEq, Prod.mk.injEq] at h; exact h⟩
  · obtain ⟨x, y, h1, h2⟩ := nope (by unfold wV; rw [if_neg (fun h => hs h.2)])
    refine ⟨x, y, kH (by rw [qQ]; exact hne) (kD oM ?_), h2⟩
    have : (((L.headD 0).toNat : Int) != sg) = true := by simpa using hs
    rw [this]
    exact h1
theorem b3s (L : List UInt8) (hL : L.length ≤ 4000) (d : Nat) : ∀ j : Nat, j + d = L.length → 1 ≤ j → Ev (fun k => uY k (mkB L) (j : Int)) (match a0j L (b0q L j) with | some r => r | none => (-1, -1)) := by
  induction d with
  | zero =>
    intro j hj h1
    have := b1z L j oM
    have e : a0j L (b0q L j) = none := by unfold a0j; rw [if_neg oM]
    rw [e]
    refine kR ?_
    simp only [uY]
    rw [kP]
    exact kH oM kQ
  | succ d ih =>
    intro j hj h1
    rw [b0p L j oM]
    refine kR ?_
    simp only [uY]
    rw [kP, zI L j oM]
    refine kD oM (kD oM ?_)
    by_cases he : L.getD j 0 = 58
    · rw [if_pos he]
      have n1 := d1o ((L.drop 1).take (j - 1)) (by simp; omega)
      have n2 := d1o (L.drop (j + 1)) (by simp; omega)
      have hn1 : ∀ v, a0b ((L.drop 1).take (j - 1)) = some v → 0 ≤ v := fun v h => (yA h).1
      have hn2 : ∀ v, a0b (L.drop (j + 1)) = some v → 0 ≤ v := fun v h => (yA h).1
      rw [oY oM oM, Int.toNat_natCast, show ((j : Int) + 1).toNat = j + 1 by omega, vO, vO, show (L.drop (j + 1)).take (L.length - (j + 1)) = L.drop (j + 1) from List.take_of_length_le (by simp)]
      refine kD ((c58 _).mpr he) (kD oM (kD oM (kF n1 (kD oM (kD oM (kF n2 ?_))))))
      unfold a0j
      rw [if_pos (show j < L.length by omega)]
      generalize a0b ((L.drop 1).take (j - 1)) = o1 at *
      generalize a0b (L.drop (j + 1)) = o2 at *
      cases o1 with
      | none => exact kD (show (-1 : Int) < 0 by decide) kQ
      | some a =>
        have := hn1 a rfl
        refine kH (show ¬ (a < 0) by omega) ?_
        cases o2 with
        | none => exact kD (show (-1 : Int) < 0 by decide) kQ
        | some b =>
          have := hn2 b rfl
          exact kH (show ¬ (b < 0) by omega) kQ
    · rw [if_neg he, oY oM oM]
      exact kH (fun h => he ((c58 _).mp h)) (ih (j + 1) oM oM)
theorem c5u (L : List UInt8) (hL : L.length ≤ 4000) (sg : Int) : Ev (fun k => uR k (mkB L) sg) (match wV L sg with | some r => r | none => (-1, -1)) := by
  unfold uR
  rw [kP]
  have nope : wV L sg = none → Ev (fun k => uZ k (mkB L) true) (match wV L sg with | some r => r | none => (-1, -1)) := by
    intro hn
    rw [hn]
    refine kR ?_
    simp only [uZ]
    exact kD trivial kQ
  by_cases hne : L = []
  · exact kD (by rw [hne]; rfl) (nope (by unfold wV; rw [if_neg (fun h => h.1 hne)]))
  have hp : 0 < L.length := by cases L with | nil => exact absurd rfl hne | cons x L => simp
  have hb0 := zI L 0 hp
  rw [show ((0 : Nat) : Int) = 0 from rfl] at hb0
  have hh : L.getD 0 0 = L.headD 0 := by cases L <;> rfl
  rw [hb0, hh]
  refine kH oM (kD oM ?_)
  by_cases hs : ((L.headD 0).toNat : Int) = sg
  · rw [show wV L sg = a0j L (b0q L 1) by unfold wV; rw [if_pos ⟨hne, hs⟩]]
    refine kR ?_
    simp only [uZ]
    exact kH (by rw [hs]; simp) (b3s L hL (L.length - 1) 1 oM oM)
  · have : (((L.headD 0).toNat : Int) != sg) = true := by simpa using hs
    rw [this]
    exact nope (by unfold wV; rw [if_neg (fun h => hs h.2)])
theorem pR {α : Type} {g : Nat → Option α} {r : α} (h : Ev g r) : Ev (fun k => g (k + 1)) r := by
  obtain ⟨K, hK⟩ := h
  exact ⟨K, fun k hk => hK (k + 1) oM⟩
def isB (L : List UInt8) (a : Nat) (x : Int) : Bool := decide (a < L.length ∧ ((L.getD a 0).toNat : Int) = x)
theorem a0y (L : List UInt8) (hL : L.length ≤ 4000) (a : Nat) (ha : a ≤ L.length) (l : List S31) (c b x : Int) : goF (mkB L) (a : Int) l c b x = some (isB L a x, ((if isB L a x = true then a + 1 else a : Nat) : Int)) := by
  unfold goF qZ isB
  rw [kP]
  by_cases h1 : a < L.length
  · rw [zI L a h1]
    rw [if_neg oM, if_pos oM, if_pos oM]
    by_cases h2 : ((L.getD a 0).toNat : Int) = x
    · have : ¬ (((L.getD a 0).toNat : Int) ≠ x) := fun h => h h2
      simp only [h1, h2, and_self, decide_true, if_true, Option.map_some]
      rw [oY oM oM]
      first | rfl | simp
    · simp only [h2, and_false, decide_false]
      first | rfl | simp [h2]
  · rw [if_pos oM]
    simp only [h1, false_and, decide_false]
    first | rfl | simp
theorem b3a (L : List UInt8) (hL : L.length ≤ 4000) (a : Nat) (ha : a ≤ L.length) (l : List S31) : cbF (mkB L) (a : Int) l = some (isB L a 32, ((if isB L a 32 = true then a + 1 else a : Nat) : Int)) := by
  unfold cbF vG isB
  rw [kP]
  by_cases h1 : a < L.length
  · rw [zI L a h1, if_pos oM, if_pos oM]
    by_cases h2 : ((L.getD a 0).toNat : Int) = 32
    · rw [if_pos h2, oY oM oM]
      simp only [h1, h2, and_self, decide_true, if_true, Option.map_some]
      first | rfl | simp
    · rw [if_neg h2]
      simp only [h2, and_false, decide_false]
      first | rfl | simp
  · rw [if_neg oM]
    simp only [h1, false_and, decide_false]
    first | rfl | simp
theorem b3u (L : List UInt8) (a : Nat) : b2x (mkB L) (a : Int) = some (isB L a 40) := by
  unfold b2x isB
  rw [kP]
  by_cases h1 : a < L.length
  · rw [if_pos oM, if_pos oM, zI L a h1]
    by_cases h2 : ((L.getD a 0).toNat : Int) = 40
    · rw [h2]; simp [h1]
    · simp only [h2, and_false, decide_false]; simpa using h2
  · rw [if_neg oM]; simp [h1]
theorem d3r (L : List UInt8) (a : Nat) : c0j (mkB L) (a : Int) = some (isB L a 41) := by
  unfold c0j isB
  rw [kP]
  by_cases h1 : a < L.length
  · rw [if_neg oM, if_pos oM, zI L a h1]
    by_cases h2 : ((L.getD a 0).toNat : Int) = 41
    · rw [h2]; simp [h1]
    · simp only [h2, and_false, decide_false]; simpa using h2
  · rw [if_pos oM]; simp [h1]
theorem b1s (i : Nat) (hi : i < 14) : vP ((i : Int) + 3) = some (mkB (rA.getD i [])) := by
  unfold vP
  simp only [Option.bind_some]
  rw [inI]
  simp only [Option.bind_some]
  rw [oY oM oM, show (i : Int) + 3 - 3 = (i : Int) by omega, if_pos (by simp; omega), if_pos oM, if_pos (by simp; omega)]
  have := c2k rA (i : Int) oM (by simp [rA]; omega) []
  rw [List.append_nil, Int.toNat_natCast] at this
  exact congrArg some this
theorem b2n : ∀ i, i < 14 → ∀ j, j < i → rA.getD j [] ≠ rA.getD i [] := by decide
theorem b7k (i : Nat) (hi : i < 14) (d : Nat) : ∀ j : Nat, j + d = i → Ev (fun k => tZ k (mkB (rA.getD i [])) ((j : Int) + 3)) ((i : Int) + 3, true) := by
  induction d with
  | zero =>
    intro j hj
    obtain rfl : j = i := by omega
    refine kR ?_
    simp only [tZ]
    refine kD oM (kU (b1s j hi) (kD rfl kQ))
  | succ d ih =>
    intro j hj
    refine kR ?_
    simp only [tZ]
    refine kD oM (kU (b1s j oM) (kH (by rw [qQ, qQ]; exact fun e => b2n i hi j oM e.symm) ?_))
    rw [oY oM oM]
    have := ih (j + 1) oM
    rw [show ((j + 1 : Nat) : Int) + 3 = (j : Int) + 3 + 1 by omega] at this
    exact this
theorem b9n (W : List UInt8) (h : ∀ i < 14, rA.getD i [] ≠ W) (d : Nat) : ∀ j : Nat, j + d = 14 → Ev (fun k => tZ k (mkB W) ((j : Int) + 3)) (0, false) := by
  induction d with
  | zero =>
    intro j hj
    refine kR ?_
    simp only [tZ]
    exact kH oM kQ
  | succ d ih =>
    intro j hj
    refine kR ?_
    simp only [tZ]
    refine kD oM (kU (b1s j oM) (kH (by rw [qQ, qQ]; exact fun e => h j oM e.symm) ?_))
    rw [oY oM oM]
    have := ih (j + 1) oM
    rw [show ((j + 1 : Nat) : Int) + 3 = (j : Int) + 3 + 1 by omega] at this
    exact this
theorem c9x : vF = some (rA.map mkB) := rfl
theorem rdW (j : Nat) (h : j < 14) : (vD ByteArray.empty (rA.map mkB) (j : Int)).toList = rA.getD j [] := by
  have := c2k rA (j : Int) oM (by simp [rA]; omega) []
  rw [List.append_nil] at this
  rw [this, qQ, Int.toNat_natCast]
theorem c5w (i : Nat) (hi : i < 14) (d : Nat) : ∀ j : Nat, j + d = i → Ev (fun k => qX k (mkB (rA.getD i [])) (rA.map mkB) (j : Int)) ((i : Int) + 3, 2) := by
  induction d with
  | zero =>
    intro j hj
    obtain rfl : j = i := by omega
    refine kR ?_
    simp only [qX]
    rw [rdW j hi, qQ, oY oM oM]
    exact kD (by simp [rA]; omega) (kD oM (kD rfl (uN (by rw [Int.add_comm]))))
  | succ d ih =>
    intro j hj
    refine kR ?_
    simp only [qX]
    rw [rdW j oM, qQ, oY (x := (j : Int) + 1) oM oM]
    exact kD (by simp [rA]; omega) (kD oM (kH (b2n i hi j oM) (ih (j + 1) oM)))
theorem b9m (W : List UInt8) (h : ∀ i < 14, rA.getD i [] ≠ W) (r : Int × Int) (ht : Ev (fun _ => if W = [110, 111, 116] then some ((2 : Int), (1 : Int)) else if W = [115, 108, 105, 99, 101] then some (17, 1) else if W = [105, 102] then some (18, 3) else if W = [97, 108, 108] then some (19, 1) else if W = [115, 111, 109, 101] then some (20, 1) else some (-1, 0)) r) (d : Nat) : ∀ j : Nat, j + d = 14 → Ev (fun k => qX k (mkB W) (rA.map mkB) (j : Int)) r := by
  induction d with
  | zero =>
    intro j hj
    refine kR ?_
    simp only [qX]
    rw [qQ]
    exact kH (by simp [rA]; omega) ht
  | succ d ih =>
    intro j hj
    refine kR ?_
    simp only [qX]
    rw [rdW j oM, qQ, oY (x := (j : Int) + 1) oM oM]
    exact kD (by simp [rA]; omega) (kD oM (kH (h j oM) (ih (j + 1) oM)))
theorem ops (W : List UInt8) : (∃ op cnt : Int, Ev (fun k => vQ k (mkB W)) (op, true) ∧ Ev (fun k => uS k (mkB W)) (op, cnt) ∧ 2 ≤ op ∧ op ≤ 20 ∧ ∀ A B C, ((kV op A B C).length : Int) = cnt) ∨
    (∃ x : Int, Ev (fun k => vQ k (mkB W)) (x, false) ∧ Ev (fun k => uS k (mkB W)) (-1, 0)) := by
  unfold vQ uS
  rw [qQ, c9x]
  simp only [Option.bind_some]
  by_cases hw : ∃ i, i < 14 ∧ rA.getD i [] = W
  · obtain ⟨i, hi, rfl⟩ := hw
    left
    refine ⟨(i : Int) + 3, 2, ?_, c5w i hi i 0 oM, oM, oM, fun A B C => ?_⟩
    · have ne : ∀ V ∈ ([[110, 111, 116], [115, 108, 105, 99, 101], [105, 102], [97, 108, 108], [115, 111, 109, 101]] : List (List UInt8)), ∀ i, i < 14 → rA.getD i [] ≠ V := by decide
      refine kH (ne _ (by simp) i hi) (kH (ne _ (by simp) i hi) (kH (ne _ (by simp) i hi) (kH (ne _ (by simp) i hi) (kH (ne _ (by simp) i hi) ?_))))
      have := b7k i hi i 0 oM
      exact this
    · unfold kV
      rw [if_neg oM, if_pos oM]; rfl
  · have hm : ∀ i < 14, rA.getD i [] ≠ W := fun i hi e => hw ⟨i, hi, e⟩
    have S := fun r h => b9m W hm r h 14 0 oM
    by_cases h1 : W = [110, 111, 116]
    · exact .inl ⟨2, 1, kD h1 kQ, S _ (kD h1 kQ), oM, oM, fun _ _ _ => rfl⟩
    by_cases h2 : W = [115, 108, 105, 99, 101]
    · exact .inl ⟨17, 1, kH h1 (kD h2 kQ), S _ (kH h1 (kD h2 kQ)), oM, oM, fun _ _ _ => rfl⟩
    by_cases h3 : W = [105, 102]
    · exact .inl ⟨18, 3, kH h1 (kH h2 (kD h3 kQ)), S _ (kH h1 (kH h2 (kD h3 kQ))), oM, oM, fun _ _ _ => rfl⟩
    by_cases h4 : W = [97, 108, 108]
    · exact .inl ⟨19, 1, kH h1 (kH h2 (kH h3 (kD h4 kQ))), S _ (kH h1 (kH h2 (kH h3 (kD h4 kQ)))), oM, oM, fun _ _ _ => rfl⟩
    by_cases h5 : W = [115, 111, 109, 101]
    · exact .inl ⟨20, 1, kH h1 (kH h2 (kH h3 (kH h4 (kD h5 kQ)))), S _ (kH h1 (kH h2 (kH h3 (kH h4 (kD h5 kQ))))), oM, oM, fun _ _ _ => rfl⟩
    right
    refine ⟨0, kH h1 (kH h2 (kH h3 (kH h4 (kH h5 ?_)))), S _ (kH h1 (kH h2 (kH h3 (kH h4 (kH h5 kQ)))))⟩
    have := b9n W hm 14 0 oM
    exact this
theorem b9p : a0b [] = none := by unfold a0b; rw [if_neg (by simp)]
theorem a5o (sg : Int) : wV [] sg = none := by unfold wV; rw [if_neg (fun h => h.1 rfl)]
theorem b6c (L : List UInt8) (hG : a6o L) (a : Nat) (ha : a ≤ L.length) : (wd yO L a = wd a4c L a) ∨ (a0b (wd yO L a) = none ∧ a0b (wd a4c L a) = none ∧ wV (wd yO L a) 118 = none ∧ wV (wd a4c L a) 118 = none) := by
  by_cases h : a < L.length ∧ L.getD a 0 = 40
  · right
    rw [a2y yO L a h.1, a2y a4c L a h.1, h.2, if_pos (by decide), if_neg (by decide)]
    refine ⟨b9p, ?_, a5o _, ?_⟩
    · unfold a0b
      rw [if_neg (fun h => by have := h.2.1; rw [List.all_cons, Bool.and_eq_true] at this; exact absurd this.1 (by decide))]
    · unfold wV
      rw [if_neg (fun h => by have := h.2; rw [List.headD_cons] at this; exact absurd this (by decide))]
  · left
    exact b1j L hG (L.length - a) a oM (fun h1 h2 => h ⟨h1, h2⟩)
def OKL (l : List S31) : Prop := rT l ∧ l.length ≤ 80
theorem a5m (l m : List S31) (p : Int) (h0 : 0 ≤ p) (h1 : p < (l.length : Int)) : kA (l ++ m) p = kA l p := by
  unfold kA
  rw [List.getD_eq_getElem?_getD, List.getD_eq_getElem?_getD, List.getElem?_append_left oM]
theorem b3o {l : List S31} (m : List S31) {op W K A B C : Int} (h : sM l op W K A B C = true) : sM (l ++ m) op W K A B C = true := by
  unfold sM at h ⊢
  simp only [Bool.and_eq_true] at h ⊢
  obtain ⟨⟨⟨h1, h2⟩, h3⟩, h4⟩ := h
  refine ⟨⟨⟨h1, h2⟩, ?_⟩, ?_⟩
  · refine List.all_eq_true.mpr fun p hp => ?_
    have := rP.mp (List.all_eq_true.mp h3 p hp)
    exact rP.mpr (by simp; omega)
  · have e : ∀ t, wv (l ++ m) (kV op A B C) (kV op A B C).length t = wv l (kV op A B C) (kV op A B C).length t := by
      intro t
      unfold wv
      by_cases ht : t < (kV op A B C).length
      · rw [if_pos ht, if_pos ht]
        have hr : rd (kV op A B C) (t : Int) = (kV op A B C)[t] := rdI _ t ht
        have := rP.mp (List.all_eq_true.mp h3 _ (List.getElem_mem ht))
        rw [hr, a5m l m _ this.1 oM]
      · rw [if_neg ht, if_neg ht]
    rw [e, e, e]
    exact h4
theorem a7m (l : List S31) (n : S31) (m : Nat) : ∀ i j : Nat, xY l n m i = some j → i ≤ j ∧ j < i + m ∧ kA l (j : Int) = n := by
  induction m with
  | zero => intro i j h; simp [xY] at h
  | succ m ih =>
    intro i j h
    unfold xY at h
    split at h
    · rename_i hs
      obtain rfl := Option.some.inj h
      refine ⟨Nat.le_refl _, oM, ?_⟩
      unfold b3n at hs
      simp only [Bool.and_eq_true, beq_iff_eq] at hs
      obtain ⟨h0, h1, h2, h3, h4, h5⟩ := hs
      generalize kA l (i : Int) = x at *
      obtain ⟨x0, x1, x2, x3, x4, x5⟩ := x
      obtain ⟨n0, n1, n2, n3, n4, n5⟩ := n
      simp only [] at h0 h1 h2 h3 h4 h5
      subst h0 h1 h2 h3 h4 h5
      rfl
    · have := ih (i + 1) j h
      exact ⟨oM, oM, this.2.2⟩
theorem a3g {l : List S31} (h : rT l) (n : S31) (hn : sM l n.f0 n.f1 n.f2 n.f3 n.f4 n.f5 = true) : rT (l ++ [n]) := by
  intro i hi
  rw [List.length_append] at hi
  simp only [List.length_cons, List.length_nil] at hi
  unfold a1v
  by_cases h1 : i < l.length
  · have := h i h1
    unfold a1v at this
    rw [a5m l [n] (i : Int) oM oM, List.take_append_of_le_length oM]
    exact this
  · obtain rfl : i = l.length := by omega
    have e : kA (l ++ [n]) ((l.length : Nat) : Int) = n := by unfold kA; simp
    rw [e, List.take_left']
    · exact hn
    · rfl
theorem c2m (l : List S31) (hO : OKL l) (n : S31) (frm : Int) :
    (∃ (p : Nat) (l' : List S31), a1j l 0 0 n frm = (((p : Int), true), l', 0, 0) ∧ Ev (fun k => a6h k l n frm) ((p : Int), l', 0, 0) ∧ p < l'.length ∧ OKL l' ∧ (∃ m, l' = l ++ m) ∧ (l' = l ∨ l'.length = p + 1) ∧ kA l' (p : Int) = n) ∨
    (∃ c b : Int, c ≠ 0 ∧ a1j l 0 0 n frm = ((0, false), l, c, b) ∧ Ev (fun k => a6h k l n frm) (0, l, c, b)) := by
  unfold a1j a6h
  have hev := b7o (l ++ [n]) (by have := hO.2; simp; omega) l.length (by simp)
  have e : kA (l ++ [n]) ((l.length : Nat) : Int) = n := by unfold kA; simp
  rw [e, List.take_left' rfl] at hev
  cases hf : xY l n l.length 0 with
  | some i =>
    left
    obtain ⟨_, h1, h2⟩ := a7m l n _ _ _ hf
    rw [Nat.zero_add] at h1
    have hr : sM l n.f0 n.f1 n.f2 n.f3 n.f4 n.f5 = true := by
      have := hO.1 i h1
      unfold a1v at this
      rw [h2] at this
      have := b3o (l.drop i) this
      rwa [List.take_append_drop] at this
    exact ⟨i, l, by rw [if_pos hr], kQ, h1, hO, ⟨[], by simp⟩, .inl rfl, h2⟩
  | none =>
    by_cases hr : sM l n.f0 n.f1 n.f2 n.f3 n.f4 n.f5 = true
    · by_cases h80 : l.length = 80
      · right
        exact ⟨4, frm, by decide, by rw [if_pos hr]; simp only []; rw [if_pos h80], kF hev (kD hr (kD h80 kQ))⟩
      · left
        refine ⟨l.length, l ++ [n], by rw [if_pos hr]; simp only []; rw [if_neg h80], kF hev (kD hr (kH h80 kQ)), by simp, ⟨a3g hO.1 n hr, by have := hO.2; simp; omega⟩, ⟨[n], rfl⟩, .inr (by simp), e⟩
    · right
      exact ⟨3, frm, by decide, by rw [if_neg hr], kF hev (kH hr kQ)⟩
theorem b8w (s : ByteArray) (a c b : Int) (l : List S31) (op W W' K A B B' C : Int) (h0 : 2 ≤ op) (h1 : op ≤ 20) (hA : 0 ≤ A ∧ A < (l.length : Int)) (hB : op = 16 ∨ op = 18 → B' = B ∧ 0 ≤ B ∧ B < (l.length : Int)) (hW : op = 17 → W' = W) (hQ : op = 19 ∨ op = 20 → W' = 1) :
    ∃ wd, Ev (fun k => pC k s a l c b op W K A B C) (wd, s, a, c, b) ∧ c0g l op W' A B' = some wd := by
  unfold pC c0g
  rw [inI, d2w]
  simp only [Option.bind_some]
  have hj : ∀ (q : Bool) (r : Int), (q = true → r = 1) → (q = false → (op = 16 → r = wrap64 ((kA l A).f1 + (kA l B).f1)) ∧ (op = 18 → r = (kA l B).f1) ∧ (op ≠ 16 → op ≠ 18 → r = (kA l A).f1)) → Ev (fun k => pA k q s a l c b op W K A B C) (r, s, a, c, b) := by
    intro q r hq1 hq2
    refine kR ?_
    simp only [pA]
    cases q with
    | true => exact kD rfl (uN (by rw [hq1 rfl]))
    | false =>
      obtain ⟨e1, e2, e3⟩ := hq2 rfl
      refine kH (by decide) ?_
      by_cases o16 : op = 16
      · have := hB (.inl o16)
        exact kD o16 (kD hA.1 (kD hA.2 (kD this.2.1 (kD this.2.2 (uN (by rw [e1 o16]))))))
      · refine kH o16 ?_
        by_cases o18 : op = 18
        · have := hB (.inr o18)
          exact kD o18 (kD this.2.1 (kD this.2.2 (uN (by rw [e2 o18]))))
        · exact kH o18 (kD hA.1 (kD hA.2 (uN (by rw [e3 o16 o18]))))
  by_cases o17 : op = 17
  · exact ⟨W, kD o17 kQ, by rw [if_pos (.inl o17), hW o17]⟩
  by_cases oq : op = 19 ∨ op = 20
  · refine ⟨1, kH o17 (kH (by simp; omega) (hj _ 1 (fun _ => rfl) (fun h => ?_))), by rw [if_pos oM, hQ oq]⟩
    rcases oq with rfl | rfl <;> exact absurd h (by decide)
  have qf : ((op == 19) || (op == 20)) = false := by simp; omega
  by_cases o13 : 13 ≤ op ∧ op ≤ 15
  · exact ⟨1, kH o17 (kD (by simp; exact o13) (hj true 1 (fun _ => rfl) (fun h => absurd h (by decide)))), by rw [if_neg oM, if_pos o13]⟩
  rw [qf]
  by_cases o16 : op = 16
  · have := hB (.inl o16)
    refine ⟨_, kH o17 (kH (by simp; omega) (hj false (wrap64 ((kA l A).f1 + (kA l B).f1)) (fun h => absurd h (by decide)) (fun _ => ⟨fun _ => rfl, fun h => by omega, fun h => absurd o16 h⟩))), ?_⟩
    rw [if_neg oM, if_neg oM, if_pos o16, this.1, if_pos ⟨hA.1, hA.2, this.2.1, this.2.2⟩]
  by_cases o18 : op = 18
  · have := hB (.inr o18)
    refine ⟨_, kH o17 (kH (by simp; omega) (hj false (kA l B).f1 (fun h => absurd h (by decide)) (fun _ => ⟨fun h => by omega, fun _ => rfl, fun _ h => absurd o18 h⟩))), ?_⟩
    rw [if_neg oM, if_neg oM, if_neg o16, if_pos o18, this.1, if_pos ⟨this.2.1, this.2.2⟩]
  · refine ⟨_, kH o17 (kH (by simp; omega) (hj false (kA l A).f1 (fun h => absurd h (by decide)) (fun _ => ⟨fun h => absurd h o16, fun h => absurd h o18, fun _ _ => rfl⟩))), ?_⟩
    rw [if_neg oM, if_neg oM, if_neg o16, if_neg o18, if_pos hA]
def brk (L : List UInt8) (a : Nat) : Int := ((L.take a).count 40 : Int) - ((L.take a).count 41 : Int)
theorem c0k (L : List UInt8) (a : Nat) (h : a < L.length) (x : UInt8) (hx : L.getD a 0 = x) : brk L (a + 1) = brk L a + (if x = 40 then 1 else 0) - (if x = 41 then 1 else 0) := by
  have e : L.take (a + 1) = L.take a ++ [x] := by
    rw [List.take_add_one, ← hx, List.getD_eq_getElem?_getD, List.getElem?_eq_getElem h]; rfl
  unfold brk
  rw [e, List.count_append, List.count_append, List.count_cons, List.count_cons, List.count_nil, List.count_nil]
  simp only [beq_iff_eq]
  by_cases h1 : x = 40
  · rw [if_pos h1, if_pos h1, if_neg (by rw [h1]; decide), if_neg (by rw [h1]; decide)]; omega
  · rw [if_neg h1, if_neg h1]
    by_cases h2 : x = 41
    · rw [if_pos h2, if_pos h2]; omega
    · rw [if_neg h2, if_neg h2]; omega
theorem b8l (L : List UInt8) (a : Nat) (x : UInt8) (h : isB L a (x.toNat : Int) = true) : brk L (a + 1) = brk L a + (if x = 40 then 1 else 0) - (if x = 41 then 1 else 0) := by
  unfold isB at h
  simp only [decide_eq_true_eq] at h
  exact c0k L a h.1 x (UInt8.toNat_inj.mp (by show (L.getD a 0).toNat = x.toNat; omega))
theorem b2z {L : List UInt8} {a : Nat} (h : isB L a 32 = true) : brk L (a + 1) = brk L a := by
  have := b8l L a 32 h
  rw [if_neg (by decide), if_neg (by decide)] at this
  omega
theorem d0x {L : List UInt8} {a : Nat} (h : isB L a 40 = true) : brk L (a + 1) = brk L a + 1 := by
  have := b8l L a 40 h
  rw [if_pos rfl, if_neg (by decide)] at this
  omega
theorem d0y {L : List UInt8} {a : Nat} (h : isB L a 41 = true) : brk L (a + 1) = brk L a - 1 := by
  have := b8l L a 41 h
  rw [if_neg (by decide), if_pos rfl] at this
  omega
theorem b0v (L : List UInt8) (a : Nat) (ha : a ≤ L.length) : brk L (a + (wd yO L a).length) = brk L a := by
  have e : L.take (a + (wd yO L a).length) = L.take a ++ wd yO L a := by
    rw [List.take_add]
    unfold wd
    rw [wR]
  have hz : ∀ x ∈ wd yO L a, x ≠ 40 ∧ x ≠ 41 := by
    intro x hx
    unfold wd at hx
    have : ∀ M : List UInt8, ∀ x ∈ M.takeWhile (fun x => !yO x), (!yO x) = true := by
      intro M
      induction M with
      | nil => intro x hx; cases hx
      | cons y M ih =>
        intro x hx
        rw [List.takeWhile_cons] at hx
        split at hx
        · rename_i hy
          rcases List.mem_cons.mp hx with rfl | hx
          · exact hy
          · exact ih x hx
        · cases hx
    have := this _ x hx
    constructor
    · rintro rfl; exact absurd this (by decide)
    · rintro rfl; exact absurd this (by decide)
  unfold brk
  rw [e, List.count_append, List.count_append, List.count_eq_zero.mpr (fun h => (hz _ h).1 rfl), List.count_eq_zero.mpr (fun h => (hz _ h).2 rfl)]
  omega
theorem c5x (L : List UInt8) (hL : L.length ≤ 4000) (hG : a6o L) (l : List S31) (op : Int) (a : Nat) (ha : a ≤ L.length) :
    (∃ (e : Nat) (K B W W' : Int), a ≤ e ∧ e ≤ L.length ∧ brk L e = brk L a ∧ Ev (fun k => yR k (mkB L) (a : Int) l 0 0 ⟨op, 0, 0, 0, 0, 0⟩) (true, (e : Int), ⟨op, W', K, 0, B, 0⟩) ∧
      (∃ a2 K1 W1, Ev (fun k => a2b k (mkB L) (a : Int) l op) (true, a2, K1, W1) ∧ Ev (fun k => a0e k (mkB L) a2 l op K1 W1) (true, (e : Int), K, B, W)) ∧ (op = 17 → W = W') ∧ (op = 19 ∨ op = 20 → W = 1) ∧ (¬ (op = 19 ∨ op = 20) → B = 0)) ∨
    (∃ x n', Ev (fun k => yR k (mkB L) (a : Int) l 0 0 ⟨op, 0, 0, 0, 0, 0⟩) (false, x, n') ∧ ((∃ y, Ev (fun k => a2b k (mkB L) (a : Int) l op) (false, y, 0, 0)) ∨ ∃ a2 K1 W1, Ev (fun k => a2b k (mkB L) (a : Int) l op) (true, a2, K1, W1) ∧ ∃ y, Ev (fun k => a0e k (mkB L) a2 l op K1 W1) (false, y, 0, 0, 0))) := by
  unfold yR a2b
  simp only []
  rw [a0y L hL a ha, b3a L hL a ha]
  simp only [Option.bind_some]
  have wl : ∀ e b, b ≤ L.length → (wd e L b).length ≤ 4000 := fun e b hb => by have := a7d e L b hb; omega
  have qn : ¬ (op = 19 ∨ op = 20) → ∀ (a2 K1 W1 : Int), Ev (fun k => a0e k (mkB L) a2 l op K1 W1) (true, a2, K1, 0, W1) := by
    intro hq a2 K1 W1
    unfold a0e
    rw [d0q]
    simp only [Option.bind_some]
    exact kH (by simp; omega) kQ
  by_cases o17 : op = 17
  · have hq : ¬ (op = 19 ∨ op = 20) := by omega
    cases hb : isB L a 32 with
    | false =>
      right
      exact ⟨_, _, kD o17 (kH (by decide) kQ), .inl ⟨_, kD o17 (kH (by decide) kQ)⟩⟩
    | true =>
      have ha1 : a + 1 ≤ L.length := by unfold isB at hb; simp at hb; omega
      simp only [if_true]
      have w1 := a3s L hL l 0 0 (a + 1) ha1; have w2 := b5z L hL l (a + 1) ha1
      have n1 := c6z (wd yO L (a + 1)) (wl _ _ ha1); have n2 := d1o (wd a4c L (a + 1)) (wl _ _ ha1)
      rcases b6c L hG (a + 1) ha1 with he | ⟨he1, he2, _, _⟩
      · rw [← he] at w2 n2
        have hle := a7d yO L (a + 1) ha1
        have hb1 := b0v L (a + 1) ha1
        generalize wd yO L (a + 1) = V at *
        cases hv : a0b V with
        | none =>
          rw [hv] at n1 n2
          right
          exact ⟨_, _, kD o17 (kF w1 (kF n1 (kH (by decide) kQ))), .inl ⟨_, kD o17 (kF w2 (kF n2 (kD (show (-1 : Int) < 0 by decide) kQ)))⟩⟩
        | some v =>
          rw [hv] at n1 n2
          have hv0 := yA hv
          have g1 := a0y L hL (a + 1 + V.length) hle l 0 0 32; have g2 := b3a L hL (a + 1 + V.length) hle l
          cases hc : isB L (a + 1 + V.length) 32 with
          | false =>
            rw [hc] at g1 g2
            right
            exact ⟨_, _, kD o17 (kF w1 (kF n1 (kD rfl (kU g1 (kH (by simp) kQ))))), .inl ⟨_, kD o17 (kF w2 (kF n2 (kH (show ¬ (v < 0) by omega) (kU g2 (kH (by simp) kQ)))))⟩⟩
          | true =>
            rw [hc] at g1 g2
            have ha2 : a + 1 + V.length + 1 ≤ L.length := by unfold isB at hc; simp at hc; omega
            have ha3 : a ≤ a + 1 + V.length := by omega
            generalize a + 1 + V.length = a3 at *
            simp only [if_true] at g1 g2
            have w3 := a3s L hL l 0 0 (a3 + 1) ha2; have w4 := b5z L hL l (a3 + 1) ha2
            have n3 := c6z (wd yO L (a3 + 1)) (wl _ _ ha2); have n4 := d1o (wd a4c L (a3 + 1)) (wl _ _ ha2)
            rcases b6c L hG (a3 + 1) ha2 with he3 | ⟨he1, he2, _, _⟩
            · rw [← he3] at w4 n4
              have hle2 := a7d yO L (a3 + 1) ha2
              have hb2 := b0v L (a3 + 1) ha2
              generalize wd yO L (a3 + 1) = V2 at *
              cases hv2 : a0b V2 with
              | none =>
                rw [hv2] at n3 n4
                right
                exact ⟨_, _, kD o17 (kF w1 (kF n1 (kD rfl (kU g1 (kD rfl (kF w3 (kF n3 kQ))))))), .inl ⟨_, kD o17 (kF w2 (kF n2 (kH (show ¬ (v < 0) by omega) (kU g2 (kD rfl (kF w4 (kF n4 (kD (show (-1 : Int) < 0 by decide) kQ))))))))⟩⟩
              | some v2 =>
                rw [hv2] at n3 n4
                have hv20 := yA hv2
                left
                exact ⟨a3 + 1 + V2.length, v, 0, v2, v2, oM, hle2, by rw [hb2, b2z hc, hb1, b2z hb], kD o17 (kF w1 (kF n1 (kD rfl (kU g1 (kD rfl (kF w3 (kF n3 kQ))))))), ⟨_, _, _, kD o17 (kF w2 (kF n2 (kH (show ¬ (v < 0) by omega) (kU g2 (kD rfl (kF w4 (kF n4 (kH (show ¬ (v2 < 0) by omega) kQ)))))))), qn hq _ _ _⟩, fun _ => rfl, fun h => absurd h hq, fun _ => rfl⟩
            · rw [he1] at n3
              rw [he2] at n4
              right
              exact ⟨_, _, kD o17 (kF w1 (kF n1 (kD rfl (kU g1 (kD rfl (kF w3 (kF n3 kQ))))))), .inl ⟨_, kD o17 (kF w2 (kF n2 (kH (show ¬ (v < 0) by omega) (kU g2 (kD rfl (kF w4 (kF n4 (kD (show (-1 : Int) < 0 by decide) kQ))))))))⟩⟩
      · rw [he1] at n1
        rw [he2] at n2
        right
        exact ⟨_, _, kD o17 (kF w1 (kF n1 (kH (by decide) kQ))), .inl ⟨_, kD o17 (kF w2 (kF n2 (kD (show (-1 : Int) < 0 by decide) kQ)))⟩⟩
  by_cases oq : op = 19 ∨ op = 20
  · have sl : Ev (fun k => if op = 17 then (if isB L a 32 = true then (cwF k (mkB L) ((if isB L a 32 = true then a + 1 else a : Nat) : Int) l).bind fun w => (sX k w.1).bind fun x => (if x < 0 then some (false, w.2, (0 : Int), (0 : Int)) else (cbF (mkB L) w.2 l).bind fun b2 => if b2.1 = true then (cwF k (mkB L) b2.2 l).bind fun w2 => (sX k w2.1).bind fun y => (if y < 0 then some (false, w2.2, 0, 0) else some (true, w2.2, x, y)) else some (false, b2.2, 0, 0)) else some (false, ((if isB L a 32 = true then a + 1 else a : Nat) : Int), 0, 0)) else some (true, (a : Int), 0, 0)) (true, (a : Int), 0, 0) := kH o17 kQ
    have cq : ∀ r, Ev (fun k => if isB L a 32 = true then (cwF k (mkB L) ((if isB L a 32 = true then a + 1 else a : Nat) : Int) l).bind fun w => (uR k w.1 118).bind fun t => (if t.1 < 0 then some (false, w.2, (0 : Int), (0 : Int), (0 : Int)) else some (true, w.2, t.1, t.2, 1)) else some (false, ((if isB L a 32 = true then a + 1 else a : Nat) : Int), 0, 0, 0)) r → Ev (fun k => a0e k (mkB L) (a : Int) l op 0 0) r := by
      intro r h
      unfold a0e
      rw [d0q, b3a L hL a ha]
      simp only [Option.bind_some]
      exact kD (by simpa using oq) h
    cases hb : isB L a 32 with
    | false =>
      rw [hb] at cq sl
      right
      exact ⟨_, _, kH o17 (kD oq (kH (by decide) kQ)), .inr ⟨_, _, _, sl, _, cq _ (kH (by decide) kQ)⟩⟩
    | true =>
      rw [hb] at cq sl
      have ha1 : a + 1 ≤ L.length := by unfold isB at hb; simp at hb; omega
      simp only [if_true] at cq sl ⊢
      have w1 := a3s L hL l 0 0 (a + 1) ha1; have w2 := b5z L hL l (a + 1) ha1
      obtain ⟨x, y, n1, hn1⟩ := b7d (wd yO L (a + 1)) (wl _ _ ha1) 118
      have n2 := c5u (wd a4c L (a + 1)) (wl _ _ ha1) 118
      rcases b6c L hG (a + 1) ha1 with he | ⟨_, _, he1, he2⟩
      · rw [← he] at w2 n2
        have hle := a7d yO L (a + 1) ha1
        have hb1 := b0v L (a + 1) ha1
        generalize wd yO L (a + 1) = V at *
        cases hv : wV V 118 with
        | none =>
          rw [hv] at n1 n2
          right
          exact ⟨_, _, kH o17 (kD oq (kF w1 (kF n1 kQ))), .inr ⟨_, _, _, sl, _, cq _ (kF w2 (kF n2 (kD (show (-1 : Int) < 0 by decide) kQ)))⟩⟩
        | some r =>
          obtain ⟨v, u⟩ := r
          rw [hv] at n1 n2
          have hv0 := a0t hv
          obtain ⟨rfl, rfl⟩ := hn1 v u hv
          left
          exact ⟨a + 1 + V.length, x, y, 1, 0, oM, hle, by rw [hb1, b2z hb], kH o17 (kD oq (kF w1 (kF n1 kQ))), ⟨_, _, _, sl, cq _ (kF w2 (kF n2 (kH (show ¬ (x < 0) by omega) kQ)))⟩, fun h => absurd h o17, fun _ => rfl, fun h => absurd oq h⟩
      · rw [he1] at n1
        rw [he2] at n2
        right
        exact ⟨_, _, kH o17 (kD oq (kF w1 (kF n1 kQ))), .inr ⟨_, _, _, sl, _, cq _ (kF w2 (kF n2 (kD (show (-1 : Int) < 0 by decide) kQ)))⟩⟩
  · left
    exact ⟨a, 0, 0, 0, 0, Nat.le_refl _, ha, rfl, kH o17 (kH oq kQ), ⟨_, _, _, kH o17 kQ, qn oq _ _ _⟩, fun h => absurd h o17, fun h => absurd h oq, fun _ => rfl⟩
def b2d (VI : Nat → RdV) (VS : Nat → CdV) (L : List UInt8) (a : Nat) (l : List S31) : Prop :=
  (∃ (p a' : Nat) (l' : List S31), Ev (fun k => VI k (a : Int) l 0 0) (((p : Int), true), (a' : Int), l', 0, 0) ∧ Ev (fun k => VS k (a : Int) l) ((p : Int), (a' : Int), l', 0, 0) ∧ a ≤ a' ∧ a' ≤ L.length ∧ brk L a' = brk L a ∧ p < l'.length ∧ OKL l' ∧ (∃ m, l' = l ++ m) ∧ (l'.length ≤ l.length ∨ l'.length ≤ p + 1)) ∨
  (∃ (p1 a1 : Int) (l1 : List S31) (p2 a2 : Int) (l2 : List S31) (c b : Int), c ≠ 0 ∧ Ev (fun k => VI k (a : Int) l 0 0) ((p1, false), a1, l1, c, b) ∧ Ev (fun k => VS k (a : Int) l) (p2, a2, l2, c, b))
theorem c6h (L : List UInt8) (hL : L.length ≤ 4000) (VI : Nat → RdV) (VS : Nat → CdV) (frm : Int) (a0 : Nat) (hV : ∀ (b : Nat) (l : List S31), a0 ≤ b → b ≤ L.length → OKL l → b2d VI VS L b l) (m : Nat) : ∀ (a : Nat) (l : List S31) (acc : List Int), a0 ≤ a → a ≤ L.length → OKL l →
    (∃ (ps : List Int) (a' : Nat) (l' : List S31), Ev (fun k => a3x (VI k) (mkB L) frm m (a : Int) l 0 0 acc) (true, acc ++ ps, (a' : Int), l', 0, 0) ∧ Ev (fun k => a2w (VS k) (mkB L) frm m (a : Int) l acc) (true, acc ++ ps, (a' : Int), l', 0, 0) ∧ ps.length = m ∧ a ≤ a' ∧ a' ≤ L.length ∧ brk L a' = brk L a ∧ OKL l' ∧ (∃ m, l' = l ++ m) ∧ (∀ p ∈ ps, 0 ≤ p ∧ p < (l'.length : Int)) ∧ (l'.length ≤ l.length ∨ ∃ p ∈ ps, (l'.length : Int) ≤ p + 1)) ∨
    (∃ (q1 : List Int) (q2 : Int) (q3 : List S31) (q4 : List Int) (q5 : Int) (q6 : List S31) (c b : Int), c ≠ 0 ∧ Ev (fun k => a3x (VI k) (mkB L) frm m (a : Int) l 0 0 acc) (false, q1, q2, q3, c, b) ∧ Ev (fun k => a2w (VS k) (mkB L) frm m (a : Int) l acc) (false, q4, q5, q6, c, b)) := by
  induction m with
  | zero =>
    intro a l acc h0 h1 hO
    left
    refine ⟨[], a, l, ?_, ?_, rfl, Nat.le_refl _, h1, rfl, hO, ⟨[], by simp⟩, fun p hp => (by cases hp), .inl (Nat.le_refl _)⟩
    · rw [List.append_nil]; exact kQ
    · rw [List.append_nil]; exact kQ
  | succ m ih =>
    intro a l acc h0 h1 hO
    have g1 := a0y L hL a h1 l 0 0 32; have g2 := b3a L hL a h1 l
    simp only [a3x, a2w]
    cases hb : isB L a 32 with
    | false =>
      rw [hb] at g1 g2
      right
      exact ⟨_, _, _, _, _, _, 2, frm, by decide, kU g1 (kH (by simp) kQ), kU g2 (kH (by simp) kQ)⟩
    | true =>
      rw [hb] at g1 g2
      have ha1 : a + 1 ≤ L.length := by unfold isB at hb; simp at hb; omega
      simp only [if_true] at g1 g2
      rcases hV (a + 1) l oM ha1 hO with ⟨p, a', l', e1, e2, h3, h4, hbk, h5, hO', ⟨m1, hm1⟩, h6⟩ | ⟨p1, a1, l1, p2, a2, l2, c, b, hc, e1, e2⟩
      · rcases ih a' l' (acc ++ [(p : Int)]) oM h4 hO' with ⟨ps, a'', l'', f1, f2, k1, k2, k3, kbk, k4, ⟨m2, hm2⟩, k5, k6⟩ | ⟨q1, q2, q3, q4, q5, q6, c, b, hc, f1, f2⟩
        · left
          rw [List.append_assoc] at f1 f2
          have hlen : l'.length ≤ l''.length := by rw [hm2]; simp
          refine ⟨(p : Int) :: ps, a'', l'', kU g1 (kD rfl (kF e1 (kD rfl f1))), kU g2 (kD rfl (kF e2 (kD rfl (kD rfl f2)))), by simp [k1], oM, k3, by rw [kbk, hbk, b2z hb], k4, ⟨m1 ++ m2, by rw [hm2, hm1, List.append_assoc]⟩, ?_, ?_⟩
          · intro q hq
            rcases List.mem_cons.mp hq with rfl | hq
            · omega
            · exact k5 q hq
          · rcases k6 with k6 | ⟨q, hq, k6⟩
            · rcases h6 with h6 | h6
              · exact .inl oM
              · exact .inr ⟨(p : Int), List.mem_cons_self, oM⟩
            · exact .inr ⟨q, List.mem_cons_of_mem _ hq, k6⟩
        · right
          exact ⟨q1, q2, q3, q4, q5, q6, c, b, hc, kU g1 (kD rfl (kF e1 (kD rfl f1))), kU g2 (kD rfl (kF e2 (kD rfl (kD rfl f2))))⟩
      · right
        exact ⟨_, _, _, _, _, _, c, b, hc, kU g1 (kD rfl (kF e1 (kH (by simp) kQ))), kU g2 (kD rfl (kF e2 (kH hc kQ)))⟩
theorem b7r (L : List UInt8) (hL : L.length ≤ 4000) (hG : a6o L) (a : Nat) (ha : a ≤ L.length) (h40 : isB L a 40 = false) (l : List S31) (hO : OKL l) :
    b2d (fun k => fun x m _ _ => a8k (k + 1) (mkB L) x m 0 0 x) (fun k => fun x m => b2y (k + 1) (mkB L) x m) L a l := by
  unfold b2d
  dsimp only
  have hs := b1j L hG (L.length - a) a oM (fun h1 h2 => by unfold isB at h40; rw [h2] at h40; simp at h40; omega)
  have w1 := pR (a3s L hL l 0 0 a ha); have w2 := pR (b5z L hL l a ha)
  have hle := a7d yO L a ha
  rw [← hs] at w2
  have hwl : (wd yO L a).length ≤ 4000 := by omega
  have hbk := b0v L a ha
  generalize wd yO L a = V at *
  obtain ⟨x1, y1, n1, hn1⟩ := b7d V hwl 35
  have n2 := pR (c5u V hwl 35)
  have n1 := pR n1
  have done : ∀ n : S31, (∃ (p a' : Nat) (l' : List S31), Ev (fun k => some (a8z l 0 0 n (a : Int) ((a + V.length : Nat) : Int))) (((p : Int), true), (a' : Int), l', 0, 0) ∧ Ev (fun k => (a6h (k + 1) l n (a : Int)).map fun q => (q.1, (((a + V.length : Nat) : Int)), q.2)) ((p : Int), (a' : Int), l', 0, 0) ∧ a ≤ a' ∧ a' ≤ L.length ∧ brk L a' = brk L a ∧ p < l'.length ∧ OKL l' ∧ (∃ m, l' = l ++ m) ∧ (l'.length ≤ l.length ∨ l'.length ≤ p + 1)) ∨
      (∃ (p1 a1 : Int) (l1 : List S31) (p2 a2 : Int) (l2 : List S31) (c b : Int), c ≠ 0 ∧ Ev (fun k => some (a8z l 0 0 n (a : Int) ((a + V.length : Nat) : Int))) ((p1, false), a1, l1, c, b) ∧ Ev (fun k => (a6h (k + 1) l n (a : Int)).map fun q => (q.1, (((a + V.length : Nat) : Int)), q.2)) (p2, a2, l2, c, b)) := by
    intro n
    rcases c2m l hO n (a : Int) with ⟨p, l', e1, e2, h1, h2, h3, h4, h5⟩ | ⟨c, b, hc, e1, e2⟩
    · left
      refine ⟨p, a + V.length, l', uN (by unfold a8z; rw [e1]), ?_, oM, hle, hbk, h1, h2, h3, ?_⟩
      · obtain ⟨K, hK⟩ := pR e2
        exact ⟨K, fun k hk => by have := hK k hk; dsimp only at this ⊢; rw [this]; rfl⟩
      · rcases h4 with rfl | h4
        · exact .inl (Nat.le_refl _)
        · exact .inr oM
    · right
      refine ⟨0, ((a + V.length : Nat) : Int), l, 0, ((a + V.length : Nat) : Int), l, c, b, hc, uN (by unfold a8z; rw [e1]), ?_⟩
      obtain ⟨K, hK⟩ := pR e2
      exact ⟨K, fun k hk => by have := hK k hk; dsimp only at this ⊢; rw [this]; rfl⟩
  unfold a8k b2y
  cases hv : wV V 35 with
  | some r =>
    obtain ⟨v, u⟩ := r
    rw [hv] at n1 n2
    have hv0 := a0t hv
    obtain ⟨rfl, rfl⟩ := hn1 v u hv
    rcases done ⟨0, x1, y1, 0, 0, 0⟩ with ⟨p, a', l', e1, e2, h⟩ | ⟨p1, a1, l1, p2, a2, l2, c, b, hc, e1, e2⟩
    · exact .inl ⟨p, a', l', kF w1 (kF n1 (kD rfl e1)), kF w2 (kF n2 (kD (show x1 ≥ 0 by omega) e2)), h⟩
    · exact .inr ⟨p1, a1, l1, p2, a2, l2, c, b, hc, kF w1 (kF n1 (kD rfl e1)), kF w2 (kF n2 (kD (show x1 ≥ 0 by omega) e2))⟩
  | none =>
    rw [hv] at n1 n2
    obtain ⟨x3, y3, n3, hn3⟩ := b7d V hwl 118
    have n4 := pR (c5u V hwl 118)
    have n3 := pR n3
    cases hv3 : wV V 118 with
    | some r =>
      obtain ⟨v, u⟩ := r
      rw [hv3] at n3 n4
      have hv0 := a0t hv3
      obtain ⟨rfl, rfl⟩ := hn3 v u hv3
      rcases done ⟨1, y3, x3, 0, 0, 0⟩ with ⟨p, a', l', e1, e2, h⟩ | ⟨p1, a1, l1, p2, a2, l2, c, b, hc, e1, e2⟩
      · exact .inl ⟨p, a', l', kF w1 (kF n1 (kH (by simp) (kF n3 (kD rfl e1)))), kF w2 (kF n2 (kH (show ¬ ((-1 : Int) ≥ 0) by decide) (kF n4 (kD (show x3 ≥ 0 by omega) e2)))), h⟩
      · exact .inr ⟨p1, a1, l1, p2, a2, l2, c, b, hc, kF w1 (kF n1 (kH (by simp) (kF n3 (kD rfl e1)))), kF w2 (kF n2 (kH (show ¬ ((-1 : Int) ≥ 0) by decide) (kF n4 (kD (show x3 ≥ 0 by omega) e2))))⟩
    | none =>
      rw [hv3] at n3 n4
      exact .inr ⟨0, _, l, 0, _, l, 2, (a : Int), by decide, kF w1 (kF n1 (kH (by simp) (kF n3 (kH (by simp) kQ)))), kF w2 (kF n2 (kH (show ¬ ((-1 : Int) ≥ 0) by decide) (kF n4 (kH (show ¬ ((-1 : Int) ≥ 0) by decide) kQ))))⟩
theorem b7c {op : Int} (h0 : 2 ≤ op) (h1 : op ≤ 20) {cnt : Int} (h : ∀ A B C, ((kV op A B C).length : Int) = cnt) :
    (op = 2 ∨ op = 17 ∨ op = 19 ∨ op = 20) ∧ cnt = 1 ∨ (3 ≤ op ∧ op ≤ 16) ∧ cnt = 2 ∨ op = 18 ∧ cnt = 3 := by
  have := h 0 0 0
  unfold kV at this
  split at this
  · exact .inl ⟨by assumption, by simpa using this.symm⟩
  · split at this
    · exact .inr (.inl ⟨by assumption, by simpa using this.symm⟩)
    · split at this
      · exact .inr (.inr ⟨by assumption, by simpa using this.symm⟩)
      · omega
theorem c0a (L : List UInt8) (hL : L.length ≤ 4000) (hG : a6o L) (VI : Nat → RdV) (VS : Nat → CdV) (a : Nat) (ha : a ≤ L.length) (h40 : isB L a 40 = true) (l : List S31) (hO : OKL l) (hV : ∀ (b : Nat) (l : List S31), a + 1 ≤ b → b ≤ L.length → OKL l → b2d VI VS L b l) :
    b2d (fun k => fun x m _ _ => a5v (k + 1) (VI k) (mkB L) (x + 1) m 0 0 x) (fun k => fun x m => a6i (k + 1) (VS k) (mkB L) m x) L a l := by
  unfold b2d
  dsimp only
  have h41 : a < L.length ∧ L.getD a 0 = 40 := by
    unfold isB at h40
    simp only [decide_eq_true_eq] at h40
    exact ⟨h40.1, UInt8.toNat_inj.mp (by show (L.getD a 0).toNat = 40; omega)⟩
  have ha1 : a + 1 ≤ L.length := by omega
  have hs := b1j L hG (L.length - (a + 1)) (a + 1) oM (fun h1 h2 => by
    rcases hG (a + 1) h1 h2 with h | h
    · omega
    · rw [Nat.add_sub_cancel, h41.2] at h; exact absurd h (by decide))
  have w1 := pR (a3s L hL l 0 0 (a + 1) ha1); have w2 := pR (b5z L hL l (a + 1) ha1)
  have hle := a7d yO L (a + 1) ha1
  rw [← hs] at w2
  have e1 : wrap64 ((a : Int) + 1) = ((a + 1 : Nat) : Int) := by rw [oY oM oM]; omega
  have e2 : ((a : Int) + 1) = ((a + 1 : Nat) : Int) := by omega
  unfold a5v a6i
  rw [e1, e2]
  have hops := ops (wd yO L (a + 1))
  have hwb := b0v L (a + 1) ha1
  generalize wd yO L (a + 1) = V at *
  have fails : ∀ (p1 a1 : Int) (l1 : List S31) (p2 a2 : Int) (l2 : List S31) (c b : Int) (F1 : Nat → Option ((Int × Bool) × Int × List S31 × Int × Int)) (F2 : Nat → Option (Int × Int × List S31 × Int × Int)), c ≠ 0 → Ev F1 ((p1, false), a1, l1, c, b) → Ev F2 (p2, a2, l2, c, b) → ((∃ (p a' : Nat) (l' : List S31), Ev F1 (((p : Int), true), (a' : Int), l', 0, 0) ∧ Ev F2 ((p : Int), (a' : Int), l', 0, 0) ∧ a ≤ a' ∧ a' ≤ L.length ∧ brk L a' = brk L a ∧ p < l'.length ∧ OKL l' ∧ (∃ m, l' = l ++ m) ∧ (l'.length ≤ l.length ∨ l'.length ≤ p + 1)) ∨
      (∃ (p1 a1 : Int) (l1 : List S31) (p2 a2 : Int) (l2 : List S31) (c b : Int), c ≠ 0 ∧ Ev F1 ((p1, false), a1, l1, c, b) ∧ Ev F2 (p2, a2, l2, c, b))) := fun p1 a1 l1 p2 a2 l2 c b F1 F2 hc x y => .inr ⟨p1, a1, l1, p2, a2, l2, c, b, hc, x, y⟩
  rcases hops with ⟨op, cnt, o1, o2, hop0, hop1, hcnt⟩ | ⟨x, o1, o2⟩
  rotate_left
  · exact fails _ _ _ _ _ _ 2 (a : Int) _ _ (by decide) (kF w1 (kF (pR o1) (kH (by simp) kQ))) (kF w2 (kF (pR o2) (kD (show (-1 : Int) < 0 by decide) kQ)))
  have o1 := pR o1; have o2 := pR o2
  have hcn := b7c hop0 hop1 hcnt
  rcases c5x L hL hG l op (a + 1 + V.length) hle with ⟨e, K, B, W, W', k1, k2, kbk, n1, ⟨a2, K1, W1, n2, n3⟩, hW, hQ, hB⟩ | ⟨x, n', n1, n2⟩
  rotate_left
  · rcases n2 with ⟨y, n2⟩ | ⟨a2, K1, W1, n2, y, n3⟩
    · exact fails _ _ _ _ _ _ 2 (a : Int) _ _ (by decide) (kF w1 (kF o1 (kD rfl (kF (pR n1) (kH (by simp) kQ))))) (kF w2 (kF o2 (kH (show ¬ (op < 0) by omega) (kF (pR n2) (kH (by simp) kQ)))))
    · exact fails _ _ _ _ _ _ 2 (a : Int) _ _ (by decide) (kF w1 (kF o1 (kD rfl (kF (pR n1) (kH (by simp) kQ))))) (kF w2 (kF o2 (kH (show ¬ (op < 0) by omega) (kF (pR n2) (kD rfl (kF (pR n3) (kH (by simp) kQ)))))))
  have n1 := pR n1; have n2 := pR n2; have n3 := pR n3
  have hm : (kV op 0 B 0).length = cnt.toNat := by have := hcnt 0 B 0; omega
  rcases c6h L hL VI VS (a : Int) (a + 1) hV cnt.toNat e l [] oM k2 hO with ⟨ps, a', l', f1, f2, q1, q2, q3, qbk, hO', ⟨m1, hm1⟩, q5, q6⟩ | ⟨q1, q2, q3, q4, q5, q6, c, b, hc, f1, f2⟩
  rotate_left
  · exact fails _ _ _ _ _ _ c b _ _ hc (kF w1 (kF o1 (kD rfl (kF n1 (kD rfl (kF (by rw [hm]; exact f1) (kH (by simp) kQ))))))) (kF w2 (kF o2 (kH (show ¬ (op < 0) by omega) (kF n2 (kD rfl (kF n3 (kD rfl (kF f2 (kH (by simp) kQ)))))))))
  rw [List.nil_append] at f1 f2
  have Q6 := Aside0.mk q6
  clear q6
  have g1 := a0y L hL a' q3 l' 0 0 41; have g2 := d3r L a'
  have I1 : ∀ r, Ev (fun k => (goF (mkB L) (a' : Int) l' 0 0 41).bind fun e => (if e.1 = true then
          (pC (k + 1) (mkB L) e.2 l' 0 0 op W' K (rd ps 0) (if op = 19 ∨ op = 20 then B else rd ps 1) (rd ps 2)).bind fun wd =>
            some (a8z l' 0 0 ⟨op, wd.1, K, rd ps 0, if op = 19 ∨ op = 20 then B else rd ps 1, rd ps 2⟩ (a : Int) e.2)
        else some ((0, false), e.2, l', 2, (a : Int)))) r → Ev (fun k => (wF (k + 1) (mkB L) ((a + 1 : Nat) : Int) l 0 0).bind fun w1 => (vQ (k + 1) w1.1).bind fun o => if o.2 = true then
    (yR (k + 1) (mkB L) w1.2 l 0 0 ⟨o.1, 0, 0, 0, 0, 0⟩).bind fun m => (if m.1 = true then
      (a3x (VI k) (mkB L) (a : Int) (kV m.2.2.f0 m.2.2.f3 m.2.2.f4 m.2.2.f5).length m.2.1 l 0 0 []).bind fun q => (if q.1 = true then
        (goF (mkB L) q.2.2.1 q.2.2.2.1 q.2.2.2.2.1 q.2.2.2.2.2 41).bind fun e => (if e.1 = true then
          (pC (k + 1) (mkB L) e.2 q.2.2.2.1 q.2.2.2.2.1 q.2.2.2.2.2 m.2.2.f0 m.2.2.f1 m.2.2.f2 (rd q.2.1 0) (if m.2.2.f0 = 19 ∨ m.2.2.f0 = 20 then m.2.2.f4 else rd q.2.1 1) (rd q.2.1 2)).bind fun wd =>
            some (a8z q.2.2.2.1 q.2.2.2.2.1 q.2.2.2.2.2 ⟨m.2.2.f0, wd.1, m.2.2.f2, rd q.2.1 0, if m.2.2.f0 = 19 ∨ m.2.2.f0 = 20 then m.2.2.f4 else rd q.2.1 1, rd q.2.1 2⟩ (a : Int) e.2)
        else some ((0, false), e.2, q.2.2.2.1, 2, (a : Int)))
      else some ((0, false), q.2.2.1, q.2.2.2.1, q.2.2.2.2.1, q.2.2.2.2.2))
    else some ((0, false), m.2.1, l, 2, (a : Int)))
  else some ((0, false), w1.2, l, 2, (a : Int))) r := fun r h => kF w1 (kF o1 (kD rfl (kF n1 (kD rfl (kF (by rw [hm]; exact f1) (kD rfl h))))))
  have I2 : ∀ r, Ev (fun k => a2c (k + 1) (mkB L) (a' : Int) l' ps op cnt K B W (a : Int)) r → Ev (fun k => (cwF (k + 1) (mkB L) ((a + 1 : Nat) : Int) l).bind fun w1 => (uS (k + 1) w1.1).bind fun o => if o.1 < 0 then some (0, w1.2, l, 2, (a : Int)) else
    (a2b (k + 1) (mkB L) w1.2 l o.1).bind fun m => (if m.1 = true then (a0e (k + 1) (mkB L) m.2.1 l o.1 m.2.2.1 m.2.2.2).bind fun n => (if n.1 = true then
      (a2w (VS k) (mkB L) (a : Int) o.2.toNat n.2.1 l []).bind fun q => (if q.1 = true then a2c (k + 1) (mkB L) q.2.2.1 q.2.2.2.1 q.2.1 o.1 o.2 n.2.2.1 n.2.2.2.1 n.2.2.2.2 (a : Int) else some (0, q.2.2.1, q.2.2.2.1, q.2.2.2.2.1, q.2.2.2.2.2))
      else some (0, n.2.1, l, 2, (a : Int))) else some (0, m.2.1, l, 2, (a : Int)))) r := fun r h => kF w2 (kF o2 (kH (show ¬ (op < 0) by omega) (kF n2 (kD rfl (kF n3 (kD rfl (kF f2 (kD rfl h))))))))
  cases hb : isB L a' 41 with
  | false =>
    rw [hb] at g1 g2
    refine fails 0 (a' : Int) l' 0 (a' : Int) l' 2 (a : Int) _ _ (by decide) (I1 _ (kU g1 (kH (by simp) kQ))) (I2 (0, (a' : Int), l', 2, (a : Int)) ?_)
    unfold a2c
    exact kU g2 (kH (by simp) kQ)
  | true =>
    rw [hb] at g1 g2
    have ha2 : a' + 1 ≤ L.length := by unfold isB at hb; simp at hb; omega
    simp only [if_true] at g1
    have hps : (ps.length : Int) = cnt := by omega
    have r0 : ∀ t : Nat, t < ps.length → 0 ≤ rd ps (t : Int) ∧ rd ps (t : Int) < (l'.length : Int) := fun t ht => by rw [rdI ps t ht]; exact q5 _ (List.getElem_mem ht)
    have rz : ∀ t : Nat, ps.length ≤ t → rd ps (t : Int) = 0 := fun t ht => by unfold rd; rw [Int.toNat_natCast, List.getD_eq_getElem?_getD, List.getElem?_eq_none ht]; rfl
    have A0 := r0 0 oM
    have eB : (if 1 < cnt then rd ps 1 else B) = (if op = 19 ∨ op = 20 then B else rd ps 1) := by
      rcases hcn with ⟨h, hc⟩ | ⟨h, hc⟩ | ⟨h, hc⟩
      · rw [if_neg oM]
        by_cases hq : op = 19 ∨ op = 20
        · rw [if_pos hq]
        · rw [if_neg hq, hB hq]; exact (rz 1 oM).symm
      · rw [if_pos oM, if_neg oM]
      · rw [if_pos oM, if_neg oM]
    have eC : (if 2 < cnt then rd ps 2 else 0) = rd ps 2 := by
      by_cases h : 2 < cnt
      · rw [if_pos h]
      · rw [if_neg h]; exact (rz 2 oM).symm
    obtain ⟨wd, hw1, hw2⟩ := b8w (mkB L) ((a' + 1 : Nat) : Int) 0 0 l' op W' W K (rd ps 0) (if op = 19 ∨ op = 20 then B else rd ps 1) (if op = 19 ∨ op = 20 then B else rd ps 1) (rd ps 2) hop0 hop1 A0 (fun h => by
      have := r0 1 oM
      rw [if_neg oM]
      exact ⟨rfl, this⟩) hW hQ
    have hw1 := pR hw1
    have C2 : ∀ r : Int × List S31 × Int × Int, Ev (fun k => a6h k l' ⟨op, wd, K, rd ps 0, if op = 19 ∨ op = 20 then B else rd ps 1, rd ps 2⟩ (a : Int)) r → Ev (fun k => a2c (k + 1) (mkB L) (a' : Int) l' ps op cnt K B W (a : Int)) (r.1, ((a' + 1 : Nat) : Int), r.2) := by
      intro r h
      unfold a2c
      rw [eB, eC]
      refine kU g2 (kD rfl (kD ⟨oM, oM, oM⟩ (kU hw2 ?_)))
      rw [show wrap64 ((a' : Int) + 1) = ((a' + 1 : Nat) : Int) by rw [oY oM oM]; omega]
      obtain ⟨K0, hK⟩ := pR h
      exact ⟨K0, fun k hk => by have := hK k hk; dsimp only at this ⊢; rw [this]; rfl⟩
    rcases c2m l' hO' ⟨op, wd, K, rd ps 0, if op = 19 ∨ op = 20 then B else rd ps 1, rd ps 2⟩ (a : Int) with ⟨p, l'', u1, u2, u3, u4, ⟨m2, hm2⟩, u5, u6⟩ | ⟨c, b, hc, u1, u2⟩
    · left
      refine ⟨p, a' + 1, l'', I1 _ (kU g1 (kD rfl (kF hw1 (uN (by unfold a8z; rw [u1]))))), I2 _ (C2 _ u2), oM, ha2, by rw [d0y hb, qbk, kbk, hwb, d0x h40]; omega, u3, u4, ⟨m1 ++ m2, by rw [hm2, hm1, List.append_assoc]⟩, ?_⟩
      rcases u5 with u5 | u5
      rotate_left
      · exact .inr oM
      rcases Q6.out with q6 | ⟨q, hq, q6⟩
      · exact .inl (by rw [u5]; exact q6)
      · right
        have hp := u4.1 p u3
        unfold a1v at hp
        rw [u6] at hp
        unfold sM at hp
        simp only [Bool.and_eq_true] at hp
        have hq2 : q ∈ kV op (rd ps 0) (if op = 19 ∨ op = 20 then B else rd ps 1) (rd ps 2) := by
          obtain ⟨t, ht, rfl⟩ := List.mem_iff_getElem.mp hq
          rw [← rdI ps t ht]
          have ht3 : t = 0 ∨ t = 1 ∨ t = 2 := by omega
          unfold kV
          rcases hcn with ⟨h, hc⟩ | ⟨h, hc⟩ | ⟨h, hc⟩
          · rw [if_pos h]
            obtain rfl : t = 0 := by omega
            simp
          · rw [if_neg oM, if_pos h, if_neg oM]
            rcases ht3 with rfl | rfl | rfl
            · simp
            · simp
            · omega
          · rw [if_neg oM, if_neg oM, if_pos h, if_neg oM]
            rcases ht3 with rfl | rfl | rfl <;> simp
        have := rP.mp (List.all_eq_true.mp hp.1.2 q hq2)
        rw [List.length_take] at this
        rw [u5]
        omega
    · exact fails _ _ _ _ _ _ c b _ _ hc (I1 _ (kU g1 (kD rfl (kF hw1 (uN (by unfold a8z; rw [u1])))))) (I2 _ (C2 _ u2))
theorem c5q (L : List UInt8) (hL : L.length ≤ 4000) (hG : a6o L) (d : Nat) : ∀ (a : Nat) (l : List S31), a ≤ L.length → L.length - a ≤ d → OKL l → b2d (fun k => nodeF (mkB L) k) (fun k => creadF (mkB L) k) L a l := by
  induction d with
  | zero =>
    intro a l ha hd hO
    have h40 : isB L a 40 = false := by unfold isB; simp; omega
    rcases b7r L hL hG a ha h40 l hO with ⟨p, a', l', e1, e2, h⟩ | ⟨p1, a1, l1, p2, a2, l2, c, b, hc, e1, e2⟩
    · refine .inl ⟨p, a', l', kR ?_, kR ?_, h⟩
      · simp only [nodeF, nodeR]; exact kU (a0y L hL a ha l 0 0 40) (by rw [h40]; exact kH (by simp) e1)
      · simp only [creadF, creadR]; exact kU (b3u L a) (by rw [h40]; exact kH (by simp) e2)
    · refine .inr ⟨p1, a1, l1, p2, a2, l2, c, b, hc, kR ?_, kR ?_⟩
      · simp only [nodeF, nodeR]; exact kU (a0y L hL a ha l 0 0 40) (by rw [h40]; exact kH (by simp) e1)
      · simp only [creadF, creadR]; exact kU (b3u L a) (by rw [h40]; exact kH (by simp) e2)
  | succ d ih =>
    intro a l ha hd hO
    cases h40 : isB L a 40 with
    | false =>
      rcases b7r L hL hG a ha h40 l hO with ⟨p, a', l', e1, e2, h⟩ | ⟨p1, a1, l1, p2, a2, l2, c, b, hc, e1, e2⟩
      · refine .inl ⟨p, a', l', kR ?_, kR ?_, h⟩
        · simp only [nodeF, nodeR]; exact kU (a0y L hL a ha l 0 0 40) (by rw [h40]; exact kH (by simp) e1)
        · simp only [creadF, creadR]; exact kU (b3u L a) (by rw [h40]; exact kH (by simp) e2)
      · refine .inr ⟨p1, a1, l1, p2, a2, l2, c, b, hc, kR ?_, kR ?_⟩
        · simp only [nodeF, nodeR]; exact kU (a0y L hL a ha l 0 0 40) (by rw [h40]; exact kH (by simp) e1)
        · simp only [creadF, creadR]; exact kU (b3u L a) (by rw [h40]; exact kH (by simp) e2)
    | true =>
      have hlt : a < L.length := by unfold isB at h40; simp at h40; omega
      rcases c0a L hL hG (fun k => nodeF (mkB L) k) (fun k => creadF (mkB L) k) a ha h40 l hO (fun b l hb1 hb2 hO => ih b l hb2 oM hO) with ⟨p, a', l', e1, e2, h⟩ | ⟨p1, a1, l1, p2, a2, l2, c, b, hc, e1, e2⟩
      · refine .inl ⟨p, a', l', kR ?_, kR ?_, h⟩
        · simp only [nodeF, nodeR]; exact kU (a0y L hL a ha l 0 0 40) (by rw [h40]; exact kD rfl e1)
        · simp only [creadF, creadR]; exact kU (b3u L a) (by rw [h40]; exact kD rfl e2)
      · refine .inr ⟨p1, a1, l1, p2, a2, l2, c, b, hc, kR ?_, kR ?_⟩
        · simp only [nodeF, nodeR]; exact kU (a0y L hL a ha l 0 0 40) (by rw [h40]; exact kD rfl e1)
        · simp only [creadF, creadR]; exact kU (b3u L a) (by rw [h40]; exact kD rfl e2)
theorem a5f (L : List UInt8) (hL : L.length ≤ 4000) (hG : a6o L) : ∃ r : List S31 × Int × Int, r.1.length ≤ 80 ∧ Ev (fun k => a1i k (mkB L)) r ∧ Ev (fun k => zV k (mkB L)) r ∧ (r.2.1 = 0 → brk L L.length = 0) := by
  unfold a1i zV
  rw [kP]
  have hO0 : OKL ([] : List S31) := ⟨fun i hi => absurd hi (by simp), by simp⟩
  rcases c5q L hL hG L.length 0 [] oM oM hO0 with ⟨p, a', l', e1, e2, h1, h2, hbk, h3, h4, _, h6⟩ | ⟨p1, a1, l1, p2, a2, l2, c, b, hc, e1, e2⟩
  · by_cases h : (a' : Int) < (L.length : Int)
    · exact ⟨([], 5, (a' : Int)), by simp, kH oM (kF e1 (kD rfl (kD h kQ))), kH oM (kF e2 (kD rfl (kD h kQ))), fun h => absurd h (show ¬ ((5 : Int) = 0) by decide)⟩
    · have hp : l'.length = p + 1 := by rcases h6 with h6 | h6; simp at h6; rw [h6] at h3; simp at h3; omega
      have := h4.2
      exact ⟨(l', 0, 0), h4.2, kH oM (kF e1 (kD rfl (kH h kQ))), kH oM (kF e2 (kD rfl (kH h (kD (by dsimp only; rw [oY oM oM]; omega) kQ)))), fun _ => by rw [show L.length = a' by omega, hbk]; rfl⟩
  · exact ⟨([], c, b), by simp, kH oM (kF e1 (kH (by simp) kQ)), kH oM (kF e2 (kH hc kQ)), fun h => absurd h hc⟩
inductive Tm where
  | leaf (op W K : Int)
  | un (op W K B : Int) (a : Tm)
  | bin (op W K : Int) (a b : Tm)
  | ter (op W K : Int) (a b c : Tm)
def b8o : Tm → Int
  | .leaf _ W _ => W
  | .un _ W _ _ _ => W
  | .bin _ W _ _ _ => W
  | .ter _ W _ _ _ _ => W
def mkT (op W K B : Int) : List Tm → Tm
  | [] => .leaf op W K
  | [a] => .un op W K B a
  | [a, b] => .bin op W K a b
  | a :: b :: c :: _ => .ter op W K a b c
theorem c6b (op W K B : Int) : ∀ ts, b8o (mkT op W K B ts) = W
  | [] => rfl
  | [_] => rfl
  | [_, _] => rfl
  | _ :: _ :: _ :: _ => rfl
def tr (l : List S31) : Nat → Nat → Tm
  | 0, _ => .leaf 0 0 0
  | n + 1, i => mkT (kA l (i : Int)).f0 (kA l (i : Int)).f1 (kA l (i : Int)).f2 (kA l (i : Int)).f4 ((pl l i).map fun p => tr l n p.toNat)
theorem b6h {l : List S31} (hP : yQ l) (n : Nat) : ∀ m i : Nat, i < n → i < m → i < l.length → tr l n i = tr l m i := by
  induction n with
  | zero => intro m i h; omega
  | succ n ih =>
    intro m i h1 h2 hi
    obtain ⟨m, rfl⟩ : ∃ m', m = m' + 1 := ⟨m - 1, oM⟩
    unfold tr
    congr 1
    refine List.map_congr_left (fun p hp => ?_)
    have := hP i hi p hp
    exact ih m p.toNat oM oM oM
def T (l : List S31) (i : Nat) : Tm := tr l (i + 1) i
theorem c6s {l : List S31} (hP : yQ l) (i : Nat) (hi : i < l.length) : T l i = mkT (kA l (i : Int)).f0 (kA l (i : Int)).f1 (kA l (i : Int)).f2 (kA l (i : Int)).f4 ((pl l i).map fun p => T l p.toNat) := by
  show tr l (i + 1) i = _
  unfold tr
  congr 1
  refine List.map_congr_left (fun p hp => ?_)
  have := hP i hi p hp
  exact b6h hP _ _ _ oM oM oM
theorem d1a {l : List S31} (i : Nat) : b8o (T l i) = (kA l (i : Int)).f1 := by
  show b8o (tr l (i + 1) i) = _
  unfold tr
  exact c6b _ _ _ _ _
def whT (op W K B : Int) (ts : List (List UInt8)) : List UInt8 := 40 :: hdL op W K B ++ (ts.flatMap fun t => 32 :: t) ++ [41]
def txm (op W K B : Int) (ts : List (List UInt8)) : List UInt8 := if op = 0 ∨ op = 1 then yW op W K else if (ts.all fun t => t != []) = true ∧ (whT op W K B ts).length ≤ 4000 then whT op W K B ts else []
def tx : Tm → List UInt8
  | .leaf op W K => txm op W K 0 []
  | .un op W K B a => txm op W K B [tx a]
  | .bin op W K a b => txm op W K 0 [tx a, tx b]
  | .ter op W K a b c => txm op W K 0 [tx a, tx b, tx c]
theorem d3p (op W K B B' : Int) (h : op ≠ 19 ∧ op ≠ 20) : hdL op W K B = hdL op W K B' := by
  unfold hdL
  rw [if_neg h.1, if_neg h.2, if_neg h.1, if_neg h.2]
theorem c5e (op W K B B' : Int) (ts : List (List UInt8)) (h : op ≠ 19 ∧ op ≠ 20) : txm op W K B ts = txm op W K B' ts := by
  unfold txm whT
  rw [d3p op W K B B' h]
theorem b3r {op A B C : Int} (h : op = 19 ∨ op = 20) : (kV op A B C).length = 1 := by
  unfold kV; rw [if_pos oM]; rfl
theorem d0b (op W K B : Int) (ts : List Tm) (h3 : ts.length ≤ 3) (h : op = 19 ∨ op = 20 → ts.length = 1) : tx (mkT op W K B ts) = txm op W K B (ts.map tx) := by
  match ts with
  | [] => exact c5e _ _ _ _ _ _ ⟨fun e => by have := h (.inl e); simp at this, fun e => by have := h (.inr e); simp at this⟩
  | [a] => rfl
  | [a, b] => exact c5e _ _ _ _ _ _ ⟨fun e => by have := h (.inl e); simp at this, fun e => by have := h (.inr e); simp at this⟩
  | [a, b, c] => exact c5e _ _ _ _ _ _ ⟨fun e => by have := h (.inl e); simp at this, fun e => by have := h (.inr e); simp at this⟩
  | _ :: _ :: _ :: _ :: _ => simp at h3
theorem b6i (l : List S31) (n : Nat) : ∀ i : Nat, i < n → (tW l n).getD i [] = b2r (tW l i) (kA l (i : Int)).f0 (kA l (i : Int)).f1 (kA l (i : Int)).f2 (kA l (i : Int)).f3 (kA l (i : Int)).f4 (kA l (i : Int)).f5 := by
  induction n with
  | zero => intro i h; omega
  | succ n ih =>
    intro i h
    simp only [tW]
    by_cases h1 : i < n
    · rw [← ih i h1, List.getD_eq_getElem?_getD, List.getElem?_append_left (by rw [sT]; omega), List.getD_eq_getElem?_getD]
    · obtain rfl : i = n := by omega
      rw [List.getD_eq_getElem?_getD, List.getElem?_append_right (by rw [sT]; omega), sT, Nat.sub_self]; rfl
theorem c5t (ts : List (List UInt8)) (ps : List Int) : a1k ts ps = (ps.map fun p => ts.getD p.toNat []).flatMap fun t => 32 :: t := by
  unfold a1k; rw [List.flatMap_map]
theorem b9a (ts : List (List UInt8)) (op W K A B C : Int) : b2r ts op W K A B C = txm op W K B ((kV op A B C).map fun p => ts.getD p.toNat []) := by
  unfold b2r txm whT a9s
  rw [c5t, List.all_map]; rfl
theorem c0n {l : List S31} (hN : rT l) (i : Nat) (hi : i < l.length) : tx (T l i) = txm (kA l (i : Int)).f0 (kA l (i : Int)).f1 (kA l (i : Int)).f2 (kA l (i : Int)).f4 ((pl l i).map fun p => tx (T l p.toNat)) := by
  rw [c6s (rS hN) i hi, d0b _ _ _ _ _ (by rw [List.length_map]; exact uD _ _ _ _) (fun h => by rw [List.length_map]; exact b3r h), List.map_map]; rfl
theorem c5f {l : List S31} (hN : rT l) (i : Nat) : ∀ n, i < n → i < l.length → (tW l n).getD i [] = tx (T l i) := by
  induction i using Nat.strongRecOn with
  | _ i ih =>
    intro n hn hi
    rw [b6i l n i hn, b9a, c0n hN i hi]
    congr 1
    refine List.map_congr_left (fun p hp => ?_)
    have := rS hN i hi p hp
    exact ih p.toNat oM i oM oM
theorem c6c {op W K B op' W' K' B' : Int} {ts ts' : List Tm} (h3 : ts.length ≤ 3) (h3' : ts'.length ≤ 3) (h : mkT op W K B ts = mkT op' W' K' B' ts') : op = op' ∧ W = W' ∧ K = K' ∧ ts = ts' ∧ (ts.length = 1 → B = B') := by
  match ts, ts' with
  | [], [] => simp only [mkT, Tm.leaf.injEq] at h; simp [h]
  | [a], [a'] => simp only [mkT, Tm.un.injEq] at h; simp [h]
  | [a, b], [a', b'] => simp only [mkT, Tm.bin.injEq] at h; simp [h]
  | [a, b, c], [a', b', c'] => simp only [mkT, Tm.ter.injEq] at h; simp [h]
  | [], [_] => cases h
  | [], [_, _] => cases h
  | [], [_, _, _] => cases h
  | [_], [] => cases h
  | [_], [_, _] => cases h
  | [_], [_, _, _] => cases h
  | [_, _], [] => cases h
  | [_, _], [_] => cases h
  | [_, _], [_, _, _] => cases h
  | [_, _, _], [] => cases h
  | [_, _, _], [_] => cases h
  | [_, _, _], [_, _] => cases h
  | _ :: _ :: _ :: _ :: _, _ => simp at h3
  | _, _ :: _ :: _ :: _ :: _ => simp at h3'
def Nodup (l : List S31) : Prop := ∀ i j : Nat, i < l.length → j < l.length → kA l (i : Int) = kA l (j : Int) → i = j
theorem b1k {l : List S31} (hN : rT l) (i : Nat) (hi : i < l.length) : xM (kA l (i : Int)).f0 (kA l (i : Int)).f2 (kA l (i : Int)).f3 (kA l (i : Int)).f4 (kA l (i : Int)).f5 = true := by
  have := hN i hi
  unfold a1v sM at this
  simp only [Bool.and_eq_true] at this
  exact this.1.1.2
theorem b9q {op K A B C A' B' C' : Int} (h0 : 0 ≤ op ∧ op ≤ 20) (u : xM op K A B C = true) (u' : xM op K A' B' C' = true) (hp : kV op A B C = kV op A' B' C') (hB : (kV op A B C).length = 1 → B = B') : A = A' ∧ B = B' ∧ C = C' := by
  unfold xM at u u'
  unfold kV at hp hB
  by_cases o0 : op = 0 ∨ op = 1
  · rw [if_pos o0] at u u'
    simp only [Bool.and_eq_true, beq_iff_eq] at u u'
    omega
  rw [if_neg o0] at u u'
  by_cases o1 : op = 2 ∨ op = 17 ∨ op = 19 ∨ op = 20
  · rw [if_pos o1] at hp hB
    rw [if_pos o1] at hp
    have hB := hB rfl
    simp only [List.cons.injEq, and_true] at hp
    refine ⟨hp, hB, ?_⟩
    by_cases o17 : op = 17
    · rw [if_pos o17] at u u'
      simp only [Bool.and_eq_true, beq_iff_eq] at u u'
      omega
    rw [if_neg o17] at u u'
    by_cases oq : op = 19 ∨ op = 20
    · rw [if_pos oq] at u u'
      simp only [beq_iff_eq] at u u'
      omega
    rw [if_neg oq, if_pos (show op = 2 by omega)] at u u'
    simp only [Bool.and_eq_true, beq_iff_eq] at u u'
    omega
  rw [if_neg o1] at hp
  rw [if_neg o1] at hp
  rw [if_neg (show ¬ op = 17 by omega), if_neg (show ¬ (op = 19 ∨ op = 20) by omega), if_neg (show ¬ op = 2 by omega)] at u u'
  by_cases o3 : 3 ≤ op ∧ op ≤ 16
  · rw [if_pos o3] at hp
    rw [if_pos o3] at hp
    rw [if_pos o3] at u u'
    simp only [Bool.and_eq_true, beq_iff_eq] at u u'
    simp only [List.cons.injEq, and_true] at hp
    omega
  · rw [if_neg o3] at hp
    rw [if_neg o3] at hp
    rw [if_pos (show op = 18 by omega)] at hp
    rw [if_pos (show op = 18 by omega)] at hp
    simp only [List.cons.injEq, and_true] at hp
    omega
theorem b9l {l : List S31} (hN : rT l) (i : Nat) (hi : i < l.length) : 0 ≤ (kA l (i : Int)).f0 ∧ (kA l (i : Int)).f0 ≤ 20 := by
  have := hN i hi
  unfold a1v sM at this
  simp only [Bool.and_eq_true] at this
  exact rP.mp this.1.1.1.2
theorem d2f {l : List S31} (hN : rT l) (hD : Nodup l) (i : Nat) : ∀ j : Nat, i < l.length → j < l.length → T l i = T l j → i = j := by
  induction i using Nat.strongRecOn with
  | _ i ih =>
    intro j hi hj h
    rw [c6s (rS hN) i hi, c6s (rS hN) j hj] at h
    obtain ⟨h0, h1, h2, h3, h4⟩ := c6c (by rw [List.length_map]; exact uD _ _ _ _) (by rw [List.length_map]; exact uD _ _ _ _) h
    have hlen : (pl l i).length = (pl l j).length := by simpa using congrArg List.length h3
    have hpp : pl l i = pl l j := by
      refine List.ext_getElem hlen (fun t ht1 ht2 => ?_)
      have e : T l (pl l i)[t].toNat = T l (pl l j)[t].toNat := by
        have := congrArg (fun x => x[t]?) h3
        simpa [ht1, ht2] using this
      have b1 := rS hN i hi _ (List.getElem_mem ht1)
      have b2 := rS hN j hj _ (List.getElem_mem ht2)
      have := ih _ (show (pl l i)[t].toNat < i by omega) (pl l j)[t].toNat oM oM e
      omega
    refine hD i j hi hj ?_
    have u1 := b1k hN i hi; have u2 := b1k hN j hj
    have o1 := b9l hN i hi
    unfold pl at hpp
    rw [List.length_map] at h4
    unfold pl at h4
    generalize kA l (i : Int) = x at *
    generalize kA l (j : Int) = y at *
    obtain ⟨x0, x1, x2, x3, x4, x5⟩ := x
    obtain ⟨y0, y1, y2, y3, y4, y5⟩ := y
    simp only [] at h0 h1 h2 u1 u2 o1 hpp h4
    subst h0 h1 h2
    obtain ⟨rfl, rfl, rfl⟩ := b9q o1 u1 u2 hpp h4
    rfl
def a8y (w : Nat → Int) : Nat → Int
  | 0 => 0
  | n + 1 => a8y w n + w n
theorem b3i {w : Nat → Int} (h : ∀ j, 0 ≤ w j) (n : Nat) : 0 ≤ a8y w n := by
  induction n with
  | zero => exact Int.le_refl _
  | succ n ih => have := h n; show 0 ≤ a8y w n + w n; omega
theorem a5g {w v : Nat → Int} (n : Nat) : (∀ j < n, w j = v j) → a8y w n = a8y v n := by
  induction n with
  | zero => intro _; rfl
  | succ n ih => intro h; show a8y w n + w n = a8y v n + v n; rw [ih (fun j hj => h j oM), h n oM]
theorem b9d (w : Nat → Int) (k : Nat) (m : Nat) (h : k < m) : a8y (fun j => if j = k then 0 else w j) m = a8y w m - w k := by
  induction m with
  | zero => omega
  | succ m ih =>
    show a8y _ m + (if m = k then 0 else w m) = a8y w m + w m - w k
    by_cases hk : m = k
    · subst hk
      rw [if_pos rfl, a5g m (v := w) (fun j hj => if_neg oM)]; omega
    · rw [if_neg hk, ih oM]; omega
theorem c5i (m : Nat) (g : Nat → Nat) (n : Nat) : ∀ w : Nat → Int, (∀ j, 0 ≤ w j) → (∀ q < n, g q < m) → (∀ q r, q < n → r < n → g q = g r → q = r) → a8y (fun q => w (g q)) n ≤ a8y w m := by
  induction n with
  | zero => intro w h0 _ _; exact b3i h0 m
  | succ n ih =>
    intro w h0 h1 h2
    have hg := h1 n oM
    have := ih (fun j => if j = g n then 0 else w j) (fun j => by show 0 ≤ if j = g n then 0 else w j; split; exact Int.le_refl _; exact h0 j) (fun q hq => h1 q oM) (fun q r hq hr => h2 q r oM oM)
    rw [b9d w (g n) m hg] at this
    have e := a5g (w := fun q => if g q = g n then 0 else w (g q)) (v := fun q => w (g q)) n (fun q hq => if_neg (fun e => by have := h2 q n oM oM e; omega))
    rw [e] at this
    show a8y (fun q => w (g q)) n + w (g n) ≤ _
    omega
theorem b6m (n : Nat) : a8y (fun _ => 1) n = (n : Int) := by
  induction n with
  | zero => rfl
  | succ n ih => show a8y _ n + 1 = _; rw [ih]; omega
structure Rb (t : List S31) (D : Nat → Prop) (l : List S31) : Prop where
  ok : rT l
  dup : Nodup l
  from_ : ∀ q < l.length, ∃ j < t.length, D j ∧ T l q = T t j
theorem Rb.sum {t : List S31} {D : Nat → Prop} {l : List S31} (h : Rb t D l) (w : Nat → Int) (v : Nat → Int) (hw : ∀ j, 0 ≤ w j) (hv : ∀ q < l.length, ∀ j < t.length, D j → T l q = T t j → v q = w j) : a8y v l.length ≤ a8y w t.length := by
  have ex : ∃ g : Nat → Nat, ∀ q < l.length, g q < t.length ∧ D (g q) ∧ T l q = T t (g q) := by
    refine ⟨fun q => if hq : q < l.length then Classical.choose (h.from_ q hq) else 0, fun q hq => ?_⟩
    have := Classical.choose_spec (h.from_ q hq)
    simp only [hq, dif_pos]
    exact this
  obtain ⟨g, hg⟩ := ex
  have := c5i t.length g l.length w hw (fun q hq => (hg q hq).1) (fun q r hq hr e => d2f h.ok h.dup q r hq hr (by rw [(hg q hq).2.2, (hg r hr).2.2, e]))
  rw [a5g (v := v) l.length (fun q hq => (hv q hq (g q) (hg q hq).1 (hg q hq).2.1 (hg q hq).2.2).symm)] at this
  exact this
theorem Rb.len {t : List S31} {D : Nat → Prop} {l : List S31} (h : Rb t D l) : l.length ≤ t.length := by
  have := h.sum (fun _ => 1) (fun _ => 1) (fun _ => by decide) (fun _ _ _ _ _ _ => rfl)
  rw [b6m, b6m] at this
  omega
def b3j (R : List UInt8) : Prop := R = [] ∨ ∃ y M, R = y :: M ∧ (y = 32 ∨ y = 41)
theorem a2z (M : List UInt8) : b3j (32 :: M) := .inr ⟨32, M, rfl, .inl rfl⟩
theorem b6n (M : List UInt8) : b3j (41 :: M) := .inr ⟨41, M, rfl, .inr rfl⟩
theorem b6b {L : List UInt8} {a : Nat} {W R : List UInt8} (h : L.drop a = W ++ R) (hW : ∀ x ∈ W, yO x = false) (hR : b3j R) : wd yO L a = W := by
  unfold wd
  rw [h, List.takeWhile_append_of_pos (fun x hx => by rw [hW x hx]; rfl)]
  rcases hR with rfl | ⟨y, M, rfl, rfl | rfl⟩
  · simp
  · rw [List.takeWhile_cons_of_neg (by decide), List.append_nil]
  · rw [List.takeWhile_cons_of_neg (by decide), List.append_nil]
theorem a6d {L : List UInt8} {a : Nat} {W R : List UInt8} (h : L.drop a = W ++ R) : L.drop (a + W.length) = R := by
  rw [← List.drop_drop, h, List.drop_left]
theorem b8d {L : List UInt8} {a : Nat} {W R : List UInt8} (h : L.drop a = W ++ R) (h0 : W ≠ []) : a + W.length ≤ L.length := by
  have := congrArg List.length h
  rw [List.length_drop, List.length_append] at this
  have : W.length ≠ 0 := fun e => h0 (List.length_eq_zero_iff.mp e)
  omega
theorem a5u {L : List UInt8} {a : Nat} {y : UInt8} {M : List UInt8} (h : L.drop a = y :: M) : (∀ x : Int, isB L a x = decide ((y.toNat : Int) = x)) ∧ a < L.length ∧ L.drop (a + 1) = M := by
  have hlt : a < L.length := by
    have := congrArg List.length h
    rw [List.length_drop, List.length_cons] at this
    omega
  rw [a0z L a hlt] at h
  obtain ⟨h1, h2⟩ := List.cons.inj h
  refine ⟨fun x => ?_, hlt, h2⟩
  unfold isB
  rw [h1]
  simp [hlt]
theorem a6g {d : Int} (h0 : 0 ≤ d) (h1 : d < 10) : dig (d8 d) = true ∧ dv (d8 d) = d ∧ yO (d8 d) = false ∧ d8 d ≠ 58 ∧ (1 ≤ d → d8 d ≠ 48) := by
  have : d = 0 ∨ d = 1 ∨ d = 2 ∨ d = 3 ∨ d = 4 ∨ d = 5 ∨ d = 6 ∨ d = 7 ∨ d = 8 ∨ d = 9 := by omega
  rcases this with rfl | rfl | rfl | rfl | rfl | rfl | rfl | rfl | rfl | rfl <;> decide
theorem b1x {n : Int} (h0 : 0 ≤ n) (h1 : n ≤ 999) : ∀ x ∈ wH n, ∃ d : Int, (0 ≤ d ∧ d < 10) ∧ x = d8 d := by
  intro x hx
  unfold wH at hx
  split at hx
  · simp only [List.mem_singleton] at hx; exact ⟨n, oM, hx⟩
  · split at hx
    · simp only [List.mem_cons, List.not_mem_nil, or_false] at hx
      rcases hx with rfl | rfl
      · exact ⟨n / 10, oM, rfl⟩
      · exact ⟨n % 10, oM, rfl⟩
    · simp only [List.mem_cons, List.not_mem_nil, or_false] at hx
      rcases hx with rfl | rfl | rfl
      · exact ⟨n / 100, oM, rfl⟩
      · exact ⟨n / 10 % 10, oM, rfl⟩
      · exact ⟨n % 10, oM, rfl⟩
theorem a1z {n : Int} (h0 : 0 ≤ n) (h1 : n ≤ 999) : ∀ x ∈ wH n, yO x = false := fun x hx => by
  obtain ⟨d, hd, rfl⟩ := b1x h0 h1 x hx
  exact (a6g hd.1 hd.2).2.2.1
theorem c6n {n : Int} (h0 : 0 ≤ n) (h1 : n ≤ 999) : ∀ x ∈ wH n, (x != 58) = true := fun x hx => by
  obtain ⟨d, hd, rfl⟩ := b1x h0 h1 x hx
  simpa using (a6g hd.1 hd.2).2.2.2.1
theorem c6m {n : Int} (h0 : 0 ≤ n) (h1 : n ≤ 999) : a4d 0 (wH n) = n := by
  unfold wH a4d
  split
  · simp only [List.foldl_cons, List.foldl_nil]
    rw [(a6g h0 oM).2.1]; omega
  · split
    · simp only [List.foldl_cons, List.foldl_nil]
      rw [(a6g (d := n / 10) oM oM).2.1, (a6g (d := n % 10) oM oM).2.1]; omega
    · simp only [List.foldl_cons, List.foldl_nil]
      rw [(a6g (d := n / 100) oM oM).2.1, (a6g (d := n / 10 % 10) oM oM).2.1, (a6g (d := n % 10) oM oM).2.1]; omega
theorem a8q {n : Int} (h0 : 0 ≤ n) (h1 : n ≤ 999) : a0b (wH n) = some n := by
  have hl := vE n
  have hz : ¬ (1 < (wH n).length ∧ (wH n).headD 0 = 48) := by
    rintro ⟨h2, h3⟩
    unfold wH at h2 h3
    split at h2
    · simp at h2
    · rename_i h10
      rw [if_neg h10] at h3
      split at h3
      · exact (a6g (d := n / 10) oM oM).2.2.2.2 oM h3
      · exact (a6g (d := n / 100) oM oM).2.2.2.2 oM h3
  have hd : (wH n).all dig = true := List.all_eq_true.mpr (fun x hx => by obtain ⟨d, hd, rfl⟩ := b1x h0 h1 x hx; exact (a6g hd.1 hd.2).1)
  unfold a0b
  rw [if_pos ⟨⟨oM, oM⟩, hd, hz⟩, c6m h0 h1]
theorem b1q (sg : UInt8) {x y : Int} (hx : 0 ≤ x ∧ x ≤ 999) (hy : 0 ≤ y ∧ y ≤ 999) : wV (sg :: (wH x ++ 58 :: wH y)) (sg.toNat : Int) = some (x, y) := by
  unfold wV
  rw [if_pos ⟨by simp, rfl⟩]
  have e : b0q (sg :: (wH x ++ 58 :: wH y)) 1 = 1 + (wH x).length := by
    unfold b0q
    rw [List.drop_succ_cons, List.drop_zero, List.takeWhile_append_of_pos (c6n hx.1 hx.2), List.takeWhile_cons_of_neg (by decide), List.append_nil]
  rw [e]
  unfold a0j
  rw [if_pos (by simp only [List.length_cons, List.length_append]; omega), List.drop_succ_cons, List.drop_zero, show 1 + (wH x).length - 1 = (wH x).length by omega, List.take_left, a8q hx.1 hx.2,
    show 1 + (wH x).length + 1 = ((wH x).length + 1) + 1 by omega, List.drop_succ_cons, ← List.drop_drop, List.drop_left, List.drop_succ_cons, List.drop_zero, a8q hy.1 hy.2]
theorem b9i (sg : UInt8) (M : List UInt8) (x : Int) (h : (sg.toNat : Int) ≠ x) : wV (sg :: M) x = none := by
  unfold wV
  rw [if_neg (fun hc => h hc.2)]
theorem a8h {L : List UInt8} {sg x y : Int} (hL : L.length ≤ 4000) (h : wV L sg = some (x, y)) : Ev (fun k => sE k (mkB L) sg) (x, y, true) := by
  obtain ⟨a, b, e, h2⟩ := b7d L hL sg
  obtain ⟨rfl, rfl⟩ := h2 x y h
  rw [h] at e
  exact e
theorem a5p {L : List UInt8} {sg : Int} (hL : L.length ≤ 4000) (h : wV L sg = none) : ∃ x y, Ev (fun k => sE k (mkB L) sg) (x, y, false) := by
  obtain ⟨a, b, e, h2⟩ := b7d L hL sg
  rw [h] at e
  exact ⟨a, b, e⟩
def opL (op : Int) : List UInt8 := if op = 2 then [110, 111, 116] else if op = 17 then [115, 108, 105, 99, 101] else if op = 18 then [105, 102] else if op = 19 then [97, 108, 108] else if op = 20 then [115, 111, 109, 101] else rA.getD (op - 3).toNat []
def tlL (op W K B : Int) : List UInt8 := if op = 17 then 32 :: (wH K ++ 32 :: wH W) else if op = 19 ∨ op = 20 then 32 :: 118 :: (wH K ++ 58 :: wH B) else []
theorem b2w (op W K B : Int) : hdL op W K B = opL op ++ tlL op W K B := by
  unfold hdL opL tlL
  by_cases h2 : op = 2
  · subst h2; rfl
  by_cases h17 : op = 17
  · subst h17; simp
  by_cases h18 : op = 18
  · subst h18; rfl
  by_cases h19 : op = 19
  · subst h19; simp
  by_cases h20 : op = 20
  · subst h20; simp
  simp [h2, h17, h18, h19, h20]
theorem d1x {op : Int} (h0 : 2 ≤ op) (h1 : op ≤ 20) : Ev (fun k => vQ k (mkB (opL op))) (op, true) := by
  unfold vQ
  rw [qQ]
  have ne : ∀ V ∈ ([[110, 111, 116], [115, 108, 105, 99, 101], [105, 102], [97, 108, 108], [115, 111, 109, 101]] : List (List UInt8)), ∀ i, i < 14 → rA.getD i [] ≠ V := by decide
  by_cases h2 : op = 2
  · subst h2; exact kD rfl kQ
  by_cases h17 : op = 17
  · subst h17; exact kH (by decide) (kD rfl kQ)
  by_cases h18 : op = 18
  · subst h18; exact kH (by decide) (kH (by decide) (kD rfl kQ))
  by_cases h19 : op = 19
  · subst h19; exact kH (by decide) (kH (by decide) (kH (by decide) (kD rfl kQ)))
  by_cases h20 : op = 20
  · subst h20; exact kH (by decide) (kH (by decide) (kH (by decide) (kH (by decide) (kD rfl kQ))))
  have e : opL op = rA.getD (op - 3).toNat [] := by unfold opL; rw [if_neg h2, if_neg h17, if_neg h18, if_neg h19, if_neg h20]
  rw [e]
  have hi : (op - 3).toNat < 14 := by omega
  refine kH (ne _ (by simp) _ hi) (kH (ne _ (by simp) _ hi) (kH (ne _ (by simp) _ hi) (kH (ne _ (by simp) _ hi) (kH (ne _ (by simp) _ hi) ?_))))
  have := b7k (op - 3).toNat hi (op - 3).toNat 0 oM
  rw [show (((op - 3).toNat : Nat) : Int) + 3 = op by omega] at this
  exact this
theorem c2o {op : Int} : ∀ x ∈ opL op, yO x = false := by
  have key : ∀ M : List UInt8, (M.all fun x => !yO x) = true → ∀ x ∈ M, yO x = false := fun M h x hx => by simpa using List.all_eq_true.mp h x hx
  unfold opL
  split
  · exact key _ (by decide)
  split
  · exact key _ (by decide)
  split
  · exact key _ (by decide)
  split
  · exact key _ (by decide)
  split
  · exact key _ (by decide)
  by_cases h : (op - 3).toNat < 14
  · generalize (op - 3).toNat = i at h
    have : ∀ i, i < 14 → ((rA.getD i []).all fun x => !yO x) = true := by decide
    exact key _ (this i h)
  · rw [List.getD_eq_getElem?_getD, List.getElem?_eq_none (by simp [rA]; omega)]; intro x hx; cases hx
theorem d1w {op : Int} (h0 : 2 ≤ op) (h1 : op ≤ 20) : opL op ≠ [] := by
  unfold opL
  split
  · decide
  split
  · decide
  split
  · decide
  split
  · decide
  split
  · decide
  have : ∀ i, i < 14 → rA.getD i [] ≠ [] := by decide
  exact this _ oM
theorem b9o {L : List UInt8} (hL : L.length ≤ 4000) (l : List S31) {op W K A B C : Int} (hn : NumOk op W K A B C) {a : Nat} (ha : a ≤ L.length) {R : List UInt8} (h : L.drop a = tlL op W K B ++ R) (hR : b3j R) :
    Ev (fun k => yR k (mkB L) (a : Int) l 0 0 ⟨op, 0, 0, 0, 0, 0⟩) (true, ((a + (tlL op W K B).length : Nat) : Int), ⟨op, if op = 17 then W else 0, if op = 17 ∨ op = 19 ∨ op = 20 then K else 0, 0, if op = 19 ∨ op = 20 then B else 0, 0⟩) := by
  have hW := hn.w0; have hW1 := hn.w1
  unfold yR
  simp only []
  unfold tlL at h ⊢
  by_cases o17 : op = 17
  · have hK := hn.k0 oM
    rw [if_pos o17] at h ⊢
    rw [if_pos o17, if_pos (.inl o17), if_neg oM]
    rw [List.cons_append, List.append_assoc, List.cons_append] at h
    obtain ⟨b1, l1, d1⟩ := a5u h
    have w1 := a3s L hL l 0 0 (a + 1) oM
    rw [b6b d1 (a1z hK.1 oM) (a2z _)] at w1
    have d2 := a6d d1
    obtain ⟨b2, l2, d3⟩ := a5u d2
    have w2 := a3s L hL l 0 0 (a + 1 + (wH K).length + 1) oM
    rw [b6b d3 (a1z oM oM) hR] at w2
    have g1 := a0y L hL a ha l 0 0 32; have g2 := a0y L hL (a + 1 + (wH K).length) oM l 0 0 32
    rw [b1, decide_eq_true (by decide), if_pos rfl] at g1
    rw [b2, decide_eq_true (by decide), if_pos rfl] at g2
    have n1 := c6z (wH K) (by have := vE K; omega); have n2 := c6z (wH W) (by have := vE W; omega)
    rw [a8q hK.1 oM] at n1
    rw [a8q oM oM] at n2
    refine kD o17 (kU g1 (kD rfl (kF w1 (kF n1 (kD rfl (kU g2 (kD rfl (kF w2 (kF n2 (uN ?_))))))))))
    simp only [List.length_cons, List.length_append]
    rw [show a + 1 + (wH K).length + 1 + (wH W).length = a + ((wH K).length + ((wH W).length + 1) + 1) by omega]
  by_cases oq : op = 19 ∨ op = 20
  · have hK := hn.k0 oM; have hB := hn.b0 oq
    rw [if_neg o17, if_pos oq] at h ⊢
    rw [if_neg o17, if_pos (.inr oq), if_pos oq]
    rw [List.cons_append] at h
    obtain ⟨b1, l1, d1⟩ := a5u h
    have w1 := a3s L hL l 0 0 (a + 1) oM
    rw [b6b d1 (fun x hx => by
      rcases List.mem_cons.mp hx with rfl | hx
      · decide
      · rcases List.mem_append.mp hx with hx | hx
        · exact a1z hK.1 oM x hx
        · rcases List.mem_cons.mp hx with rfl | hx
          · decide
          · exact a1z hB.1 oM x hx) hR] at w1
    have g1 := a0y L hL a ha l 0 0 32
    rw [b1, decide_eq_true (by decide), if_pos rfl] at g1
    have n1 := a8h (L := 118 :: (wH K ++ 58 :: wH B)) (by have := vE K; have := vE B; simp only [List.length_cons, List.length_append]; omega) (b1q 118 ⟨hK.1, oM⟩ ⟨hB.1, oM⟩)
    refine kH o17 (kD oq (kU g1 (kD rfl (kF w1 (kF n1 (uN ?_))))))
    simp only [List.length_cons, List.length_append]
    rw [show a + 1 + ((wH K).length + ((wH B).length + 1) + 1) = a + ((wH K).length + ((wH B).length + 1) + 1 + 1) by omega]
  · rw [if_neg o17, if_neg oq, if_neg o17, if_neg oM, if_neg oq]
    exact kH o17 (kH oq (uN (by simp)))
theorem b3m (n : S31) : b3n n n = true := by unfold b3n; simp
theorem b4d (l : List S31) (n : S31) (m : Nat) : ∀ i : Nat, xY l n m i = none → ∀ j, i ≤ j → j < i + m → kA l (j : Int) ≠ n := by
  induction m with
  | zero => intro i _ j h1 h2; omega
  | succ m ih =>
    intro i h j h1 h2
    unfold xY at h
    split at h
    · cases h
    · rename_i hs
      by_cases e : j = i
      · subst e; intro e; rw [e] at hs; exact hs (b3m n)
      · exact ih (i + 1) h j oM oM
theorem d0c (l m : List S31) (hP : yQ l) (n : Nat) : ∀ i : Nat, i < l.length → tr (l ++ m) n i = tr l n i := by
  induction n with
  | zero => intro i _; rfl
  | succ n ih =>
    intro i hi
    have e := a5m l m (i : Int) oM oM
    unfold tr pl
    rw [e]
    congr 1
    refine List.map_congr_left (fun p hp => ?_)
    have := hP i hi p hp
    exact ih p.toNat oM
theorem c6t {l m : List S31} (hP : yQ l) (i : Nat) (hi : i < l.length) : T (l ++ m) i = T l i := d0c l m hP (i + 1) i hi
theorem b2u (l : List S31) (n : S31) : kA (l ++ [n]) ((l.length : Nat) : Int) = n := by unfold kA; simp
theorem a5k {l : List S31} {op W K A B C : Int} (h : sM l op W K A B C = true) : ∀ p ∈ kV op A B C, 0 ≤ p ∧ p < (l.length : Int) := by
  intro p hp
  unfold sM at h
  simp only [Bool.and_eq_true] at h
  have := rP.mp (List.all_eq_true.mp h.1.2 p hp)
  omega
theorem b6z {t : List S31} {D : Nat → Prop} {l : List S31} (hR : Rb t D l) (ht : t.length ≤ 80) (n : S31) (i : Nat) (hi : i < t.length) (hDi : D i) (hr : sM l n.f0 n.f1 n.f2 n.f3 n.f4 n.f5 = true)
    (hT : mkT n.f0 n.f1 n.f2 n.f4 ((kV n.f0 n.f3 n.f4 n.f5).map fun p => T l p.toNat) = T t i) (frm : Int) :
    ∃ (p : Nat) (l' : List S31), a1j l 0 0 n frm = (((p : Int), true), l', 0, 0) ∧ Rb t D l' ∧ (∃ m, l' = l ++ m) ∧ p < l'.length ∧ T l' p = T t i ∧ (l' = l ∨ l'.length = p + 1) ∧ kA l' (p : Int) = n := by
  unfold a1j
  rw [if_pos hr]
  cases hf : xY l n l.length 0 with
  | some p =>
    obtain ⟨_, h1, h2⟩ := a7m l n _ _ _ hf
    rw [Nat.zero_add] at h1
    refine ⟨p, l, rfl, hR, ⟨[], by simp⟩, h1, ?_, .inl rfl, h2⟩
    rw [c6s (rS hR.ok) p h1]
    unfold pl
    rw [h2]
    exact hT
  | none =>
    have hno := b4d l n _ _ hf
    have hT' : T (l ++ [n]) l.length = T t i := by
      have hok := a3g hR.ok n hr
      rw [c6s (rS hok) l.length (by simp)]
      unfold pl
      rw [b2u, ← hT]
      congr 1
      refine List.map_congr_left (fun p hp => ?_)
      have := a5k hr p hp
      exact c6t (rS hR.ok) p.toNat oM
    have hR' : Rb t D (l ++ [n]) := by
      refine ⟨a3g hR.ok n hr, ?_, ?_⟩
      · intro a b ha hb e
        simp only [List.length_append, List.length_cons, List.length_nil] at ha hb
        by_cases ha1 : a < l.length
        · by_cases hb1 : b < l.length
          · rw [a5m l [n] _ oM oM, a5m l [n] _ oM oM] at e
            exact hR.dup a b ha1 hb1 e
          · obtain rfl : b = l.length := by omega
            rw [a5m l [n] _ oM oM, b2u] at e
            exact absurd e (hno a oM oM)
        · obtain rfl : a = l.length := by omega
          by_cases hb1 : b < l.length
          · rw [a5m l [n] (b : Int) oM oM, b2u] at e
            exact absurd e.symm (hno b oM oM)
          · omega
      · intro q hq
        simp only [List.length_append, List.length_cons, List.length_nil] at hq
        by_cases hq1 : q < l.length
        · rw [c6t (rS hR.ok) q hq1]; exact hR.from_ q hq1
        · obtain rfl : q = l.length := by omega
          exact ⟨i, hi, hDi, hT'⟩
    have := hR'.len
    rw [List.length_append] at this
    simp only [List.length_cons, List.length_nil] at this
    refine ⟨l.length, l ++ [n], ?_, hR', ⟨[n], rfl⟩, by simp, hT', .inr (by simp), b2u l n⟩
    show (if l.length = 80 then _ else _) = _
    rw [if_neg oM]
theorem d3n (op W K B B' u v x : Int) (h0 : 0 ≤ op) (h20 : op ≤ 20) (h : op = 19 ∨ op = 20 → B = B') : pM op W K B u v x = pM op W K B' u v x := by
  by_cases hq : op = 19 ∨ op = 20
  · rw [h hq]
  · unfold pM
    by_cases o0 : op = 0
    · rw [if_pos o0, if_pos o0]
    rw [if_neg o0, if_neg o0]
    by_cases o1 : op = 1
    · rw [if_pos o1, if_pos o1]
    rw [if_neg o1, if_neg o1]
    by_cases o2 : op = 2
    · rw [if_pos o2, if_pos o2]
    rw [if_neg o2, if_neg o2]
    by_cases o3 : 3 ≤ op ∧ op ≤ 12
    · rw [if_pos o3, if_pos o3]
    rw [if_neg o3, if_neg o3]
    by_cases o4 : 13 ≤ op ∧ op ≤ 15
    · rw [if_pos o4, if_pos o4]
    rw [if_neg o4, if_neg o4]
    by_cases o5 : op = 16
    · rw [if_pos o5, if_pos o5]
    rw [if_neg o5, if_neg o5]
    by_cases o6 : op = 17
    · rw [if_pos o6, if_pos o6]
    rw [if_neg o6, if_neg o6, if_pos oM, if_pos oM]
theorem xF {op A B C : Int} (h0 : 0 ≤ op) (h1 : op ≤ 20) : ((op = 0 ∨ op = 1) ∧ kV op A B C = []) ∨ ((op = 2 ∨ op = 17 ∨ op = 19 ∨ op = 20) ∧ kV op A B C = [A]) ∨ ((3 ≤ op ∧ op ≤ 16) ∧ kV op A B C = [A, B]) ∨ (op = 18 ∧ kV op A B C = [A, B, C]) := by
  unfold kV
  by_cases o1 : op = 2 ∨ op = 17 ∨ op = 19 ∨ op = 20
  · rw [if_pos o1]; exact .inr (.inl ⟨o1, rfl⟩)
  rw [if_neg o1]
  by_cases o3 : 3 ≤ op ∧ op ≤ 16
  · rw [if_pos o3]; exact .inr (.inr (.inl ⟨o3, rfl⟩))
  rw [if_neg o3]
  by_cases o18 : op = 18
  · rw [if_pos o18]; exact .inr (.inr (.inr ⟨o18, rfl⟩))
  rw [if_neg o18]; exact .inl ⟨oM, rfl⟩
theorem b9u {op A B C A' B' C' : Int} : (kV op A B C).length = (kV op A' B' C').length := by
  unfold kV
  split
  · rfl
  · split
    · rfl
    · split <;> rfl
theorem d0f (ps : List Int) (k : Nat) (h : ps.length ≤ k) : rd ps (k : Int) = 0 := by
  unfold rd
  rw [List.getD_eq_getElem?_getD, List.getElem?_eq_none (by simpa using h)]; rfl
theorem places {op B : Int} (h0 : 2 ≤ op) (h1 : op ≤ 20) (ps : List Int) {A B' C : Int} (hl : ps.length = (kV op A B' C).length) : kV op (rd ps 0) (if op = 19 ∨ op = 20 then B else rd ps 1) (rd ps 2) = ps := by
  rcases xF (op := op) (A := A) (B := B') (C := C) oM h1 with ⟨h, e⟩ | ⟨h, e⟩ | ⟨h, e⟩ | ⟨h, e⟩
  · omega
  · rw [e] at hl
    match ps, hl with
    | [x], _ => unfold kV; rw [if_pos h]; rfl
  · rw [e] at hl
    match ps, hl with
    | [x, y], _ => unfold kV; rw [if_neg oM, if_pos h, if_neg oM]; rfl
  · rw [e] at hl
    match ps, hl with
    | [x, y, z], _ => unfold kV; rw [if_neg oM, if_neg oM, if_pos h, if_neg oM]; rfl
theorem b6s {t : List S31} (hN : rT t) (i : Nat) (hi : i < t.length) {l : List S31} (ps : List Int) (hop : 2 ≤ (kA t (i : Int)).f0) (hlen : ps.length = (pl t i).length)
    (hps : ∀ (k : Nat) (h1 : k < ps.length) (h2 : k < (pl t i).length), 0 ≤ ps[k] ∧ ps[k] < (l.length : Int) ∧ (kA l ps[k]).f1 = (kA t (pl t i)[k]).f1) :
    sM l (kA t (i : Int)).f0 (kA t (i : Int)).f1 (kA t (i : Int)).f2 (rd ps 0) (if (kA t (i : Int)).f0 = 19 ∨ (kA t (i : Int)).f0 = 20 then (kA t (i : Int)).f4 else rd ps 1) (rd ps 2) = true := by
  have hb := hN i hi
  have hP := rS hN i hi
  have ho := b9l hN i hi
  have key : ∀ k : Nat, wv (t.take i) (pl t i) (pl t i).length k = wv l ps ps.length k := by
    intro k
    unfold wv
    rw [hlen]
    by_cases hk : k < (pl t i).length
    · have := hps k oM hk
      have hp := hP _ (List.getElem_mem hk)
      rw [if_pos hk, if_pos hk, rdI _ k hk, rdI _ k oM, b1o t i _ hp.1 hp.2, this.2.2]
    · rw [if_neg hk, if_neg hk]
  have hpl := places (B := (kA t (i : Int)).f4) hop ho.2 ps hlen
  unfold a1v sM at hb
  unfold sM
  rw [hpl]
  have k0 := key 0; have k1 := key 1; have k2 := key 2
  unfold pl at k0 k1 k2
  rw [k0, k1, k2] at hb
  unfold pl at hlen
  simp only [Bool.and_eq_true] at hb ⊢
  obtain ⟨⟨⟨⟨g1, g2⟩, g3⟩, _⟩, g5⟩ := hb
  refine ⟨⟨⟨⟨g1, g2⟩, ?_⟩, ?_⟩, ?_⟩
  · clear g5 k0 k1 k2 key hps hP hi hN
    generalize kA t (i : Int) = n at *
    obtain ⟨op, W, K, A, B, C⟩ := n
    simp only [] at *
    rcases xF (op := op) (A := A) (B := B) (C := C) ho.1 ho.2 with ⟨h, e⟩ | ⟨h, e⟩ | ⟨h, e⟩ | ⟨h, e⟩
    · omega
    · rw [e] at hlen
      match ps, hlen with
      | [x], _ =>
        rw [show rd [x] 0 = x from rfl, show rd [x] 1 = 0 from rfl, show rd [x] 2 = 0 from rfl]
        unfold xM at g3 ⊢
        rw [if_neg oM] at g3 ⊢
        by_cases o17 : op = 17
        · rw [if_pos o17, if_neg oM]; rfl
        rw [if_neg o17] at g3 ⊢
        by_cases oq : op = 19 ∨ op = 20
        · rw [if_pos oq]; rfl
        rw [if_neg oq] at g3 ⊢
        rw [if_pos (show op = 2 by omega)] at g3 ⊢
        simp only [Bool.and_eq_true, beq_iff_eq] at g3
        rw [if_neg oM, g3.1.1]; rfl
    · rw [e] at hlen
      match ps, hlen with
      | [x, y], _ =>
        rw [show rd [x, y] 0 = x from rfl, show rd [x, y] 1 = y from rfl, show rd [x, y] 2 = 0 from rfl]
        unfold xM at g3 ⊢
        rw [if_neg oM, if_neg oM, if_neg oM, if_neg oM, if_pos h] at g3 ⊢
        simp only [Bool.and_eq_true, beq_iff_eq] at g3
        rw [g3.1]; rfl
    · rw [e] at hlen
      match ps, hlen with
      | [x, y, z], _ =>
        unfold xM at g3 ⊢
        rw [if_neg oM, if_neg oM, if_neg oM, if_neg oM, if_neg oM, if_pos h] at g3 ⊢
        exact g3
  · refine List.all_eq_true.mpr (fun p hp => ?_)
    obtain ⟨k, hk, rfl⟩ := List.getElem_of_mem hp
    have := hps k hk (by unfold pl; omega)
    exact rP.mpr oM
  · rw [← d3n _ _ _ (kA t (i : Int)).f4 _ _ _ _ ho.1 ho.2 (fun h => (if_pos h).symm)]
    exact g5
theorem c5b {s : ByteArray} {a c b : Int} {l : List S31} {op W K A B C : Int} (h0 : 2 ≤ op) (hr : sM l op W K A B C = true) (W' : Int) (hW : op = 17 → W' = W) :
    Ev (fun k => pC k s a l c b op W' K A B C) (W, s, a, c, b) := by
  have hp := a5k hr
  unfold sM at hr
  simp only [Bool.and_eq_true] at hr
  obtain ⟨⟨⟨⟨h1, h2⟩, _⟩, _⟩, h5⟩ := hr
  have h1 := rP.mp h1; have h2 := rP.mp h2
  unfold pC
  rw [inI, d2w]
  simp only [Option.bind_some]
  by_cases o17 : op = 17
  · exact kD o17 (uN (by rw [hW o17]))
  by_cases oq : op = 19 ∨ op = 20
  · refine kH o17 (kH (by simp; omega) (kR ?_))
    simp only [pA]
    have hW1 : W = 1 := by
      unfold pM at h5
      rw [if_neg oM, if_neg oM, if_neg oM, if_neg oM, if_neg oM, if_neg oM, if_neg oM, if_neg oM] at h5
      simp only [Bool.and_eq_true, beq_iff_eq] at h5
      exact h5.2
    exact kD (by simpa using oq) (uN (by rw [hW1]))
  have qf : ((op == 19) || (op == 20)) = false := by simp; omega
  by_cases o13 : 13 ≤ op ∧ op ≤ 15
  · refine kH o17 (kD (by simp; exact o13) (kR ?_))
    simp only [pA]
    have hW1 : W = 1 := by
      unfold pM at h5
      rw [if_neg oM, if_neg oM, if_neg oM, if_neg oM, if_pos o13] at h5
      simp only [Bool.and_eq_true, beq_iff_eq] at h5
      exact h5.2
    exact kD trivial (uN (by rw [hW1]))
  refine kH o17 (kH (by simp; omega) (kR ?_))
  simp only [pA]
  rw [qf]
  refine kH (by decide) ?_
  rcases xF (op := op) (A := A) (B := B) (C := C) h2.1 h2.2 with ⟨h, e⟩ | ⟨h, e⟩ | ⟨h, e⟩ | ⟨h, e⟩
  · omega
  · rw [e] at hp h5
    have hA := hp A (by simp)
    rw [show wv l [A] [A].length 0 = (kA l A).f1 from rfl] at h5
    unfold pM at h5
    rw [if_neg oM, if_neg oM, if_pos (show op = 2 by omega)] at h5
    have h5 := beq_iff_eq.mp h5
    exact kH oM (kH oM (kD hA.1 (kD hA.2 (uN (by rw [h5])))))
  · rw [e] at hp h5
    have hA := hp A (by simp); have hB := hp B (by simp)
    rw [show wv l [A, B] [A, B].length 0 = (kA l A).f1 from rfl, show wv l [A, B] [A, B].length 1 = (kA l B).f1 from rfl] at h5
    unfold pM at h5
    rw [if_neg oM, if_neg oM, if_neg oM] at h5
    by_cases o12 : 3 ≤ op ∧ op ≤ 12
    · rw [if_pos o12] at h5
      simp only [Bool.and_eq_true, beq_iff_eq] at h5
      exact kH oM (kH oM (kD hA.1 (kD hA.2 (uN (by rw [h5.1])))))
    · rw [if_neg o12, if_neg o13, if_pos (show op = 16 by omega)] at h5
      have h5 := beq_iff_eq.mp h5
      exact kD oM (kD hA.1 (kD hA.2 (kD hB.1 (kD hB.2 (uN (by rw [h5]))))))
  · rw [e] at hp h5
    have hB := hp B (by simp)
    rw [show wv l [A, B, C] [A, B, C].length 1 = (kA l B).f1 from rfl] at h5
    unfold pM at h5
    rw [if_neg oM, if_neg oM, if_neg oM, if_neg oM, if_neg oM, if_neg oM, if_neg oM, if_pos h] at h5
    simp only [Bool.and_eq_true, beq_iff_eq] at h5
    exact kH oM (kD h (kD hB.1 (kD hB.2 (uN (by rw [h5.1.2])))))
def c7d (VI : Nat → RdV) (t : List S31) (D : Nat → Prop) (i a : Nat) (l : List S31) : Prop :=
  ∃ (p : Nat) (l' : List S31), Ev (fun k => VI k (a : Int) l 0 0) (((p : Int), true), ((a + (tx (T t i)).length : Nat) : Int), l', 0, 0) ∧ Rb t D l' ∧ (∃ m, l' = l ++ m) ∧ p < l'.length ∧ T l' p = T t i ∧ (l'.length ≤ l.length ∨ l'.length ≤ p + 1)
theorem a7e (t : List S31) (qs : List Int) {R : List UInt8} (hR : b3j R) : b3j ((qs.flatMap fun q => 32 :: tx (T t q.toNat)) ++ R) := by
  cases qs with
  | nil => exact hR
  | cons q qs => rw [List.flatMap_cons, List.cons_append, List.cons_append]; exact a2z _
theorem b9w {t : List S31} {D : Nat → Prop} {L : List UInt8} (hL : L.length ≤ 4000) (VI : Nat → RdV) (frm : Int) (qs : List Int) :
    (∀ q ∈ qs, tx (T t q.toNat) ≠ [] ∧ ∀ (a : Nat) (l : List S31) (R : List UInt8), L.drop a = tx (T t q.toNat) ++ R → b3j R → Rb t D l → c7d VI t D q.toNat a l) →
    ∀ (a : Nat) (l : List S31) (acc : List Int) (R : List UInt8), a ≤ L.length → L.drop a = (qs.flatMap fun q => 32 :: tx (T t q.toNat)) ++ R → b3j R → Rb t D l →
      ∃ (ps : List Int) (l' : List S31), Ev (fun k => a3x (VI k) (mkB L) frm qs.length (a : Int) l 0 0 acc) (true, acc ++ ps, ((a + (qs.flatMap fun q => 32 :: tx (T t q.toNat)).length : Nat) : Int), l', 0, 0) ∧ ps.length = qs.length ∧ Rb t D l' ∧ (∃ m, l' = l ++ m) ∧
        (∀ (k : Nat) (h1 : k < ps.length) (h2 : k < qs.length), 0 ≤ ps[k] ∧ ps[k] < (l'.length : Int) ∧ T l' ps[k].toNat = T t qs[k].toNat) ∧ (l'.length ≤ l.length ∨ ∃ p ∈ ps, (l'.length : Int) ≤ p + 1) := by
  induction qs with
  | nil =>
    intro _ a l acc R ha h hR hl
    refine ⟨[], l, ?_, rfl, hl, ⟨[], by simp⟩, fun k h1 => absurd h1 (by simp), .inl (Nat.le_refl _)⟩
    simp only [a3x, List.length_nil, List.flatMap_nil, List.append_nil, Nat.add_zero]
    exact kQ
  | cons q qs ih =>
    intro hV a l acc R ha h hR hl
    rw [List.flatMap_cons, List.cons_append, List.cons_append, List.append_assoc] at h
    obtain ⟨b1, l1, d1⟩ := a5u h
    have g1 := a0y L hL a ha l 0 0 32
    rw [b1, decide_eq_true (by decide), if_pos rfl] at g1
    obtain ⟨hne, hq⟩ := hV q List.mem_cons_self
    obtain ⟨p, l1, e1, hl1, ⟨m1, hm1⟩, hp1, hT1, ho1⟩ := hq (a + 1) l _ d1 (a7e t qs hR) hl
    have hle := b8d d1 hne
    obtain ⟨ps, l2, e2, hlen, hl2, ⟨m2, hm2⟩, hps, ho2⟩ := ih (fun q hq => hV q (List.mem_cons_of_mem _ hq)) (a + 1 + (tx (T t q.toNat)).length) l1 (acc ++ [(p : Int)]) R hle (a6d d1) hR hl1
    refine ⟨(p : Int) :: ps, l2, ?_, by simp [hlen], hl2, ⟨m1 ++ m2, by rw [hm2, hm1, List.append_assoc]⟩, ?_, ?_⟩
    · simp only [a3x, List.length_cons]
      rw [List.append_assoc] at e2
      refine kU g1 (kD rfl (kF e1 (kD rfl ?_)))
      rw [List.flatMap_cons, List.length_append, List.length_cons, show a + ((tx (T t q.toNat)).length + 1 + (qs.flatMap fun q => 32 :: tx (T t q.toNat)).length) = a + 1 + (tx (T t q.toNat)).length + (qs.flatMap fun q => 32 :: tx (T t q.toNat)).length by omega]
      exact e2
    · intro k h1 h2
      have hlen2 : l1.length ≤ l2.length := by rw [hm2]; simp
      cases k with
      | zero =>
        refine ⟨by simp, by simp only [List.getElem_cons_zero]; omega, ?_⟩
        simp only [List.getElem_cons_zero, Int.toNat_natCast]
        rw [hm2, c6t (rS hl1.ok) p hp1, hT1]
      | succ k => exact hps k (by simpa using h1) (by simpa using h2)
    · rcases ho2 with ho2 | ⟨r, hr, ho2⟩
      · rcases ho1 with ho1 | ho1
        · exact .inl oM
        · exact .inr ⟨(p : Int), List.mem_cons_self, oM⟩
      · exact .inr ⟨r, List.mem_cons_of_mem _ hr, ho2⟩
theorem b9s (op W K B B' : Int) (ts : List Tm) (h : ts.length ≠ 1) : mkT op W K B ts = mkT op W K B' ts := by
  match ts with
  | [] => rfl
  | [_] => exact absurd rfl h
  | [_, _] => rfl
  | _ :: _ :: _ :: _ => rfl
theorem c2p {op K A B C : Int} (h0 : 2 ≤ op) (h1 : op ≤ 20) (h : xM op K A B C = true) : (if op = 17 ∨ op = 19 ∨ op = 20 then K else 0) = K := by
  by_cases hq : op = 17 ∨ op = 19 ∨ op = 20
  · exact if_pos hq
  rw [if_neg hq]
  unfold xM at h
  rw [if_neg oM, if_neg oM, if_neg oM] at h
  by_cases o2 : op = 2
  · rw [if_pos o2] at h
    simp only [Bool.and_eq_true, beq_iff_eq] at h
    exact h.1.1.symm
  rw [if_neg o2] at h
  by_cases o3 : 3 ≤ op ∧ op ≤ 16
  · rw [if_pos o3] at h
    simp only [Bool.and_eq_true, beq_iff_eq] at h
    exact h.1.symm
  rw [if_neg o3, if_pos oM] at h
  exact (beq_iff_eq.mp h).symm
theorem b9b {op W K B : Int} {ts : List (List UInt8)} (h0 : 2 ≤ op) (h : txm op W K B ts ≠ []) : txm op W K B ts = whT op W K B ts ∧ ∀ x ∈ ts, x ≠ [] := by
  unfold txm at h ⊢
  rw [if_neg oM] at h ⊢
  split at h
  · rename_i hc
    exact ⟨if_pos hc, fun x hx => by simpa using List.all_eq_true.mp hc.1 x hx⟩
  · exact absurd rfl h
theorem b3z {t : List S31} (hN : rT t) (ht : t.length ≤ 80) {D : Nat → Prop} {L : List UInt8} (hL : L.length ≤ 4000) (i : Nat) (hi : i < t.length) (hDi : D i) (hne : tx (T t i) ≠ []) (hop : 2 ≤ (kA t (i : Int)).f0) (VI : Nat → RdV)
    (hV : ∀ q ∈ pl t i, tx (T t q.toNat) ≠ [] → ∀ (a : Nat) (l : List S31) (R : List UInt8), L.drop a = tx (T t q.toNat) ++ R → b3j R → Rb t D l → c7d VI t D q.toNat a l)
    (a : Nat) (l : List S31) (R : List UInt8) (h : L.drop a = tx (T t i) ++ R) (hR : b3j R) (hl : Rb t D l) :
    isB L a 40 = true ∧ c7d (fun k => fun x m _ _ => a5v (k + 1) (VI k) (mkB L) (x + 1) m 0 0 x) t D i a l := by
  have ho := b9l hN i hi
  have hn := a7l hN i hi
  have hu := b1k hN i hi
  have e := c0n hN i hi
  rw [e] at hne
  obtain ⟨e1, hall⟩ := b9b hop hne
  have e2 := e.trans e1
  unfold whT at e2
  rw [List.flatMap_map, b2w] at e2
  have hlen := congrArg List.length e2
  rw [e2] at h
  simp only [List.cons_append, List.append_assoc, List.nil_append] at h
  obtain ⟨b0, l0, d0⟩ := a5u h
  refine ⟨by rw [b0]; decide, ?_⟩
  have hP0 : pl t i ≠ [] := by
    rcases xF (op := (kA t (i : Int)).f0) (A := (kA t (i : Int)).f3) (B := (kA t (i : Int)).f4) (C := (kA t (i : Int)).f5) ho.1 ho.2 with ⟨h, e⟩ | ⟨h, e⟩ | ⟨h, e⟩ | ⟨h, e⟩
    · omega
    · unfold pl; rw [e]; simp
    · unfold pl; rw [e]; simp
    · unfold pl; rw [e]; simp
  have s1 : ∀ M, b3j ((tlL (kA t (i : Int)).f0 (kA t (i : Int)).f1 (kA t (i : Int)).f2 (kA t (i : Int)).f4) ++ (((pl t i).flatMap fun q => 32 :: tx (T t q.toNat)) ++ M)) := by
    intro M
    unfold tlL
    split
    · exact a2z _
    · split
      · exact a2z _
      · rw [List.nil_append]
        cases hp : pl t i with
        | nil => exact absurd hp hP0
        | cons q qs => rw [List.flatMap_cons, List.cons_append, List.cons_append]; exact a2z _
  have w1 := pR (a3s L hL l 0 0 (a + 1) oM)
  rw [b6b d0 c2o (s1 _)] at w1
  have le1 := b8d d0 (d1w hop ho.2)
  have d1 := a6d d0
  have n1 := pR (b9o hL l hn le1 d1 (a7e t (pl t i) (b6n R)))
  have le2 : a + 1 + (opL (kA t (i : Int)).f0).length + (tlL (kA t (i : Int)).f0 (kA t (i : Int)).f1 (kA t (i : Int)).f2 (kA t (i : Int)).f4).length ≤ L.length := by
    have := congrArg List.length d1
    rw [List.length_drop, List.length_append] at this
    omega
  have d2 := a6d d1
  obtain ⟨ps, l', f1, hps, hl', ⟨m', hm'⟩, hpp, hor⟩ := b9w (D := D) hL VI (a : Int) (pl t i) (fun q hq => ⟨hall _ (List.mem_map.mpr ⟨q, hq, rfl⟩), hV q hq (hall _ (List.mem_map.mpr ⟨q, hq, rfl⟩))⟩) _ l [] (41 :: R) le2 d2 (b6n R) hl
  rw [List.nil_append] at f1
  have d3 := a6d d2
  obtain ⟨b3, l3, _⟩ := a5u d3
  have g3 := a0y L hL _ (Nat.le_of_lt l3) l' 0 0 41
  rw [b3, decide_eq_true (by decide), if_pos rfl] at g3
  have o1 := pR (d1x hop ho.2)
  have hr := b6s hN i hi (l := l') ps hop hps (fun k h1 h2 => by
    obtain ⟨p0, p1, p2⟩ := hpp k h1 h2
    have q := rS hN i hi _ (List.getElem_mem h2)
    refine ⟨p0, p1, ?_⟩
    have e1 := d1a (l := l') ps[k].toNat
    have e2 := d1a (l := t) (pl t i)[k].toNat
    rw [Int.toNat_of_nonneg p0] at e1
    rw [Int.toNat_of_nonneg q.1] at e2
    rw [← e1, ← e2, p2])
  have hpl := places (B := (kA t (i : Int)).f4) hop ho.2 ps hps
  have hw := pR (c5b (s := mkB L) (a := ((a + 1 + (opL (kA t (i : Int)).f0).length + (tlL (kA t (i : Int)).f0 (kA t (i : Int)).f1 (kA t (i : Int)).f2 (kA t (i : Int)).f4).length + ((pl t i).flatMap fun q => 32 :: tx (T t q.toNat)).length + 1 : Nat) : Int)) (c := 0) (b := 0) hop hr (if (kA t (i : Int)).f0 = 17 then (kA t (i : Int)).f1 else 0) (fun h => if_pos h))
  have hTs : (ps.map fun p => T l' p.toNat) = (pl t i).map fun p => T t p.toNat := by
    refine List.ext_getElem (by simpa using hps) (fun k h1 h2 => ?_)
    rw [List.getElem_map, List.getElem_map]
    exact (hpp k (by simpa using h1) (by simpa using h2)).2.2
  have hT : mkT (kA t (i : Int)).f0 (kA t (i : Int)).f1 (kA t (i : Int)).f2 (if (kA t (i : Int)).f0 = 19 ∨ (kA t (i : Int)).f0 = 20 then (kA t (i : Int)).f4 else rd ps 1) (ps.map fun p => T l' p.toNat) = T t i := by
    rw [c6s (rS hN) i hi, hTs]
    by_cases hq : (kA t (i : Int)).f0 = 19 ∨ (kA t (i : Int)).f0 = 20
    · rw [if_pos hq]
    rw [if_neg hq]
    by_cases h1 : (pl t i).length = 1
    · rw [show rd ps 1 = 0 from d0f ps 1 oM]
      have hB0 : (kA t (i : Int)).f4 = 0 := by
        unfold xM at hu
        rcases xF (op := (kA t (i : Int)).f0) (A := (kA t (i : Int)).f3) (B := (kA t (i : Int)).f4) (C := (kA t (i : Int)).f5) ho.1 ho.2 with ⟨h, e⟩ | ⟨h, e⟩ | ⟨h, e⟩ | ⟨h, e⟩
        · omega
        · rw [if_neg oM] at hu
          by_cases o17 : (kA t (i : Int)).f0 = 17
          · rw [if_pos o17] at hu
            simp only [Bool.and_eq_true, beq_iff_eq] at hu
            exact hu.1
          · rw [if_neg o17, if_neg hq, if_pos oM] at hu
            simp only [Bool.and_eq_true, beq_iff_eq] at hu
            exact hu.1.2
        · unfold pl at h1; rw [e] at h1; simp at h1
        · unfold pl at h1; rw [e] at h1; simp at h1
      rw [hB0]
    · exact b9s _ _ _ _ _ _ (by rw [List.length_map]; exact h1)
  have hpo := rS hl'.ok
  obtain ⟨p, l2, u1, hl2, ⟨m2, hm2⟩, hp2, hT2, hor2, hnd⟩ := b6z hl' ht ⟨(kA t (i : Int)).f0, (kA t (i : Int)).f1, (kA t (i : Int)).f2, rd ps 0, if (kA t (i : Int)).f0 = 19 ∨ (kA t (i : Int)).f0 = 20 then (kA t (i : Int)).f4 else rd ps 1, rd ps 2⟩ i hi hDi hr (by simp only []; rw [hpl]; exact hT) (a : Int)
  refine ⟨p, l2, ?_, hl2, ⟨m' ++ m2, by rw [hm2, hm', List.append_assoc]⟩, hp2, hT2, ?_⟩
  · dsimp only
    unfold a5v
    rw [show ((a : Int) + 1) = ((a + 1 : Nat) : Int) by omega]
    refine kF w1 (kF o1 (kD rfl (kF n1 (kD rfl (kF (by
      dsimp only
      rw [show (kV (kA t (i : Int)).f0 0 (if (kA t (i : Int)).f0 = 19 ∨ (kA t (i : Int)).f0 = 20 then (kA t (i : Int)).f4 else 0) 0).length = (pl t i).length from b9u]
      exact f1) (kD rfl (kU g3 (kD rfl (kF (by
      dsimp only
      rw [show (if (kA t (i : Int)).f0 = 19 ∨ (kA t (i : Int)).f0 = 20 then (if (kA t (i : Int)).f0 = 19 ∨ (kA t (i : Int)).f0 = 20 then (kA t (i : Int)).f4 else 0) else rd ps 1) = (if (kA t (i : Int)).f0 = 19 ∨ (kA t (i : Int)).f0 = 20 then (kA t (i : Int)).f4 else rd ps 1) by split <;> rfl, c2p hop ho.2 hu]
      exact hw) (uN ?_))))))))))
    dsimp only
    rw [show (if (kA t (i : Int)).f0 = 19 ∨ (kA t (i : Int)).f0 = 20 then (if (kA t (i : Int)).f0 = 19 ∨ (kA t (i : Int)).f0 = 20 then (kA t (i : Int)).f4 else 0) else rd ps 1) = (if (kA t (i : Int)).f0 = 19 ∨ (kA t (i : Int)).f0 = 20 then (kA t (i : Int)).f4 else rd ps 1) by split <;> rfl, c2p hop ho.2 hu]
    unfold a8z
    rw [u1, hlen]
    simp only [List.length_cons, List.length_append, List.length_nil]
    rw [show a + 1 + (opL (kA t (i : Int)).f0).length + (tlL (kA t (i : Int)).f0 (kA t (i : Int)).f1 (kA t (i : Int)).f2 (kA t (i : Int)).f4).length + ((pl t i).flatMap fun q => 32 :: tx (T t q.toNat)).length + 1 = a + ((opL (kA t (i : Int)).f0).length + (tlL (kA t (i : Int)).f0 (kA t (i : Int)).f1 (kA t (i : Int)).f2 (kA t (i : Int)).f4).length + 1 + ((pl t i).flatMap fun q => 32 :: tx (T t q.toNat)).length + (0 + 1)) by omega]
  · rcases hor2 with rfl | h2
    · rcases hor with h3 | ⟨q, hq, h3⟩
      · exact .inl h3
      · have := rS hl2.ok p hp2 q (by unfold pl; rw [hnd]; simp only []; rw [hpl]; exact hq)
        omega
    · exact .inr oM
theorem b7s {t : List S31} (hN : rT t) (ht : t.length ≤ 80) {D : Nat → Prop} {L : List UInt8} (hL : L.length ≤ 4000) (i : Nat) (hi : i < t.length) (hDi : D i) (hop : (kA t (i : Int)).f0 = 0 ∨ (kA t (i : Int)).f0 = 1)
    (a : Nat) (l : List S31) (R : List UInt8) (h : L.drop a = tx (T t i) ++ R) (hR : b3j R) (hl : Rb t D l) :
    isB L a 40 = false ∧ c7d (fun k => fun x m _ _ => a8k (k + 1) (mkB L) x m 0 0 x) t D i a l := by
  have hn := a7l hN i hi
  have hb := hN i hi
  have hTe := c6s (rS hN) i hi
  have e := c0n hN i hi
  have ht1 : tx (T t i) = yW (kA t (i : Int)).f0 (kA t (i : Int)).f1 (kA t (i : Int)).f2 := by
    rw [e]; unfold txm; exact if_pos hop
  have hlen := congrArg List.length ht1
  rw [ht1] at h
  unfold c7d
  rw [hlen]
  unfold pl at hTe
  generalize hx : kA t (i : Int) = x at *
  obtain ⟨op, W, K, A, B, C⟩ := x
  simp only [] at *
  have hW := hn.w0; have hW1 := hn.w1; have hK := hn.k0 oM
  have hp : kV op A B C = [] := by
    rcases xF (op := op) (A := A) (B := B) (C := C) oM oM with ⟨_, e⟩ | ⟨h, _⟩ | ⟨h, _⟩ | ⟨h, _⟩
    · exact e
    · omega
    · omega
    · omega
  have hp0 : kV op 0 0 0 = [] := by
    rcases xF (op := op) (A := 0) (B := 0) (C := 0) oM oM with ⟨_, e⟩ | ⟨h, _⟩ | ⟨h, _⟩ | ⟨h, _⟩
    · exact e
    · omega
    · omega
    · omega
  unfold a1v at hb
  rw [hx] at hb
  simp only [] at hb
  have hu : A = 0 ∧ B = 0 ∧ C = 0 := by
    unfold sM at hb
    simp only [Bool.and_eq_true] at hb
    have := hb.1.1.2
    unfold xM at this
    rw [if_pos hop] at this
    simp only [Bool.and_eq_true, beq_iff_eq] at this
    omega
  obtain ⟨rfl, rfl, rfl⟩ := hu
  have hr : sM l op W K 0 0 0 = true := by
    unfold sM at hb ⊢
    rw [hp0] at hb ⊢
    exact hb
  rw [hp0] at hTe
  obtain ⟨p, l2, u1, hl2, hm2, hp2, hT2, hor2, _⟩ := b6z hl ht ⟨op, W, K, 0, 0, 0⟩ i hi hDi hr (by simp only []; rw [hp0]; exact hTe.symm) (a : Int)
  have hor : l2.length ≤ l.length ∨ l2.length ≤ p + 1 := by
    rcases hor2 with rfl | h2
    · exact .inl (Nat.le_refl _)
    · exact .inr oM
  have fin : ∀ (sg : UInt8) (x y : Int), yW op W K = sg :: (wH x ++ 58 :: wH y) → (0 ≤ x ∧ x ≤ 999) → (0 ≤ y ∧ y ≤ 999) → yO sg = false → (sg.toNat : Int) ≠ 40 → wd yO L a = yW op W K ∧ isB L a 40 = false ∧ a ≤ L.length ∧ (yW op W K).length ≤ 4000 := by
    intro sg x y hL1 hx hy hs h40
    have hw := b6b h (fun z hz => by
      rw [hL1] at hz
      rcases List.mem_cons.mp hz with rfl | hz
      · exact hs
      · rcases List.mem_append.mp hz with hz | hz
        · exact a1z hx.1 hx.2 z hz
        · rcases List.mem_cons.mp hz with rfl | hz
          · decide
          · exact a1z hy.1 hy.2 z hz) hR
    rw [hL1, List.cons_append] at h
    obtain ⟨b0, l0, _⟩ := a5u h
    exact ⟨hw, by rw [b0]; exact decide_eq_false h40, oM, by have := zS op W K; omega⟩
  rcases hop with rfl | rfl
  · have hL1 : yW 0 W K = 35 :: (wH W ++ 58 :: wH K) := by unfold yW; rw [if_pos rfl]; simp
    obtain ⟨f1, f2, f3, f4⟩ := fin 35 W K hL1 ⟨oM, oM⟩ ⟨hK.1, oM⟩ (by decide) (by decide)
    refine ⟨f2, p, l2, ?_, hl2, hm2, hp2, hT2, hor⟩
    have w1 := pR (a3s L hL l 0 0 a f3)
    rw [f1] at w1
    have hpr := b1q 35 (x := W) (y := K) ⟨oM, oM⟩ ⟨hK.1, oM⟩
    rw [← hL1] at hpr
    have n1 := pR (a8h f4 hpr)
    unfold a8k
    exact kF w1 (kF n1 (kD rfl (uN (by unfold a8z; rw [u1]))))
  · have hL1 : yW 1 W K = 118 :: (wH K ++ 58 :: wH W) := by unfold yW; rw [if_neg (by decide)]; simp
    obtain ⟨f1, f2, f3, f4⟩ := fin 118 K W hL1 ⟨hK.1, oM⟩ ⟨oM, oM⟩ (by decide) (by decide)
    refine ⟨f2, p, l2, ?_, hl2, hm2, hp2, hT2, hor⟩
    have w1 := pR (a3s L hL l 0 0 a f3)
    rw [f1] at w1
    have hpr := b1q 118 (x := K) (y := W) ⟨hK.1, oM⟩ ⟨oM, oM⟩
    have hno := b9i 118 (wH K ++ 58 :: wH W) 35 (by decide)
    rw [← hL1] at hpr hno
    have n1 := pR (a8h f4 hpr)
    obtain ⟨x, y, n0⟩ := a5p f4 hno
    have n0 := pR n0
    unfold a8k
    exact kF w1 (kF n0 (kH (by simp) (kF n1 (kD rfl (uN (by unfold a8z; rw [u1]))))))
theorem d3d {t : List S31} (hN : rT t) (ht : t.length ≤ 80) {D : Nat → Prop} (hD : ∀ i < t.length, D i → ∀ p ∈ pl t i, D p.toNat) {L : List UInt8} (hL : L.length ≤ 4000) (i : Nat) : i < t.length → D i → tx (T t i) ≠ [] →
    ∀ (a : Nat) (l : List S31) (R : List UInt8), L.drop a = tx (T t i) ++ R → b3j R → Rb t D l → c7d (fun k => nodeF (mkB L) k) t D i a l := by
  induction i using Nat.strongRecOn with
  | _ i ih =>
    intro hi hDi hne a l R h hR hl
    have ho := b9l hN i hi
    have ha : a ≤ L.length := by
      have := congrArg List.length h
      rw [List.length_drop, List.length_append] at this
      have : (tx (T t i)).length ≠ 0 := fun e => hne (List.length_eq_zero_iff.mp e)
      omega
    have g := a0y L hL a ha l 0 0 40
    by_cases hop : (kA t (i : Int)).f0 = 0 ∨ (kA t (i : Int)).f0 = 1
    · obtain ⟨h40, p, l', e1, h2⟩ := b7s hN ht hL i hi hDi hop a l R h hR hl
      rw [h40] at g
      refine ⟨p, l', kR ?_, h2⟩
      simp only [nodeF, nodeR]
      exact kU g (kH (by simp) e1)
    · obtain ⟨h40, p, l', e1, h2⟩ := b3z hN ht hL i hi hDi hne oM (fun k => nodeF (mkB L) k) (fun q hq hqn a l R h hR hl => by
        have := rS hN i hi q hq
        exact ih q.toNat oM oM (hD i hi hDi q hq) hqn a l R h hR hl) a l R h hR hl
      rw [h40] at g
      refine ⟨p, l', kR ?_, h2⟩
      simp only [nodeF, nodeR]
      exact kU g (kD rfl e1)
theorem c2l (t : List S31) (D : Nat → Prop) : Rb t D [] := ⟨fun i hi => absurd hi (by simp), fun i j hi => absurd hi (by simp), fun q hq => absurd hq (by simp)⟩
theorem b6k {t : List S31} (hN : rT t) (ht : t.length ≤ 80) {D : Nat → Prop} (hD : ∀ i < t.length, D i → ∀ p ∈ pl t i, D p.toNat) (i : Nat) (hi : i < t.length) (hDi : D i) (hne : tx (T t i) ≠ []) (h4 : (tx (T t i)).length ≤ 4000) :
    ∃ u : List S31, Ev (fun k => a1i k (mkB (tx (T t i)))) (u, 0, 0) ∧ Rb t D u ∧ 1 ≤ u.length ∧ T u (u.length - 1) = T t i := by
  obtain ⟨p, u, e1, hu, _, hp, hT, hor⟩ := d3d hN ht hD h4 i hi hDi hne 0 [] [] (by simp) (.inl rfl) (c2l t D)
  have hlen : u.length = p + 1 := by rcases hor with h | h; simp at h; rw [h] at hp; simp at hp; omega
  refine ⟨u, ?_, hu, oM, by rw [hlen, Nat.add_sub_cancel]; exact hT⟩
  unfold a1i
  rw [kP]
  rw [Nat.zero_add] at e1
  exact kH oM (kF e1 (kD rfl (kH (by dsimp only; omega) kQ)))
theorem b6j {t : List S31} (hN : rT t) (ht : t.length ≤ 80) (i : Nat) (hi : i < t.length) (hne : tx (T t i) ≠ []) (h4 : (tx (T t i)).length < 4000) :
    Ev (fun k => a1i k (mkB (tx (T t i) ++ [32]))) ([], 5, ((tx (T t i)).length : Int)) := by
  obtain ⟨p, u, e1, _⟩ := d3d hN ht (D := fun _ => True) (fun _ _ _ _ _ => trivial) (L := tx (T t i) ++ [32]) (by simp; omega) i hi trivial hne 0 [] [32] (by simp) (a2z []) (c2l t _)
  unfold a1i
  rw [kP]
  rw [Nat.zero_add] at e1
  exact kH (by simp; omega) (kF e1 (kD rfl (kD (by dsimp only; rw [List.length_append]; simp only [List.length_cons, List.length_nil]; omega) kQ)))
def c0r (M : List UInt8) : Prop := ∀ x ∈ M, x ≠ 40
theorem vN {A B : List UInt8} (ha : c0r A) (hb : c0r B) : c0r (A ++ B) := fun x hx => by
  rcases List.mem_append.mp hx with h | h
  · exact ha x h
  · exact hb x h
theorem a1f (A B : List UInt8) (i : Nat) (h : i < A.length) : (A ++ B).getD i 0 = A.getD i 0 := by
  rw [List.getD_eq_getElem?_getD, List.getElem?_append_left h, List.getD_eq_getElem?_getD]
theorem a3j (A B : List UInt8) (i : Nat) (h : A.length ≤ i) : (A ++ B).getD i 0 = B.getD (i - A.length) 0 := by
  rw [List.getD_eq_getElem?_getD, List.getElem?_append_right h, List.getD_eq_getElem?_getD]
theorem b0m (B : List UInt8) (i : Nat) (h : i < B.length) : B.getD i 0 ∈ B := by
  rw [List.getD_eq_getElem?_getD, List.getElem?_eq_getElem h]; exact List.getElem_mem h
theorem b0l {A B : List UInt8} (ha : a6o A) (hb : c0r B) : a6o (A ++ B) := by
  intro i hi h
  by_cases hl : i < A.length
  · rw [a1f A B i hl] at h
    rcases ha i hl h with h0 | h0
    · exact .inl h0
    · right
      rw [a1f A B (i - 1) oM]
      exact h0
  · rw [a3j A B i oM] at h
    rw [List.length_append] at hi
    exact absurd h (hb _ (b0m B _ oM))
theorem b7w {A B : List UInt8} (ha : a6o A) (hb : a6o B) : a6o (A ++ 32 :: B) := by
  intro i hi h
  by_cases hl : i < A.length
  · rw [a1f A _ i hl] at h
    rcases ha i hl h with h0 | h0
    · exact .inl h0
    · right
      rw [a1f A _ (i - 1) oM]
      exact h0
  · rw [a3j A _ i oM] at h
    rw [List.length_append, List.length_cons] at hi
    by_cases h0 : i = A.length
    · rw [h0, Nat.sub_self, List.getD_cons_zero] at h
      exact absurd h (by decide)
    · obtain ⟨j, rfl⟩ : ∃ j, i = A.length + 1 + j := ⟨i - A.length - 1, oM⟩
      rw [show A.length + 1 + j - A.length = j + 1 by omega, List.getD_cons_succ] at h
      right
      rw [a3j A _ _ oM]
      rcases hb j oM h with hj | hj
      · subst hj
        rw [show A.length + 1 + 0 - 1 - A.length = 0 by omega]; rfl
      · by_cases hj0 : j = 0
        · subst hj0
          rw [show A.length + 1 + 0 - 1 - A.length = 0 by omega]; rfl
        · rw [show A.length + 1 + j - 1 - A.length = (j - 1) + 1 by omega, List.getD_cons_succ]
          exact hj
theorem a3h {n : Int} (h0 : 0 ≤ n) (h1 : n < 10) : d8 n ≠ 40 := by
  have : n = 0 ∨ n = 1 ∨ n = 2 ∨ n = 3 ∨ n = 4 ∨ n = 5 ∨ n = 6 ∨ n = 7 ∨ n = 8 ∨ n = 9 := by omega
  rcases this with rfl | rfl | rfl | rfl | rfl | rfl | rfl | rfl | rfl | rfl <;> decide
theorem zG {n : Int} (h0 : 0 ≤ n) (h1 : n ≤ 999) : c0r (wH n) := by
  unfold wH
  intro x hx
  split at hx
  · simp only [List.mem_singleton] at hx; subst hx; exact a3h h0 oM
  · split at hx
    · simp only [List.mem_cons, List.not_mem_nil, or_false] at hx
      rcases hx with rfl | rfl
      · exact a3h oM oM
      · exact a3h oM oM
    · simp only [List.mem_cons, List.not_mem_nil, or_false] at hx
      rcases hx with rfl | rfl | rfl
      · exact a3h oM oM
      · exact a3h oM oM
      · exact a3h oM oM
theorem uX (M : List UInt8) (h : M.all (fun x => x != 40) = true) : c0r M := fun x hx => by
  have := List.all_eq_true.mp h x hx
  simpa using this
theorem b3w (i : Nat) : c0r (rA.getD i []) := by
  by_cases h : i < 14
  · have : i = 0 ∨ i = 1 ∨ i = 2 ∨ i = 3 ∨ i = 4 ∨ i = 5 ∨ i = 6 ∨ i = 7 ∨ i = 8 ∨ i = 9 ∨ i = 10 ∨ i = 11 ∨ i = 12 ∨ i = 13 := by omega
    rcases this with rfl | rfl | rfl | rfl | rfl | rfl | rfl | rfl | rfl | rfl | rfl | rfl | rfl | rfl <;> exact uX _ (by decide)
  · rw [List.getD_eq_getElem?_getD, List.getElem?_eq_none (by simp [rA]; omega)]; intro x hx; cases hx
theorem c6a {op W K A B C : Int} (hn : NumOk op W K A B C) : c0r (hdL op W K B) := by
  have hW := zG (n := W) (by have := hn.w0; omega) (by have := hn.w1; omega)
  unfold hdL
  split
  · exact uX _ (by decide)
  · split
    · rename_i h
      have hK := hn.k0 oM
      exact vN (vN (vN (uX _ (by decide)) (zG hK.1 oM)) (uX _ (by decide))) hW
    · split
      · exact uX _ (by decide)
      · split
        · have hK := hn.k0 oM; have hB := hn.b0 oM
          exact vN (vN (vN (uX _ (by decide)) (zG hK.1 oM)) (uX _ (by decide))) (zG hB.1 oM)
        · split
          · have hK := hn.k0 oM; have hB := hn.b0 oM
            exact vN (vN (vN (uX _ (by decide)) (zG hK.1 oM)) (uX _ (by decide))) (zG hB.1 oM)
          · exact b3w _
theorem b0k {M : List UInt8} (h : c0r M) : a6o M := fun i hi e => absurd e (h _ (b0m M i hi))
theorem c0c (ts : List (List UInt8)) (hts : ∀ t ∈ ts, a6o t) (ps : List Int) : ∀ A : List UInt8, a6o A → a6o (A ++ a1k ts ps) := by
  induction ps with
  | nil => intro A hA; simpa [a1k] using hA
  | cons p ps ih =>
    intro A hA
    have e : A ++ a1k ts (p :: ps) = (A ++ 32 :: ts.getD p.toNat []) ++ a1k ts ps := by simp [a1k]
    rw [e]
    refine ih _ (b7w hA ?_)
    by_cases h : p.toNat < ts.length
    · rw [List.getD_eq_getElem?_getD, List.getElem?_eq_getElem h]
      exact hts _ (List.getElem_mem h)
    · rw [List.getD_eq_getElem?_getD, List.getElem?_eq_none oM]
      intro i hi; simp at hi
theorem c0b (ts : List (List UInt8)) (hts : ∀ t ∈ ts, a6o t) {op W K A B C : Int} (hn : NumOk op W K A B C) : a6o (b2r ts op W K A B C) := by
  unfold b2r
  split
  · rename_i h
    have hW := zG (n := W) (by have := hn.w0; omega) (by have := hn.w1; omega)
    have hK := hn.k0 oM
    have hK := zG (n := K) hK.1 oM
    refine b0k ?_
    unfold yW
    split
    · exact vN (vN (vN (uX _ (by decide)) hW) (uX _ (by decide))) hK
    · exact vN (vN (vN (uX _ (by decide)) hK) (uX _ (by decide))) hW
  · split
    · unfold a9s
      refine b0l (c0c ts hts _ _ ?_) (uX _ (by decide))
      have : a6o [40] := fun i hi _ => .inl (by simp at hi; exact hi)
      exact b0l this (c6a hn)
    · intro i hi; simp at hi
theorem b4b (l : List S31) (hN : rT l) (i : Nat) : i ≤ l.length → ∀ t ∈ tW l i, a6o t := by
  induction i with
  | zero => intro _ t ht; simp [tW] at ht
  | succ i ih =>
    intro hi t ht
    simp only [tW, List.mem_append, List.mem_singleton] at ht
    rcases ht with ht | rfl
    · exact ih oM t ht
    · exact c0b _ (ih oM) (a7l hN i oM)
theorem b3c (l : List S31) (h : yC l) : Ev (fun k => uH k l) (mkB (tx (T l (l.length - 1))), tx (T l (l.length - 1)) != []) ∧ Ev (fun k => qK k l) (mkB (tx (T l (l.length - 1))), tx (T l (l.length - 1)) != []) ∧ (tx (T l (l.length - 1))).length ≤ 4000 ∧ a6o (tx (T l (l.length - 1))) := by
  obtain ⟨b, e1, e2, hb⟩ := a8d l
  have hb := hb.mpr h
  obtain ⟨h1, h2, h3⟩ := h
  have hm : (tW l l.length).getD (l.length - 1) [] ∈ tW l l.length := by
    rw [List.getD_eq_getElem?_getD, List.getElem?_eq_getElem (by rw [sT]; omega)]; exact List.getElem_mem _
  rw [← c5f h3 (l.length - 1) l.length oM oM]
  refine ⟨?_, ?_, a5e l _ _ hm, b4b l h3 _ (Nat.le_refl _) _ hm⟩
  · unfold uH
    exact kF e1 (kD hb (b3k l h2 h3 l.length 0 oM h1))
  · unfold qK
    refine kF e2 (kD hb (kD oM (kD (by simp; omega) (kD (by simp; omega) ?_))))
    have := b3l l h2 h3 h1 l.length 0 oM
    simp only [tW, wX, List.map_nil, List.nil_append, Nat.sub_zero] at this
    exact this
theorem c6u (l : List S31) (h : ¬ yC l) : Ev (fun k => uH k l) (mkB [], false) ∧ Ev (fun k => qK k l) (mkB [], false) := by
  obtain ⟨b, e1, e2, hb⟩ := a8d l
  have hb : ¬ b = true := fun e => h (hb.mp e)
  unfold uH qK
  exact ⟨kF e1 (kH hb kQ), kF e2 (kH hb kQ)⟩
def pre (M : List UInt8) : Prop := ∀ k, (M.take k).count 41 ≤ (M.take k).count 40
def bal (M : List UInt8) : Prop := M.count 41 = M.count 40
theorem b1p {A B : List UInt8} (ha : pre A) (hb : pre B) : pre (A ++ B) := by
  intro k
  rw [List.take_append, List.count_append, List.count_append]
  have := ha k; have := hb (k - A.length)
  omega
theorem b2b {A B : List UInt8} (ha : bal A) (hb : bal B) : bal (A ++ B) := by
  unfold bal at *
  rw [List.count_append, List.count_append, ha, hb]
def noB (M : List UInt8) : Prop := ∀ x ∈ M, x ≠ 40 ∧ x ≠ 41
theorem a5q {M : List UInt8} (h : noB M) : pre M ∧ bal M := by
  have z : ∀ M : List UInt8, noB M → M.count 40 = 0 ∧ M.count 41 = 0 := fun M h => ⟨List.count_eq_zero.mpr (fun hx => (h _ hx).1 rfl), List.count_eq_zero.mpr (fun hx => (h _ hx).2 rfl)⟩
  refine ⟨fun k => ?_, ?_⟩
  · have := z (M.take k) (fun x hx => h x (List.mem_of_mem_take hx))
    omega
  · have := z M h
    unfold bal; omega
theorem a0v {n : Int} (h0 : 0 ≤ n) (h1 : n ≤ 999) : noB (wH n) := fun x hx => by
  have := a1z h0 h1 x hx
  exact ⟨by rintro rfl; exact absurd this (by decide), by rintro rfl; exact absurd this (by decide)⟩
theorem d0j (op : Int) : noB (opL op) := fun x hx => by
  have := c2o x hx
  exact ⟨by rintro rfl; exact absurd this (by decide), by rintro rfl; exact absurd this (by decide)⟩
theorem a0c {A B : List UInt8} (ha : noB A) (hb : noB B) : noB (A ++ B) := fun x hx => by
  rcases List.mem_append.mp hx with h | h
  · exact ha x h
  · exact hb x h
theorem yE {a : UInt8} {B : List UInt8} (ha : a ≠ 40 ∧ a ≠ 41) (hb : noB B) : noB (a :: B) := fun x hx => by
  rcases List.mem_cons.mp hx with rfl | h
  · exact ha
  · exact hb x h
theorem d0k {op W K A B C : Int} (hn : NumOk op W K A B C) : noB (hdL op W K B) := by
  rw [b2w]
  refine a0c (d0j op) ?_
  have hW := hn.w0; have hW1 := hn.w1
  unfold tlL
  split
  · have hK := hn.k0 oM
    exact yE (by decide) (a0c (a0v hK.1 oM) (yE (by decide) (a0v oM oM)))
  · split
    · rename_i h
      have hK := hn.k0 oM; have hB := hn.b0 h
      exact yE (by decide) (yE (by decide) (a0c (a0v hK.1 oM) (yE (by decide) (a0v hB.1 oM))))
    · intro x hx; cases hx
theorem b9r {op W K A B C : Int} (hn : NumOk op W K A B C) (h : op = 0 ∨ op = 1) : noB (yW op W K) := by
  have hW := hn.w0; have hW1 := hn.w1; have hK := hn.k0 oM
  unfold yW
  split
  · exact a0c (a0c (a0c (yE (by decide) (fun x hx => by cases hx)) (a0v oM oM)) (yE (by decide) (fun x hx => by cases hx))) (a0v hK.1 oM)
  · exact a0c (a0c (a0c (yE (by decide) (fun x hx => by cases hx)) (a0v hK.1 oM)) (yE (by decide) (fun x hx => by cases hx))) (a0v oM oM)
theorem b7b (ts : List (List UInt8)) (h : ∀ t ∈ ts, pre t ∧ bal t) : pre (ts.flatMap fun t => 32 :: t) ∧ bal (ts.flatMap fun t => 32 :: t) := by
  induction ts with
  | nil => exact a5q (fun x hx => by cases hx)
  | cons t ts ih =>
    rw [List.flatMap_cons]
    have h1 := h t List.mem_cons_self
    have h2 := ih (fun t ht => h t (List.mem_cons_of_mem _ ht))
    have h3 : pre ([32] ++ t) ∧ bal ([32] ++ t) := by
      have := a5q (M := [32]) (yE (by decide) (fun x hx => by cases hx))
      exact ⟨b1p this.1 h1.1, b2b this.2 h1.2⟩
    exact ⟨b1p h3.1 h2.1, b2b h3.2 h2.2⟩
theorem d2d {M : List UInt8} (h : pre M ∧ bal M) : (pre (40 :: (M ++ [41])) ∧ bal (40 :: (M ++ [41]))) ∧ ∀ k, 1 ≤ k → k < (40 :: (M ++ [41])).length → ((40 :: (M ++ [41])).take k).count 41 < ((40 :: (M ++ [41])).take k).count 40 := by
  have key : ∀ k, 1 ≤ k → k < (40 :: (M ++ [41])).length → ((40 :: (M ++ [41])).take k).count 41 < ((40 :: (M ++ [41])).take k).count 40 := by
    intro k h1 h2
    obtain ⟨j, rfl⟩ : ∃ j, k = j + 1 := ⟨k - 1, oM⟩
    simp only [List.length_cons, List.length_append, List.length_nil] at h2
    rw [List.take_succ_cons, List.take_append_of_le_length oM, List.count_cons, List.count_cons]
    have := h.1 j
    rw [if_neg (by decide), if_pos (by decide)]
    omega
  have hb : bal (40 :: (M ++ [41])) := by
    have := h.2
    unfold bal at *
    simp only [List.count_cons, List.count_append, List.count_nil]
    rw [this]
    simp only [show ((40 : UInt8) == 41) = false by decide, show ((41 : UInt8) == 40) = false by decide, show ((40 : UInt8) == 40) = true by decide, show ((41 : UInt8) == 41) = true by decide, if_true, Bool.false_eq_true, if_false]
  refine ⟨⟨fun k => ?_, hb⟩, key⟩
  by_cases h1 : 1 ≤ k
  · by_cases h2 : k < (40 :: (M ++ [41])).length
    · exact Nat.le_of_lt (key k h1 h2)
    · rw [List.take_of_length_le oM]
      exact Nat.le_of_eq hb
  · obtain rfl : k = 0 := by omega
    simp
theorem d0a {l : List S31} (hN : rT l) (i : Nat) : i < l.length → (pre (tx (T l i)) ∧ bal (tx (T l i))) ∧ ((tx (T l i)).headD 0 = 40 → ∀ k, 1 ≤ k → k < (tx (T l i)).length → ((tx (T l i)).take k).count 41 < ((tx (T l i)).take k).count 40) := by
  induction i using Nat.strongRecOn with
  | _ i ih =>
    intro hi
    have hn := a7l hN i hi
    rw [c0n hN i hi]
    unfold txm
    by_cases hop : (kA l (i : Int)).f0 = 0 ∨ (kA l (i : Int)).f0 = 1
    · rw [if_pos hop]
      have hb := b9r hn hop
      refine ⟨a5q hb, fun h => ?_⟩
      have := zS (kA l (i : Int)).f0 (kA l (i : Int)).f1 (kA l (i : Int)).f2
      cases e : yW (kA l (i : Int)).f0 (kA l (i : Int)).f1 (kA l (i : Int)).f2 with
      | nil => rw [e] at this; simp at this
      | cons x M =>
        rw [e] at h hb
        exact absurd h (hb x List.mem_cons_self).1
    · rw [if_neg hop]
      split
      · rename_i hc
        unfold whT
        have hp := b7b ((pl l i).map fun p => tx (T l p.toNat)) (fun t ht => by
          obtain ⟨p, hp, rfl⟩ := List.mem_map.mp ht
          have := rS hN i hi p hp
          exact (ih p.toNat oM oM).1)
        have hh := a5q (d0k hn)
        have := d2d (M := hdL (kA l (i : Int)).f0 (kA l (i : Int)).f1 (kA l (i : Int)).f2 (kA l (i : Int)).f4 ++ (((pl l i).map fun p => tx (T l p.toNat)).flatMap fun t => 32 :: t)) ⟨b1p hh.1 hp.1, b2b hh.2 hp.2⟩
        simp only [List.cons_append, List.append_assoc] at this ⊢
        exact ⟨this.1, fun _ => this.2⟩
      · refine ⟨a5q (fun x hx => by cases hx), fun _ k h1 h2 => by simp at h2⟩
theorem b7z {α : Type} {f : Nat → Option α} {r s : α} (h : Ev f r) (h' : Ev f s) : r = s := by
  obtain ⟨K, hK⟩ := h
  obtain ⟨M, hM⟩ := h'
  have h1 := hK (K + M) oM; have h2 := hM (K + M) oM
  rw [h1] at h2
  exact Option.some.inj h2
theorem b9c : Ev (fun k => a1i k (mkB [])) ([], 2, 0) := by
  unfold a1i
  rw [kP]
  obtain ⟨x, y, n1⟩ := a5p (L := []) (by simp) (a5o 35)
  obtain ⟨x2, y2, n2⟩ := a5p (L := []) (by simp) (a5o 118)
  have g := a0y [] (by simp) 0 (Nat.le_refl _) ([] : List S31) 0 0 40
  rw [show isB [] 0 40 = false from rfl] at g
  have w1 := pR (a3s [] (by simp) ([] : List S31) 0 0 0 (Nat.le_refl _))
  rw [show wd yO [] 0 = [] from rfl] at w1
  have e1 : Ev (fun k => nodeF (mkB []) k 0 [] 0 0) ((0, false), 0, [], 2, 0) := by
    refine kR ?_
    simp only [nodeF, nodeR]
    refine kU g (kH (by simp) ?_)
    unfold a8k
    exact kF w1 (kF (pR n1) (kH (by simp) (kF (pR n2) (kH (by simp) kQ))))
  exact kH (by simp) (kF e1 (kH (by simp) kQ))
theorem b0j {s : List UInt8} (hG : a6o s) (k : Nat) : a6o (s.take k) := by
  intro i hi e
  rw [List.length_take] at hi
  have g : ∀ j, j < k → (s.take k).getD j 0 = s.getD j 0 := fun j hj => by rw [List.getD_eq_getElem?_getD, List.getElem?_take, if_pos hj, List.getD_eq_getElem?_getD]
  rw [g i oM] at e
  rcases hG i oM e with h0 | h0
  · exact .inl h0
  · exact .inr (by rw [g (i - 1) oM]; exact h0)
theorem d0w {l : List S31} (h : yC l) (h40 : (tx (T l (l.length - 1))).headD 0 = 40) (k : Nat) (hk : k < (tx (T l (l.length - 1))).length) : ∃ r : List S31 × Int × Int, Ev (fun n => a1i n (mkB ((tx (T l (l.length - 1))).take k))) r ∧ r.2.1 ≠ 0 := by
  obtain ⟨_, _, h4, hG⟩ := b3c l h
  have hp := (d0a h.2.2 (l.length - 1) (by have := h.1; omega)).2 h40 k
  generalize tx (T l (l.length - 1)) = s at *
  have hG' := b0j hG k
  obtain ⟨r, _, e1, _, hb⟩ := a5f (s.take k) (by rw [List.length_take]; omega) hG'
  refine ⟨r, e1, fun h0 => ?_⟩
  by_cases hk0 : k = 0
  · subst hk0
    rw [List.take_zero] at e1
    have := b7z e1 b9c
    rw [this] at h0
    exact absurd h0 (by decide)
  · have hb := hb h0
    unfold brk at hb
    rw [List.take_length] at hb
    have := hp oM hk
    omega
theorem d0l (l : List Int) (hl : (l.length : Int) ≤ 140737488351232) (d : Nat) : ∀ (h j : Int), 0 ≤ j → 4000 - j ≤ d → Ok (fun k => vB k l h j) (fun r => r.1 = l ∧ r.2.1 = 0) := by
  induction d with
  | zero =>
    intro h j h0 hd
    refine qT ?_
    simp only [vB]
    exact tL (fun _ => zR oM (tJ ⟨rfl, rfl⟩)) (fun _ => tJ ⟨rfl, rfl⟩)
  | succ d ih =>
    intro h j h0 hd
    refine qT ?_
    simp only [vB]
    refine tL (fun _ => tL (fun _ => pK h0 ?_) (fun _ => tJ ⟨rfl, rfl⟩)) (fun _ => tJ ⟨rfl, rfl⟩)
    rw [oY (x := j + 1) oM oM]
    exact ih _ (j + 1) oM oM
theorem c0h (l : List Int) (hl : (l.length : Int) ≤ 140737488351232) : Ok (fun k => xQ k l) (fun r => r.1 = l ∧ Cur l r.2.1) := by
  unfold xQ
  exact b7l (d0l l hl 4000 _ 0 oM oM) (fun r hr => ⟨hr.1, by rw [hr.2]; unfold Cur; omega⟩)
theorem a6s (a : List S31) (ha : a.length ≤ 1000) : Ev (fun k => uP k a a) true := by
  have from_ : ∀ (n j : Nat), j + n = a.length → Ev (fun k => sU k a a (j : Int)) true := by
    intro n
    induction n with
    | zero =>
      intro j hj
      refine kR ?_
      simp only [sU]
      exact kH oM kQ
    | succ n ih =>
      intro j hj
      refine kR ?_
      simp only [sU]
      rw [wS j]
      exact kD oM (kD oM (kD oM (kH (by simp) (ih (j + 1) oM))))
  unfold uP
  exact kD rfl (from_ a.length 0 oM)
theorem a8e (l : List Int) (hl : (l.length : Int) ≤ 140737488351232) : Ok (fun k => uK k l) (fun _ => True) := by
  unfold uK
  refine sP (c0h l hl) (fun c hc => ?_)
  obtain ⟨c0, c1, c2⟩ := c
  obtain ⟨h0, h1⟩ := hc
  simp only at h0 h1
  subst h0
  exact sP (c0m c0 c1 c2 h1) (fun r hr => tJ trivial)
theorem c6o {l : List S31} (h : yC l) (k : Nat) (hk : k < (tx (T l (l.length - 1))).length) : ∃ r : List S31 × Int × Int, Ev (fun n => a1i n (mkB ((tx (T l (l.length - 1))).take k))) r ∧ ((tx (T l (l.length - 1))).headD 0 = 40 → r.2.1 ≠ 0) := by
  by_cases h40 : (tx (T l (l.length - 1))).headD 0 = 40
  · obtain ⟨r, e1, e2⟩ := d0w h h40 k hk
    exact ⟨r, e1, fun _ => e2⟩
  · obtain ⟨_, _, h4, hG⟩ := b3c l h
    obtain ⟨r, _, e1, _, _⟩ := a5f ((tx (T l (l.length - 1))).take k) (by rw [List.length_take]; omega) (b0j hG k)
    exact ⟨r, e1, fun h => absurd h h40⟩
theorem b9g {t : List S31} (hN : rT t) (ht : t.length ≤ 80) (i : Nat) (hi : i < t.length) (hne : tx (T t i) ≠ []) (h4 : (tx (T t i)).length ≤ 4000) :
    ∃ r : List S31 × Int × Int, Ev (fun k => a1i k (mkB (tx (T t i) ++ [32]))) r ∧ ((tx (T t i)).length ≠ 4000 → r.2.1 ≠ 0 ∧ r.2.2 = ((tx (T t i)).length : Int)) := by
  by_cases h : (tx (T t i)).length = 4000
  · refine ⟨([], 1, 0), ?_, fun h2 => absurd h h2⟩
    unfold a1i
    rw [kP, List.length_append]
    exact kD (by simp only [List.length_cons, List.length_nil]; omega) kQ
  · exact ⟨_, b6j hN ht i hi hne oM, fun _ => ⟨show ¬ ((5 : Int) = 0) by decide, rfl⟩⟩
theorem FnText : laws_FnText.Pure := by
  intro l hm hl hw
  have hl : (l.length : Int) ≤ 140737488351232 := by omega
  refine b8r ?_
  unfold yS a1e
  refine kU rfl ?_
  by_cases hb : (l.length : Int) > 1048576
  · exact kD (by simpa using hb) kQ
  refine kH (by simpa using hb) ?_
  obtain ⟨t, ed, _⟩ := a8e l hl
  refine kF ed ?_
  by_cases hT : yC t
  rotate_left
  · obtain ⟨e1, e2⟩ := c6u t hT
    refine kF e2 (kF e1 (kH (by simp) ?_))
    refine kR ?_
    simp only [vX]
    refine kH (by simp) (kH (by simp) ?_)
    have ec : Ev (fun k => uB k t) [] := by
      unfold uB
      exact kF e2 (kH (by simp) kQ)
    have es : Ev (fun k => vC k t t) false := by
      unfold vC
      exact kF e2 (kF e2 (kH (by simp) kQ))
    exact kF ec (kD rfl (kF es (uN rfl)))
  obtain ⟨e1, e2, h4, hG⟩ := b3c t hT
  have hN := hT.2.2; have h80 := hT.2.1; have h1 := hT.1
  have hcut := c6o hT
  have hrest := b9g hN h80 (t.length - 1) oM
  have hback := b6k hN h80 (D := fun _ => True) (fun _ _ _ _ _ => trivial) (t.length - 1) oM trivial
  generalize hs : tx (T t (t.length - 1)) = s at *
  refine kF e2 (kF e1 (kH (by simp) ?_))
  refine kR ?_
  simp only [vX]
  refine kH (by simp) ?_
  by_cases h0 : s = []
  · subst h0
    have ec : Ev (fun k => uB k t) [] := by
      unfold uB
      exact kF e2 (kH (by simp) kQ)
    have es : Ev (fun k => vC k t t) false := by
      unfold vC
      exact kF e2 (kF e2 (kH (by simp) kQ))
    exact kH (by simp) (kF ec (kD rfl (kF es (uN rfl))))
  have hb0 : (s != []) = true := bne_iff_ne.mpr h0
  obtain ⟨u, eR, hu, hu1, hTu⟩ := hback h0 h4
  obtain ⟨r, _, f1, f2, _⟩ := a5f s h4 hG
  obtain rfl := b7z f1 eR
  have hlen := hu.len
  have hTP : yC u := ⟨hu1, oM, hu.ok⟩
  obtain ⟨_, e3, _, _⟩ := b3c u hTP
  rw [hTu, hs, hb0] at e3
  rw [hb0] at e2 ⊢
  have ec : Ev (fun k => uB k t) u := by
    unfold uB
    exact kF e2 (kD rfl (kF eR kQ))
  have es : Ev (fun k => vC k t u) true := by
    unfold vC
    exact kF e2 (kF e3 (kD rfl (kD rfl (uN (by simp)))))
  have hsm := a6s u oM
  refine kD rfl (kF eR (kF f2 (kD rfl (kD rfl (kD rfl (kF hsm (kD rfl (kF ec (kF hsm (kD rfl (kF es ?_)))))))))))
  refine kR ?_
  simp only [tC]
  have hlp : 1 ≤ s.length := by cases s with | nil => exact absurd rfl h0 | cons x s => simp
  obtain ⟨y, ay, py, qy⟩ := c6r l oM hw 3 oM oM
  have hy0 := Int.emod_nonneg y (show (s.length : Int) ≠ 0 by omega)
  have hy1 := Int.emod_lt_of_pos y (show (0 : Int) < (s.length : Int) by omega)
  refine kH (by simp) (kU ay ?_)
  rw [kP, Int.tmod_eq_emod_of_nonneg py]
  obtain ⟨r1, g1, g2⟩ := hcut (y % (s.length : Int)).toNat oM
  obtain ⟨r2, k1, k2⟩ := hrest h0 h4
  have ex : (mkB s).extract 0 (y % (s.length : Int)).toNat = mkB (s.take (y % (s.length : Int)).toNat) := by rw [vO, Nat.sub_zero, List.drop_zero]
  have ea : mkB s ++ (⟨#[32]⟩ : ByteArray) = mkB (s ++ [32]) := by rw [show (⟨#[32]⟩ : ByteArray) = mkB [32] from rfl, kX]
  rw [ex, ea]
  have hbt := zI s 0 oM
  rw [show ((0 : Nat) : Int) = 0 from rfl] at hbt
  have h40 : bt (mkB s) 0 = 40 → s.headD 0 = 40 := by
    intro h
    rw [hbt] at h
    have hh : s.getD 0 0 = s.headD 0 := by cases s <;> rfl
    rw [hh] at h
    exact UInt8.toNat_inj.mp (by show (s.headD 0).toNat = 40; omega)
  refine kH oM (kD oM (kD oM (kF g1 (kD oM (kF k1 ?_)))))
  by_cases hx : (s.length : Int) = 4000
  · refine kD hx (kF e3 (kD oM ?_))
    by_cases c : bt (mkB s) 0 = 40
    · exact kD c (kH (g2 (h40 c)) (kD rfl (uN (by simp))))
    · exact kH c (kD rfl (uN (by simp)))
  · obtain ⟨k3, k4⟩ := k2 oM
    refine kH hx (kF e3 (kD oM ?_))
    by_cases c : bt (mkB s) 0 = 40
    · exact kD c (kH (g2 (h40 c)) (kH k3 (kD k4 (kD rfl (uN (by simp))))))
    · exact kH c (kH k3 (kD k4 (kD rfl (uN (by simp)))))
end Go.Proofs.Ytkpipmojkhikaaa.Pure
