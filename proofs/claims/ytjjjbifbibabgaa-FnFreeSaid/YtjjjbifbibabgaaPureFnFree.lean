/- FnFree: what the printed functions come to, for every input. -/
import Derived.Test.YtjjjbifbibabgaaVFree0
import Derived.Test.YtjjjbifbibabgaaVFree1
import Derived.Test.YtjjjbifbibabgaaVFree2
import Derived.Test.YtjjjbifbibabgaaVFree3
import Derived.Test.YtjjjbifbibabgaaVFree4
import Derived.Test.YtjjjbifbibabgaaVFree5
import Derived.Test.YtjjjbifbibabgaaVFree6
import Derived.Test.YtjjjbifbibabgaaVFree7
import Derived.Test.YtjjjbifbibabgaaVFree8
import Derived.Test.YtjjjbifbibabgaaVFree9
import Derived.Test.YtjjjbifbibabgaaVFree10
import Derived.Test.YtjjjbifbibabgaaVFree11
import Derived.Test.YtjjjbifbibabgaaVFree12
import Derived.Test.YtjjjbifbibabgaaVFree13
import Derived.Test.YtjjjbifbibabgaaVFree14
import Derived.Test.YtjjjbifbibabgaaVFree15
import Derived.Test.YtjjjbifbibabgaaVFree16
import Derived.Test.YtjjjbifbibabgaaBase
import Derived.Test.YtjjjbifbibabgaaEv
set_option linter.unusedVariables false
set_option linter.unusedSimpArgs false
namespace Go.Proofs.Ytjjjbifbibabgaa.Pure.FreeW
open Go.RowKit Go.Proofs.Ytjjjbifbibabgaa.PAll Go.Proofs.YtjjjbifbibabgaaW.PrintWords Go.Proofs.YtjjjbifbibabgaaW.PrintLast Go.Proofs.YtjjjbifbibabgaaW.PrintMore Go.Proofs.Ytjjjbifbibabgaa.Base

theorem pow2 {w : Int} (h0 : 0 ≤ w) (h8 : w ≤ 8) {k : Nat} (hk : 20 ≤ k) : spec_l01Pow2.f k w = some (P2 w) := by
 obtain ⟨m, rfl⟩ := rounds_of hk
 have : w = 0 ∨ w = 1 ∨ w = 2 ∨ w = 3 ∨ w = 4 ∨ w = 5 ∨ w = 6 ∨ w = 7 ∨ w = 8 := by omega
 rcases this with rfl | rfl | rfl | rfl | rfl | rfl | rfl | rfl | rfl <;> simp [spec_l01Pow2.f, spec_l01Pow2.l0, P2, wrap64]
theorem inS (x a b : Int) : spec_l01In.f x a b = some (decide (a ≤ x ∧ x ≤ b)) := by
 unfold spec_l01In.f
 by_cases h : x ≥ a
 ·rw [if_pos h]; simp [h]
 ·rw [if_neg h]; simp [h]
theorem inI (x a b : Int) : impl_within.f x a b = some (decide (a ≤ x ∧ x ≤ b)) := by
 unfold impl_within.f
 by_cases h : x ≥ a
 ·rw [if_pos h]; simp [h]
 ·rw [if_neg h]; simp [h]
theorem wokS (w a : Int) {k : Nat} (hk : 20 ≤ k) : spec_WordOk.f k w a = some (wok w a) := by
 unfold spec_WordOk.f wok
 rw [inS]; simp only [Option.bind_some]
 by_cases h : 1 ≤ w ∧ w ≤ 8
 ·have hp := P2_pos (by omega : 0 ≤ w) h.2
  rw [if_pos (by simp [h]), pow2 (by omega) h.2 hk]; simp only [Option.bind_some]
  rw [inS, wrap_id (by omega) (by omega)]; simp [h]
 ·rw [if_neg (by simp; omega)]; simp; omega
/-- A reader of draws: its place lies in the bytes. -/
def Cur (l : List Int) (i : Int) : Prop := 0 ≤ i ∧ i ≤ (l.length : Int) ∧ (l.length : Int) ≤ 140737488351232
theorem and255 (x : Int) : 0 ≤ Go.bits .and .i64 x 255 ∧ Go.bits .and .i64 x 255 ≤ 255 := by
 have hm : (BitVec.ofInt 64 (255 : Int)).toNat = 255 := by decide
 have hle : ((BitVec.ofInt 64 x).toNat &&& 255) ≤ 255 := Nat.and_le_right
 have e : Go.bits .and .i64 x 255 = IntKind.i64.wrap (((BitVec.ofInt 64 x).toNat &&& 255 : Nat) : Int) := by
  show IntKind.i64.wrap ((BitVec.ofInt 64 x &&& BitVec.ofInt 64 (255 : Int)).toNat : Int) = _
  rw [BitVec.toNat_and, hm]
 rw [e, IntKind.wrap_i64]
 omega
theorem byte_some (l : List Int) (i h : Int) (hc : Cur l i) : ∃ x i' h', spec_l01Byte.f l i h = some (x, i', h') ∧ 0 ≤ x ∧ x ≤ 255 ∧ Cur l i' := by
 unfold spec_l01Byte.f
 obtain ⟨h0, h1, h2⟩ := hc
 by_cases hi : i < (l.length : Int)
 ·rw [if_pos hi, if_pos h0]
  exact ⟨_, _, _, rfl, (and255 _).1, (and255 _).2, by rw [wrap_id (by omega) (by omega)]; exact ⟨by omega, by omega, h2⟩⟩
 ·rw [if_neg hi]
  exact ⟨_, _, _, rfl, (and255 _).1, (and255 _).2, h0, h1, h2⟩
theorem below_some (l : List Int) (i h n : Int) (hc : Cur l i) : ∃ x i' h', spec_l01Below.f l i h n = some (x, i', h') ∧ 0 ≤ x ∧ (n ≤ 0 → x = 0) ∧ (0 < n → x < n) ∧ Cur l i' := by
 unfold spec_l01Below.f
 by_cases h0 : n ≤ 0
 ·rw [if_pos h0]
  exact ⟨0, i, h, rfl, by omega, fun _ => rfl, fun _ => by omega, hc⟩
 ·rw [if_neg h0]
  by_cases h1 : n ≤ 256
  ·rw [if_pos h1]
   obtain ⟨x, i1, h2, e, b0, b1, c1⟩ := byte_some l i h hc
   rw [e]; simp only [Option.bind_some]
   rw [if_neg (by omega)]
   refine ⟨_, _, _, rfl, ?_, by omega, fun _ => ?_, c1⟩
   ·exact Int.tmod_nonneg _ b0
   ·rw [Int.tmod_eq_emod_of_nonneg b0]; exact Int.emod_lt_of_pos _ (by omega)
  ·rw [if_neg h1]
   obtain ⟨x, i1, z1, e1, b0, b1, c1⟩ := byte_some l i h hc
   rw [e1]; simp only [Option.bind_some]
   obtain ⟨y, i2, z2, e2, d0, d1, c2⟩ := byte_some l i1 z1 c1
   rw [e2]; simp only [Option.bind_some]
   obtain ⟨z, i3, z3, e3, f0, f1, c3⟩ := byte_some l i2 z2 c2
   rw [e3]; simp only [Option.bind_some]
   obtain ⟨v, i4, z4, e4, g0, g1, c4⟩ := byte_some l i3 z3 c3
   rw [e4]; simp only [Option.bind_some]
   rw [if_neg (by omega), wrap_id (x := x * 16777216) (by omega) (by omega), wrap_id (x := y * 65536) (by omega) (by omega), wrap_id (x := x * 16777216 + y * 65536) (by omega) (by omega), wrap_id (x := z * 256) (by omega) (by omega), wrap_id (x := x * 16777216 + y * 65536 + z * 256) (by omega) (by omega), wrap_id (by omega) (by omega)]
   refine ⟨_, _, _, rfl, ?_, by omega, fun _ => ?_, c4⟩
   ·exact Int.tmod_nonneg _ (by omega)
   ·rw [Int.tmod_eq_emod_of_nonneg (by omega)]; exact Int.emod_lt_of_pos _ (by omega)
theorem once_some (l : List Int) (i h n : Int) (hc : Cur l i) : ∃ b i' h', spec_l01Once.f l i h n = some (b, i', h') ∧ Cur l i' := by
 unfold spec_l01Once.f
 obtain ⟨x, i1, h1, e, _, _, _, c⟩ := below_some l i h n hc
 rw [e]; exact ⟨_, _, _, rfl, c⟩
theorem pickInt_some (l : List Int) (i h : Int) (xs : List Int) (hx : xs ≠ []) (hc : Cur l i) : ∃ x i' h', spec_l01PickInt.f l i h xs = some (x, i', h') ∧ x ∈ xs ∧ Cur l i' := by
 unfold spec_l01PickInt.f
 have hl : 0 < (xs.length : Int) := by have := List.length_pos_iff.mpr hx; omega
 obtain ⟨x, i1, h1, e, x0, _, x1, c⟩ := below_some l i h (xs.length : Int) hc
 rw [e]; simp only [Option.bind_some]
 have hlt := x1 hl
 rw [if_pos x0, if_pos hlt]
 refine ⟨_, _, _, rfl, ?_, c⟩
 unfold rd
 rw [List.getD_eq_getElem?_getD, List.getElem?_eq_getElem (by omega)]
 exact List.getElem_mem _
theorem at_some (l : List Int) (hl : (l.length : Int) ≤ 140737488351232) (hw : ∀ x ∈ l, (Lit.int .u8 x).wf = true) (i : Int) (i0 : 0 ≤ i) (i1 : i ≤ 1000) : ∃ x, laws_at.f l i = some x ∧ 0 ≤ x ∧ x ≤ 255 := by
 unfold laws_at.f
 by_cases c : i < (l.length : Int)
 ·rw [if_pos c, if_pos i0]
  have hm : rd l i ∈ l := by
   unfold rd
   rw [List.getD_eq_getElem?_getD, List.getElem?_eq_getElem (by omega)]
   exact List.getElem_mem _
  have hb := hw _ hm
  have hmin : IntKind.u8.min = 0 := rfl
  have hmax : IntKind.u8.max = 255 := rfl
  simp only [Lit.wf, Bool.and_eq_true, decide_eq_true_eq] at hb
  rw [wrap_id (by omega) (by omega)]
  exact ⟨_, rfl, by omega, by omega⟩
 ·rw [if_neg c, wrap_id (x := i * 7) (by omega) (by omega), wrap_id (by omega) (by omega), Int.tmod_eq_emod_of_nonneg (by omega)]
  exact ⟨_, rfl, by omega, by omega⟩
theorem partsS (op w q a b c : Int) {k : Nat} (hk : 1 ≤ k) : spec_Parts.f k op w q a b c = some (partsL op a b c) := by
 obtain ⟨k, rfl⟩ : ∃ m, k = m + 1 := ⟨k - 1, by omega⟩
 unfold spec_Parts.f partsL
 simp only [spec_Parts.j0, inS]
 by_cases h2 : op = 2
 ·subst h2; simp
 ·by_cases h17 : op = 17
  ·subst h17; simp
  ·by_cases h19 : op = 19
   ·subst h19; simp
   ·by_cases h20 : op = 20
    ·subst h20; simp
    ·have hq : ¬ (op = 2 ∨ op = 17 ∨ op = 19 ∨ op = 20) := by omega
     rw [if_neg h2, if_neg h17, if_neg h19, if_neg (by simpa using h20), if_neg hq]
     simp only [Option.bind_some, decide_eq_true_eq]
     by_cases h3 : 3 ≤ op ∧ op ≤ 16
     ·rw [if_pos h3, if_pos h3]
     ·rw [if_neg h3, if_neg h3]
      by_cases h18 : op = 18
      ·rw [if_pos h18, if_pos h18]
      ·rw [if_neg h18, if_neg h18]
theorem rdN (l : List S39) (i : Nat) (h : i < l.length) : rd_T39 l (i : Int) = l[i] := by
 unfold rd_T39
 rw [Int.toNat_natCast, List.getD_eq_getElem?_getD, List.getElem?_eq_getElem h]; rfl
theorem rdI (l : List Int) (i : Nat) (h : i < l.length) : rd l (i : Int) = l[i] := by simp [rd, h]
theorem inB_iff {x a b : Int} : inB x a b = true ↔ a ≤ x ∧ x ≤ b := by simp [inB]
theorem inSB (x a b : Int) : spec_l01In.f x a b = some (inB x a b) := inS x a b
theorem node_l0 (l : List S39) (i : Int) (hi0 : 0 ≤ i) (hi1 : i ≤ 9223372036854775807) (ps : List Int) (hps : ps.length ≤ 3) (n0 n1 n2 n3 n4 n5 : Int) (r : Bool)
  (h1 : (∀ p ∈ ps, inB p 0 (i - 1) = true) → Ev (fun k => spec_l02Node.l0 k l i ps (ps.length : Int) n0 n1 n2 n3 n4 n5) r) (h2 : (¬ ∀ p ∈ ps, inB p 0 (i - 1) = true) → r = false) (d : Nat) :
  ∀ j : Nat, j + d = ps.length → (∀ t : Nat, t < j → inB (rd ps (t : Int)) 0 (i - 1) = true) → Ev (fun k => spec_l02Node.l0 k l i ps (j : Int) n0 n1 n2 n3 n4 n5) r := by
 induction d with
 | zero =>
  intro j hj hA
  obtain rfl : j = ps.length := by omega
  refine h1 fun p hp => ?_
  obtain ⟨t, ht, rfl⟩ := List.getElem_of_mem hp
  rw [← rdI ps t ht]; exact hA t ht
 | succ d ih =>
  intro j hj hA
  have hlt : j < ps.length := by omega
  refine ev_succ ?_
  simp only [spec_l02Node.l0]
  refine ev_pos (by omega) (ev_pos (by omega) (ev_bind0 (inSB _ _ _) ?_))
  rw [wrap_id (x := i - 1) (by omega) (by omega)]
  by_cases hb : inB (rd ps (j : Int)) 0 (i - 1) = true
  ·refine ev_pos hb ?_
   rw [wrap_id (by omega) (by omega)]
   refine ih (j + 1) (by omega) fun t ht => ?_
   rcases Nat.lt_or_ge t j with h | h
   ·exact hA t h
   ·obtain rfl : t = j := by omega
    exact hb
  ·refine ev_neg hb ?_
   rw [h2 fun h => hb (by rw [rdI ps j hlt]; exact h _ (List.getElem_mem hlt))]
   exact ev_now
theorem node_l1 (l : List S39) (hl : l.length ≤ 4611686018427387904) (ps : List Int) (hps : ps.length ≤ 3) (hp : ∀ p ∈ ps, 0 ≤ p ∧ p < (l.length : Int)) (n0 n1 n2 n3 n4 n5 : Int) (r : Bool)
  (h : Ev (fun k => spec_l02Node.l1 k l ps (ps.map fun p => (rd_T39 l p).f1) (ps.length : Int) n0 n1 n2 n3 n4 n5) r) (d : Nat) :
  ∀ j : Nat, j + d = ps.length → Ev (fun k => spec_l02Node.l1 k l ps ((ps.take j).map fun p => (rd_T39 l p).f1) (j : Int) n0 n1 n2 n3 n4 n5) r := by
 induction d with
 | zero =>
  intro j hj
  obtain rfl : j = ps.length := by omega
  rw [List.take_of_length_le (by omega)]; exact h
 | succ d ih =>
  intro j hj
  have hlt : j < ps.length := by omega
  have hq := hp _ (List.getElem_mem hlt)
  refine ev_succ ?_
  simp only [spec_l02Node.l1]
  rw [rdI ps j hlt]
  refine ev_pos (by omega) (ev_pos (by omega) (ev_pos hq.1 (ev_pos hq.2 (ev_pos (by simp; omega) ?_))))
  rw [wrap_id (by omega) (by omega), show ((j : Int) + 1) = ((j + 1 : Nat) : Int) by omega]
  have := ih (j + 1) (by omega)
  rwa [List.take_succ_eq_append_getElem hlt, List.map_append] at this
theorem rd_take (l : List S39) (i : Nat) (p : Int) (h0 : 0 ≤ p) (h1 : p < i) : rd_T39 (l.take i) p = rd_T39 l p := by
 unfold rd_T39
 rw [List.getD_eq_getElem?_getD, List.getD_eq_getElem?_getD, List.getElem?_take, if_pos (by omega)]
theorem sw_ev (l : List S39) (ps ws : List Int) (op W K A B C : Int) (hps : ps = partsL op A B C) (hws : ws.length = ps.length) :
  Ev (fun k => spec_l02Node.l1 k l ps ws (ps.length : Int) op W K A B C) (inB op 0 20 && usesB op K A B C && rightSw op W K B (ws.getD 0 0) (ws.getD 1 0) (ws.getD 2 0)) := by
 have hl := partsL_len op A B C
 refine ev_of 60 fun k hk => ?_
 obtain ⟨k, rfl⟩ : ∃ m, k = m + 2 := ⟨k - 2, by omega⟩
 simp only [spec_l02Node.l1]
 rw [if_neg (by omega), wokS _ _ (by omega), inSB, inSB, inSB]
 simp only [Option.bind_some, spec_l02Node.j2, inSB]
 have rd0 : rd ws 0 = ws.getD 0 0 := rfl
 have rd1 : rd ws 1 = ws.getD 1 0 := rfl
 have rd2 : rd ws 2 = ws.getD 2 0 := rfl
 rw [rd0, rd1, rd2]
 generalize ws.getD 0 0 = u
 generalize ws.getD 1 0 = v
 generalize ws.getD 2 0 = x
 by_cases h0 : op = 0
 ·subst h0; simp [inB, usesB, rightSw]; by_cases g : wok W K = true <;> by_cases a : A = 0 <;> by_cases b : B = 0 <;> simp [g, a, b]
 rw [if_neg h0]
 by_cases h1 : op = 1
 ·subst h1; by_cases g : inB K 0 7 = true <;> by_cases a : A = 0 <;> by_cases b : B = 0 <;> simp [usesB, rightSw, g, a, b, inB_iff.mpr (show (0 : Int) ≤ 1 ∧ (1 : Int) ≤ 20 by omega)]
 rw [if_neg h1]
 by_cases h2 : op = 2
 ·subst h2
  have hn : (0 : Int) < (ws.length : Int) := by rw [hws, hps]; simp [partsL]
  rw [if_pos rfl, if_pos hn]
  by_cases a : u = W <;> by_cases b : K = 0 <;> by_cases c : B = 0 <;> simp [inB, usesB, rightSw, a, b, c]
 rw [if_neg h2]
 by_cases h3 : 3 ≤ op ∧ op ≤ 12
 ·have e : ps = [A, B] := by rw [hps]; unfold partsL; rw [if_neg (by omega), if_pos (by omega)]
  have hn : ws.length = 2 := by rw [hws, e]; rfl
  rw [if_pos (inB_iff.mpr h3), if_pos (by omega), if_pos (c := (1 : Int) < _) (by omega)]
  have hu : usesB op K A B C = (K == 0 && C == 0) := by unfold usesB; rw [if_neg (by omega), if_neg (by omega), if_neg (by omega), if_neg (by omega), if_pos (by omega)]
  have hr : rightSw op W K B u v x = (u == W && v == W) := by unfold rightSw; rw [if_neg (by omega), if_neg (by omega), if_neg (by omega), if_pos (by omega)]
  rw [hu, hr, inB_iff.mpr (show 0 ≤ op ∧ op ≤ 20 by omega)]
  by_cases a : u = W <;> by_cases b : K = 0 <;> by_cases c : v = W <;> simp [a, b, c]
 rw [if_neg (fun h => h3 (inB_iff.mp h))]
 by_cases h4 : 13 ≤ op ∧ op ≤ 15
 ·have e : ps = [A, B] := by rw [hps]; unfold partsL; rw [if_neg (by omega), if_pos (by omega)]
  have hn : ws.length = 2 := by rw [hws, e]; rfl
  rw [if_pos (inB_iff.mpr h4), if_pos (by omega), if_pos (c := (1 : Int) < _) (by omega)]
  have hu : usesB op K A B C = (K == 0 && C == 0) := by unfold usesB; rw [if_neg (by omega), if_neg (by omega), if_neg (by omega), if_neg (by omega), if_pos (by omega)]
  have hr : rightSw op W K B u v x = (u == v && W == 1) := by unfold rightSw; rw [if_neg (by omega), if_neg (by omega), if_neg (by omega), if_neg (by omega), if_pos (by omega)]
  rw [hu, hr, inB_iff.mpr (show 0 ≤ op ∧ op ≤ 20 by omega)]
  by_cases a : u = v <;> by_cases b : K = 0 <;> by_cases c : W = 1 <;> simp [a, b, c]
 rw [if_neg (fun h => h4 (inB_iff.mp h))]
 by_cases h16 : op = 16
 ·subst h16
  have hn : ws.length = 2 := by rw [hws, hps]; rfl
  rw [if_pos rfl, if_pos (by omega), if_pos (c := (1 : Int) < _) (by omega)]
  by_cases a : wrap64 (u + v) = W <;> by_cases b : K = 0 <;> simp [inB, usesB, rightSw, a, b]
 rw [if_neg h16]
 by_cases h17 : op = 17
 ·subst h17
  have hn : ws.length = 1 := by rw [hws, hps]; rfl
  rw [if_pos rfl, if_pos (c := (0 : Int) < _) (by omega)]
  by_cases a : 0 ≤ K <;> by_cases b : K ≤ wrap64 (u - W) <;> by_cases c : B = 0 <;> simp [inB, usesB, rightSw, a, b, c]
 rw [if_neg h17]
 by_cases h18 : op = 18
 ·subst h18
  have hn : ws.length = 3 := by rw [hws, hps]; rfl
  rw [if_pos rfl, if_pos (c := (0 : Int) < _) (by omega), if_pos (c := (1 : Int) < _) (by omega), if_pos (c := (2 : Int) < _) (by omega)]
  by_cases a : u = 1 <;> by_cases b : v = W <;> by_cases c : x = W <;> simp [inB, usesB, rightSw, a, b, c]
 rw [if_neg h18]
 by_cases h19 : op = 19
 ·subst h19
  have hn : ws.length = 1 := by rw [hws, hps]; rfl
  rw [if_pos rfl, if_pos trivial, if_pos (c := (0 : Int) < _) (by omega)]
  by_cases a : inB K 0 7 = true <;> by_cases b : inB B 1 8 = true <;> by_cases c : u = 1 <;> by_cases d : W = 1 <;> simp [usesB, rightSw, a, b, c, d, inB_iff.mpr (show (0 : Int) ≤ 19 ∧ (19 : Int) ≤ 20 by omega)]
 rw [if_neg h19]
 by_cases h20 : op = 20
 ·subst h20
  have hn : ws.length = 1 := by rw [hws, hps]; rfl
  rw [if_pos (by rfl), if_pos (c := (0 : Int) < _) (by omega)]
  by_cases a : inB K 0 7 = true <;> by_cases b : inB B 1 8 = true <;> by_cases c : u = 1 <;> by_cases d : W = 1 <;> simp [usesB, rightSw, a, b, c, d, inB_iff.mpr (show (0 : Int) ≤ 20 ∧ (20 : Int) ≤ 20 by omega)]
 rw [if_neg (by simpa using h20)]
 have hn : inB op 0 20 = false := by simp [inB]; omega
 simp [hn]
theorem node_ev (l : List S39) (hl : l.length ≤ 4611686018427387904) (i : Nat) (hi : i < l.length) : Ev (fun k => spec_l02Node.f k l (i : Int)) (rightB (l.take i) (rd_T39 l i).f0 (rd_T39 l i).f1 (rd_T39 l i).f2 (rd_T39 l i).f3 (rd_T39 l i).f4 (rd_T39 l i).f5) := by
 unfold spec_l02Node.f
 refine ev_pos (by omega) (ev_pos (by omega) (ev_bind (ev_of 1 fun k hk => partsS _ _ _ _ _ _ hk) ?_))
 generalize (rd_T39 l i).f0 = op
 generalize (rd_T39 l i).f1 = W
 generalize (rd_T39 l i).f2 = K
 generalize (rd_T39 l i).f3 = A
 generalize (rd_T39 l i).f4 = B
 generalize (rd_T39 l i).f5 = C
 have hlen := partsL_len op A B C
 have htk : ((l.take i).length : Int) = i := by rw [List.length_take]; omega
 refine node_l0 l i (by omega) (by omega) _ hlen op W K A B C _ (fun hall => ?_) (fun hn => ?_) _ 0 (Nat.zero_add _) (fun t ht => absurd ht (by omega))
 ·refine ev_succ ?_
  simp only [spec_l02Node.l0]
  refine ev_neg (by omega) (ev_bind0 (inSB _ _ _) ?_)
  have hall' : (partsL op A B C).all (fun p => inB p 0 (((l.take i).length : Int) - 1)) = true := by rw [htk]; exact List.all_eq_true.mpr hall
  unfold rightB
  rw [hall']
  by_cases hw : inB W 1 8 = true
  ·refine ev_pos hw ?_
   rw [hw]
   have hwv : ∀ t : Nat, wv (l.take i) (partsL op A B C) (partsL op A B C).length t = ((partsL op A B C).map fun p => (rd_T39 l p).f1).getD t 0 := by
    intro t
    unfold wv
    by_cases ht : t < (partsL op A B C).length
    ·rw [if_pos ht, rdI _ t ht, List.getD_eq_getElem?_getD, List.getElem?_map, List.getElem?_eq_getElem ht]
     have := inB_iff.mp (hall _ (List.getElem_mem ht))
     rw [rd_take l i _ this.1 (by omega)]; rfl
    ·rw [if_neg ht, List.getD_eq_getElem?_getD, List.getElem?_eq_none (by simp; omega)]; rfl
   rw [hwv, hwv, hwv]
   simp only [Bool.true_and, Bool.and_true]
   exact node_l1 l hl _ hlen (fun p hp => by have := inB_iff.mp (hall p hp); omega) op W K A B C _ (sw_ev l _ _ op W K A B C rfl (by simp)) _ 0 (Nat.zero_add _)
  ·have hw' : inB W 1 8 = false := by simpa using hw
   refine ev_neg hw ?_
   rw [hw']; simp only [Bool.false_and]; exact ev_now
 ·unfold rightB
  have hnot : (partsL op A B C).all (fun p => inB p 0 (((l.take i).length : Int) - 1)) = false := by
   rw [htk]
   cases e : (partsL op A B C).all (fun p => inB p 0 ((i : Int) - 1)) with
   | false => rfl
   | true => exact absurd (List.all_eq_true.mp e) hn
  rw [hnot]; simp
/-- Node i of a list is right. -/
def nodeB (l : List S39) (i : Nat) : Bool := rightB (l.take i) (rd_T39 l i).f0 (rd_T39 l i).f1 (rd_T39 l i).f2 (rd_T39 l i).f3 (rd_T39 l i).f4 (rd_T39 l i).f5
def NodesOk (l : List S39) : Prop := ∀ i < l.length, nodeB l i = true
def TermOkP (l : List S39) : Prop := 1 ≤ l.length ∧ l.length ≤ 80 ∧ NodesOk l
theorem termS_from (l : List S39) (hl : l.length ≤ 80) (d : Nat) : ∀ i : Nat, i + d = l.length → ∃ r, Ev (fun k => spec_TermOk.l0 k l (i : Int)) r ∧ Ev (fun k => impl_TermOk.l0 k l l (l.length : Int) (i : Int)) r ∧ (r = true ↔ ∀ j < l.length, i ≤ j → nodeB l j = true) := by
 induction d with
 | zero =>
  intro i hi
  refine ⟨true, ev_succ ?_, ev_succ ?_, by simp; intro j h1 h2; omega⟩
  ·simp only [spec_TermOk.l0]; exact ev_neg (by omega) ev_now
  ·simp only [impl_TermOk.l0]; exact ev_neg (by omega) ev_now
 | succ d ih =>
  intro i hi
  have hlt : i < l.length := by omega
  obtain ⟨r, e1, e2, h⟩ := ih (i + 1) (by omega)
  have hn := node_ev l (by omega) i hlt
  by_cases hb : nodeB l i = true
  ·refine ⟨r, ev_succ ?_, ev_succ ?_, ?_⟩
   ·simp only [spec_TermOk.l0]
    refine ev_pos (by omega) (ev_bind hn (ev_pos hb ?_))
    rw [wrap_id (by omega) (by omega), show ((i : Int) + 1) = ((i + 1 : Nat) : Int) by omega]; exact e1
   ·simp only [impl_TermOk.l0]
    refine ev_pos (by omega) (ev_pos (by omega) (ev_pos (by omega) (ev_pos (by omega) (ev_bind0 rfl (ev_pos hb ?_)))))
    rw [wrap_id (by omega) (by omega), show ((i : Int) + 1) = ((i + 1 : Nat) : Int) by omega]; exact e2
   ·rw [h]
    constructor
    ·intro hh j h1 h2
     rcases Nat.lt_or_ge i j with h3 | h3
     ·exact hh j h1 h3
     ·obtain rfl : i = j := by omega
      exact hb
    ·intro hh j h1 h2
     exact hh j h1 (by omega)
  ·refine ⟨false, ev_succ ?_, ev_succ ?_, ?_⟩
   ·simp only [spec_TermOk.l0]
    exact ev_pos (by omega) (ev_bind hn (ev_neg hb ev_now))
   ·simp only [impl_TermOk.l0]
    exact ev_pos (by omega) (ev_pos (by omega) (ev_pos (by omega) (ev_pos (by omega) (ev_bind0 rfl (ev_neg hb ev_now)))))
   ·simp only [Bool.false_eq_true, false_iff]
    intro hh
    exact hb (hh i hlt (by omega))
theorem term_ev (l : List S39) : ∃ r, Ev (fun k => spec_TermOk.f k l) r ∧ Ev (fun k => impl_TermOk.f k l) r ∧ (r = true ↔ TermOkP l) := by
 by_cases hb : 1 ≤ (l.length : Int) ∧ (l.length : Int) ≤ 80
 ·obtain ⟨r, e1, e2, h⟩ := termS_from l (by omega) l.length 0 (by omega)
  refine ⟨r, ?_, ?_, ?_⟩
  ·unfold spec_TermOk.f; exact ev_bind0 (inS _ _ _) (ev_pos (by simpa using hb) e1)
  ·unfold impl_TermOk.f; exact ev_bind0 (inI _ _ _) (ev_pos (by simpa using hb) e2)
  ·rw [h]; unfold TermOkP NodesOk
   constructor
   ·intro hh; exact ⟨by omega, by omega, fun i hi => hh i hi (by omega)⟩
   ·intro hh j h1 _; exact hh.2.2 j h1
 ·refine ⟨false, ?_, ?_, ?_⟩
  ·unfold spec_TermOk.f; exact ev_bind0 (inS _ _ _) (ev_neg (by simpa using hb) ev_now)
  ·unfold impl_TermOk.f; exact ev_bind0 (inI _ _ _) (ev_neg (by simpa using hb) ev_now)
  ·simp only [Bool.false_eq_true, false_iff]; unfold TermOkP; omega
/-- The places of node i's parts. -/
def pl (l : List S39) (i : Nat) : List Int := partsL (rd_T39 l i).f0 (rd_T39 l i).f3 (rd_T39 l i).f4 (rd_T39 l i).f5
def PartsIn (l : List S39) : Prop := ∀ i < l.length, ∀ p ∈ pl l i, 0 ≤ p ∧ p < (i : Int)
theorem parts_in {l : List S39} (h : NodesOk l) : PartsIn l := by
 intro i hi p hp
 have hb := h i hi
 unfold nodeB rightB at hb
 simp only [Bool.and_eq_true] at hb
 have := inB_iff.mp (List.all_eq_true.mp hb.1.2 p hp)
 rw [List.length_take] at this
 omega
def setAll (met : List Bool) (ps : List Int) : List Bool := ps.foldl (fun m p => m.set p.toNat true) met
theorem setAll_len (ps : List Int) : ∀ met : List Bool, (setAll met ps).length = met.length := by
 induction ps with
 | nil => intro met; rfl
 | cons p ps ih => intro met; show (setAll (met.set p.toNat true) ps).length = _; rw [ih, List.length_set]
/-- Going down from node j - 1: who is met. -/
def stepR (pb : Nat → Bool) (l : List S39) (j : Nat) (met : List Bool) : List Bool := if met.getD j false = true ∧ pb j = true then setAll met (pl l j) else met
def rgo (pb : Nat → Bool) (l : List S39) : Nat → List Bool → List Bool
 | 0, met => met
 | j + 1, met => rgo pb l j (stepR pb l j met)
theorem stepR_len (pb : Nat → Bool) (l : List S39) (j : Nat) (met : List Bool) : (stepR pb l j met).length = met.length := by
 unfold stepR; split
 ·rw [setAll_len]
 ·rfl
theorem rgo_len (pb : Nat → Bool) (l : List S39) (j : Nat) : ∀ met, (rgo pb l j met).length = met.length := by
 induction j with
 | zero => intro met; rfl
 | succ j ih => intro met; show (rgo pb l j _).length = _; rw [ih, stepR_len]
def reachL (pb : Nat → Bool) (l : List S39) (root : Nat) : List Bool := rgo pb l (root + 1) ((List.replicate l.length false).set root true)
theorem reachL_len (pb : Nat → Bool) (l : List S39) (root : Nat) : (reachL pb l root).length = l.length := by unfold reachL; rw [rgo_len]; simp
theorem rdB (l : List Bool) (i : Nat) (h : i < l.length) : rdOf false l (i : Int) = l[i] := by
 unfold rdOf
 rw [Int.toNat_natCast, List.getD_eq_getElem?_getD, List.getElem?_eq_getElem h]; rfl
theorem gdB (l : List Bool) (i : Nat) (h : i < l.length) : l.getD i false = l[i] := by
 rw [List.getD_eq_getElem?_getD, List.getElem?_eq_getElem h]; rfl
theorem setAll_drop (ps : List Int) (t : Nat) (h : t < ps.length) (met : List Bool) : setAll met (ps.drop t) = setAll (met.set (rd ps (t : Int)).toNat true) (ps.drop (t + 1)) := by
 rw [List.drop_eq_getElem_cons h, rdI ps t h]; rfl
theorem reachI_l1 (pf : Int → Option Bool) (l : List S39) (x8 : Int) (ps : List Int) (hps : ps.length ≤ 3) (hp : ∀ p ∈ ps, 0 ≤ p ∧ p < (l.length : Int)) (R : List Bool) (d : Nat) : ∀ (t : Nat) (met : List Bool), t + d = ps.length → met.length = l.length →
  Ev (fun k => impl_reach.l0 pf k l (setAll met (ps.drop t)) (wrap64 (x8 - 1))) R → Ev (fun k => impl_reach.l1 pf k l met x8 ps (ps.length : Int) (t : Int)) R := by
 induction d with
 | zero =>
  intro t met ht hm h
  refine ev_succ ?_
  simp only [impl_reach.l1]
  refine ev_neg (by omega) ?_
  rw [List.drop_eq_nil_of_le (by omega)] at h
  exact h
 | succ d ih =>
  intro t met ht hm h
  have hlt : t < ps.length := by omega
  have hq := hp _ (List.getElem_mem hlt)
  refine ev_succ ?_
  simp only [impl_reach.l1]
  rw [setAll_drop ps t hlt] at h
  refine ev_pos (by omega) (ev_pos (by omega) (ev_pos (by omega) (ev_pos (by rw [rdI ps t hlt]; exact hq.1) (ev_pos (by rw [rdI ps t hlt]; omega) ?_))))
  rw [wrap_id (by omega) (by omega), show ((t : Int) + 1) = ((t + 1 : Nat) : Int) by omega]
  exact ih (t + 1) _ (by omega) (by rw [List.length_set]; exact hm) h
theorem reachI_l0 (pf : Int → Option Bool) (pb : Nat → Bool) (l : List S39) (hl : l.length ≤ 4611686018427387904) (hP : PartsIn l) (hpf : ∀ i : Nat, i < l.length → pf (i : Int) = some (pb i)) (j : Nat) : ∀ met : List Bool, j ≤ l.length → met.length = l.length →
  Ev (fun k => impl_reach.l0 pf k l met ((j : Int) - 1)) (rgo pb l j met) := by
 induction j with
 | zero =>
  intro met hj hm
  refine ev_succ ?_
  simp only [impl_reach.l0]
  exact ev_neg (by omega) ev_now
 | succ j ih =>
  intro met hj hm
  have hlt : j < met.length := by omega
  rw [show ((j + 1 : Nat) : Int) - 1 = (j : Int) by omega]
  show Ev _ (rgo pb l j (stepR pb l j met))
  refine ev_succ ?_
  simp only [impl_reach.l0]
  refine ev_pos (by omega) (ev_pos (by omega) (ev_pos (by omega) ?_))
  rw [rdB met j hlt]
  have jump : ∀ met' : List Bool, met'.length = l.length → Ev (fun k => impl_reach.l0 pf k l met' (wrap64 ((j : Int) - 1))) (rgo pb l j met') := by
   intro met' hm'
   rw [wrap_id (by omega) (by omega)]
   exact ih met' (by omega) hm'
  by_cases hb : met[j] = true
  ·refine ev_pos hb (ev_bind0 (hpf j (by omega)) ?_)
   by_cases hq : pb j = true
   ·have hs : stepR pb l j met = setAll met (pl l j) := by unfold stepR; rw [if_pos ⟨by rw [gdB met j hlt]; exact hb, hq⟩]
    rw [hq, hs]
    refine ev_succ ?_
    simp only [impl_reach.j1]
    refine ev_neg (by decide) (ev_pos (by omega) (ev_pos (by omega) (ev_bind (ev_of 1 fun k hk => partsI _ _ _ _ _ _ hk) ?_)))
    have h0 := reachI_l1 pf l (j : Int) (pl l j) (partsL_len _ _ _ _) (fun p hp => by have := hP j (by omega) p hp; omega) (rgo pb l j (setAll met (pl l j))) (pl l j).length 0 met (by omega) hm (jump _ (by rw [List.drop_zero, setAll_len]; exact hm))
    exact h0
   ·have hq' : pb j = false := by simpa using hq
    have hs : stepR pb l j met = met := by unfold stepR; rw [if_neg (fun h => hq h.2)]
    rw [hq', hs]
    refine ev_succ ?_
    simp only [impl_reach.j1]
    exact ev_pos rfl (jump met hm)
  ·have hs : stepR pb l j met = met := by unfold stepR; rw [if_neg (fun h => hb (by rw [← gdB met j hlt]; exact h.1))]
   rw [hs]
   refine ev_neg hb ?_
   refine ev_succ ?_
   simp only [impl_reach.j1]
   exact ev_pos trivial (jump met hm)
theorem reach_ev (pf : Int → Option Bool) (pb : Nat → Bool) (l : List S39) (hl : l.length ≤ 281474976710656) (hP : PartsIn l) (hpf : ∀ i : Nat, i < l.length → pf (i : Int) = some (pb i)) (root : Nat) (hr : root < l.length) :
  Ev (fun k => impl_reach.f pf k l (root : Int)) (reachL pb l root) := by
 unfold impl_reach.f
 refine ev_pos (by omega) (ev_pos (by omega) (ev_bind0 rfl (ev_pos (by omega) (ev_pos (by simp; omega) ?_))))
 have := reachI_l0 pf pb l (by omega) hP hpf (root + 1) ((List.replicate l.length false).set root true) (by omega) (by simp)
 rw [show ((root + 1 : Nat) : Int) - 1 = (root : Int) by omega] at this
 rw [Int.toNat_natCast, Int.toNat_natCast]
 exact this
theorem reachS_l2 (l : List S39) (i : Nat) (hi : i < l.length) (ps : List Int) (hps : ps.length ≤ 3) (hp : ∀ p ∈ ps, 0 ≤ p ∧ p < (l.length : Int)) (R : List Bool) (d : Nat) : ∀ (t : Nat) (met : List Bool), t + d = ps.length → met.length = l.length → met.getD i false = true →
  Ev (fun k => spec_l02Reach.l1 k l (setAll met (ps.drop t)) (wrap64 ((i : Int) - 1))) R → Ev (fun k => spec_l02Reach.l2 k l met (i : Int) ps (t : Int)) R := by
 induction d with
 | zero =>
  intro t met ht hm hb h
  refine ev_succ ?_
  simp only [spec_l02Reach.l2]
  refine ev_neg (by omega) ?_
  rw [List.drop_eq_nil_of_le (by omega)] at h
  exact h
 | succ d ih =>
  intro t met ht hm hb h
  have hlt : t < ps.length := by omega
  have hq := hp _ (List.getElem_mem hlt)
  have him : i < met.length := by omega
  refine ev_succ ?_
  simp only [spec_l02Reach.l2]
  rw [setAll_drop ps t hlt] at h
  refine ev_pos (by omega) (ev_pos (by omega) (ev_pos (by omega) (ev_pos (by rw [rdB met i him, ← gdB met i him]; exact hb) (ev_pos (by omega) (ev_pos (by rw [rdI ps t hlt]; exact hq.1) (ev_pos (by rw [rdI ps t hlt]; omega) ?_))))))
  rw [wrap_id (by omega) (by omega), show ((t : Int) + 1) = ((t + 1 : Nat) : Int) by omega]
  refine ih (t + 1) _ (by omega) (by rw [List.length_set]; exact hm) ?_ h
  rw [gdB _ i (by rw [List.length_set]; exact him), List.getElem_set]
  split
  ·rfl
  ·rw [← gdB met i him]; exact hb
theorem reachS_l1 (l : List S39) (hl : l.length ≤ 4611686018427387904) (hP : PartsIn l) (j : Nat) : ∀ met : List Bool, j ≤ l.length → met.length = l.length → Ev (fun k => spec_l02Reach.l1 k l met ((j : Int) - 1)) (rgo (fun _ => true) l j met) := by
 induction j with
 | zero =>
  intro met hj hm
  refine ev_succ ?_
  simp only [spec_l02Reach.l1]
  exact ev_neg (by omega) ev_now
 | succ j ih =>
  intro met hj hm
  have hlt : j < met.length := by omega
  rw [show ((j + 1 : Nat) : Int) - 1 = (j : Int) by omega]
  show Ev _ (rgo _ l j (stepR _ l j met))
  have jump : ∀ met' : List Bool, met'.length = l.length → Ev (fun k => spec_l02Reach.l1 k l met' (wrap64 ((j : Int) - 1))) (rgo (fun _ => true) l j met') := by
   intro met' hm'
   rw [wrap_id (by omega) (by omega)]
   exact ih met' (by omega) hm'
  refine ev_succ ?_
  simp only [spec_l02Reach.l1]
  refine ev_pos (by omega) (ev_pos (by omega) (ev_pos (by omega) (ev_bind (ev_of 1 fun k hk => partsS _ _ _ _ _ _ hk) ?_)))
  by_cases hb : met.getD j false = true
  ·have hs : stepR (fun _ => true) l j met = setAll met (pl l j) := by unfold stepR; rw [if_pos ⟨hb, rfl⟩]
   rw [hs]
   exact reachS_l2 l j (by omega) (pl l j) (partsL_len _ _ _ _) (fun p hp => by have := hP j (by omega) p hp; omega) (rgo _ l j (setAll met (pl l j))) (pl l j).length 0 met (by omega) hm hb (jump _ (by rw [List.drop_zero, setAll_len]; exact hm))
  ·have hs : stepR (fun _ => true) l j met = met := by unfold stepR; rw [if_neg (fun h => hb h.1)]
   rw [hs]
   refine ev_succ ?_
   simp only [spec_l02Reach.l2]
   by_cases h0 : (0 : Int) < ((pl l j).length : Int)
   ·refine ev_pos h0 (ev_pos (by omega) (ev_pos (by omega) (ev_neg ?_ (jump met hm))))
    rw [rdB met j hlt, ← gdB met j hlt]; exact hb
   ·exact ev_neg h0 (jump met hm)
theorem reachS_l0 (l : List S39) (hl : l.length ≤ 1048576) (hP : PartsIn l) (d : Nat) : ∀ i : Nat, i + d = l.length →
  Ev (fun k => spec_l02Reach.l0 k l ((List.range i).map fun t : Nat => ((t : Int) == (l.length : Int) - 1)) (i : Int)) (rgo (fun _ => true) l l.length ((List.range l.length).map fun t : Nat => ((t : Int) == (l.length : Int) - 1))) := by
 induction d with
 | zero =>
  intro i hi
  obtain rfl : i = l.length := by omega
  refine ev_succ ?_
  simp only [spec_l02Reach.l0]
  refine ev_neg (by omega) ?_
  rw [wrap_id (by omega) (by omega)]
  exact reachS_l1 l (by omega) hP l.length _ (Nat.le_refl _) (by simp)
 | succ d ih =>
  intro i hi
  refine ev_succ ?_
  simp only [spec_l02Reach.l0]
  refine ev_pos (by omega) (ev_pos (by rw [List.length_map, List.length_range]; omega) ?_)
  rw [wrap_id (x := (l.length : Int) - 1) (by omega) (by omega), wrap_id (by omega) (by omega), show ((i : Int) + 1) = ((i + 1 : Nat) : Int) by omega]
  have := ih (i + 1) (by omega)
  rwa [List.range_succ, List.map_append] at this
theorem l02Reach_ev (l : List S39) (hl : l.length ≤ 1048576) (h0 : 1 ≤ l.length) (hP : PartsIn l) : Ev (fun k => spec_l02Reach.f k l) (reachL (fun _ => true) l (l.length - 1)) := by
 unfold spec_l02Reach.f reachL
 have := reachS_l0 l hl hP l.length 0 (by omega)
 rw [show l.length - 1 + 1 = l.length by omega]
 have e : (List.replicate l.length false).set (l.length - 1) true = (List.range l.length).map fun t : Nat => ((t : Int) == (l.length : Int) - 1) := by
  apply List.ext_getElem
  ·simp
  ·intro t h1 h2
   rw [List.getElem_set, List.getElem_map, List.getElem_range]
   by_cases c : l.length - 1 = t
   ·rw [if_pos c]; symm; simp; omega
   ·rw [if_neg c, List.getElem_replicate]; symm; simp; simp at h2; omega
 rw [e]
 exact this
theorem isqS (a : Int) : spec_l02Quant.f a = some ((a == 19) || (a == 20)) := by
 unfold spec_l02Quant.f
 by_cases h : a = 19
 ·rw [if_pos h]; simp [h]
 ·rw [if_neg h]; simp [h]
def isqB (l : List S39) (i : Nat) : Bool := ((rd_T39 l i).f0 == 19) || ((rd_T39 l i).f0 == 20)
def varB (l : List S39) (v : Int) (i : Nat) : Bool := ((rd_T39 l i).f0 == 1) && ((rd_T39 l i).f2 == v)
def bindB (l : List S39) (v : Int) (i : Nat) : Bool := isqB l i && ((rd_T39 l i).f2 == v)
def cellF (l : List S39) (T : List (List Bool)) (i v : Nat) : Bool :=
 if bindB l v i = true then false else (varB l v i || (pl l i).any fun p => (T.getD p.toNat []).getD v false)
def FT (l : List S39) : Nat → List (List Bool)
 | 0 => []
 | i + 1 => FT l i ++ [(List.range 8).map (cellF l (FT l i) i)]
theorem FT_len (l : List S39) (i : Nat) : (FT l i).length = i := by
 induction i with
 | zero => rfl
 | succ i ih => simp [FT, ih]
theorem FT_row (l : List S39) (i : Nat) : ∀ r ∈ FT l i, r.length = 8 := by
 induction i with
 | zero => intro r hr; simp [FT] at hr
 | succ i ih =>
  intro r hr
  simp only [FT, List.mem_append, List.mem_singleton] at hr
  rcases hr with hr | rfl
  ·exact ih r hr
  ·simp
theorem FT_get (l : List S39) (n : Nat) : ∀ i < n, (FT l n).getD i [] = (List.range 8).map (cellF l (FT l i) i) := by
 induction n with
 | zero => intro i hi; omega
 | succ n ih =>
  intro i hi
  rw [FT, List.getD_eq_getElem?_getD]
  by_cases h : i < n
  ·rw [List.getElem?_append_left (by rw [FT_len]; exact h), ← List.getD_eq_getElem?_getD]; exact ih i h
  ·obtain rfl : i = n := by omega
   rw [List.getElem?_append_right (by rw [FT_len]; exact Nat.le_refl _), FT_len, Nat.sub_self]; rfl
def DF (l : List S39) (n v i : Nat) : Bool := ((FT l n).getD i []).getD v false
theorem DF_eq (l : List S39) (hP : PartsIn l) (v : Nat) (hv : v < 8) (i : Nat) (hi : i < l.length) : DF l l.length v i = if bindB l v i = true then false else (varB l v i || (pl l i).any fun p => DF l l.length v p.toNat) := by
 unfold DF
 rw [FT_get l l.length i hi, List.getD_eq_getElem?_getD, List.getElem?_map, List.getElem?_range hv]
 show cellF l (FT l i) i v = _
 unfold cellF
 have e : ((pl l i).any fun p => ((FT l i).getD p.toNat []).getD v false) = (pl l i).any fun p => ((FT l l.length).getD p.toNat []).getD v false := by
  rw [Bool.eq_iff_iff, List.any_eq_true, List.any_eq_true]
  constructor
  ·rintro ⟨p, hp, h⟩
   have := hP i hi p hp
   exact ⟨p, hp, by rw [FT_get l i p.toNat (by omega)] at h; rw [FT_get l l.length p.toNat (by omega)]; exact h⟩
  ·rintro ⟨p, hp, h⟩
   have := hP i hi p hp
   exact ⟨p, hp, by rw [FT_get l l.length p.toNat (by omega)] at h; rw [FT_get l i p.toNat (by omega)]; exact h⟩
 rw [e]
theorem setAll_get (ps : List Int) : ∀ (met : List Bool) (i : Nat), (setAll met ps).getD i false = true ↔ met.getD i false = true ∨ (i < met.length ∧ ∃ p ∈ ps, p.toNat = i) := by
 induction ps with
 | nil => intro met i; simp [setAll]
 | cons p ps ih =>
  intro met i
  show (setAll (met.set p.toNat true) ps).getD i false = true ↔ _
  rw [ih, List.length_set]
  have h1 : (met.set p.toNat true).getD i false = true ↔ met.getD i false = true ∨ (i < met.length ∧ p.toNat = i) := by
   by_cases hi : i < met.length
   ·rw [gdB _ i (by rw [List.length_set]; exact hi), List.getElem_set, gdB met i hi]
    by_cases c : p.toNat = i
    ·simp [c, hi]
    ·simp [c]
   ·rw [List.getD_eq_getElem?_getD, List.getElem?_eq_none (by rw [List.length_set]; omega), List.getD_eq_getElem?_getD, List.getElem?_eq_none (by omega)]
    simp [hi]
  rw [h1]
  constructor
  ·rintro ((h | h) | ⟨h, q, hq, e⟩)
   ·exact .inl h
   ·exact .inr ⟨h.1, p, List.mem_cons_self .., h.2⟩
   ·exact .inr ⟨h, q, List.mem_cons_of_mem _ hq, e⟩
  ·rintro (h | ⟨h, q, hq, e⟩)
   ·exact .inl (.inl h)
   ·rcases List.mem_cons.mp hq with rfl | hq
    ·exact .inl (.inr ⟨h, e⟩)
    ·exact .inr ⟨h, q, hq, e⟩
theorem free_reach (l : List S39) (hP : PartsIn l) (v : Nat) (hv : v < 8) (j : Nat) : ∀ met : List Bool, j ≤ l.length → met.length = l.length →
  (((∃ i, j ≤ i ∧ i < l.length ∧ met.getD i false = true ∧ varB l v i = true) ∨ (∃ i < j, met.getD i false = true ∧ DF l l.length v i = true)) ↔
   ∃ i < l.length, (rgo (fun i => !bindB l v i) l j met).getD i false = true ∧ varB l v i = true) := by
 induction j with
 | zero =>
  intro met hj hm
  simp only [rgo]
  constructor
  ·rintro (⟨i, _, h1, h2, h3⟩ | ⟨i, h, _⟩)
   ·exact ⟨i, h1, h2, h3⟩
   ·omega
  ·rintro ⟨i, h1, h2, h3⟩; exact .inl ⟨i, by omega, h1, h2, h3⟩
 | succ j ih =>
  intro met hj hm
  show _ ↔ ∃ i < l.length, (rgo (fun i => !bindB l v i) l j (stepR _ l j met)).getD i false = true ∧ varB l v i = true
  rw [← ih _ (by omega) (by rw [stepR_len]; exact hm)]
  have hD := DF_eq l hP v hv j (by omega)
  by_cases hb : met.getD j false = true
  ·by_cases hq : bindB l v j = true
   ·have hs : stepR (fun i => !bindB l v i) l j met = met := by unfold stepR; rw [if_neg (by simp [hq])]
    rw [hs]
    rw [if_pos hq] at hD
    have hnv : varB l v j = false := by
     unfold bindB isqB at hq
     unfold varB
     have : (rd_T39 l j).f0 = 19 ∨ (rd_T39 l j).f0 = 20 := by simp at hq; exact hq.1
     rcases this with h | h <;> simp [h]
    constructor
    ·rintro (⟨i, h0, h1, h2, h3⟩ | ⟨i, h0, h1, h2⟩)
     ·exact .inl ⟨i, by omega, h1, h2, h3⟩
     ·rcases Nat.lt_or_ge i j with c | c
      ·exact .inr ⟨i, c, h1, h2⟩
      ·obtain rfl : i = j := by omega
       rw [hD] at h2; simp at h2
    ·rintro (⟨i, h0, h1, h2, h3⟩ | ⟨i, h0, h1, h2⟩)
     ·rcases Nat.lt_or_ge j i with c | c
      ·exact .inl ⟨i, by omega, h1, h2, h3⟩
      ·obtain rfl : i = j := by omega
       rw [hnv] at h3; simp at h3
     ·exact .inr ⟨i, by omega, h1, h2⟩
   ·have hs : stepR (fun i => !bindB l v i) l j met = setAll met (pl l j) := by unfold stepR; rw [if_pos ⟨hb, by simpa using hq⟩]
    rw [hs]
    rw [if_neg hq] at hD
    have hin := hP j (by omega)
    constructor
    ·rintro (⟨i, h0, h1, h2, h3⟩ | ⟨i, h0, h1, h2⟩)
     ·exact .inl ⟨i, by omega, h1, (setAll_get _ _ _).mpr (.inl h2), h3⟩
     ·rcases Nat.lt_or_ge i j with c | c
      ·exact .inr ⟨i, c, (setAll_get _ _ _).mpr (.inl h1), h2⟩
      ·obtain rfl : i = j := by omega
       rw [hD, Bool.or_eq_true, List.any_eq_true] at h2
       rcases h2 with h2 | ⟨p, hp, h2⟩
       ·exact .inl ⟨i, by omega, by omega, (setAll_get _ _ _).mpr (.inl h1), h2⟩
       ·have := hin p hp
        exact .inr ⟨p.toNat, by omega, (setAll_get _ _ _).mpr (.inr ⟨by omega, p, hp, rfl⟩), h2⟩
    ·rintro (⟨i, h0, h1, h2, h3⟩ | ⟨i, h0, h1, h2⟩)
     ·have h2' : met.getD i false = true := by
       rcases (setAll_get _ _ _).mp h2 with h | ⟨_, p, hp, e⟩
       ·exact h
       ·have := hin p hp; omega
      rcases Nat.lt_or_ge j i with c | c
      ·exact .inl ⟨i, by omega, h1, h2', h3⟩
      ·obtain rfl : i = j := by omega
       exact .inr ⟨i, by omega, h2', by rw [hD, h3, Bool.true_or]⟩
     ·rcases (setAll_get _ _ _).mp h1 with h | ⟨_, p, hp, e⟩
      ·exact .inr ⟨i, by omega, h, h2⟩
      ·refine .inr ⟨j, by omega, hb, ?_⟩
       rw [hD, Bool.or_eq_true, List.any_eq_true]
       exact .inr ⟨p, hp, by rw [e]; exact h2⟩
  ·have hs : stepR (fun i => !bindB l v i) l j met = met := by unfold stepR; rw [if_neg (fun h => hb h.1)]
   rw [hs]
   constructor
   ·rintro (⟨i, h0, h1, h2, h3⟩ | ⟨i, h0, h1, h2⟩)
    ·exact .inl ⟨i, by omega, h1, h2, h3⟩
    ·rcases Nat.lt_or_ge i j with c | c
     ·exact .inr ⟨i, c, h1, h2⟩
     ·obtain rfl : i = j := by omega
      exact absurd h1 hb
   ·rintro (⟨i, h0, h1, h2, h3⟩ | ⟨i, h0, h1, h2⟩)
    ·rcases Nat.lt_or_ge j i with c | c
     ·exact .inl ⟨i, by omega, h1, h2, h3⟩
     ·obtain rfl : i = j := by omega
      exact absurd h2 hb
    ·exact .inr ⟨i, by omega, h1, h2⟩
theorem free_root (l : List S39) (h0 : 1 ≤ l.length) (hP : PartsIn l) (v : Nat) (hv : v < 8) :
  (∃ i < l.length, (reachL (fun i => !bindB l v i) l (l.length - 1)).getD i false = true ∧ varB l v i = true) ↔ DF l l.length v (l.length - 1) = true := by
 unfold reachL
 rw [show l.length - 1 + 1 = l.length by omega, ← free_reach l hP v hv l.length _ (Nat.le_refl _) (by simp)]
 have hm : ∀ i, ((List.replicate l.length false).set (l.length - 1) true).getD i false = true ↔ i = l.length - 1 := by
  intro i
  by_cases hi : i < l.length
  ·rw [gdB _ i (by simpa using hi), List.getElem_set]
   by_cases c : l.length - 1 = i
   ·simp [c]
   ·simp [c]; omega
  ·rw [List.getD_eq_getElem?_getD, List.getElem?_eq_none (by simp; omega)]; simp; omega
 constructor
 ·rintro (⟨i, a, b, _⟩ | ⟨i, a, b, c⟩)
  ·omega
  ·rw [(hm i).mp b] at c; exact c
 ·intro h; exact .inr ⟨l.length - 1, by omega, (hm _).mpr rfl, h⟩
theorem placeOf_ev (l : List S39) (hl : l.length ≤ 4611686018427387904) (v : Int) (met : List Bool) (hm : met.length = l.length) (d : Nat) : ∀ i : Nat, i + d = l.length →
  ∃ r, Ev (fun k => impl_placeOf.l0 k v met l (l.length : Int) (i : Int)) r ∧ (r ≥ 0 ↔ ∃ j, i ≤ j ∧ j < l.length ∧ met.getD j false = true ∧ varB l v j = true) := by
 induction d with
 | zero =>
  intro i hi
  refine ⟨-1, ev_succ ?_, ?_⟩
  ·simp only [impl_placeOf.l0]; exact ev_neg (by omega) ev_now
  ·constructor
   ·intro h; omega
   ·rintro ⟨j, a, b, _⟩; omega
 | succ d ih =>
  intro i hi
  have hlt : i < l.length := by omega
  obtain ⟨r, e, h⟩ := ih (i + 1) (by omega)
  have e' : Ev (fun k => impl_placeOf.l0 k v met l (l.length : Int) (wrap64 ((i : Int) + 1))) r := by
   rw [wrap_id (by omega) (by omega), show ((i : Int) + 1) = ((i + 1 : Nat) : Int) by omega]; exact e
  have skip : ¬ (met.getD i false = true ∧ varB l v i = true) → (r ≥ 0 ↔ ∃ j, i ≤ j ∧ j < l.length ∧ met.getD j false = true ∧ varB l v j = true) := by
   intro hn
   rw [h]
   constructor
   ·rintro ⟨j, a, b⟩; exact ⟨j, by omega, b⟩
   ·rintro ⟨j, a, b, c⟩
    rcases Nat.lt_or_ge i j with q | q
    ·exact ⟨j, by omega, b, c⟩
    ·obtain rfl : i = j := by omega
     exact absurd c hn
  by_cases hb : met.getD i false = true
  ·by_cases h1 : (rd_T39 l i).f0 = 1
   ·by_cases h2 : (rd_T39 l i).f2 = v
    ·refine ⟨(i : Int), ev_succ ?_, ?_⟩
     ·simp only [impl_placeOf.l0]
      exact ev_pos (by omega) (ev_pos (by omega) (ev_pos (by omega) (ev_pos (by omega) (ev_pos (by rw [rdB met i (by omega), ← gdB met i (by omega)]; exact hb) (ev_pos h1 (ev_pos h2 ev_now))))))
     ·exact ⟨fun _ => ⟨i, by omega, hlt, hb, by unfold varB; simp [h1, h2]⟩, fun _ => by omega⟩
    ·refine ⟨r, ev_succ ?_, skip (fun hh => h2 ?_)⟩
     ·simp only [impl_placeOf.l0]
      exact ev_pos (by omega) (ev_pos (by omega) (ev_pos (by omega) (ev_pos (by omega) (ev_pos (by rw [rdB met i (by omega), ← gdB met i (by omega)]; exact hb) (ev_pos h1 (ev_neg h2 e'))))))
     ·have := hh.2; unfold varB at this; simp at this; exact this.2
   ·refine ⟨r, ev_succ ?_, skip (fun hh => h1 ?_)⟩
    ·simp only [impl_placeOf.l0]
     exact ev_pos (by omega) (ev_pos (by omega) (ev_pos (by omega) (ev_pos (by omega) (ev_pos (by rw [rdB met i (by omega), ← gdB met i (by omega)]; exact hb) (ev_neg h1 e')))))
    ·have := hh.2; unfold varB at this; simp at this; exact this.1
  ·refine ⟨r, ev_succ ?_, skip (fun hh => hb hh.1)⟩
   simp only [impl_placeOf.l0]
   exact ev_pos (by omega) (ev_pos (by omega) (ev_pos (by omega) (ev_pos (by omega) (ev_neg (by rw [rdB met i (by omega), ← gdB met i (by omega)]; exact hb) e'))))
theorem freeAt_ev (l : List S39) (hl : l.length ≤ 281474976710656) (h0 : 1 ≤ l.length) (hP : PartsIn l) (v : Int) : Ev (fun k => impl_freeAt.f k l v) (reachL (fun i => !bindB l v i) l (l.length - 1)) := by
 unfold impl_freeAt.f
 rw [wrap_id (by omega) (by omega), show (l.length : Int) - 1 = ((l.length - 1 : Nat) : Int) by omega]
 refine reach_ev _ _ l hl hP (fun i hi => ?_) (l.length - 1) (by omega)
 unfold impl_freeAt_1.f
 rw [if_pos (by omega), if_pos (by omega)]
 unfold bindB isqB
 congr 1
 cases ((rd_T39 l i).f0 == 19) || ((rd_T39 l i).f0 == 20) <;> simp [bne]
theorem firstFree_ev (l : List S39) (hl : l.length ≤ 281474976710656) (h0 : 1 ≤ l.length) (hP : PartsIn l) (v : Nat) (hv : v < 8) : ∃ r, Ev (fun k => impl_firstFree.f k l (v : Int)) r ∧ (r ≥ 0 ↔ DF l l.length v (l.length - 1) = true) := by
 obtain ⟨r, e, h⟩ := placeOf_ev l (by omega) (v : Int) (reachL (fun i => !bindB l v i) l (l.length - 1)) (reachL_len _ _ _) l.length 0 (by omega)
 refine ⟨r, ?_, ?_⟩
 ·unfold impl_firstFree.f impl_placeOf.f
  exact ev_bind (freeAt_ev l hl h0 hP (v : Int)) (ev_bind e ev_now)
 ·rw [h, ← free_root l h0 hP v hv]
  constructor
  ·rintro ⟨j, _, a⟩; exact ⟨j, a⟩
  ·rintro ⟨j, a⟩; exact ⟨j, by omega, a⟩
theorem l2F (l : List S39) (i : Nat) (hi : i < l.length) (hl : l.length ≤ 80) (T : List (List Bool)) (hT : T.length = i) (hR : ∀ r ∈ T, r.length = 8) (row : List Bool) (v : Nat) (hv : v < 8) (hrow : row.length = v) (ps : List Int) (hps : ps.length ≤ 3) (hp : ∀ p ∈ ps, 0 ≤ p ∧ p < (i : Int)) (R : List Bool) (d : Nat) :
  ∀ (t : Nat) (x7 : Bool), t + d = ps.length →
  Ev (fun k => spec_l02Free.l1 k l T (i : Int) (row ++ [if bindB l v i = true then false else (x7 || (ps.drop t).any fun p => (T.getD p.toNat []).getD v false)]) (wrap64 ((v : Int) + 1))) R →
  Ev (fun k => spec_l02Free.l2 k l T (i : Int) row (v : Int) x7 ps (t : Int)) R := by
 induction d with
 | zero =>
  intro t x7 ht h
  rw [List.drop_eq_nil_of_le (by omega)] at h
  simp only [List.any_nil, Bool.or_false] at h
  refine ev_succ ?_
  simp only [spec_l02Free.l2]
  refine ev_neg (by omega) (ev_pos (by omega) (ev_pos (by omega) ?_))
  unfold bindB isqB at h
  by_cases a : (rd_T39 l i).f0 = 19
  ·refine ev_pos a ?_
   by_cases b : (rd_T39 l i).f2 = (v : Int)
   ·rw [if_pos (by simp [a, b])] at h
    exact ev_pos b (ev_pos (by omega) h)
   ·rw [if_neg (by simp [a, b])] at h
    exact ev_neg b (ev_pos (by omega) h)
  ·refine ev_neg a ?_
   by_cases a2 : (rd_T39 l i).f0 = 20
   ·refine ev_pos a2 ?_
    by_cases b : (rd_T39 l i).f2 = (v : Int)
    ·rw [if_pos (by simp [a2, b])] at h
     exact ev_pos b (ev_pos (by omega) h)
    ·rw [if_neg (by simp [a2, b])] at h
     exact ev_neg b (ev_pos (by omega) h)
   ·rw [if_neg (by simp [a, a2])] at h
    exact ev_neg a2 (ev_pos (by omega) h)
 | succ d ih =>
  intro t x7 ht h
  have hlt : t < ps.length := by omega
  have hq := hp _ (List.getElem_mem hlt)
  rw [List.drop_eq_getElem_cons hlt, List.any_cons, ← Bool.or_assoc] at h
  refine ev_succ ?_
  simp only [spec_l02Free.l2]
  refine ev_pos (by omega) ?_
  rw [wrap_id (x := (t : Int) + 1) (by omega) (by omega), show ((t : Int) + 1) = ((t + 1 : Nat) : Int) by omega, rdI ps t hlt]
  by_cases hx : x7 = true
  ·rw [hx, Bool.true_or] at h
   exact ev_pos hx (ih (t + 1) true (by omega) h)
  ·have hx' : x7 = false := by simpa using hx
   rw [hx', Bool.false_or] at h
   have hr : (T.getD ps[t].toNat []).length = 8 := by
    rw [List.getD_eq_getElem?_getD, List.getElem?_eq_getElem (by omega)]
    exact hR _ (List.getElem_mem _)
   refine ev_neg hx (ev_pos (by omega) (ev_pos hq.1 (ev_pos (by omega) (ev_pos (by omega) (ev_pos ?_ ?_)))))
   ·show (v : Int) < ((T.getD ps[t].toNat []).length : Int); omega
   ·refine ih (t + 1) _ (by omega) ?_
    exact h
theorem l1F (l : List S39) (i : Nat) (hi : i < l.length) (hl : l.length ≤ 80) (hP : PartsIn l) (T : List (List Bool)) (hT : T.length = i) (hR : ∀ r ∈ T, r.length = 8) (R : List Bool)
  (h : Ev (fun k => spec_l02Free.l0 k l (T ++ [(List.range 8).map (cellF l T i)]) (wrap64 ((i : Int) + 1))) R) (d : Nat) :
  ∀ v : Nat, v + d = 8 → Ev (fun k => spec_l02Free.l1 k l T (i : Int) ((List.range v).map (cellF l T i)) (v : Int)) R := by
 induction d with
 | zero =>
  intro v hv
  obtain rfl : v = 8 := by omega
  refine ev_succ ?_
  simp only [spec_l02Free.l1]
  exact ev_neg (by omega) (ev_pos (by omega) h)
 | succ d ih =>
  intro v hv
  refine ev_succ ?_
  simp only [spec_l02Free.l1]
  have go : ∀ x7 : Bool, x7 = varB l v i → Ev (fun k => spec_l02Free.j2 k l T (i : Int) ((List.range v).map (cellF l T i)) (v : Int) x7) R := by
   rintro x7 rfl
   refine ev_succ ?_
   simp only [spec_l02Free.j2]
   refine ev_pos (by omega) (ev_pos (by omega) (ev_bind (ev_of 1 fun k hk => partsS _ _ _ _ _ _ hk) ?_))
   refine l2F l i hi hl T hT hR _ v (by omega) (by simp) (pl l i) (partsL_len _ _ _ _) (hP i hi) R (pl l i).length 0 _ (by omega) ?_
   have := ih (v + 1) (by omega)
   rw [List.range_succ, List.map_append] at this
   rw [wrap_id (by omega) (by omega), show ((v : Int) + 1) = ((v + 1 : Nat) : Int) by omega]
   exact this
  refine ev_pos (by omega) (ev_pos (by omega) (ev_pos (by omega) ?_))
  by_cases a : (rd_T39 l i).f0 = 1
  ·exact ev_pos a (go _ (by unfold varB; simp [a]))
  ·exact ev_neg a (go _ (by unfold varB; simp [a]))
theorem l0F (l : List S39) (hl : l.length ≤ 80) (h0 : 1 ≤ l.length) (hP : PartsIn l) (d : Nat) : ∀ i : Nat, i + d = l.length → Ev (fun k => spec_l02Free.l0 k l (FT l i) (i : Int)) ((FT l l.length).getD (l.length - 1) []) := by
 induction d with
 | zero =>
  intro i hi
  obtain rfl : i = l.length := by omega
  refine ev_succ ?_
  simp only [spec_l02Free.l0]
  rw [wrap_id (x := (l.length : Int) - 1) (by omega) (by omega)]
  refine ev_neg (by omega) (ev_pos (by omega) (ev_pos (by rw [FT_len]; omega) (ev_eq ?_)))
  unfold rd_L4
  rw [show ((l.length : Int) - 1).toNat = l.length - 1 by omega]
 | succ d ih =>
  intro i hi
  refine ev_succ ?_
  simp only [spec_l02Free.l0]
  refine ev_pos (by omega) ?_
  refine l1F l i (by omega) hl hP (FT l i) (FT_len l i) (FT_row l i) _ ?_ 8 0 rfl
  have := ih (i + 1) (by omega)
  rw [wrap_id (by omega) (by omega), show ((i : Int) + 1) = ((i + 1 : Nat) : Int) by omega]
  exact this
theorem l02Free_ev (l : List S39) (hl : l.length ≤ 80) (h0 : 1 ≤ l.length) (hP : PartsIn l) : Ev (fun k => spec_l02Free.f k l) ((FT l l.length).getD (l.length - 1) []) := l0F l hl h0 hP l.length 0 (by omega)
def freeV (D : Nat → Bool) : Nat → Nat → List Int
 | 0, _ => []
 | d + 1, v => if D v = true then (v : Int) :: freeV D d (v + 1) else freeV D d (v + 1)
theorem free_from (l : List S39) (hl : l.length ≤ 80) (h0 : 1 ≤ l.length) (hP : PartsIn l) (d : Nat) : ∀ (v : Nat) (out : List Int), v + d = 8 → out.length + d ≤ 8 →
  ∃ r, Ev (fun k => spec_Free.l0 k out ((FT l l.length).getD (l.length - 1) []) (v : Int)) r ∧ Ev (fun k => impl_Free.l0 k l out (v : Int)) r ∧ r.length ≤ 8 ∧ r = out ++ freeV (fun v => DF l l.length v (l.length - 1)) d v := by
 have hrow : ((FT l l.length).getD (l.length - 1) []).length = 8 := by rw [FT_get l l.length _ (by omega)]; simp
 induction d with
 | zero =>
  intro v out hv ho
  refine ⟨out, ev_succ ?_, ev_succ ?_, by omega, by simp [freeV]⟩
  ·simp only [spec_Free.l0]; exact ev_neg (by omega) ev_now
  ·simp only [impl_Free.l0]; exact ev_neg (by omega) ev_now
 | succ d ih =>
  intro v out hv ho
  obtain ⟨q, eq, hq⟩ := firstFree_ev l (by omega) h0 hP v (by omega)
  have hrd : rdOf false ((FT l l.length).getD (l.length - 1) []) (v : Int) = DF l l.length v (l.length - 1) := by
   unfold rdOf DF; rw [Int.toNat_natCast]
  by_cases hD : DF l l.length v (l.length - 1) = true
  ·obtain ⟨r, e1, e2, hr, he⟩ := ih (v + 1) (out ++ [(v : Int)]) (by omega) (by simp; omega)
   refine ⟨r, ev_succ ?_, ev_succ ?_, hr, by rw [he]; simp [freeV, hD]⟩
   ·simp only [spec_Free.l0]
    refine ev_pos (by omega) (ev_pos (by omega) (ev_pos (by omega) (ev_pos (by rw [hrd]; exact hD) (ev_pos (by omega) ?_))))
    rw [wrap_id (by omega) (by omega), show ((v : Int) + 1) = ((v + 1 : Nat) : Int) by omega]; exact e1
   ·simp only [impl_Free.l0]
    refine ev_pos (by omega) (ev_bind eq (ev_pos (hq.mpr hD) (ev_pos (by omega) ?_)))
    rw [wrap_id (by omega) (by omega), show ((v : Int) + 1) = ((v + 1 : Nat) : Int) by omega]; exact e2
  ·obtain ⟨r, e1, e2, hr, he⟩ := ih (v + 1) out (by omega) (by omega)
   refine ⟨r, ev_succ ?_, ev_succ ?_, hr, by rw [he]; simp [freeV, hD]⟩
   ·simp only [spec_Free.l0]
    refine ev_pos (by omega) (ev_pos (by omega) (ev_pos (by omega) (ev_neg (by rw [hrd]; exact hD) ?_)))
    rw [wrap_id (by omega) (by omega), show ((v : Int) + 1) = ((v + 1 : Nat) : Int) by omega]; exact e1
   ·simp only [impl_Free.l0]
    refine ev_pos (by omega) (ev_bind eq (ev_neg (fun h => hD (hq.mp h)) ?_))
    rw [wrap_id (by omega) (by omega), show ((v : Int) + 1) = ((v + 1 : Nat) : Int) by omega]; exact e2
def freeL (l : List S39) : List Int := freeV (fun v => DF l l.length v (l.length - 1)) 8 0
theorem Free_is (l : List S39) (h : TermOkP l) : Ev (fun k => spec_Free.f k l) (freeL l) ∧ Ev (fun k => impl_Free.f k l) (freeL l) ∧ (freeL l).length ≤ 8 := by
 obtain ⟨b, e1, e2, hb⟩ := term_ev l
 obtain rfl : b = true := hb.mpr h
 obtain ⟨h1, h2, h3⟩ := h
 obtain ⟨r, f1, f2, hr, he⟩ := free_from l h2 h1 (parts_in h3) 8 0 [] rfl (by simp)
 obtain rfl : r = freeL l := by rw [he, List.nil_append]; rfl
 unfold spec_Free.f impl_Free.f
 exact ⟨ev_bind0 rfl (ev_bind e1 (ev_pos rfl (ev_bind (l02Free_ev l h2 h1 (parts_in h3)) f1))), ev_bind0 rfl (ev_bind e2 (ev_pos rfl f2)), hr⟩
theorem Free_ev (l : List S39) : ∃ r, Ev (fun k => spec_Free.f k l) r ∧ Ev (fun k => impl_Free.f k l) r ∧ r.length ≤ 8 := by
 obtain ⟨b, e1, e2, h⟩ := term_ev l
 unfold spec_Free.f impl_Free.f
 by_cases hb : b = true
 ·obtain ⟨h1, h2, h3⟩ := h.mp hb
  obtain ⟨r, f1, f2, hr, _⟩ := free_from l h2 h1 (parts_in h3) 8 0 [] rfl (by simp)
  exact ⟨r, ev_bind0 rfl (ev_bind e1 (ev_pos hb (ev_bind (l02Free_ev l h2 h1 (parts_in h3)) f1))), ev_bind0 rfl (ev_bind e2 (ev_pos hb f2)), hr⟩
 ·exact ⟨[], ev_bind0 rfl (ev_bind e1 (ev_neg hb ev_now)), ev_bind0 rfl (ev_bind e2 (ev_neg hb ev_now)), by simp⟩
/-- From some rounds on it answers, and what it answers has P. -/
def Ok {α : Type} (g : Nat → Option α) (P : α → Prop) : Prop := ∃ r, Ev g r ∧ P r
theorem ok_now {α : Type} {P : α → Prop} {r : α} (h : P r) : Ok (fun _ => some r) P := ⟨r, ev_now, h⟩
theorem ok_ev {α : Type} {g : Nat → Option α} {P : α → Prop} {r : α} (e : Ev g r) (h : P r) : Ok g P := ⟨r, e, h⟩
theorem ok_mono {α : Type} {g : Nat → Option α} {P Q : α → Prop} (h : Ok g P) (k : ∀ a, P a → Q a) : Ok g Q := by
 obtain ⟨r, e, p⟩ := h; exact ⟨r, e, k r p⟩
theorem ok_bind {α β : Type} {g : Nat → Option α} {f : Nat → α → Option β} {P : α → Prop} {Q : β → Prop} (h : Ok g P) (k : ∀ a, P a → Ok (fun n => f n a) Q) : Ok (fun n => (g n).bind (f n)) Q := by
 obtain ⟨a, e, p⟩ := h
 obtain ⟨r, e2, q⟩ := k a p
 exact ⟨r, ev_bind e e2, q⟩
theorem ok_bind0 {α β : Type} {c : Option α} {f : Nat → α → Option β} {Q : β → Prop} {a : α} (h : c = some a) (k : Ok (fun n => f n a) Q) : Ok (fun n => c.bind (f n)) Q := by
 subst h; exact k
theorem ok_pos {α : Type} {c : Prop} [Decidable c] {A B : Nat → Option α} {P : α → Prop} (h : c) (k : Ok A P) : Ok (fun n => if c then A n else B n) P := by
 simpa [h] using k
theorem ok_neg {α : Type} {c : Prop} [Decidable c] {A B : Nat → Option α} {P : α → Prop} (h : ¬ c) (k : Ok B P) : Ok (fun n => if c then A n else B n) P := by
 simpa [h] using k
theorem ok_if {α : Type} {c : Prop} [Decidable c] {A B : Nat → Option α} {P : α → Prop} (k : c → Ok A P) (j : ¬ c → Ok B P) : Ok (fun n => if c then A n else B n) P := by
 by_cases h : c
 ·exact ok_pos h (k h)
 ·exact ok_neg h (j h)
theorem ok_succ {α : Type} {g : Nat → Option α} {P : α → Prop} (k : Ok (fun n => g (n + 1)) P) : Ok g P := by
 obtain ⟨r, e, p⟩ := k
 exact ⟨r, ev_succ e, p⟩
theorem push_ok (t : List S39) (ht : t.length ≤ 1000000) (a b c d e f : Int) : spec_l02Push.f t a b c d e f = some (t ++ [⟨a, b, c, d, e, f⟩], (t.length : Int)) := by
 unfold spec_l02Push.f; rw [if_pos (by omega)]
/-- A term that has grown by at most s nodes, the place of one of them, and the reader. -/
def DP (t : List S39) (s : Nat) (b : List Int) (r : List S39 × Int × Int × Int) : Prop := r.1.length ≤ t.length + s ∧ 0 ≤ r.2.1 ∧ r.2.1 < (r.1.length : Int) ∧ Cur b r.2.2.1
def VarsOk (vs : List S39) : Prop := vs.length ≤ 1000 ∧ ∀ x ∈ vs, 1 ≤ x.f1 ∧ x.f1 ≤ 8
theorem vars_get {vs : List S39} (h : VarsOk vs) (p : Int) (h0 : 0 ≤ p) (h1 : p < (vs.length : Int)) : 1 ≤ (rd_T39 vs p).f1 ∧ (rd_T39 vs p).f1 ≤ 8 := by
 obtain ⟨q, rfl⟩ := Int.eq_ofNat_of_zero_le h0
 rw [rdN vs q (by omega)]
 exact h.2 _ (List.getElem_mem _)
def DS : Nat → Nat
 | 0 => 1
 | d + 1 => 3 * DS d + 1
theorem DS_pos (d : Nat) : 1 ≤ DS d := by cases d <;> simp [DS]
/-- What l02Deep does one level lower. -/
def DeepAt (d : Nat) : Prop := ∀ (b : List Int) (i h : Int) (t vs : List S39) (w : Int), Cur b i → t.length ≤ 100000 → VarsOk vs → 1 ≤ w → w ≤ 8 → Ok (fun k => spec_l02Deep.f k b i h t vs w (d : Int)) (DP t (DS d) b)
theorem deep_j2 (b : List Int) (i h : Int) (t vs : List S39) (w : Int) (same : List Int) (x : Bool) (hc : Cur b i) (ht : t.length ≤ 100000) (h0 : 1 ≤ w) (h8 : w ≤ 8) (hs : ∀ y ∈ same, 0 ≤ y ∧ y < (vs.length : Int)) (hx : x = true → 0 < same.length) (s : Nat) (h1 : 1 ≤ s) :
  Ok (fun k => spec_l02Deep.j2 k t vs w same x b i h) (DP t s b) := by
 refine ok_succ ?_
 simp only [spec_l02Deep.j2]
 refine ok_if (fun hxt => ?_) (fun _ => ?_)
 ·obtain ⟨y, i', h', e, y0, _, y1, c⟩ := below_some b i h (same.length : Int) hc
  have hl := hx hxt
  have y1 := y1 (by omega)
  refine ok_bind0 e (ok_pos y0 (ok_pos y1 ?_))
  have hm := hs (rd same y) (by
   rw [show rd same y = same[y.toNat] from by unfold rd; rw [List.getD_eq_getElem?_getD, List.getElem?_eq_getElem (by omega)]; rfl]
   exact List.getElem_mem _)
  refine ok_pos hm.1 (ok_pos hm.2 (ok_bind0 (push_ok t (by omega) _ _ _ _ _ _) (ok_now ?_)))
  refine ⟨by simp; omega, by simp, by simp; omega, c⟩
 ·refine ok_bind (ok_ev (ev_of 20 fun k hk => pow2 (by omega) h8 hk) rfl) (fun p hp => ?_)
  subst hp
  obtain ⟨y, i', h', e, y0, _, y1, c⟩ := below_some b i h (P2 w) hc
  refine ok_bind0 e (ok_bind0 (push_ok t (by omega) _ _ _ _ _ _) (ok_now ?_))
  refine ⟨by simp; omega, by simp, by simp; omega, c⟩
theorem deep_j4 (d : Nat) (hd : d ≤ 10) (ih : DeepAt d) (b : List Int) (i h : Int) (t vs : List S39) (w : Int) (hc : Cur b i) (ht : t.length + 3 * DS d ≤ 100000) (hv : VarsOk vs) (h0 : 1 ≤ w) (h8 : w ≤ 8) :
  Ok (fun k => spec_l02Deep.j4 k t vs w ((d + 1 : Nat) : Int) b i h) (DP t (DS (d + 1)) b) := by
 refine ok_succ ?_
 simp only [spec_l02Deep.j4]
 rw [wrap_id (x := ((d + 1 : Nat) : Int) - 1) (by omega) (by omega), show ((d + 1 : Nat) : Int) - 1 = (d : Int) by omega]
 refine ok_bind (ih b i h t vs w hc (by omega) hv h0 h8) (fun r hr => ?_)
 obtain ⟨t1, a1, i1, h1⟩ := r
 obtain ⟨l1, m1, n1, c1⟩ := hr
 simp only at l1 m1 n1 c1
 refine ok_bind (ih b i1 h1 t1 vs w c1 (by omega) hv h0 h8) (fun r hr => ?_)
 obtain ⟨t2, a2, i2, h2⟩ := r
 obtain ⟨l2, m2, n2, c2⟩ := hr
 simp only at l2 m2 n2 c2
 obtain ⟨y, i3, h3, e, _, _, _, c3⟩ := below_some b i2 h2 10 c2
 refine ok_bind0 e (ok_bind0 (push_ok t2 (by omega) _ _ _ _ _ _) (ok_now ?_))
 exact ⟨by simp [DS]; omega, by simp, by simp; omega, c3⟩
theorem deep_j3 (d : Nat) (hd : d ≤ 10) (ih : DeepAt d) (b : List Int) (i h : Int) (t vs : List S39) (w : Int) (x : Bool) (hc : Cur b i) (ht : t.length + 3 * DS d ≤ 100000) (hv : VarsOk vs) (h0 : 1 ≤ w) (h8 : w ≤ 8) (hx : x = true → 0 < vs.length) :
  Ok (fun k => spec_l02Deep.j3 k t vs w ((d + 1 : Nat) : Int) x b i h) (DP t (DS (d + 1)) b) := by
 have hvl := hv.1
 have hj4 : ∀ i h, Cur b i → Ok (fun k => spec_l02Deep.j4 k t vs w ((d + 1 : Nat) : Int) b i h) (DP t (DS (d + 1)) b) := fun i h hc => deep_j4 d hd ih b i h t vs w hc ht hv h0 h8
 refine ok_succ ?_
 simp only [spec_l02Deep.j3]
 rw [wrap_id (x := ((d + 1 : Nat) : Int) - 1) (by omega) (by omega), show ((d + 1 : Nat) : Int) - 1 = (d : Int) by omega]
 refine ok_if (fun hxt => ?_) (fun _ => ?_)
 ·have hl := hx hxt
  obtain ⟨y, i1, h1, e, y0, _, y1, c1⟩ := below_some b i h (vs.length : Int) hc
  have y1 := y1 (by omega)
  have hw := vars_get hv y y0 y1
  refine ok_bind0 e (ok_pos y0 (ok_pos y1 (ok_bind (ih b i1 h1 t vs _ c1 (by omega) hv hw.1 hw.2) (fun r hr => ?_))))
  obtain ⟨t1, a1, i2, h2⟩ := r
  obtain ⟨l1, m1, n1, c2⟩ := hr
  simp only at l1 m1 n1 c2
  refine ok_bind (ih b i2 h2 t1 vs _ c2 (by omega) hv hw.1 hw.2) (fun r hr => ?_)
  obtain ⟨t2, a2, i3, h3⟩ := r
  obtain ⟨l2, m2, n2, c3⟩ := hr
  simp only at l2 m2 n2 c3
  obtain ⟨z, i4, h4, e4, _, _, _, c4⟩ := below_some b i3 h3 3 c3
  refine ok_bind0 e4 (ok_bind0 (push_ok t2 (by omega) _ _ _ _ _ _) (ok_now ?_))
  exact ⟨by simp [DS]; omega, by simp, by simp; omega, c4⟩
 ·obtain ⟨y, i1, h1, e, y0, _, y1, c1⟩ := below_some b i h 8 hc
  refine ok_bind0 e (ok_if (fun _ => ?_) (fun _ => ok_if (fun _ => ok_if (fun hw1 => ?_) (fun _ => hj4 _ _ c1)) (fun _ => ok_if (fun _ => ok_if (fun hv0 => ?_) (fun _ => hj4 _ _ c1)) (fun _ => ok_if (fun _ => ?_) (fun _ => hj4 _ _ c1)))))
  ·refine ok_bind (ih b i1 h1 t vs w c1 (by omega) hv h0 h8) (fun r hr => ?_)
   obtain ⟨t1, a1, i2, h2⟩ := r
   obtain ⟨l1, m1, n1, c2⟩ := hr
   simp only at l1 m1 n1 c2
   refine ok_bind0 (push_ok t1 (by omega) _ _ _ _ _ _) (ok_now ?_)
   exact ⟨by simp [DS]; omega, by simp, by simp; omega, c2⟩
  ·rw [wrap_id (x := w - 1) (by omega) (by omega)]
   obtain ⟨z, i2, h2, e2, z0, _, z1, c2⟩ := below_some b i1 h1 (w - 1) c1
   have z1 := z1 (by omega)
   refine ok_bind0 e2 ?_
   simp only
   rw [wrap_id (x := 1 + z) (by omega) (by omega), wrap_id (x := w - (1 + z)) (by omega) (by omega)]
   refine ok_bind (ih b i2 h2 t vs (1 + z) c2 (by omega) hv (by omega) (by omega)) (fun r hr => ?_)
   obtain ⟨t1, a1, i3, h3⟩ := r
   obtain ⟨l1, m1, n1, c3⟩ := hr
   simp only at l1 m1 n1 c3
   refine ok_bind (ih b i3 h3 t1 vs (w - (1 + z)) c3 (by omega) hv (by omega) (by omega)) (fun r hr => ?_)
   obtain ⟨t2, a2, i4, h4⟩ := r
   obtain ⟨l2, m2, n2, c4⟩ := hr
   simp only at l2 m2 n2 c4
   refine ok_bind0 (push_ok t2 (by omega) _ _ _ _ _ _) (ok_now ?_)
   exact ⟨by simp [DS]; omega, by simp, by simp; omega, c4⟩
  ·obtain ⟨z, i2, h2, e2, z0, _, z1, c2⟩ := below_some b i1 h1 (vs.length : Int) c1
   have z1 := z1 hv0
   have hw := vars_get hv z z0 z1
   refine ok_bind0 e2 (ok_pos z0 (ok_pos z1 (ok_if (fun hgt => ?_) (fun _ => hj4 _ _ c2))))
   refine ok_bind (ih b i2 h2 t vs _ c2 (by omega) hv hw.1 hw.2) (fun r hr => ?_)
   obtain ⟨t1, a1, i3, h3⟩ := r
   obtain ⟨l1, m1, n1, c3⟩ := hr
   simp only at l1 m1 n1 c3
   obtain ⟨y2, i4, h4, e4, _, _, _, c4⟩ := below_some b i3 h3 (wrap64 ((wrap64 (((rd_T39 vs z).f1) - w)) + 1)) c3
   refine ok_bind0 e4 (ok_bind0 (push_ok t1 (by omega) _ _ _ _ _ _) (ok_now ?_))
   exact ⟨by simp [DS]; omega, by simp, by simp; omega, c4⟩
  ·refine ok_bind (ih b i1 h1 t vs 1 c1 (by omega) hv (by omega) (by omega)) (fun r hr => ?_)
   obtain ⟨t1, a1, i2, h2⟩ := r
   obtain ⟨l1, m1, n1, c2⟩ := hr
   simp only at l1 m1 n1 c2
   refine ok_bind (ih b i2 h2 t1 vs w c2 (by omega) hv h0 h8) (fun r hr => ?_)
   obtain ⟨t2, a2, i3, h3⟩ := r
   obtain ⟨l2, m2, n2, c3⟩ := hr
   simp only at l2 m2 n2 c3
   refine ok_bind (ih b i3 h3 t2 vs w c3 (by omega) hv h0 h8) (fun r hr => ?_)
   obtain ⟨t3, a3, i4, h4⟩ := r
   obtain ⟨l3, m3, n3, c4⟩ := hr
   simp only at l3 m3 n3 c4
   refine ok_bind0 (push_ok t3 (by omega) _ _ _ _ _ _) (ok_now ?_)
   exact ⟨by simp [DS]; omega, by simp, by simp; omega, c4⟩
theorem deep_l0 (b : List Int) (i h : Int) (t vs : List S39) (w d : Int) (hv : VarsOk vs) (P : List S39 × Int × Int × Int → Prop)
  (hk : ∀ same : List Int, (∀ y ∈ same, 0 ≤ y ∧ y < (vs.length : Int)) → Ok (fun k => if d = 0 then (spec_l02Deep.j1 k t vs w d same true b i h) else (if (t.length : Int) > 40 then (spec_l02Deep.j1 k t vs w d same true b i h) else ((spec_l01Once.f b i h 5).bind fun bt411 => (spec_l02Deep.j1 k t vs w d same bt411.1 b bt411.2.1 bt411.2.2)))) P) (n : Nat) :
  ∀ (j : Nat) (same : List Int), j + n = vs.length → same.length ≤ j → (∀ y ∈ same, 0 ≤ y ∧ y < (vs.length : Int)) → Ok (fun k => spec_l02Deep.l0 k t vs w d same (j : Int) b i h) P := by
 have hvl := hv.1
 induction n with
 | zero =>
  intro j same hj _ hs
  refine ok_succ ?_
  simp only [spec_l02Deep.l0]
  exact ok_neg (by omega) (hk same hs)
 | succ n ih =>
  intro j same hj hl hs
  refine ok_succ ?_
  simp only [spec_l02Deep.l0]
  rw [wrap_id (x := (j : Int) + 1) (by omega) (by omega), show ((j : Int) + 1) = ((j + 1 : Nat) : Int) by omega]
  refine ok_pos (by omega) (ok_pos (by omega) (ok_if (fun _ => ok_pos (by omega) (ih (j + 1) _ (by omega) (by simp; omega) ?_)) (fun _ => ih (j + 1) same (by omega) (by omega) hs)))
  intro y hy
  rcases List.mem_append.mp hy with h | h
  ·exact hs y h
  ·obtain rfl := List.mem_singleton.mp h; omega
theorem deep_ok (d : Nat) : d ≤ 3 → DeepAt d := by
 induction d with
 | zero =>
  intro _ b i h t vs w hc ht hv h0 h8
  refine ok_succ ?_
  simp only [spec_l02Deep.f]
  refine deep_l0 b i h t vs w _ hv _ (fun same hs => ok_pos (by rfl) ?_) vs.length 0 [] (by omega) (by simp) (by simp)
  refine ok_succ ?_
  simp only [spec_l02Deep.j1]
  refine ok_pos trivial (ok_if (fun hl => ?_) (fun hl => ?_))
  ·obtain ⟨x, i', h', e, c⟩ := once_some b i h 4 hc
   exact ok_bind0 e (deep_j2 b i' h' t vs w same _ c ht h0 h8 hs (fun _ => by omega) 1 (by omega))
  ·exact deep_j2 b i h t vs w same _ hc ht h0 h8 hs (fun h => by simp at h) 1 (by omega)
 | succ d ih =>
  intro hd b i h t vs w hc ht hv h0 h8
  have ih := ih (by omega)
  have hds : 3 * DS d ≤ 39 := by
   have : d = 0 ∨ d = 1 ∨ d = 2 := by omega
   rcases this with rfl | rfl | rfl <;> simp [DS]
  refine ok_succ ?_
  simp only [spec_l02Deep.f]
  refine deep_l0 b i h t vs w _ hv _ (fun same hs => ?_) vs.length 0 [] (by omega) (by simp) (by simp)
  have jt : ∀ i h, Cur b i → Ok (fun k => spec_l02Deep.j1 k t vs w ((d + 1 : Nat) : Int) same true b i h) (DP t (DS (d + 1)) b) := by
   intro i h hc
   refine ok_succ ?_
   simp only [spec_l02Deep.j1]
   refine ok_pos trivial (ok_if (fun hl => ?_) (fun hl => ?_))
   ·obtain ⟨x, i', h', e, c⟩ := once_some b i h 4 hc
    exact ok_bind0 e (deep_j2 b i' h' t vs w same _ c ht h0 h8 hs (fun _ => by omega) _ (DS_pos _))
   ·exact deep_j2 b i h t vs w same _ hc ht h0 h8 hs (fun h => by simp at h) _ (DS_pos _)
  refine ok_neg (by omega) (ok_if (fun _ => jt i h hc) (fun hle => ?_))
  obtain ⟨x, i1, h1, e, c1⟩ := once_some b i h 5 hc
  refine ok_bind0 e ?_
  cases x with
  | true => exact jt i1 h1 c1
  | false =>
   refine ok_succ ?_
   simp only [spec_l02Deep.j1]
   refine ok_neg (by simp) (ok_if (fun _ => ok_if (fun hv0 => ?_) (fun _ => ?_)) (fun _ => ?_))
   ·obtain ⟨x, i', h', e, c⟩ := once_some b i1 h1 2 c1
    exact ok_bind0 e (deep_j3 d (by omega) ih b i' h' t vs w _ c (by omega) hv h0 h8 (fun _ => by omega))
   ·exact deep_j3 d (by omega) ih b i1 h1 t vs w _ c1 (by omega) hv h0 h8 (fun h => by simp at h)
   ·exact deep_j3 d (by omega) ih b i1 h1 t vs w _ c1 (by omega) hv h0 h8 (fun h => by simp at h)
/-- What l02Made answers. -/
def MP (t : List S39) (s : Nat) (b : List Int) (r : List S39 × Int × Int × Int × Int × Int) : Prop := r.1.length ≤ t.length + s ∧ (0 ≤ r.2.2.1 ∧ r.2.2.1 ≤ 8) ∧ (0 ≤ r.2.2.2.1 ∧ r.2.2.2.1 ≤ 100) ∧ Cur b r.2.2.2.2.1
def MS : Nat → Nat
 | 0 => 41
 | e + 1 => 2 * MS e + 41
theorem MS_ge (e : Nat) : 41 ≤ MS e := by cases e <;> simp [MS]
def MadeAt (e : Nat) : Prop := ∀ (b : List Int) (i h : Int) (t vs : List S39) (nx bits : Int), Cur b i → t.length + MS e ≤ 100000 → VarsOk vs → vs.length + e ≤ 900 → 0 ≤ nx → nx ≤ 8 → 0 ≤ bits → bits ≤ 100 → Ok (fun k => spec_l02Made.f k b i h t vs nx bits (e : Int)) (MP t (MS e) b)
theorem made_deep (e : Nat) (b : List Int) (i h : Int) (t vs : List S39) (nx bits : Int) (hc : Cur b i) (ht : t.length + MS e ≤ 100000) (hv : VarsOk vs) (n0 : 0 ≤ nx) (n8 : nx ≤ 8) (b0 : 0 ≤ bits) (b1 : bits ≤ 100) :
  Ok (fun k => (spec_l02Deep.f k b i h t vs 1 3).bind fun r => (some (r.1, r.2.1, nx, bits, r.2.2.1, r.2.2.2) : Option (List S39 × Int × Int × Int × Int × Int))) (MP t (MS e) b) := by
 have hm := MS_ge e
 refine ok_bind (deep_ok 3 (by omega) b i h t vs 1 hc (by omega) hv (by omega) (by omega)) (fun r hr => ?_)
 obtain ⟨l1, _, _, c1⟩ := hr
 refine ok_now ⟨?_, ⟨n0, n8⟩, ⟨b0, b1⟩, c1⟩
 have : DS 3 = 40 := rfl
 simp only; omega
theorem vars_add {vs : List S39} (hv : VarsOk vs) (hl : vs.length < 1000) (w nx : Int) (h0 : 1 ≤ w) (h8 : w ≤ 8) : VarsOk (([] ++ vs) ++ [(⟨1, w, nx, 0, 0, 0⟩ : S39)]) := by
 refine ⟨by simp; omega, fun x hx => ?_⟩
 simp only [List.nil_append, List.mem_append, List.mem_singleton] at hx
 rcases hx with hx | rfl
 ·exact hv.2 x hx
 ·exact ⟨h0, h8⟩
theorem made_j1 (e : Nat) (ih : ∀ e', e = e' + 1 → MadeAt e') (he : e ≤ 10) (b : List Int) (i h : Int) (t vs : List S39) (nx bits : Int) (x : Bool) (hc : Cur b i) (ht : t.length + MS e ≤ 100000) (hv : VarsOk vs) (hvl : vs.length + e ≤ 900) (n0 : 0 ≤ nx) (n8 : nx ≤ 8) (b0 : 0 ≤ bits) (b1 : bits ≤ 100) :
  Ok (fun k => spec_l02Made.j1 k t vs nx bits (e : Int) x b i h) (MP t (MS e) b) := by
 refine ok_succ ?_
 simp only [spec_l02Made.j1]
 refine ok_if (fun _ => ok_if (fun hp => ?_) (fun _ => made_deep e b i h t vs nx bits hc ht hv n0 n8 b0 b1)) (fun _ => made_deep e b i h t vs nx bits hc ht hv n0 n8 b0 b1)
 obtain ⟨e', rfl⟩ : ∃ e', e = e' + 1 := ⟨e - 1, by omega⟩
 have hms : MS (e' + 1) = 2 * MS e' + 41 := rfl
 rw [wrap_id (x := ((e' + 1 : Nat) : Int) - 1) (by omega) (by omega), show ((e' + 1 : Nat) : Int) - 1 = (e' : Int) by omega]
 refine ok_bind (ih e' rfl b i h t vs nx bits hc (by omega) hv (by omega) n0 n8 b0 b1) (fun r hr => ?_)
 obtain ⟨t1, a1, n1, bb1, i1, h1⟩ := r
 obtain ⟨l1, ⟨m1, m2⟩, ⟨k1, k2⟩, c1⟩ := hr
 simp only at l1 m1 m2 k1 k2 c1
 refine ok_bind (ih e' rfl b i1 h1 t1 vs n1 bb1 c1 (by omega) hv (by omega) m1 m2 k1 k2) (fun r hr => ?_)
 obtain ⟨t2, a2, n2, bb2, i2, h2⟩ := r
 obtain ⟨l2, q2, s2, c2⟩ := hr
 simp only at l2 q2 s2 c2
 obtain ⟨y, i3, h3, e3, _, _, _, c3⟩ := below_some b i2 h2 2 c2
 refine ok_bind0 e3 (ok_bind0 (push_ok t2 (by omega) _ _ _ _ _ _) (ok_now ?_))
 exact ⟨by simp; omega, q2, s2, c3⟩
theorem made_j0 (e : Nat) (ih : ∀ e', e = e' + 1 → MadeAt e') (he : e ≤ 10) (b : List Int) (i h : Int) (t vs : List S39) (nx bits : Int) (x : Bool) (hc : Cur b i) (ht : t.length + MS e ≤ 100000) (hv : VarsOk vs) (hvl : vs.length + e ≤ 900) (n0 : 0 ≤ nx) (n8 : nx ≤ 8) (b0 : 0 ≤ bits) (b1 : bits ≤ 100)
  (hx : x = true → 0 < e ∧ nx < 8 ∧ 0 < bits) : Ok (fun k => spec_l02Made.j0 k t vs nx bits (e : Int) x b i h) (MP t (MS e) b) := by
 refine ok_succ ?_
 simp only [spec_l02Made.j0]
 refine ok_if (fun hxt => ?_) (fun _ => ?_)
 ·obtain ⟨g1, g2, g3⟩ := hx hxt
  obtain ⟨e', rfl⟩ : ∃ e', e = e' + 1 := ⟨e - 1, by omega⟩
  have hms : MS (e' + 1) = 2 * MS e' + 41 := rfl
  obtain ⟨y, i1, h1, e1, y0, _, y1, c1⟩ := below_some b i h 3 hc
  have y1 := y1 (by omega)
  refine ok_bind0 e1 ?_
  simp only
  rw [wrap_id (x := 1 + y) (by omega) (by omega), wrap_id (x := ((e' + 1 : Nat) : Int) - 1) (by omega) (by omega), show ((e' + 1 : Nat) : Int) - 1 = (e' : Int) by omega, wrap_id (x := nx + 1) (by omega) (by omega), wrap_id (x := bits - bits) (by omega) (by omega), wrap_id (x := bits - (1 + y)) (by omega) (by omega)]
  have fin : ∀ (w bits' z : Int) (i2 h2 : Int), 1 ≤ w → w ≤ 8 → 0 ≤ bits' → bits' ≤ 100 → Cur b i2 → Ok (fun k => (some (([] : List S39) : List S39)).bind fun y560 => (if y560.length + vs.length < 2932031007402 then ((some (y560 ++ vs : List S39)).bind fun y563 => ((some (([(⟨1, w, nx, 0, 0, 0⟩ : S39)] : List S39) : List S39)).bind fun y566 => (if y563.length + y566.length < 2932031007402 then ((spec_l02Made.f k b i2 h2 t (y563 ++ y566) (nx + 1) bits' (e' : Int)).bind fun bt572 => ((spec_l02Push.f bt572.1 z 1 nx bt572.2.1 w 0).bind fun bt580 => (some (bt580.1, bt580.2, bt572.2.2.1, bt572.2.2.2.1, bt572.2.2.2.2.1, bt572.2.2.2.2.2) : Option (List S39 × Int × Int × Int × Int × Int)))) else (none)))) else (none))) (MP t (MS (e' + 1)) b) := by
   intro w bits' z i2 h2 w0 w8 p0 p1 c2
   have hv1 := hv.1
   refine ok_bind0 rfl (ok_pos (by simp; omega) (ok_bind0 rfl (ok_bind0 rfl (ok_pos (by simp; omega) ?_))))
   refine ok_bind (ih e' rfl b i2 h2 t _ (nx + 1) bits' c2 (by omega) (vars_add hv (by omega) w nx w0 w8) (by simp; omega) (by omega) (by omega) p0 p1) (fun r hr => ?_)
   obtain ⟨t1, a1, n1, bb1, i3, h3⟩ := r
   obtain ⟨l1, q1, s1, c3⟩ := hr
   simp only at l1 q1 s1 c3
   refine ok_bind0 (push_ok t1 (by omega) _ _ _ _ _ _) (ok_now ?_)
   exact ⟨by simp; omega, q1, s1, c3⟩
  refine ok_if (fun hgt => ?_) (fun hle => ?_)
  ·obtain ⟨z, i2, h2, e2, _, _, _, c2⟩ := below_some b i1 h1 2 c1
   exact ok_bind0 e2 (fin bits (bits - bits) _ i2 h2 (by omega) (by omega) (by omega) (by omega) c2)
  ·obtain ⟨z, i2, h2, e2, _, _, _, c2⟩ := below_some b i1 h1 2 c1
   exact ok_bind0 e2 (fin (1 + y) (bits - (1 + y)) _ i2 h2 (by omega) (by omega) (by omega) (by omega) c2)
 ·obtain ⟨y, i1, h1, e1, y0, _, y1, c1⟩ := below_some b i h 5 hc
  refine ok_bind0 e1 (ok_if (fun _ => ok_if (fun hp => ?_) (fun _ => made_deep e b i1 h1 t vs nx bits c1 ht hv n0 n8 b0 b1)) (fun _ => ok_if (fun _ => ?_) (fun _ => ?_)))
  ·obtain ⟨e', rfl⟩ : ∃ e', e = e' + 1 := ⟨e - 1, by omega⟩
   have hms : MS (e' + 1) = 2 * MS e' + 41 := rfl
   rw [wrap_id (x := ((e' + 1 : Nat) : Int) - 1) (by omega) (by omega), show ((e' + 1 : Nat) : Int) - 1 = (e' : Int) by omega]
   refine ok_bind (ih e' rfl b i1 h1 t vs nx bits c1 (by omega) hv (by omega) n0 n8 b0 b1) (fun r hr => ?_)
   obtain ⟨t1, a1, n1, bb1, i3, h3⟩ := r
   obtain ⟨l1, q1, s1, c3⟩ := hr
   simp only at l1 q1 s1 c3
   refine ok_bind0 (push_ok t1 (by omega) _ _ _ _ _ _) (ok_now ?_)
   exact ⟨by simp; omega, q1, s1, c3⟩
  ·exact made_j1 e ih he b i1 h1 t vs nx bits _ c1 ht hv hvl n0 n8 b0 b1
  ·exact made_j1 e ih he b i1 h1 t vs nx bits _ c1 ht hv hvl n0 n8 b0 b1
theorem made_step (e : Nat) (ih : ∀ e', e = e' + 1 → MadeAt e') (he : e ≤ 10) : MadeAt e := by
 intro b i h t vs nx bits hc ht hv hvl n0 n8 b0 b1
 refine ok_succ ?_
 simp only [spec_l02Made.f]
 have j0 := fun (i h : Int) (x : Bool) (hc : Cur b i) (hx : x = true → 0 < e ∧ nx < 8 ∧ 0 < bits) => made_j0 e ih he b i h t vs nx bits x hc ht hv hvl n0 n8 b0 b1 hx
 refine ok_if (fun h1 => ok_if (fun h2 => ok_if (fun h3 => ?_) (fun _ => j0 i h false hc (by simp))) (fun _ => j0 i h false hc (by simp))) (fun _ => j0 i h false hc (by simp))
 obtain ⟨x, i1, z1, e1, c1⟩ := once_some b i h 5 hc
 exact ok_bind0 e1 (j0 i1 z1 _ c1 (fun _ => ⟨by omega, h2, h3⟩))
theorem made_ok (e : Nat) : e ≤ 10 → MadeAt e := by
 induction e with
 | zero => intro _; exact made_step 0 (fun e' h => by omega) (by omega)
 | succ e ih => intro he; exact made_step (e + 1) (fun e' h => by have h' : e = e' := (by omega); subst h'; exact ih (by omega)) he
theorem holder_l1 (l : List S39) (hl : l.length ≤ 80) (i : Nat) (hi : i < l.length) (out : List Bool) (ho : out.length = i) (ps : List Int) (hps : ps.length ≤ 3) (hp : ∀ p ∈ ps, 0 ≤ p ∧ p < (i : Int)) (P : List Bool → Prop)
  (hk : ∀ b : Bool, Ok (fun k => spec_l02Holder.l0 k l (out ++ [b]) ((i + 1 : Nat) : Int)) P) (d : Nat) : ∀ (t : Nat) (b : Bool), t + d = ps.length → Ok (fun k => spec_l02Holder.l1 k l out (i : Int) b ps (t : Int)) P := by
 induction d with
 | zero =>
  intro t b ht
  refine ok_succ ?_
  simp only [spec_l02Holder.l1]
  rw [wrap_id (x := (i : Int) + 1) (by omega) (by omega), show ((i : Int) + 1) = ((i + 1 : Nat) : Int) by omega]
  exact ok_neg (by omega) (ok_pos (by omega) (hk b))
 | succ d ih =>
  intro t b ht
  have hlt : t < ps.length := by omega
  have hq := hp _ (List.getElem_mem hlt)
  rw [← rdI ps t hlt] at hq
  refine ok_succ ?_
  simp only [spec_l02Holder.l1]
  rw [wrap_id (x := (t : Int) + 1) (by omega) (by omega), show ((t : Int) + 1) = ((t + 1 : Nat) : Int) by omega]
  exact ok_pos (by omega) (ok_if (fun _ => ih (t + 1) true (by omega)) (fun _ => ok_pos (by omega) (ok_pos hq.1 (ok_pos (by omega) (ih (t + 1) _ (by omega))))))
theorem holder_ok (l : List S39) (hl : l.length ≤ 80) (hP : PartsIn l) (d : Nat) : ∀ (i : Nat) (out : List Bool), i + d = l.length → out.length = i → Ok (fun k => spec_l02Holder.l0 k l out (i : Int)) (fun r => r.length = l.length) := by
 induction d with
 | zero =>
  intro i out hi ho
  refine ok_succ ?_
  simp only [spec_l02Holder.l0]
  exact ok_neg (by omega) (ok_now (by omega))
 | succ d ih =>
  intro i out hi ho
  refine ok_succ ?_
  simp only [spec_l02Holder.l0]
  refine ok_pos (by omega) (ok_pos (by omega) (ok_bind0 (isqS _) (ok_bind (ok_ev (ev_of 1 fun k hk => partsS _ _ _ _ _ _ hk) rfl) (fun ps hps => ?_))))
  subst hps
  exact holder_l1 l hl i (by omega) out ho _ (partsL_len _ _ _ _) (hP i (by omega)) _ (fun b => ih (i + 1) _ (by omega) (by simp; omega)) _ 0 _ (Nat.zero_add _)
theorem isq_K {l : List S39} (h : NodesOk l) (i : Nat) (hi : i < l.length) (ho : (rd_T39 l (i : Int)).f0 = 19 ∨ (rd_T39 l (i : Int)).f0 = 20 ∨ (rd_T39 l (i : Int)).f0 = 1) : 0 ≤ (rd_T39 l (i : Int)).f2 ∧ (rd_T39 l (i : Int)).f2 ≤ 7 := by
 have hb := h i hi
 unfold nodeB rightB at hb
 simp only [Bool.and_eq_true] at hb
 have hs := hb.2
 generalize (rd_T39 l (i : Int)).f0 = op at *
 generalize (rd_T39 l (i : Int)).f2 = K at *
 have : inB K 0 7 = true := by
  rcases ho with rfl | rfl | rfl
  ·simp only [rightSw] at hs; simp at hs; exact hs.1.1.1
  ·simp only [rightSw] at hs; simp at hs; exact hs.1.1.1
  ·simpa [rightSw] using hs
 exact inB_iff.mp this
theorem sent_l5 (l : List S39) (hl : l.length ≤ 80) (m h : List Bool) (us : List Int) (hm : m.length = l.length) (hh : h.length = l.length) (hu : us.length = l.length) (d : Nat) : ∀ i : Nat, i + d = l.length → Ok (fun k => spec_Sentence.l5 k l m h us (i : Int)) (fun _ => True) := by
 induction d with
 | zero =>
  intro i hi
  refine ok_succ ?_
  simp only [spec_Sentence.l5]
  exact ok_neg (by omega) (ok_now trivial)
 | succ d ih =>
  intro i hi
  refine ok_succ ?_
  simp only [spec_Sentence.l5]
  rw [wrap_id (x := (i : Int) + 1) (by omega) (by omega), show ((i : Int) + 1) = ((i + 1 : Nat) : Int) by omega]
  have hn := ih (i + 1) (by omega)
  exact ok_pos (by omega) (ok_pos (by omega) (ok_pos (by omega) (ok_if (fun _ => ok_pos (by omega) (ok_if (fun _ => ok_pos (by omega) (ok_if (fun _ => ok_now trivial) (fun _ => hn))) (fun _ => hn))) (fun _ => hn))))
theorem sent_l3 (l : List S39) (hl : l.length ≤ 80) (hN : NodesOk l) (m h : List Bool) (hm : m.length = l.length) (hh : h.length = l.length) (ws : List Int) (hw : ws.length = 8) (d : Nat) : ∀ (i : Nat) (us : List Int), i + d = l.length → us.length = l.length → Ok (fun k => spec_Sentence.l3 k l m h ws us (i : Int)) (fun _ => True) := by
 have hP := parts_in hN
 induction d with
 | zero =>
  intro i us hi hu
  refine ok_succ ?_
  simp only [spec_Sentence.l3]
  exact ok_neg (by omega) (sent_l5 l hl m h us hm hh hu l.length 0 (by omega))
 | succ d ih =>
  intro i us hi hu
  have hlt : i < l.length := by omega
  have l4 : ∀ (n t : Nat) (us : List Int), t + n = (pl l i).length → us.length = l.length → Ok (fun k => spec_Sentence.l4 k l m h ws us (i : Int) (pl l i) (t : Int)) (fun _ => True) := by
   intro n
   have hp3 : (pl l i).length ≤ 3 := partsL_len _ _ _ _
   induction n with
   | zero =>
    intro t us ht hu
    refine ok_succ ?_
    simp only [spec_Sentence.l4]
    rw [wrap_id (x := (i : Int) + 1) (by omega) (by omega), show ((i : Int) + 1) = ((i + 1 : Nat) : Int) by omega]
    exact ok_neg (by omega) (ih (i + 1) us (by omega) hu)
   | succ n ihn =>
    intro t us ht hu
    have hq := hP i hlt _ (List.getElem_mem (show t < (pl l i).length by omega))
    rw [← rdI (pl l i) t (by omega)] at hq
    refine ok_succ ?_
    simp only [spec_Sentence.l4]
    rw [wrap_id (x := (t : Int) + 1) (by omega) (by omega), show ((t : Int) + 1) = ((t + 1 : Nat) : Int) by omega]
    exact ok_pos (by omega) (ok_pos (by omega) (ok_pos hq.1 (ok_pos (by omega) (ihn (t + 1) _ (by omega) (by rw [List.length_set]; exact hu)))))
  have j6 : ∀ x : Bool, Ok (fun k => spec_Sentence.j6 k l m h ws us (i : Int) x) (fun _ => True) := by
   intro x
   refine ok_succ ?_
   simp only [spec_Sentence.j6]
   refine ok_if (fun _ => ok_now trivial) (fun _ => ok_pos (by omega) (ok_pos (by omega) (ok_bind (ok_ev (ev_of 1 fun k hk => partsS _ _ _ _ _ _ hk) rfl) (fun ps hps => ?_))))
   subst hps
   exact l4 (pl l i).length 0 us (by omega) hu
  have outer : ∀ op : Int, ∃ b, spec_l02Outer.f op = some b := by
   intro op
   unfold spec_l02Outer.f
   by_cases a : op = 2
   ·exact ⟨_, if_pos a⟩
   ·rw [if_neg a]
    by_cases b : op = 3
    ·exact ⟨_, if_pos b⟩
    ·rw [if_neg b]
     by_cases c : op = 4
     ·exact ⟨_, if_pos c⟩
     ·rw [if_neg c, isqS]; exact ⟨_, rfl⟩
  obtain ⟨ob, hob⟩ := outer (rd_T39 l (i : Int)).f0
  have tail : Ok (fun k => if (i : Int) < (h.length : Int) then (if rdOf false h (i : Int) = true then ((spec_l02Outer.f ((rd_T39 l (i : Int)).f0)).bind fun t721 => (spec_Sentence.j6 k l m h ws us (i : Int) (!t721))) else (spec_Sentence.j6 k l m h ws us (i : Int) false)) else (none)) (fun _ => True) :=
   ok_pos (by omega) (ok_if (fun _ => ok_bind0 hob (j6 _)) (fun _ => j6 _))
  refine ok_succ ?_
  simp only [spec_Sentence.l3]
  rw [wrap_id (x := (i : Int) + 1) (by omega) (by omega), show ((i : Int) + 1) = ((i + 1 : Nat) : Int) by omega]
  refine ok_pos (by omega) (ok_pos (by omega) (ok_pos (by omega) (ok_if (fun _ => ok_if (fun hv => ?_) (fun _ => tail)) (fun _ => ih (i + 1) us (by omega) hu))))
  have hK := isq_K hN i hlt (.inr (.inr hv))
  exact ok_pos hK.1 (ok_pos (by omega) (ok_if (fun _ => tail) (fun _ => j6 true)))
theorem sent_l2 (l : List S39) (hl : l.length ≤ 80) (hN : NodesOk l) (m h : List Bool) (hm : m.length = l.length) (hh : h.length = l.length) (ws : List Int) (hw : ws.length = 8) (d : Nat) : ∀ (i : Nat) (us : List Int), i + d = l.length → us.length = i → Ok (fun k => spec_Sentence.l2 k l m h ws us (i : Int)) (fun _ => True) := by
 induction d with
 | zero =>
  intro i us hi hu
  refine ok_succ ?_
  simp only [spec_Sentence.l2]
  exact ok_neg (by omega) (sent_l3 l hl hN m h hm hh ws hw l.length 0 us (by omega) (by omega))
 | succ d ih =>
  intro i us hi hu
  refine ok_succ ?_
  simp only [spec_Sentence.l2]
  rw [wrap_id (x := (i : Int) + 1) (by omega) (by omega), show ((i : Int) + 1) = ((i + 1 : Nat) : Int) by omega]
  exact ok_pos (by omega) (ok_pos (by omega) (ih (i + 1) _ (by omega) (by simp; omega)))
theorem sent_l1 (l : List S39) (hl : l.length ≤ 80) (hN : NodesOk l) (m h : List Bool) (hm : m.length = l.length) (hh : h.length = l.length) (d : Nat) : ∀ (i : Nat) (ws : List Int), i + d = l.length → ws.length = 8 → Ok (fun k => spec_Sentence.l1 k l m h ws (i : Int)) (fun _ => True) := by
 induction d with
 | zero =>
  intro i ws hi hw
  refine ok_succ ?_
  simp only [spec_Sentence.l1]
  exact ok_neg (by omega) (sent_l2 l hl hN m h hm hh ws hw l.length 0 [] (by omega) rfl)
 | succ d ih =>
  intro i ws hi hw
  have hlt : i < l.length := by omega
  have j3 : ∀ x : Bool, (x = true → (rd_T39 l (i : Int)).f0 = 19 ∨ (rd_T39 l (i : Int)).f0 = 20) → Ok (fun k => spec_Sentence.j3 k l m h ws (i : Int) x) (fun _ => True) := by
   intro x hx
   refine ok_succ ?_
   simp only [spec_Sentence.j3]
   rw [wrap_id (x := (i : Int) + 1) (by omega) (by omega), show ((i : Int) + 1) = ((i + 1 : Nat) : Int) by omega]
   refine ok_if (fun hxt => ?_) (fun _ => ih (i + 1) ws (by omega) hw)
   have hK := isq_K hN i hlt (by rcases hx hxt with h | h; exact .inl h; exact .inr (.inl h))
   exact ok_pos (by omega) (ok_pos (by omega) (ok_pos hK.1 (ok_pos (by omega) (ok_if (fun _ => ih (i + 1) _ (by omega) (by rw [List.length_set]; exact hw)) (fun _ => ok_now trivial)))))
  refine ok_succ ?_
  simp only [spec_Sentence.l1]
  refine ok_pos (by omega) (ok_pos (by omega) (ok_pos (by omega) (ok_if (fun _ => ok_bind0 (isqS _) (j3 _ (fun h => by simpa using h))) (fun _ => j3 false (by simp)))))
theorem sent_l0 (l : List S39) (hl : l.length ≤ 80) (hN : NodesOk l) (m h : List Bool) (hm : m.length = l.length) (hh : h.length = l.length) (d : Nat) : ∀ (i : Nat) (ws : List Int), i + d = 8 → ws.length = i → Ok (fun k => spec_Sentence.l0 k l m h ws (i : Int)) (fun _ => True) := by
 induction d with
 | zero =>
  intro i ws hi hw
  refine ok_succ ?_
  simp only [spec_Sentence.l0]
  exact ok_neg (by omega) (sent_l1 l hl hN m h hm hh l.length 0 ws (by omega) (by omega))
 | succ d ih =>
  intro i ws hi hw
  refine ok_succ ?_
  simp only [spec_Sentence.l0]
  rw [wrap_id (x := (i : Int) + 1) (by omega) (by omega), show ((i : Int) + 1) = ((i + 1 : Nat) : Int) by omega]
  exact ok_pos (by omega) (ok_pos (by omega) (ih (i + 1) _ (by omega) (by simp; omega)))
theorem Sentence_ok (l : List S39) (FR : ∃ r, Ev (fun k => spec_Free.f k l) r) : Ok (fun k => spec_Sentence.f k l) (fun b => b = true → TermOkP l) := by
 obtain ⟨b, e1, _, hb⟩ := term_ev l
 unfold spec_Sentence.f
 refine ok_bind (ok_ev e1 rfl) (fun b' hb' => ?_)
 subst hb'
 have jt : Ok (fun k => spec_Sentence.j0 k l true) (fun b => b = true → TermOkP l) := by
  refine ok_succ ?_
  simp only [spec_Sentence.j0]
  exact ok_pos trivial (ok_now (by simp))
 refine ok_if (fun ht => ?_) (fun _ => jt)
 obtain ⟨h1, h2, h3⟩ := hb.mp ht
 rw [wrap_id (by omega) (by omega)]
 refine ok_pos (by omega) (ok_pos (by omega) (ok_if (fun _ => ?_) (fun _ => jt)))
 obtain ⟨r, hr⟩ := FR
 refine ok_bind (ok_ev hr rfl) (fun r' hr' => ?_)
 refine ok_mono (P := fun _ => True) ?_ (fun _ _ _ => ⟨h1, h2, h3⟩)
 refine ok_succ ?_
 simp only [spec_Sentence.j0]
 have hP := parts_in h3
 refine ok_if (fun _ => ok_now trivial) (fun _ => ok_bind (ok_ev (l02Reach_ev l (by omega) h1 hP) rfl) (fun m hm => ok_bind (holder_ok l h2 hP l.length 0 [] (by omega) rfl) (fun h hh => ?_)))
 subst hm
 exact sent_l0 l h2 h3 _ h (reachL_len _ _ _) hh 8 0 [] (by omega) rfl
theorem default_ok : TermOkP [(⟨1, 1, 0, 0, 0, 0⟩ : S39), (⟨20, 1, 0, 0, 1, 0⟩ : S39)] := by
 refine ⟨by simp, by simp, fun i hi => ?_⟩
 have : i = 0 ∨ i = 1 := by simp at hi; omega
 rcases this with rfl | rfl <;> decide +kernel
theorem sentence_draw (b : List Int) (i h bits : Int) (hc : Cur b i) (b0 : 0 ≤ bits) (b1 : bits ≤ 100) : Ok (fun k => spec_l02Sentence.f k b i h bits) (fun r => TermOkP r.1 ∧ Cur b r.2.1) := by
 unfold spec_l02Sentence.f
 refine ok_bind (made_ok 4 (by omega) b i h [] [] 0 bits hc (by simp [MS]) ⟨by simp, by simp⟩ (by simp) (by omega) (by omega) b0 b1) (fun r hr => ?_)
 obtain ⟨_, _, _, c⟩ := hr
 refine ok_if (fun _ => ok_now ⟨default_ok, c⟩) (fun hl => ?_)
 obtain ⟨q, hq, _, _⟩ := Free_ev r.1
 exact ok_bind (Sentence_ok r.1 ⟨q, hq⟩) (fun x hx => ok_if (fun ht => ok_now ⟨hx ht, c⟩) (fun _ => ok_now ⟨default_ok, c⟩))
theorem any_draw (b : List Int) (i h : Int) (hc : Cur b i) : Ok (fun k => spec_l02Any.f k b i h) (fun r => 1 ≤ r.1.length ∧ r.1.length ≤ 81 ∧ Cur b r.2.1) := by
 unfold spec_l02Any.f
 refine ok_bind (sentence_draw b i h 8 hc (by omega) (by omega)) (fun r hr => ?_)
 obtain ⟨t, i1, h1⟩ := r
 obtain ⟨⟨l1, l2, _⟩, c1⟩ := hr
 simp only at l1 l2 c1
 obtain ⟨y, i2, h2, e2, y0, _, y1, c2⟩ := below_some b i1 h1 (t.length : Int) c1
 have y1 := y1 (by omega)
 refine ok_bind0 e2 ?_
 obtain ⟨z, i3, h3, e3, z0, _, z1, c3⟩ := below_some b i2 h2 12 c2
 refine ok_bind0 e3 ?_
 simp only
 refine ok_if (fun _ => ?_) (fun _ => ok_if (fun _ => ?_) (fun _ => ok_if (fun _ => ?_) (fun _ => ok_if (fun _ => ?_) (fun _ => ok_if (fun _ => ?_) (fun _ => ok_if (fun _ => ok_if (fun _ => ?_) (fun _ => ?_)) (fun _ => ?_))))))
 ·obtain ⟨w, i4, h4, e4, _, c4⟩ := pickInt_some b i3 h3 [0, 1, 2, 9] (by simp) c3
  exact ok_bind0 e4 (ok_pos y0 (ok_pos y1 (ok_now ⟨by simp; omega, by simp; omega, c4⟩)))
 ·obtain ⟨w, i4, h4, e4, _, _, _, c4⟩ := below_some b i3 h3 (wrap64 ((t.length : Int) + 2)) c3
  exact ok_bind0 e4 (ok_pos y0 (ok_pos y1 (ok_now ⟨by simp; omega, by simp; omega, c4⟩)))
 ·obtain ⟨w, i4, h4, e4, _, c4⟩ := pickInt_some b i3 h3 [(-1), 0, 1, 8] (by simp) c3
  exact ok_bind0 e4 (ok_pos y0 (ok_pos y1 (ok_now ⟨by simp; omega, by simp; omega, c4⟩)))
 ·obtain ⟨w, i4, h4, e4, _, _, _, c4⟩ := below_some b i3 h3 23 c3
  exact ok_bind0 e4 (ok_pos y0 (ok_pos y1 (ok_now ⟨by simp; omega, by simp; omega, c4⟩)))
 ·rw [wrap_id (x := y + 1) (by omega) (by omega)]
  exact ok_pos (by omega) (ok_pos (by omega) (ok_now ⟨by simp; omega, by simp; omega, c3⟩))
 ·exact ok_pos y0 (ok_pos y1 (ok_pos (by omega) (ok_now ⟨by simp, by simp; omega, c3⟩)))
 ·exact ok_now ⟨by simp only; omega, by simp only; omega, c3⟩
 ·exact ok_now ⟨by simp only; omega, by simp only; omega, c3⟩
theorem open_from (b : List Int) (n : Nat) : ∀ (j : Nat) (t : List S39) (i h : Int), j + n = 3 → 1 ≤ t.length → t.length ≤ 81 → Cur b i → Ok (fun k => spec_l04Open.l0 k t (j : Int) b i h) (fun r => 1 ≤ r.1.length ∧ r.1.length ≤ 81 ∧ Cur b r.2.1) := by
 induction n with
 | zero =>
  intro j t i h hj h1 h2 hc
  refine ok_succ ?_
  simp only [spec_l04Open.l0]
  refine ok_neg (by omega) (ok_succ ?_)
  simp only [spec_l04Open.j1]
  exact ok_neg (by simp) (ok_now ⟨h1, h2, hc⟩)
 | succ n ih =>
  intro j t i h hj h1 h2 hc
  have jf : Ok (fun k => spec_l04Open.j1 k t (j : Int) false b i h) (fun r => 1 ≤ r.1.length ∧ r.1.length ≤ 81 ∧ Cur b r.2.1) := by
   refine ok_succ ?_
   simp only [spec_l04Open.j1]
   exact ok_neg (by simp) (ok_now ⟨h1, h2, hc⟩)
  refine ok_succ ?_
  simp only [spec_l04Open.l0]
  rw [wrap_id (x := (t.length : Int) - 1) (by omega) (by omega)]
  refine ok_pos (by omega) (ok_if (fun hgt => ok_pos (by omega) (ok_pos (by omega) (ok_bind0 (isqS _) ?_))) (fun _ => jf))
  refine ok_succ ?_
  simp only [spec_l04Open.j1]
  refine ok_if (fun _ => ?_) (fun _ => ok_now ⟨h1, h2, hc⟩)
  obtain ⟨x, i1, h1', e1, c1⟩ := once_some b i h 3 hc
  rw [wrap_id (x := (t.length : Int) - 1) (by omega) (by omega), wrap_id (x := (j : Int) + 1) (by omega) (by omega), show ((j : Int) + 1) = ((j + 1 : Nat) : Int) by omega]
  refine ok_bind0 e1 (ok_if (fun _ => ok_now ⟨h1, h2, c1⟩) (fun _ => ok_pos (by omega) (ok_pos (by omega) (ih (j + 1) _ _ _ (by omega) (by simp; omega) (by simp; omega) c1))))
theorem open_draw (b : List Int) (i h : Int) (hc : Cur b i) : Ok (fun k => spec_l04Open.f k b i h) (fun r => 1 ≤ r.1.length ∧ r.1.length ≤ 81 ∧ Cur b r.2.1) := by
 unfold spec_l04Open.f
 refine ok_bind (any_draw b i h hc) (fun r hr => ?_)
 exact open_from b 3 0 r.1 r.2.1 r.2.2 rfl hr.1 hr.2.1 hr.2.2
theorem env_from (b : List Int) (m : Nat) (hm : m ≤ 8) (n : Nat) : ∀ (j : Nat) (e : List Int) (i h : Int), j + n = m → e.length = j → (∀ x ∈ e, 0 ≤ x ∧ x < 4) → Cur b i → Ok (fun k => spec_l04Env.l0 k e (m : Int) (j : Int) b i h) (fun r => r.1.length = m ∧ (∀ x ∈ r.1, 0 ≤ x ∧ x < 4) ∧ Cur b r.2.1) := by
 induction n with
 | zero =>
  intro j e i h hj he hx hc
  refine ok_succ ?_
  simp only [spec_l04Env.l0]
  exact ok_neg (by omega) (ok_now ⟨by simp only; omega, hx, hc⟩)
 | succ n ih =>
  intro j e i h hj he hx hc
  refine ok_succ ?_
  simp only [spec_l04Env.l0]
  obtain ⟨y, i1, h1, e1, y0, _, y1, c1⟩ := below_some b i h 4 hc
  have y1 := y1 (by omega)
  rw [wrap_id (x := (j : Int) + 1) (by omega) (by omega), show ((j : Int) + 1) = ((j + 1 : Nat) : Int) by omega]
  refine ok_pos (by omega) (ok_bind0 e1 (ok_pos (by omega) (ih (j + 1) _ _ _ (by omega) (by simp; omega) (fun x hx' => ?_) c1)))
  rcases List.mem_append.mp hx' with h | h
  ·exact hx x h
  ·obtain rfl := List.mem_singleton.mp h; exact ⟨y0, y1⟩
theorem env_draw (b : List Int) (i h : Int) (hc : Cur b i) : Ok (fun k => spec_l04Env.f k b i h) (fun r => (r.1.length = 7 ∨ r.1.length = 8) ∧ (∀ x ∈ r.1, 0 ≤ x ∧ x < 4) ∧ Cur b r.2.1) := by
 unfold spec_l04Env.f
 obtain ⟨x, i1, h1, e1, c1⟩ := once_some b i h 20 hc
 refine ok_bind0 rfl (ok_bind0 e1 (ok_if (fun _ => ?_) (fun _ => ?_)))
 ·refine ok_succ ?_
  simp only [spec_l04Env.j0]
  exact ok_mono (env_from b 7 (by omega) 7 0 [] i1 h1 rfl rfl (by simp) c1) (fun r hr => ⟨.inl hr.1, hr.2⟩)
 ·refine ok_succ ?_
  simp only [spec_l04Env.j0]
  exact ok_mono (env_from b 8 (by omega) 8 0 [] i1 h1 rfl rfl (by simp) c1) (fun r hr => ⟨.inr hr.1, hr.2⟩)
theorem new_ok (l : List Int) (hl : (l.length : Int) ≤ 140737488351232) (d : Nat) : ∀ (h j : Int), 0 ≤ j → 4000 - j ≤ d → Ok (fun k => spec_l01New.l0 k l h j) (fun r => r.1 = l ∧ r.2.1 = 0) := by
 induction d with
 | zero =>
  intro h j h0 hd
  refine ok_succ ?_
  simp only [spec_l01New.l0]
  exact ok_if (fun _ => ok_neg (by omega) (ok_now ⟨rfl, rfl⟩)) (fun _ => ok_now ⟨rfl, rfl⟩)
 | succ d ih =>
  intro h j h0 hd
  refine ok_succ ?_
  simp only [spec_l01New.l0]
  refine ok_if (fun _ => ok_if (fun _ => ok_pos h0 ?_) (fun _ => ok_now ⟨rfl, rfl⟩)) (fun _ => ok_now ⟨rfl, rfl⟩)
  rw [wrap_id (x := j + 1) (by omega) (by omega)]
  exact ih _ (j + 1) (by omega) (by omega)
theorem cursor_new (l : List Int) (hl : (l.length : Int) ≤ 140737488351232) : Ok (fun k => spec_l01New.f k l) (fun r => r.1 = l ∧ Cur l r.2.1) := by
 unfold spec_l01New.f
 exact ok_mono (new_ok l hl 4000 _ 0 (by omega) (by omega)) (fun r hr => ⟨hr.1, by rw [hr.2]; unfold Cur; omega⟩)
theorem value_draw (l : List Int) (hl : (l.length : Int) ≤ 140737488351232) : Ok (fun k => spec_DrawValue.f k l) (fun r => (1 ≤ r.1.length ∧ r.1.length ≤ 81) ∧ (r.2.length = 7 ∨ r.2.length = 8) ∧ (∀ x ∈ r.2, 0 ≤ x ∧ x < 4)) := by
 unfold spec_DrawValue.f
 refine ok_bind (cursor_new l hl) (fun c hc => ?_)
 obtain ⟨c0, c1, c2⟩ := c
 obtain ⟨h0, h1⟩ := hc
 simp only at h0 h1
 subst h0
 refine ok_bind (open_draw c0 c1 c2 h1) (fun r hr => ?_)
 exact ok_bind (env_draw c0 r.2.1 r.2.2 hr.2.2) (fun e he => ok_now ⟨⟨hr.1, hr.2.1⟩, he.1, he.2.1⟩)

end Go.Proofs.Ytjjjbifbibabgaa.Pure.FreeW
namespace Go.Proofs.Ytjjjbifbibabgaa.Pure
open Go.RowKit Go.Proofs.Ytjjjbifbibabgaa.PAll Go.Proofs.YtjjjbifbibabgaaW.PrintWords Go.Proofs.YtjjjbifbibabgaaW.PrintLast Go.Proofs.YtjjjbifbibabgaaW.PrintMore Go.Proofs.Ytjjjbifbibabgaa.Base Go.Proofs.Ytjjjbifbibabgaa.Pure.FreeW
theorem sameInts_refl (a : List Int) (ha : a.length ≤ 1000) : Ev (fun k => laws_sameInts.f k a a) true := by
 have from_ : ∀ (n j : Nat), j + n = a.length → Ev (fun k => laws_sameInts.l0 k a a (j : Int)) true := by
  intro n
  induction n with
  | zero =>
   intro j hj
   refine ev_succ ?_
   simp only [laws_sameInts.l0]
   exact ev_neg (by omega) ev_now
  | succ n ih =>
   intro j hj
   refine ev_succ ?_
   simp only [laws_sameInts.l0]
   rw [wrap_id (x := (j : Int) + 1) (by omega) (by omega), show ((j : Int) + 1) = ((j + 1 : Nat) : Int) by omega]
   exact ev_pos (by omega) (ev_pos (by omega) (ev_pos (by omega) (ev_pos trivial (ih (j + 1) (by omega)))))
 unfold laws_sameInts.f
 exact ev_pos rfl (from_ a.length 0 (by omega))
theorem at_some (l : List Int) (hl : (l.length : Int) ≤ 1048576) (hw : ∀ x ∈ l, (Lit.int .u8 x).wf = true) (i : Int) (h0 : 0 ≤ i) (h1 : i ≤ 100) : ∃ y, laws_at.f l i = some y ∧ 0 ≤ y ∧ y ≤ 255 := by
 unfold laws_at.f
 by_cases h : i < (l.length : Int)
 ·rw [if_pos h, if_pos h0]
  have hm : rd l i ∈ l := by
   rw [show rd l i = l[i.toNat] from by unfold rd; rw [List.getD_eq_getElem?_getD, List.getElem?_eq_getElem (by omega)]; rfl]
   exact List.getElem_mem _
  have hx := hw _ hm
  have hb : 0 ≤ rd l i ∧ rd l i ≤ 255 := by
   simp [Lit.wf] at hx
   have h0 : IntKind.u8.min = 0 := rfl
   have h1 : IntKind.u8.max = 255 := rfl
   rw [h0, h1] at hx; exact hx
  exact ⟨_, rfl, by rw [wrap_id (by omega) (by omega)]; exact hb.1, by rw [wrap_id (by omega) (by omega)]; exact hb.2⟩
 ·rw [if_neg h]
  refine ⟨_, rfl, ?_, ?_⟩
  ·rw [wrap_id (x := i * 7) (by omega) (by omega), wrap_id (by omega) (by omega)]; exact Int.tmod_nonneg _ (by omega)
  ·rw [wrap_id (x := i * 7) (by omega) (by omega), wrap_id (by omega) (by omega), Int.tmod_eq_emod_of_nonneg (by omega)]
   have := Int.emod_lt_of_pos (i * 7 + (l.length : Int)) (show (0 : Int) < 256 by omega); omega
/-- A quantifier put behind a term. -/
theorem rd_front (t : List S39) (q : S39) (i : Nat) (hi : i < t.length) : rd_T39 (t ++ [q]) (i : Int) = rd_T39 t (i : Int) := by
 rw [rdN _ i (by simp; omega), rdN t i hi, List.getElem_append_left hi]
theorem rd_back (t : List S39) (q : S39) : rd_T39 (t ++ [q]) (t.length : Int) = q := by
 rw [rdN _ t.length (by simp)]; simp
theorem node_front (t : List S39) (q : S39) (i : Nat) (hi : i < t.length) : nodeB (t ++ [q]) i = nodeB t i := by
 unfold nodeB
 rw [rd_front t q i hi, List.take_append_of_le_length (by omega)]
theorem FT_front (t : List S39) (q : S39) (i : Nat) : i ≤ t.length → FT (t ++ [q]) i = FT t i := by
 induction i with
 | zero => intro _; rfl
 | succ i ih =>
  intro hi
  rw [FT, FT, ih (by omega)]
  congr 1
  have hr := rd_front t q i (by omega)
  have hc : cellF (t ++ [q]) (FT t i) i = cellF t (FT t i) i := by
   funext v
   unfold cellF bindB varB isqB pl
   rw [hr]
  rw [hc]
theorem DF_front (t : List S39) (q : S39) (v i : Nat) (hi : i < t.length) : DF (t ++ [q]) (t ++ [q]).length v i = DF t t.length v i := by
 unfold DF
 rw [FT_get (t ++ [q]) (t ++ [q]).length i (by simp; omega), FT_get t t.length i hi, FT_front t q i (by omega)]
 have hr := rd_front t q i hi
 have hc : cellF (t ++ [q]) (FT t i) i = cellF t (FT t i) i := by
  funext v
  unfold cellF bindB varB isqB pl
  rw [hr]
 rw [hc]
theorem quant_ok (t : List S39) (hT : TermOkP t) (hl : t.length < 80) (hW : (rd_T39 t ((t.length : Int) - 1)).f1 = 1) (op v B : Int) (ho : op = 19 ∨ op = 20) (v0 : 0 ≤ v) (v7 : v ≤ 7) (b1 : 1 ≤ B) (b8 : B ≤ 8) : TermOkP (t ++ [⟨op, 1, v, (t.length : Int) - 1, B, 0⟩]) := by
 obtain ⟨h1, h2, h3⟩ := hT
 refine ⟨by simp, by simp; omega, fun i hi => ?_⟩
 simp only [List.length_append, List.length_cons, List.length_nil] at hi
 by_cases hlt : i < t.length
 ·rw [node_front t _ i hlt]; exact h3 i hlt
 ·obtain rfl : i = t.length := by omega
  unfold nodeB
  rw [rd_back, List.take_left' rfl]
  have hp : partsL op ((t.length : Int) - 1) B 0 = [(t.length : Int) - 1] := by unfold partsL; rw [if_pos (by omega)]
  have hwv : wv t [(t.length : Int) - 1] 1 0 = 1 := by
   unfold wv
   rw [if_pos (by omega), show rd [(t.length : Int) - 1] ((0 : Nat) : Int) = (t.length : Int) - 1 from rfl]; exact hW
  unfold rightB
  simp only [hp, List.length_cons, List.length_nil, Nat.zero_add, hwv, List.all_cons, List.all_nil, Bool.and_true]
  have e1 : inB 1 1 8 = true := by decide
  have e2 : inB op 0 20 = true := inB_iff.mpr (by omega)
  have e3 : inB ((t.length : Int) - 1) 0 ((t.length : Int) - 1) = true := inB_iff.mpr (by omega)
  have e4 : inB v 0 7 = true := inB_iff.mpr ⟨v0, v7⟩
  have e5 : inB B 1 8 = true := inB_iff.mpr ⟨b1, b8⟩
  rw [e1, e2, e3]
  rcases ho with rfl | rfl <;> simp [usesB, rightSw, e4, e5]
theorem quant_free (t : List S39) (hT : TermOkP t) (op v B : Int) (ho : op = 19 ∨ op = 20) (v0 : 0 ≤ v) (v7 : v ≤ 7) (hU : TermOkP (t ++ [(⟨op, 1, v, (t.length : Int) - 1, B, 0⟩ : S39)])) : freeL (t ++ [(⟨op, 1, v, (t.length : Int) - 1, B, 0⟩ : S39)]) = (freeL t).filter (fun x => !(x == v)) := by
 have hP := parts_in hU.2.2
 obtain ⟨h1, _, _⟩ := hT
 have key : ∀ w : Nat, w < 8 → DF (t ++ [(⟨op, 1, v, (t.length : Int) - 1, B, 0⟩ : S39)]) (t ++ [(⟨op, 1, v, (t.length : Int) - 1, B, 0⟩ : S39)]).length w ((t ++ [(⟨op, 1, v, (t.length : Int) - 1, B, 0⟩ : S39)]).length - 1) = (DF t t.length w (t.length - 1) && !((w : Int) == v)) := by
  intro w hw
  have hlen : (t ++ [(⟨op, 1, v, (t.length : Int) - 1, B, 0⟩ : S39)]).length - 1 = t.length := by simp
  rw [hlen, DF_eq _ hP w hw t.length (by simp)]
  have hb : bindB (t ++ [(⟨op, 1, v, (t.length : Int) - 1, B, 0⟩ : S39)]) w t.length = ((w : Int) == v) := by
   unfold bindB isqB
   rw [rd_back]
   simp only
   rw [show ((op == 19) || (op == 20)) = true from by rcases ho with rfl | rfl <;> rfl, Bool.true_and, Bool.eq_iff_iff, beq_iff_eq, beq_iff_eq]
   exact eq_comm
  have hv : varB (t ++ [(⟨op, 1, v, (t.length : Int) - 1, B, 0⟩ : S39)]) w t.length = false := by
   unfold varB
   rw [rd_back]
   rcases ho with rfl | rfl <;> rfl
  have hp : pl (t ++ [(⟨op, 1, v, (t.length : Int) - 1, B, 0⟩ : S39)]) t.length = [(t.length : Int) - 1] := by
   unfold pl
   rw [rd_back]
   unfold partsL
   simp only
   rw [if_pos (by omega)]
  rw [hb, hv, hp]
  simp only [List.any_cons, List.any_nil, Bool.or_false, Bool.false_or]
  rw [show ((t.length : Int) - 1).toNat = t.length - 1 by omega, DF_front t _ w (t.length - 1) (by omega)]
  cases h : ((w : Int) == v) <;> simp
 unfold freeL
 have gen : ∀ (d w : Nat), w + d = 8 → freeV (fun w => DF (t ++ [(⟨op, 1, v, (t.length : Int) - 1, B, 0⟩ : S39)]) (t ++ [(⟨op, 1, v, (t.length : Int) - 1, B, 0⟩ : S39)]).length w ((t ++ [(⟨op, 1, v, (t.length : Int) - 1, B, 0⟩ : S39)]).length - 1)) d w = (freeV (fun w => DF t t.length w (t.length - 1)) d w).filter (fun x => !(x == v)) := by
  intro d
  induction d with
  | zero => intro w _; rfl
  | succ d ih =>
   intro w hw
   unfold freeV
   rw [key w (by omega), ih (w + 1) (by omega)]
   cases hD : DF t t.length w (t.length - 1) with
   | false => simp
   | true =>
    cases hv : ((w : Int) == v) with
    | true => simp [hv]
    | false => simp [hv]
 exact gen 8 0 rfl
theorem FnFree : laws_FnFree.Pure := by
 intro l hm hl hw
 have hl : (l.length : Int) ≤ 140737488351232 := by omega
 refine Ev.rounds ?_
 unfold laws_FnFree.f laws_big.f
 refine ev_bind0 rfl ?_
 by_cases hb : (l.length : Int) > 1048576
 ·exact ev_pos (by simpa using hb) ev_now
 refine ev_neg (by simpa using hb) ?_
 obtain ⟨⟨t, env⟩, ed, ⟨t1, t2⟩, _⟩ := value_draw l hl
 refine ev_bind ed ?_
 simp only at t1 t2 ⊢
 obtain ⟨b, e1, e2, hbt⟩ := term_ev t
 refine ev_bind e1 ?_
 have jt : Ev (fun k => laws_FnFree.j0 k l t true) true := by
  obtain ⟨r, f1, f2, _⟩ := Free_ev t
  refine ev_succ ?_
  simp only [laws_FnFree.j0]
  exact ev_pos trivial (ev_bind f2 (ev_bind f1 (ev_eq (by simp))))
 by_cases hT : b = true
 ·have hT' := hbt.mp hT
  refine ev_pos hT ?_
  rw [wrap_id (by omega) (by omega)]
  refine ev_pos (by omega) (ev_pos (by omega) ?_)
  by_cases hW : (rd_T39 t ((t.length : Int) - 1)).f1 = 1
  ·refine ev_pos hW ?_
   by_cases h80 : (t.length : Int) ≥ 80
   ·rw [decide_eq_true h80]; exact jt
   ·rw [decide_eq_false h80]
    obtain ⟨y3, a3, p3, q3⟩ := at_some l (by omega) hw 3 (by omega) (by omega)
    obtain ⟨y4, a4, p4, q4⟩ := at_some l (by omega) hw 4 (by omega) (by omega)
    obtain ⟨y5, a5, p5, q5⟩ := at_some l (by omega) hw 5 (by omega) (by omega)
    obtain ⟨f1, f2, f3⟩ := Free_is t hT'
    have hv := Int.emod_nonneg y3 (show (8 : Int) ≠ 0 by omega)
    have hv2 := Int.emod_lt_of_pos y3 (show (0 : Int) < 8 by omega)
    have ho := Int.emod_nonneg y4 (show (2 : Int) ≠ 0 by omega)
    have ho2 := Int.emod_lt_of_pos y4 (show (0 : Int) < 2 by omega)
    have hB := Int.emod_nonneg y5 (show (8 : Int) ≠ 0 by omega)
    have hB2 := Int.emod_lt_of_pos y5 (show (0 : Int) < 8 by omega)
    refine ev_succ ?_
    simp only [laws_FnFree.j0]
    refine ev_neg (by simp) (ev_bind0 a3 (ev_bind0 rfl (ev_pos (by simp; omega) (ev_bind0 rfl (ev_bind0 a4 (ev_bind0 a5 (ev_pos (by simp; omega) (ev_bind f2 ?_))))))))
    rw [Int.tmod_eq_emod_of_nonneg p3, Int.tmod_eq_emod_of_nonneg p4, Int.tmod_eq_emod_of_nonneg p5, wrap_id (x := 19 + y4 % 2) (by omega) (by omega), wrap_id (x := (t.length : Int) - 1) (by omega) (by omega), wrap_id (x := 1 + y5 % 8) (by omega) (by omega), List.nil_append]
    have hop : 19 + y4 % 2 = 19 ∨ 19 + y4 % 2 = 20 := by omega
    generalize 19 + y4 % 2 = op at *
    have hBB : 1 ≤ 1 + y5 % 8 ∧ 1 + y5 % 8 ≤ 8 := by omega
    generalize 1 + y5 % 8 = B at *
    have hvv : 0 ≤ y3 % 8 ∧ y3 % 8 ≤ 7 := by omega
    generalize y3 % 8 = v at *
    have hU := quant_ok t hT' (by omega) hW op v B hop hvv.1 hvv.2 hBB.1 hBB.2
    have hF := quant_free t hT' op v B hop hvv.1 hvv.2 hU
    obtain ⟨bu, _, g2, hbu⟩ := term_ev (t ++ [⟨op, 1, v, (t.length : Int) - 1, B, 0⟩])
    obtain rfl : bu = true := hbu.mpr hU
    obtain ⟨_, u2, u3⟩ := Free_is _ hU
    have hul : ((t ++ [(⟨op, 1, v, (t.length : Int) - 1, B, 0⟩ : S39)]).length : Int) - 1 = (t.length : Int) := by simp
    have hlp : ∀ (n j : Nat) (acc : List Int), j + n = (freeL t).length → acc = ((freeL t).take j).filter (fun x => !(x == v)) →
      Ev (fun k => laws_FnFree.l0 k t v (t ++ [⟨op, 1, v, (t.length : Int) - 1, B, 0⟩]) acc (freeL t) ((freeL t).length : Int) (j : Int)) true := by
     intro n
     induction n with
     | zero =>
      intro j acc hj ha
      rw [List.take_of_length_le (by omega), ← hF] at ha
      subst ha
      refine ev_succ ?_
      simp only [laws_FnFree.l0]
      refine ev_neg (by omega) (ev_bind g2 (ev_pos rfl (ev_bind u2 (ev_bind (sameInts_refl _ (by omega)) (ev_pos rfl (ev_bind f2 (ev_bind f1 (ev_bind (sameInts_refl _ (by omega)) (ev_pos rfl ?_)))))))))
      rw [wrap_id (by omega) (by omega), hul, rd_back]
      refine ev_pos (by omega) (ev_pos (by simp; omega) (ev_bind (ev_of 1 fun k hk => partsI _ _ _ _ _ _ hk) (ev_eq ?_)))
      have : partsL op ((t.length : Int) - 1) B 0 = [(t.length : Int) - 1] := by unfold partsL; rw [if_pos (by omega)]
      rw [this]; rfl
     | succ n ih =>
      intro j acc hj ha
      have hlt : j < (freeL t).length := by omega
      have hr := rdI (freeL t) j hlt
      have hal : acc.length ≤ 8 := by
       rw [ha]
       have := List.length_filter_le (fun x => !(x == v)) ((freeL t).take j)
       rw [List.length_take] at this
       omega
      refine ev_succ ?_
      simp only [laws_FnFree.l0]
      rw [wrap_id (x := (j : Int) + 1) (by omega) (by omega), show ((j : Int) + 1) = ((j + 1 : Nat) : Int) by omega]
      refine ev_pos (by omega) (ev_pos (by omega) (ev_pos (by omega) ?_))
      by_cases hv : rd (freeL t) (j : Int) = v
      ·refine ev_pos hv (ih (j + 1) acc (by omega) ?_)
       rw [List.take_succ_eq_append_getElem hlt, List.filter_append, ← hr, hv, ha]; simp
      ·refine ev_neg hv (ev_pos (by omega) (ih (j + 1) _ (by omega) ?_))
       rw [List.take_succ_eq_append_getElem hlt, List.filter_append, ← hr, ha]; simp [hv]
    exact hlp (freeL t).length 0 [] (by omega) (by simp)
  ·exact ev_neg hW jt
 ·exact ev_neg hT jt
end Go.Proofs.Ytjjjbifbibabgaa.Pure
