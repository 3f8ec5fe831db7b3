/- FnOrder: what the printed functions come to, for every input. -/
import Derived.Test.YthepgolhpllpbaaPFnOrderx3
import Derived.Test.YthepgolhpllpbaaBase
set_option linter.unusedVariables false
set_option linter.unusedSimpArgs false
namespace Go.Proofs.Ythepgolhpllpbaa.Pure.OrderW
open Go.RowKit Go.Proofs.Ythepgolhpllpbaa.PFnOrder Go.Proofs.YthepgolhpllpbaaW.PrintWords Go.Proofs.YthepgolhpllpbaaW.PrintLast Go.Proofs.YthepgolhpllpbaaW.PrintMore Go.Proofs.Ythepgolhpllpbaa.Base

theorem pow2 {w : Int} (h0 : 0 ≤ w) (h8 : w ≤ 8) {k : Nat} (hk : 20 ≤ k) : spec_l01Pow2.f k w = some (P2 w) := by
  obtain ⟨m, rfl⟩ := rounds_of hk
  have : w = 0 ∨ w = 1 ∨ w = 2 ∨ w = 3 ∨ w = 4 ∨ w = 5 ∨ w = 6 ∨ w = 7 ∨ w = 8 := by omega
  rcases this with rfl | rfl | rfl | rfl | rfl | rfl | rfl | rfl | rfl <;> simp [spec_l01Pow2.f, spec_l01Pow2.l0, P2, wrap64]


theorem inS (x a b : Int) : spec_l01In.f x a b = some (decide (a ≤ x ∧ x ≤ b)) := by
  unfold spec_l01In.f
  by_cases h : x ≥ a
  · rw [if_pos h]; simp [h]
  · rw [if_neg h]; simp [h]


theorem inI (x a b : Int) : impl_within.f x a b = some (decide (a ≤ x ∧ x ≤ b)) := by
  unfold impl_within.f
  by_cases h : x ≥ a
  · rw [if_pos h]; simp [h]
  · rw [if_neg h]; simp [h]


theorem wokS (w a : Int) {k : Nat} (hk : 20 ≤ k) : spec_WordOk.f k w a = some (wok w a) := by
  unfold spec_WordOk.f wok
  rw [inS]; simp only [Option.bind_some]
  by_cases h : 1 ≤ w ∧ w ≤ 8
  · have hp := P2_pos (by omega : 0 ≤ w) h.2
    rw [if_pos (by simp [h]), pow2 (by omega) h.2 hk]; simp only [Option.bind_some]
    rw [inS, wrap_id (by omega) (by omega)]; simp [h]
  · rw [if_neg (by simp; omega)]; simp; omega


theorem wokI (w a : Int) : impl_WordOk.f w a = some (wok w a) := by
  unfold impl_WordOk.f impl_isWidth.f wok
  rw [inI]; simp only [Option.bind_some]
  by_cases h : 1 ≤ w ∧ w ≤ 8
  · have hp := P2_pos (by omega : 0 ≤ w) h.2
    rw [if_pos (by simp [h]), if_pos (u64_nonneg w), u64_id (by omega) (by omega), shl_one (by omega) h.2, inI, wrap_id (by omega) (by omega)]
    simp [h]
  · rw [if_neg (by simp; omega)]; simp; omega


theorem twoI (w a b : Int) : impl_two.f w a b = some (wok w a && wok w b) := by
  unfold impl_two.f
  rw [wokI w a, wokI w b]; cases wok w a <;> simp


theorem cutI {w x : Int} (h0 : 0 ≤ w) (h8 : w ≤ 8) (h1 : -9223372036854775808 ≤ x) (h2 : x ≤ 9223372036854775807) : impl_cut.f w x = some (x % P2 w) := by
  unfold impl_cut.f
  have hp := P2_pos h0 h8
  rw [if_pos (u64_nonneg w), u64_id (by omega) (by omega), shl_one h0 h8, wrap_id (by omega) (by omega), mask_id h0 h8 h1 h2]


theorem AddI (w a b : Int) : impl_Add.f w a b = some (if (wok w a && wok w b) = true then (a + b) % P2 w else 0) := by
  unfold impl_Add.f
  rw [twoI w a b]; simp only [Option.bind_some]
  by_cases h : (wok w a && wok w b) = true
  · rw [if_pos h, if_pos h]
    obtain ⟨ha, hb⟩ := Bool.and_eq_true_iff.mp h
    obtain ⟨h1, h8, ha0, hA⟩ := wok_iff.mp ha
    obtain ⟨_, _, hb0, hB⟩ := wok_iff.mp hb
    have hp := P2_pos (by omega : 0 ≤ w) h8
    rw [wrap_id (by omega) (by omega), cutI (by omega) h8 (by omega) (by omega)]; rfl
  · rw [if_neg h, if_neg h]


theorem SignedI (w a : Int) : impl_Signed.f w a = some (if wok w a = true then (if a ≥ P2 (w - 1) then a - P2 w else a) else 0) := by
  unfold impl_Signed.f
  rw [wokI w a]; simp only [Option.bind_some]
  by_cases ha : wok w a = true
  · rw [if_pos ha, if_pos ha]
    obtain ⟨h1, h8, ha0, hA⟩ := wok_iff.mp ha
    have hp := P2_pos (by omega : 0 ≤ w) h8
    have hq := P2_pos (by omega : 0 ≤ w - 1) (by omega)
    rw [if_pos (u64_nonneg _), wrap_id (x := w - 1) (by omega) (by omega), u64_id (x := w - 1) (by omega) (by omega), u64_id (x := w) (by omega) (by omega), shl_one (by omega) (by omega), shl_one (by omega) h8]
    by_cases hs : a ≥ P2 (w - 1)
    · rw [if_pos hs, if_pos hs, if_pos (by omega), wrap_id (by omega) (by omega)]
    · rw [if_neg hs, if_neg hs]
  · rw [if_neg ha, if_neg ha]


theorem bitI (b : Bool) : impl_bit.f b = some (if b = true then 1 else 0) := by
  unfold impl_bit.f; cases b <;> simp


theorem LessI (w a b : Int) : impl_Less.f w a b = some (if (wok w a && wok w b) = true ∧ a < b then 1 else 0) := by
  unfold impl_Less.f
  rw [twoI w a b]; simp only [Option.bind_some]
  by_cases h : (wok w a && wok w b) = true
  · rw [if_pos h, bitI]; simp only [Option.bind_some]; by_cases hl : a < b <;> simp [h, hl]
  · rw [if_neg h, bitI]; simp only [Option.bind_some]; simp [h]


theorem LessSignedI (w a b : Int) : impl_LessSigned.f w a b = some (if (wok w a && wok w b) = true ∧ (if wok w a = true then (if a ≥ P2 (w - 1) then a - P2 w else a) else 0) < (if wok w b = true then (if b ≥ P2 (w - 1) then b - P2 w else b) else 0) then 1 else 0) := by
  unfold impl_LessSigned.f
  rw [twoI w a b, SignedI w a, SignedI w b]; simp only [Option.bind_some]
  by_cases h : (wok w a && wok w b) = true
  · rw [if_pos h, bitI]; simp only [Option.bind_some, decide_eq_true_eq, h, true_and]
  · rw [if_neg h, bitI]; simp only [Option.bind_some]; rw [if_neg (by simp), if_neg (fun z => h z.1)]


/-- A reader of draws: its place lies in the bytes. -/
def Cur (l : List Int) (i : Int) : Prop := 0 ≤ i ∧ i ≤ (l.length : Int) ∧ (l.length : Int) ≤ 140737488351232
theorem and255 (x : Int) : 0 ≤ Go.bits .and .i64 x 255 ∧ Go.bits .and .i64 x 255 ≤ 255 := by
  have hm : (BitVec.ofInt 64 (255 : Int)).toNat = 255 := by decide
  have hle : ((BitVec.ofInt 64 x).toNat &&& 255) ≤ 255 := Nat.and_le_right
  have e : Go.bits .and .i64 x 255 = IntKind.i64.wrap (((BitVec.ofInt 64 x).toNat &&& 255 : Nat) : Int) := by
    show IntKind.i64.wrap ((BitVec.ofInt 64 x &&& BitVec.ofInt 64 (255 : Int)).toNat : Int) = _
    rw [BitVec.toNat_and, hm]
  rw [e, IntKind.wrap_i64]
  omega
theorem byte_some (l : List Int) (i h : Int) (hc : Cur l i) : ∃ x i' h', spec_l01Byte.f l i h = some (x, i', h') ∧ 0 ≤ x ∧ x ≤ 255 ∧ Cur l i' := by
  unfold spec_l01Byte.f
  obtain ⟨h0, h1, h2⟩ := hc
  by_cases hi : i < (l.length : Int)
  · rw [if_pos hi, if_pos h0]
    exact ⟨_, _, _, rfl, (and255 _).1, (and255 _).2, by rw [wrap_id (by omega) (by omega)]; exact ⟨by omega, by omega, h2⟩⟩
  · rw [if_neg hi]
    exact ⟨_, _, _, rfl, (and255 _).1, (and255 _).2, h0, h1, h2⟩


theorem below_some (l : List Int) (i h n : Int) (hc : Cur l i) : ∃ x i' h', spec_l01Below.f l i h n = some (x, i', h') ∧ 0 ≤ x ∧ (n ≤ 0 → x = 0) ∧ (0 < n → x < n) ∧ Cur l i' := by
  unfold spec_l01Below.f
  by_cases h0 : n ≤ 0
  · rw [if_pos h0]
    exact ⟨0, i, h, rfl, by omega, fun _ => rfl, fun _ => by omega, hc⟩
  · rw [if_neg h0]
    by_cases h1 : n ≤ 256
    · rw [if_pos h1]
      obtain ⟨x, i1, h2, e, b0, b1, c1⟩ := byte_some l i h hc
      rw [e]; simp only [Option.bind_some]
      rw [if_neg (by omega)]
      refine ⟨_, _, _, rfl, ?_, by omega, fun _ => ?_, c1⟩
      · exact Int.tmod_nonneg _ b0
      · rw [Int.tmod_eq_emod_of_nonneg b0]; exact Int.emod_lt_of_pos _ (by omega)
    · rw [if_neg h1]
      obtain ⟨x, i1, z1, e1, b0, b1, c1⟩ := byte_some l i h hc
      rw [e1]; simp only [Option.bind_some]
      obtain ⟨y, i2, z2, e2, d0, d1, c2⟩ := byte_some l i1 z1 c1
      rw [e2]; simp only [Option.bind_some]
      obtain ⟨z, i3, z3, e3, f0, f1, c3⟩ := byte_some l i2 z2 c2
      rw [e3]; simp only [Option.bind_some]
      obtain ⟨v, i4, z4, e4, g0, g1, c4⟩ := byte_some l i3 z3 c3
      rw [e4]; simp only [Option.bind_some]
      rw [if_neg (by omega), wrap_id (x := x * 16777216) (by omega) (by omega), wrap_id (x := y * 65536) (by omega) (by omega), wrap_id (x := x * 16777216 + y * 65536) (by omega) (by omega), wrap_id (x := z * 256) (by omega) (by omega), wrap_id (x := x * 16777216 + y * 65536 + z * 256) (by omega) (by omega), wrap_id (by omega) (by omega)]
      refine ⟨_, _, _, rfl, ?_, by omega, fun _ => ?_, c4⟩
      · exact Int.tmod_nonneg _ (by omega)
      · rw [Int.tmod_eq_emod_of_nonneg (by omega)]; exact Int.emod_lt_of_pos _ (by omega)


theorem once_some (l : List Int) (i h n : Int) (hc : Cur l i) : ∃ b i' h', spec_l01Once.f l i h n = some (b, i', h') ∧ Cur l i' := by
  unfold spec_l01Once.f
  obtain ⟨x, i1, h1, e, _, _, _, c⟩ := below_some l i h n hc
  rw [e]; exact ⟨_, _, _, rfl, c⟩


theorem pickInt_some (l : List Int) (i h : Int) (xs : List Int) (hx : xs ≠ []) (hc : Cur l i) : ∃ x i' h', spec_l01PickInt.f l i h xs = some (x, i', h') ∧ x ∈ xs ∧ Cur l i' := by
  unfold spec_l01PickInt.f
  have hl : 0 < (xs.length : Int) := by have := List.length_pos_iff.mpr hx; omega
  obtain ⟨x, i1, h1, e, x0, _, x1, c⟩ := below_some l i h (xs.length : Int) hc
  rw [e]; simp only [Option.bind_some]
  have hlt := x1 hl
  rw [if_pos x0, if_pos hlt]
  refine ⟨_, _, _, rfl, ?_, c⟩
  unfold rd
  rw [List.getD_eq_getElem?_getD, List.getElem?_eq_getElem (by omega)]
  exact List.getElem_mem _


theorem new_from (l : List Int) (hl : (l.length : Int) ≤ 140737488351232) (d : Nat) : ∀ (k : Nat) (h j : Int), 0 ≤ j → 4000 - j ≤ d → d < k → ∃ h', spec_l01New.l0 k l h j = some (l, 0, h') := by
  induction d with
  | zero =>
    intro k h j h0 hd hk
    obtain ⟨k, rfl⟩ : ∃ m, k = m + 1 := ⟨k - 1, by omega⟩
    simp only [spec_l01New.l0]
    by_cases c : j < (l.length : Int)
    · rw [if_pos c, if_neg (by omega)]; exact ⟨_, rfl⟩
    · rw [if_neg c]; exact ⟨_, rfl⟩
  | succ d ih =>
    intro k h j h0 hd hk
    obtain ⟨k, rfl⟩ : ∃ m, k = m + 1 := ⟨k - 1, by omega⟩
    simp only [spec_l01New.l0]
    by_cases c : j < (l.length : Int)
    · rw [if_pos c]
      by_cases c2 : j < 4000
      · rw [if_pos c2, if_pos h0]
        exact ih k _ _ (by rw [wrap_id (by omega) (by omega)]; omega) (by rw [wrap_id (by omega) (by omega)]; omega) (by omega)
      · rw [if_neg c2]; exact ⟨_, rfl⟩
    · rw [if_neg c]; exact ⟨_, rfl⟩
theorem new_some (l : List Int) (hl : (l.length : Int) ≤ 140737488351232) {k : Nat} (hk : 4010 ≤ k) : ∃ h, spec_l01New.f k l = some (l, 0, h) ∧ Cur l 0 := by
  unfold spec_l01New.f
  obtain ⟨h', e⟩ := new_from l hl 4000 k (wrap64 (118118 + (l.length : Int))) 0 (by omega) (by omega) (by omega)
  exact ⟨h', e, by unfold Cur; omega⟩


theorem val_j0 (l : List Int) (i h n : Int) (n0 : 1 ≤ n) (n1 : n ≤ 300) (hc : Cur l i) {k : Nat} (hk : 1 ≤ k) : ∃ x i' h', spec_l01Val.j0 k n l i h = some (x, i', h') ∧ -1 ≤ x ∧ x ≤ 300 ∧ Cur l i' := by
  obtain ⟨k, rfl⟩ : ∃ m, k = m + 1 := ⟨k - 1, by omega⟩
  simp only [spec_l01Val.j0]
  have hq : 0 ≤ Int.tdiv n 2 ∧ Int.tdiv n 2 ≤ 300 := by rw [Int.tdiv_eq_ediv_of_nonneg (by omega)]; omega
  obtain ⟨x, i1, h1, e1, _, _, _, c1⟩ := below_some l i h 9 hc
  rw [e1]; simp only [Option.bind_some]
  by_cases a : x = 0
  · rw [if_pos a]
    obtain ⟨y, i2, h2, e2, m2, c2⟩ := pickInt_some l i1 h1 [0, wrap64 (n - 1), wrap64 (Int.tdiv n 2), wrap64 (wrap64 (Int.tdiv n 2) - 1), 1] (by simp) c1
    rw [e2]; simp only [Option.bind_some]
    refine ⟨_, _, _, rfl, ?_, ?_, c2⟩ <;>
    · rw [wrap_id (x := n - 1) (by omega) (by omega), wrap_id (x := Int.tdiv n 2) (by omega) (by omega), wrap_id (x := Int.tdiv n 2 - 1) (by omega) (by omega)] at m2
      simp only [List.mem_cons, List.not_mem_nil, or_false] at m2
      omega
  · rw [if_neg a]
    by_cases b : x = 1
    · rw [if_pos b]
      obtain ⟨t, i2, h2, e2, c2⟩ := once_some l i1 h1 3 c1
      rw [e2]; simp only [Option.bind_some]
      cases t with
      | true =>
        rw [if_pos rfl]
        obtain ⟨y, i3, h3, e3, m3, c3⟩ := pickInt_some l i2 h2 [-1, n, 256] (by simp) c2
        rw [e3]; simp only [Option.bind_some]
        refine ⟨_, _, _, rfl, ?_, ?_, c3⟩ <;>
        · simp only [List.mem_cons, List.not_mem_nil, or_false] at m3
          omega
      | false =>
        rw [if_neg (by simp)]
        obtain ⟨y, i3, h3, e3, y0, _, y1, c3⟩ := below_some l i2 h2 n c2
        rw [e3]; exact ⟨_, _, _, rfl, by omega, by have := y1 (by omega); omega, c3⟩
    · rw [if_neg b]
      obtain ⟨y, i3, h3, e3, y0, _, y1, c3⟩ := below_some l i1 h1 n c1
      rw [e3]; exact ⟨_, _, _, rfl, by omega, by have := y1 (by omega); omega, c3⟩
theorem val_some (l : List Int) (i h w : Int) (hc : Cur l i) {k : Nat} (hk : 30 ≤ k) : ∃ x i' h', spec_l01Val.f k l i h w = some (x, i', h') ∧ -1 ≤ x ∧ x ≤ 300 ∧ Cur l i' := by
  unfold spec_l01Val.f
  rw [inS]; simp only [Option.bind_some]
  by_cases c : 1 ≤ w ∧ w ≤ 8
  · have hp := P2_pos (by omega : 0 ≤ w) c.2
    rw [if_pos (by simpa using c), pow2 (by omega) c.2 (by omega)]; simp only [Option.bind_some]
    exact val_j0 l i h _ hp.1 (by omega) hc (by omega)
  · rw [if_neg (by simpa using c)]
    exact val_j0 l i h _ (by omega) (by omega) hc (by omega)


theorem width_some (l : List Int) (i h : Int) (hc : Cur l i) : ∃ x i' h', spec_l01Width.f l i h = some (x, i', h') ∧ -1 ≤ x ∧ x ≤ 9 ∧ Cur l i' := by
  unfold spec_l01Width.f
  obtain ⟨t, i2, h2, e2, c2⟩ := once_some l i h 14 hc
  rw [e2]; simp only [Option.bind_some]
  cases t with
  | true =>
    rw [if_pos rfl]
    obtain ⟨y, i3, h3, e3, m3, c3⟩ := pickInt_some l i2 h2 [0, 9, -1, 8] (by simp) c2
    rw [e3]; simp only [Option.bind_some]
    refine ⟨_, _, _, rfl, ?_, ?_, c3⟩ <;>
    · simp only [List.mem_cons, List.not_mem_nil, or_false] at m3
      omega
  | false =>
    rw [if_neg (by simp)]
    obtain ⟨y, i3, h3, e3, y0, _, y1, c3⟩ := below_some l i2 h2 8 c2
    have y1 := y1 (by omega)
    rw [e3]; simp only [Option.bind_some]
    rw [wrap_id (by omega) (by omega)]
    exact ⟨_, _, _, rfl, by omega, by omega, c3⟩


theorem three_some (l : List Int) (hl : (l.length : Int) ≤ 140737488351232) {k : Nat} (hk : 4010 ≤ k) : ∃ w a b, spec_l01Three.f k l = some (w, a, b) ∧ -1 ≤ w ∧ w ≤ 9 ∧ -1 ≤ a ∧ a ≤ 300 ∧ -1 ≤ b ∧ b ≤ 300 := by
  unfold spec_l01Three.f
  obtain ⟨h, e, c⟩ := new_some l hl hk
  rw [e]; simp only [Option.bind_some]
  obtain ⟨w, i1, h1, e1, w0, w1, c1⟩ := width_some l 0 h c
  rw [e1]; simp only [Option.bind_some]
  obtain ⟨a, i2, h2, e2, a0, a1, c2⟩ := val_some l i1 h1 w c1 (k := k) (by omega)
  rw [e2]; simp only [Option.bind_some]
  obtain ⟨b, i3, h3, e3, b0, b1, c3⟩ := val_some l i2 h2 w c2 (k := k) (by omega)
  rw [e3]; exact ⟨_, _, _, rfl, w0, w1, a0, a1, b0, b1⟩


theorem powL {w : Int} (h0 : 0 ≤ w) (h8 : w ≤ 8) {k : Nat} (hk : 20 ≤ k) : laws_pow.f k w = some (P2 w) := by
  obtain ⟨m, rfl⟩ := rounds_of hk
  have : w = 0 ∨ w = 1 ∨ w = 2 ∨ w = 3 ∨ w = 4 ∨ w = 5 ∨ w = 6 ∨ w = 7 ∨ w = 8 := by omega
  rcases this with rfl | rfl | rfl | rfl | rfl | rfl | rfl | rfl | rfl <;> simp [laws_pow.f, laws_pow.l0, P2, wrap64]

end Go.Proofs.Ythepgolhpllpbaa.Pure.OrderW
namespace Go.Proofs.Ythepgolhpllpbaa.Pure
open Go.RowKit Go.Proofs.Ythepgolhpllpbaa.PFnOrder Go.Proofs.YthepgolhpllpbaaW.PrintWords Go.Proofs.YthepgolhpllpbaaW.PrintLast Go.Proofs.YthepgolhpllpbaaW.PrintMore Go.Proofs.Ythepgolhpllpbaa.Base Go.Proofs.Ythepgolhpllpbaa.Pure.OrderW

theorem P2_half {w : Int} (h1 : 1 ≤ w) (h8 : w ≤ 8) : P2 w = 2 * P2 (w - 1) ∧ 1 ≤ P2 (w - 1) ∧ P2 (w - 1) ≤ 128 := by
  have : w = 1 ∨ w = 2 ∨ w = 3 ∨ w = 4 ∨ w = 5 ∨ w = 6 ∨ w = 7 ∨ w = 8 := by omega
  rcases this with rfl | rfl | rfl | rfl | rfl | rfl | rfl | rfl <;> simp [P2]
theorem sgn_mod {h a : Int} (hh : 1 ≤ h) (a0 : 0 ≤ a) (a1 : a ≤ 2 * h - 1) : (a + h) % (2 * h) = (if a ≥ h then a - 2 * h else a) + h := by
  by_cases c : a ≥ h
  · rw [if_pos c, show a + h = (a - h) + 2 * h by omega, Int.add_emod_right, Int.emod_eq_of_lt (by omega) (by omega)]; omega
  · rw [if_neg c, Int.emod_eq_of_lt (by omega) (by omega)]
theorem FnOrder : laws_FnOrder.Pure := by
  intro l hm hl hw
  have hl : (l.length : Int) ≤ 140737488351232 := by omega
  refine ⟨5000, ?_⟩
  unfold laws_FnOrder.f laws_big.f
  simp only [Option.bind_some]
  by_cases hb : (l.length : Int) > 1048576
  · rw [if_pos (by simpa using hb)]
  · rw [if_neg (by simpa using hb)]
    obtain ⟨w, a, b, e, w0, w1, a0, a1, b0, b1⟩ := three_some l hl (k := 5000) (by omega)
    have e' : spec_DrawLess.f 5000 l = some (w, a, b) := by unfold spec_DrawLess.f; rw [e]; rfl
    rw [e']; simp only [Option.bind_some]
    rw [wokS w a (by omega), wokS w b (by omega)]; simp only [Option.bind_some]
    by_cases ha : wok w a = true
    · rw [if_pos ha]
      by_cases hbw : wok w b = true
      · rw [hbw]
        simp only [laws_FnOrder.j0, laws_FnOrder.j1]
        rw [if_neg (by simp)]
        obtain ⟨h1, h8, x0, hA⟩ := wok_iff.mp ha
        obtain ⟨_, _, y0, hB⟩ := wok_iff.mp hbw
        obtain ⟨hp, q0, q1⟩ := P2_half h1 h8
        have hhalf : wok w (P2 (w - 1)) = true := wok_iff.mpr ⟨h1, h8, by omega, by omega⟩
        rw [wrap_id (x := w - 1) (by omega) (by omega), powL (by omega) (by omega) (by omega), powL (by omega) h8 (by omega)]
        simp only [Option.bind_some]
        rw [LessI, LessI, SignedI, LessSignedI]
        simp only [Option.bind_some]
        rw [AddI, AddI]
        simp only [Option.bind_some, ha, hbw, hhalf, Bool.and_self, Bool.and_true, true_and, if_true]
        have hsa := sgn_mod q0 x0 (by omega : a ≤ 2 * P2 (w - 1) - 1)
        have hsb := sgn_mod q0 y0 (by omega : b ≤ 2 * P2 (w - 1) - 1)
        have hwa : wok w ((a + P2 (w - 1)) % P2 w) = true := wok_iff.mpr ⟨h1, h8, Int.emod_nonneg _ (by omega), by have := Int.emod_lt_of_pos (a + P2 (w - 1)) (by omega : 0 < P2 w); omega⟩
        have hwb : wok w ((b + P2 (w - 1)) % P2 w) = true := wok_iff.mpr ⟨h1, h8, Int.emod_nonneg _ (by omega), by have := Int.emod_lt_of_pos (b + P2 (w - 1)) (by omega : 0 < P2 w); omega⟩
        rw [LessI]
        simp only [Option.bind_some, hwa, hwb, Bool.and_self, true_and]
        rw [hp, hsa, hsb]
        generalize P2 (w - 1) = h at *
        have key : ∀ s t : Int, (if s < t then (1 : Int) else 0) = (if s + h < t + h then 1 else 0) := by
          intro s t
          by_cases c : s < t
          · rw [if_pos c, if_pos (by omega)]
          · rw [if_neg c, if_neg (by omega)]
        have hfin : ∀ s : Int, (s = a - 2 * h ∨ s = a) → (Int.tmod (wrap64 (s - a)) (2 * h) == 0) = true := by
          intro s hs
          rcases hs with rfl | rfl
          · rw [show a - 2 * h - a = -(2 * h) by omega, wrap_id (by omega) (by omega), Int.neg_tmod, Int.tmod_self]; rfl
          · rw [Int.sub_self, wrap_id (by omega) (by omega), Int.zero_tmod]; rfl
        have hs : (if a ≥ h then a - 2 * h else a) = a - 2 * h ∨ (if a ≥ h then a - 2 * h else a) = a := by
          by_cases c : a ≥ h
          · rw [if_pos c]; exact .inl rfl
          · rw [if_neg c]; exact .inr rfl
        have hs0 : (if a ≥ h then a - 2 * h else a) ≥ -h ∧ (if a ≥ h then a - 2 * h else a) < h := by
          by_cases c : a ≥ h
          · rw [if_pos c]; omega
          · rw [if_neg c]; omega
        rw [wrap_id (x := -h) (by omega) (by omega)]
        by_cases hab : a = b
        · subst hab
          simp only [Int.lt_irrefl, if_false, if_true]
          rw [wrap_id (x := (0 : Int) + 0) (by omega) (by omega), if_neg (by omega)]
          simp only [bne_self_eq_false, Bool.false_eq_true, if_false]
          rw [if_pos hs0.1, if_pos hs0.2, if_neg (by omega), hfin _ hs]
        · have hone : wrap64 ((if a < b then (1 : Int) else 0) + (if b < a then 1 else 0)) = 1 := by
            rcases Int.lt_or_gt_of_ne hab with c | c
            · rw [if_pos c, if_neg (by omega), wrap_id (by omega) (by omega)]; rfl
            · rw [if_neg (by omega), if_pos c, wrap_id (by omega) (by omega)]; rfl
          rw [hone, if_pos rfl, if_neg hab]
          simp only [Bool.false_eq_true, if_false]
          rw [if_pos (key _ _), if_pos hs0.1, if_pos hs0.2, if_neg (by omega), hfin _ hs]
      · have hbf : wok w b = false := by simpa using hbw
        rw [hbf]
        simp only [laws_FnOrder.j0]
        rw [if_pos (show (!false) = true from rfl), LessSignedI]
        simp [hbf]
    · have haf : wok w a = false := by simpa using ha
      rw [if_neg ha]
      simp only [laws_FnOrder.j0]
      rw [if_pos trivial, LessSignedI]
      simp [haf]
end Go.Proofs.Ythepgolhpllpbaa.Pure
