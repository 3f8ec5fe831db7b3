/- FnWords: what the printed functions come to, for every input. -/
import Derived.Test.YthepgolhpllpbaaPFnWordsx3
import Derived.Test.YthepgolhpllpbaaBase
set_option linter.unusedVariables false
set_option linter.unusedSimpArgs false
namespace Go.Proofs.Ythepgolhpllpbaa.Pure.WordsW
open Go.RowKit Go.Proofs.Ythepgolhpllpbaa.PFnWords Go.Proofs.YthepgolhpllpbaaW.PrintWords Go.Proofs.YthepgolhpllpbaaW.PrintLast Go.Proofs.YthepgolhpllpbaaW.PrintMore Go.Proofs.Ythepgolhpllpbaa.Base

theorem pow2 {w : Int} (h0 : 0 ≤ w) (h8 : w ≤ 8) {k : Nat} (hk : 20 ≤ k) : spec_l01Pow2.f k w = some (P2 w) := by
  obtain ⟨m, rfl⟩ := rounds_of hk
  have : w = 0 ∨ w = 1 ∨ w = 2 ∨ w = 3 ∨ w = 4 ∨ w = 5 ∨ w = 6 ∨ w = 7 ∨ w = 8 := by omega
  rcases this with rfl | rfl | rfl | rfl | rfl | rfl | rfl | rfl | rfl <;> simp [spec_l01Pow2.f, spec_l01Pow2.l0, P2, wrap64]


theorem inS (x a b : Int) : spec_l01In.f x a b = some (decide (a ≤ x ∧ x ≤ b)) := by
  unfold spec_l01In.f
  by_cases h : x ≥ a
  · rw [if_pos h]; simp [h]
  · rw [if_neg h]; simp [h]


theorem inI (x a b : Int) : impl_within.f x a b = some (decide (a ≤ x ∧ x ≤ b)) := by
  unfold impl_within.f
  by_cases h : x ≥ a
  · rw [if_pos h]; simp [h]
  · rw [if_neg h]; simp [h]


theorem wokS (w a : Int) {k : Nat} (hk : 20 ≤ k) : spec_WordOk.f k w a = some (wok w a) := by
  unfold spec_WordOk.f wok
  rw [inS]; simp only [Option.bind_some]
  by_cases h : 1 ≤ w ∧ w ≤ 8
  · have hp := P2_pos (by omega : 0 ≤ w) h.2
    rw [if_pos (by simp [h]), pow2 (by omega) h.2 hk]; simp only [Option.bind_some]
    rw [inS, wrap_id (by omega) (by omega)]; simp [h]
  · rw [if_neg (by simp; omega)]; simp; omega


theorem wokI (w a : Int) : impl_WordOk.f w a = some (wok w a) := by
  unfold impl_WordOk.f impl_isWidth.f wok
  rw [inI]; simp only [Option.bind_some]
  by_cases h : 1 ≤ w ∧ w ≤ 8
  · have hp := P2_pos (by omega : 0 ≤ w) h.2
    rw [if_pos (by simp [h]), if_pos (u64_nonneg w), u64_id (by omega) (by omega), shl_one (by omega) h.2, inI, wrap_id (by omega) (by omega)]
    simp [h]
  · rw [if_neg (by simp; omega)]; simp; omega


theorem twoI (w a b : Int) : impl_two.f w a b = some (wok w a && wok w b) := by
  unfold impl_two.f
  rw [wokI w a, wokI w b]; cases wok w a <;> simp


theorem cutI {w x : Int} (h0 : 0 ≤ w) (h8 : w ≤ 8) (h1 : -9223372036854775808 ≤ x) (h2 : x ≤ 9223372036854775807) : impl_cut.f w x = some (x % P2 w) := by
  unfold impl_cut.f
  have hp := P2_pos h0 h8
  rw [if_pos (u64_nonneg w), u64_id (by omega) (by omega), shl_one h0 h8, wrap_id (by omega) (by omega), mask_id h0 h8 h1 h2]


theorem AddI (w a b : Int) : impl_Add.f w a b = some (if (wok w a && wok w b) = true then (a + b) % P2 w else 0) := by
  unfold impl_Add.f
  rw [twoI w a b]; simp only [Option.bind_some]
  by_cases h : (wok w a && wok w b) = true
  · rw [if_pos h, if_pos h]
    obtain ⟨ha, hb⟩ := Bool.and_eq_true_iff.mp h
    obtain ⟨h1, h8, ha0, hA⟩ := wok_iff.mp ha
    obtain ⟨_, _, hb0, hB⟩ := wok_iff.mp hb
    have hp := P2_pos (by omega : 0 ≤ w) h8
    rw [wrap_id (by omega) (by omega), cutI (by omega) h8 (by omega) (by omega)]; rfl
  · rw [if_neg h, if_neg h]


theorem SubI (w a b : Int) : impl_Sub.f w a b = some (if (wok w a && wok w b) = true then (a - b) % P2 w else 0) := by
  unfold impl_Sub.f
  rw [twoI w a b]; simp only [Option.bind_some]
  by_cases h : (wok w a && wok w b) = true
  · rw [if_pos h, if_pos h]
    obtain ⟨ha, hb⟩ := Bool.and_eq_true_iff.mp h
    obtain ⟨h1, h8, ha0, hA⟩ := wok_iff.mp ha
    obtain ⟨_, _, hb0, hB⟩ := wok_iff.mp hb
    have hp := P2_pos (by omega : 0 ≤ w) h8
    rw [wrap_id (by omega) (by omega), cutI (by omega) h8 (by omega) (by omega)]; rfl
  · rw [if_neg h, if_neg h]


theorem MulI (w a b : Int) : impl_Mul.f w a b = some (if (wok w a && wok w b) = true then (a * b) % P2 w else 0) := by
  unfold impl_Mul.f
  rw [twoI w a b]; simp only [Option.bind_some]
  by_cases h : (wok w a && wok w b) = true
  · rw [if_pos h, if_pos h]
    obtain ⟨ha, hb⟩ := Bool.and_eq_true_iff.mp h
    obtain ⟨h1, h8, ha0, hA⟩ := wok_iff.mp ha
    obtain ⟨_, _, hb0, hB⟩ := wok_iff.mp hb
    have hp := P2_pos (by omega : 0 ≤ w) h8
    have hm := mul_bd ha0 (by omega : a ≤ 255) hb0 (by omega : b ≤ 255)
    rw [wrap_id (by omega) (by omega), cutI (by omega) h8 (by omega) (by omega)]; rfl
  · rw [if_neg h, if_neg h]


theorem DivI (w a b : Int) : impl_Div.f w a b = some (if (wok w a && wok w b) = true then (if b = 0 then P2 w - 1 else a / b) else 0) := by
  unfold impl_Div.f
  rw [twoI w a b]; simp only [Option.bind_some]
  by_cases h : (wok w a && wok w b) = true
  · rw [if_pos h, if_pos h]
    obtain ⟨ha, hb⟩ := Bool.and_eq_true_iff.mp h
    obtain ⟨h1, h8, ha0, hA⟩ := wok_iff.mp ha
    obtain ⟨_, _, hb0, hB⟩ := wok_iff.mp hb
    have hp := P2_pos (by omega : 0 ≤ w) h8
    by_cases h0 : b = 0
    · rw [if_pos h0, if_pos h0]
      try rw [if_pos (u64_nonneg w)]
      rw [u64_id (by omega) (by omega), shl_one (by omega) h8, wrap_id (by omega) (by omega)]
    · rw [if_neg h0, if_neg h0]
      have hq : 0 ≤ a / b ∧ a / b ≤ a := ⟨Int.ediv_nonneg ha0 hb0, Int.ediv_le_self _ ha0⟩
      try rw [if_neg h0]
      rw [Int.tdiv_eq_ediv_of_nonneg ha0, wrap_id (by omega) (by omega)]
  · rw [if_neg h, if_neg h]


theorem RemI (w a b : Int) : impl_Rem.f w a b = some (if (wok w a && wok w b) = true then (if b = 0 then a else a % b) else 0) := by
  unfold impl_Rem.f
  rw [twoI w a b]; simp only [Option.bind_some]
  by_cases h : (wok w a && wok w b) = true
  · rw [if_pos h, if_pos h]
    obtain ⟨ha, hb⟩ := Bool.and_eq_true_iff.mp h
    obtain ⟨h1, h8, ha0, hA⟩ := wok_iff.mp ha
    obtain ⟨_, _, hb0, hB⟩ := wok_iff.mp hb
    have hp := P2_pos (by omega : 0 ≤ w) h8
    by_cases h0 : b = 0
    · rw [if_pos h0, if_pos h0]
    · rw [if_neg h0, if_neg h0]
      try rw [if_neg h0]
      rw [Int.tmod_eq_emod_of_nonneg ha0]
  · rw [if_neg h, if_neg h]


theorem FlipI (w a : Int) : impl_Flip.f w a = some (if wok w a = true then P2 w - 1 - a else 0) := by
  unfold impl_Flip.f
  rw [wokI w a]; simp only [Option.bind_some]
  by_cases ha : wok w a = true
  · rw [if_pos ha, if_pos ha]
    obtain ⟨h1, h8, ha0, hA⟩ := wok_iff.mp ha
    have hp := P2_pos (by omega : 0 ≤ w) h8
    rw [if_pos (u64_nonneg w), u64_id (by omega) (by omega), shl_one (by omega) h8, wrap_id (x := P2 w - 1) (by omega) (by omega), wrap_id (by omega) (by omega)]
  · rw [if_neg ha, if_neg ha]


theorem bitI (b : Bool) : impl_bit.f b = some (if b = true then 1 else 0) := by
  unfold impl_bit.f; cases b <;> simp


theorem LessI (w a b : Int) : impl_Less.f w a b = some (if (wok w a && wok w b) = true ∧ a < b then 1 else 0) := by
  unfold impl_Less.f
  rw [twoI w a b]; simp only [Option.bind_some]
  by_cases h : (wok w a && wok w b) = true
  · rw [if_pos h, bitI]; simp only [Option.bind_some]; by_cases hl : a < b <;> simp [h, hl]
  · rw [if_neg h, bitI]; simp only [Option.bind_some]; simp [h]


/-- A reader of draws: its place lies in the bytes. -/
def Cur (l : List Int) (i : Int) : Prop := 0 ≤ i ∧ i ≤ (l.length : Int) ∧ (l.length : Int) ≤ 140737488351232
theorem and255 (x : Int) : 0 ≤ Go.bits .and .i64 x 255 ∧ Go.bits .and .i64 x 255 ≤ 255 := by
  have hm : (BitVec.ofInt 64 (255 : Int)).toNat = 255 := by decide
  have hle : ((BitVec.ofInt 64 x).toNat &&& 255) ≤ 255 := Nat.and_le_right
  have e : Go.bits .and .i64 x 255 = IntKind.i64.wrap (((BitVec.ofInt 64 x).toNat &&& 255 : Nat) : Int) := by
    show IntKind.i64.wrap ((BitVec.ofInt 64 x &&& BitVec.ofInt 64 (255 : Int)).toNat : Int) = _
    rw [BitVec.toNat_and, hm]
  rw [e, IntKind.wrap_i64]
  omega
theorem byte_some (l : List Int) (i h : Int) (hc : Cur l i) : ∃ x i' h', spec_l01Byte.f l i h = some (x, i', h') ∧ 0 ≤ x ∧ x ≤ 255 ∧ Cur l i' := by
  unfold spec_l01Byte.f
  obtain ⟨h0, h1, h2⟩ := hc
  by_cases hi : i < (l.length : Int)
  · rw [if_pos hi, if_pos h0]
    exact ⟨_, _, _, rfl, (and255 _).1, (and255 _).2, by rw [wrap_id (by omega) (by omega)]; exact ⟨by omega, by omega, h2⟩⟩
  · rw [if_neg hi]
    exact ⟨_, _, _, rfl, (and255 _).1, (and255 _).2, h0, h1, h2⟩


theorem below_some (l : List Int) (i h n : Int) (hc : Cur l i) : ∃ x i' h', spec_l01Below.f l i h n = some (x, i', h') ∧ 0 ≤ x ∧ (n ≤ 0 → x = 0) ∧ (0 < n → x < n) ∧ Cur l i' := by
  unfold spec_l01Below.f
  by_cases h0 : n ≤ 0
  · rw [if_pos h0]
    exact ⟨0, i, h, rfl, by omega, fun _ => rfl, fun _ => by omega, hc⟩
  · rw [if_neg h0]
    by_cases h1 : n ≤ 256
    · rw [if_pos h1]
      obtain ⟨x, i1, h2, e, b0, b1, c1⟩ := byte_some l i h hc
      rw [e]; simp only [Option.bind_some]
      rw [if_neg (by omega)]
      refine ⟨_, _, _, rfl, ?_, by omega, fun _ => ?_, c1⟩
      · exact Int.tmod_nonneg _ b0
      · rw [Int.tmod_eq_emod_of_nonneg b0]; exact Int.emod_lt_of_pos _ (by omega)
    · rw [if_neg h1]
      obtain ⟨x, i1, z1, e1, b0, b1, c1⟩ := byte_some l i h hc
      rw [e1]; simp only [Option.bind_some]
      obtain ⟨y, i2, z2, e2, d0, d1, c2⟩ := byte_some l i1 z1 c1
      rw [e2]; simp only [Option.bind_some]
      obtain ⟨z, i3, z3, e3, f0, f1, c3⟩ := byte_some l i2 z2 c2
      rw [e3]; simp only [Option.bind_some]
      obtain ⟨v, i4, z4, e4, g0, g1, c4⟩ := byte_some l i3 z3 c3
      rw [e4]; simp only [Option.bind_some]
      rw [if_neg (by omega), wrap_id (x := x * 16777216) (by omega) (by omega), wrap_id (x := y * 65536) (by omega) (by omega), wrap_id (x := x * 16777216 + y * 65536) (by omega) (by omega), wrap_id (x := z * 256) (by omega) (by omega), wrap_id (x := x * 16777216 + y * 65536 + z * 256) (by omega) (by omega), wrap_id (by omega) (by omega)]
      refine ⟨_, _, _, rfl, ?_, by omega, fun _ => ?_, c4⟩
      · exact Int.tmod_nonneg _ (by omega)
      · rw [Int.tmod_eq_emod_of_nonneg (by omega)]; exact Int.emod_lt_of_pos _ (by omega)


theorem once_some (l : List Int) (i h n : Int) (hc : Cur l i) : ∃ b i' h', spec_l01Once.f l i h n = some (b, i', h') ∧ Cur l i' := by
  unfold spec_l01Once.f
  obtain ⟨x, i1, h1, e, _, _, _, c⟩ := below_some l i h n hc
  rw [e]; exact ⟨_, _, _, rfl, c⟩


theorem pickInt_some (l : List Int) (i h : Int) (xs : List Int) (hx : xs ≠ []) (hc : Cur l i) : ∃ x i' h', spec_l01PickInt.f l i h xs = some (x, i', h') ∧ x ∈ xs ∧ Cur l i' := by
  unfold spec_l01PickInt.f
  have hl : 0 < (xs.length : Int) := by have := List.length_pos_iff.mpr hx; omega
  obtain ⟨x, i1, h1, e, x0, _, x1, c⟩ := below_some l i h (xs.length : Int) hc
  rw [e]; simp only [Option.bind_some]
  have hlt := x1 hl
  rw [if_pos x0, if_pos hlt]
  refine ⟨_, _, _, rfl, ?_, c⟩
  unfold rd
  rw [List.getD_eq_getElem?_getD, List.getElem?_eq_getElem (by omega)]
  exact List.getElem_mem _


theorem new_from (l : List Int) (hl : (l.length : Int) ≤ 140737488351232) (d : Nat) : ∀ (k : Nat) (h j : Int), 0 ≤ j → 4000 - j ≤ d → d < k → ∃ h', spec_l01New.l0 k l h j = some (l, 0, h') := by
  induction d with
  | zero =>
    intro k h j h0 hd hk
    obtain ⟨k, rfl⟩ : ∃ m, k = m + 1 := ⟨k - 1, by omega⟩
    simp only [spec_l01New.l0]
    by_cases c : j < (l.length : Int)
    · rw [if_pos c, if_neg (by omega)]; exact ⟨_, rfl⟩
    · rw [if_neg c]; exact ⟨_, rfl⟩
  | succ d ih =>
    intro k h j h0 hd hk
    obtain ⟨k, rfl⟩ : ∃ m, k = m + 1 := ⟨k - 1, by omega⟩
    simp only [spec_l01New.l0]
    by_cases c : j < (l.length : Int)
    · rw [if_pos c]
      by_cases c2 : j < 4000
      · rw [if_pos c2, if_pos h0]
        exact ih k _ _ (by rw [wrap_id (by omega) (by omega)]; omega) (by rw [wrap_id (by omega) (by omega)]; omega) (by omega)
      · rw [if_neg c2]; exact ⟨_, rfl⟩
    · rw [if_neg c]; exact ⟨_, rfl⟩
theorem new_some (l : List Int) (hl : (l.length : Int) ≤ 140737488351232) {k : Nat} (hk : 4010 ≤ k) : ∃ h, spec_l01New.f k l = some (l, 0, h) ∧ Cur l 0 := by
  unfold spec_l01New.f
  obtain ⟨h', e⟩ := new_from l hl 4000 k (wrap64 (118118 + (l.length : Int))) 0 (by omega) (by omega) (by omega)
  exact ⟨h', e, by unfold Cur; omega⟩


theorem val_j0 (l : List Int) (i h n : Int) (n0 : 1 ≤ n) (n1 : n ≤ 300) (hc : Cur l i) {k : Nat} (hk : 1 ≤ k) : ∃ x i' h', spec_l01Val.j0 k n l i h = some (x, i', h') ∧ -1 ≤ x ∧ x ≤ 300 ∧ Cur l i' := by
  obtain ⟨k, rfl⟩ : ∃ m, k = m + 1 := ⟨k - 1, by omega⟩
  simp only [spec_l01Val.j0]
  have hq : 0 ≤ Int.tdiv n 2 ∧ Int.tdiv n 2 ≤ 300 := by rw [Int.tdiv_eq_ediv_of_nonneg (by omega)]; omega
  obtain ⟨x, i1, h1, e1, _, _, _, c1⟩ := below_some l i h 9 hc
  rw [e1]; simp only [Option.bind_some]
  by_cases a : x = 0
  · rw [if_pos a]
    obtain ⟨y, i2, h2, e2, m2, c2⟩ := pickInt_some l i1 h1 [0, wrap64 (n - 1), wrap64 (Int.tdiv n 2), wrap64 (wrap64 (Int.tdiv n 2) - 1), 1] (by simp) c1
    rw [e2]; simp only [Option.bind_some]
    refine ⟨_, _, _, rfl, ?_, ?_, c2⟩ <;>
    · rw [wrap_id (x := n - 1) (by omega) (by omega), wrap_id (x := Int.tdiv n 2) (by omega) (by omega), wrap_id (x := Int.tdiv n 2 - 1) (by omega) (by omega)] at m2
      simp only [List.mem_cons, List.not_mem_nil, or_false] at m2
      omega
  · rw [if_neg a]
    by_cases b : x = 1
    · rw [if_pos b]
      obtain ⟨t, i2, h2, e2, c2⟩ := once_some l i1 h1 3 c1
      rw [e2]; simp only [Option.bind_some]
      cases t with
      | true =>
        rw [if_pos rfl]
        obtain ⟨y, i3, h3, e3, m3, c3⟩ := pickInt_some l i2 h2 [-1, n, 256] (by simp) c2
        rw [e3]; simp only [Option.bind_some]
        refine ⟨_, _, _, rfl, ?_, ?_, c3⟩ <;>
        · simp only [List.mem_cons, List.not_mem_nil, or_false] at m3
          omega
      | false =>
        rw [if_neg (by simp)]
        obtain ⟨y, i3, h3, e3, y0, _, y1, c3⟩ := below_some l i2 h2 n c2
        rw [e3]; exact ⟨_, _, _, rfl, by omega, by have := y1 (by omega); omega, c3⟩
    · rw [if_neg b]
      obtain ⟨y, i3, h3, e3, y0, _, y1, c3⟩ := below_some l i1 h1 n c1
      rw [e3]; exact ⟨_, _, _, rfl, by omega, by have := y1 (by omega); omega, c3⟩
theorem val_some (l : List Int) (i h w : Int) (hc : Cur l i) {k : Nat} (hk : 30 ≤ k) : ∃ x i' h', spec_l01Val.f k l i h w = some (x, i', h') ∧ -1 ≤ x ∧ x ≤ 300 ∧ Cur l i' := by
  unfold spec_l01Val.f
  rw [inS]; simp only [Option.bind_some]
  by_cases c : 1 ≤ w ∧ w ≤ 8
  · have hp := P2_pos (by omega : 0 ≤ w) c.2
    rw [if_pos (by simpa using c), pow2 (by omega) c.2 (by omega)]; simp only [Option.bind_some]
    exact val_j0 l i h _ hp.1 (by omega) hc (by omega)
  · rw [if_neg (by simpa using c)]
    exact val_j0 l i h _ (by omega) (by omega) hc (by omega)


theorem width_some (l : List Int) (i h : Int) (hc : Cur l i) : ∃ x i' h', spec_l01Width.f l i h = some (x, i', h') ∧ -1 ≤ x ∧ x ≤ 9 ∧ Cur l i' := by
  unfold spec_l01Width.f
  obtain ⟨t, i2, h2, e2, c2⟩ := once_some l i h 14 hc
  rw [e2]; simp only [Option.bind_some]
  cases t with
  | true =>
    rw [if_pos rfl]
    obtain ⟨y, i3, h3, e3, m3, c3⟩ := pickInt_some l i2 h2 [0, 9, -1, 8] (by simp) c2
    rw [e3]; simp only [Option.bind_some]
    refine ⟨_, _, _, rfl, ?_, ?_, c3⟩ <;>
    · simp only [List.mem_cons, List.not_mem_nil, or_false] at m3
      omega
  | false =>
    rw [if_neg (by simp)]
    obtain ⟨y, i3, h3, e3, y0, _, y1, c3⟩ := below_some l i2 h2 8 c2
    have y1 := y1 (by omega)
    rw [e3]; simp only [Option.bind_some]
    rw [wrap_id (by omega) (by omega)]
    exact ⟨_, _, _, rfl, by omega, by omega, c3⟩


theorem three_some (l : List Int) (hl : (l.length : Int) ≤ 140737488351232) {k : Nat} (hk : 4010 ≤ k) : ∃ w a b, spec_l01Three.f k l = some (w, a, b) ∧ -1 ≤ w ∧ w ≤ 9 ∧ -1 ≤ a ∧ a ≤ 300 ∧ -1 ≤ b ∧ b ≤ 300 := by
  unfold spec_l01Three.f
  obtain ⟨h, e, c⟩ := new_some l hl hk
  rw [e]; simp only [Option.bind_some]
  obtain ⟨w, i1, h1, e1, w0, w1, c1⟩ := width_some l 0 h c
  rw [e1]; simp only [Option.bind_some]
  obtain ⟨a, i2, h2, e2, a0, a1, c2⟩ := val_some l i1 h1 w c1 (k := k) (by omega)
  rw [e2]; simp only [Option.bind_some]
  obtain ⟨b, i3, h3, e3, b0, b1, c3⟩ := val_some l i2 h2 w c2 (k := k) (by omega)
  rw [e3]; exact ⟨_, _, _, rfl, w0, w1, a0, a1, b0, b1⟩


theorem powL {w : Int} (h0 : 0 ≤ w) (h8 : w ≤ 8) {k : Nat} (hk : 20 ≤ k) : laws_pow.f k w = some (P2 w) := by
  obtain ⟨m, rfl⟩ := rounds_of hk
  have : w = 0 ∨ w = 1 ∨ w = 2 ∨ w = 3 ∨ w = 4 ∨ w = 5 ∨ w = 6 ∨ w = 7 ∨ w = 8 := by omega
  rcases this with rfl | rfl | rfl | rfl | rfl | rfl | rfl | rfl | rfl <;> simp [laws_pow.f, laws_pow.l0, P2, wrap64]


theorem at_some (l : List Int) (hl : (l.length : Int) ≤ 140737488351232) (hw : ∀ x ∈ l, (Lit.int .u8 x).wf = true) (i : Int) (i0 : 0 ≤ i) (i1 : i ≤ 1000) : ∃ x, laws_at.f l i = some x ∧ 0 ≤ x ∧ x ≤ 255 := by
  unfold laws_at.f
  by_cases c : i < (l.length : Int)
  · rw [if_pos c, if_pos i0]
    have hm : rd l i ∈ l := by
      unfold rd
      rw [List.getD_eq_getElem?_getD, List.getElem?_eq_getElem (by omega)]
      exact List.getElem_mem _
    have hb := hw _ hm
    have hmin : IntKind.u8.min = 0 := rfl
    have hmax : IntKind.u8.max = 255 := rfl
    simp only [Lit.wf, Bool.and_eq_true, decide_eq_true_eq] at hb
    rw [wrap_id (by omega) (by omega)]
    exact ⟨_, rfl, by omega, by omega⟩
  · rw [if_neg c, wrap_id (x := i * 7) (by omega) (by omega), wrap_id (by omega) (by omega), Int.tmod_eq_emod_of_nonneg (by omega)]
    exact ⟨_, rfl, by omega, by omega⟩

end Go.Proofs.Ythepgolhpllpbaa.Pure.WordsW
namespace Go.Proofs.Ythepgolhpllpbaa.Pure
open Go.RowKit Go.Proofs.Ythepgolhpllpbaa.PFnWords Go.Proofs.YthepgolhpllpbaaW.PrintWords Go.Proofs.YthepgolhpllpbaaW.PrintLast Go.Proofs.YthepgolhpllpbaaW.PrintMore Go.Proofs.Ythepgolhpllpbaa.Base Go.Proofs.Ythepgolhpllpbaa.Pure.WordsW

theorem wok_mod {w x : Int} (h1 : 1 ≤ w) (h8 : w ≤ 8) : wok w (x % P2 w) = true := by
  have hp := P2_pos (by omega : 0 ≤ w) h8
  exact wok_iff.mpr ⟨h1, h8, Int.emod_nonneg _ (by omega), by have := Int.emod_lt_of_pos x (by omega : 0 < P2 w); omega⟩
theorem and_t {a b : Bool} (ha : a = true) (hb : b = true) : (a && b) = true := by rw [ha, hb]; rfl

theorem Add_w {w a b : Int} (ha : wok w a = true) (hb : wok w b = true) : impl_Add.f w a b = some ((a + b) % P2 w) := by rw [AddI, if_pos (and_t ha hb)]

theorem Sub_w {w a b : Int} (ha : wok w a = true) (hb : wok w b = true) : impl_Sub.f w a b = some ((a - b) % P2 w) := by rw [SubI, if_pos (and_t ha hb)]

theorem Mul_w {w a b : Int} (ha : wok w a = true) (hb : wok w b = true) : impl_Mul.f w a b = some ((a * b) % P2 w) := by rw [MulI, if_pos (and_t ha hb)]

theorem Div_w {w a b : Int} (ha : wok w a = true) (hb : wok w b = true) : impl_Div.f w a b = some (if b = 0 then P2 w - 1 else a / b) := by rw [DivI, if_pos (and_t ha hb)]

theorem Rem_w {w a b : Int} (ha : wok w a = true) (hb : wok w b = true) : impl_Rem.f w a b = some (if b = 0 then a else a % b) := by rw [RemI, if_pos (and_t ha hb)]

theorem Flip_w {w a : Int} (ha : wok w a = true) : impl_Flip.f w a = some (P2 w - 1 - a) := by rw [FlipI, if_pos ha]
theorem wok_flip {w a : Int} (ha : wok w a = true) : wok w (P2 w - 1 - a) = true := by
  obtain ⟨h1, h8, x0, hA⟩ := wok_iff.mp ha
  exact wok_iff.mpr ⟨h1, h8, by omega, by omega⟩
theorem sub_add {P a b : Int} (a0 : 0 ≤ a) (a1 : a < P) : ((a + b) % P - b) % P = a := by
  rw [Int.sub_emod, Int.emod_emod, ← Int.sub_emod, show a + b - b = a by omega, Int.emod_eq_of_lt a0 a1]
theorem mul_over {P a b c : Int} : (a * ((b + c) % P)) % P = ((a * b) % P + (a * c) % P) % P := by
  rw [Int.mul_emod, Int.emod_emod, ← Int.mul_emod, Int.mul_add, Int.add_emod]
theorem flip_sub {P a : Int} (a0 : 0 ≤ a) (a1 : a < P) : (((0 : Int) - a) % P - 1) % P = P - 1 - a := by
  rw [Int.sub_emod, Int.emod_emod, ← Int.sub_emod, show (0 : Int) - a - 1 = (P - 1 - a) - P by omega, Int.sub_emod_right, Int.emod_eq_of_lt (by omega) (by omega)]
theorem FnWords : laws_FnWords.Pure := by
  intro l hm hl hw
  have hl : (l.length : Int) ≤ 140737488351232 := by omega
  refine ⟨5000, ?_⟩
  unfold laws_FnWords.f laws_big.f
  simp only [Option.bind_some]
  by_cases hb : (l.length : Int) > 1048576
  · rw [if_pos (by simpa using hb)]
  · rw [if_neg (by simpa using hb)]
    obtain ⟨w, a, b, e, w0, w1, a0, a1, b0, b1⟩ := three_some l hl (k := 5000) (by omega)
    have e' : spec_DrawAdd.f 5000 l = some (w, a, b) := by unfold spec_DrawAdd.f; rw [e]; rfl
    rw [e']; simp only [Option.bind_some]
    rw [wokS w a (by omega), wokS w b (by omega)]; simp only [Option.bind_some]
    have none_ : (wok w a && wok w b) = false → laws_FnWords.j0 5000 l w a b true = some true := by
      intro hn
      simp only [laws_FnWords.j0]
      rw [if_pos trivial, AddI, SubI, MulI, DivI, LessI]
      simp only [hn, Bool.false_eq_true, if_false, Option.bind_some, false_and, if_true]
      rfl
    by_cases ha : wok w a = true
    · rw [if_pos ha]
      by_cases hbw : wok w b = true
      · rw [hbw]
        obtain ⟨h1, h8, x0, hA⟩ := wok_iff.mp ha
        obtain ⟨_, _, y0, hB⟩ := wok_iff.mp hbw
        have hp := P2_pos (by omega : 0 ≤ w) h8
        have hp2 : 2 ≤ P2 w := by have := P2_cases (by omega : 0 ≤ w) h8; omega
        obtain ⟨z, ez, z0, z1⟩ := at_some l hl hw 3 (by omega) (by omega)
        simp only [laws_FnWords.j0, laws_FnWords.j1, laws_FnWords.j2]
        rw [if_neg (show ¬ (!true) = true by decide), powL (by omega) h8 (by omega)]; simp only [Option.bind_some]
        rw [ez]; simp only [Option.bind_some]
        rw [if_neg (by omega), Int.tmod_eq_emod_of_nonneg z0]
        have hc : wok w (z % P2 w) = true := wok_mod h1 h8
        generalize z % P2 w = c at *
        have h0w : wok w 0 = true := wok_iff.mpr ⟨h1, h8, by omega, by omega⟩
        have h1w : wok w 1 = true := wok_iff.mpr ⟨h1, h8, by omega, by omega⟩
        rw [Add_w ha hbw, Add_w hbw hc, Add_w hbw ha, Mul_w ha hbw, Mul_w ha hc, Div_w ha hbw, Rem_w ha hbw, Flip_w ha, Sub_w h0w ha]
        simp only [Option.bind_some]
        rw [Sub_w (wok_mod h1 h8) hbw, Mul_w ha (wok_mod h1 h8), Add_w (wok_mod h1 h8) (wok_mod h1 h8)]
        simp only [Option.bind_some]
        rw [sub_add x0 (by omega), if_pos rfl, mul_over, if_pos rfl, Int.add_comm b a]
        simp only [bne_self_eq_false, Bool.false_eq_true, if_false]
        have last : ∀ t : Bool, t = true → (if t = true then some false else
            (if P2 w = 0 then (none : Option Bool) else ((impl_Sub.f w ((0 - a) % P2 w) ((1 : Int) % P2 w)).bind fun t228 => (if P2 w - 1 - a = t228 then ((impl_Flip.f w (P2 w - 1 - a)).bind fun t230 => (if t230 = a then ((impl_WordOk.f w (a * b % P2 w)).bind fun t232 => (some t232)) else (some false))) else (some false))))) = some false := by
          intro t ht; rw [if_pos ht]
        have fin : (if P2 w = 0 then (none : Option Bool) else ((impl_Sub.f w ((0 - a) % P2 w) ((1 : Int) % P2 w)).bind fun t228 => (if P2 w - 1 - a = t228 then ((impl_Flip.f w (P2 w - 1 - a)).bind fun t230 => (if t230 = a then ((impl_WordOk.f w (a * b % P2 w)).bind fun t232 => (some t232)) else (some false))) else (some false)))) = some true := by
          rw [if_neg (by omega), Int.emod_eq_of_lt (by omega : (0 : Int) ≤ 1) (by omega), Sub_w (wok_mod h1 h8) h1w, Flip_w (wok_flip ha), wokI]
          simp only [Option.bind_some]
          rw [flip_sub x0 (by omega), if_pos rfl, if_pos (by omega), wok_mod h1 h8]
        by_cases hb0 : b = 0
        · rw [if_pos hb0, if_pos hb0, if_pos hb0, wrap_id (x := P2 w - 1) (by omega) (by omega), if_pos rfl, if_neg (show ¬ (a != a) = true by simp)]
          exact fin
        · rw [if_neg hb0, if_neg hb0, if_neg hb0]
          have hdm := Int.mul_ediv_add_emod a b
          have hlt := Int.emod_lt_of_pos a (by omega : 0 < b)
          have hnn := Int.emod_nonneg a hb0
          have hq : 0 ≤ a / b ∧ a / b ≤ a := ⟨Int.ediv_nonneg x0 y0, Int.ediv_le_self _ x0⟩
          rw [Int.mul_comm] at hdm
          have hm2 := mul_bd hq.1 (by omega : a / b ≤ 255) y0 (by omega : b ≤ 255)
          rw [wrap_id (x := a / b * b) (by omega) (by omega), hdm, wrap_id (by omega) (by omega), if_pos rfl, if_neg (by omega)]
          exact fin
      · have hbf : wok w b = false := by simpa using hbw
        rw [hbf]
        exact none_ (by rw [hbf, Bool.and_false])
    · have haf : wok w a = false := by simpa using ha
      rw [if_neg ha]
      exact none_ (by rw [haf, Bool.false_and])
end Go.Proofs.Ythepgolhpllpbaa.Pure
