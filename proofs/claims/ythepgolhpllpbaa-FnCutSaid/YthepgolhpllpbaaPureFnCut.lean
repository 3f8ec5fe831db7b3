/- FnCut: what the printed functions come to, for every input. -/
import Derived.Test.YthepgolhpllpbaaPFnCutx3
import Derived.Test.YthepgolhpllpbaaBase
set_option linter.unusedVariables false
set_option linter.unusedSimpArgs false
namespace Go.Proofs.Ythepgolhpllpbaa.Pure.CutW
open Go.RowKit Go.Proofs.Ythepgolhpllpbaa.PFnCut Go.Proofs.YthepgolhpllpbaaW.PrintWords Go.Proofs.YthepgolhpllpbaaW.PrintLast Go.Proofs.YthepgolhpllpbaaW.PrintMore Go.Proofs.Ythepgolhpllpbaa.Base

theorem pow2 {w : Int} (h0 : 0 ≤ w) (h8 : w ≤ 8) {k : Nat} (hk : 20 ≤ k) : spec_l01Pow2.f k w = some (P2 w) := by
  obtain ⟨m, rfl⟩ := rounds_of hk
  have : w = 0 ∨ w = 1 ∨ w = 2 ∨ w = 3 ∨ w = 4 ∨ w = 5 ∨ w = 6 ∨ w = 7 ∨ w = 8 := by omega
  rcases this with rfl | rfl | rfl | rfl | rfl | rfl | rfl | rfl | rfl <;> simp [spec_l01Pow2.f, spec_l01Pow2.l0, P2, wrap64]


theorem inS (x a b : Int) : spec_l01In.f x a b = some (decide (a ≤ x ∧ x ≤ b)) := by
  unfold spec_l01In.f
  by_cases h : x ≥ a
  · rw [if_pos h]; simp [h]
  · rw [if_neg h]; simp [h]


theorem inI (x a b : Int) : impl_within.f x a b = some (decide (a ≤ x ∧ x ≤ b)) := by
  unfold impl_within.f
  by_cases h : x ≥ a
  · rw [if_pos h]; simp [h]
  · rw [if_neg h]; simp [h]


theorem wokS (w a : Int) {k : Nat} (hk : 20 ≤ k) : spec_WordOk.f k w a = some (wok w a) := by
  unfold spec_WordOk.f wok
  rw [inS]; simp only [Option.bind_some]
  by_cases h : 1 ≤ w ∧ w ≤ 8
  · have hp := P2_pos (by omega : 0 ≤ w) h.2
    rw [if_pos (by simp [h]), pow2 (by omega) h.2 hk]; simp only [Option.bind_some]
    rw [inS, wrap_id (by omega) (by omega)]; simp [h]
  · rw [if_neg (by simp; omega)]; simp; omega


theorem wokI (w a : Int) : impl_WordOk.f w a = some (wok w a) := by
  unfold impl_WordOk.f impl_isWidth.f wok
  rw [inI]; simp only [Option.bind_some]
  by_cases h : 1 ≤ w ∧ w ≤ 8
  · have hp := P2_pos (by omega : 0 ≤ w) h.2
    rw [if_pos (by simp [h]), if_pos (u64_nonneg w), u64_id (by omega) (by omega), shl_one (by omega) h.2, inI, wrap_id (by omega) (by omega)]
    simp [h]
  · rw [if_neg (by simp; omega)]; simp; omega


theorem twoI (w a b : Int) : impl_two.f w a b = some (wok w a && wok w b) := by
  unfold impl_two.f
  rw [wokI w a, wokI w b]; cases wok w a <;> simp


theorem cutI {w x : Int} (h0 : 0 ≤ w) (h8 : w ≤ 8) (h1 : -9223372036854775808 ≤ x) (h2 : x ≤ 9223372036854775807) : impl_cut.f w x = some (x % P2 w) := by
  unfold impl_cut.f
  have hp := P2_pos h0 h8
  rw [if_pos (u64_nonneg w), u64_id (by omega) (by omega), shl_one h0 h8, wrap_id (by omega) (by omega), mask_id h0 h8 h1 h2]


theorem MulI (w a b : Int) : impl_Mul.f w a b = some (if (wok w a && wok w b) = true then (a * b) % P2 w else 0) := by
  unfold impl_Mul.f
  rw [twoI w a b]; simp only [Option.bind_some]
  by_cases h : (wok w a && wok w b) = true
  · rw [if_pos h, if_pos h]
    obtain ⟨ha, hb⟩ := Bool.and_eq_true_iff.mp h
    obtain ⟨h1, h8, ha0, hA⟩ := wok_iff.mp ha
    obtain ⟨_, _, hb0, hB⟩ := wok_iff.mp hb
    have hp := P2_pos (by omega : 0 ≤ w) h8
    have hm := mul_bd ha0 (by omega : a ≤ 255) hb0 (by omega : b ≤ 255)
    rw [wrap_id (by omega) (by omega), cutI (by omega) h8 (by omega) (by omega)]; rfl
  · rw [if_neg h, if_neg h]


theorem DivI (w a b : Int) : impl_Div.f w a b = some (if (wok w a && wok w b) = true then (if b = 0 then P2 w - 1 else a / b) else 0) := by
  unfold impl_Div.f
  rw [twoI w a b]; simp only [Option.bind_some]
  by_cases h : (wok w a && wok w b) = true
  · rw [if_pos h, if_pos h]
    obtain ⟨ha, hb⟩ := Bool.and_eq_true_iff.mp h
    obtain ⟨h1, h8, ha0, hA⟩ := wok_iff.mp ha
    obtain ⟨_, _, hb0, hB⟩ := wok_iff.mp hb
    have hp := P2_pos (by omega : 0 ≤ w) h8
    by_cases h0 : b = 0
    · rw [if_pos h0, if_pos h0]
      try rw [if_pos (u64_nonneg w)]
      rw [u64_id (by omega) (by omega), shl_one (by omega) h8, wrap_id (by omega) (by omega)]
    · rw [if_neg h0, if_neg h0]
      have hq : 0 ≤ a / b ∧ a / b ≤ a := ⟨Int.ediv_nonneg ha0 hb0, Int.ediv_le_self _ ha0⟩
      try rw [if_neg h0]
      rw [Int.tdiv_eq_ediv_of_nonneg ha0, wrap_id (by omega) (by omega)]
  · rw [if_neg h, if_neg h]


theorem ShrI (w a b : Int) : impl_Shr.f w a b = some (if (wok w a && wok w b) = true then (if b ≥ w then 0 else a / P2 b) else 0) := by
  unfold impl_Shr.f
  rw [twoI w a b]; simp only [Option.bind_some]
  by_cases h : (wok w a && wok w b) = true
  · rw [if_pos h, if_pos h]
    obtain ⟨ha, hb⟩ := Bool.and_eq_true_iff.mp h
    obtain ⟨h1, h8, ha0, hA⟩ := wok_iff.mp ha
    obtain ⟨_, _, hb0, hB⟩ := wok_iff.mp hb
    have hp := P2_pos (by omega : 0 ≤ w) h8
    by_cases hw : b ≥ w
    · rw [if_pos hw, if_pos hw]
    · rw [if_neg hw, if_neg hw, if_pos (u64_nonneg b), u64_id (by omega) (by omega), shr_id hb0 (by omega)]
  · rw [if_neg h, if_neg h]


theorem ShlI (w a b : Int) : impl_Shl.f w a b = some (if (wok w a && wok w b) = true then (if b ≥ w then 0 else (a * P2 b) % P2 w) else 0) := by
  unfold impl_Shl.f
  rw [twoI w a b]; simp only [Option.bind_some]
  by_cases h : (wok w a && wok w b) = true
  · rw [if_pos h, if_pos h]
    obtain ⟨ha, hb⟩ := Bool.and_eq_true_iff.mp h
    obtain ⟨h1, h8, ha0, hA⟩ := wok_iff.mp ha
    obtain ⟨_, _, hb0, hB⟩ := wok_iff.mp hb
    have hp := P2_pos (by omega : 0 ≤ w) h8
    by_cases hw : b ≥ w
    · rw [if_pos hw, if_pos hw]
    · have hpb := P2_pos hb0 (by omega : b ≤ 8)
      have hm := mul_bd ha0 (by omega : a ≤ 255) (by omega : 0 ≤ P2 b) (by omega : P2 b ≤ 256)
      rw [if_neg hw, if_neg hw, if_pos (u64_nonneg b), u64_id (by omega) (by omega), shl_id ha0 (by omega) hb0 (by omega), cutI (by omega) h8 (by omega) (by omega)]; rfl
  · rw [if_neg h, if_neg h]


theorem JoinI (w a v b : Int) : impl_Join.f w a v b = some (if wok w a = true ∧ wok v b = true ∧ w + v ≤ 8 then a * P2 v + b else 0) := by
  unfold impl_Join.f
  rw [wokI w a, wokI v b]; simp only [Option.bind_some]
  by_cases ha : wok w a = true
  · rw [if_pos ha]
    by_cases hb : wok v b = true
    · rw [if_pos hb]
      obtain ⟨h1, h8, ha0, hA⟩ := wok_iff.mp ha
      obtain ⟨g1, g8, hb0, hB⟩ := wok_iff.mp hb
      have hp := P2_pos (by omega : 0 ≤ w) h8
      have hq := P2_pos (by omega : 0 ≤ v) g8
      rw [wrap_id (x := w + v) (by omega) (by omega)]
      by_cases hs : w + v > 8
      · rw [if_pos hs, if_neg (by omega)]
      · rw [if_neg hs, if_pos (u64_nonneg v), if_pos ⟨ha, hb, by omega⟩, u64_id (by omega) (by omega), shl_id ha0 (by omega) (by omega) g8, or_id (by omega) g8 ha0 (by omega) hb0 hB]
    · rw [if_neg hb, if_neg (fun z => hb z.2.1)]
  · rw [if_neg ha, if_neg (fun z => ha z.1)]


theorem SliceI (w a l n : Int) (hn1 : -9223372036854775808 ≤ n) (hn2 : n ≤ 9223372036854775807) : impl_Slice.f w a l n = some (if wok w a = true ∧ 0 ≤ l ∧ 1 ≤ n ∧ n ≤ w - l then a / P2 l % P2 n else 0) := by
  unfold impl_Slice.f
  rw [wokI w a]; simp only [Option.bind_some]
  by_cases ha : wok w a = true
  · rw [if_pos ha, inI]; simp only [Option.bind_some]
    obtain ⟨h1, h8, ha0, hA⟩ := wok_iff.mp ha
    have hp := P2_pos (by omega : 0 ≤ w) h8
    by_cases hn : 1 ≤ n ∧ n ≤ w
    · rw [if_pos (by simpa using hn), inI, wrap_id (by omega) (by omega)]; simp only [Option.bind_some]
      by_cases hl : 0 ≤ l ∧ l ≤ w - n
      · have hpl := P2_pos (by omega : 0 ≤ l) (by omega : l ≤ 8)
        have hpn := P2_pos (by omega : 0 ≤ n) (by omega : n ≤ 8)
        have hq : 0 ≤ a / P2 l ∧ a / P2 l ≤ a := ⟨Int.ediv_nonneg ha0 (by omega), Int.ediv_le_self _ ha0⟩
        rw [if_pos (by simpa using hl), if_pos (u64_nonneg l), u64_id (by omega) (by omega), shr_id (by omega) (by omega), cutI (by omega) (by omega) (by omega) (by omega), if_pos ⟨ha, by omega, by omega, by omega⟩]
        rfl
      · rw [if_neg (by simpa using hl), if_neg (by omega)]
    · rw [if_neg (by simpa using hn), if_neg (by omega)]
  · rw [if_neg ha, if_neg (fun z => ha z.1)]


/-- A reader of draws: its place lies in the bytes. -/
def Cur (l : List Int) (i : Int) : Prop := 0 ≤ i ∧ i ≤ (l.length : Int) ∧ (l.length : Int) ≤ 140737488351232
theorem and255 (x : Int) : 0 ≤ Go.bits .and .i64 x 255 ∧ Go.bits .and .i64 x 255 ≤ 255 := by
  have hm : (BitVec.ofInt 64 (255 : Int)).toNat = 255 := by decide
  have hle : ((BitVec.ofInt 64 x).toNat &&& 255) ≤ 255 := Nat.and_le_right
  have e : Go.bits .and .i64 x 255 = IntKind.i64.wrap (((BitVec.ofInt 64 x).toNat &&& 255 : Nat) : Int) := by
    show IntKind.i64.wrap ((BitVec.ofInt 64 x &&& BitVec.ofInt 64 (255 : Int)).toNat : Int) = _
    rw [BitVec.toNat_and, hm]
  rw [e, IntKind.wrap_i64]
  omega
theorem byte_some (l : List Int) (i h : Int) (hc : Cur l i) : ∃ x i' h', spec_l01Byte.f l i h = some (x, i', h') ∧ 0 ≤ x ∧ x ≤ 255 ∧ Cur l i' := by
  unfold spec_l01Byte.f
  obtain ⟨h0, h1, h2⟩ := hc
  by_cases hi : i < (l.length : Int)
  · rw [if_pos hi, if_pos h0]
    exact ⟨_, _, _, rfl, (and255 _).1, (and255 _).2, by rw [wrap_id (by omega) (by omega)]; exact ⟨by omega, by omega, h2⟩⟩
  · rw [if_neg hi]
    exact ⟨_, _, _, rfl, (and255 _).1, (and255 _).2, h0, h1, h2⟩


theorem below_some (l : List Int) (i h n : Int) (hc : Cur l i) : ∃ x i' h', spec_l01Below.f l i h n = some (x, i', h') ∧ 0 ≤ x ∧ (n ≤ 0 → x = 0) ∧ (0 < n → x < n) ∧ Cur l i' := by
  unfold spec_l01Below.f
  by_cases h0 : n ≤ 0
  · rw [if_pos h0]
    exact ⟨0, i, h, rfl, by omega, fun _ => rfl, fun _ => by omega, hc⟩
  · rw [if_neg h0]
    by_cases h1 : n ≤ 256
    · rw [if_pos h1]
      obtain ⟨x, i1, h2, e, b0, b1, c1⟩ := byte_some l i h hc
      rw [e]; simp only [Option.bind_some]
      rw [if_neg (by omega)]
      refine ⟨_, _, _, rfl, ?_, by omega, fun _ => ?_, c1⟩
      · exact Int.tmod_nonneg _ b0
      · rw [Int.tmod_eq_emod_of_nonneg b0]; exact Int.emod_lt_of_pos _ (by omega)
    · rw [if_neg h1]
      obtain ⟨x, i1, z1, e1, b0, b1, c1⟩ := byte_some l i h hc
      rw [e1]; simp only [Option.bind_some]
      obtain ⟨y, i2, z2, e2, d0, d1, c2⟩ := byte_some l i1 z1 c1
      rw [e2]; simp only [Option.bind_some]
      obtain ⟨z, i3, z3, e3, f0, f1, c3⟩ := byte_some l i2 z2 c2
      rw [e3]; simp only [Option.bind_some]
      obtain ⟨v, i4, z4, e4, g0, g1, c4⟩ := byte_some l i3 z3 c3
      rw [e4]; simp only [Option.bind_some]
      rw [if_neg (by omega), wrap_id (x := x * 16777216) (by omega) (by omega), wrap_id (x := y * 65536) (by omega) (by omega), wrap_id (x := x * 16777216 + y * 65536) (by omega) (by omega), wrap_id (x := z * 256) (by omega) (by omega), wrap_id (x := x * 16777216 + y * 65536 + z * 256) (by omega) (by omega), wrap_id (by omega) (by omega)]
      refine ⟨_, _, _, rfl, ?_, by omega, fun _ => ?_, c4⟩
      · exact Int.tmod_nonneg _ (by omega)
      · rw [Int.tmod_eq_emod_of_nonneg (by omega)]; exact Int.emod_lt_of_pos _ (by omega)


theorem once_some (l : List Int) (i h n : Int) (hc : Cur l i) : ∃ b i' h', spec_l01Once.f l i h n = some (b, i', h') ∧ Cur l i' := by
  unfold spec_l01Once.f
  obtain ⟨x, i1, h1, e, _, _, _, c⟩ := below_some l i h n hc
  rw [e]; exact ⟨_, _, _, rfl, c⟩


theorem pickInt_some (l : List Int) (i h : Int) (xs : List Int) (hx : xs ≠ []) (hc : Cur l i) : ∃ x i' h', spec_l01PickInt.f l i h xs = some (x, i', h') ∧ x ∈ xs ∧ Cur l i' := by
  unfold spec_l01PickInt.f
  have hl : 0 < (xs.length : Int) := by have := List.length_pos_iff.mpr hx; omega
  obtain ⟨x, i1, h1, e, x0, _, x1, c⟩ := below_some l i h (xs.length : Int) hc
  rw [e]; simp only [Option.bind_some]
  have hlt := x1 hl
  rw [if_pos x0, if_pos hlt]
  refine ⟨_, _, _, rfl, ?_, c⟩
  unfold rd
  rw [List.getD_eq_getElem?_getD, List.getElem?_eq_getElem (by omega)]
  exact List.getElem_mem _


theorem new_from (l : List Int) (hl : (l.length : Int) ≤ 140737488351232) (d : Nat) : ∀ (k : Nat) (h j : Int), 0 ≤ j → 4000 - j ≤ d → d < k → ∃ h', spec_l01New.l0 k l h j = some (l, 0, h') := by
  induction d with
  | zero =>
    intro k h j h0 hd hk
    obtain ⟨k, rfl⟩ : ∃ m, k = m + 1 := ⟨k - 1, by omega⟩
    simp only [spec_l01New.l0]
    by_cases c : j < (l.length : Int)
    · rw [if_pos c, if_neg (by omega)]; exact ⟨_, rfl⟩
    · rw [if_neg c]; exact ⟨_, rfl⟩
  | succ d ih =>
    intro k h j h0 hd hk
    obtain ⟨k, rfl⟩ : ∃ m, k = m + 1 := ⟨k - 1, by omega⟩
    simp only [spec_l01New.l0]
    by_cases c : j < (l.length : Int)
    · rw [if_pos c]
      by_cases c2 : j < 4000
      · rw [if_pos c2, if_pos h0]
        exact ih k _ _ (by rw [wrap_id (by omega) (by omega)]; omega) (by rw [wrap_id (by omega) (by omega)]; omega) (by omega)
      · rw [if_neg c2]; exact ⟨_, rfl⟩
    · rw [if_neg c]; exact ⟨_, rfl⟩
theorem new_some (l : List Int) (hl : (l.length : Int) ≤ 140737488351232) {k : Nat} (hk : 4010 ≤ k) : ∃ h, spec_l01New.f k l = some (l, 0, h) ∧ Cur l 0 := by
  unfold spec_l01New.f
  obtain ⟨h', e⟩ := new_from l hl 4000 k (wrap64 (118118 + (l.length : Int))) 0 (by omega) (by omega) (by omega)
  exact ⟨h', e, by unfold Cur; omega⟩


theorem val_j0 (l : List Int) (i h n : Int) (n0 : 1 ≤ n) (n1 : n ≤ 300) (hc : Cur l i) {k : Nat} (hk : 1 ≤ k) : ∃ x i' h', spec_l01Val.j0 k n l i h = some (x, i', h') ∧ -1 ≤ x ∧ x ≤ 300 ∧ Cur l i' := by
  obtain ⟨k, rfl⟩ : ∃ m, k = m + 1 := ⟨k - 1, by omega⟩
  simp only [spec_l01Val.j0]
  have hq : 0 ≤ Int.tdiv n 2 ∧ Int.tdiv n 2 ≤ 300 := by rw [Int.tdiv_eq_ediv_of_nonneg (by omega)]; omega
  obtain ⟨x, i1, h1, e1, _, _, _, c1⟩ := below_some l i h 9 hc
  rw [e1]; simp only [Option.bind_some]
  by_cases a : x = 0
  · rw [if_pos a]
    obtain ⟨y, i2, h2, e2, m2, c2⟩ := pickInt_some l i1 h1 [0, wrap64 (n - 1), wrap64 (Int.tdiv n 2), wrap64 (wrap64 (Int.tdiv n 2) - 1), 1] (by simp) c1
    rw [e2]; simp only [Option.bind_some]
    refine ⟨_, _, _, rfl, ?_, ?_, c2⟩ <;>
    · rw [wrap_id (x := n - 1) (by omega) (by omega), wrap_id (x := Int.tdiv n 2) (by omega) (by omega), wrap_id (x := Int.tdiv n 2 - 1) (by omega) (by omega)] at m2
      simp only [List.mem_cons, List.not_mem_nil, or_false] at m2
      omega
  · rw [if_neg a]
    by_cases b : x = 1
    · rw [if_pos b]
      obtain ⟨t, i2, h2, e2, c2⟩ := once_some l i1 h1 3 c1
      rw [e2]; simp only [Option.bind_some]
      cases t with
      | true =>
        rw [if_pos rfl]
        obtain ⟨y, i3, h3, e3, m3, c3⟩ := pickInt_some l i2 h2 [-1, n, 256] (by simp) c2
        rw [e3]; simp only [Option.bind_some]
        refine ⟨_, _, _, rfl, ?_, ?_, c3⟩ <;>
        · simp only [List.mem_cons, List.not_mem_nil, or_false] at m3
          omega
      | false =>
        rw [if_neg (by simp)]
        obtain ⟨y, i3, h3, e3, y0, _, y1, c3⟩ := below_some l i2 h2 n c2
        rw [e3]; exact ⟨_, _, _, rfl, by omega, by have := y1 (by omega); omega, c3⟩
    · rw [if_neg b]
      obtain ⟨y, i3, h3, e3, y0, _, y1, c3⟩ := below_some l i1 h1 n c1
      rw [e3]; exact ⟨_, _, _, rfl, by omega, by have := y1 (by omega); omega, c3⟩
theorem val_some (l : List Int) (i h w : Int) (hc : Cur l i) {k : Nat} (hk : 30 ≤ k) : ∃ x i' h', spec_l01Val.f k l i h w = some (x, i', h') ∧ -1 ≤ x ∧ x ≤ 300 ∧ Cur l i' := by
  unfold spec_l01Val.f
  rw [inS]; simp only [Option.bind_some]
  by_cases c : 1 ≤ w ∧ w ≤ 8
  · have hp := P2_pos (by omega : 0 ≤ w) c.2
    rw [if_pos (by simpa using c), pow2 (by omega) c.2 (by omega)]; simp only [Option.bind_some]
    exact val_j0 l i h _ hp.1 (by omega) hc (by omega)
  · rw [if_neg (by simpa using c)]
    exact val_j0 l i h _ (by omega) (by omega) hc (by omega)


theorem drawJoin_some (l : List Int) (hl : (l.length : Int) ≤ 140737488351232) {k : Nat} (hk : 4010 ≤ k) : ∃ w a v b, spec_DrawJoin.f k l = some (w, a, v, b) ∧ 1 ≤ w ∧ w ≤ 5 ∧ -1 ≤ a ∧ a ≤ 300 ∧ 1 ≤ v ∧ v ≤ 5 ∧ -1 ≤ b ∧ b ≤ 300 := by
  unfold spec_DrawJoin.f
  obtain ⟨h, e, c⟩ := new_some l hl hk
  rw [e]; simp only [Option.bind_some]
  obtain ⟨w, i1, h1, e1, w0, _, w1, c1⟩ := below_some l 0 h 5 c
  have w1 := w1 (by omega)
  rw [e1]; simp only [Option.bind_some]
  rw [wrap_id (x := 1 + w) (by omega) (by omega)]
  obtain ⟨a, i2, h2, e2, a0, a1, c2⟩ := val_some l i1 h1 (1 + w) c1 (k := k) (by omega)
  rw [e2]; simp only [Option.bind_some]
  obtain ⟨v, i3, h3, e3, v0, _, v1, c3⟩ := below_some l i2 h2 5 c2
  have v1 := v1 (by omega)
  rw [e3]; simp only [Option.bind_some]
  rw [wrap_id (x := 1 + v) (by omega) (by omega)]
  obtain ⟨b, i4, h4, e4, b0, b1, c4⟩ := val_some l i3 h3 (1 + v) c3 (k := k) (by omega)
  rw [e4]; simp only [Option.bind_some]
  exact ⟨_, _, _, _, rfl, by omega, by omega, a0, a1, by omega, by omega, b0, b1⟩


theorem powL {w : Int} (h0 : 0 ≤ w) (h8 : w ≤ 8) {k : Nat} (hk : 20 ≤ k) : laws_pow.f k w = some (P2 w) := by
  obtain ⟨m, rfl⟩ := rounds_of hk
  have : w = 0 ∨ w = 1 ∨ w = 2 ∨ w = 3 ∨ w = 4 ∨ w = 5 ∨ w = 6 ∨ w = 7 ∨ w = 8 := by omega
  rcases this with rfl | rfl | rfl | rfl | rfl | rfl | rfl | rfl | rfl <;> simp [laws_pow.f, laws_pow.l0, P2, wrap64]


theorem at_some (l : List Int) (hl : (l.length : Int) ≤ 140737488351232) (hw : ∀ x ∈ l, (Lit.int .u8 x).wf = true) (i : Int) (i0 : 0 ≤ i) (i1 : i ≤ 1000) : ∃ x, laws_at.f l i = some x ∧ 0 ≤ x ∧ x ≤ 255 := by
  unfold laws_at.f
  by_cases c : i < (l.length : Int)
  · rw [if_pos c, if_pos i0]
    have hm : rd l i ∈ l := by
      unfold rd
      rw [List.getD_eq_getElem?_getD, List.getElem?_eq_getElem (by omega)]
      exact List.getElem_mem _
    have hb := hw _ hm
    have hmin : IntKind.u8.min = 0 := rfl
    have hmax : IntKind.u8.max = 255 := rfl
    simp only [Lit.wf, Bool.and_eq_true, decide_eq_true_eq] at hb
    rw [wrap_id (by omega) (by omega)]
    exact ⟨_, rfl, by omega, by omega⟩
  · rw [if_neg c, wrap_id (x := i * 7) (by omega) (by omega), wrap_id (by omega) (by omega), Int.tmod_eq_emod_of_nonneg (by omega)]
    exact ⟨_, rfl, by omega, by omega⟩

end Go.Proofs.Ythepgolhpllpbaa.Pure.CutW
namespace Go.Proofs.Ythepgolhpllpbaa.Pure
open Go.RowKit Go.Proofs.Ythepgolhpllpbaa.PFnCut Go.Proofs.YthepgolhpllpbaaW.PrintWords Go.Proofs.YthepgolhpllpbaaW.PrintLast Go.Proofs.YthepgolhpllpbaaW.PrintMore Go.Proofs.Ythepgolhpllpbaa.Base Go.Proofs.Ythepgolhpllpbaa.Pure.CutW

theorem wok_mod {w x : Int} (h1 : 1 ≤ w) (h8 : w ≤ 8) : wok w (x % P2 w) = true := by
  have hp := P2_pos (by omega : 0 ≤ w) h8
  exact wok_iff.mpr ⟨h1, h8, Int.emod_nonneg _ (by omega), by have := Int.emod_lt_of_pos x (by omega : 0 < P2 w); omega⟩
theorem and_t {a b : Bool} (ha : a = true) (hb : b = true) : (a && b) = true := by rw [ha, hb]; rfl

theorem Mul_w {w a b : Int} (ha : wok w a = true) (hb : wok w b = true) : impl_Mul.f w a b = some ((a * b) % P2 w) := by rw [MulI, if_pos (and_t ha hb)]

theorem Div_w {w a b : Int} (ha : wok w a = true) (hb : wok w b = true) : impl_Div.f w a b = some (if b = 0 then P2 w - 1 else a / b) := by rw [DivI, if_pos (and_t ha hb)]

theorem Shl_w {w a b : Int} (ha : wok w a = true) (hb : wok w b = true) : impl_Shl.f w a b = some (if b ≥ w then 0 else (a * P2 b) % P2 w) := by rw [ShlI, if_pos (and_t ha hb)]

theorem Shr_w {w a b : Int} (ha : wok w a = true) (hb : wok w b = true) : impl_Shr.f w a b = some (if b ≥ w then 0 else a / P2 b) := by rw [ShrI, if_pos (and_t ha hb)]

theorem P2_lt {k w : Int} (k0 : 0 ≤ k) (h : k < w) (h8 : w ≤ 8) : 2 * P2 k ≤ P2 w := by
  have e : w = k + 1 + (w - k - 1) := by omega
  have h2 := P2_pos (by omega : 0 ≤ w - k - 1) (by omega)
  have h3 := P2_pos k0 (by omega : k ≤ 8)
  rw [e, P2_add (by omega) (by omega), P2_add k0 (by omega), show P2 1 = 2 from rfl, Int.mul_comm 2]
  have := Int.mul_le_mul_of_nonneg_left h2.1 (by omega : 0 ≤ P2 k * 2)
  omega
theorem FnCut : laws_FnCut.Pure := by
  intro l hm hl hw
  have hl : (l.length : Int) ≤ 140737488351232 := by omega
  refine ⟨5000, ?_⟩
  unfold laws_FnCut.f laws_big.f
  simp only [Option.bind_some]
  by_cases hb : (l.length : Int) > 1048576
  · rw [if_pos (by simpa using hb)]
  · rw [if_neg (by simpa using hb)]
    obtain ⟨w, a, v, b, e, w0, w1, a0, a1, v0, v1, b0, b1⟩ := drawJoin_some l hl (k := 5000) (by omega)
    rw [e]; simp only [Option.bind_some]
    rw [wokS w a (by omega), wokS v b (by omega)]; simp only [Option.bind_some]
    have none_ : ¬ (wok w a = true ∧ wok v b = true ∧ w + v ≤ 8) → laws_FnCut.j0 5000 l w a v b true = some true := by
      intro hn
      simp only [laws_FnCut.j0]
      rw [if_pos trivial, JoinI, if_neg hn]; rfl
    by_cases ha : wok w a = true
    · rw [if_pos ha]
      by_cases hbw : wok v b = true
      · rw [if_pos hbw, wrap_id (x := w + v) (by omega) (by omega)]
        by_cases h8 : w + v > 8
        · rw [decide_eq_true h8]
          exact none_ (by omega)
        · rw [decide_eq_false h8]
          obtain ⟨h1, _, x0, hA⟩ := wok_iff.mp ha
          obtain ⟨g1, _, y0, hB⟩ := wok_iff.mp hbw
          have hp := P2_pos (by omega : 0 ≤ w) (by omega)
          have hq := P2_pos (by omega : 0 ≤ v) (by omega)
          have hpq : P2 (w + v) = P2 w * P2 v := P2_add (by omega) (by omega)
          have hwv := P2_pos (by omega : 0 ≤ w + v) (by omega)
          have hj : wok (w + v) (a * P2 v + b) = true := by
            have h2 := Int.mul_le_mul_of_nonneg_right hA (by omega : 0 ≤ P2 v)
            have h3 := Int.mul_nonneg x0 (by omega : 0 ≤ P2 v)
            rw [Int.sub_mul] at h2
            exact wok_iff.mpr ⟨by omega, by omega, by omega, by omega⟩
          have e1 : (a * P2 v + b) / P2 v = a := by
            rw [Int.add_comm, Int.add_mul_ediv_right _ _ (by omega), Int.ediv_eq_zero_of_lt y0 (by omega)]; omega
          have e2 : (a * P2 v + b) % P2 v = b := by
            rw [Int.add_comm, Int.add_mul_emod_self_right, Int.emod_eq_of_lt y0 (by omega)]
          simp only [laws_FnCut.j0]
          rw [if_neg (by simp), JoinI, if_pos ⟨ha, hbw, by omega⟩]; simp only [Option.bind_some]
          rw [wrap_id (x := w + v) (by omega) (by omega), wokI, hj]; simp only [Option.bind_some, if_true]
          have s1 : impl_Slice.f (w + v) (a * P2 v + b) v w = some a := by
            rw [SliceI _ _ _ _ (by omega) (by omega), if_pos ⟨hj, by omega, by omega, by omega⟩, e1, Int.emod_eq_of_lt x0 (by omega)]
          have s2 : impl_Slice.f (w + v) (a * P2 v + b) 0 v = some b := by
            rw [SliceI _ _ _ _ (by omega) (by omega), if_pos ⟨hj, by omega, by omega, by omega⟩, show P2 0 = 1 from rfl, Int.ediv_one, e2]
          have s3 : impl_Slice.f (w + v) (a * P2 v + b) 1 (w + v) = some 0 := by
            rw [SliceI _ _ _ _ (by omega) (by omega), if_neg (by omega)]
          rw [s1, s2, s3]; simp only [Option.bind_some, if_true, bne_self_eq_false]
          simp only [laws_FnCut.j1, laws_FnCut.j2]
          rw [if_neg (show ¬ (false = true) by decide)]
          obtain ⟨z, ez, z0, z1⟩ := at_some l hl hw 3 (by omega) (by omega)
          rw [ez]; simp only [Option.bind_some]
          rw [wrap_id (x := w + 2) (by omega) (by omega), if_neg (by omega), Int.tmod_eq_emod_of_nonneg z0]
          have k0 := Int.emod_nonneg z (by omega : w + 2 ≠ 0)
          have k1 := Int.emod_lt_of_pos z (by omega : 0 < w + 2)
          generalize z % (w + 2) = k at *
          rw [powL (by omega : 0 ≤ w) (by omega) (by omega)]; simp only [Option.bind_some]
          by_cases hk : k < w
          · have hlt := P2_lt k0 hk (by omega)
            have hpk := P2_pos k0 (by omega : k ≤ 8)
            have hkw : wok w k = true := wok_iff.mpr ⟨h1, by omega, k0, by have := P2_cases (by omega : 0 ≤ w) (by omega); omega⟩
            have hpw : wok w (P2 k) = true := wok_iff.mpr ⟨h1, by omega, by omega, by omega⟩
            rw [if_pos hk, powL k0 (by omega) (by omega)]; simp only [Option.bind_some]
            have t1 : impl_Shl.f w a k = some (a * P2 k % P2 w) := by rw [Shl_w ha hkw, if_neg (by omega)]
            have t2 : impl_Shr.f w a k = some (a / P2 k) := by rw [Shr_w ha hkw, if_neg (by omega)]
            have t3 : impl_Div.f w a (P2 k) = some (a / P2 k) := by rw [Div_w ha hpw, if_neg (by omega)]
            rw [Mul_w ha hpw, t1, t2, t3]; simp only [Option.bind_some]
            rw [if_neg (by have := P2_cases (by omega : 0 ≤ w) (by omega); omega)]
            simp
          · rw [if_neg hk]
            by_cases hkp : k ≥ P2 w
            · have hkf : wok w k = false := by
                rw [← Bool.not_eq_true, wok_iff]; omega
              rw [if_pos hkp, ShlI, hkf, Bool.and_false]; rfl
            · have hkw : wok w k = true := wok_iff.mpr ⟨h1, by omega, k0, by omega⟩
              have t1 : impl_Shl.f w a k = some 0 := by rw [Shl_w ha hkw, if_pos (by omega)]
              have t2 : impl_Shr.f w a k = some 0 := by rw [Shr_w ha hkw, if_pos (by omega)]
              rw [if_neg hkp, t1, t2]; rfl
      · rw [if_neg hbw]
        exact none_ (fun z => hbw z.2.1)
    · rw [if_neg ha]
      exact none_ (fun z => ha z.1)
end Go.Proofs.Ythepgolhpllpbaa.Pure
