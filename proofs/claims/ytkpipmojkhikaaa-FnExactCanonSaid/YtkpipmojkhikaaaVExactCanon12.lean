/- Written by a program of this session over the loaded program, and by hand: Go functions as plain Lean functions, and that a call comes to what they say. -/
import Derived.Test.YtkpipmojkhikaaaVExactCanon0
import Derived.Test.YtkpipmojkhikaaaVExactCanon6
import Derived.Test.YtkpipmojkhikaaaVExactCanon11
import Derived.Test.YtkpipmojkhikaaaBase
import Derived.Test.YtkpipmojkhikaaaSq
namespace Go.Proofs.Ytkpipmojkhikaaa.PAll
open Go.RowKit Go.Proofs.YtkpipmojkhikaaaW.PrintWords Go.Proofs.YtkpipmojkhikaaaW.PrintLast Go.Proofs.YtkpipmojkhikaaaW.PrintMore Go.Proofs.YtkpipmojkhikaaaW.Sq
attribute [local go_sem] max2_int min2_int max_two min_two max_three min_three max_four min_four   -- for this text's walks alone
set_option linter.unusedVariables false
set_option linter.unusedSimpArgs false

/-! ### impl_readPair: function 91 -/
mutual
def impl_readPair.j0 : Nat → ByteArray → Bool → Option (Int × Int × Bool)
 | 0, _, _ => none
 | k + 1, x0, x19 => if x19 = true then (some (0, 0, false)) else (impl_readPair.l0 k x0 1)
def impl_readPair.j2 : Nat → ByteArray → Int → Option (Int × Int × Bool)
 | 0, _, _ => none
 | k + 1, x0, x7 => if x7 = (x0.size : Int) then (some (0, 0, false)) else (if 1 ≤ x7 then (if x7 ≤ (x0.size : Int) then ((impl_readNumber.f k (x0.extract 1 (x7 : Int).toNat)).bind fun bt408 => (if 0 ≤ (wrap64 (x7 + 1)) then (if (wrap64 (x7 + 1)) ≤ (x0.size : Int) then ((impl_readNumber.f k (x0.extract ((wrap64 (x7 + 1)) : Int).toNat x0.size)).bind fun bt410 => (if bt408.2 = true then (some (bt408.1, bt410.1, bt410.2)) else (some (bt408.1, bt410.1, false)))) else (none)) else (none))) else (none)) else (none))
def impl_readPair.l0 : Nat → ByteArray → Int → Option (Int × Int × Bool)
 | 0, _, _ => none
 | k + 1, x0, x7 => if x7 < (x0.size : Int) then (if 0 ≤ x7 then (if (bt x0 x7) = 58 then (impl_readPair.j2 k x0 x7) else (impl_readPair.l0 k x0 (wrap64 (x7 + 1)))) else (none)) else (impl_readPair.j2 k x0 x7)
end
def impl_readPair.f (k : Nat) (a0 : ByteArray) (a1 : Int) : Option (Int × Int × Bool) := if a0.toList = ([] : List UInt8) then (impl_readPair.j0 k a0 true) else (if 0 < (a0.size : Int) then (impl_readPair.j0 k a0 ((bt a0 0) != a1)) else (none))
set_option maxHeartbeats 8000000 in
set_option maxRecDepth 100000 in
theorem impl_readPair.calls (k : Nat) (a0 : ByteArray) (a1 : Int) (r1 : Int) (r2 : Int) (r3 : Bool) (w : World) (h : impl_readPair.f k a0 a1 = some (r1, r2, r3)) :
  Calls Try.prog 91 #[.string a0, .int .u8 a1] w fun e w' => e = .returned (.tuple #[.int .i64 r1, .int .i64 r2, .bool r3]) ∧ Drawn0 w w' := by
 have H : (if a0.toList = ([] : List UInt8) then (impl_readPair.j0 k a0 true) else (if 0 < (a0.size : Int) then (impl_readPair.j0 k a0 ((bt a0 0) != a1)) else (none))) = some (r1, r2, r3) := h
 clear h
 have HC3 := am H; clear H
 go_enter Try.func91, Try.ntmps91
 go_upto_region 1 with (fail)
 go_cut [19] (fun v19 wc => ∃ (kq : Nat) (x19_2 : Bool), v19 = .bool x19_2 ∧ Aside0 (impl_readPair.j0 kq a0 x19_2 = some (r1, r2, r3)) ∧ Aside0 (kq ≤ k) ∧ Drawn0 w wc)
 case first =>
  have H := HC3.out
  clear HC3
  replace H := iE H; rcases H with ⟨c4b0, c4b1, H⟩ | ⟨c4b0, c4b1, H⟩
  ·have H' := am H
   clear H
   go_wp2
   go_meet
   case rel => exact ⟨_, (true), (by rfl), H', ⟨by omega⟩, by repeat (first | exact Drawn0.refl _ | apply Drawn0.step)⟩
  ·replace H := iP H; obtain ⟨c5, H⟩ := H
   have c5b0 : decide (0 < (a0.size : Int)) = true := decide_eq_true c5
   have c5b1 : decide (0 < a0.size) = true := decide_eq_true (by omega)
   clear c5
   have H' := am H
   clear H
   have p6 : 0 ≤ (0 : Int) := (by omega)
   have q6 : 0 < a0.size := (by have : (0 : Int) < (a0.size : Int) := oD (by assumption); omega)
   have hx6 : ∀ h : 0 < a0.size, ((a0[0]'h).toNat : Int) = bt a0 0 := bt_at a0 0
   clear p6
   have qi6 : (0 < (a0.size : Int)) = True := eq_true (oD (by assumption))
   replace q6 := eq_true q6
   go_wp2
   go_meet
   case rel => exact ⟨_, (((bt a0 0) != a1)), (by rfl), H', ⟨by omega⟩, by repeat (first | exact Drawn0.refl _ | apply Drawn0.step)⟩
 case rest =>
  clear HC3
  obtain ⟨kq, x19_2, rfl, HA, HJ2, ⟨mc2, rfl⟩⟩ := hcut
  cases kq with
  | zero => exact absurd HA.out (by simp [impl_readPair.j0])
  | succ kj2 =>
   have H := HA.out
   clear HA
   simp only [impl_readPair.j0] at H
   replace H := iB H; rcases H with ⟨rfl, H⟩ | ⟨rfl, H⟩
   ·simp only [Option.some.injEq, Prod.mk.injEq] at H
    obtain ⟨rfl, rfl, rfl⟩ := H
    go_wp2
    go_ret3
    exact ⟨by rfl, by repeat (first | exact Drawn0.refl _ | apply Drawn0.step)⟩
   ·have HC8 := am H; clear H
    go_upto_block 0 with (fail)
    go_cut [7] (fun v7 wc => ∃ (kq : Nat) (x7_7 : Int), v7 = .int .i64 x7_7 ∧ Aside0 (impl_readPair.j2 kq a0 x7_7 = some (r1, r2, r3)) ∧ Aside0 (kq ≤ kj2) ∧ Drawn0 w wc)
    case first =>
     have H := HC8.out
     clear HC8
     have H' := am H
     clear H
     go_wp2
     go_loopg [7] kj2 (fun kq v7 w' => ∃ (x7_2 : Int), v7 = .int .i64 x7_2 ∧ Aside0 (impl_readPair.l0 kq a0 x7_2 = some (r1, r2, r3)) ∧ Aside0 (kq ≤ kj2) ∧ Drawn0 w w')
     case atStart => exact ⟨(1), (by rfl), H', ⟨Nat.le_refl _⟩, by repeat (first | exact Drawn0.refl _ | apply Drawn0.step)⟩
     case round =>
      clear H'
      obtain ⟨x7_2, rfl, HA, HK2, ⟨m2, rfl⟩⟩ := hrel
      cases gk with
      | zero => exact absurd HA.out (by simp [impl_readPair.l0])
      | succ k2 =>
       have H := HA.out
       clear HA
       simp only [impl_readPair.l0] at H
       replace H := iD H; rcases H with ⟨c9b0, H⟩ | ⟨c9b0, H⟩
       ·replace H := iN H; obtain ⟨c10b0, H⟩ := H
        replace H := iE H; rcases H with ⟨c12b0, c12b1, H⟩ | ⟨c12b0, c12b1, H⟩
        ·have H' := am H
         clear H
         have p11 : 0 ≤ (x7_2 : Int) := oD (by assumption)
         have q11 : x7_2 < (a0.size : Int) := oD (by assumption)
         have hx11 := bt_at a0 x7_2
         replace p11 := eq_true p11
         replace q11 := eq_true q11
         go_wp2
         go_meet
         case rel => exact ⟨_, (x7_2), (by rfl), H', ⟨by have := HJ2.out; have := HK2.out; omega⟩, by repeat (first | exact Drawn0.refl _ | apply Drawn0.step)⟩
        ·have H' := am H
         clear H
         have p11 : 0 ≤ (x7_2 : Int) := oD (by assumption)
         have q11 : x7_2 < (a0.size : Int) := oD (by assumption)
         have hx11 := bt_at a0 x7_2
         replace p11 := eq_true p11
         replace q11 := eq_true q11
         go_wp2
         go_roundg k2
         case measure => have := HJ2.out; have := HK2.out; omega
         case rel => exact ⟨(wrap64 (x7_2 + 1)), (by rfl), H', ⟨by have := HJ2.out; have := HK2.out; omega⟩, by repeat (first | exact Drawn0.refl _ | apply Drawn0.step)⟩
       ·have H' := am H
        clear H
        go_wp2
        go_meet
        case rel => exact ⟨_, (x7_2), (by rfl), H', ⟨by have := HJ2.out; have := HK2.out; omega⟩, by repeat (first | exact Drawn0.refl _ | apply Drawn0.step)⟩
    case rest =>
     clear HC8
     obtain ⟨kq, x7_7, rfl, HA, HJ7, ⟨mc7, rfl⟩⟩ := hcut
     cases kq with
     | zero => exact absurd HA.out (by simp [impl_readPair.j2])
     | succ kj7 =>
      have H := HA.out
      clear HA
      simp only [impl_readPair.j2] at H
      replace H := iE H; rcases H with ⟨c13b0, c13b1, H⟩ | ⟨c13b0, c13b1, H⟩
      ·simp only [Option.some.injEq, Prod.mk.injEq] at H
       obtain ⟨rfl, rfl, rfl⟩ := H
       go_wp2
       go_ret3
       exact ⟨by rfl, by repeat (first | exact Drawn0.refl _ | apply Drawn0.step)⟩
      ·replace H := iTD H; obtain ⟨c14b0, c14b1, H⟩ := H
       replace H := iTD H; obtain ⟨c15b0, c15b1, H⟩ := H
       replace H := oA H; obtain ⟨⟨t408, t409⟩, A16, H⟩ := H
       try dsimp only at H
       obtain ⟨ji17, hji17⟩ : ∃ j_ : Int, (wrap64 (x7_7 + 1)) = j_ := ⟨_, rfl⟩
       replace H : (if 0 ≤ (ji17) then (if (ji17) ≤ (a0.size : Int) then ((impl_readNumber.f kj7 (a0.extract ((ji17) : Int).toNat a0.size)).bind fun bt410 => (if t409 = true then (some (t408, bt410.1, bt410.2)) else (some (t408, bt410.1, false)))) else (none)) else (none)) = some (r1, r2, r3) := by (rw [hji17] at H; exact H)
       (try rw [hji17] at A16)
       have hji17w : (IntKind.i64.wrap (x7_7 + 1)) = ji17 := (i64_w _).trans hji17
       replace H := iTD H; obtain ⟨c18b0, c18b1, H⟩ := H
       replace H := iTD H; obtain ⟨c19b0, c19b1, H⟩ := H
       replace H := oA H; obtain ⟨⟨t410, t411⟩, A20, H⟩ := H
       try dsimp only at H
       replace H := iB H; rcases H with ⟨rfl, H⟩ | ⟨rfl, H⟩
       ·simp only [Option.some.injEq, Prod.mk.injEq] at H
        obtain ⟨rfl, rfl, rfl⟩ := H
        go_wp2_with (first | ((with_reducible refine gate_callee (f := 123) rfl ?_); refine goesL_ (some 40) rfl rfl Try.func123 (by kernel_rfl) rfl #[.string (a0.extract 1 (x7_7 : Int).toNat)] rfl tm ?_; refine cD (impl_readNumber.calls _ _ _ _ _ A16.out) fun nd => ?_; refine ⟨_, rfl, ?_⟩) | ((with_reducible refine gate_callee (f := 123) rfl ?_); refine goesL_ (some 48) rfl rfl Try.func123 (by kernel_rfl) rfl #[.string (a0.extract ((ji17) : Int).toNat a0.size)] rfl tm ?_; refine cD (impl_readNumber.calls _ _ _ _ _ A20.out) fun nd => ?_; refine ⟨_, rfl, ?_⟩))
        go_ret3
        exact ⟨by rfl, by repeat (first | exact Drawn0.refl _ | apply Drawn0.step)⟩
       ·simp only [Option.some.injEq, Prod.mk.injEq] at H
        obtain ⟨rfl, rfl, rfl⟩ := H
        go_wp2_with (first | ((with_reducible refine gate_callee (f := 123) rfl ?_); refine goesL_ (some 40) rfl rfl Try.func123 (by kernel_rfl) rfl #[.string (a0.extract 1 (x7_7 : Int).toNat)] rfl tm ?_; refine cD (impl_readNumber.calls _ _ _ _ _ A16.out) fun nd => ?_; refine ⟨_, rfl, ?_⟩) | ((with_reducible refine gate_callee (f := 123) rfl ?_); refine goesL_ (some 48) rfl rfl Try.func123 (by kernel_rfl) rfl #[.string (a0.extract ((ji17) : Int).toNat a0.size)] rfl tm ?_; refine cD (impl_readNumber.calls _ _ _ _ _ A20.out) fun nd => ?_; refine ⟨_, rfl, ?_⟩))
        go_ret3
        exact ⟨by rfl, by repeat (first | exact Drawn0.refl _ | apply Drawn0.step)⟩
/-! ### impl_termReader_node, where no bracket opens: by hand -/
variable {Ax : Option Addr} {cx : Nat}
theorem putsF_len {l : List (S31)} {code bad : Int} {n : S31} {frm : Int} (h : l.length ≤ 80) : (putsF l code bad n frm).2.1.length ≤ 80 := by
 unfold putsF
 split
 ·split
  ·exact h
  ·split
   ·exact h
   ·simp; omega
 ·exact h
/-- What puts leaves, with the place. -/
def putR (l : List (S31)) (code bad : Int) (n : S31) (frm a : Int) : (Int × Bool) × Int × List (S31) × Int × Int :=
 ((putsF l code bad n frm).1, a, (putsF l code bad n frm).2)
/-- A node without parts is read: behind the bracket that is not there. -/
def leafF (k : Nat) (s : ByteArray) (a : Int) (l : List (S31)) (code bad frm : Int) : Option ((Int × Bool) × Int × List (S31) × Int × Int) :=
 (wF k s a l code bad).bind fun w1 => (impl_readPair.f k w1.1 35).bind fun r => if r.2.2 = true then some (putR l code bad ⟨0, r.1, r.2.1, 0, 0, 0⟩ frm w1.2) else (impl_readPair.f k w1.1 118).bind fun q => if q.2.2 = true then some (putR l code bad ⟨1, q.2.1, q.1, 0, 0, 0⟩ frm w1.2) else some ((0, false), w1.2, l, 2, frm)
/-- The reader is left so. -/
def Left (w0 w W : World) (g : Nat) (s : ByteArray) (a : Int) (l : List (S31)) (code bad : Int) (A0 : Option Addr) (c0 n0 : Nat) : Prop :=
 (∃ A' c', IsRd w0 W g s a l code bad A' c' ∧ ∀ k, (Value.slice A' l.length c').ownBlock = some k → some k = (Value.slice A0 n0 c0).ownBlock ∨ w.heap.size ≤ k) ∧ Kept w W (fun k => k = g ∨ some k = (Value.slice A0 n0 c0).ownBlock) ∧ l.length ≤ 80
set_option maxHeartbeats 4000000 in
set_option maxRecDepth 100000 in
theorem impl_termReader_node.leaf (k g : Nat) (s : ByteArray) (a a1 : Int) (l : List (S31)) (code bad p : Int) (ok : Bool) (a' : Int) (l' : List (S31)) (code' bad' : Int) (A : Option Addr) (c : Nat) (w0 w : World) (hI : IsRd w0 w g s a l code bad A c) (hl : l.length ≤ 80) (hg : gF s a l code bad 40 = some (false, a1))
  (hf : leafF k s a1 l code bad a = some ((p, ok), a', l', code', bad')) :
  Calls Try.prog 61 #[.pointer (some ⟨g, 0, none⟩)] w fun e w' => e = .returned (.tuple #[.int .i64 p, .bool ok]) ∧ Left w0 w w' g s a' l' code' bad' A c l.length := by
 obtain ⟨hS, hR, hB⟩ := hI
 have HS := am hS; have HR := am hR; have HB := am hB; have HL := am hl; have HG := am hg
 unfold leafF at hf
 obtain ⟨⟨v1, a2⟩, hw1, hf⟩ := oB hf
 obtain ⟨⟨x1, x2, f1⟩, hr1, hf⟩ := oB hf
 have HW := am hw1; have HP := am hr1; have HF := am hf
 obtain ⟨A2, c2, hbg, _, _, _⟩ := hS
 have g1 := (blk_cell hbg 1)
 have g1 : w.cell? ⟨g, 1, none⟩ = some (.int .i64 a) := g1.trans rfl
 have HK := am (Kept.refl w (fun k => k = g ∨ some k = (Value.slice A l.length c).ownBlock))
 clear hR hB hl hg hw1 hr1 hf hbg
 go_enter Try.func61, Try.ntmps61
 go_wp2_with fail
 refine (goesC g s a l code bad 40 false a1 w0 _ HS.out HB.out HG.out).mono ?_
 rintro e w1 ⟨rfl, hi, hb, hk⟩
 have HS := am hi; have HR := am (Kd.R_keep HR.out hk (fun _ h => h)); have HB := am hb; have HK := am (Kept.of_keep HK.out hk (.inl (.inl rfl)))
 clear hi hb hk g1
 go_wp2_with fail
 refine (wordC k g s a1 l code bad v1 a2 w0 _ HS.out HB.out HW.out).mono ?_
 rintro e w2 ⟨rfl, hi, hb, hk⟩
 have HS := am hi; have HR := am (Kd.R_keep HR.out hk (fun _ h => h)); have HB := am hb; have HK := am (Kept.of_keep HK.out hk (.inl (.inl rfl)))
 clear hi hb hk
 go_wp2_with fail
 refine (impl_readPair.calls k v1 35 x1 x2 f1 _ HP.out).mono ?_
 rintro e w3 ⟨rfl, hd⟩
 have HS := am (IsS84.below HS.out hd.below); have HR := am (Kd.R_below HR.out hd.below); have HB := am (HB.out.trans (hd.below.mono HB.out.size)); have HK := am (HK.out.below hd.below)
 clear hd
 cases f1 with
 | true =>
  have hf := HF.out
  rw [if_pos rfl] at hf
  unfold putR at hf
  simp only [Option.some.injEq, Prod.mk.injEq] at hf
  obtain ⟨h1, rfl, h2⟩ := hf
  have HQ := am (show putsF l code bad ⟨0, x1, x2, 0, 0, 0⟩ a = ((p, ok), l', code', bad') from Prod.ext h1 h2)
  clear h1 h2
  go_wp2_with fail
  refine (impl_termReader_puts.calls g s a2 l code bad 0 x1 x2 0 0 0 a p ok l' code' bad' A c w0 w3 ⟨HS.out, HR.out, HB.out⟩ HL.out HQ.out).mono ?_
  rintro e w4 ⟨rfl, ⟨A', c', hI, ho⟩, hk⟩
  have HI := am hI; have HO := am ho; have HK4 := am hk
  clear hI ho hk
  have HLN := am (show l'.length ≤ 80 from by have := putsF_len (code := code) (bad := bad) (n := ⟨0, x1, x2, 0, 0, 0⟩) (frm := a) HL.out; rw [HQ.out] at this; exact this)
  go_wp2_with fail
  refine bodyPost_ret (results_list (rs := [.tmp 2, .tmp 3]) rfl (by simp) (.tmp (.tmp .nil))) rfl ?_
  refine ⟨rfl, ⟨A', c', HI.out, fun k e => ?_⟩, HK.out.then_ HK4.out (fun _ h => .inl h), HLN.out⟩
  rcases HO.out k e with h | h
  ·exact .inl h
  ·exact .inr (Nat.le_trans HK.out.1 h)
 | false =>
  have hf := HF.out
  rw [if_neg (by decide)] at hf
  obtain ⟨⟨y1, y2, f2⟩, hr2, hf⟩ := oB hf
  have HP2 := am hr2; have HF := am hf
  clear hr2 hf
  go_wp2_with fail
  refine (impl_readPair.calls k v1 118 y1 y2 f2 _ HP2.out).mono ?_
  rintro e w4 ⟨rfl, hd⟩
  have HS := am (IsS84.below HS.out hd.below); have HR := am (Kd.R_below HR.out hd.below); have HB := am (HB.out.trans (hd.below.mono HB.out.size)); have HK := am (HK.out.below hd.below)
  clear hd
  cases f2 with
  | true =>
   have hf := HF.out
   rw [if_pos rfl] at hf
   unfold putR at hf
   simp only [Option.some.injEq, Prod.mk.injEq] at hf
   obtain ⟨h1, rfl, h2⟩ := hf
   have HQ := am (show putsF l code bad ⟨1, y2, y1, 0, 0, 0⟩ a = ((p, ok), l', code', bad') from Prod.ext h1 h2)
   clear h1 h2
   go_wp2_with fail
   refine (impl_termReader_puts.calls g s a2 l code bad 1 y2 y1 0 0 0 a p ok l' code' bad' A c w0 w4 ⟨HS.out, HR.out, HB.out⟩ HL.out HQ.out).mono ?_
   rintro e w5 ⟨rfl, ⟨A', c', hI, ho⟩, hk⟩
   have HI := am hI; have HO := am ho; have HK4 := am hk
   clear hI ho hk
   have HLN := am (show l'.length ≤ 80 from by have := putsF_len (code := code) (bad := bad) (n := ⟨1, y2, y1, 0, 0, 0⟩) (frm := a) HL.out; rw [HQ.out] at this; exact this)
   go_wp2_with fail
   refine bodyPost_ret (results_list (rs := [.tmp 2, .tmp 3]) rfl (by simp) (.tmp (.tmp .nil))) rfl ?_
   refine ⟨rfl, ⟨A', c', HI.out, fun k e => ?_⟩, HK.out.then_ HK4.out (fun _ h => .inl h), HLN.out⟩
   rcases HO.out k e with h | h
   ·exact .inl h
   ·exact .inr (Nat.le_trans HK.out.1 h)
  | false =>
   have hf := HF.out
   rw [if_neg (by decide)] at hf
   simp only [Option.some.injEq, Prod.mk.injEq] at hf
   obtain ⟨⟨rfl, rfl⟩, rfl, rfl, rfl, rfl⟩ := hf
   go_wp2_with fail
   refine (impl_termReader_fails.calls g s a2 l code bad 2 a 0 false s a2 2 a w0 w4 HS.out HB.out rfl).mono ?_
   rintro e w5 ⟨rfl, hi, hb, hk⟩
   have HS := am hi; have HR := am (Kd.R_keep HR.out hk (fun _ h => h)); have HB := am hb; have HK := am (Kept.of_keep HK.out hk (.inl (.inl rfl)))
   clear hi hb hk
   go_wp2_with fail
   refine bodyPost_ret (results_list (rs := [.tmp 2, .tmp 3]) rfl (by simp) (.tmp (.tmp .nil))) rfl ?_
   exact ⟨rfl, ⟨A, c, ⟨HS.out, HR.out, HB.out⟩, fun k e => .inl e.symm⟩, HK.out, HL.out⟩
variable {Ax : Option Addr} {cx : Nat}
/-! ### impl_termReader_width: function 96 -/
def impl_termReader_width.j0 : Nat → Bool → ByteArray → Int → List (S31) → Int → Int → Int → Int → Int → Int → Int → Int → Option (Int × ByteArray × Int × Int × Int)
 | 0, _, _, _, _, _, _, _, _, _, _, _, _ => none
 | k + 1, x11, x1000, x1001, x1002, x1003, x1004, x430000, x430001, x430002, x430003, x430004, x430005 => if x11 = true then (some (1, x1000, x1001, x1003, x1004)) else (if x430000 = 16 then (if 0 ≤ x430003 then (if x430003 < (x1002.length : Int) then (if 0 ≤ x430004 then (if x430004 < (x1002.length : Int) then (some (wrap64 (((rd_T31 x1002 x430003).f1) + ((rd_T31 x1002 x430004).f1)), x1000, x1001, x1003, x1004)) else (none)) else (none)) else (none)) else (none)) else (if x430000 = 18 then (if 0 ≤ x430004 then (if x430004 < (x1002.length : Int) then (some ((rd_T31 x1002 x430004).f1, x1000, x1001, x1003, x1004)) else (none)) else (none)) else (if 0 ≤ x430003 then (if x430003 < (x1002.length : Int) then (some ((rd_T31 x1002 x430003).f1, x1000, x1001, x1003, x1004)) else (none)) else (none))))
def impl_termReader_width.f (k : Nat) (s0_0 : ByteArray) (s0_1 : Int) (s0_2 : List (S31)) (s0_3 : Int) (s0_4 : Int) (a1_0 : Int) (a1_1 : Int) (a1_2 : Int) (a1_3 : Int) (a1_4 : Int) (a1_5 : Int) : Option (Int × ByteArray × Int × Int × Int) := if a1_0 = 17 then (some (a1_1, s0_0, s0_1, s0_3, s0_4)) else ((impl_within.f a1_0 13 15).bind fun t430 => (if t430 = true then (impl_termReader_width.j0 k true s0_0 s0_1 s0_2 s0_3 s0_4 a1_0 a1_1 a1_2 a1_3 a1_4 a1_5) else ((impl_isQuant.f a1_0 a1_1 a1_2 a1_3 a1_4 a1_5).bind fun t431 => (impl_termReader_width.j0 k t431 s0_0 s0_1 s0_2 s0_3 s0_4 a1_0 a1_1 a1_2 a1_3 a1_4 a1_5))))
set_option maxHeartbeats 8000000 in
set_option maxRecDepth 100000 in
theorem impl_termReader_width.calls (k : Nat) (g : Nat) (s0_0 : ByteArray) (s0_1 : Int) (s0_2 : List (S31)) (s0_3 : Int) (s0_4 : Int) (a1_0 : Int) (a1_1 : Int) (a1_2 : Int) (a1_3 : Int) (a1_4 : Int) (a1_5 : Int) (r1 : Int) (r2 : ByteArray) (r3 : Int) (r4 : Int) (r5 : Int) (w0 w : World) (hI : IsS84 Ax cx w0 w g s0_0 s0_1 s0_2 s0_3 s0_4) (hB : Below w0.heap.size w0 w) (hrow : ∀ W', KeepBut w W' g none → Kd.C k31 W' Ax s0_2.length s0_2) (h : impl_termReader_width.f k s0_0 s0_1 s0_2 s0_3 s0_4 a1_0 a1_1 a1_2 a1_3 a1_4 a1_5 = some (r1, r2, r3, r4, r5)) :
  Calls Try.prog 96 #[.pointer (some ⟨g, 0, none⟩), .agg #[.int .i64 a1_0, .int .i64 a1_1, .int .i64 a1_2, .int .i64 a1_3, .int .i64 a1_4, .int .i64 a1_5]] w fun e w' => e = .returned (.int .i64 r1) ∧ IsS84 Ax cx w0 w' g r2 r3 s0_2 r4 r5 ∧ Below w0.heap.size w0 w' ∧ KeepBut w w' g none := by
 have HROW := am hrow
 clear hrow
 have hu31 := Try.underlying31
 have HI0 := am hI
 have HK := am (KeepBut.refl w g none)
 have HL := am hB.size
 clear hI
 have HW0 := am hB.size
 have HB := am hB
 clear hB
 have H : (if a1_0 = 17 then (some (a1_1, s0_0, s0_1, s0_3, s0_4)) else ((impl_within.f a1_0 13 15).bind fun t430 => (if t430 = true then (impl_termReader_width.j0 k true s0_0 s0_1 s0_2 s0_3 s0_4 a1_0 a1_1 a1_2 a1_3 a1_4 a1_5) else ((impl_isQuant.f a1_0 a1_1 a1_2 a1_3 a1_4 a1_5).bind fun t431 => (impl_termReader_width.j0 k t431 s0_0 s0_1 s0_2 s0_3 s0_4 a1_0 a1_1 a1_2 a1_3 a1_4 a1_5))))) = some (r1, r2, r3, r4, r5) := h
 clear h
 by_cases c3 : a1_0 = 17
 ·rw [if_pos c3] at H
  have c3b0 : (a1_0 == 17) = true := beq_iff_eq.mpr c3
  have c3b1 : (a1_0 != 17) = false := bne_eq_false_iff_eq.mpr c3
  clear c3
  simp only [Option.some.injEq, Prod.mk.injEq] at H
  obtain ⟨rfl, rfl, rfl, rfl, rfl⟩ := H
  go_enter Try.func96, Try.ntmps96
  go_wp2_with (first | ((with_reducible refine gate_dst (N := 3) rfl ?_); refine box_event ?hg (N := 3) ?hd (cs := #[.int .i64 a1_0, .int .i64 a1_1, .int .i64 a1_2, .int .i64 a1_3, .int .i64 a1_4, .int .i64 a1_5]) (t := 31) ?hr ?_; (case hd => rfl); (case hg => rfl); (case hr => (go_simp; done)); intro gb429 hg w4 hbox hb; have n0_ := am (IsS84.below (by repeat (first | (with_reducible first | exact HI0.out | apply IsS84.alloc | apply IsS84.drewN | apply IsS84.drew | apply IsS84.set_0 | apply IsS84.set_1 | apply IsS84.set_3 | apply IsS84.set_4) | exact HI0.out)) hb); have n1_ := am (KeepBut.trans (by exact kB) (KeepBut.of_below hb g none) (.inl rfl)); have n2_ := am (below_step (by exact bIsS84) hb); have n3_ := am (hbox); have n4_ := am ((by rw [hg]; exact (keep_size (w := w) (g := g) (row := none) (by exact kB)) : w.heap.size ≤ gb429)); have n5_ := am ((Nat.le_trans HW0.out (by rw [hg]; exact (keep_size (w := w) (g := g) (row := none) (by exact kB)) : w.heap.size ≤ gb429) : w0.heap.size ≤ gb429)); have n6_ := am ((by rw [hg]; exact Nat.ne_of_lt (IsS84.lt (show IsS84 Ax cx w0 _ g s0_0 s0_1 s0_2 s0_3 s0_4 from by repeat (first | (with_reducible first | exact HI0.out | apply IsS84.alloc | apply IsS84.drewN | apply IsS84.drew | apply IsS84.set_0 | apply IsS84.set_1 | apply IsS84.set_3 | apply IsS84.set_4) | exact HI0.out))) : g ≠ gb429)); have n7_ := am ((by rw [hg]; exact Nat.ne_of_gt (IsS84.lt (show IsS84 Ax cx w0 _ g s0_0 s0_1 s0_2 s0_3 s0_4 from by repeat (first | (with_reducible first | exact HI0.out | apply IsS84.alloc | apply IsS84.drewN | apply IsS84.drew | apply IsS84.set_0 | apply IsS84.set_1 | apply IsS84.set_3 | apply IsS84.set_4) | exact HI0.out))) : gb429 ≠ g)); clear HI0; clear HK; clear HB; have HI0 := n0_; have HK := n1_; have HB := n2_; have BK429 := n3_; have GW429 := n4_; have GE429 := n5_; have NB0_429 := n6_; have NB429_0 := n7_; clear n0_ n1_ n2_ n3_ n4_ n5_ n6_ n7_; clear hb hbox hg; have hnb5 := NB429_0.out; have hnc5 := NB0_429.out; obtain ⟨hcz6_0, hcz6_1, hcz6_2, hcz6_3, hcz6_4, hcz6_5⟩ := cz6 BK429.out; obtain ⟨hfz6_0, hfz6_1, hfz6_2, hfz6_3, hfz6_4, hfz6_5⟩ := fz6 BK429.out))
  go_ret
  exact ⟨by rfl, by repeat (first | (with_reducible first | exact HI0.out | apply IsS84.alloc | apply IsS84.drewN | apply IsS84.drew | apply IsS84.set_0 | apply IsS84.set_1 | apply IsS84.set_3 | apply IsS84.set_4 | refine IsS84.far ?_ NB0_429.out _) | exact HI0.out), by exact bIsS84, by repeat (first | (with_reducible first | exact HK.out | apply KeepBut.set_ | apply keep_drewN | apply keep_drew | apply keep_alloc | refine keep_far ?_ GW429.out _) | exact HK.out)⟩
 ·rw [if_neg c3] at H
  have c3b0 : (a1_0 == 17) = false := beq_eq_false_iff_ne.mpr c3
  have c3b1 : (a1_0 != 17) = true := bne_iff_ne.mpr c3
  have HC7 := am H; clear H
  go_enter Try.func96, Try.ntmps96
  go_upto_region 3 with (first | ((with_reducible refine gate_dst (N := 3) rfl ?_); refine box_event ?hg (N := 3) ?hd (cs := #[.int .i64 a1_0, .int .i64 a1_1, .int .i64 a1_2, .int .i64 a1_3, .int .i64 a1_4, .int .i64 a1_5]) (t := 31) ?hr ?_; (case hd => rfl); (case hg => rfl); (case hr => (go_simp; done)); intro gb429 hg w8 hbox hb; have n0_ := am (IsS84.below (by repeat (first | (with_reducible first | exact HI0.out | apply IsS84.alloc | apply IsS84.drewN | apply IsS84.drew | apply IsS84.set_0 | apply IsS84.set_1 | apply IsS84.set_3 | apply IsS84.set_4) | exact HI0.out)) hb); have n1_ := am (KeepBut.trans (by exact kB) (KeepBut.of_below hb g none) (.inl rfl)); have n2_ := am (below_step (by exact bIsS84) hb); have n3_ := am (hbox); have n4_ := am ((by rw [hg]; exact (keep_size (w := w) (g := g) (row := none) (by exact kB)) : w.heap.size ≤ gb429)); have n5_ := am ((Nat.le_trans HW0.out (by rw [hg]; exact (keep_size (w := w) (g := g) (row := none) (by exact kB)) : w.heap.size ≤ gb429) : w0.heap.size ≤ gb429)); have n6_ := am ((by rw [hg]; exact Nat.ne_of_lt (IsS84.lt (show IsS84 Ax cx w0 _ g s0_0 s0_1 s0_2 s0_3 s0_4 from by repeat (first | (with_reducible first | exact HI0.out | apply IsS84.alloc | apply IsS84.drewN | apply IsS84.drew | apply IsS84.set_0 | apply IsS84.set_1 | apply IsS84.set_3 | apply IsS84.set_4) | exact HI0.out))) : g ≠ gb429)); have n7_ := am ((by rw [hg]; exact Nat.ne_of_gt (IsS84.lt (show IsS84 Ax cx w0 _ g s0_0 s0_1 s0_2 s0_3 s0_4 from by repeat (first | (with_reducible first | exact HI0.out | apply IsS84.alloc | apply IsS84.drewN | apply IsS84.drew | apply IsS84.set_0 | apply IsS84.set_1 | apply IsS84.set_3 | apply IsS84.set_4) | exact HI0.out))) : gb429 ≠ g)); clear HI0; clear HK; clear HB; have HI0 := n0_; have HK := n1_; have HB := n2_; have BK429 := n3_; have GW429 := n4_; have GE429 := n5_; have NB0_429 := n6_; have NB429_0 := n7_; clear n0_ n1_ n2_ n3_ n4_ n5_ n6_ n7_; clear hb hbox hg; have hnb9 := NB429_0.out; have hnc9 := NB0_429.out; obtain ⟨hcz10_0, hcz10_1, hcz10_2, hcz10_3, hcz10_4, hcz10_5⟩ := cz6 BK429.out; obtain ⟨hfz10_0, hfz10_1, hfz10_2, hfz10_3, hfz10_4, hfz10_5⟩ := fz6 BK429.out))
  repeat (go_quiet (first | ((with_reducible refine gate_dst (N := 3) rfl ?_); refine box_event ?hg (N := 3) ?hd (cs := #[.int .i64 a1_0, .int .i64 a1_1, .int .i64 a1_2, .int .i64 a1_3, .int .i64 a1_4, .int .i64 a1_5]) (t := 31) ?hr ?_; (case hd => rfl); (case hg => rfl); (case hr => first | (go_simp; done) | (go_simp; rfl)); intro gb429 hg w8 hbox hb; have n0_ := am (IsS84.below (by repeat (first | (with_reducible first | exact HI0.out | apply IsS84.alloc | apply IsS84.drewN | apply IsS84.drew | apply IsS84.set_0 | apply IsS84.set_1 | apply IsS84.set_3 | apply IsS84.set_4) | exact HI0.out)) hb); have n1_ := am (KeepBut.trans (by exact kB) (KeepBut.of_below hb g none) (.inl rfl)); have n2_ := am (below_step (by exact bIsS84) hb); have n3_ := am (hbox); have n4_ := am ((by rw [hg]; exact (keep_size (w := w) (g := g) (row := none) (by exact kB)) : w.heap.size ≤ gb429)); have n5_ := am ((Nat.le_trans HW0.out (by rw [hg]; exact (keep_size (w := w) (g := g) (row := none) (by exact kB)) : w.heap.size ≤ gb429) : w0.heap.size ≤ gb429)); have n6_ := am ((by rw [hg]; exact Nat.ne_of_lt (IsS84.lt (show IsS84 Ax cx w0 _ g s0_0 s0_1 s0_2 s0_3 s0_4 from by repeat (first | (with_reducible first | exact HI0.out | apply IsS84.alloc | apply IsS84.drewN | apply IsS84.drew | apply IsS84.set_0 | apply IsS84.set_1 | apply IsS84.set_3 | apply IsS84.set_4) | exact HI0.out))) : g ≠ gb429)); have n7_ := am ((by rw [hg]; exact Nat.ne_of_gt (IsS84.lt (show IsS84 Ax cx w0 _ g s0_0 s0_1 s0_2 s0_3 s0_4 from by repeat (first | (with_reducible first | exact HI0.out | apply IsS84.alloc | apply IsS84.drewN | apply IsS84.drew | apply IsS84.set_0 | apply IsS84.set_1 | apply IsS84.set_3 | apply IsS84.set_4) | exact HI0.out))) : gb429 ≠ g)); clear HI0; clear HK; clear HB; have HI0 := n0_; have HK := n1_; have HB := n2_; have BK429 := n3_; have GW429 := n4_; have GE429 := n5_; have NB0_429 := n6_; have NB429_0 := n7_; clear n0_ n1_ n2_ n3_ n4_ n5_ n6_ n7_; clear hb hbox hg; have hnb9 := NB429_0.out; have hnc9 := NB0_429.out; obtain ⟨hcz10_0, hcz10_1, hcz10_2, hcz10_3, hcz10_4, hcz10_5⟩ := cz6 BK429.out; obtain ⟨hfz10_0, hfz10_1, hfz10_2, hfz10_3, hfz10_4, hfz10_5⟩ := fz6 BK429.out)); go_upto_region 3 with (first | ((with_reducible refine gate_dst (N := 3) rfl ?_); refine box_event ?hg (N := 3) ?hd (cs := #[.int .i64 a1_0, .int .i64 a1_1, .int .i64 a1_2, .int .i64 a1_3, .int .i64 a1_4, .int .i64 a1_5]) (t := 31) ?hr ?_; (case hd => rfl); (case hg => rfl); (case hr => first | (go_simp; done) | (go_simp; rfl)); intro gb429 hg w8 hbox hb; have n0_ := am (IsS84.below (by repeat (first | (with_reducible first | exact HI0.out | apply IsS84.alloc | apply IsS84.drewN | apply IsS84.drew | apply IsS84.set_0 | apply IsS84.set_1 | apply IsS84.set_3 | apply IsS84.set_4) | exact HI0.out)) hb); have n1_ := am (KeepBut.trans (by exact kB) (KeepBut.of_below hb g none) (.inl rfl)); have n2_ := am (below_step (by exact bIsS84) hb); have n3_ := am (hbox); have n4_ := am ((by rw [hg]; exact (keep_size (w := w) (g := g) (row := none) (by exact kB)) : w.heap.size ≤ gb429)); have n5_ := am ((Nat.le_trans HW0.out (by rw [hg]; exact (keep_size (w := w) (g := g) (row := none) (by exact kB)) : w.heap.size ≤ gb429) : w0.heap.size ≤ gb429)); have n6_ := am ((by rw [hg]; exact Nat.ne_of_lt (IsS84.lt (show IsS84 Ax cx w0 _ g s0_0 s0_1 s0_2 s0_3 s0_4 from by repeat (first | (with_reducible first | exact HI0.out | apply IsS84.alloc | apply IsS84.drewN | apply IsS84.drew | apply IsS84.set_0 | apply IsS84.set_1 | apply IsS84.set_3 | apply IsS84.set_4) | exact HI0.out))) : g ≠ gb429)); have n7_ := am ((by rw [hg]; exact Nat.ne_of_gt (IsS84.lt (show IsS84 Ax cx w0 _ g s0_0 s0_1 s0_2 s0_3 s0_4 from by repeat (first | (with_reducible first | exact HI0.out | apply IsS84.alloc | apply IsS84.drewN | apply IsS84.drew | apply IsS84.set_0 | apply IsS84.set_1 | apply IsS84.set_3 | apply IsS84.set_4) | exact HI0.out))) : gb429 ≠ g)); clear HI0; clear HK; clear HB; have HI0 := n0_; have HK := n1_; have HB := n2_; have BK429 := n3_; have GW429 := n4_; have GE429 := n5_; have NB0_429 := n6_; have NB429_0 := n7_; clear n0_ n1_ n2_ n3_ n4_ n5_ n6_ n7_; clear hb hbox hg; have hnb9 := NB429_0.out; have hnc9 := NB0_429.out; obtain ⟨hcz10_0, hcz10_1, hcz10_2, hcz10_3, hcz10_4, hcz10_5⟩ := cz6 BK429.out; obtain ⟨hfz10_0, hfz10_1, hfz10_2, hfz10_3, hfz10_4, hfz10_5⟩ := fz6 BK429.out)))
  (try simp only [Act.put, List.setIfInBounds_toArray, List.set_cons_zero, List.set_cons_succ])
  go_cut [11] (fun v11 wc => ∃ (kq : Nat) (x11_6 : Bool), v11 = .bool x11_6 ∧ Aside0 (impl_termReader_width.j0 kq x11_6 s0_0 s0_1 s0_2 s0_3 s0_4 a1_0 a1_1 a1_2 a1_3 a1_4 a1_5 = some (r1, r2, r3, r4, r5)) ∧ Aside0 (kq ≤ k) ∧ Aside0 (wc.heap[gb429]? = some (.cells #[.int .i64 a1_0, .int .i64 a1_1, .int .i64 a1_2, .int .i64 a1_3, .int .i64 a1_4, .int .i64 a1_5] 31 (0, 0))) ∧ Aside0 (IsS84 Ax cx w0 wc g s0_0 s0_1 s0_2 s0_3 s0_4) ∧ Aside0 (KeepBut w wc g none) ∧ Aside0 (Below w0.heap.size w0 wc))
  case first =>
   have H := HC7.out
   clear HC7
   replace H := oA H; obtain ⟨t430, A11, H⟩ := H
   replace H := iB H; rcases H with ⟨rfl, H⟩ | ⟨rfl, H⟩
   ·have H' := am H
    clear H
    have hnb13 := NB429_0.out
    have hnc13 := NB0_429.out
    obtain ⟨hcz14_0, hcz14_1, hcz14_2, hcz14_3, hcz14_4, hcz14_5⟩ := cz6 BK429.out
    obtain ⟨hfz14_0, hfz14_1, hfz14_2, hfz14_3, hfz14_4, hfz14_5⟩ := fz6 BK429.out
    go_wp2_with (first | (go_at_call 72; refine cD (impl_within.calls _ _ _ _ _ A11.out) fun nd => ?_; (try exact dq)))
    go_meet
    case rel => exact ⟨_, (true), (by rfl), H', ⟨by omega⟩, ⟨by exact sB <| BK429.out⟩, ⟨by repeat (first | (with_reducible first | exact HI0.out | apply IsS84.alloc | apply IsS84.drewN | apply IsS84.drew | apply IsS84.set_0 | apply IsS84.set_1 | apply IsS84.set_3 | apply IsS84.set_4 | refine IsS84.far ?_ NB0_429.out _) | exact HI0.out)⟩, ⟨by repeat (first | (with_reducible first | exact HK.out | apply KeepBut.set_ | apply keep_drewN | apply keep_drew | apply keep_alloc | refine keep_far ?_ GW429.out _) | exact HK.out)⟩, ⟨by exact bIsS84⟩⟩
   ·replace H := oA H; obtain ⟨t431, A15, H⟩ := H
    have H' := am H
    clear H
    have hnb16 := NB429_0.out
    have hnc16 := NB0_429.out
    obtain ⟨hcz17_0, hcz17_1, hcz17_2, hcz17_3, hcz17_4, hcz17_5⟩ := cz6 BK429.out
    obtain ⟨hfz17_0, hfz17_1, hfz17_2, hfz17_3, hfz17_4, hfz17_5⟩ := fz6 BK429.out
    go_wp2_with (first | (go_at_call 72; refine cD (impl_within.calls _ _ _ _ _ A11.out) fun nd => ?_; (try exact dq)) | (go_at_call 53; (with_reducible refine (impl_isQuant.calls _ _ _ _ _ _ _ _ A15.out).mono ?_); rintro e w18 ⟨rfl, hb⟩; have n0_ := am (IsS84.below (by repeat (first | (with_reducible first | exact HI0.out | apply IsS84.alloc | apply IsS84.drewN | apply IsS84.drew | apply IsS84.set_0 | apply IsS84.set_1 | apply IsS84.set_3 | apply IsS84.set_4 | refine IsS84.far ?_ NB0_429.out _) | exact HI0.out)) hb); have n1_ := am (blk_below (g := gb429) (o := .cells #[.int .i64 a1_0, .int .i64 a1_1, .int .i64 a1_2, .int .i64 a1_3, .int .i64 a1_4, .int .i64 a1_5] 31 (0, 0)) (by exact sB <| BK429.out) hb); have n2_ := am (KeepBut.trans (by repeat (first | (with_reducible first | exact HK.out | apply KeepBut.set_ | apply keep_drewN | apply keep_drew | apply keep_alloc | refine keep_far ?_ GW429.out _) | exact HK.out)) (KeepBut.of_below hb g none) (.inl rfl)); have n3_ := am (below_step (by exact bIsS84) hb); clear HI0; clear BK429; clear HK; clear HB; have HI0 := n0_; have BK429 := n1_; have HK := n2_; have HB := n3_; clear n0_ n1_ n2_ n3_; (try clear hb); (try clear hb2); (try clear hk); (try clear hi)))
    go_meet
    case rel => exact ⟨_, (t431), (by rfl), H', ⟨by omega⟩, ⟨by exact sB <| BK429.out⟩, ⟨by repeat (first | (with_reducible first | exact HI0.out | apply IsS84.alloc | apply IsS84.drewN | apply IsS84.drew | apply IsS84.set_0 | apply IsS84.set_1 | apply IsS84.set_3 | apply IsS84.set_4 | refine IsS84.far ?_ NB0_429.out _) | exact HI0.out)⟩, ⟨by repeat (first | (with_reducible first | exact HK.out | apply KeepBut.set_ | apply keep_drewN | apply keep_drew | apply keep_alloc | refine keep_far ?_ GW429.out _) | exact HK.out)⟩, ⟨by exact bIsS84⟩⟩
  case rest =>
   clear HC7
   clear c3 c3b0 c3b1 hcz10_0 hcz10_1 hcz10_2 hcz10_3 hcz10_4 hcz10_5 hfz10_0 hfz10_1 hfz10_2 hfz10_3 hfz10_4 hfz10_5
   obtain ⟨kq, x11_6, rfl, HA, HJ6, BK429, HI0, HK, HB⟩ := hcut
   cases kq with
   | zero => exact absurd HA.out (by simp [impl_termReader_width.j0])
   | succ kj6 =>
    have H := HA.out
    clear HA
    simp only [impl_termReader_width.j0] at H
    replace H := iB H; rcases H with ⟨rfl, H⟩ | ⟨rfl, H⟩
    ·simp only [Option.some.injEq, Prod.mk.injEq] at H
     obtain ⟨rfl, rfl, rfl, rfl, rfl⟩ := H
     go_wp2
     repeat (go_quiet (fail); try go_wp2)
     go_ret
     exact ⟨by rfl, by repeat (first | (with_reducible first | exact HI0.out | apply IsS84.alloc | apply IsS84.drewN | apply IsS84.drew | apply IsS84.set_0 | apply IsS84.set_1 | apply IsS84.set_3 | apply IsS84.set_4 | refine IsS84.far ?_ NB0_429.out _) | exact HI0.out), by exact bIsS84, by repeat (first | (with_reducible first | exact HK.out | apply KeepBut.set_ | apply keep_drewN | apply keep_drew | apply keep_alloc | refine keep_far ?_ GW429.out _) | exact HK.out)⟩
    ·replace H := iE H; rcases H with ⟨c20b0, c20b1, H⟩ | ⟨c20b0, c20b1, H⟩
     ·replace H := iN H; obtain ⟨c21b0, H⟩ := H
      replace H := iN H; obtain ⟨c22b0, H⟩ := H
      replace H := iN H; obtain ⟨c23b0, H⟩ := H
      replace H := iN H; obtain ⟨c24b0, H⟩ := H
      simp only [Option.some.injEq, Prod.mk.injEq] at H
      obtain ⟨rfl, rfl, rfl, rfl, rfl⟩ := H
      have hnb25 := NB429_0.out
      have hnc25 := NB0_429.out
      obtain ⟨hcz26_0, hcz26_1, hcz26_2, hcz26_3, hcz26_4, hcz26_5⟩ := cz6 BK429.out
      obtain ⟨hfz26_0, hfz26_1, hfz26_2, hfz26_3, hfz26_4, hfz26_5⟩ := fz6 BK429.out
      obtain ⟨ASz27_2, cSz27_2, HGz27, hgz27, HSz27_2⟩ := HI0.out
      obtain ⟨rfl, rfl⟩ := HSz27_2
      have HSz27_2 := HROW.out _ HK.out
      have hcz27_0 := cellS84_0 HGz27
      have hcz27_1 := cellS84_1 HGz27
      have hcz27_2 := cellS84_2 HGz27
      have hcz27_3 := cellS84_3 HGz27
      have hcz27_4 := cellS84_4 HGz27
      have hfz27_0 := blk_frozen HGz27 0
      have hfz27_1 := blk_frozen HGz27 1
      have hfz27_3 := blk_frozen HGz27 3
      have hfz27_4 := blk_frozen HGz27 4
      clear HGz27 hgz27
      obtain ⟨p432, q432, ad432, rfl, hx432_0, hx432_1, hx432_2, hx432_3, hx432_4, hx432_5⟩ := ix (at_T31 HSz27_2 a1_3)
      have p433 : 0 ≤ (a1_4 : Int) := oD (by assumption)
      have q433 : a1_4 < (s0_2.length : Int) := oD (by assumption)
      obtain ⟨ad433, e433, hx433_0, hx433_1, hx433_2, hx433_3, hx433_4, hx433_5⟩ := at_T31 HSz27_2 a1_4 p433 q433
      obtain rfl : ad432 = ad433 := (by injection e433)
      replace p433 := eq_true p433
      replace q433 := eq_true q433
      go_wp2
      repeat (go_quiet (fail); try go_wp2)
      go_ret
      exact ⟨by rfl, by repeat (first | (with_reducible first | exact HI0.out | apply IsS84.alloc | apply IsS84.drewN | apply IsS84.drew | apply IsS84.set_0 | apply IsS84.set_1 | apply IsS84.set_3 | apply IsS84.set_4 | refine IsS84.far ?_ NB0_429.out _) | exact HI0.out), by exact bIsS84, by repeat (first | (with_reducible first | exact HK.out | apply KeepBut.set_ | apply keep_drewN | apply keep_drew | apply keep_alloc | refine keep_far ?_ GW429.out _) | exact HK.out)⟩
     ·replace H := iE H; rcases H with ⟨c28b0, c28b1, H⟩ | ⟨c28b0, c28b1, H⟩
      ·replace H := iN H; obtain ⟨c29b0, H⟩ := H
       replace H := iN H; obtain ⟨c30b0, H⟩ := H
       simp only [Option.some.injEq, Prod.mk.injEq] at H
       obtain ⟨rfl, rfl, rfl, rfl, rfl⟩ := H
       have hnb31 := NB429_0.out
       have hnc31 := NB0_429.out
       obtain ⟨hcz32_0, hcz32_1, hcz32_2, hcz32_3, hcz32_4, hcz32_5⟩ := cz6 BK429.out
       obtain ⟨hfz32_0, hfz32_1, hfz32_2, hfz32_3, hfz32_4, hfz32_5⟩ := fz6 BK429.out
       obtain ⟨ASz33_2, cSz33_2, HGz33, hgz33, HSz33_2⟩ := HI0.out
       obtain ⟨rfl, rfl⟩ := HSz33_2
       have HSz33_2 := HROW.out _ HK.out
       have hcz33_0 := cellS84_0 HGz33
       have hcz33_1 := cellS84_1 HGz33
       have hcz33_2 := cellS84_2 HGz33
       have hcz33_3 := cellS84_3 HGz33
       have hcz33_4 := cellS84_4 HGz33
       have hfz33_0 := blk_frozen HGz33 0
       have hfz33_1 := blk_frozen HGz33 1
       have hfz33_3 := blk_frozen HGz33 3
       have hfz33_4 := blk_frozen HGz33 4
       clear HGz33 hgz33
       obtain ⟨p434, q434, ad434, rfl, hx434_0, hx434_1, hx434_2, hx434_3, hx434_4, hx434_5⟩ := ix (at_T31 HSz33_2 a1_4)
       go_wp2
       repeat (go_quiet (fail); try go_wp2)
       go_ret
       exact ⟨by rfl, by repeat (first | (with_reducible first | exact HI0.out | apply IsS84.alloc | apply IsS84.drewN | apply IsS84.drew | apply IsS84.set_0 | apply IsS84.set_1 | apply IsS84.set_3 | apply IsS84.set_4 | refine IsS84.far ?_ NB0_429.out _) | exact HI0.out), by exact bIsS84, by repeat (first | (with_reducible first | exact HK.out | apply KeepBut.set_ | apply keep_drewN | apply keep_drew | apply keep_alloc | refine keep_far ?_ GW429.out _) | exact HK.out)⟩
      ·replace H := iN H; obtain ⟨c34b0, H⟩ := H
       replace H := iN H; obtain ⟨c35b0, H⟩ := H
       simp only [Option.some.injEq, Prod.mk.injEq] at H
       obtain ⟨rfl, rfl, rfl, rfl, rfl⟩ := H
       have hnb36 := NB429_0.out
       have hnc36 := NB0_429.out
       obtain ⟨hcz37_0, hcz37_1, hcz37_2, hcz37_3, hcz37_4, hcz37_5⟩ := cz6 BK429.out
       obtain ⟨hfz37_0, hfz37_1, hfz37_2, hfz37_3, hfz37_4, hfz37_5⟩ := fz6 BK429.out
       obtain ⟨ASz38_2, cSz38_2, HGz38, hgz38, HSz38_2⟩ := HI0.out
       obtain ⟨rfl, rfl⟩ := HSz38_2
       have HSz38_2 := HROW.out _ HK.out
       have hcz38_0 := cellS84_0 HGz38
       have hcz38_1 := cellS84_1 HGz38
       have hcz38_2 := cellS84_2 HGz38
       have hcz38_3 := cellS84_3 HGz38
       have hcz38_4 := cellS84_4 HGz38
       have hfz38_0 := blk_frozen HGz38 0
       have hfz38_1 := blk_frozen HGz38 1
       have hfz38_3 := blk_frozen HGz38 3
       have hfz38_4 := blk_frozen HGz38 4
       clear HGz38 hgz38
       obtain ⟨p435, q435, ad435, rfl, hx435_0, hx435_1, hx435_2, hx435_3, hx435_4, hx435_5⟩ := ix (at_T31 HSz38_2 a1_3)
       go_wp2
       repeat (go_quiet (fail); try go_wp2)
       go_ret
       exact ⟨by rfl, by repeat (first | (with_reducible first | exact HI0.out | apply IsS84.alloc | apply IsS84.drewN | apply IsS84.drew | apply IsS84.set_0 | apply IsS84.set_1 | apply IsS84.set_3 | apply IsS84.set_4 | refine IsS84.far ?_ NB0_429.out _) | exact HI0.out), by exact bIsS84, by repeat (first | (with_reducible first | exact HK.out | apply KeepBut.set_ | apply keep_drewN | apply keep_drew | apply keep_alloc | refine keep_far ?_ GW429.out _) | exact HK.out)⟩
/-! ### impl_termReader_numbers: by hand -/
variable {Ax : Option Addr} {cx : Nat}
/-- What numbers reads beside a node's parts: whether it went, the place, the node. -/
def numbersF (k : Nat) (s : ByteArray) (a : Int) (l : List (S31)) (c b : Int) (n : S31) : Option (Bool × Int × S31) :=
 if n.f0 = 17 then
  (gF s a l c b 32).bind fun g1 => if g1.1 = true then (wF k s g1.2 l c b).bind fun w1 => (impl_readNumber.f k w1.1).bind fun r1 => if r1.2 = true then (gF s w1.2 l c b 32).bind fun g2 => (if g2.1 = true then (wF k s g2.2 l c b).bind fun w2 => (impl_readNumber.f k w2.1).bind fun r2 => some (r2.2, w2.2, { n with f2 := r1.1, f1 := r2.1 }) else some (false, g2.2, n)) else some (false, w1.2, n) else some (false, g1.2, n)
 else if n.f0 = 19 ∨ n.f0 = 20 then
  (gF s a l c b 32).bind fun g1 => if g1.1 = true then (wF k s g1.2 l c b).bind fun w1 => (impl_readPair.f k w1.1 118).bind fun r => some (r.2.2, w1.2, { n with f2 := r.1, f4 := r.2.1 }) else some (false, g1.2, n)
 else some (true, a, n)
/-- What a walk of numbers keeps in hand. -/
def NumSt (w0 w W : World) (g h : Nat) (s : ByteArray) (a : Int) (l : List (S31)) (c b : Int) (n : S31) (A : Option Addr) (cc : Nat) : Prop :=
 IsS84 A cc w0 W g s a l c b ∧ Below w0.heap.size w0 W ∧ W.heap[h]? = some (.cells #[.int .i64 n.f0, .int .i64 n.f1, .int .i64 n.f2, .int .i64 n.f3, .int .i64 n.f4, .int .i64 n.f5] 31 (0, 0)) ∧ Kept w W (fun k => k = g ∨ k = h)
theorem NumSt.step {w0 w W W1 : World} {g h : Nat} {s : ByteArray} {a a' : Int} {l : List (S31)} {c b : Int} {n : S31} {A : Option Addr} {cc : Nat} (hs : NumSt w0 w W g h s a l c b n A cc) (hI : IsS84 A cc w0 W1 g s a' l c b) (hB : Below w0.heap.size w0 W1) (hk : KeepBut W W1 g none) : NumSt w0 w W1 g h s a' l c b n A cc := by
 obtain ⟨h1, h2, h3, h4⟩ := hs
 have hne : g ≠ h := IsS84.ne_blk h1 h3 (by decide)
 refine ⟨hI, hB, ?_, Kept.of_keep h4 hk (.inl (.inl rfl))⟩
 rw [hk.2 h (blk_lt h3) (fun e => hne e.symm) (by simp)]
 exact h3
theorem NumSt.drewn {w0 w W W1 : World} {g h : Nat} {s : ByteArray} {a : Int} {l : List (S31)} {c b : Int} {n : S31} {A : Option Addr} {cc : Nat} (hs : NumSt w0 w W g h s a l c b n A cc) (hd : Below W.heap.size W W1) : NumSt w0 w W1 g h s a l c b n A cc := by
 obtain ⟨h1, h2, h3, h4⟩ := hs
 exact ⟨IsS84.below h1 hd, h2.trans (hd.mono h2.size), blk_below h3 hd, h4.below hd⟩
set_option maxHeartbeats 4000000 in
set_option maxRecDepth 100000 in
theorem impl_termReader_numbers.calls (k : Nat) (g h : Nat) (s : ByteArray) (a : Int) (l : List (S31)) (c b : Int) (n : S31) (ok : Bool) (a' : Int) (n' : S31) (A : Option Addr) (cc : Nat) (w0 w : World) (hS : NumSt w0 w w g h s a l c b n A cc) (hh : w0.heap.size ≤ h) (hf : numbersF k s a l c b n = some (ok, a', n')) :
  Calls Try.prog 95 #[.pointer (some ⟨g, 0, none⟩), .pointer (some ⟨h, 0, none⟩)] w fun e w' => e = .returned (.bool ok) ∧ NumSt w0 w w' g h s a' l c b n' A cc := by
 have HS := am hS; have HN0 := am hh
 obtain ⟨op, W, Kq, A_, B, C⟩ := n
 have BX := am hS.2.2.1
 unfold numbersF at hf
 simp only [] at hf
 by_cases o17 : op = 17
 ·rw [if_pos o17] at hf
  obtain ⟨⟨g1, a1⟩, hg1, hf⟩ := oB hf
  have HG1 := am hg1; have HF := am hf
  have t1 : (op == 17) = true := beq_iff_eq.mpr o17
  clear hg1 hS hh hf o17
  go_enter Try.func95, Try.ntmps95
  obtain ⟨q0, q1, q2, q3, q4, q5⟩ := cz6q BX.out
  go_wp2_with fail
  refine (goesC g s a l c b 32 g1 a1 w0 _ HS.out.1 HS.out.2.1 HG1.out).mono ?_
  rintro e w1 ⟨rfl, hi, hb, hk⟩
  have HS := am (HS.out.step hi hb hk)
  clear hi hb hk q0 q1 q2 q3 q4 q5
  cases g1 with
  | false =>
   have hf := HF.out
   rw [if_neg (by decide)] at hf
   simp only [Option.some.injEq, Prod.mk.injEq] at hf
   obtain ⟨rfl, rfl, rfl⟩ := hf
   go_wp2_with fail
   go_ret
   exact ⟨rfl, HS.out⟩
  | true =>
   have hf := HF.out
   rw [if_pos rfl] at hf
   obtain ⟨⟨v1, a2⟩, hw1, hf⟩ := oB hf
   obtain ⟨⟨k1, f1⟩, hr1, hf⟩ := oB hf
   have HW1 := am hw1; have HR1 := am hr1; have HF := am hf
   clear hw1 hr1 hf
   go_wp2_with fail
   refine (wordC k g s a1 l c b v1 a2 w0 _ HS.out.1 HS.out.2.1 HW1.out).mono ?_
   rintro e w2 ⟨rfl, hi, hb, hk⟩
   have HS := am (HS.out.step hi hb hk)
   clear hi hb hk
   go_wp2_with fail
   refine (impl_readNumber.calls k v1 k1 f1 _ HR1.out).mono ?_
   rintro e w3 ⟨rfl, hd⟩
   have HS := am (HS.out.drewn hd.below)
   clear hd
   cases f1 with
   | false =>
    have hf := HF.out
    rw [if_neg (by decide)] at hf
    simp only [Option.some.injEq, Prod.mk.injEq] at hf
    obtain ⟨rfl, rfl, rfl⟩ := hf
    go_wp2_with fail
    go_ret
    exact ⟨rfl, HS.out⟩
   | true =>
    have hf := HF.out
    rw [if_pos rfl] at hf
    obtain ⟨⟨g2, a3⟩, hg2, hf⟩ := oB hf
    have HG2 := am hg2; have HF := am hf
    clear hg2 hf
    go_wp2_with fail
    refine (goesC g s a2 l c b 32 g2 a3 w0 _ HS.out.1 HS.out.2.1 HG2.out).mono ?_
    rintro e w4 ⟨rfl, hi, hb, hk⟩
    have HS := am (HS.out.step hi hb hk)
    clear hi hb hk
    cases g2 with
    | false =>
     have hf := HF.out
     rw [if_neg (by decide)] at hf
     simp only [Option.some.injEq, Prod.mk.injEq] at hf
     obtain ⟨rfl, rfl, rfl⟩ := hf
     go_wp2_with fail
     go_ret
     exact ⟨rfl, HS.out⟩
    | true =>
     have hf := HF.out
     rw [if_pos rfl] at hf
     obtain ⟨⟨v2, a4⟩, hw2, hf⟩ := oB hf
     obtain ⟨⟨k2, f2⟩, hr2, hf⟩ := oB hf
     simp only [Option.some.injEq, Prod.mk.injEq] at hf
     obtain ⟨rfl, rfl, rfl⟩ := hf
     have HW2 := am hw2; have HR2 := am hr2
     clear hw2 hr2
     go_wp2_with fail
     refine (wordC k g s a3 l c b v2 a4 w0 _ HS.out.1 HS.out.2.1 HW2.out).mono ?_
     rintro e w5 ⟨rfl, hi, hb, hk⟩
     have HS := am (HS.out.step hi hb hk)
     clear hi hb hk
     go_wp2_with fail
     refine (impl_readNumber.calls k v2 k2 f2 _ HR2.out).mono ?_
     rintro e w6 ⟨rfl, hd⟩
     have HS := am (HS.out.drewn hd.below)
     clear hd
     have hz2 := blk_frozen HS.out.2.2.1 2
     have hz1 := blk_frozen HS.out.2.2.1 1
     have b2 : (w6.setCell ⟨h, 2, none⟩ (.int .i64 k1)).heap[h]? = some (.cells #[.int .i64 op, .int .i64 W, .int .i64 k1, .int .i64 A_, .int .i64 B, .int .i64 C] 31 (0, 0)) := by simpa using blk_set HS.out.2.2.1 2 (.int .i64 k1)
     have hz3 := blk_frozen b2 1
     obtain ⟨q0, q1, q2, q3, q4, q5⟩ := cz6q HS.out.2.2.1
     obtain ⟨p0, p1, p2, p3, p4, p5⟩ := cz6q b2
     go_wp2_with fail
     go_ret
     refine ⟨rfl, ?_⟩
     have hne : g ≠ h := IsS84.ne_blk HS.out.1 HS.out.2.2.1 (by decide)
     refine ⟨IsS84.far (IsS84.far HS.out.1 hne _) hne _, below_set (below_set HS.out.2.1 HN0.out) HN0.out, ?_, Kept.setCell (Kept.setCell HS.out.2.2.2 (p := ⟨h, 2, none⟩) (.inl (.inr rfl)) _) (p := ⟨h, 1, none⟩) (.inl (.inr rfl)) _⟩
     simpa using blk_set b2 1 (.int .i64 k2)
 ·rw [if_neg o17] at hf
  have t1 : (op == 17) = false := beq_eq_false_iff_ne.mpr o17
  by_cases oq : op = 19 ∨ op = 20
  ·rw [if_pos oq] at hf
   obtain ⟨⟨g1, a1⟩, hg1, hf⟩ := oB hf
   have HG1 := am hg1; have HF := am hf
   obtain ⟨x19, h19⟩ : ∃ x19, (op == 19) = x19 := ⟨_, rfl⟩
   have h20 : x19 = false → (op == 20) = true := by intro e; subst e; have := beq_eq_false_iff_ne.mp h19; exact beq_iff_eq.mpr (by omega)
   clear hg1 hS hh hf o17 oq
   cases x19 with
   | true =>
    clear h20
    go_enter Try.func95, Try.ntmps95
    obtain ⟨q0, q1, q2, q3, q4, q5⟩ := cz6q BX.out
    go_wp2_with fail
    refine (goesC g s a l c b 32 g1 a1 w0 _ HS.out.1 HS.out.2.1 HG1.out).mono ?_
    rintro e w1 ⟨rfl, hi, hb, hk⟩
    have HS := am (HS.out.step hi hb hk)
    clear hi hb hk q0 q1 q2 q3 q4 q5
    cases g1 with
    | false =>
     have hf := HF.out
     rw [if_neg (by decide)] at hf
     simp only [Option.some.injEq, Prod.mk.injEq] at hf
     obtain ⟨rfl, rfl, rfl⟩ := hf
     go_wp2_with fail
     go_ret
     exact ⟨rfl, HS.out⟩
    | true =>
     have hf := HF.out
     rw [if_pos rfl] at hf
     obtain ⟨⟨v1, a2⟩, hw1, hf⟩ := oB hf
     obtain ⟨⟨k1, b1, f1⟩, hr1, hf⟩ := oB hf
     simp only [Option.some.injEq, Prod.mk.injEq] at hf
     obtain ⟨rfl, rfl, rfl⟩ := hf
     have HW1 := am hw1; have HR1 := am hr1
     clear hw1 hr1
     go_wp2_with fail
     refine (wordC k g s a1 l c b v1 a2 w0 _ HS.out.1 HS.out.2.1 HW1.out).mono ?_
     rintro e w2 ⟨rfl, hi, hb, hk⟩
     have HS := am (HS.out.step hi hb hk)
     clear hi hb hk
     go_wp2_with fail
     refine (impl_readPair.calls k v1 118 k1 b1 f1 _ HR1.out).mono ?_
     rintro e w3 ⟨rfl, hd⟩
     have HS := am (HS.out.drewn hd.below)
     clear hd
     have hz2 := blk_frozen HS.out.2.2.1 2
     have b2 : (w3.setCell ⟨h, 2, none⟩ (.int .i64 k1)).heap[h]? = some (.cells #[.int .i64 op, .int .i64 W, .int .i64 k1, .int .i64 A_, .int .i64 B, .int .i64 C] 31 (0, 0)) := by simpa using blk_set HS.out.2.2.1 2 (.int .i64 k1)
     have hz3 := blk_frozen b2 4
     obtain ⟨q0, q1, q2, q3, q4, q5⟩ := cz6q HS.out.2.2.1
     obtain ⟨p0, p1, p2, p3, p4, p5⟩ := cz6q b2
     go_wp2_with fail
     go_ret
     refine ⟨rfl, ?_⟩
     have hne : g ≠ h := IsS84.ne_blk HS.out.1 HS.out.2.2.1 (by decide)
     refine ⟨IsS84.far (IsS84.far HS.out.1 hne _) hne _, below_set (below_set HS.out.2.1 HN0.out) HN0.out, ?_, Kept.setCell (Kept.setCell HS.out.2.2.2 (p := ⟨h, 2, none⟩) (.inl (.inr rfl)) _) (p := ⟨h, 4, none⟩) (.inl (.inr rfl)) _⟩
     simpa using blk_set b2 4 (.int .i64 b1)
   | false =>
    have h20 := h20 rfl
    go_enter Try.func95, Try.ntmps95
    obtain ⟨q0, q1, q2, q3, q4, q5⟩ := cz6q BX.out
    go_wp2_with fail
    refine (goesC g s a l c b 32 g1 a1 w0 _ HS.out.1 HS.out.2.1 HG1.out).mono ?_
    rintro e w1 ⟨rfl, hi, hb, hk⟩
    have HS := am (HS.out.step hi hb hk)
    clear hi hb hk q0 q1 q2 q3 q4 q5
    cases g1 with
    | false =>
     have hf := HF.out
     rw [if_neg (by decide)] at hf
     simp only [Option.some.injEq, Prod.mk.injEq] at hf
     obtain ⟨rfl, rfl, rfl⟩ := hf
     go_wp2_with fail
     go_ret
     exact ⟨rfl, HS.out⟩
    | true =>
     have hf := HF.out
     rw [if_pos rfl] at hf
     obtain ⟨⟨v1, a2⟩, hw1, hf⟩ := oB hf
     obtain ⟨⟨k1, b1, f1⟩, hr1, hf⟩ := oB hf
     simp only [Option.some.injEq, Prod.mk.injEq] at hf
     obtain ⟨rfl, rfl, rfl⟩ := hf
     have HW1 := am hw1; have HR1 := am hr1
     clear hw1 hr1
     go_wp2_with fail
     refine (wordC k g s a1 l c b v1 a2 w0 _ HS.out.1 HS.out.2.1 HW1.out).mono ?_
     rintro e w2 ⟨rfl, hi, hb, hk⟩
     have HS := am (HS.out.step hi hb hk)
     clear hi hb hk
     go_wp2_with fail
     refine (impl_readPair.calls k v1 118 k1 b1 f1 _ HR1.out).mono ?_
     rintro e w3 ⟨rfl, hd⟩
     have HS := am (HS.out.drewn hd.below)
     clear hd
     have hz2 := blk_frozen HS.out.2.2.1 2
     have b2 : (w3.setCell ⟨h, 2, none⟩ (.int .i64 k1)).heap[h]? = some (.cells #[.int .i64 op, .int .i64 W, .int .i64 k1, .int .i64 A_, .int .i64 B, .int .i64 C] 31 (0, 0)) := by simpa using blk_set HS.out.2.2.1 2 (.int .i64 k1)
     have hz3 := blk_frozen b2 4
     obtain ⟨q0, q1, q2, q3, q4, q5⟩ := cz6q HS.out.2.2.1
     obtain ⟨p0, p1, p2, p3, p4, p5⟩ := cz6q b2
     go_wp2_with fail
     go_ret
     refine ⟨rfl, ?_⟩
     have hne : g ≠ h := IsS84.ne_blk HS.out.1 HS.out.2.2.1 (by decide)
     refine ⟨IsS84.far (IsS84.far HS.out.1 hne _) hne _, below_set (below_set HS.out.2.1 HN0.out) HN0.out, ?_, Kept.setCell (Kept.setCell HS.out.2.2.2 (p := ⟨h, 2, none⟩) (.inl (.inr rfl)) _) (p := ⟨h, 4, none⟩) (.inl (.inr rfl)) _⟩
     simpa using blk_set b2 4 (.int .i64 b1)
  ·rw [if_neg oq] at hf
   have t2 : (op == 19) = false := beq_eq_false_iff_ne.mpr (fun e => oq (.inl e))
   have t3 : (op == 20) = false := beq_eq_false_iff_ne.mpr (fun e => oq (.inr e))
   simp only [Option.some.injEq, Prod.mk.injEq] at hf
   obtain ⟨rfl, rfl, rfl⟩ := hf
   clear hS hh o17 oq
   go_enter Try.func95, Try.ntmps95
   obtain ⟨q0, q1, q2, q3, q4, q5⟩ := cz6q BX.out
   go_wp2_with fail
   go_ret
   exact ⟨rfl, HS.out.drewn (by exact Below.refl _ _)⟩
/-! ### width leaves the reader as it is: by hand -/
variable {Ax : Option Addr} {cx : Nat}
theorem width_keeps0 {k : Nat} {x : Bool} {s : ByteArray} {a : Int} {l : List (S31)} {c b n0 n1 n2 n3 n4 n5 : Int} {r1 : Int} {r2 : ByteArray} {r3 r4 r5 : Int} (h : impl_termReader_width.j0 k x s a l c b n0 n1 n2 n3 n4 n5 = some (r1, r2, r3, r4, r5)) : r2 = s ∧ r3 = a ∧ r4 = c ∧ r5 = b := by
 cases k with
 | zero => simp [impl_termReader_width.j0] at h
 | succ k =>
  simp only [impl_termReader_width.j0] at h
  repeat' split at h
  all_goals first
   | (simp only [Option.some.injEq, Prod.mk.injEq] at h; exact ⟨h.2.1.symm, h.2.2.1.symm, h.2.2.2.1.symm, h.2.2.2.2.symm⟩)
   | exact absurd h (by simp)
theorem width_keeps {k : Nat} {s : ByteArray} {a : Int} {l : List (S31)} {c b n0 n1 n2 n3 n4 n5 : Int} {r1 : Int} {r2 : ByteArray} {r3 r4 r5 : Int} (h : impl_termReader_width.f k s a l c b n0 n1 n2 n3 n4 n5 = some (r1, r2, r3, r4, r5)) : r2 = s ∧ r3 = a ∧ r4 = c ∧ r5 = b := by
 unfold impl_termReader_width.f at h
 split at h
 ·simp only [Option.some.injEq, Prod.mk.injEq] at h; exact ⟨h.2.1.symm, h.2.2.1.symm, h.2.2.2.1.symm, h.2.2.2.2.symm⟩
 ·obtain ⟨t, _, h⟩ := oB h
  split at h
  ·exact width_keeps0 h
  ·obtain ⟨t2, _, h⟩ := oB h
   exact width_keeps0 h
end Go.Proofs.Ytkpipmojkhikaaa.PAll
