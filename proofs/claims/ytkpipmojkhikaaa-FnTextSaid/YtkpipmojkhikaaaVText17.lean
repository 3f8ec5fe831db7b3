/- Written by a program of this session over the loaded program, and by hand: Go functions as plain Lean functions, and that a call comes to what they say. -/
import Derived.Test.YtkpipmojkhikaaaVText0
import Derived.Test.YtkpipmojkhikaaaVText10
import Derived.Test.YtkpipmojkhikaaaVText11
import Derived.Test.YtkpipmojkhikaaaVText16
import Derived.Test.YtkpipmojkhikaaaBase
import Derived.Test.YtkpipmojkhikaaaSq
namespace Go.Proofs.Ytkpipmojkhikaaa.PAll
open Go.RowKit Go.Proofs.YtkpipmojkhikaaaW.PrintWords Go.Proofs.YtkpipmojkhikaaaW.PrintLast Go.Proofs.YtkpipmojkhikaaaW.PrintMore Go.Proofs.YtkpipmojkhikaaaW.Sq
attribute [local go_sem] sD rZ uM uL qV qU sA rY
set_option linter.unusedVariables false
set_option maxHeartbeats 8000000
set_option maxRecDepth 100000
set_option linter.unusedSimpArgs false
mutual
def rK : Nat → ByteArray → Bool → Option (Int × Int × Bool)
 | 0, _, _ => none
 | k + 1, x0, a2 => if a2 = true then (some (0, 0, false)) else (tS k x0 1)
def rJ : Nat → ByteArray → Int → Option (Int × Int × Bool)
 | 0, _, _ => none
 | k + 1, x0, x7 => if x7 = (x0.size : Int) then (some (0, 0, false)) else (if 1 ≤ x7 then (if x7 ≤ (x0.size : Int) then ((qL k (x0.extract 1 (x7 : Int).toNat)).bind fun a1 => (if 0 ≤ (wrap64 (x7 + 1)) then (if (wrap64 (x7 + 1)) ≤ (x0.size : Int) then ((qL k (x0.extract ((wrap64 (x7 + 1)) : Int).toNat x0.size)).bind fun a0 => (if a1.2 = true then (some (a1.1, a0.1, a0.2)) else (some (a1.1, a0.1, false)))) else (none)) else (none))) else (none)) else (none))
def tS : Nat → ByteArray → Int → Option (Int × Int × Bool)
 | 0, _, _ => none
 | k + 1, x0, x7 => if x7 < (x0.size : Int) then (if 0 ≤ x7 then (if (bt x0 x7) = 58 then (rJ k x0 x7) else (tS k x0 (wrap64 (x7 + 1)))) else (none)) else (rJ k x0 x7)
end
def sE (k : Nat) (a0 : ByteArray) (a1 : Int) : Option (Int × Int × Bool) := if a0.toList = ([] : List UInt8) then (rK k a0 true) else (if 0 < (a0.size : Int) then (rK k a0 ((bt a0 0) != a1)) else (none))
theorem c2g {P : Prop} (h : P := by
 simp only [Option.some.injEq, Prod.mk.injEq] at H
 obtain ⟨rfl, rfl, rfl⟩ := H
 go_wp2_with (first | ((with_reducible refine gW ?_); first | (refine gD (some 40) Try.func123 rfl (impl_readNumber.calls _ _ _ _ _ aH.out) fun nd => ?_) | (refine gD (some 48) Try.func123 rfl (impl_readNumber.calls _ _ _ _ _ aQ.out) fun nd => ?_)))
 go_ret3
 exact ⟨rfl, dR⟩) : P := h
theorem c1y {P : Prop} (h : P := by
 simp only [Option.some.injEq, Prod.mk.injEq] at H
 obtain ⟨rfl, rfl, rfl⟩ := H
 go_wp2
 go_ret3
 exact ⟨rfl, dR⟩) : P := h
theorem impl_readPair.calls (k : Nat) (a0 : ByteArray) (a1 r1 r2 : Int) (r3 : Bool) (w : World) (h : sE k a0 a1 = some (r1, r2, r3)) :
  Calls Try.prog 91 #[.string a0, .int .u8 a1] w fun e w' => e = .returned (.tuple #[.int .i64 r1, .int .i64 r2, .bool r3]) ∧ Drawn0 w w' := by
 have H := h
 clear h
 unfold sE at H
 have aC := am H; clear H
 go_enter Try.func91, Try.ntmps91
 go_upto_region 1 with (fail)
 go_cut [19] (fun aN wc => ∃ (kq : Nat) (a4 : Bool), aN = .bool a4 ∧ Aside0 (rK kq a0 a4 = some (r1, r2, r3)) ∧ Aside0 (kq ≤ k) ∧ Drawn0 w wc)
 case first =>
  have H := aC.out
  clear aC
  replace H := iE H; rcases H with ⟨aM, aL, H⟩ | ⟨aM, aL, H⟩
  ·replace H := am H
   go_wp2
   go_meet
   case rel => exact ⟨_, true, rfl, H, ⟨oM⟩, dR⟩
  replace H := iP H; obtain ⟨c5, H⟩ := H
  have b4 : decide (0 < (a0.size : Int)) = true := decide_eq_true c5
  have b3 : decide (0 < a0.size) = true := decide_eq_true oM
  clear c5
  replace H := am H
  have p6 : 0 ≤ (0 : Int) := oM
  have q6 : 0 < a0.size := (by have : (0 : Int) < (a0.size : Int) := oD (by assumption); omega)
  have b9 : ∀ h : 0 < a0.size, ((a0[0]'h).toNat : Int) = bt a0 0 := xG a0 0
  clear p6
  have b5 : (0 < (a0.size : Int)) = True := eq_true (oD (by assumption))
  replace q6 := eq_true q6
  go_wp2
  go_meet
  case rel => exact ⟨_, (((bt a0 0) != a1)), rfl, H, ⟨oM⟩, dR⟩
 clear aC
 obtain ⟨kq, a4, rfl, HA, a9, ⟨b7, rfl⟩⟩ := hcut
 cases kq with
 | zero => cases HA.out
 | succ aA =>
  obtain ⟨H⟩ := HA
  simp only [rK] at H
  replace H := iB H; rcases H with ⟨rfl, H⟩ | ⟨rfl, H⟩
  ·exact c1y
  have aB := am H; clear H
  go_upto_block 0 with (fail)
  go_cut [7] (fun v7 wc => ∃ (kq : Nat) (a3 : Int), v7 = .int .i64 a3 ∧ Aside0 (rJ kq a0 a3 = some (r1, r2, r3)) ∧ Aside0 (kq ≤ aA) ∧ Drawn0 w wc)
  case first =>
   have H := aB.out
   clear aB
   replace H := am H
   go_wp2
   go_loopg [7] aA (fun kq v7 w' => ∃ (a2 : Int), v7 = .int .i64 a2 ∧ Aside0 (tS kq a0 a2 = some (r1, r2, r3)) ∧ Aside0 (kq ≤ aA) ∧ Drawn0 w w')
   case atStart => exact ⟨1, rfl, H, ⟨Nat.le_refl _⟩, dR⟩
   clear H
   obtain ⟨a2, rfl, HA, a8, ⟨m2, rfl⟩⟩ := hrel
   cases gk with
   | zero => cases HA.out
   | succ k2 =>
    obtain ⟨H⟩ := HA
    simp only [tS] at H
    replace H := iD H; rcases H with ⟨aK, H⟩ | ⟨aK, H⟩
    rotate_left
    ·replace H := am H
     go_wp2
     go_meet
     case rel => exact ⟨_, a2, rfl, H, ⟨by have := a9.out; have := a8.out; omega⟩, dR⟩
    replace H := iN H; obtain ⟨aZ, H⟩ := H
    replace H := iE H; rcases H with ⟨aG, aF, H⟩ | ⟨aG, aF, H⟩
    ·replace H := am H
     have a6 : 0 ≤ (a2 : Int) := oD (by assumption)
     have a5 : a2 < (a0.size : Int) := oD (by assumption)
     have aJ := xG a0 a2
     replace a6 := eq_true a6
     replace a5 := eq_true a5
     go_wp2
     go_meet
     case rel => exact ⟨_, a2, rfl, H, ⟨by have := a9.out; have := a8.out; omega⟩, dR⟩
    replace H := am H
    have a6 : 0 ≤ (a2 : Int) := oD (by assumption)
    have a5 : a2 < (a0.size : Int) := oD (by assumption)
    have aJ := xG a0 a2
    replace a6 := eq_true a6
    replace a5 := eq_true a5
    go_wp2
    go_roundg k2
    case measure => have := a9.out; have := a8.out; omega
    case rel => exact ⟨(wrap64 (a2 + 1)), rfl, H, ⟨by have := a9.out; have := a8.out; omega⟩, dR⟩
  clear aB
  obtain ⟨kq, a3, rfl, HA, bA, ⟨b6, rfl⟩⟩ := hcut
  cases kq with
  | zero => cases HA.out
  | succ b8 =>
   obtain ⟨H⟩ := HA
   simp only [rJ] at H
   replace H := iE H; rcases H with ⟨aE, aD, H⟩ | ⟨aE, aD, H⟩
   ·exact c1y
   replace H := iTD H; obtain ⟨aY, aX, H⟩ := H
   replace H := iTD H; obtain ⟨aW, aV, H⟩ := H
   replace H := oA H; obtain ⟨⟨b2, b1⟩, aH, H⟩ := H
   try dsimp only at H
   generalize a7 : wrap64 (a3 + 1) = aI at H
   (try rw [a7] at aH)
   have aO : (IntKind.i64.wrap (a3 + 1)) = aI := (xW _).trans a7
   replace H := iTD H; obtain ⟨aU, aT, H⟩ := H
   replace H := iTD H; obtain ⟨aS, aR, H⟩ := H
   replace H := oA H; obtain ⟨⟨b0, a_⟩, aQ, H⟩ := H
   try dsimp only at H
   replace H := iB H; rcases H with ⟨rfl, H⟩ | ⟨rfl, H⟩
   ·exact c2g
   exact c2g
variable {Ax : Option Addr} {cx : Nat}
theorem a2o {l : List (S31)} {code bad : Int} {n : S31} {frm : Int} (h : l.length ≤ 80) : (a1j l code bad n frm).2.1.length ≤ 80 := by
 unfold a1j
 split
 ·split
  ·exact h
  ·split
   ·exact h
   ·simp; omega
 ·exact h
def a8z (l : List (S31)) (code bad : Int) (n : S31) (frm a : Int) : (Int × Bool) × Int × List (S31) × Int × Int :=
 ((a1j l code bad n frm).1, a, (a1j l code bad n frm).2)
def a8k (k : Nat) (s : ByteArray) (a : Int) (l : List (S31)) (code bad frm : Int) : Option ((Int × Bool) × Int × List (S31) × Int × Int) :=
 (wF k s a l code bad).bind fun w1 => (sE k w1.1 35).bind fun r => if r.2.2 = true then some (a8z l code bad ⟨0, r.1, r.2.1, 0, 0, 0⟩ frm w1.2) else (sE k w1.1 118).bind fun q => if q.2.2 = true then some (a8z l code bad ⟨1, q.2.1, q.1, 0, 0, 0⟩ frm w1.2) else some ((0, false), w1.2, l, 2, frm)
def Left (w0 w W : World) (g : Nat) (s : ByteArray) (a : Int) (l : List (S31)) (code bad : Int) (A0 : Option Addr) (c0 n0 : Nat) : Prop :=
 (∃ A' c', a7q w0 W g s a l code bad A' c' ∧ ∀ k, (Value.slice A' l.length c').ownBlock = some k → some k = (Value.slice A0 n0 c0).ownBlock ∨ w.heap.size ≤ k) ∧ Kept w W (fun k => k = g ∨ some k = (Value.slice A0 n0 c0).ownBlock) ∧ l.length ≤ 80
set_option maxHeartbeats 4000000 in
theorem impl_termReader_node.leaf (k g : Nat) (s : ByteArray) (a a1 : Int) (l : List (S31)) (code bad p : Int) (ok : Bool) (a' : Int) (l' : List (S31)) (code' bad' : Int) (A : Option Addr) (c : Nat) (w0 w : World) (hI : a7q w0 w g s a l code bad A c) (hl : l.length ≤ 80) (hg : goF s a l code bad 40 = some (false, a1))
  (hf : a8k k s a1 l code bad a = some ((p, ok), a', l', code', bad')) :
  Calls Try.prog 61 #[.pointer (some ⟨g, 0, none⟩)] w fun e w' => e = .returned (.tuple #[.int .i64 p, .bool ok]) ∧ Left w0 w w' g s a' l' code' bad' A c l.length := by
 obtain ⟨hS, hR, hB⟩ := hI
 have HS := am hS; have HR := am hR; have HB := am hB; have HL := am hl; have HG := am hg
 unfold a8k at hf
 obtain ⟨⟨v1, a2⟩, a3, hf⟩ := oB hf
 obtain ⟨⟨x1, x2, f1⟩, hr1, hf⟩ := oB hf
 have HW := am a3; have HP := am hr1; have HF := am hf
 obtain ⟨A2, c2, hbg, _, _, _⟩ := hS
 have g1 := (kG hbg 1)
 have g1 : w.cell? ⟨g, 1, none⟩ = some (.int .i64 a) := g1.trans rfl
 have HK := am (Kept.refl w (fun k => k = g ∨ some k = (Value.slice A l.length c).ownBlock))
 clear hR hB hl hg a3 hr1 hf hbg
 go_enter Try.func61, Try.ntmps61
 go_wp2_with fail
 refine (b1u g s a l code bad 40 false a1 w0 _ HS.out HB.out HG.out).mono ?_
 rintro e w1 ⟨rfl, hi, hb, hk⟩
 have HS := am hi; have HR := am (Kd.R_keep HR.out hk (fun _ h => h)); have HB := am hb; have HK := am (kY HK.out hk (.inl (.inl rfl)))
 clear hi hb hk g1
 go_wp2_with fail
 refine (b6a k g s a1 l code bad v1 a2 w0 _ HS.out HB.out HW.out).mono ?_
 rintro e w2 ⟨rfl, hi, hb, hk⟩
 have HS := am hi; have HR := am (Kd.R_keep HR.out hk (fun _ h => h)); have HB := am hb; have HK := am (kY HK.out hk (.inl (.inl rfl)))
 clear hi hb hk
 go_wp2_with fail
 refine (impl_readPair.calls k v1 35 x1 x2 f1 _ HP.out).mono ?_
 rintro e w3 ⟨rfl, hd⟩
 have HS := am (IsS84.below HS.out hd.below); have HR := am (Kd.R_below HR.out hd.below); have HB := am (HB.out.trans (hd.below.mono HB.out.size)); have HK := am (HK.out.below hd.below)
 clear hd
 cases f1 with
 | true =>
  have hf := HF.out
  rw [if_pos rfl] at hf
  unfold a8z at hf
  simp only [Option.some.injEq, Prod.mk.injEq] at hf
  obtain ⟨h1, rfl, h2⟩ := hf
  have HQ := am (show a1j l code bad ⟨0, x1, x2, 0, 0, 0⟩ a = ((p, ok), l', code', bad') from Prod.ext h1 h2)
  clear h1 h2
  go_wp2_with fail
  refine (impl_termReader_puts.calls g s a2 l code bad 0 x1 x2 0 0 0 a p ok l' code' bad' A c w0 w3 ⟨HS.out, HR.out, HB.out⟩ HL.out HQ.out).mono ?_
  rintro e w4 ⟨rfl, ⟨A', c', hI, ho⟩, hk⟩
  have HI := am hI; have HO := am ho; have a0 := am hk
  clear hI ho hk
  have HLN := am (show l'.length ≤ 80 from by have := a2o (code := code) (bad := bad) (n := ⟨0, x1, x2, 0, 0, 0⟩) (frm := a) HL.out; rw [HQ.out] at this; exact this)
  go_wp2_with fail
  refine bodyPost_ret (pG (rs := [.tmp 2, .tmp 3]) rfl (by simp) (.tmp (.tmp .nil))) rfl ?_
  refine ⟨rfl, ⟨A', c', HI.out, fun k e => ?_⟩, HK.out.then_ a0.out (fun _ h => .inl h), HLN.out⟩
  rcases HO.out k e with h | h
  ·exact .inl h
  ·exact .inr (Nat.le_trans HK.out.1 h)
 | false =>
  have hf := HF.out
  rw [if_neg (by decide)] at hf
  obtain ⟨⟨y1, y2, f2⟩, hr2, hf⟩ := oB hf
  have a4 := am hr2; have HF := am hf
  clear hr2 hf
  go_wp2_with fail
  refine (impl_readPair.calls k v1 118 y1 y2 f2 _ a4.out).mono ?_
  rintro e w4 ⟨rfl, hd⟩
  have HS := am (IsS84.below HS.out hd.below); have HR := am (Kd.R_below HR.out hd.below); have HB := am (HB.out.trans (hd.below.mono HB.out.size)); have HK := am (HK.out.below hd.below)
  clear hd
  cases f2 with
  | true =>
   have hf := HF.out
   rw [if_pos rfl] at hf
   unfold a8z at hf
   simp only [Option.some.injEq, Prod.mk.injEq] at hf
   obtain ⟨h1, rfl, h2⟩ := hf
   have HQ := am (show a1j l code bad ⟨1, y2, y1, 0, 0, 0⟩ a = ((p, ok), l', code', bad') from Prod.ext h1 h2)
   clear h1 h2
   go_wp2_with fail
   refine (impl_termReader_puts.calls g s a2 l code bad 1 y2 y1 0 0 0 a p ok l' code' bad' A c w0 w4 ⟨HS.out, HR.out, HB.out⟩ HL.out HQ.out).mono ?_
   rintro e w5 ⟨rfl, ⟨A', c', hI, ho⟩, hk⟩
   have HI := am hI; have HO := am ho; have a0 := am hk
   clear hI ho hk
   have HLN := am (show l'.length ≤ 80 from by have := a2o (code := code) (bad := bad) (n := ⟨1, y2, y1, 0, 0, 0⟩) (frm := a) HL.out; rw [HQ.out] at this; exact this)
   go_wp2_with fail
   refine bodyPost_ret (pG (rs := [.tmp 2, .tmp 3]) rfl (by simp) (.tmp (.tmp .nil))) rfl ?_
   refine ⟨rfl, ⟨A', c', HI.out, fun k e => ?_⟩, HK.out.then_ a0.out (fun _ h => .inl h), HLN.out⟩
   rcases HO.out k e with h | h
   ·exact .inl h
   ·exact .inr (Nat.le_trans HK.out.1 h)
  | false =>
   have hf := HF.out
   rw [if_neg (by decide)] at hf
   simp only [Option.some.injEq, Prod.mk.injEq] at hf
   obtain ⟨⟨rfl, rfl⟩, rfl, rfl, rfl, rfl⟩ := hf
   go_wp2_with fail
   refine (impl_termReader_fails.calls g s a2 l code bad 2 a 0 false s a2 2 a w0 w4 HS.out HB.out rfl).mono ?_
   rintro e w5 ⟨rfl, hi, hb, hk⟩
   have HS := am hi; have HR := am (Kd.R_keep HR.out hk (fun _ h => h)); have HB := am hb; have HK := am (kY HK.out hk (.inl (.inl rfl)))
   clear hi hb hk
   go_wp2_with fail
   refine bodyPost_ret (pG (rs := [.tmp 2, .tmp 3]) rfl (by simp) (.tmp (.tmp .nil))) rfl ?_
   exact ⟨rfl, ⟨A, c, ⟨HS.out, HR.out, HB.out⟩, fun k e => .inl e.symm⟩, HK.out, HL.out⟩
variable {Ax : Option Addr} {cx : Nat}
def pA : Nat → Bool → ByteArray → Int → List (S31) → Int → Int → Int → Int → Int → Int → Int → Int → Option (Int × ByteArray × Int × Int × Int)
 | 0, _, _, _, _, _, _, _, _, _, _, _, _ => none
 | k + 1, aB, a6, a5, a2, a4, a3, a7, aA, a9, a1, a0, a8 => if aB = true then (some (1, a6, a5, a4, a3)) else (if a7 = 16 then (if 0 ≤ a1 then (if a1 < (a2.length : Int) then (if 0 ≤ a0 then (if a0 < (a2.length : Int) then (some (wrap64 (((kA a2 a1).f1) + ((kA a2 a0).f1)), a6, a5, a4, a3)) else (none)) else (none)) else (none)) else (none)) else (if a7 = 18 then (if 0 ≤ a0 then (if a0 < (a2.length : Int) then (some ((kA a2 a0).f1, a6, a5, a4, a3)) else (none)) else (none)) else (if 0 ≤ a1 then (if a1 < (a2.length : Int) then (some ((kA a2 a1).f1, a6, a5, a4, a3)) else (none)) else (none))))
def pC (k : Nat) (a5 : ByteArray) (a4 : Int) (aA : List (S31)) (a3 : Int) (a2 : Int) (a0 : Int) (a1 : Int) (a9 : Int) (a8 : Int) (a7 : Int) (a6 : Int) : Option (Int × ByteArray × Int × Int × Int) := if a0 = 17 then (some (a1, a5, a4, a3, a2)) else ((qN a0 13 15).bind fun aC => (if aC = true then (pA k true a5 a4 aA a3 a2 a0 a1 a9 a8 a7 a6) else ((rG a0 a1 a9 a8 a7 a6).bind fun aB => (pA k aB a5 a4 aA a3 a2 a0 a1 a9 a8 a7 a6))))
theorem a9c {P : Prop} (h : P := by
 exact ⟨rfl, by repeat (first | (with_reducible first | exact HI0.out | apply IsS84.alloc | apply IsS84.drewN | apply IsS84.drew | apply qB | apply pU | apply qA | apply pZ | refine IsS84.far ?_ a1.out _) | exact HI0.out), zX, by repeat (first | (with_reducible first | exact HK.out | apply yL | apply zT | apply a0x | apply zU | refine a4e ?_ aC.out _) | exact HK.out)⟩) : P := h
theorem impl_termReader_width.calls (k g : Nat) (a9 : ByteArray) (a8 : Int) (a4 : List (S31)) (a7 a6 a5 aF aE aB aA aD r1 : Int) (r2 : ByteArray) (r3 r4 r5 : Int) (w0 w : World) (hI : IsS84 Ax cx w0 w g a9 a8 a4 a7 a6) (hB : Below w0.heap.size w0 w) (hrow : ∀ W', KeepBut w W' g none → Kd.C k31 W' Ax a4.length a4) (h : pC k a9 a8 a4 a7 a6 a5 aF aE aB aA aD = some (r1, r2, r3, r4, r5)) :
  Calls Try.prog 96 #[.pointer (some ⟨g, 0, none⟩), .agg #[.int .i64 a5, .int .i64 aF, .int .i64 aE, .int .i64 aB, .int .i64 aA, .int .i64 aD]] w fun e w' => e = .returned (.int .i64 r1) ∧ IsS84 Ax cx w0 w' g r2 r3 a4 r4 r5 ∧ Below w0.heap.size w0 w' ∧ KeepBut w w' g none := by
 have HROW := am hrow
 clear hrow
 have hu31 := Try.underlying31
 have HI0 := am hI
 have HK := am (KeepBut.refl w g none)
 have HL := am hB.size
 clear hI
 have HW0 := am hB.size
 have HB := am hB
 clear hB
 have H := h
 clear h
 unfold pC at H
 by_cases c3 : a5 = 17
 ·rw [if_pos c3] at H
  have aT : (a5 == 17) = true := beq_iff_eq.mpr c3
  have aS : (a5 != 17) = false := bne_eq_false_iff_eq.mpr c3
  clear c3
  simp only [Option.some.injEq, Prod.mk.injEq] at H
  obtain ⟨rfl, rfl, rfl, rfl, rfl⟩ := H
  go_enter Try.func96, Try.ntmps96
  go_wp2_with (first | ((with_reducible refine gW ?_); first | (refine bX 3 31 #[.int .i64 a5, .int .i64 aF, .int .i64 aE, .int .i64 aB, .int .i64 aA, .int .i64 aD] ?_; intro a0 hg w4 hbox hb; replace HB := hX hb (by exact zX); have a3 := am hbox; have aC := am ((by rw [hg]; exact (tK (w := w) (g := g) (row := none) (by exact kB)) : w.heap.size ≤ a0)); have aR := am ((Nat.le_trans HW0.out (by rw [hg]; exact (tK (w := w) (g := g) (row := none) (by exact kB)) : w.heap.size ≤ a0) : w0.heap.size ≤ a0)); replace HK := kT (pV hb g none); have a1 := am ((by rw [hg]; exact Nat.ne_of_lt (zL (show IsS84 Ax cx w0 _ g a9 a8 a4 a7 a6 from by repeat (first | (with_reducible first | exact HI0.out | apply IsS84.alloc | apply IsS84.drewN | apply IsS84.drew | apply qB | apply pU | apply qA | apply pZ) | exact HI0.out))) : g ≠ a0)); have a2 := am ((by rw [hg]; exact Nat.ne_of_gt (zL (show IsS84 Ax cx w0 _ g a9 a8 a4 a7 a6 from by repeat (first | (with_reducible first | exact HI0.out | apply IsS84.alloc | apply IsS84.drewN | apply IsS84.drew | apply qB | apply pU | apply qA | apply pZ) | exact HI0.out))) : a0 ≠ g)); replace HI0 := am (IsS84.below (by repeat (first | (with_reducible first | exact HI0.out | apply IsS84.alloc | apply IsS84.drewN | apply IsS84.drew | apply qB | apply pU | apply qA | apply pZ) | exact HI0.out)) hb); clear hb hbox hg; have hnb5 := a2.out; have hnc5 := a1.out; have c_ := cf6 a3.out)))
  go_ret
  exact a9c
 rw [if_neg c3] at H
 have aT : (a5 == 17) = false := beq_eq_false_iff_ne.mpr c3
 have aS : (a5 != 17) = true := bne_iff_ne.mpr c3
 have aU := am H; clear H
 go_enter Try.func96, Try.ntmps96
 go_upto_region 3 with (first | ((with_reducible refine qC (N := 3) rfl ?_); refine xD ?hg (N := 3) ?hd (cs := #[.int .i64 a5, .int .i64 aF, .int .i64 aE, .int .i64 aB, .int .i64 aA, .int .i64 aD]) (t := 31) ?hr ?_; (case hd => rfl); (case hg => rfl); (case hr => (go_simp; done)); intro a0 hg w8 hbox hb; have aO := am (IsS84.below (by repeat (first | (with_reducible first | exact HI0.out | apply IsS84.alloc | apply IsS84.drewN | apply IsS84.drew | apply qB | apply pU | apply qA | apply pZ) | exact HI0.out)) hb); have aN := kT (pV hb g none); have aM := hX hb (by exact zX); have aL := am (hbox); have aK := am ((by rw [hg]; exact (tK (w := w) (g := g) (row := none) (by exact kB)) : w.heap.size ≤ a0)); have aJ := am ((Nat.le_trans HW0.out (by rw [hg]; exact (tK (w := w) (g := g) (row := none) (by exact kB)) : w.heap.size ≤ a0) : w0.heap.size ≤ a0)); have aI := am ((by rw [hg]; exact Nat.ne_of_lt (zL (show IsS84 Ax cx w0 _ g a9 a8 a4 a7 a6 from by repeat (first | (with_reducible first | exact HI0.out | apply IsS84.alloc | apply IsS84.drewN | apply IsS84.drew | apply qB | apply pU | apply qA | apply pZ) | exact HI0.out))) : g ≠ a0)); have aH := am ((by rw [hg]; exact Nat.ne_of_gt (zL (show IsS84 Ax cx w0 _ g a9 a8 a4 a7 a6 from by repeat (first | (with_reducible first | exact HI0.out | apply IsS84.alloc | apply IsS84.drewN | apply IsS84.drew | apply qB | apply pU | apply qA | apply pZ) | exact HI0.out))) : a0 ≠ g)); clear HI0; clear HK; clear HB; have HI0 := aO; have HK := aN; have HB := aM; have a3 := aL; have aC := aK; have aR := aJ; have a1 := aI; have a2 := aH; clear aO aN aM aL aK aJ aI aH; clear hb hbox hg; have hnb9 := a2.out; have hnc9 := a1.out; have aG := cf6 a3.out))
 repeat (go_quiet (first | ((with_reducible refine qC (N := 3) rfl ?_); refine xD ?hg (N := 3) ?hd (cs := #[.int .i64 a5, .int .i64 aF, .int .i64 aE, .int .i64 aB, .int .i64 aA, .int .i64 aD]) (t := 31) ?hr ?_; (case hd => rfl); (case hg => rfl); (case hr => first | (go_simp; done) | (go_simp; rfl)); intro a0 hg w8 hbox hb; have aO := am (IsS84.below (by repeat (first | (with_reducible first | exact HI0.out | apply IsS84.alloc | apply IsS84.drewN | apply IsS84.drew | apply qB | apply pU | apply qA | apply pZ) | exact HI0.out)) hb); have aN := kT (pV hb g none); have aM := hX hb (by exact zX); have aL := am (hbox); have aK := am ((by rw [hg]; exact (tK (w := w) (g := g) (row := none) (by exact kB)) : w.heap.size ≤ a0)); have aJ := am ((Nat.le_trans HW0.out (by rw [hg]; exact (tK (w := w) (g := g) (row := none) (by exact kB)) : w.heap.size ≤ a0) : w0.heap.size ≤ a0)); have aI := am ((by rw [hg]; exact Nat.ne_of_lt (zL (show IsS84 Ax cx w0 _ g a9 a8 a4 a7 a6 from by repeat (first | (with_reducible first | exact HI0.out | apply IsS84.alloc | apply IsS84.drewN | apply IsS84.drew | apply qB | apply pU | apply qA | apply pZ) | exact HI0.out))) : g ≠ a0)); have aH := am ((by rw [hg]; exact Nat.ne_of_gt (zL (show IsS84 Ax cx w0 _ g a9 a8 a4 a7 a6 from by repeat (first | (with_reducible first | exact HI0.out | apply IsS84.alloc | apply IsS84.drewN | apply IsS84.drew | apply qB | apply pU | apply qA | apply pZ) | exact HI0.out))) : a0 ≠ g)); clear HI0; clear HK; clear HB; have HI0 := aO; have HK := aN; have HB := aM; have a3 := aL; have aC := aK; have aR := aJ; have a1 := aI; have a2 := aH; clear aO aN aM aL aK aJ aI aH; clear hb hbox hg; have hnb9 := a2.out; have hnc9 := a1.out; have aG := cf6 a3.out)); go_upto_region 3 with (first | ((with_reducible refine qC (N := 3) rfl ?_); refine xD ?hg (N := 3) ?hd (cs := #[.int .i64 a5, .int .i64 aF, .int .i64 aE, .int .i64 aB, .int .i64 aA, .int .i64 aD]) (t := 31) ?hr ?_; (case hd => rfl); (case hg => rfl); (case hr => first | (go_simp; done) | (go_simp; rfl)); intro a0 hg w8 hbox hb; have aO := am (IsS84.below (by repeat (first | (with_reducible first | exact HI0.out | apply IsS84.alloc | apply IsS84.drewN | apply IsS84.drew | apply qB | apply pU | apply qA | apply pZ) | exact HI0.out)) hb); have aN := kT (pV hb g none); have aM := hX hb (by exact zX); have aL := am (hbox); have aK := am ((by rw [hg]; exact (tK (w := w) (g := g) (row := none) (by exact kB)) : w.heap.size ≤ a0)); have aJ := am ((Nat.le_trans HW0.out (by rw [hg]; exact (tK (w := w) (g := g) (row := none) (by exact kB)) : w.heap.size ≤ a0) : w0.heap.size ≤ a0)); have aI := am ((by rw [hg]; exact Nat.ne_of_lt (zL (show IsS84 Ax cx w0 _ g a9 a8 a4 a7 a6 from by repeat (first | (with_reducible first | exact HI0.out | apply IsS84.alloc | apply IsS84.drewN | apply IsS84.drew | apply qB | apply pU | apply qA | apply pZ) | exact HI0.out))) : g ≠ a0)); have aH := am ((by rw [hg]; exact Nat.ne_of_gt (zL (show IsS84 Ax cx w0 _ g a9 a8 a4 a7 a6 from by repeat (first | (with_reducible first | exact HI0.out | apply IsS84.alloc | apply IsS84.drewN | apply IsS84.drew | apply qB | apply pU | apply qA | apply pZ) | exact HI0.out))) : a0 ≠ g)); clear HI0; clear HK; clear HB; have HI0 := aO; have HK := aN; have HB := aM; have a3 := aL; have aC := aK; have aR := aJ; have a1 := aI; have a2 := aH; clear aO aN aM aL aK aJ aI aH; clear hb hbox hg; have hnb9 := a2.out; have hnc9 := a1.out; have aG := cf6 a3.out)))
 (try simp only [Act.put, List.setIfInBounds_toArray, List.set_cons_zero, List.set_cons_succ])
 go_cut [11] (fun cZ wc => ∃ (kq : Nat) (aQ : Bool), cZ = .bool aQ ∧ Aside0 (pA kq aQ a9 a8 a4 a7 a6 a5 aF aE aB aA aD = some (r1, r2, r3, r4, r5)) ∧ Aside0 (kq ≤ k) ∧ Aside0 (wc.heap[a0]? = some (.cells #[.int .i64 a5, .int .i64 aF, .int .i64 aE, .int .i64 aB, .int .i64 aA, .int .i64 aD] 31 (0, 0))) ∧ Aside0 (IsS84 Ax cx w0 wc g a9 a8 a4 a7 a6) ∧ Aside0 (KeepBut w wc g none) ∧ Aside0 (Below w0.heap.size w0 wc))
 case first =>
  have H := aU.out
  clear aU
  replace H := oA H; obtain ⟨dB, b0, H⟩ := H
  replace H := iB H; rcases H with ⟨rfl, H⟩ | ⟨rfl, H⟩
  ·replace H := am H
   have hnb13 := a2.out
   have hnc13 := a1.out
   have cY := cf6 a3.out
   go_wp2_with (first | (go_at_call 72; refine cD (impl_within.calls b0.out) fun nd => ?_; (try exact dq)))
   go_meet
   case rel => exact ⟨_, true, rfl, H, ⟨oM⟩, ⟨sB <| a3.out⟩, ⟨by repeat (first | (with_reducible first | exact HI0.out | apply IsS84.alloc | apply IsS84.drewN | apply IsS84.drew | apply qB | apply pU | apply qA | apply pZ | refine IsS84.far ?_ a1.out _) | exact HI0.out)⟩, ⟨by repeat (first | (with_reducible first | exact HK.out | apply yL | apply zT | apply a0x | apply zU | refine a4e ?_ aC.out _) | exact HK.out)⟩, ⟨zX⟩⟩
  replace H := oA H; obtain ⟨b1, d0, H⟩ := H
  replace H := am H
  have hnb16 := a2.out
  have hnc16 := a1.out
  have cX := cf6 a3.out
  go_wp2_with (first | (go_at_call 72; refine cD (impl_within.calls b0.out) fun nd => ?_; (try exact dq)) | (go_at_call 53; refine (impl_isQuant.calls _ _ d0.out).mono ?_; rintro e w18 ⟨rfl, hb⟩; replace a3 := gB a3 hb; replace HK := am (KeepBut.trans (by repeat (first | (with_reducible first | exact HK.out | apply yL | apply zT | apply a0x | apply zU | refine a4e ?_ aC.out _) | exact HK.out)) (pV hb g none) (.inl rfl)); replace HB := hX hb (by exact zX); replace HI0 := am (IsS84.below (by repeat (first | (with_reducible first | exact HI0.out | apply IsS84.alloc | apply IsS84.drewN | apply IsS84.drew | apply qB | apply pU | apply qA | apply pZ | refine IsS84.far ?_ a1.out _) | exact HI0.out)) hb); (try clear hb)))
  go_meet
  case rel => exact ⟨_, b1, rfl, H, ⟨oM⟩, ⟨sB <| a3.out⟩, ⟨by repeat (first | (with_reducible first | exact HI0.out | apply IsS84.alloc | apply IsS84.drewN | apply IsS84.drew | apply qB | apply pU | apply qA | apply pZ | refine IsS84.far ?_ a1.out _) | exact HI0.out)⟩, ⟨by repeat (first | (with_reducible first | exact HK.out | apply yL | apply zT | apply a0x | apply zU | refine a4e ?_ aC.out _) | exact HK.out)⟩, ⟨zX⟩⟩
 clear aU
 clear c3 aT aS aG
 obtain ⟨kq, aQ, rfl, HA, dL, a3, HI0, HK, HB⟩ := hcut
 cases kq with
 | zero => cases HA.out
 | succ dK =>
  obtain ⟨H⟩ := HA
  simp only [pA] at H
  replace H := iB H; rcases H with ⟨rfl, H⟩ | ⟨rfl, H⟩
  ·simp only [Option.some.injEq, Prod.mk.injEq] at H
   obtain ⟨rfl, rfl, rfl, rfl, rfl⟩ := H
   go_wp2
   repeat (go_quiet (fail); try go_wp2)
   go_ret
   exact a9c
  replace H := iE H; rcases H with ⟨aY, aX, H⟩ | ⟨aY, aX, H⟩
  ·replace H := iN H; obtain ⟨d8, H⟩ := H
   replace H := iN H; obtain ⟨d7, H⟩ := H
   replace H := iN H; obtain ⟨d6, H⟩ := H
   replace H := iN H; obtain ⟨d5, H⟩ := H
   simp only [Option.some.injEq, Prod.mk.injEq] at H
   obtain ⟨rfl, rfl, rfl, rfl, rfl⟩ := H
   have hnb25 := a2.out
   have hnc25 := a1.out
   have cW := cf6 a3.out
   obtain ⟨ASz27_2, cSz27_2, HGz27, hgz27, HSz27_2⟩ := HI0.out
   obtain ⟨rfl, rfl⟩ := HSz27_2
   have HSz27_2 := HROW.out _ HK.out
   have cV := wM HGz27
   have cU := wL HGz27
   have cT := wK HGz27
   have cS := wJ HGz27
   have cR := wI HGz27
   have cE := kE HGz27 0
   have cC := kE HGz27 1
   have cB := kE HGz27 3
   have c1 := kE HGz27 4
   clear HGz27 hgz27
   obtain ⟨dJ, dF, a_, rfl, bQ, bP, bO, bN, bM, bL⟩ := ix (pL HSz27_2 aB)
   obtain ⟨dI, dE, aZ, b2, bK, bJ, bI, bH, bG, bF⟩ := ix (pL HSz27_2 aA)
   obtain rfl : a_ = aZ := (by injection b2)
   go_wp2
   repeat (go_quiet (fail); try go_wp2)
   go_ret
   exact a9c
  replace H := iE H; rcases H with ⟨aW, aV, H⟩ | ⟨aW, aV, H⟩
  ·replace H := iN H; obtain ⟨d4, H⟩ := H
   replace H := iN H; obtain ⟨d3, H⟩ := H
   simp only [Option.some.injEq, Prod.mk.injEq] at H
   obtain ⟨rfl, rfl, rfl, rfl, rfl⟩ := H
   have hnb31 := a2.out
   have hnc31 := a1.out
   have cQ := cf6 a3.out
   obtain ⟨ASz33_2, cSz33_2, HGz33, hgz33, HSz33_2⟩ := HI0.out
   obtain ⟨rfl, rfl⟩ := HSz33_2
   have HSz33_2 := HROW.out _ HK.out
   have cP := wM HGz33
   have cO := wL HGz33
   have cN := wK HGz33
   have cM := wJ HGz33
   have cL := wI HGz33
   have c0 := kE HGz33 0
   have b_ := kE HGz33 1
   have bZ := kE HGz33 3
   have bV := kE HGz33 4
   clear HGz33 hgz33
   obtain ⟨dH, dD, dA, rfl, bE, bD, bC, bB, bA, b9⟩ := ix (pL HSz33_2 aA)
   go_wp2
   repeat (go_quiet (fail); try go_wp2)
   go_ret
   exact a9c
  replace H := iN H; obtain ⟨d2, H⟩ := H
  replace H := iN H; obtain ⟨d1, H⟩ := H
  simp only [Option.some.injEq, Prod.mk.injEq] at H
  obtain ⟨rfl, rfl, rfl, rfl, rfl⟩ := H
  have hnb36 := a2.out
  have hnc36 := a1.out
  have cK := cf6 a3.out
  obtain ⟨ASz38_2, cSz38_2, HGz38, hgz38, HSz38_2⟩ := HI0.out
  obtain ⟨rfl, rfl⟩ := HSz38_2
  have HSz38_2 := HROW.out _ HK.out
  have cJ := wM HGz38
  have cI := wL HGz38
  have cH := wK HGz38
  have cG := wJ HGz38
  have cF := wI HGz38
  have bU := kE HGz38 0
  have bT := kE HGz38 1
  have bS := kE HGz38 3
  have bR := kE HGz38 4
  clear HGz38 hgz38
  obtain ⟨dG, dC, d9, rfl, b8, b7, b6, b5, b4, b3⟩ := ix (pL HSz38_2 aB)
  go_wp2
  repeat (go_quiet (fail); try go_wp2)
  go_ret
  exact a9c
variable {Ax : Option Addr} {cx : Nat}
def yR (k : Nat) (s : ByteArray) (a : Int) (l : List (S31)) (c b : Int) (n : S31) : Option (Bool × Int × S31) :=
 if n.f0 = 17 then
  (goF s a l c b 32).bind fun g1 => if g1.1 = true then (wF k s g1.2 l c b).bind fun w1 => (qL k w1.1).bind fun r1 => if r1.2 = true then (goF s w1.2 l c b 32).bind fun g2 => (if g2.1 = true then (wF k s g2.2 l c b).bind fun w2 => (qL k w2.1).bind fun r2 => some (r2.2, w2.2, { n with f2 := r1.1, f1 := r2.1 }) else some (false, g2.2, n)) else some (false, w1.2, n) else some (false, g1.2, n)
 else if n.f0 = 19 ∨ n.f0 = 20 then
  (goF s a l c b 32).bind fun g1 => if g1.1 = true then (wF k s g1.2 l c b).bind fun w1 => (sE k w1.1 118).bind fun r => some (r.2.2, w1.2, { n with f2 := r.1, f4 := r.2.1 }) else some (false, g1.2, n)
 else some (true, a, n)
def NumSt (w0 w W : World) (g h : Nat) (s : ByteArray) (a : Int) (l : List (S31)) (c b : Int) (n : S31) (A : Option Addr) (cc : Nat) : Prop :=
 IsS84 A cc w0 W g s a l c b ∧ Below w0.heap.size w0 W ∧ W.heap[h]? = some (.cells #[.int .i64 n.f0, .int .i64 n.f1, .int .i64 n.f2, .int .i64 n.f3, .int .i64 n.f4, .int .i64 n.f5] 31 (0, 0)) ∧ Kept w W (fun k => k = g ∨ k = h)
theorem NumSt.step {w0 w W W1 : World} {g h : Nat} {s : ByteArray} {a a' : Int} {l : List (S31)} {c b : Int} {n : S31} {A : Option Addr} {cc : Nat} (hs : NumSt w0 w W g h s a l c b n A cc) (hI : IsS84 A cc w0 W1 g s a' l c b) (hB : Below w0.heap.size w0 W1) (hk : KeepBut W W1 g none) : NumSt w0 w W1 g h s a' l c b n A cc := by
 obtain ⟨h1, h2, h3, h4⟩ := hs
 have hne : g ≠ h := wN h1 h3 (by decide)
 refine ⟨hI, hB, ?_, kY h4 hk (.inl (.inl rfl))⟩
 rw [hk.2 h (sO h3) (fun e => hne e.symm) (by simp)]
 exact h3
theorem NumSt.drewn {w0 w W W1 : World} {g h : Nat} {s : ByteArray} {a : Int} {l : List (S31)} {c b : Int} {n : S31} {A : Option Addr} {cc : Nat} (hs : NumSt w0 w W g h s a l c b n A cc) (hd : Below W.heap.size W W1) : NumSt w0 w W1 g h s a l c b n A cc := by
 obtain ⟨h1, h2, h3, h4⟩ := hs
 exact ⟨IsS84.below h1 hd, h2.trans (hd.mono h2.size), kI h3 hd, h4.below hd⟩
theorem c1g {P : Prop} (h : P := by
 go_enter Try.func95, Try.ntmps95
 obtain ⟨q0, q1, q2, q3, q4, q5⟩ := a2a BX.out
 go_wp2_with fail
 refine (b1u g s a l c b 32 g1 a1 w0 _ HS.out.1 HS.out.2.1 HG1.out).mono ?_
 rintro e w1 ⟨rfl, hi, hb, hk⟩
 have HS := am (HS.out.step hi hb hk)
 clear hi hb hk q0 q1 q2 q3 q4 q5
 cases g1 with
 | false =>
  have hf := HF.out
  rw [if_neg (by decide)] at hf
  simp only [Option.some.injEq, Prod.mk.injEq] at hf
  obtain ⟨rfl, rfl, rfl⟩ := hf
  go_wp2_with fail
  go_ret
  exact ⟨rfl, HS.out⟩
 | true =>
  have hf := HF.out
  rw [if_pos rfl] at hf
  obtain ⟨⟨v1, a2⟩, a0, hf⟩ := oB hf
  obtain ⟨⟨k1, b1, f1⟩, hr1, hf⟩ := oB hf
  simp only [Option.some.injEq, Prod.mk.injEq] at hf
  obtain ⟨rfl, rfl, rfl⟩ := hf
  have HW1 := am a0; have a7 := am hr1
  clear a0 hr1
  go_wp2_with fail
  refine (b6a k g s a1 l c b v1 a2 w0 _ HS.out.1 HS.out.2.1 HW1.out).mono ?_
  rintro e w2 ⟨rfl, hi, hb, hk⟩
  have HS := am (HS.out.step hi hb hk)
  clear hi hb hk
  go_wp2_with fail
  refine (impl_readPair.calls k v1 118 k1 b1 f1 _ a7.out).mono ?_
  rintro e w3 ⟨rfl, hd⟩
  have HS := am (HS.out.drewn hd.below)
  clear hd
  have hz2 := kE HS.out.2.2.1 2
  have b2 : (w3.setCell ⟨h, 2, none⟩ (.int .i64 k1)).heap[h]? = some (.cells #[.int .i64 op, .int .i64 W, .int .i64 k1, .int .i64 A_, .int .i64 B, .int .i64 C] 31 (0, 0)) := by simpa using qM HS.out.2.2.1 2 (.int .i64 k1)
  have hz3 := kE b2 4
  obtain ⟨q0, q1, q2, q3, q4, q5⟩ := a2a HS.out.2.2.1
  obtain ⟨p0, p1, p2, p3, p4, p5⟩ := a2a b2
  go_wp2_with fail
  go_ret
  refine ⟨rfl, ?_⟩
  have hne : g ≠ h := wN HS.out.1 HS.out.2.2.1 (by decide)
  refine ⟨IsS84.far (IsS84.far HS.out.1 hne _) hne _, kZ (kZ HS.out.2.1 HN0.out) HN0.out, ?_, Kept.setCell (Kept.setCell HS.out.2.2.2 (p := ⟨h, 2, none⟩) (.inl (.inr rfl)) _) (p := ⟨h, 4, none⟩) (.inl (.inr rfl)) _⟩
  simpa using qM b2 4 (.int .i64 b1)) : P := h
theorem b4m {P : Prop} (h : P := by
 have hf := HF.out
 rw [if_neg (by decide)] at hf
 simp only [Option.some.injEq, Prod.mk.injEq] at hf
 obtain ⟨rfl, rfl, rfl⟩ := hf
 go_wp2_with fail
 go_ret
 exact ⟨rfl, HS.out⟩) : P := h
set_option maxHeartbeats 4000000 in
theorem impl_termReader_numbers.calls (k g h : Nat) (s : ByteArray) (a : Int) (l : List (S31)) (c b : Int) (n : S31) (ok : Bool) (a' : Int) (n' : S31) (A : Option Addr) (cc : Nat) (w0 w : World) (hS : NumSt w0 w w g h s a l c b n A cc) (hh : w0.heap.size ≤ h) (hf : yR k s a l c b n = some (ok, a', n')) :
  Calls Try.prog 95 #[.pointer (some ⟨g, 0, none⟩), .pointer (some ⟨h, 0, none⟩)] w fun e w' => e = .returned (.bool ok) ∧ NumSt w0 w w' g h s a' l c b n' A cc := by
 have HS := am hS; have HN0 := am hh
 obtain ⟨op, W, Kq, A_, B, C⟩ := n
 have BX := am hS.2.2.1
 unfold yR at hf
 simp only [] at hf
 by_cases o17 : op = 17
 rotate_left
 ·rw [if_neg o17] at hf
  have t1 : (op == 17) = false := beq_eq_false_iff_ne.mpr o17
  by_cases oq : op = 19 ∨ op = 20
  ·rw [if_pos oq] at hf
   obtain ⟨⟨g1, a1⟩, hg1, hf⟩ := oB hf
   have HG1 := am hg1; have HF := am hf
   obtain ⟨a5, a9⟩ : ∃ a5, (op == 19) = a5 := ⟨_, rfl⟩
   have a6 : a5 = false → (op == 20) = true := by intro e; subst e; have := beq_eq_false_iff_ne.mp a9; exact beq_iff_eq.mpr oM
   clear hg1 hS hh hf o17 oq
   cases a5 with
   | true =>
    clear a6
    exact c1g
   | false =>
    have a6 := a6 rfl
    exact c1g
  rw [if_neg oq] at hf
  have t2 : (op == 19) = false := beq_eq_false_iff_ne.mpr (fun e => oq (.inl e))
  have t3 : (op == 20) = false := beq_eq_false_iff_ne.mpr (fun e => oq (.inr e))
  simp only [Option.some.injEq, Prod.mk.injEq] at hf
  obtain ⟨rfl, rfl, rfl⟩ := hf
  clear hS hh o17 oq
  go_enter Try.func95, Try.ntmps95
  obtain ⟨q0, q1, q2, q3, q4, q5⟩ := a2a BX.out
  go_wp2_with fail
  go_ret
  exact ⟨rfl, HS.out.drewn (by exact Below.refl _ _)⟩
 rw [if_pos o17] at hf
 obtain ⟨⟨g1, a1⟩, hg1, hf⟩ := oB hf
 have HG1 := am hg1; have HF := am hf
 have t1 : (op == 17) = true := beq_iff_eq.mpr o17
 clear hg1 hS hh hf o17
 go_enter Try.func95, Try.ntmps95
 obtain ⟨q0, q1, q2, q3, q4, q5⟩ := a2a BX.out
 go_wp2_with fail
 refine (b1u g s a l c b 32 g1 a1 w0 _ HS.out.1 HS.out.2.1 HG1.out).mono ?_
 rintro e w1 ⟨rfl, hi, hb, hk⟩
 have HS := am (HS.out.step hi hb hk)
 clear hi hb hk q0 q1 q2 q3 q4 q5
 cases g1 with
 | false =>
  exact b4m
 | true =>
  have hf := HF.out
  rw [if_pos rfl] at hf
  obtain ⟨⟨v1, a2⟩, a0, hf⟩ := oB hf
  obtain ⟨⟨k1, f1⟩, hr1, hf⟩ := oB hf
  have HW1 := am a0; have a7 := am hr1; have HF := am hf
  clear a0 hr1 hf
  go_wp2_with fail
  refine (b6a k g s a1 l c b v1 a2 w0 _ HS.out.1 HS.out.2.1 HW1.out).mono ?_
  rintro e w2 ⟨rfl, hi, hb, hk⟩
  have HS := am (HS.out.step hi hb hk)
  clear hi hb hk
  go_wp2_with fail
  refine (impl_readNumber.calls k v1 k1 f1 _ a7.out).mono ?_
  rintro e w3 ⟨rfl, hd⟩
  have HS := am (HS.out.drewn hd.below)
  clear hd
  cases f1 with
  | false =>
   exact b4m
  | true =>
   have hf := HF.out
   rw [if_pos rfl] at hf
   obtain ⟨⟨g2, a3⟩, hg2, hf⟩ := oB hf
   have HG2 := am hg2; have HF := am hf
   clear hg2 hf
   go_wp2_with fail
   refine (b1u g s a2 l c b 32 g2 a3 w0 _ HS.out.1 HS.out.2.1 HG2.out).mono ?_
   rintro e w4 ⟨rfl, hi, hb, hk⟩
   have HS := am (HS.out.step hi hb hk)
   clear hi hb hk
   cases g2 with
   | false =>
    exact b4m
   | true =>
    have hf := HF.out
    rw [if_pos rfl] at hf
    obtain ⟨⟨v2, a4⟩, a8, hf⟩ := oB hf
    obtain ⟨⟨k2, f2⟩, hr2, hf⟩ := oB hf
    simp only [Option.some.injEq, Prod.mk.injEq] at hf
    obtain ⟨rfl, rfl, rfl⟩ := hf
    have HW2 := am a8; have aA := am hr2
    clear a8 hr2
    go_wp2_with fail
    refine (b6a k g s a3 l c b v2 a4 w0 _ HS.out.1 HS.out.2.1 HW2.out).mono ?_
    rintro e w5 ⟨rfl, hi, hb, hk⟩
    have HS := am (HS.out.step hi hb hk)
    clear hi hb hk
    go_wp2_with fail
    refine (impl_readNumber.calls k v2 k2 f2 _ aA.out).mono ?_
    rintro e w6 ⟨rfl, hd⟩
    have HS := am (HS.out.drewn hd.below)
    clear hd
    have hz2 := kE HS.out.2.2.1 2
    have hz1 := kE HS.out.2.2.1 1
    have b2 : (w6.setCell ⟨h, 2, none⟩ (.int .i64 k1)).heap[h]? = some (.cells #[.int .i64 op, .int .i64 W, .int .i64 k1, .int .i64 A_, .int .i64 B, .int .i64 C] 31 (0, 0)) := by simpa using qM HS.out.2.2.1 2 (.int .i64 k1)
    have hz3 := kE b2 1
    obtain ⟨q0, q1, q2, q3, q4, q5⟩ := a2a HS.out.2.2.1
    obtain ⟨p0, p1, p2, p3, p4, p5⟩ := a2a b2
    go_wp2_with fail
    go_ret
    refine ⟨rfl, ?_⟩
    have hne : g ≠ h := wN HS.out.1 HS.out.2.2.1 (by decide)
    refine ⟨IsS84.far (IsS84.far HS.out.1 hne _) hne _, kZ (kZ HS.out.2.1 HN0.out) HN0.out, ?_, Kept.setCell (Kept.setCell HS.out.2.2.2 (p := ⟨h, 2, none⟩) (.inl (.inr rfl)) _) (p := ⟨h, 1, none⟩) (.inl (.inr rfl)) _⟩
    simpa using qM b2 1 (.int .i64 k2)
variable {Ax : Option Addr} {cx : Nat}
theorem a3l {k : Nat} {x : Bool} {s : ByteArray} {a : Int} {l : List (S31)} {c b n0 n1 n2 n3 n4 n5 : Int} {r1 : Int} {r2 : ByteArray} {r3 r4 r5 : Int} (h : pA k x s a l c b n0 n1 n2 n3 n4 n5 = some (r1, r2, r3, r4, r5)) : r2 = s ∧ r3 = a ∧ r4 = c ∧ r5 = b := by
 cases k with
 | zero => simp [pA] at h
 | succ k =>
  simp only [pA] at h
  repeat' split at h
  all_goals first
   | (simp only [Option.some.injEq, Prod.mk.injEq] at h; exact ⟨h.2.1.symm, h.2.2.1.symm, h.2.2.2.1.symm, h.2.2.2.2.symm⟩)
   | exact absurd h (by simp)
theorem b1i {k : Nat} {s : ByteArray} {a : Int} {l : List (S31)} {c b n0 n1 n2 n3 n4 n5 : Int} {r1 : Int} {r2 : ByteArray} {r3 r4 r5 : Int} (h : pC k s a l c b n0 n1 n2 n3 n4 n5 = some (r1, r2, r3, r4, r5)) : r2 = s ∧ r3 = a ∧ r4 = c ∧ r5 = b := by
 unfold pC at h
 split at h
 ·simp only [Option.some.injEq, Prod.mk.injEq] at h; exact ⟨h.2.1.symm, h.2.2.1.symm, h.2.2.2.1.symm, h.2.2.2.2.symm⟩
 ·obtain ⟨t, _, h⟩ := oB h
  split at h
  ·exact a3l h
  ·obtain ⟨t2, _, h⟩ := oB h
   exact a3l h
end Go.Proofs.Ytkpipmojkhikaaa.PAll
