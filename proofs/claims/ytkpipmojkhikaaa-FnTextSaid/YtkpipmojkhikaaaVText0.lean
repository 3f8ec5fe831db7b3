/- Written by a program of this session over the loaded program: Go functions as plain Lean functions, and that a call comes to what they say. -/
import Derived.Test.YtkpipmojkhikaaaProg
import Derived.Test.YtkpipmojkhikaaaBase
import Derived.Shelf.Abstract
import Derived.Below
import Derived.Deep.Draws
import Derived.Deep.AppendLies
import Derived.Maps.AppendAt
import Derived.OwnWalk
import Derived.Laws.BytesArg
import Derived.Laws.MakeOwn
import Derived.Laws.OwnMore
import Derived.Deep.OwnRows
import Derived.Tactics
import Derived.Lib.ConvBytes
import Derived.Laws.Slices
import Derived.WalkKit
import Derived.KernelRfl
import Derived.RowKit3
import Derived.Deep.LoopGhost
import Derived.Deep.QuietTactic
import Derived.BigQuiet
import Derived.WideLaws
import Derived.Deep.DeepCutAuto
import Derived.Deep.CutBlock
import Derived.Deep.RegionHeld3
import Derived.Laws.Rows
import Derived.Lib.AppendStr
import Derived.ArgAppend
import Derived.Laws.IdiomCopy
import Derived.OrdersHeld
import Derived.Laws.BitsLemmas
import Derived.RowKit
import Derived.Test.YtkpipmojkhikaaaWWords
import Derived.Test.YtkpipmojkhikaaaWLast
import Derived.Test.YtkpipmojkhikaaaWTab
import Derived.Test.YtkpipmojkhikaaaWFour
import Derived.Test.YtkpipmojkhikaaaWQPut
import Derived.Test.YtkpipmojkhikaaaWApart
import Derived.Test.YtkpipmojkhikaaaWArr
import Derived.Test.YtkpipmojkhikaaaWZeros
import Derived.Test.YtkpipmojkhikaaaWFoot
import Derived.Test.YtkpipmojkhikaaaWKept
import Derived.Test.YtkpipmojkhikaaaWShare
import Derived.Test.YtkpipmojkhikaaaWN
import Derived.Test.YtkpipmojkhikaaaWFootNe
import Derived.Test.YtkpipmojkhikaaaWAt
import Derived.Test.YtkpipmojkhikaaaWEqStruct
import Derived.Test.YtkpipmojkhikaaaWRepsOne
import Derived.Test.YtkpipmojkhikaaaWInv
import Derived.Test.YtkpipmojkhikaaaWInvWords
import Derived.Test.YtkpipmojkhikaaaWGuard
import Derived.Test.YtkpipmojkhikaaaWNEv
import Derived.Test.YtkpipmojkhikaaaWMore
namespace Go.Proofs.Ytkpipmojkhikaaa.PAll
open Go.RowKit Go.Proofs.YtkpipmojkhikaaaW.PrintWords Go.Proofs.YtkpipmojkhikaaaW.PrintLast Go.Proofs.YtkpipmojkhikaaaW.PrintMore
attribute [local go_sem] sD rZ uM uL qV qU sA rY
set_option linter.unusedVariables false
set_option linter.unusedSimpArgs false
def d2y : Option Int → Value
 | none => .nilIface
 | some c => .iface 0 (.int .i64 c)
theorem b8b : d2y none = .nilIface := rfl
theorem b8a (c : Int) : d2y (some c) = .iface 0 (.int .i64 c) := rfl
theorem b4a : (Try.prog.info? 3).map (fun i => (i.zero, i.size, i.bytes)) = some (some (.int .i64 0), 1, 8) := by kernel_rfl
theorem b0f : (Try.prog.info? 4).map (fun i => (i.zero, i.size, i.bytes)) = some (some (.bool false), 1, 1) := by kernel_rfl
theorem d0r : (Try.prog.info? 9).map (fun i => (i.zero, i.size, i.bytes)) = some (some (.string ⟨#[]⟩), 1, 16) := by kernel_rfl
theorem yI : (Try.prog.info? 31).map (fun i => (i.zero, i.size, i.bytes)) = some (some (.agg #[(.int .i64 0), (.int .i64 0), (.int .i64 0), (.int .i64 0), (.int .i64 0), (.int .i64 0)]), 6, 48) := by kernel_rfl
theorem d0s : (Try.prog.info? 76).map (fun i => (i.zero, i.size, i.bytes)) = some (some (.slice none 0 0), 1, 24) := by kernel_rfl
structure S31 where
 f0 : Int
 f1 : Int
 f2 : Int
 f3 : Int
 f4 : Int
 f5 : Int
def z31 : S31 := ⟨(0 : Int), (0 : Int), (0 : Int), (0 : Int), (0 : Int), (0 : Int)⟩
def k31 : Kd S31 := Kd.iso (Kd.pair (Kd.int .i64) (Kd.pair (Kd.int .i64) (Kd.pair (Kd.int .i64) (Kd.pair (Kd.int .i64) (Kd.pair (Kd.int .i64) (Kd.int .i64)))))) (fun x : S31 => (x.f0, x.f1, x.f2, x.f3, x.f4, x.f5))
theorem b9x {w : World} {x : S31} {cs : List Value} (h : k31.K w x cs) : cs = [.int .i64 x.f0, .int .i64 x.f1, .int .i64 x.f2, .int .i64 x.f3, .int .i64 x.f4, .int .i64 x.f5] := by
 obtain ⟨_, _, rfl, rfl, ⟨_, _, rfl, rfl, ⟨_, _, rfl, rfl, ⟨_, _, rfl, rfl, ⟨_, _, rfl, rfl, rfl⟩⟩⟩⟩⟩ := h
 exact rfl
theorem yH {w : World} {base : Nat} {ok : Nat → Prop} {x : S31} {cs : List Value} (h : k31.M w base ok x cs) : cs = [.int .i64 x.f0, .int .i64 x.f1, .int .i64 x.f2, .int .i64 x.f3, .int .i64 x.f4, .int .i64 x.f5] := by
 obtain ⟨_, _, rfl, rfl, ⟨_, _, rfl, rfl, ⟨_, _, rfl, rfl, ⟨_, _, rfl, rfl, ⟨_, _, rfl, rfl, rfl⟩⟩⟩⟩⟩ := h
 exact rfl
theorem vK (w : World) (base : Nat) (ok : Nat → Prop) (x : S31)  : k31.M w base ok x [.int .i64 x.f0, .int .i64 x.f1, .int .i64 x.f2, .int .i64 x.f3, .int .i64 x.f4, .int .i64 x.f5] := ⟨[.int .i64 x.f0], [.int .i64 x.f1, .int .i64 x.f2, .int .i64 x.f3, .int .i64 x.f4, .int .i64 x.f5], rfl, rfl, ⟨[.int .i64 x.f1], [.int .i64 x.f2, .int .i64 x.f3, .int .i64 x.f4, .int .i64 x.f5], rfl, rfl, ⟨[.int .i64 x.f2], [.int .i64 x.f3, .int .i64 x.f4, .int .i64 x.f5], rfl, rfl, ⟨[.int .i64 x.f3], [.int .i64 x.f4, .int .i64 x.f5], rfl, rfl, ⟨[.int .i64 x.f4], [.int .i64 x.f5], rfl, rfl, rfl⟩⟩⟩⟩⟩
def kA (xs : List S31) (i : Int) : S31 := xs.getD i.toNat z31
theorem pL {w : World} {A : Option Addr} {n : Nat} {xs : List S31} (h : Kd.C k31 w A n xs) (i : Int) (h0 : 0 ≤ i) (h1 : i < n) : ∃ ad , A = some ad ∧ w.cell? (ad.add (i.toNat * 6)) = some (.int .i64 (kA xs i).f0) ∧ w.cell? ⟨(ad.add (i.toNat * 6)).block, (ad.add (i.toNat * 6)).off + 1, none⟩ = some (.int .i64 (kA xs i).f1) ∧ w.cell? ⟨(ad.add (i.toNat * 6)).block, (ad.add (i.toNat * 6)).off + 2, none⟩ = some (.int .i64 (kA xs i).f2) ∧ w.cell? ⟨(ad.add (i.toNat * 6)).block, (ad.add (i.toNat * 6)).off + 3, none⟩ = some (.int .i64 (kA xs i).f3) ∧ w.cell? ⟨(ad.add (i.toNat * 6)).block, (ad.add (i.toNat * 6)).off + 4, none⟩ = some (.int .i64 (kA xs i).f4) ∧ w.cell? ⟨(ad.add (i.toNat * 6)).block, (ad.add (i.toNat * 6)).off + 5, none⟩ = some (.int .i64 (kA xs i).f5) := by
 obtain ⟨ad, c, e, _, hK, hc0⟩ := Kd.C_get h z31 i h0 h1
 have hc : ∀ j u, c[j]? = some u → w.cell? (ad.add (i.toNat * 6 + j)) = some u := hc0
 obtain rfl := b9x hK
 exact ⟨ad, e, hc 0 _ rfl, by rw [← a1b _ _ 1 (by omega)]; exact hc 1 _ rfl, by rw [← a1b _ _ 2 (by omega)]; exact hc 2 _ rfl, by rw [← a1b _ _ 3 (by omega)]; exact hc 3 _ rfl, by rw [← a1b _ _ 4 (by omega)]; exact hc 4 _ rfl, by rw [← a1b _ _ 5 (by omega)]; exact hc 5 _ rfl⟩
def a5n (xs : List (List Bool)) (i : Int) : (List Bool) := xs.getD i.toNat ([] : List Bool)
theorem d0z {w : World} {A : Option Addr} {n : Nat} {xs : List (List Bool)} (h : Kd.C (Kd.slice 4 Kd.bool) w A n xs) (i : Int) (h0 : 0 ≤ i) (h1 : i < n) : ∃ ad A0 c0, A = some ad ∧ w.cell? (ad.add i.toNat) = some (.slice A0 (a5n xs i).length c0) ∧ (a5n xs i).length ≤ c0 ∧ Kd.bool.C w A0 (a5n xs i).length (a5n xs i) := by
 obtain ⟨ad, c, e, _, hK, hc0⟩ := Kd.C_get h ([] : List Bool) i h0 h1
 have hc : ∀ j u, c[j]? = some u → w.cell? (ad.add (i.toNat * 1 + j)) = some u := hc0
 obtain ⟨A0, c0, rfl, l0, g0⟩ := hK
 exact ⟨ad, A0, c0, e, by have hq := hc 0 _ rfl; rwa [Nat.mul_one, Nat.add_zero] at hq, l0, g0⟩
theorem sK {w W W' : World} {S : Nat → Prop} (k : Kept w W S) (h : Kept w W' S := by repeat (first | (with_reducible first | exact HK.out | apply Kept.alloc | apply Kept.drewN | apply Kept.drew | refine Kept.setCell ?_ (.inl (.inr rfl)) _ | refine Kept.setCell ?_ (.inr (Aside0.out (by assumption))) _) | exact HK.out)) : Kept w W' S := h
theorem kB {P : Prop} (h : P := by repeat (first | (with_reducible first | exact HK.out | apply yL | apply zT | apply a0x | apply zU) | exact HK.out)) : P := h
theorem tn {P : Prop} (h : P := by (try simp only [List.map_toArray, List.map_cons, List.map_nil]); first | done | rfl | (simp only [List.length_drop, List.length_take]; rfl)) : P := h
theorem d2u {P : Prop} (h : P := by repeat (first | (with_reducible first | exact HI0.out | apply IsS84.alloc | apply IsS84.drewN | apply IsS84.drew | apply pU | apply IsS84.set_2 | refine IsS84.far ?_ (Aside0.out (by assumption)) _) | exact HI0.out)) : P := h
theorem zX {P : Prop} (h : P := by repeat (first | (with_reducible first | exact HB.out | apply kS | apply kN | apply kO | refine kZ ?_ (c0t HI0.out) | refine kZ ?_ (Aside0.out (by assumption))) | exact HB.out)) : P := h
theorem d2t {P : Prop} (h : P := by repeat (first | (with_reducible first | exact HI0.out | apply IsS88.alloc | apply IsS88.drewN | apply IsS88.drew | apply xI | apply IsS88.set_2 | refine IsS88.far ?_ (Aside0.out (by assumption)) _) | exact HI0.out)) : P := h
theorem b0x {P : Prop} (h : P := by repeat (first | (with_reducible first | exact HB.out | apply kS | apply kN | apply kO | refine kZ ?_ (c0s HI0.out) | refine kZ ?_ (Aside0.out (by assumption))) | exact HB.out)) : P := h
theorem kM {P : Prop} (h : P := by repeat (first | (with_reducible first | exact HI0.out | apply IsS93.alloc | apply IsS93.drewN | apply IsS93.drew | apply a6n | apply IsS93.set_2 | refine IsS93.far ?_ (Aside0.out (by assumption)) _) | exact HI0.out)) : P := h
theorem kL {P : Prop} (h : P := by repeat (first | (with_reducible first | exact HB.out | apply kS | apply kN | apply kO | refine kZ ?_ (a2x HI0.out) | refine kZ ?_ (Aside0.out (by assumption))) | exact HB.out)) : P := h
end Go.Proofs.Ytkpipmojkhikaaa.PAll
