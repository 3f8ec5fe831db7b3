/- Written by a program of this session over the loaded program, and by hand: Go functions as plain Lean functions, and that a call comes to what they say. -/
import Derived.Test.YtkpipmojkhikaaaVExactCanon0
import Derived.Test.YtkpipmojkhikaaaVExactCanon6
import Derived.Test.YtkpipmojkhikaaaVExactCanon7
import Derived.Test.YtkpipmojkhikaaaBase
import Derived.Test.YtkpipmojkhikaaaSq
namespace Go.Proofs.Ytkpipmojkhikaaa.PAll
open Go.RowKit Go.Proofs.YtkpipmojkhikaaaW.PrintWords Go.Proofs.YtkpipmojkhikaaaW.PrintLast Go.Proofs.YtkpipmojkhikaaaW.PrintMore Go.Proofs.YtkpipmojkhikaaaW.Sq
attribute [local go_sem] max2_int min2_int max_two min_two max_three min_three max_four min_four   -- for this text's walks alone
set_option linter.unusedVariables false
set_option linter.unusedSimpArgs false

/-! ### impl_TermOk: function 44 -/
def impl_TermOk.l0 : Nat → List (S31) → List (S31) → Int → Int → Option (Bool)
 | 0, _, _, _, _ => none
 | k + 1, x0, x9, x10, x11 => if x11 < x10 then (if 0 ≤ x11 then (if x11 < (x9.length : Int) then (if x11 ≤ (x0.length : Int) then ((impl_isRight.f (x0.take (x11 : Int).toNat) ((rd_T31 x9 x11).f0) ((rd_T31 x9 x11).f1) ((rd_T31 x9 x11).f2) ((rd_T31 x9 x11).f3) ((rd_T31 x9 x11).f4) ((rd_T31 x9 x11).f5)).bind fun t341 => (if t341 = true then (impl_TermOk.l0 k x0 x9 x10 (wrap64 (x11 + 1))) else (some false))) else (none)) else (none)) else (none)) else (some true)
def impl_TermOk.f (k : Nat) (l0 : List (S31)) : Option (Bool) := (impl_within.f (l0.length : Int) 1 80).bind fun t334 => (if t334 = true then (impl_TermOk.l0 k l0 l0 (l0.length : Int) 0) else (some false))
set_option maxHeartbeats 8000000 in
set_option maxRecDepth 100000 in
theorem impl_TermOk.calls (k : Nat) (A0 : Option Addr) (c0 : Nat) (l0 : List (S31)) (r : Bool) (w : World) (hr0 : Kd.C k31 w A0 l0.length l0) (hc0 : l0.length ≤ c0) (h : impl_TermOk.f k l0 = some r) :
  Calls Try.prog 44 #[.slice A0 l0.length c0] w fun e w' => e = .returned (.bool r) ∧ Below w.heap.size w w' := by
 have hu31 := Try.underlying31
 have HR0 := am hr0
 have HC0 := am hc0
 clear hr0 hc0
 have HB := am (Below.refl w.heap.size w)
 have H : ((impl_within.f (l0.length : Int) 1 80).bind fun t334 => (if t334 = true then (impl_TermOk.l0 k l0 l0 (l0.length : Int) 0) else (some false))) = some r := h
 clear h
 replace H := oA H; obtain ⟨t334, A2, H⟩ := H
 replace H := iB H; rcases H with ⟨rfl, H⟩ | ⟨rfl, H⟩
 ·have H' := am H
  clear H
  go_enter Try.func44, Try.ntmps44
  go_wp2_with (first | ((with_reducible refine gate_callee (f := 72) rfl ?_); refine goesL_ (some 7) rfl rfl Try.func72 (by kernel_rfl) rfl #[.int .i64 (l0.length : Int), .int .i64 1, .int .i64 80] rfl tm ?_; refine cD (impl_within.calls _ _ _ _ _ A2.out) fun nd => ?_; refine ⟨_, rfl, ?_⟩))
  go_loopg [11] k (fun kq v11 w' => ∃ (x11_1 : Int), v11 = .int .i64 x11_1 ∧ Aside0 (impl_TermOk.l0 kq l0 l0 (l0.length : Int) x11_1 = some r) ∧ Aside0 (kq ≤ k) ∧ Aside0 (Below w.heap.size w w'))
  case atStart => exact ⟨(0), (by rfl), H', ⟨Nat.le_refl _⟩, ⟨by exact sW HB.out⟩⟩
  case round =>
   clear H'
   obtain ⟨x11_1, rfl, HA, HK1, HB⟩ := hrel
   cases gk with
   | zero => exact absurd HA.out (by simp [impl_TermOk.l0])
   | succ k1 =>
    have H := HA.out
    clear HA
    simp only [impl_TermOk.l0] at H
    replace H := iD H; rcases H with ⟨c4b0, H⟩ | ⟨c4b0, H⟩
    ·replace H := iN H; obtain ⟨c5b0, H⟩ := H
     replace H := iN H; obtain ⟨c6b0, H⟩ := H
     have c7b0 := eq_true (oD (by assumption) : 0 ≤ x11_1)
     replace H := iTD H; obtain ⟨c8b0, c8b1, H⟩ := H
     obtain ⟨y337, hy337⟩ : ∃ y_ : List (S31), y_ = (l0.take (x11_1 : Int).toNat) := ⟨_, rfl⟩
     replace H : ((impl_isRight.f y337 ((rd_T31 l0 x11_1).f0) ((rd_T31 l0 x11_1).f1) ((rd_T31 l0 x11_1).f2) ((rd_T31 l0 x11_1).f3) ((rd_T31 l0 x11_1).f4) ((rd_T31 l0 x11_1).f5)).bind fun t341 => (if t341 = true then (impl_TermOk.l0 k1 l0 l0 (l0.length : Int) (wrap64 (x11_1 + 1))) else (some false))) = some r := by (rw [hy337]; with_reducible exact H)
     have Ny337 := am hy337
     clear hy337
     replace H := oA H; obtain ⟨t341, A9, H⟩ := H
     replace H := iB H; rcases H with ⟨rfl, H⟩ | ⟨rfl, H⟩
     ·have H' := am H
      clear H
      obtain ⟨p335, q335, ad335, rfl, hx335_0, hx335_1, hx335_2, hx335_3, hx335_4, hx335_5⟩ := ix (at_T31 HR0.out x11_1)
      replace hx335_0 := pw_cell_below HB.out hx335_0
      replace hx335_1 := pw_cell_below HB.out hx335_1
      replace hx335_2 := pw_cell_below HB.out hx335_2
      replace hx335_3 := pw_cell_below HB.out hx335_3
      replace hx335_4 := pw_cell_below HB.out hx335_4
      replace hx335_5 := pw_cell_below HB.out hx335_5
      try go_wp2_with (first | ((with_reducible refine gate_dst (N := 4) rfl ?_); refine box_event ?hg (N := 4) ?hd (cs := #[.int .i64 0, .int .i64 0, .int .i64 0, .int .i64 0, .int .i64 0, .int .i64 0]) (t := 31) ?hr ?_; (case hd => rfl); (case hg => rfl); (case hr => (go_simp; done)); intro gb336 hg w11 hbox hb; have n0_ := am (below_step (by exact sW HB.out) hb); have n1_ := am (hbox); have n2_ := am ((by rw [hg]; exact (below_size (by exact sW HB.out)) : w.heap.size ≤ gb336)); have n3_ := am ((by rw [hg]; exact (below_size (by exact sW HB.out)) : w.heap.size ≤ gb336)); clear HB; have HB := n0_; have BK336 := n1_; have GW336 := n2_; have GE336 := n3_; clear n0_ n1_ n2_ n3_; clear hb hbox hg; obtain ⟨hcz12_0, hcz12_1, hcz12_2, hcz12_3, hcz12_4, hcz12_5⟩ := cz6 BK336.out; obtain ⟨hfz12_0, hfz12_1, hfz12_2, hfz12_3, hfz12_4, hfz12_5⟩ := fz6 BK336.out))
      have n0_ : Aside0 (((((((w11.setCell ⟨gb336, 0, none⟩ (.int .i64 ((rd_T31 l0 x11_1).f0))).setCell ⟨gb336, 1, none⟩ (.int .i64 ((rd_T31 l0 x11_1).f1))).setCell ⟨gb336, 2, none⟩ (.int .i64 ((rd_T31 l0 x11_1).f2))).setCell ⟨gb336, 3, none⟩ (.int .i64 ((rd_T31 l0 x11_1).f3))).setCell ⟨gb336, 4, none⟩ (.int .i64 ((rd_T31 l0 x11_1).f4))).setCell ⟨gb336, 5, none⟩ (.int .i64 ((rd_T31 l0 x11_1).f5))).heap[gb336]? = some (.cells #[.int .i64 ((rd_T31 l0 x11_1).f0), .int .i64 ((rd_T31 l0 x11_1).f1), .int .i64 ((rd_T31 l0 x11_1).f2), .int .i64 ((rd_T31 l0 x11_1).f3), .int .i64 ((rd_T31 l0 x11_1).f4), .int .i64 ((rd_T31 l0 x11_1).f5)] 31 (0, 0))) := ⟨by (with_reducible repeat (first | refine blk_drewN ?_ _ | refine blk_drew ?_ | refine blk_alloc ?_ _)); refine blk_put (cs := #[.int .i64 ((rd_T31 l0 x11_1).f0), .int .i64 ((rd_T31 l0 x11_1).f1), .int .i64 ((rd_T31 l0 x11_1).f2), .int .i64 ((rd_T31 l0 x11_1).f3), .int .i64 ((rd_T31 l0 x11_1).f4), .int .i64 0]) ?_ 5 _ rfl; (with_reducible repeat (first | refine blk_drewN ?_ _ | refine blk_drew ?_ | refine blk_alloc ?_ _)); refine blk_put (cs := #[.int .i64 ((rd_T31 l0 x11_1).f0), .int .i64 ((rd_T31 l0 x11_1).f1), .int .i64 ((rd_T31 l0 x11_1).f2), .int .i64 ((rd_T31 l0 x11_1).f3), .int .i64 0, .int .i64 0]) ?_ 4 _ rfl; (with_reducible repeat (first | refine blk_drewN ?_ _ | refine blk_drew ?_ | refine blk_alloc ?_ _)); refine blk_put (cs := #[.int .i64 ((rd_T31 l0 x11_1).f0), .int .i64 ((rd_T31 l0 x11_1).f1), .int .i64 ((rd_T31 l0 x11_1).f2), .int .i64 0, .int .i64 0, .int .i64 0]) ?_ 3 _ rfl; (with_reducible repeat (first | refine blk_drewN ?_ _ | refine blk_drew ?_ | refine blk_alloc ?_ _)); refine blk_put (cs := #[.int .i64 ((rd_T31 l0 x11_1).f0), .int .i64 ((rd_T31 l0 x11_1).f1), .int .i64 0, .int .i64 0, .int .i64 0, .int .i64 0]) ?_ 2 _ rfl; (with_reducible repeat (first | refine blk_drewN ?_ _ | refine blk_drew ?_ | refine blk_alloc ?_ _)); refine blk_put (cs := #[.int .i64 ((rd_T31 l0 x11_1).f0), .int .i64 0, .int .i64 0, .int .i64 0, .int .i64 0, .int .i64 0]) ?_ 1 _ rfl; (with_reducible repeat (first | refine blk_drewN ?_ _ | refine blk_drew ?_ | refine blk_alloc ?_ _)); refine blk_put (cs := #[.int .i64 0, .int .i64 0, .int .i64 0, .int .i64 0, .int .i64 0, .int .i64 0]) ?_ 0 _ rfl; exact sB <| BK336.out⟩
      have n1_ : Aside0 (Below w.heap.size w ((((((w11.setCell ⟨gb336, 0, none⟩ (.int .i64 ((rd_T31 l0 x11_1).f0))).setCell ⟨gb336, 1, none⟩ (.int .i64 ((rd_T31 l0 x11_1).f1))).setCell ⟨gb336, 2, none⟩ (.int .i64 ((rd_T31 l0 x11_1).f2))).setCell ⟨gb336, 3, none⟩ (.int .i64 ((rd_T31 l0 x11_1).f3))).setCell ⟨gb336, 4, none⟩ (.int .i64 ((rd_T31 l0 x11_1).f4))).setCell ⟨gb336, 5, none⟩ (.int .i64 ((rd_T31 l0 x11_1).f5)))) := ⟨by exact bW⟩
      clear BK336
      clear HB
      generalize ((((((w11.setCell ⟨gb336, 0, none⟩ (.int .i64 ((rd_T31 l0 x11_1).f0))).setCell ⟨gb336, 1, none⟩ (.int .i64 ((rd_T31 l0 x11_1).f1))).setCell ⟨gb336, 2, none⟩ (.int .i64 ((rd_T31 l0 x11_1).f2))).setCell ⟨gb336, 3, none⟩ (.int .i64 ((rd_T31 l0 x11_1).f3))).setCell ⟨gb336, 4, none⟩ (.int .i64 ((rd_T31 l0 x11_1).f4))).setCell ⟨gb336, 5, none⟩ (.int .i64 ((rd_T31 l0 x11_1).f5))) = w13 at n0_ n1_ ⊢
      have BK336 := n0_
      have HB := n1_
      clear n0_ n1_
      have n0_ := am (blk_drew BK336.out)
      have n1_ := am (below_drew1 HB.out)
      clear BK336
      clear HB
      have BK336 := n0_
      have HB := n1_
      clear n0_ n1_
      have q15 : (x11_1 : Int) ≤ ((l0.length : Int) : Int) := oD (by assumption)
      obtain ⟨i015, hi015, _, hsz15, _⟩ := info_parts info31
      have hroom15 : l0.length ≤ c0 := HC0.out
      have hC15 : Kd.C k31 _ (some ad335) l0.length l0 := HR0.out
      have hcut15 := cut_to (P := Try.prog) 24 31 .i64 Try.underlying24 hi015 (some ad335) l0.length c0 x11_1 (oD (by assumption)) q15 hroom15
      have hr15 := Kd.C_take (m := (x11_1 : Int).toNat) hC15 (by omega)
      have hy15 : y337.length = (x11_1 : Int).toNat := (by rw [Ny337.out, List.length_take]; omega)
      rw [← Ny337.out] at hr15
      rw [← hy15] at hcut15
      have HR340 := am hr15
      have HC340 := am (show y337.length ≤ c0 from by omega)
      clear hr15 hC15 hroom15 hi015 hsz15
      have KY15 := am hy15
      clear hy15
      replace q15 := eq_true q15
      refine start_ (n := 6) (S := fun w' => w'.cell? ⟨gb336, 0, none⟩ = some (.int .i64 ((rd_T31 l0 x11_1).f0)) ∧ w'.cell? ⟨gb336, 1, none⟩ = some (.int .i64 ((rd_T31 l0 x11_1).f1)) ∧ w'.cell? ⟨gb336, 2, none⟩ = some (.int .i64 ((rd_T31 l0 x11_1).f2)) ∧ w'.cell? ⟨gb336, 3, none⟩ = some (.int .i64 ((rd_T31 l0 x11_1).f3)) ∧ w'.cell? ⟨gb336, 4, none⟩ = some (.int .i64 ((rd_T31 l0 x11_1).f4)) ∧ w'.cell? ⟨gb336, 5, none⟩ = some (.int .i64 ((rd_T31 l0 x11_1).f5))) (ds := []) #[false, false, false, false, false, false] (by kernel_rfl) rfl rfl ⟨(blk_cell BK336.out 0).trans rfl, (blk_cell BK336.out 1).trans rfl, (blk_cell BK336.out 2).trans rfl, (blk_cell BK336.out 3).trans rfl, (blk_cell BK336.out 4).trans rfl, (blk_cell BK336.out 5).trans rfl⟩ (fun hHeld => ?_)
      generalize w13.drew = w14 at BK336 HB HR340 hHeld ⊢
      refine pS (i := 0) (N := some 16) #[true, false, false, false, false, false] ?_
      refine pS (i := 1) (N := some 17) #[true, true, false, false, false, false] ?_
      refine pS (i := 2) (N := some 18) #[true, true, true, false, false, false] ?_
      refine take_ (i := 3) (N := some 19) (v := ?_) (a' := ?_) #[true, true, true, true, false, false] rfl rfl (by kernel_rfl) (fun _ _ _ h => h) (Or.inl ⟨by rfl, ?_⟩) hHeld ?_ ?_
      rotate_left
      ·rintro w' ⟨s0, s1, s2, s3, s4, s5⟩
       go_simp
       with_reducible rfl
      rotate_left
      ·simp only [Act.put, List.setIfInBounds_toArray, List.set_cons_zero, List.set_cons_succ, i64_w, i32_w]
       rfl
      refine one_ (i := 4) (N := some 20) #[true, true, true, true, true, false] rfl rfl (by kernel_rfl) (by decide) (fun K hK => ?_)
      refine goes_ Try.func73 (by kernel_rfl) rfl #[.slice (some ad335) y337.length c0, .agg #[.int .i64 ((rd_T31 l0 x11_1).f0), .int .i64 ((rd_T31 l0 x11_1).f1), .int .i64 ((rd_T31 l0 x11_1).f2), .int .i64 ((rd_T31 l0 x11_1).f3), .int .i64 ((rd_T31 l0 x11_1).f4), .int .i64 ((rd_T31 l0 x11_1).f5)]] (by rfl) rfl rfl tm ?_
      with_reducible refine (impl_isRight.calls _ _ _ _ _ _ _ _ _ _ _ ?side1 ?side2 A9.out).mono ?_
      (case side1 => exact sC (Kd.C_below HR340.out HB.out))
      (case side2 => exact HC340.out)
      rintro e w16 ⟨rfl, hb⟩
      refine ⟨_, rfl, ?_⟩
      have n0_ := am (blk_below (g := gb336) (o := .cells #[.int .i64 ((rd_T31 l0 x11_1).f0), .int .i64 ((rd_T31 l0 x11_1).f1), .int .i64 ((rd_T31 l0 x11_1).f2), .int .i64 ((rd_T31 l0 x11_1).f3), .int .i64 ((rd_T31 l0 x11_1).f4), .int .i64 ((rd_T31 l0 x11_1).f5)] 31 (0, 0)) (by exact sB <| BK336.out) hb)
      have n1_ := am (below_step (by exact bW) hb)
      clear BK336
      clear HB
      have BK336 := n0_
      have HB := n1_
      clear n0_ n1_
      clear hb
      refine hK.out _ _ ⟨(blk_cell BK336.out 0).trans rfl, (blk_cell BK336.out 1).trans rfl, (blk_cell BK336.out 2).trans rfl, (blk_cell BK336.out 3).trans rfl, (blk_cell BK336.out 4).trans rfl, (blk_cell BK336.out 5).trans rfl⟩ (fun hHeld => ?_)
      clear hK K
      refine norm_ (a' := ?_) ?_ ?_
      rotate_left
      ·show Act.put _ (some 20) _ = _
       simp only [Act.put, List.setIfInBounds_toArray, List.set_cons_zero, List.set_cons_succ, i64_w, i32_w]
       rfl
      refine pS (i := 5) (N := some 21) #[true, true, true, true, true, true] ?_
      refine done_ (by kernel_rfl) ?_
      try go_wp2
      go_roundg k1
      case measure => have := HK1.out; omega
      case rel => exact ⟨(wrap64 (x11_1 + 1)), (by rfl), H', ⟨by have := HK1.out; omega⟩, ⟨by exact bW⟩⟩
     ·obtain rfl := oI H
      obtain ⟨p335, q335, ad335, rfl, hx335_0, hx335_1, hx335_2, hx335_3, hx335_4, hx335_5⟩ := ix (at_T31 HR0.out x11_1)
      replace hx335_0 := pw_cell_below HB.out hx335_0
      replace hx335_1 := pw_cell_below HB.out hx335_1
      replace hx335_2 := pw_cell_below HB.out hx335_2
      replace hx335_3 := pw_cell_below HB.out hx335_3
      replace hx335_4 := pw_cell_below HB.out hx335_4
      replace hx335_5 := pw_cell_below HB.out hx335_5
      try go_wp2_with (first | ((with_reducible refine gate_dst (N := 4) rfl ?_); refine box_event ?hg (N := 4) ?hd (cs := #[.int .i64 0, .int .i64 0, .int .i64 0, .int .i64 0, .int .i64 0, .int .i64 0]) (t := 31) ?hr ?_; (case hd => rfl); (case hg => rfl); (case hr => (go_simp; done)); intro gb336 hg w17 hbox hb; have n0_ := am (below_step (by exact sW HB.out) hb); have n1_ := am (hbox); have n2_ := am ((by rw [hg]; exact (below_size (by exact sW HB.out)) : w.heap.size ≤ gb336)); have n3_ := am ((by rw [hg]; exact (below_size (by exact sW HB.out)) : w.heap.size ≤ gb336)); clear HB; have HB := n0_; have BK336 := n1_; have GW336 := n2_; have GE336 := n3_; clear n0_ n1_ n2_ n3_; clear hb hbox hg; obtain ⟨hcz18_0, hcz18_1, hcz18_2, hcz18_3, hcz18_4, hcz18_5⟩ := cz6 BK336.out; obtain ⟨hfz18_0, hfz18_1, hfz18_2, hfz18_3, hfz18_4, hfz18_5⟩ := fz6 BK336.out))
      have n0_ : Aside0 (((((((w17.setCell ⟨gb336, 0, none⟩ (.int .i64 ((rd_T31 l0 x11_1).f0))).setCell ⟨gb336, 1, none⟩ (.int .i64 ((rd_T31 l0 x11_1).f1))).setCell ⟨gb336, 2, none⟩ (.int .i64 ((rd_T31 l0 x11_1).f2))).setCell ⟨gb336, 3, none⟩ (.int .i64 ((rd_T31 l0 x11_1).f3))).setCell ⟨gb336, 4, none⟩ (.int .i64 ((rd_T31 l0 x11_1).f4))).setCell ⟨gb336, 5, none⟩ (.int .i64 ((rd_T31 l0 x11_1).f5))).heap[gb336]? = some (.cells #[.int .i64 ((rd_T31 l0 x11_1).f0), .int .i64 ((rd_T31 l0 x11_1).f1), .int .i64 ((rd_T31 l0 x11_1).f2), .int .i64 ((rd_T31 l0 x11_1).f3), .int .i64 ((rd_T31 l0 x11_1).f4), .int .i64 ((rd_T31 l0 x11_1).f5)] 31 (0, 0))) := ⟨by (with_reducible repeat (first | refine blk_drewN ?_ _ | refine blk_drew ?_ | refine blk_alloc ?_ _)); refine blk_put (cs := #[.int .i64 ((rd_T31 l0 x11_1).f0), .int .i64 ((rd_T31 l0 x11_1).f1), .int .i64 ((rd_T31 l0 x11_1).f2), .int .i64 ((rd_T31 l0 x11_1).f3), .int .i64 ((rd_T31 l0 x11_1).f4), .int .i64 0]) ?_ 5 _ rfl; (with_reducible repeat (first | refine blk_drewN ?_ _ | refine blk_drew ?_ | refine blk_alloc ?_ _)); refine blk_put (cs := #[.int .i64 ((rd_T31 l0 x11_1).f0), .int .i64 ((rd_T31 l0 x11_1).f1), .int .i64 ((rd_T31 l0 x11_1).f2), .int .i64 ((rd_T31 l0 x11_1).f3), .int .i64 0, .int .i64 0]) ?_ 4 _ rfl; (with_reducible repeat (first | refine blk_drewN ?_ _ | refine blk_drew ?_ | refine blk_alloc ?_ _)); refine blk_put (cs := #[.int .i64 ((rd_T31 l0 x11_1).f0), .int .i64 ((rd_T31 l0 x11_1).f1), .int .i64 ((rd_T31 l0 x11_1).f2), .int .i64 0, .int .i64 0, .int .i64 0]) ?_ 3 _ rfl; (with_reducible repeat (first | refine blk_drewN ?_ _ | refine blk_drew ?_ | refine blk_alloc ?_ _)); refine blk_put (cs := #[.int .i64 ((rd_T31 l0 x11_1).f0), .int .i64 ((rd_T31 l0 x11_1).f1), .int .i64 0, .int .i64 0, .int .i64 0, .int .i64 0]) ?_ 2 _ rfl; (with_reducible repeat (first | refine blk_drewN ?_ _ | refine blk_drew ?_ | refine blk_alloc ?_ _)); refine blk_put (cs := #[.int .i64 ((rd_T31 l0 x11_1).f0), .int .i64 0, .int .i64 0, .int .i64 0, .int .i64 0, .int .i64 0]) ?_ 1 _ rfl; (with_reducible repeat (first | refine blk_drewN ?_ _ | refine blk_drew ?_ | refine blk_alloc ?_ _)); refine blk_put (cs := #[.int .i64 0, .int .i64 0, .int .i64 0, .int .i64 0, .int .i64 0, .int .i64 0]) ?_ 0 _ rfl; exact sB <| BK336.out⟩
      have n1_ : Aside0 (Below w.heap.size w ((((((w17.setCell ⟨gb336, 0, none⟩ (.int .i64 ((rd_T31 l0 x11_1).f0))).setCell ⟨gb336, 1, none⟩ (.int .i64 ((rd_T31 l0 x11_1).f1))).setCell ⟨gb336, 2, none⟩ (.int .i64 ((rd_T31 l0 x11_1).f2))).setCell ⟨gb336, 3, none⟩ (.int .i64 ((rd_T31 l0 x11_1).f3))).setCell ⟨gb336, 4, none⟩ (.int .i64 ((rd_T31 l0 x11_1).f4))).setCell ⟨gb336, 5, none⟩ (.int .i64 ((rd_T31 l0 x11_1).f5)))) := ⟨by exact bW⟩
      clear BK336
      clear HB
      generalize ((((((w17.setCell ⟨gb336, 0, none⟩ (.int .i64 ((rd_T31 l0 x11_1).f0))).setCell ⟨gb336, 1, none⟩ (.int .i64 ((rd_T31 l0 x11_1).f1))).setCell ⟨gb336, 2, none⟩ (.int .i64 ((rd_T31 l0 x11_1).f2))).setCell ⟨gb336, 3, none⟩ (.int .i64 ((rd_T31 l0 x11_1).f3))).setCell ⟨gb336, 4, none⟩ (.int .i64 ((rd_T31 l0 x11_1).f4))).setCell ⟨gb336, 5, none⟩ (.int .i64 ((rd_T31 l0 x11_1).f5))) = w19 at n0_ n1_ ⊢
      have BK336 := n0_
      have HB := n1_
      clear n0_ n1_
      have n0_ := am (blk_drew BK336.out)
      have n1_ := am (below_drew1 HB.out)
      clear BK336
      clear HB
      have BK336 := n0_
      have HB := n1_
      clear n0_ n1_
      have q21 : (x11_1 : Int) ≤ ((l0.length : Int) : Int) := oD (by assumption)
      obtain ⟨i021, hi021, _, hsz21, _⟩ := info_parts info31
      have hroom21 : l0.length ≤ c0 := HC0.out
      have hC21 : Kd.C k31 _ (some ad335) l0.length l0 := HR0.out
      have hcut21 := cut_to (P := Try.prog) 24 31 .i64 Try.underlying24 hi021 (some ad335) l0.length c0 x11_1 (oD (by assumption)) q21 hroom21
      have hr21 := Kd.C_take (m := (x11_1 : Int).toNat) hC21 (by omega)
      have hy21 : y337.length = (x11_1 : Int).toNat := (by rw [Ny337.out, List.length_take]; omega)
      rw [← Ny337.out] at hr21
      rw [← hy21] at hcut21
      have HR340 := am hr21
      have HC340 := am (show y337.length ≤ c0 from by omega)
      clear hr21 hC21 hroom21 hi021 hsz21
      have KY21 := am hy21
      clear hy21
      replace q21 := eq_true q21
      refine start_ (n := 6) (S := fun w' => w'.cell? ⟨gb336, 0, none⟩ = some (.int .i64 ((rd_T31 l0 x11_1).f0)) ∧ w'.cell? ⟨gb336, 1, none⟩ = some (.int .i64 ((rd_T31 l0 x11_1).f1)) ∧ w'.cell? ⟨gb336, 2, none⟩ = some (.int .i64 ((rd_T31 l0 x11_1).f2)) ∧ w'.cell? ⟨gb336, 3, none⟩ = some (.int .i64 ((rd_T31 l0 x11_1).f3)) ∧ w'.cell? ⟨gb336, 4, none⟩ = some (.int .i64 ((rd_T31 l0 x11_1).f4)) ∧ w'.cell? ⟨gb336, 5, none⟩ = some (.int .i64 ((rd_T31 l0 x11_1).f5))) (ds := []) #[false, false, false, false, false, false] (by kernel_rfl) rfl rfl ⟨(blk_cell BK336.out 0).trans rfl, (blk_cell BK336.out 1).trans rfl, (blk_cell BK336.out 2).trans rfl, (blk_cell BK336.out 3).trans rfl, (blk_cell BK336.out 4).trans rfl, (blk_cell BK336.out 5).trans rfl⟩ (fun hHeld => ?_)
      generalize w19.drew = w20 at BK336 HB HR340 hHeld ⊢
      refine pS (i := 0) (N := some 16) #[true, false, false, false, false, false] ?_
      refine pS (i := 1) (N := some 17) #[true, true, false, false, false, false] ?_
      refine pS (i := 2) (N := some 18) #[true, true, true, false, false, false] ?_
      refine take_ (i := 3) (N := some 19) (v := ?_) (a' := ?_) #[true, true, true, true, false, false] rfl rfl (by kernel_rfl) (fun _ _ _ h => h) (Or.inl ⟨by rfl, ?_⟩) hHeld ?_ ?_
      rotate_left
      ·rintro w' ⟨s0, s1, s2, s3, s4, s5⟩
       go_simp
       with_reducible rfl
      rotate_left
      ·simp only [Act.put, List.setIfInBounds_toArray, List.set_cons_zero, List.set_cons_succ, i64_w, i32_w]
       rfl
      refine one_ (i := 4) (N := some 20) #[true, true, true, true, true, false] rfl rfl (by kernel_rfl) (by decide) (fun K hK => ?_)
      refine goes_ Try.func73 (by kernel_rfl) rfl #[.slice (some ad335) y337.length c0, .agg #[.int .i64 ((rd_T31 l0 x11_1).f0), .int .i64 ((rd_T31 l0 x11_1).f1), .int .i64 ((rd_T31 l0 x11_1).f2), .int .i64 ((rd_T31 l0 x11_1).f3), .int .i64 ((rd_T31 l0 x11_1).f4), .int .i64 ((rd_T31 l0 x11_1).f5)]] (by rfl) rfl rfl tm ?_
      with_reducible refine (impl_isRight.calls _ _ _ _ _ _ _ _ _ _ _ ?side1 ?side2 A9.out).mono ?_
      (case side1 => exact sC (Kd.C_below HR340.out HB.out))
      (case side2 => exact HC340.out)
      rintro e w22 ⟨rfl, hb⟩
      refine ⟨_, rfl, ?_⟩
      have n0_ := am (blk_below (g := gb336) (o := .cells #[.int .i64 ((rd_T31 l0 x11_1).f0), .int .i64 ((rd_T31 l0 x11_1).f1), .int .i64 ((rd_T31 l0 x11_1).f2), .int .i64 ((rd_T31 l0 x11_1).f3), .int .i64 ((rd_T31 l0 x11_1).f4), .int .i64 ((rd_T31 l0 x11_1).f5)] 31 (0, 0)) (by exact sB <| BK336.out) hb)
      have n1_ := am (below_step (by exact bW) hb)
      clear BK336
      clear HB
      have BK336 := n0_
      have HB := n1_
      clear n0_ n1_
      clear hb
      refine hK.out _ _ ⟨(blk_cell BK336.out 0).trans rfl, (blk_cell BK336.out 1).trans rfl, (blk_cell BK336.out 2).trans rfl, (blk_cell BK336.out 3).trans rfl, (blk_cell BK336.out 4).trans rfl, (blk_cell BK336.out 5).trans rfl⟩ (fun hHeld => ?_)
      clear hK K
      refine norm_ (a' := ?_) ?_ ?_
      rotate_left
      ·show Act.put _ (some 20) _ = _
       simp only [Act.put, List.setIfInBounds_toArray, List.set_cons_zero, List.set_cons_succ, i64_w, i32_w]
       rfl
      refine pS (i := 5) (N := some 21) #[true, true, true, true, true, true] ?_
      refine done_ (by kernel_rfl) ?_
      try go_wp2
      go_ret
      exact ⟨by rfl, by exact bW⟩
    ·obtain rfl := oI H
     go_wp2
     go_ret
     exact ⟨by rfl, by exact sW HB.out⟩
 ·obtain rfl := oI H
  go_enter Try.func44, Try.ntmps44
  go_wp2_with (first | ((with_reducible refine gate_callee (f := 72) rfl ?_); refine goesL_ (some 7) rfl rfl Try.func72 (by kernel_rfl) rfl #[.int .i64 (l0.length : Int), .int .i64 1, .int .i64 80] rfl tm ?_; refine cD (impl_within.calls _ _ _ _ _ A2.out) fun nd => ?_; refine ⟨_, rfl, ?_⟩))
  go_ret
  exact ⟨by rfl, by exact sW HB.out⟩
/-! ### impl_digits: function 121 -/
def impl_digits.l0 : Nat → Int → ByteArray → Option (ByteArray)
 | 0, _, _ => none
 | k + 1, x0, x3 => if x3.toList = ([] : List UInt8) then ((some (([(IntKind.u64.wrap (48 + (Int.tmod x0 10))) % 256] : List Int) : List Int)).bind fun y342 => (if (strOfNums y342).size + x3.size ≤ 9223372036854775807 then (impl_digits.l0 k (IntKind.u64.wrap (Int.tdiv x0 10)) ((strOfNums y342) ++ x3)) else (none))) else (if x0 > 0 then ((some (([(IntKind.u64.wrap (48 + (Int.tmod x0 10))) % 256] : List Int) : List Int)).bind fun y345 => (if (strOfNums y345).size + x3.size ≤ 9223372036854775807 then (impl_digits.l0 k (IntKind.u64.wrap (Int.tdiv x0 10)) ((strOfNums y345) ++ x3)) else (none))) else (some x3))
def impl_digits.f (k : Nat) (a0 : Int) : Option (ByteArray) := impl_digits.l0 k a0 (⟨#[]⟩ : ByteArray)
set_option maxHeartbeats 8000000 in
set_option maxRecDepth 100000 in
theorem impl_digits.calls (k : Nat) (a0 : Int) (r : ByteArray) (w : World) (h : impl_digits.f k a0 = some r) :
  Calls Try.prog 121 #[.int .u64 a0] w fun e w' => e = .returned (.string r) ∧ Below w.heap.size w w' := by
 have HB := am (Below.refl w.heap.size w)
 have H : (impl_digits.l0 k a0 (⟨#[]⟩ : ByteArray)) = some r := h
 clear h
 have H' := am H
 clear H
 go_enter Try.func121, Try.ntmps121
 go_wp2
 go_loopg [0, 3] k (fun kq v0 v3 w' => ∃ (x0_1 : Int) (x3_1 : ByteArray), v0 = .int .u64 x0_1 ∧ v3 = .string x3_1 ∧ Aside0 (impl_digits.l0 kq x0_1 x3_1 = some r) ∧ Aside0 (kq ≤ k) ∧ Aside0 (Below w.heap.size w w'))
 case atStart => exact ⟨(a0), ((⟨#[]⟩ : ByteArray)), (by rfl), (by rfl), H', ⟨Nat.le_refl _⟩, ⟨by exact sW HB.out⟩⟩
 case round =>
  clear H'
  obtain ⟨x0_1, x3_1, rfl, rfl, HA, HK1, HB⟩ := hrel
  cases gk with
  | zero => exact absurd HA.out (by simp [impl_digits.l0])
  | succ k1 =>
   have H := HA.out
   clear HA
   simp only [impl_digits.l0] at H
   replace H := iE H; rcases H with ⟨c2b0, c2b1, H⟩ | ⟨c2b0, c2b1, H⟩
   ·obtain ⟨y342, hy342⟩ : ∃ y_ : List Int, y_ = (([(IntKind.u64.wrap (48 + (Int.tmod x0_1 10))) % 256] : List Int)) := ⟨_, rfl⟩
    replace H : (if (strOfNums y342).size + x3_1.size ≤ 9223372036854775807 then (impl_digits.l0 k1 (IntKind.u64.wrap (Int.tdiv x0_1 10)) ((strOfNums y342) ++ x3_1)) else (none)) = some r := by (have H2_ := (Option.bind_some _ _).symm.trans H; rw [hy342]; with_reducible exact H2_)
    have Ny342 := am hy342
    clear hy342
    replace H := iP H; obtain ⟨c3, H⟩ := H
    have c3b0 := eq_true c3
    have c3b1 : decide ((strOfNums y342).size + x3_1.size ≤ 9223372036854775807) = true := decide_eq_true c3
    try have c3b2 : (9223372036854775807 < (strOfNums y342).size + x3_1.size) = False := eq_false (Nat.not_lt.2 c3)
    have H' := am H
    clear H
    go_wp2_with (first | ((with_reducible refine gate_dst (N := 16) rfl ?_); refine Kd.R_lit (Kd.int .u8) _ 5 ?hg (N := 16) ?hd (xs := ([(IntKind.u64.wrap (48 + (Int.tmod x0_1 10))) % 256] : List Int)) (inner := [.int .u8 ((IntKind.u64.wrap (48 + (Int.tmod x0_1 10))) % 256)]) (ok := fun _ => True) (okp := fun _ => True) ?hr ?hp (fun _ hk => hk) trivial (Below.refl _ _) (Nat.le_refl _) (by simp) ?_; (case hd => rfl); (case hg => rfl); (case hr => (go_simp; done)); (case hp => exact (Reps.one (show Kd.M (Kd.int .u8) _ _ _ ((IntKind.u64.wrap (48 + (Int.tmod x0_1 10))) % 256) [.int .u8 ((IntKind.u64.wrap (48 + (Int.tmod x0_1 10))) % 256)] from rfl) (Reps.none _ _))); intro v343 w4 ho5 hb hg_ hnew_; clear hg_ hnew_; (rw [← Ny342.out] at ho5); have n0_ := am (Kd.R_lower ho5 (below_size (by exact sW HB.out))); have n1_ := am (below_step (by exact sW HB.out) hb); clear HB; have HO344 := n0_; have HB := n1_; clear n0_ n1_; clear hb ho5; have hcv6 := own_string (P := Try.prog) Try.underlying22 Try.underlying5 Try.underlying9 (Kd.own_of_R HO344.out)))
    go_roundg k1
    case measure => have := HK1.out; omega
    case rel => exact ⟨(IntKind.u64.wrap (Int.tdiv x0_1 10)), ((strOfNums y342) ++ x3_1), (by rfl), (by rfl), H', ⟨by have := HK1.out; omega⟩, ⟨by exact sW HB.out⟩⟩
   ·by_cases c7 : x0_1 > 0
    ·rw [if_pos c7] at H
     have c7b0 : decide (0 < x0_1) = true := decide_eq_true c7
     clear c7
     obtain ⟨y345, hy345⟩ : ∃ y_ : List Int, y_ = (([(IntKind.u64.wrap (48 + (Int.tmod x0_1 10))) % 256] : List Int)) := ⟨_, rfl⟩
     replace H : (if (strOfNums y345).size + x3_1.size ≤ 9223372036854775807 then (impl_digits.l0 k1 (IntKind.u64.wrap (Int.tdiv x0_1 10)) ((strOfNums y345) ++ x3_1)) else (none)) = some r := by (have H2_ := (Option.bind_some _ _).symm.trans H; rw [hy345]; with_reducible exact H2_)
     have Ny345 := am hy345
     clear hy345
     replace H := iP H; obtain ⟨c8, H⟩ := H
     have c8b0 := eq_true c8
     have c8b1 : decide ((strOfNums y345).size + x3_1.size ≤ 9223372036854775807) = true := decide_eq_true c8
     try have c8b2 : (9223372036854775807 < (strOfNums y345).size + x3_1.size) = False := eq_false (Nat.not_lt.2 c8)
     have H' := am H
     clear H
     go_wp2_with (first | ((with_reducible refine gate_dst (N := 16) rfl ?_); refine Kd.R_lit (Kd.int .u8) _ 5 ?hg (N := 16) ?hd (xs := ([(IntKind.u64.wrap (48 + (Int.tmod x0_1 10))) % 256] : List Int)) (inner := [.int .u8 ((IntKind.u64.wrap (48 + (Int.tmod x0_1 10))) % 256)]) (ok := fun _ => True) (okp := fun _ => True) ?hr ?hp (fun _ hk => hk) trivial (Below.refl _ _) (Nat.le_refl _) (by simp) ?_; (case hd => rfl); (case hg => rfl); (case hr => (go_simp; done)); (case hp => exact (Reps.one (show Kd.M (Kd.int .u8) _ _ _ ((IntKind.u64.wrap (48 + (Int.tmod x0_1 10))) % 256) [.int .u8 ((IntKind.u64.wrap (48 + (Int.tmod x0_1 10))) % 256)] from rfl) (Reps.none _ _))); intro v346 w9 ho10 hb hg_ hnew_; clear hg_ hnew_; (rw [← Ny345.out] at ho10); have n0_ := am (Kd.R_lower ho10 (below_size (by exact sW HB.out))); have n1_ := am (below_step (by exact sW HB.out) hb); clear HB; have HO347 := n0_; have HB := n1_; clear n0_ n1_; clear hb ho10; have hcv11 := own_string (P := Try.prog) Try.underlying22 Try.underlying5 Try.underlying9 (Kd.own_of_R HO347.out)))
     go_roundg k1
     case measure => have := HK1.out; omega
     case rel => exact ⟨(IntKind.u64.wrap (Int.tdiv x0_1 10)), ((strOfNums y345) ++ x3_1), (by rfl), (by rfl), H', ⟨by have := HK1.out; omega⟩, ⟨by exact sW HB.out⟩⟩
    ·rw [if_neg c7] at H
     have c7b0 : decide (0 < x0_1) = false := decide_eq_false c7
     clear c7
     obtain rfl := oI H
     go_wp2
     go_ret
     exact ⟨by rfl, by exact sW HB.out⟩
/-! ### impl_decimal: function 86 -/
def impl_decimal.f (k : Nat) (a0 : Int) : Option (ByteArray) := if a0 < 0 then ((impl_digits.f k (IntKind.u64.wrap ((IntKind.u64.wrap (wrap64 (-(wrap64 (a0 + 1))))) + 1))).bind fun t348 => (if 1 + t348.size ≤ 9223372036854775807 then (some ((⟨#[45]⟩ : ByteArray) ++ t348)) else (none))) else ((impl_digits.f k (IntKind.u64.wrap (a0))).bind fun t349 => (some t349))
set_option maxHeartbeats 8000000 in
set_option maxRecDepth 100000 in
theorem impl_decimal.calls (k : Nat) (a0 : Int) (r : ByteArray) (w : World) (h : impl_decimal.f k a0 = some r) :
  Calls Try.prog 86 #[.int .i64 a0] w fun e w' => e = .returned (.string r) ∧ Below w.heap.size w w' := by
 have HB := am (Below.refl w.heap.size w)
 have H : (if a0 < 0 then ((impl_digits.f k (IntKind.u64.wrap ((IntKind.u64.wrap (wrap64 (-(wrap64 (a0 + 1))))) + 1))).bind fun t348 => (if 1 + t348.size ≤ 9223372036854775807 then (some ((⟨#[45]⟩ : ByteArray) ++ t348)) else (none))) else ((impl_digits.f k (IntKind.u64.wrap (a0))).bind fun t349 => (some t349))) = some r := h
 clear h
 replace H := iD H; rcases H with ⟨c2b0, H⟩ | ⟨c2b0, H⟩
 ·replace H := oA H; obtain ⟨t348, A3, H⟩ := H
  replace H := iP H; obtain ⟨c4, H⟩ := H
  have c4b0 := eq_true c4
  have c4b1 : decide (1 + t348.size ≤ 9223372036854775807) = true := decide_eq_true c4
  try have c4b2 : (9223372036854775807 < 1 + t348.size) = False := eq_false (Nat.not_lt.2 c4)
  obtain rfl := oI H
  go_enter Try.func86, Try.ntmps86
  go_wp2_with (first | ((with_reducible refine gate_callee (f := 121) rfl ?_); refine goesL_ (some 10) rfl rfl Try.func121 (by kernel_rfl) rfl #[.int .u64 (IntKind.u64.wrap ((IntKind.u64.wrap (wrap64 (-(wrap64 (a0 + 1))))) + 1))] rfl tm ?_; (with_reducible refine (impl_digits.calls k (IntKind.u64.wrap ((IntKind.u64.wrap (wrap64 (-(wrap64 (a0 + 1))))) + 1)) t348 _ A3.out).mono ?_); rintro e w5 ⟨rfl, hb⟩; refine ⟨_, rfl, ?_⟩; have n0_ := am (below_step (by exact sW HB.out) hb); clear HB; have HB := n0_; clear n0_; (try clear hb); (try clear hb2); (try clear hk); (try clear hi)))
  go_ret
  exact ⟨by rfl, by exact sW HB.out⟩
 ·replace H := oA H; obtain ⟨t349, A6, H⟩ := H
  obtain rfl := oI H
  go_enter Try.func86, Try.ntmps86
  go_wp2_with (first | ((with_reducible refine gate_callee (f := 121) rfl ?_); refine goesL_ (some 14) rfl rfl Try.func121 (by kernel_rfl) rfl #[.int .u64 (IntKind.u64.wrap (a0))] rfl tm ?_; (with_reducible refine (impl_digits.calls _ _ _ _ A6.out).mono ?_); rintro e w7 ⟨rfl, hb⟩; refine ⟨_, rfl, ?_⟩; have n0_ := am (below_step (by exact sW HB.out) hb); clear HB; have HB := n0_; clear n0_; (try clear hb); (try clear hb2); (try clear hk); (try clear hi)))
  go_ret
  exact ⟨by rfl, by exact sW HB.out⟩
/-! ### impl_opWord: function 87 -/
def impl_opWord.f (a0 : Int) : Option (ByteArray) := (some (([(⟨#[97, 110, 100]⟩ : ByteArray), (⟨#[111, 114]⟩ : ByteArray), (⟨#[120, 111, 114]⟩ : ByteArray), (⟨#[97, 100, 100]⟩ : ByteArray), (⟨#[115, 117, 98]⟩ : ByteArray), (⟨#[109, 117, 108]⟩ : ByteArray), (⟨#[100, 105, 118]⟩ : ByteArray), (⟨#[114, 101, 109]⟩ : ByteArray), (⟨#[115, 104, 108]⟩ : ByteArray), (⟨#[115, 104, 114]⟩ : ByteArray), (⟨#[61]⟩ : ByteArray), (⟨#[60]⟩ : ByteArray), (⟨#[115, 60]⟩ : ByteArray), (⟨#[106, 111, 105, 110]⟩ : ByteArray)] : List ByteArray) : List ByteArray)).bind fun y350 => ((impl_within.f a0 3 16).bind fun t353 => (if t353 = true then (if 0 ≤ (wrap64 (a0 - 3)) then (if (wrap64 (a0 - 3)) < (y350.length : Int) then (some (rdOf ByteArray.empty y350 (wrap64 (a0 - 3)))) else (none)) else (none)) else (some (⟨#[]⟩ : ByteArray))))
set_option maxHeartbeats 8000000 in
set_option maxRecDepth 100000 in
theorem impl_opWord.calls (a0 : Int) (r : ByteArray) (w : World) (h : impl_opWord.f a0 = some r) :
  Calls Try.prog 87 #[.int .i64 a0] w fun e w' => e = .returned (.string r) ∧ Below w.heap.size w w' := by
 have HB := am (Below.refl w.heap.size w)
 have H : ((some (([(⟨#[97, 110, 100]⟩ : ByteArray), (⟨#[111, 114]⟩ : ByteArray), (⟨#[120, 111, 114]⟩ : ByteArray), (⟨#[97, 100, 100]⟩ : ByteArray), (⟨#[115, 117, 98]⟩ : ByteArray), (⟨#[109, 117, 108]⟩ : ByteArray), (⟨#[100, 105, 118]⟩ : ByteArray), (⟨#[114, 101, 109]⟩ : ByteArray), (⟨#[115, 104, 108]⟩ : ByteArray), (⟨#[115, 104, 114]⟩ : ByteArray), (⟨#[61]⟩ : ByteArray), (⟨#[60]⟩ : ByteArray), (⟨#[115, 60]⟩ : ByteArray), (⟨#[106, 111, 105, 110]⟩ : ByteArray)] : List ByteArray) : List ByteArray)).bind fun y350 => ((impl_within.f a0 3 16).bind fun t353 => (if t353 = true then (if 0 ≤ (wrap64 (a0 - 3)) then (if (wrap64 (a0 - 3)) < (y350.length : Int) then (some (rdOf ByteArray.empty y350 (wrap64 (a0 - 3)))) else (none)) else (none)) else (some (⟨#[]⟩ : ByteArray))))) = some r := h
 clear h
 obtain ⟨y350, hy350⟩ : ∃ y_ : List ByteArray, y_ = (([(⟨#[97, 110, 100]⟩ : ByteArray), (⟨#[111, 114]⟩ : ByteArray), (⟨#[120, 111, 114]⟩ : ByteArray), (⟨#[97, 100, 100]⟩ : ByteArray), (⟨#[115, 117, 98]⟩ : ByteArray), (⟨#[109, 117, 108]⟩ : ByteArray), (⟨#[100, 105, 118]⟩ : ByteArray), (⟨#[114, 101, 109]⟩ : ByteArray), (⟨#[115, 104, 108]⟩ : ByteArray), (⟨#[115, 104, 114]⟩ : ByteArray), (⟨#[61]⟩ : ByteArray), (⟨#[60]⟩ : ByteArray), (⟨#[115, 60]⟩ : ByteArray), (⟨#[106, 111, 105, 110]⟩ : ByteArray)] : List ByteArray)) := ⟨_, rfl⟩
 replace H : ((impl_within.f a0 3 16).bind fun t353 => (if t353 = true then (if 0 ≤ (wrap64 (a0 - 3)) then (if (wrap64 (a0 - 3)) < (y350.length : Int) then (some (rdOf ByteArray.empty y350 (wrap64 (a0 - 3)))) else (none)) else (none)) else (some (⟨#[]⟩ : ByteArray)))) = some r := by (have H2_ := (Option.bind_some _ _).symm.trans H; rw [hy350]; with_reducible exact H2_)
 have Ny350 := am hy350
 clear hy350
 replace H := oA H; obtain ⟨t353, A2, H⟩ := H
 replace H := iB H; rcases H with ⟨rfl, H⟩ | ⟨rfl, H⟩
 ·obtain ⟨ji4, hji4⟩ : ∃ j_ : Int, (wrap64 (a0 - 3)) = j_ := ⟨_, rfl⟩
  replace H : (if 0 ≤ (ji4) then (if (ji4) < (y350.length : Int) then (some (rdOf ByteArray.empty y350 (ji4))) else (none)) else (none)) = some r := by (rw [hji4] at H; exact H)
  (try rw [hji4] at A2)
  have hji4w : (IntKind.i64.wrap (a0 - 3)) = ji4 := (i64_w _).trans hji4
  replace H := iN H; obtain ⟨c5b0, H⟩ := H
  replace H := iN H; obtain ⟨c6b0, H⟩ := H
  obtain rfl := oI H
  go_enter Try.func87, Try.ntmps87
  go_wp2_with (first | ((with_reducible refine gate_dst (N := 4) rfl ?_); refine Kd.R_lit Kd.string _ 9 ?hg (N := 4) ?hd (xs := ([(⟨#[97, 110, 100]⟩ : ByteArray), (⟨#[111, 114]⟩ : ByteArray), (⟨#[120, 111, 114]⟩ : ByteArray), (⟨#[97, 100, 100]⟩ : ByteArray), (⟨#[115, 117, 98]⟩ : ByteArray), (⟨#[109, 117, 108]⟩ : ByteArray), (⟨#[100, 105, 118]⟩ : ByteArray), (⟨#[114, 101, 109]⟩ : ByteArray), (⟨#[115, 104, 108]⟩ : ByteArray), (⟨#[115, 104, 114]⟩ : ByteArray), (⟨#[61]⟩ : ByteArray), (⟨#[60]⟩ : ByteArray), (⟨#[115, 60]⟩ : ByteArray), (⟨#[106, 111, 105, 110]⟩ : ByteArray)] : List ByteArray)) (inner := [.string (⟨#[97, 110, 100]⟩ : ByteArray), .string (⟨#[111, 114]⟩ : ByteArray), .string (⟨#[120, 111, 114]⟩ : ByteArray), .string (⟨#[97, 100, 100]⟩ : ByteArray), .string (⟨#[115, 117, 98]⟩ : ByteArray), .string (⟨#[109, 117, 108]⟩ : ByteArray), .string (⟨#[100, 105, 118]⟩ : ByteArray), .string (⟨#[114, 101, 109]⟩ : ByteArray), .string (⟨#[115, 104, 108]⟩ : ByteArray), .string (⟨#[115, 104, 114]⟩ : ByteArray), .string (⟨#[61]⟩ : ByteArray), .string (⟨#[60]⟩ : ByteArray), .string (⟨#[115, 60]⟩ : ByteArray), .string (⟨#[106, 111, 105, 110]⟩ : ByteArray)]) (ok := fun _ => True) (okp := fun _ => True) ?hr ?hp (fun _ hk => hk) trivial (Below.refl _ _) (Nat.le_refl _) (by simp) ?_; (case hd => rfl); (case hg => rfl); (case hr => (go_simp; done)); (case hp => exact (Reps.one (show Kd.M Kd.string _ _ _ (⟨#[97, 110, 100]⟩ : ByteArray) [.string (⟨#[97, 110, 100]⟩ : ByteArray)] from rfl) (Reps.one (show Kd.M Kd.string _ _ _ (⟨#[111, 114]⟩ : ByteArray) [.string (⟨#[111, 114]⟩ : ByteArray)] from rfl) (Reps.one (show Kd.M Kd.string _ _ _ (⟨#[120, 111, 114]⟩ : ByteArray) [.string (⟨#[120, 111, 114]⟩ : ByteArray)] from rfl) (Reps.one (show Kd.M Kd.string _ _ _ (⟨#[97, 100, 100]⟩ : ByteArray) [.string (⟨#[97, 100, 100]⟩ : ByteArray)] from rfl) (Reps.one (show Kd.M Kd.string _ _ _ (⟨#[115, 117, 98]⟩ : ByteArray) [.string (⟨#[115, 117, 98]⟩ : ByteArray)] from rfl) (Reps.one (show Kd.M Kd.string _ _ _ (⟨#[109, 117, 108]⟩ : ByteArray) [.string (⟨#[109, 117, 108]⟩ : ByteArray)] from rfl) (Reps.one (show Kd.M Kd.string _ _ _ (⟨#[100, 105, 118]⟩ : ByteArray) [.string (⟨#[100, 105, 118]⟩ : ByteArray)] from rfl) (Reps.one (show Kd.M Kd.string _ _ _ (⟨#[114, 101, 109]⟩ : ByteArray) [.string (⟨#[114, 101, 109]⟩ : ByteArray)] from rfl) (Reps.one (show Kd.M Kd.string _ _ _ (⟨#[115, 104, 108]⟩ : ByteArray) [.string (⟨#[115, 104, 108]⟩ : ByteArray)] from rfl) (Reps.one (show Kd.M Kd.string _ _ _ (⟨#[115, 104, 114]⟩ : ByteArray) [.string (⟨#[115, 104, 114]⟩ : ByteArray)] from rfl) (Reps.one (show Kd.M Kd.string _ _ _ (⟨#[61]⟩ : ByteArray) [.string (⟨#[61]⟩ : ByteArray)] from rfl) (Reps.one (show Kd.M Kd.string _ _ _ (⟨#[60]⟩ : ByteArray) [.string (⟨#[60]⟩ : ByteArray)] from rfl) (Reps.one (show Kd.M Kd.string _ _ _ (⟨#[115, 60]⟩ : ByteArray) [.string (⟨#[115, 60]⟩ : ByteArray)] from rfl) (Reps.one (show Kd.M Kd.string _ _ _ (⟨#[106, 111, 105, 110]⟩ : ByteArray) [.string (⟨#[106, 111, 105, 110]⟩ : ByteArray)] from rfl) (Reps.none _ _)))))))))))))))); intro v351 w7 ho8 hb hg_ hnew_; clear hg_ hnew_; (rw [← Ny350.out] at ho8); have n0_ := am (Kd.R_lower ho8 (below_size (by exact sW HB.out))); have n1_ := am (below_step (by exact sW HB.out) hb); clear HB; have HO352 := n0_; have HB := n1_; clear n0_ n1_; clear hb ho8) | ((with_reducible refine gate_callee (f := 72) rfl ?_); refine goesL_ (some 6) rfl rfl Try.func72 (by kernel_rfl) rfl #[.int .i64 a0, .int .i64 3, .int .i64 16] rfl tm ?_; refine cD (impl_within.calls _ _ _ _ _ A2.out) fun nd => ?_; refine ⟨_, rfl, ?_⟩; obtain ⟨Ao9, co9, eo9⟩ := Kd.R_slice HO352.out; subst eo9; have p354 : 0 ≤ ((ji4) : Int) := oD (by assumption); have q354 : (ji4) < (y350.length : Int) := oD (by assumption); obtain ⟨ad354, e354, hx354_0⟩ := Kd.at_string (Kd.R_reads' HO352.out).2.2 (ji4) p354 q354; cases e354; replace p354 := eq_true p354; replace q354 := eq_true q354))
  go_ret
  exact ⟨by rfl, by exact sW HB.out⟩
 ·obtain rfl := oI H
  go_enter Try.func87, Try.ntmps87
  go_wp2_with (first | ((with_reducible refine gate_dst (N := 4) rfl ?_); refine Kd.R_lit Kd.string _ 9 ?hg (N := 4) ?hd (xs := ([(⟨#[97, 110, 100]⟩ : ByteArray), (⟨#[111, 114]⟩ : ByteArray), (⟨#[120, 111, 114]⟩ : ByteArray), (⟨#[97, 100, 100]⟩ : ByteArray), (⟨#[115, 117, 98]⟩ : ByteArray), (⟨#[109, 117, 108]⟩ : ByteArray), (⟨#[100, 105, 118]⟩ : ByteArray), (⟨#[114, 101, 109]⟩ : ByteArray), (⟨#[115, 104, 108]⟩ : ByteArray), (⟨#[115, 104, 114]⟩ : ByteArray), (⟨#[61]⟩ : ByteArray), (⟨#[60]⟩ : ByteArray), (⟨#[115, 60]⟩ : ByteArray), (⟨#[106, 111, 105, 110]⟩ : ByteArray)] : List ByteArray)) (inner := [.string (⟨#[97, 110, 100]⟩ : ByteArray), .string (⟨#[111, 114]⟩ : ByteArray), .string (⟨#[120, 111, 114]⟩ : ByteArray), .string (⟨#[97, 100, 100]⟩ : ByteArray), .string (⟨#[115, 117, 98]⟩ : ByteArray), .string (⟨#[109, 117, 108]⟩ : ByteArray), .string (⟨#[100, 105, 118]⟩ : ByteArray), .string (⟨#[114, 101, 109]⟩ : ByteArray), .string (⟨#[115, 104, 108]⟩ : ByteArray), .string (⟨#[115, 104, 114]⟩ : ByteArray), .string (⟨#[61]⟩ : ByteArray), .string (⟨#[60]⟩ : ByteArray), .string (⟨#[115, 60]⟩ : ByteArray), .string (⟨#[106, 111, 105, 110]⟩ : ByteArray)]) (ok := fun _ => True) (okp := fun _ => True) ?hr ?hp (fun _ hk => hk) trivial (Below.refl _ _) (Nat.le_refl _) (by simp) ?_; (case hd => rfl); (case hg => rfl); (case hr => (go_simp; done)); (case hp => exact (Reps.one (show Kd.M Kd.string _ _ _ (⟨#[97, 110, 100]⟩ : ByteArray) [.string (⟨#[97, 110, 100]⟩ : ByteArray)] from rfl) (Reps.one (show Kd.M Kd.string _ _ _ (⟨#[111, 114]⟩ : ByteArray) [.string (⟨#[111, 114]⟩ : ByteArray)] from rfl) (Reps.one (show Kd.M Kd.string _ _ _ (⟨#[120, 111, 114]⟩ : ByteArray) [.string (⟨#[120, 111, 114]⟩ : ByteArray)] from rfl) (Reps.one (show Kd.M Kd.string _ _ _ (⟨#[97, 100, 100]⟩ : ByteArray) [.string (⟨#[97, 100, 100]⟩ : ByteArray)] from rfl) (Reps.one (show Kd.M Kd.string _ _ _ (⟨#[115, 117, 98]⟩ : ByteArray) [.string (⟨#[115, 117, 98]⟩ : ByteArray)] from rfl) (Reps.one (show Kd.M Kd.string _ _ _ (⟨#[109, 117, 108]⟩ : ByteArray) [.string (⟨#[109, 117, 108]⟩ : ByteArray)] from rfl) (Reps.one (show Kd.M Kd.string _ _ _ (⟨#[100, 105, 118]⟩ : ByteArray) [.string (⟨#[100, 105, 118]⟩ : ByteArray)] from rfl) (Reps.one (show Kd.M Kd.string _ _ _ (⟨#[114, 101, 109]⟩ : ByteArray) [.string (⟨#[114, 101, 109]⟩ : ByteArray)] from rfl) (Reps.one (show Kd.M Kd.string _ _ _ (⟨#[115, 104, 108]⟩ : ByteArray) [.string (⟨#[115, 104, 108]⟩ : ByteArray)] from rfl) (Reps.one (show Kd.M Kd.string _ _ _ (⟨#[115, 104, 114]⟩ : ByteArray) [.string (⟨#[115, 104, 114]⟩ : ByteArray)] from rfl) (Reps.one (show Kd.M Kd.string _ _ _ (⟨#[61]⟩ : ByteArray) [.string (⟨#[61]⟩ : ByteArray)] from rfl) (Reps.one (show Kd.M Kd.string _ _ _ (⟨#[60]⟩ : ByteArray) [.string (⟨#[60]⟩ : ByteArray)] from rfl) (Reps.one (show Kd.M Kd.string _ _ _ (⟨#[115, 60]⟩ : ByteArray) [.string (⟨#[115, 60]⟩ : ByteArray)] from rfl) (Reps.one (show Kd.M Kd.string _ _ _ (⟨#[106, 111, 105, 110]⟩ : ByteArray) [.string (⟨#[106, 111, 105, 110]⟩ : ByteArray)] from rfl) (Reps.none _ _)))))))))))))))); intro v351 w10 ho11 hb hg_ hnew_; clear hg_ hnew_; (rw [← Ny350.out] at ho11); have n0_ := am (Kd.R_lower ho11 (below_size (by exact sW HB.out))); have n1_ := am (below_step (by exact sW HB.out) hb); clear HB; have HO352 := n0_; have HB := n1_; clear n0_ n1_; clear hb ho11) | ((with_reducible refine gate_callee (f := 72) rfl ?_); refine goesL_ (some 6) rfl rfl Try.func72 (by kernel_rfl) rfl #[.int .i64 a0, .int .i64 3, .int .i64 16] rfl tm ?_; refine cD (impl_within.calls _ _ _ _ _ A2.out) fun nd => ?_; refine ⟨_, rfl, ?_⟩))
  go_ret
  exact ⟨by rfl, by exact sW HB.out⟩
end Go.Proofs.Ytkpipmojkhikaaa.PAll
