/- Written by a program of this session over the loaded program, and by hand: Go functions as plain Lean functions, and that a call comes to what they say. -/
import Derived.Test.YtkpipmojkhikaaaVExactCanon0
import Derived.Test.YtkpipmojkhikaaaVExactCanon2
import Derived.Test.YtkpipmojkhikaaaBase
import Derived.Test.YtkpipmojkhikaaaSq
namespace Go.Proofs.Ytkpipmojkhikaaa.PAll
open Go.RowKit Go.Proofs.YtkpipmojkhikaaaW.PrintWords Go.Proofs.YtkpipmojkhikaaaW.PrintLast Go.Proofs.YtkpipmojkhikaaaW.PrintMore Go.Proofs.YtkpipmojkhikaaaW.Sq
attribute [local go_sem] max2_int min2_int max_two min_two max_three min_three max_four min_four   -- for this text's walks alone
set_option linter.unusedVariables false
set_option linter.unusedSimpArgs false

/-! ### spec_l02Node: function 43 -/
mutual
def spec_l02Node.l0 : Nat → List (S31) → Int → List Int → Int → Int → Int → Int → Int → Int → Int → Option (Bool)
 | 0, _, _, _, _, _, _, _, _, _, _ => none
 | k + 1, x0, x1, x6, x7, x139000, x139001, x139002, x139003, x139004, x139005 => if x7 < (x6.length : Int) then (if 0 ≤ x7 then ((spec_l01In.f (rd x6 x7) 0 (wrap64 (x1 - 1))).bind fun t143 => (if t143 = true then (spec_l02Node.l0 k x0 x1 x6 (wrap64 (x7 + 1)) x139000 x139001 x139002 x139003 x139004 x139005) else (some false))) else (none)) else ((spec_l01In.f x139001 1 8).bind fun t144 => (if t144 = true then (spec_l02Node.l1 k x0 x6 (([] : List Int)) 0 x139000 x139001 x139002 x139003 x139004 x139005) else (some false)))
def spec_l02Node.l1 : Nat → List (S31) → List Int → List Int → Int → Int → Int → Int → Int → Int → Int → Option (Bool)
 | 0, _, _, _, _, _, _, _, _, _, _ => none
 | k + 1, x0, x6, x8, x9, x139000, x139001, x139002, x139003, x139004, x139005 => if x9 < (x6.length : Int) then (if 0 ≤ x9 then (if 0 ≤ (rd x6 x9) then (if (rd x6 x9) < (x0.length : Int) then (if x8.length < 17592186044416 then (spec_l02Node.l1 k x0 x6 (x8 ++ [(rd_T31 x0 (rd x6 x9)).f1]) (wrap64 (x9 + 1)) x139000 x139001 x139002 x139003 x139004 x139005) else (none)) else (none)) else (none)) else (none)) else (if x139000 = 0 then ((spec_WordOk.f k x139001 x139002).bind fun t153 => (if t153 = true then (if x139003 = 0 then (if x139004 = 0 then (some (x139005 == 0)) else (some false)) else (some false)) else (some false))) else (if x139000 = 1 then ((spec_l01In.f x139002 0 7).bind fun t154 => (if t154 = true then (if x139003 = 0 then (if x139004 = 0 then (some (x139005 == 0)) else (some false)) else (some false)) else (some false))) else (if x139000 = 2 then (if 0 < (x8.length : Int) then (if (rd x8 0) = x139001 then (if x139002 = 0 then (if x139004 = 0 then (some (x139005 == 0)) else (some false)) else (some false)) else (some false)) else (none)) else ((spec_l01In.f x139000 3 12).bind fun t156 => (if t156 = true then (if 0 < (x8.length : Int) then (if (rd x8 0) = x139001 then (if 1 < (x8.length : Int) then (if (rd x8 1) = x139001 then (if x139002 = 0 then (some (x139005 == 0)) else (some false)) else (some false)) else (none)) else (some false)) else (none)) else ((spec_l01In.f x139000 13 15).bind fun t159 => (if t159 = true then (if 0 < (x8.length : Int) then (if 1 < (x8.length : Int) then (if (rd x8 0) = (rd x8 1) then (if x139001 = 1 then (if x139002 = 0 then (some (x139005 == 0)) else (some false)) else (some false)) else (some false)) else (none)) else (none)) else (if x139000 = 16 then (if 0 < (x8.length : Int) then (if 1 < (x8.length : Int) then (if (wrap64 ((rd x8 0) + (rd x8 1))) = x139001 then (if x139002 = 0 then (some (x139005 == 0)) else (some false)) else (some false)) else (none)) else (none)) else (if x139000 = 17 then (if x139002 ≥ 0 then (if 0 < (x8.length : Int) then (if x139002 ≤ (wrap64 ((rd x8 0) - x139001)) then (if x139004 = 0 then (some (x139005 == 0)) else (some false)) else (some false)) else (none)) else (some false)) else (if x139000 = 18 then (if 0 < (x8.length : Int) then (if (rd x8 0) = 1 then (if 1 < (x8.length : Int) then (if (rd x8 1) = x139001 then (if 2 < (x8.length : Int) then (if (rd x8 2) = x139001 then (some (x139002 == 0)) else (some false)) else (none)) else (some false)) else (none)) else (some false)) else (none)) else (if x139000 = 19 then (spec_l02Node.j2 k x8 true x139000 x139001 x139002 x139003 x139004 x139005) else (spec_l02Node.j2 k x8 (x139000 == 20) x139000 x139001 x139002 x139003 x139004 x139005))))))))))))
def spec_l02Node.j2 : Nat → List Int → Bool → Int → Int → Int → Int → Int → Int → Option (Bool)
 | 0, _, _, _, _, _, _, _, _ => none
 | k + 1, x8, x258, x139000, x139001, x139002, x139003, x139004, x139005 => if x258 = true then ((spec_l01In.f x139002 0 7).bind fun t168 => (if t168 = true then ((spec_l01In.f x139004 1 8).bind fun t169 => (if t169 = true then (if 0 < (x8.length : Int) then (if (rd x8 0) = 1 then (if x139001 = 1 then (some (x139005 == 0)) else (some false)) else (some false)) else (none)) else (some false))) else (some false))) else (some false)
end
def spec_l02Node.f (k : Nat) (l0 : List (S31)) (a1 : Int) : Option (Bool) := if 0 ≤ a1 then (if a1 < (l0.length : Int) then ((spec_Parts.f k ((rd_T31 l0 a1).f0) ((rd_T31 l0 a1).f1) ((rd_T31 l0 a1).f2) ((rd_T31 l0 a1).f3) ((rd_T31 l0 a1).f4) ((rd_T31 l0 a1).f5)).bind fun t139 => (spec_l02Node.l0 k l0 a1 t139 0 ((rd_T31 l0 a1).f0) ((rd_T31 l0 a1).f1) ((rd_T31 l0 a1).f2) ((rd_T31 l0 a1).f3) ((rd_T31 l0 a1).f4) ((rd_T31 l0 a1).f5))) else (none)) else (none)
set_option maxHeartbeats 8000000 in
set_option maxRecDepth 100000 in
theorem spec_l02Node.calls (k : Nat) (A0 : Option Addr) (c0 : Nat) (l0 : List (S31)) (a1 : Int) (r : Bool) (w : World) (hr0 : Kd.C k31 w A0 l0.length l0) (hc0 : l0.length ≤ c0) (h : spec_l02Node.f k l0 a1 = some r) :
  Calls Try.prog 43 #[.slice A0 l0.length c0, .int .i64 a1] w fun e w' => e = .returned (.bool r) ∧ Below w.heap.size w w' := by
 have hu31 := Try.underlying31
 have HR0 := am hr0
 have HC0 := am hc0
 clear hr0 hc0
 have HB := am (Below.refl w.heap.size w)
 have H : (if 0 ≤ a1 then (if a1 < (l0.length : Int) then ((spec_Parts.f k ((rd_T31 l0 a1).f0) ((rd_T31 l0 a1).f1) ((rd_T31 l0 a1).f2) ((rd_T31 l0 a1).f3) ((rd_T31 l0 a1).f4) ((rd_T31 l0 a1).f5)).bind fun t139 => (spec_l02Node.l0 k l0 a1 t139 0 ((rd_T31 l0 a1).f0) ((rd_T31 l0 a1).f1) ((rd_T31 l0 a1).f2) ((rd_T31 l0 a1).f3) ((rd_T31 l0 a1).f4) ((rd_T31 l0 a1).f5))) else (none)) else (none)) = some r := h
 clear h
 replace H := iN H; obtain ⟨c3b0, H⟩ := H
 replace H := iN H; obtain ⟨c4b0, H⟩ := H
 replace H := oA H; obtain ⟨t139, A5, H⟩ := H
 have H' := am H
 clear H
 obtain ⟨p137, q137, ad137, rfl, hx137_0, hx137_1, hx137_2, hx137_3, hx137_4, hx137_5⟩ := ix (at_T31 HR0.out a1)
 go_enter Try.func43, Try.ntmps43
 go_wp2_with (first | ((with_reducible refine gate_dst (N := 5) rfl ?_); refine box_event ?hg (N := 5) ?hd (cs := #[.int .i64 0, .int .i64 0, .int .i64 0, .int .i64 0, .int .i64 0, .int .i64 0]) (t := 31) ?hr ?_; (case hd => rfl); (case hg => rfl); (case hr => (go_simp; done)); intro gb138 hg w6 hbox hb; have n0_ := am (below_step (by exact sW HB.out) hb); have n1_ := am (hbox); have n2_ := am ((by rw [hg]; exact (below_size (by exact sW HB.out)) : w.heap.size ≤ gb138)); have n3_ := am ((by rw [hg]; exact (below_size (by exact sW HB.out)) : w.heap.size ≤ gb138)); clear HB; have HB := n0_; have BK138 := n1_; have GW138 := n2_; have GE138 := n3_; clear n0_ n1_ n2_ n3_; clear hb hbox hg; obtain ⟨hcz7_0, hcz7_1, hcz7_2, hcz7_3, hcz7_4, hcz7_5⟩ := cz6 BK138.out; obtain ⟨hfz7_0, hfz7_1, hfz7_2, hfz7_3, hfz7_4, hfz7_5⟩ := fz6 BK138.out) | (go_at_call 70; (with_reducible refine (spec_Parts.calls _ _ _ _ _ _ _ _ _ A5.out).mono ?_); rintro e w8 ⟨v140, rfl, ho0, hb⟩; have n0_ := am (Kd.R_lower ho0 (below_size (by exact bW))); have n1_ := am (blk_below (g := gb138) (o := .cells #[.int .i64 ((rd_T31 l0 a1).f0), .int .i64 ((rd_T31 l0 a1).f1), .int .i64 ((rd_T31 l0 a1).f2), .int .i64 ((rd_T31 l0 a1).f3), .int .i64 ((rd_T31 l0 a1).f4), .int .i64 ((rd_T31 l0 a1).f5)] 31 (0, 0)) (by (with_reducible repeat (first | refine blk_drewN ?_ _ | refine blk_drew ?_ | refine blk_alloc ?_ _)); refine blk_put (cs := #[.int .i64 ((rd_T31 l0 a1).f0), .int .i64 ((rd_T31 l0 a1).f1), .int .i64 ((rd_T31 l0 a1).f2), .int .i64 ((rd_T31 l0 a1).f3), .int .i64 ((rd_T31 l0 a1).f4), .int .i64 0]) ?_ 5 _ rfl; (with_reducible repeat (first | refine blk_drewN ?_ _ | refine blk_drew ?_ | refine blk_alloc ?_ _)); refine blk_put (cs := #[.int .i64 ((rd_T31 l0 a1).f0), .int .i64 ((rd_T31 l0 a1).f1), .int .i64 ((rd_T31 l0 a1).f2), .int .i64 ((rd_T31 l0 a1).f3), .int .i64 0, .int .i64 0]) ?_ 4 _ rfl; (with_reducible repeat (first | refine blk_drewN ?_ _ | refine blk_drew ?_ | refine blk_alloc ?_ _)); refine blk_put (cs := #[.int .i64 ((rd_T31 l0 a1).f0), .int .i64 ((rd_T31 l0 a1).f1), .int .i64 ((rd_T31 l0 a1).f2), .int .i64 0, .int .i64 0, .int .i64 0]) ?_ 3 _ rfl; (with_reducible repeat (first | refine blk_drewN ?_ _ | refine blk_drew ?_ | refine blk_alloc ?_ _)); refine blk_put (cs := #[.int .i64 ((rd_T31 l0 a1).f0), .int .i64 ((rd_T31 l0 a1).f1), .int .i64 0, .int .i64 0, .int .i64 0, .int .i64 0]) ?_ 2 _ rfl; (with_reducible repeat (first | refine blk_drewN ?_ _ | refine blk_drew ?_ | refine blk_alloc ?_ _)); refine blk_put (cs := #[.int .i64 ((rd_T31 l0 a1).f0), .int .i64 0, .int .i64 0, .int .i64 0, .int .i64 0, .int .i64 0]) ?_ 1 _ rfl; (with_reducible repeat (first | refine blk_drewN ?_ _ | refine blk_drew ?_ | refine blk_alloc ?_ _)); refine blk_put (cs := #[.int .i64 0, .int .i64 0, .int .i64 0, .int .i64 0, .int .i64 0, .int .i64 0]) ?_ 0 _ rfl; exact sB <| BK138.out) hb); have n2_ := am (below_step (by exact bW) hb); clear BK138; clear HB; have HO141 := n0_; have BK138 := n1_; have HB := n2_; clear n0_ n1_ n2_; (try clear hb); (try clear hb2); (try clear hk); (try clear hi); (try clear ho0)))
 go_loopg [7] k (fun kq v7 w' => ∃ (x7_1 : Int), v7 = .int .i64 x7_1 ∧ Aside0 (spec_l02Node.l0 kq l0 a1 t139 x7_1 ((rd_T31 l0 a1).f0) ((rd_T31 l0 a1).f1) ((rd_T31 l0 a1).f2) ((rd_T31 l0 a1).f3) ((rd_T31 l0 a1).f4) ((rd_T31 l0 a1).f5) = some r) ∧ Aside0 (kq ≤ k) ∧ Aside0 (Kd.R (Kd.int .i64) 3 w' w.heap.size (fun _ => True) v140 t139) ∧ Aside0 (w'.heap[gb138]? = some (.cells #[.int .i64 ((rd_T31 l0 a1).f0), .int .i64 ((rd_T31 l0 a1).f1), .int .i64 ((rd_T31 l0 a1).f2), .int .i64 ((rd_T31 l0 a1).f3), .int .i64 ((rd_T31 l0 a1).f4), .int .i64 ((rd_T31 l0 a1).f5)] 31 (0, 0))) ∧ Aside0 (Below w.heap.size w w'))
 case atStart => exact ⟨(0), (by rfl), H', ⟨Nat.le_refl _⟩, ⟨by exact sR <| HO141.out⟩, ⟨by exact sB <| BK138.out⟩, ⟨by exact bW⟩⟩
 case round =>
  clear H'
  clear c3b0 c4b0 hcz7_0 hcz7_1 hcz7_2 hcz7_3 hcz7_4 hcz7_5 hfz7_0 hfz7_1 hfz7_2 hfz7_3 hfz7_4 hfz7_5 hx137_0 hx137_1 hx137_2 hx137_3 hx137_4 hx137_5 p137 q137
  obtain ⟨x7_1, rfl, HA, HK1, HO_6, BK138, HB⟩ := hrel
  cases gk with
  | zero => exact absurd HA.out (by simp [spec_l02Node.l0])
  | succ k1 =>
   have H := HA.out
   clear HA
   simp only [spec_l02Node.l0] at H
   replace H := iD H; rcases H with ⟨c9b0, H⟩ | ⟨c9b0, H⟩
   ·replace H := iN H; obtain ⟨c10b0, H⟩ := H
    replace H := oA H; obtain ⟨t143, A11, H⟩ := H
    replace H := iB H; rcases H with ⟨rfl, H⟩ | ⟨rfl, H⟩
    ·have H' := am H
     clear H
     obtain ⟨Ao13, co13, eo13⟩ := Kd.R_slice HO_6.out
     subst eo13
     obtain ⟨p142, q142, ad142, rfl, hx142_0⟩ := ix (Kd.at_int (Kd.R_reads' HO_6.out).2.2 x7_1)
     go_wp2_with (first | (go_at_call 42; refine cD (spec_l01In.calls _ _ _ _ _ A11.out) fun nd => ?_; (try exact dq)))
     go_roundg k1
     case measure => have := HK1.out; omega
     case rel => exact ⟨(wrap64 (x7_1 + 1)), (by rfl), H', ⟨by have := HK1.out; omega⟩, ⟨by exact sR <| HO_6.out⟩, ⟨by exact sB <| BK138.out⟩, ⟨by exact bW⟩⟩
    ·obtain rfl := oI H
     obtain ⟨Ao14, co14, eo14⟩ := Kd.R_slice HO_6.out
     subst eo14
     obtain ⟨p142, q142, ad142, rfl, hx142_0⟩ := ix (Kd.at_int (Kd.R_reads' HO_6.out).2.2 x7_1)
     go_wp2_with (first | (go_at_call 42; refine cD (spec_l01In.calls _ _ _ _ _ A11.out) fun nd => ?_; (try exact dq)))
     go_ret
     exact ⟨by rfl, by exact bW⟩
   ·replace H := oA H; obtain ⟨t144, A15, H⟩ := H
    replace H := iB H; rcases H with ⟨rfl, H⟩ | ⟨rfl, H⟩
    ·obtain ⟨y145, hy145⟩ : ∃ y_ : List Int, y_ = (([] : List Int)) := ⟨_, rfl⟩
     replace H : (spec_l02Node.l1 k1 l0 t139 y145 0 ((rd_T31 l0 a1).f0) ((rd_T31 l0 a1).f1) ((rd_T31 l0 a1).f2) ((rd_T31 l0 a1).f3) ((rd_T31 l0 a1).f4) ((rd_T31 l0 a1).f5)) = some r := by (rw [hy145]; with_reducible exact H)
     have Ny145 := am hy145
     clear hy145
     have H' := am H
     clear H
     obtain ⟨Ao17, co17, eo17⟩ := Kd.R_slice HO_6.out
     subst eo17
     obtain ⟨hcz18_0, hcz18_1, hcz18_2, hcz18_3, hcz18_4, hcz18_5⟩ := cz6 BK138.out
     obtain ⟨hfz18_0, hfz18_1, hfz18_2, hfz18_3, hfz18_4, hfz18_5⟩ := fz6 BK138.out
     go_wp2_with (first | (go_at_call 42; refine cD (spec_l01In.calls _ _ _ _ _ A15.out) fun nd => ?_; (try exact dq)) | ((with_reducible refine gate_dst (N := 34) rfl ?_); refine Kd.R_lit (Kd.int .i64) _ 3 ?hg (N := 34) ?hd (xs := ([] : List Int)) (inner := []) (ok := fun _ => True) (okp := fun _ => True) ?hr ?hp (fun _ hk => hk) trivial (Below.refl _ _) (Nat.le_refl _) (by simp) ?_; (case hd => rfl); (case hg => rfl); (case hr => (go_simp; done)); (case hp => exact (Reps.none _ _)); intro v146 w19 ho20 hb hg_ hnew_; clear hg_ hnew_; (rw [← Ny145.out] at ho20); have n0_ := am (Kd.R_elder' (by exact sR <| HO_6.out) (Kd.R_base ho20) hb); have n1_ := am (Kd.R_lower (Kd.R_new' ho20 (Kd.R_lt (by exact sR <| HO_6.out))) (below_size (by exact bW))); have n2_ := am (blk_below (g := gb138) (o := .cells #[.int .i64 ((rd_T31 l0 a1).f0), .int .i64 ((rd_T31 l0 a1).f1), .int .i64 ((rd_T31 l0 a1).f2), .int .i64 ((rd_T31 l0 a1).f3), .int .i64 ((rd_T31 l0 a1).f4), .int .i64 ((rd_T31 l0 a1).f5)] 31 (0, 0)) (by exact sB <| BK138.out) hb); have n3_ := am (below_step (by exact bW) hb); clear HO_6; clear BK138; clear HB; have HO_6 := n0_; have HO147 := n1_; have BK138 := n2_; have HB := n3_; clear n0_ n1_ n2_ n3_; clear hb ho20))
     go_loopg [8, 9] k1 (fun kq v8 v9 w' => ∃ (x8_2 : List Int) (x9_2 : Int), v9 = .int .i64 x9_2 ∧ Aside0 (spec_l02Node.l1 kq l0 t139 x8_2 x9_2 ((rd_T31 l0 a1).f0) ((rd_T31 l0 a1).f1) ((rd_T31 l0 a1).f2) ((rd_T31 l0 a1).f3) ((rd_T31 l0 a1).f4) ((rd_T31 l0 a1).f5) = some r) ∧ Aside0 (kq ≤ k1) ∧ Aside0 (Kd.R (Kd.int .i64) 3 w' w.heap.size (fun k_ => some k_ ≠ (v8 : Value).ownBlock) (.slice Ao17 t139.length co17) t139) ∧ Aside0 (Kd.R (Kd.int .i64) 3 w' w.heap.size (fun k_ => some k_ ≠ ((.slice Ao17 t139.length co17) : Value).ownBlock) v8 x8_2) ∧ Aside0 (w'.heap[gb138]? = some (.cells #[.int .i64 ((rd_T31 l0 a1).f0), .int .i64 ((rd_T31 l0 a1).f1), .int .i64 ((rd_T31 l0 a1).f2), .int .i64 ((rd_T31 l0 a1).f3), .int .i64 ((rd_T31 l0 a1).f4), .int .i64 ((rd_T31 l0 a1).f5)] 31 (0, 0))) ∧ Aside0 (Below w.heap.size w w'))
     case atStart => exact ⟨(y145), (0), (by rfl), H', ⟨Nat.le_refl _⟩, ⟨by exact sR <| Kd.R_mono HO_6.out (fun _ hk => hk.2)⟩, ⟨by exact sR <| Kd.R_mono HO147.out (fun _ hk => hk.2)⟩, ⟨by exact sB <| BK138.out⟩, ⟨by exact bW⟩⟩
     case round =>
      clear H'
      clear c9b0 hcz18_0 hcz18_1 hcz18_2 hcz18_3 hcz18_4 hcz18_5 hfz18_0 hfz18_1 hfz18_2 hfz18_3 hfz18_4 hfz18_5
      obtain ⟨x8_2, x9_2, rfl, HA, HK2, HO_6, HO_8, BK138, HB⟩ := hrel
      cases gk with
      | zero => exact absurd HA.out (by simp [spec_l02Node.l1])
      | succ k2 =>
       have H := HA.out
       clear HA
       simp only [spec_l02Node.l1] at H
       replace H := iD H; rcases H with ⟨c21b0, H⟩ | ⟨c21b0, H⟩
       ·replace H := iN H; obtain ⟨c22b0, H⟩ := H
        replace H := iN H; obtain ⟨c23b0, H⟩ := H
        replace H := iN H; obtain ⟨c24b0, H⟩ := H
        replace H := iP H; obtain ⟨c25, H⟩ := H
        have LMc25 := am c25
        clear c25
        obtain ⟨y150, hy150⟩ : ∃ y_ : List Int, y_ = (x8_2 ++ [(rd_T31 l0 (rd t139 x9_2)).f1]) := ⟨_, rfl⟩
        replace H : (spec_l02Node.l1 k2 l0 t139 y150 (wrap64 (x9_2 + 1)) ((rd_T31 l0 a1).f0) ((rd_T31 l0 a1).f1) ((rd_T31 l0 a1).f2) ((rd_T31 l0 a1).f3) ((rd_T31 l0 a1).f4) ((rd_T31 l0 a1).f5)) = some r := by (rw [hy150]; with_reducible exact H)
        have Ny150 := am hy150
        clear hy150
        have H' := am H
        clear H
        obtain ⟨p148, q148, ad148, rfl, hx148_0⟩ := ix (Kd.at_int (Kd.R_reads' HO_6.out).2.2 x9_2)
        have p149 : 0 ≤ ((rd t139 x9_2) : Int) := oD (by assumption)
        have q149 : (rd t139 x9_2) < (l0.length : Int) := oD (by assumption)
        obtain ⟨ad149, e149, hx149_0, hx149_1, hx149_2, hx149_3, hx149_4, hx149_5⟩ := at_T31 HR0.out (rd t139 x9_2) p149 q149
        obtain rfl : ad137 = ad149 := (by injection e149)
        replace hx149_0 := pw_cell_below HB.out hx149_0
        replace hx149_1 := pw_cell_below HB.out hx149_1
        replace hx149_2 := pw_cell_below HB.out hx149_2
        replace hx149_3 := pw_cell_below HB.out hx149_3
        replace hx149_4 := pw_cell_below HB.out hx149_4
        replace hx149_5 := pw_cell_below HB.out hx149_5
        replace p149 := eq_true p149
        replace q149 := eq_true q149
        go_wp2_with (first | ((with_reducible refine gate_builtin (b := .append) (xs := #[.tmp 41, .tmp 50]) rfl ?_); at_builtin; refine Kd.R_append (Kd.int .i64) (w0 := w) w.heap.size rfl (.tmp 41) (.tmp 50) 25 3 (.int .i64 0) 8 rfl Try.underlying25 info3 rfl (by decide) (by omega) u8 x8_2 ((rd_T31 l0 (rd t139 x9_2)).f1) [.int .i64 ((rd_T31 l0 (rd t139 x9_2)).f1)] (fun k_ => some k_ ≠ (.slice (some ad148) t139.length co17 : Value).ownBlock) (fun _ => False) rfl rfl ?aP (fun _ hk => hk.elim) ?aF ?aO ?aB ?aS ?aL ?_; (case aP => exact rfl); (case aB => exact (by exact bW)); (case aF => exact (fun k_ hk => Kd.fresh' (Kd.R_lt (by exact sR <| HO_6.out)) k_ hk)); (case aO => exact (by exact sR <| HO_8.out)); (case aS => exact (below_size (by exact bW))); (case aL => have := LMc25.out; omega); intro v151 w26 ho hb hg hat; rw [← Ny150.out] at ho; have n0_ := am (Kd.R_after (ok := (fun _ => True)) (by exact sR <| Kd.R_mono HO_6.out (fun _ hk => ⟨trivial, hk⟩)) hg hat); have n1_ := am (blk_grown (g := gb138) (o := .cells #[.int .i64 ((rd_T31 l0 a1).f0), .int .i64 ((rd_T31 l0 a1).f1), .int .i64 ((rd_T31 l0 a1).f2), .int .i64 ((rd_T31 l0 a1).f3), .int .i64 ((rd_T31 l0 a1).f4), .int .i64 ((rd_T31 l0 a1).f5)] 31 (0, 0)) (by exact sB <| BK138.out) hg (Kd.R_ne HO_8.out BK138.out (by decide))); have n2_ := am (hb); have n3_ := am (ho); clear HO_6; clear BK138; clear HB; clear HO_8; have HO_6 := n0_; have BK138 := n1_; have HB := n2_; have HO152 := n3_; clear n0_ n1_ n2_ n3_; clear ho hb hg hat))
        go_roundg k2
        case measure => have := HK1.out; have := HK2.out; omega
        case rel => exact ⟨(y150), (wrap64 (x9_2 + 1)), (by rfl), H', ⟨by have := HK1.out; have := HK2.out; omega⟩, ⟨by exact sR <| Kd.R_mono HO_6.out (fun _ hk => hk.2)⟩, ⟨by exact sR <| HO152.out⟩, ⟨by exact sB <| BK138.out⟩, ⟨by exact bW⟩⟩
       ·replace H := iE H; rcases H with ⟨c27b0, c27b1, H⟩ | ⟨c27b0, c27b1, H⟩
        ·replace H := oA H; obtain ⟨t153, A28, H⟩ := H
         replace H := iB H; rcases H with ⟨rfl, H⟩ | ⟨rfl, H⟩
         ·replace H := iE H; rcases H with ⟨c30b0, c30b1, H⟩ | ⟨c30b0, c30b1, H⟩
          ·replace H := iE H; rcases H with ⟨c31b0, c31b1, H⟩ | ⟨c31b0, c31b1, H⟩
           ·obtain rfl := oI H
            obtain ⟨hcz32_0, hcz32_1, hcz32_2, hcz32_3, hcz32_4, hcz32_5⟩ := cz6 BK138.out
            obtain ⟨hfz32_0, hfz32_1, hfz32_2, hfz32_3, hfz32_4, hfz32_5⟩ := fz6 BK138.out
            go_wp2_with (first | (go_at_call 71; refine cD (spec_WordOk.calls _ _ _ _ _ A28.out) fun nd => ?_; (try exact dq)))
            go_ret
            exact ⟨by rfl, by exact bW⟩
           ·obtain rfl := oI H
            obtain ⟨hcz33_0, hcz33_1, hcz33_2, hcz33_3, hcz33_4, hcz33_5⟩ := cz6 BK138.out
            obtain ⟨hfz33_0, hfz33_1, hfz33_2, hfz33_3, hfz33_4, hfz33_5⟩ := fz6 BK138.out
            go_wp2_with (first | (go_at_call 71; refine cD (spec_WordOk.calls _ _ _ _ _ A28.out) fun nd => ?_; (try exact dq)))
            go_ret
            exact ⟨by rfl, by exact bW⟩
          ·obtain rfl := oI H
           obtain ⟨hcz34_0, hcz34_1, hcz34_2, hcz34_3, hcz34_4, hcz34_5⟩ := cz6 BK138.out
           obtain ⟨hfz34_0, hfz34_1, hfz34_2, hfz34_3, hfz34_4, hfz34_5⟩ := fz6 BK138.out
           go_wp2_with (first | (go_at_call 71; refine cD (spec_WordOk.calls _ _ _ _ _ A28.out) fun nd => ?_; (try exact dq)))
           go_ret
           exact ⟨by rfl, by exact bW⟩
         ·obtain rfl := oI H
          obtain ⟨hcz35_0, hcz35_1, hcz35_2, hcz35_3, hcz35_4, hcz35_5⟩ := cz6 BK138.out
          obtain ⟨hfz35_0, hfz35_1, hfz35_2, hfz35_3, hfz35_4, hfz35_5⟩ := fz6 BK138.out
          go_wp2_with (first | (go_at_call 71; refine cD (spec_WordOk.calls _ _ _ _ _ A28.out) fun nd => ?_; (try exact dq)))
          go_ret
          exact ⟨by rfl, by exact bW⟩
        ·replace H := iE H; rcases H with ⟨c36b0, c36b1, H⟩ | ⟨c36b0, c36b1, H⟩
         ·replace H := oA H; obtain ⟨t154, A37, H⟩ := H
          replace H := iB H; rcases H with ⟨rfl, H⟩ | ⟨rfl, H⟩
          ·replace H := iE H; rcases H with ⟨c39b0, c39b1, H⟩ | ⟨c39b0, c39b1, H⟩
           ·replace H := iE H; rcases H with ⟨c40b0, c40b1, H⟩ | ⟨c40b0, c40b1, H⟩
            ·obtain rfl := oI H
             obtain ⟨hcz41_0, hcz41_1, hcz41_2, hcz41_3, hcz41_4, hcz41_5⟩ := cz6 BK138.out
             obtain ⟨hfz41_0, hfz41_1, hfz41_2, hfz41_3, hfz41_4, hfz41_5⟩ := fz6 BK138.out
             go_wp2_with (first | (go_at_call 42; refine cD (spec_l01In.calls _ _ _ _ _ A37.out) fun nd => ?_; (try exact dq)))
             go_ret
             exact ⟨by rfl, by exact bW⟩
            ·obtain rfl := oI H
             obtain ⟨hcz42_0, hcz42_1, hcz42_2, hcz42_3, hcz42_4, hcz42_5⟩ := cz6 BK138.out
             obtain ⟨hfz42_0, hfz42_1, hfz42_2, hfz42_3, hfz42_4, hfz42_5⟩ := fz6 BK138.out
             go_wp2_with (first | (go_at_call 42; refine cD (spec_l01In.calls _ _ _ _ _ A37.out) fun nd => ?_; (try exact dq)))
             go_ret
             exact ⟨by rfl, by exact bW⟩
           ·obtain rfl := oI H
            obtain ⟨hcz43_0, hcz43_1, hcz43_2, hcz43_3, hcz43_4, hcz43_5⟩ := cz6 BK138.out
            obtain ⟨hfz43_0, hfz43_1, hfz43_2, hfz43_3, hfz43_4, hfz43_5⟩ := fz6 BK138.out
            go_wp2_with (first | (go_at_call 42; refine cD (spec_l01In.calls _ _ _ _ _ A37.out) fun nd => ?_; (try exact dq)))
            go_ret
            exact ⟨by rfl, by exact bW⟩
          ·obtain rfl := oI H
           obtain ⟨hcz44_0, hcz44_1, hcz44_2, hcz44_3, hcz44_4, hcz44_5⟩ := cz6 BK138.out
           obtain ⟨hfz44_0, hfz44_1, hfz44_2, hfz44_3, hfz44_4, hfz44_5⟩ := fz6 BK138.out
           go_wp2_with (first | (go_at_call 42; refine cD (spec_l01In.calls _ _ _ _ _ A37.out) fun nd => ?_; (try exact dq)))
           go_ret
           exact ⟨by rfl, by exact bW⟩
         ·replace H := iE H; rcases H with ⟨c45b0, c45b1, H⟩ | ⟨c45b0, c45b1, H⟩
          ·replace H := iP H; obtain ⟨c46, H⟩ := H
           have c46b0 : decide (0 < (x8_2.length : Int)) = true := decide_eq_true c46
           have c46b1 : decide (0 < x8_2.length) = true := decide_eq_true (by omega)
           have c46p : 0 < x8_2.length := by omega
           clear c46
           replace H := iE H; rcases H with ⟨c47b0, c47b1, H⟩ | ⟨c47b0, c47b1, H⟩
           ·replace H := iE H; rcases H with ⟨c48b0, c48b1, H⟩ | ⟨c48b0, c48b1, H⟩
            ·replace H := iE H; rcases H with ⟨c49b0, c49b1, H⟩ | ⟨c49b0, c49b1, H⟩
             ·obtain rfl := oI H
              obtain ⟨hcz50_0, hcz50_1, hcz50_2, hcz50_3, hcz50_4, hcz50_5⟩ := cz6 BK138.out
              obtain ⟨hfz50_0, hfz50_1, hfz50_2, hfz50_3, hfz50_4, hfz50_5⟩ := fz6 BK138.out
              obtain ⟨Ao51, co51, eo51⟩ := Kd.R_slice HO_8.out
              subst eo51
              have p155 : 0 ≤ (0 : Int) := (by omega)
              have q155 : 0 < (x8_2.length : Int) := oD (by assumption)
              obtain ⟨ad155, e155, hx155_0⟩ := Kd.at_int (Kd.R_reads' HO_8.out).2.2 0 p155 q155
              cases e155
              have qi155 : (0 < x8_2.length) = True := eq_true (by omega)
              (try rw [tn0] at hx155_0)
              (try rw [Addr.add_zero'] at hx155_0)
              replace p155 := eq_true p155
              replace q155 := eq_true q155
              go_wp2
              repeat (go_quiet (fail); try go_wp2)
              go_ret
              exact ⟨by rfl, by exact bW⟩
             ·obtain rfl := oI H
              obtain ⟨hcz52_0, hcz52_1, hcz52_2, hcz52_3, hcz52_4, hcz52_5⟩ := cz6 BK138.out
              obtain ⟨hfz52_0, hfz52_1, hfz52_2, hfz52_3, hfz52_4, hfz52_5⟩ := fz6 BK138.out
              obtain ⟨Ao53, co53, eo53⟩ := Kd.R_slice HO_8.out
              subst eo53
              have p155 : 0 ≤ (0 : Int) := (by omega)
              have q155 : 0 < (x8_2.length : Int) := oD (by assumption)
              obtain ⟨ad155, e155, hx155_0⟩ := Kd.at_int (Kd.R_reads' HO_8.out).2.2 0 p155 q155
              cases e155
              have qi155 : (0 < x8_2.length) = True := eq_true (by omega)
              (try rw [tn0] at hx155_0)
              (try rw [Addr.add_zero'] at hx155_0)
              replace p155 := eq_true p155
              replace q155 := eq_true q155
              go_wp2
              repeat (go_quiet (fail); try go_wp2)
              go_ret
              exact ⟨by rfl, by exact bW⟩
            ·obtain rfl := oI H
             obtain ⟨hcz54_0, hcz54_1, hcz54_2, hcz54_3, hcz54_4, hcz54_5⟩ := cz6 BK138.out
             obtain ⟨hfz54_0, hfz54_1, hfz54_2, hfz54_3, hfz54_4, hfz54_5⟩ := fz6 BK138.out
             obtain ⟨Ao55, co55, eo55⟩ := Kd.R_slice HO_8.out
             subst eo55
             have p155 : 0 ≤ (0 : Int) := (by omega)
             have q155 : 0 < (x8_2.length : Int) := oD (by assumption)
             obtain ⟨ad155, e155, hx155_0⟩ := Kd.at_int (Kd.R_reads' HO_8.out).2.2 0 p155 q155
             cases e155
             have qi155 : (0 < x8_2.length) = True := eq_true (by omega)
             (try rw [tn0] at hx155_0)
             (try rw [Addr.add_zero'] at hx155_0)
             replace p155 := eq_true p155
             replace q155 := eq_true q155
             go_wp2
             repeat (go_quiet (fail); try go_wp2)
             go_ret
             exact ⟨by rfl, by exact bW⟩
           ·obtain rfl := oI H
            obtain ⟨hcz56_0, hcz56_1, hcz56_2, hcz56_3, hcz56_4, hcz56_5⟩ := cz6 BK138.out
            obtain ⟨hfz56_0, hfz56_1, hfz56_2, hfz56_3, hfz56_4, hfz56_5⟩ := fz6 BK138.out
            obtain ⟨Ao57, co57, eo57⟩ := Kd.R_slice HO_8.out
            subst eo57
            have p155 : 0 ≤ (0 : Int) := (by omega)
            have q155 : 0 < (x8_2.length : Int) := oD (by assumption)
            obtain ⟨ad155, e155, hx155_0⟩ := Kd.at_int (Kd.R_reads' HO_8.out).2.2 0 p155 q155
            cases e155
            have qi155 : (0 < x8_2.length) = True := eq_true (by omega)
            (try rw [tn0] at hx155_0)
            (try rw [Addr.add_zero'] at hx155_0)
            replace p155 := eq_true p155
            replace q155 := eq_true q155
            go_wp2
            repeat (go_quiet (fail); try go_wp2)
            go_ret
            exact ⟨by rfl, by exact bW⟩
          ·replace H := oA H; obtain ⟨t156, A58, H⟩ := H
           replace H := iB H; rcases H with ⟨rfl, H⟩ | ⟨rfl, H⟩
           ·replace H := iP H; obtain ⟨c60, H⟩ := H
            have c60b0 : decide (0 < (x8_2.length : Int)) = true := decide_eq_true c60
            have c60b1 : decide (0 < x8_2.length) = true := decide_eq_true (by omega)
            have c60p : 0 < x8_2.length := by omega
            clear c60
            replace H := iE H; rcases H with ⟨c61b0, c61b1, H⟩ | ⟨c61b0, c61b1, H⟩
            ·replace H := iP H; obtain ⟨c62, H⟩ := H
             have c62b0 : decide (1 < (x8_2.length : Int)) = true := decide_eq_true c62
             have c62b1 : decide (1 < x8_2.length) = true := decide_eq_true (by omega)
             clear c62
             replace H := iE H; rcases H with ⟨c63b0, c63b1, H⟩ | ⟨c63b0, c63b1, H⟩
             ·replace H := iE H; rcases H with ⟨c64b0, c64b1, H⟩ | ⟨c64b0, c64b1, H⟩
              ·obtain rfl := oI H
               obtain ⟨hcz65_0, hcz65_1, hcz65_2, hcz65_3, hcz65_4, hcz65_5⟩ := cz6 BK138.out
               obtain ⟨hfz65_0, hfz65_1, hfz65_2, hfz65_3, hfz65_4, hfz65_5⟩ := fz6 BK138.out
               go_wp2_with (first | (go_at_call 42; refine cD (spec_l01In.calls _ _ _ _ _ A58.out) fun nd => ?_; (try exact dq); obtain ⟨Ao66, co66, eo66⟩ := Kd.R_slice HO_8.out; subst eo66; have p157 : 0 ≤ (0 : Int) := (by omega); have q157 : 0 < (x8_2.length : Int) := oD (by assumption); obtain ⟨ad157, e157, hx157_0⟩ := Kd.at_int (Kd.R_reads' HO_8.out).2.2 0 p157 q157; cases e157; have qi157 : (0 < x8_2.length) = True := eq_true (by omega); (try rw [tn0] at hx157_0); (try rw [Addr.add_zero'] at hx157_0); replace p157 := eq_true p157; replace q157 := eq_true q157; have p158 : 0 ≤ (1 : Int) := (by omega); have q158 : 1 < (x8_2.length : Int) := oD (by assumption); obtain ⟨ad158, e158, hx158_0⟩ := Kd.at_int (Kd.R_reads' HO_8.out).2.2 1 p158 q158; obtain rfl : ad157 = ad158 := (by injection e158); (try simp only [show (1 : Int).toNat = 1 from rfl, Nat.reduceMul, Nat.reduceEqDiff, Go.Addr.add, ↓reduceIte] at hx158_0); have qi158 : (1 < x8_2.length) = True := eq_true (by omega); (try rw [show ((1 : Int)).toNat = 1 from rfl] at hx158_0); replace p158 := eq_true p158; replace q158 := eq_true q158))
               repeat (go_quiet (first | (go_at_call 42; refine cD (spec_l01In.calls _ _ _ _ _ A58.out) fun nd => ?_; (try exact dq); obtain ⟨Ao66, co66, eo66⟩ := Kd.R_slice HO_8.out; subst eo66; have p157 : 0 ≤ (0 : Int) := (by omega); have q157 : 0 < (x8_2.length : Int) := oD (by assumption); obtain ⟨ad157, e157, hx157_0⟩ := Kd.at_int (Kd.R_reads' HO_8.out).2.2 0 p157 q157; cases e157; have qi157 : (0 < x8_2.length) = True := eq_true (by omega); (try rw [tn0] at hx157_0); (try rw [Addr.add_zero'] at hx157_0); replace p157 := eq_true p157; replace q157 := eq_true q157; have p158 : 0 ≤ (1 : Int) := (by omega); have q158 : 1 < (x8_2.length : Int) := oD (by assumption); obtain ⟨ad158, e158, hx158_0⟩ := Kd.at_int (Kd.R_reads' HO_8.out).2.2 1 p158 q158; obtain rfl : ad157 = ad158 := (by injection e158); (try simp only [show (1 : Int).toNat = 1 from rfl, Nat.reduceMul, Nat.reduceEqDiff, Go.Addr.add, ↓reduceIte] at hx158_0); have qi158 : (1 < x8_2.length) = True := eq_true (by omega); (try rw [show ((1 : Int)).toNat = 1 from rfl] at hx158_0); replace p158 := eq_true p158; replace q158 := eq_true q158)); try go_wp2_with (first | (go_at_call 42; refine cD (spec_l01In.calls _ _ _ _ _ A58.out) fun nd => ?_; (try exact dq); obtain ⟨Ao66, co66, eo66⟩ := Kd.R_slice HO_8.out; subst eo66; have p157 : 0 ≤ (0 : Int) := (by omega); have q157 : 0 < (x8_2.length : Int) := oD (by assumption); obtain ⟨ad157, e157, hx157_0⟩ := Kd.at_int (Kd.R_reads' HO_8.out).2.2 0 p157 q157; cases e157; have qi157 : (0 < x8_2.length) = True := eq_true (by omega); (try rw [tn0] at hx157_0); (try rw [Addr.add_zero'] at hx157_0); replace p157 := eq_true p157; replace q157 := eq_true q157; have p158 : 0 ≤ (1 : Int) := (by omega); have q158 : 1 < (x8_2.length : Int) := oD (by assumption); obtain ⟨ad158, e158, hx158_0⟩ := Kd.at_int (Kd.R_reads' HO_8.out).2.2 1 p158 q158; obtain rfl : ad157 = ad158 := (by injection e158); (try simp only [show (1 : Int).toNat = 1 from rfl, Nat.reduceMul, Nat.reduceEqDiff, Go.Addr.add, ↓reduceIte] at hx158_0); have qi158 : (1 < x8_2.length) = True := eq_true (by omega); (try rw [show ((1 : Int)).toNat = 1 from rfl] at hx158_0); replace p158 := eq_true p158; replace q158 := eq_true q158)))
               go_ret
               exact ⟨by rfl, by exact bW⟩
              ·obtain rfl := oI H
               obtain ⟨hcz67_0, hcz67_1, hcz67_2, hcz67_3, hcz67_4, hcz67_5⟩ := cz6 BK138.out
               obtain ⟨hfz67_0, hfz67_1, hfz67_2, hfz67_3, hfz67_4, hfz67_5⟩ := fz6 BK138.out
               go_wp2_with (first | (go_at_call 42; refine cD (spec_l01In.calls _ _ _ _ _ A58.out) fun nd => ?_; (try exact dq); obtain ⟨Ao68, co68, eo68⟩ := Kd.R_slice HO_8.out; subst eo68; have p157 : 0 ≤ (0 : Int) := (by omega); have q157 : 0 < (x8_2.length : Int) := oD (by assumption); obtain ⟨ad157, e157, hx157_0⟩ := Kd.at_int (Kd.R_reads' HO_8.out).2.2 0 p157 q157; cases e157; have qi157 : (0 < x8_2.length) = True := eq_true (by omega); (try rw [tn0] at hx157_0); (try rw [Addr.add_zero'] at hx157_0); replace p157 := eq_true p157; replace q157 := eq_true q157; have p158 : 0 ≤ (1 : Int) := (by omega); have q158 : 1 < (x8_2.length : Int) := oD (by assumption); obtain ⟨ad158, e158, hx158_0⟩ := Kd.at_int (Kd.R_reads' HO_8.out).2.2 1 p158 q158; obtain rfl : ad157 = ad158 := (by injection e158); (try simp only [show (1 : Int).toNat = 1 from rfl, Nat.reduceMul, Nat.reduceEqDiff, Go.Addr.add, ↓reduceIte] at hx158_0); have qi158 : (1 < x8_2.length) = True := eq_true (by omega); (try rw [show ((1 : Int)).toNat = 1 from rfl] at hx158_0); replace p158 := eq_true p158; replace q158 := eq_true q158))
               repeat (go_quiet (first | (go_at_call 42; refine cD (spec_l01In.calls _ _ _ _ _ A58.out) fun nd => ?_; (try exact dq); obtain ⟨Ao68, co68, eo68⟩ := Kd.R_slice HO_8.out; subst eo68; have p157 : 0 ≤ (0 : Int) := (by omega); have q157 : 0 < (x8_2.length : Int) := oD (by assumption); obtain ⟨ad157, e157, hx157_0⟩ := Kd.at_int (Kd.R_reads' HO_8.out).2.2 0 p157 q157; cases e157; have qi157 : (0 < x8_2.length) = True := eq_true (by omega); (try rw [tn0] at hx157_0); (try rw [Addr.add_zero'] at hx157_0); replace p157 := eq_true p157; replace q157 := eq_true q157; have p158 : 0 ≤ (1 : Int) := (by omega); have q158 : 1 < (x8_2.length : Int) := oD (by assumption); obtain ⟨ad158, e158, hx158_0⟩ := Kd.at_int (Kd.R_reads' HO_8.out).2.2 1 p158 q158; obtain rfl : ad157 = ad158 := (by injection e158); (try simp only [show (1 : Int).toNat = 1 from rfl, Nat.reduceMul, Nat.reduceEqDiff, Go.Addr.add, ↓reduceIte] at hx158_0); have qi158 : (1 < x8_2.length) = True := eq_true (by omega); (try rw [show ((1 : Int)).toNat = 1 from rfl] at hx158_0); replace p158 := eq_true p158; replace q158 := eq_true q158)); try go_wp2_with (first | (go_at_call 42; refine cD (spec_l01In.calls _ _ _ _ _ A58.out) fun nd => ?_; (try exact dq); obtain ⟨Ao68, co68, eo68⟩ := Kd.R_slice HO_8.out; subst eo68; have p157 : 0 ≤ (0 : Int) := (by omega); have q157 : 0 < (x8_2.length : Int) := oD (by assumption); obtain ⟨ad157, e157, hx157_0⟩ := Kd.at_int (Kd.R_reads' HO_8.out).2.2 0 p157 q157; cases e157; have qi157 : (0 < x8_2.length) = True := eq_true (by omega); (try rw [tn0] at hx157_0); (try rw [Addr.add_zero'] at hx157_0); replace p157 := eq_true p157; replace q157 := eq_true q157; have p158 : 0 ≤ (1 : Int) := (by omega); have q158 : 1 < (x8_2.length : Int) := oD (by assumption); obtain ⟨ad158, e158, hx158_0⟩ := Kd.at_int (Kd.R_reads' HO_8.out).2.2 1 p158 q158; obtain rfl : ad157 = ad158 := (by injection e158); (try simp only [show (1 : Int).toNat = 1 from rfl, Nat.reduceMul, Nat.reduceEqDiff, Go.Addr.add, ↓reduceIte] at hx158_0); have qi158 : (1 < x8_2.length) = True := eq_true (by omega); (try rw [show ((1 : Int)).toNat = 1 from rfl] at hx158_0); replace p158 := eq_true p158; replace q158 := eq_true q158)))
               go_ret
               exact ⟨by rfl, by exact bW⟩
             ·obtain rfl := oI H
              obtain ⟨hcz69_0, hcz69_1, hcz69_2, hcz69_3, hcz69_4, hcz69_5⟩ := cz6 BK138.out
              obtain ⟨hfz69_0, hfz69_1, hfz69_2, hfz69_3, hfz69_4, hfz69_5⟩ := fz6 BK138.out
              go_wp2_with (first | (go_at_call 42; refine cD (spec_l01In.calls _ _ _ _ _ A58.out) fun nd => ?_; (try exact dq); obtain ⟨Ao70, co70, eo70⟩ := Kd.R_slice HO_8.out; subst eo70; have p157 : 0 ≤ (0 : Int) := (by omega); have q157 : 0 < (x8_2.length : Int) := oD (by assumption); obtain ⟨ad157, e157, hx157_0⟩ := Kd.at_int (Kd.R_reads' HO_8.out).2.2 0 p157 q157; cases e157; have qi157 : (0 < x8_2.length) = True := eq_true (by omega); (try rw [tn0] at hx157_0); (try rw [Addr.add_zero'] at hx157_0); replace p157 := eq_true p157; replace q157 := eq_true q157; have p158 : 0 ≤ (1 : Int) := (by omega); have q158 : 1 < (x8_2.length : Int) := oD (by assumption); obtain ⟨ad158, e158, hx158_0⟩ := Kd.at_int (Kd.R_reads' HO_8.out).2.2 1 p158 q158; obtain rfl : ad157 = ad158 := (by injection e158); (try simp only [show (1 : Int).toNat = 1 from rfl, Nat.reduceMul, Nat.reduceEqDiff, Go.Addr.add, ↓reduceIte] at hx158_0); have qi158 : (1 < x8_2.length) = True := eq_true (by omega); (try rw [show ((1 : Int)).toNat = 1 from rfl] at hx158_0); replace p158 := eq_true p158; replace q158 := eq_true q158))
              repeat (go_quiet (first | (go_at_call 42; refine cD (spec_l01In.calls _ _ _ _ _ A58.out) fun nd => ?_; (try exact dq); obtain ⟨Ao70, co70, eo70⟩ := Kd.R_slice HO_8.out; subst eo70; have p157 : 0 ≤ (0 : Int) := (by omega); have q157 : 0 < (x8_2.length : Int) := oD (by assumption); obtain ⟨ad157, e157, hx157_0⟩ := Kd.at_int (Kd.R_reads' HO_8.out).2.2 0 p157 q157; cases e157; have qi157 : (0 < x8_2.length) = True := eq_true (by omega); (try rw [tn0] at hx157_0); (try rw [Addr.add_zero'] at hx157_0); replace p157 := eq_true p157; replace q157 := eq_true q157; have p158 : 0 ≤ (1 : Int) := (by omega); have q158 : 1 < (x8_2.length : Int) := oD (by assumption); obtain ⟨ad158, e158, hx158_0⟩ := Kd.at_int (Kd.R_reads' HO_8.out).2.2 1 p158 q158; obtain rfl : ad157 = ad158 := (by injection e158); (try simp only [show (1 : Int).toNat = 1 from rfl, Nat.reduceMul, Nat.reduceEqDiff, Go.Addr.add, ↓reduceIte] at hx158_0); have qi158 : (1 < x8_2.length) = True := eq_true (by omega); (try rw [show ((1 : Int)).toNat = 1 from rfl] at hx158_0); replace p158 := eq_true p158; replace q158 := eq_true q158)); try go_wp2_with (first | (go_at_call 42; refine cD (spec_l01In.calls _ _ _ _ _ A58.out) fun nd => ?_; (try exact dq); obtain ⟨Ao70, co70, eo70⟩ := Kd.R_slice HO_8.out; subst eo70; have p157 : 0 ≤ (0 : Int) := (by omega); have q157 : 0 < (x8_2.length : Int) := oD (by assumption); obtain ⟨ad157, e157, hx157_0⟩ := Kd.at_int (Kd.R_reads' HO_8.out).2.2 0 p157 q157; cases e157; have qi157 : (0 < x8_2.length) = True := eq_true (by omega); (try rw [tn0] at hx157_0); (try rw [Addr.add_zero'] at hx157_0); replace p157 := eq_true p157; replace q157 := eq_true q157; have p158 : 0 ≤ (1 : Int) := (by omega); have q158 : 1 < (x8_2.length : Int) := oD (by assumption); obtain ⟨ad158, e158, hx158_0⟩ := Kd.at_int (Kd.R_reads' HO_8.out).2.2 1 p158 q158; obtain rfl : ad157 = ad158 := (by injection e158); (try simp only [show (1 : Int).toNat = 1 from rfl, Nat.reduceMul, Nat.reduceEqDiff, Go.Addr.add, ↓reduceIte] at hx158_0); have qi158 : (1 < x8_2.length) = True := eq_true (by omega); (try rw [show ((1 : Int)).toNat = 1 from rfl] at hx158_0); replace p158 := eq_true p158; replace q158 := eq_true q158)))
              go_ret
              exact ⟨by rfl, by exact bW⟩
            ·obtain rfl := oI H
             obtain ⟨hcz71_0, hcz71_1, hcz71_2, hcz71_3, hcz71_4, hcz71_5⟩ := cz6 BK138.out
             obtain ⟨hfz71_0, hfz71_1, hfz71_2, hfz71_3, hfz71_4, hfz71_5⟩ := fz6 BK138.out
             go_wp2_with (first | (go_at_call 42; refine cD (spec_l01In.calls _ _ _ _ _ A58.out) fun nd => ?_; (try exact dq); obtain ⟨Ao72, co72, eo72⟩ := Kd.R_slice HO_8.out; subst eo72; have p157 : 0 ≤ (0 : Int) := (by omega); have q157 : 0 < (x8_2.length : Int) := oD (by assumption); obtain ⟨ad157, e157, hx157_0⟩ := Kd.at_int (Kd.R_reads' HO_8.out).2.2 0 p157 q157; cases e157; have qi157 : (0 < x8_2.length) = True := eq_true (by omega); (try rw [tn0] at hx157_0); (try rw [Addr.add_zero'] at hx157_0); replace p157 := eq_true p157; replace q157 := eq_true q157))
             repeat (go_quiet (first | (go_at_call 42; refine cD (spec_l01In.calls _ _ _ _ _ A58.out) fun nd => ?_; (try exact dq); obtain ⟨Ao72, co72, eo72⟩ := Kd.R_slice HO_8.out; subst eo72; have p157 : 0 ≤ (0 : Int) := (by omega); have q157 : 0 < (x8_2.length : Int) := oD (by assumption); obtain ⟨ad157, e157, hx157_0⟩ := Kd.at_int (Kd.R_reads' HO_8.out).2.2 0 p157 q157; cases e157; have qi157 : (0 < x8_2.length) = True := eq_true (by omega); (try rw [tn0] at hx157_0); (try rw [Addr.add_zero'] at hx157_0); replace p157 := eq_true p157; replace q157 := eq_true q157)); try go_wp2_with (first | (go_at_call 42; refine cD (spec_l01In.calls _ _ _ _ _ A58.out) fun nd => ?_; (try exact dq); obtain ⟨Ao72, co72, eo72⟩ := Kd.R_slice HO_8.out; subst eo72; have p157 : 0 ≤ (0 : Int) := (by omega); have q157 : 0 < (x8_2.length : Int) := oD (by assumption); obtain ⟨ad157, e157, hx157_0⟩ := Kd.at_int (Kd.R_reads' HO_8.out).2.2 0 p157 q157; cases e157; have qi157 : (0 < x8_2.length) = True := eq_true (by omega); (try rw [tn0] at hx157_0); (try rw [Addr.add_zero'] at hx157_0); replace p157 := eq_true p157; replace q157 := eq_true q157)))
             go_ret
             exact ⟨by rfl, by exact bW⟩
           ·replace H := oA H; obtain ⟨t159, A73, H⟩ := H
            replace H := iB H; rcases H with ⟨rfl, H⟩ | ⟨rfl, H⟩
            ·replace H := iP H; obtain ⟨c75, H⟩ := H
             have c75b0 : decide (0 < (x8_2.length : Int)) = true := decide_eq_true c75
             have c75b1 : decide (0 < x8_2.length) = true := decide_eq_true (by omega)
             have c75p : 0 < x8_2.length := by omega
             clear c75
             replace H := iP H; obtain ⟨c76, H⟩ := H
             have c76b0 : decide (1 < (x8_2.length : Int)) = true := decide_eq_true c76
             have c76b1 : decide (1 < x8_2.length) = true := decide_eq_true (by omega)
             clear c76
             replace H := iE H; rcases H with ⟨c77b0, c77b1, H⟩ | ⟨c77b0, c77b1, H⟩
             ·replace H := iE H; rcases H with ⟨c78b0, c78b1, H⟩ | ⟨c78b0, c78b1, H⟩
              ·replace H := iE H; rcases H with ⟨c79b0, c79b1, H⟩ | ⟨c79b0, c79b1, H⟩
               ·obtain rfl := oI H
                obtain ⟨hcz80_0, hcz80_1, hcz80_2, hcz80_3, hcz80_4, hcz80_5⟩ := cz6 BK138.out
                obtain ⟨hfz80_0, hfz80_1, hfz80_2, hfz80_3, hfz80_4, hfz80_5⟩ := fz6 BK138.out
                go_wp2_with (first | (go_at_call 42; refine cD (spec_l01In.calls _ _ _ _ _ A58.out) fun nd => ?_; (try exact dq)) | (go_at_call 42; refine cD (spec_l01In.calls _ _ _ _ _ A73.out) fun nd => ?_; (try exact dq); obtain ⟨Ao81, co81, eo81⟩ := Kd.R_slice HO_8.out; subst eo81; have p160 : 0 ≤ (0 : Int) := (by omega); have q160 : 0 < (x8_2.length : Int) := oD (by assumption); obtain ⟨ad160, e160, hx160_0⟩ := Kd.at_int (Kd.R_reads' HO_8.out).2.2 0 p160 q160; cases e160; have qi160 : (0 < x8_2.length) = True := eq_true (by omega); (try rw [tn0] at hx160_0); (try rw [Addr.add_zero'] at hx160_0); replace p160 := eq_true p160; replace q160 := eq_true q160; have p161 : 0 ≤ (1 : Int) := (by omega); have q161 : 1 < (x8_2.length : Int) := oD (by assumption); obtain ⟨ad161, e161, hx161_0⟩ := Kd.at_int (Kd.R_reads' HO_8.out).2.2 1 p161 q161; obtain rfl : ad160 = ad161 := (by injection e161); (try simp only [show (1 : Int).toNat = 1 from rfl, Nat.reduceMul, Nat.reduceEqDiff, Go.Addr.add, ↓reduceIte] at hx161_0); have qi161 : (1 < x8_2.length) = True := eq_true (by omega); (try rw [show ((1 : Int)).toNat = 1 from rfl] at hx161_0); replace p161 := eq_true p161; replace q161 := eq_true q161))
                repeat (go_quiet (first | (go_at_call 42; refine cD (spec_l01In.calls _ _ _ _ _ A58.out) fun nd => ?_; (try exact dq)) | (go_at_call 42; refine cD (spec_l01In.calls _ _ _ _ _ A73.out) fun nd => ?_; (try exact dq); obtain ⟨Ao81, co81, eo81⟩ := Kd.R_slice HO_8.out; subst eo81; have p160 : 0 ≤ (0 : Int) := (by omega); have q160 : 0 < (x8_2.length : Int) := oD (by assumption); obtain ⟨ad160, e160, hx160_0⟩ := Kd.at_int (Kd.R_reads' HO_8.out).2.2 0 p160 q160; cases e160; have qi160 : (0 < x8_2.length) = True := eq_true (by omega); (try rw [tn0] at hx160_0); (try rw [Addr.add_zero'] at hx160_0); replace p160 := eq_true p160; replace q160 := eq_true q160; have p161 : 0 ≤ (1 : Int) := (by omega); have q161 : 1 < (x8_2.length : Int) := oD (by assumption); obtain ⟨ad161, e161, hx161_0⟩ := Kd.at_int (Kd.R_reads' HO_8.out).2.2 1 p161 q161; obtain rfl : ad160 = ad161 := (by injection e161); (try simp only [show (1 : Int).toNat = 1 from rfl, Nat.reduceMul, Nat.reduceEqDiff, Go.Addr.add, ↓reduceIte] at hx161_0); have qi161 : (1 < x8_2.length) = True := eq_true (by omega); (try rw [show ((1 : Int)).toNat = 1 from rfl] at hx161_0); replace p161 := eq_true p161; replace q161 := eq_true q161)); try go_wp2_with (first | (go_at_call 42; refine cD (spec_l01In.calls _ _ _ _ _ A58.out) fun nd => ?_; (try exact dq)) | (go_at_call 42; refine cD (spec_l01In.calls _ _ _ _ _ A73.out) fun nd => ?_; (try exact dq); obtain ⟨Ao81, co81, eo81⟩ := Kd.R_slice HO_8.out; subst eo81; have p160 : 0 ≤ (0 : Int) := (by omega); have q160 : 0 < (x8_2.length : Int) := oD (by assumption); obtain ⟨ad160, e160, hx160_0⟩ := Kd.at_int (Kd.R_reads' HO_8.out).2.2 0 p160 q160; cases e160; have qi160 : (0 < x8_2.length) = True := eq_true (by omega); (try rw [tn0] at hx160_0); (try rw [Addr.add_zero'] at hx160_0); replace p160 := eq_true p160; replace q160 := eq_true q160; have p161 : 0 ≤ (1 : Int) := (by omega); have q161 : 1 < (x8_2.length : Int) := oD (by assumption); obtain ⟨ad161, e161, hx161_0⟩ := Kd.at_int (Kd.R_reads' HO_8.out).2.2 1 p161 q161; obtain rfl : ad160 = ad161 := (by injection e161); (try simp only [show (1 : Int).toNat = 1 from rfl, Nat.reduceMul, Nat.reduceEqDiff, Go.Addr.add, ↓reduceIte] at hx161_0); have qi161 : (1 < x8_2.length) = True := eq_true (by omega); (try rw [show ((1 : Int)).toNat = 1 from rfl] at hx161_0); replace p161 := eq_true p161; replace q161 := eq_true q161)))
                go_ret
                exact ⟨by rfl, by exact bW⟩
               ·obtain rfl := oI H
                obtain ⟨hcz82_0, hcz82_1, hcz82_2, hcz82_3, hcz82_4, hcz82_5⟩ := cz6 BK138.out
                obtain ⟨hfz82_0, hfz82_1, hfz82_2, hfz82_3, hfz82_4, hfz82_5⟩ := fz6 BK138.out
                go_wp2_with (first | (go_at_call 42; refine cD (spec_l01In.calls _ _ _ _ _ A58.out) fun nd => ?_; (try exact dq)) | (go_at_call 42; refine cD (spec_l01In.calls _ _ _ _ _ A73.out) fun nd => ?_; (try exact dq); obtain ⟨Ao83, co83, eo83⟩ := Kd.R_slice HO_8.out; subst eo83; have p160 : 0 ≤ (0 : Int) := (by omega); have q160 : 0 < (x8_2.length : Int) := oD (by assumption); obtain ⟨ad160, e160, hx160_0⟩ := Kd.at_int (Kd.R_reads' HO_8.out).2.2 0 p160 q160; cases e160; have qi160 : (0 < x8_2.length) = True := eq_true (by omega); (try rw [tn0] at hx160_0); (try rw [Addr.add_zero'] at hx160_0); replace p160 := eq_true p160; replace q160 := eq_true q160; have p161 : 0 ≤ (1 : Int) := (by omega); have q161 : 1 < (x8_2.length : Int) := oD (by assumption); obtain ⟨ad161, e161, hx161_0⟩ := Kd.at_int (Kd.R_reads' HO_8.out).2.2 1 p161 q161; obtain rfl : ad160 = ad161 := (by injection e161); (try simp only [show (1 : Int).toNat = 1 from rfl, Nat.reduceMul, Nat.reduceEqDiff, Go.Addr.add, ↓reduceIte] at hx161_0); have qi161 : (1 < x8_2.length) = True := eq_true (by omega); (try rw [show ((1 : Int)).toNat = 1 from rfl] at hx161_0); replace p161 := eq_true p161; replace q161 := eq_true q161))
                repeat (go_quiet (first | (go_at_call 42; refine cD (spec_l01In.calls _ _ _ _ _ A58.out) fun nd => ?_; (try exact dq)) | (go_at_call 42; refine cD (spec_l01In.calls _ _ _ _ _ A73.out) fun nd => ?_; (try exact dq); obtain ⟨Ao83, co83, eo83⟩ := Kd.R_slice HO_8.out; subst eo83; have p160 : 0 ≤ (0 : Int) := (by omega); have q160 : 0 < (x8_2.length : Int) := oD (by assumption); obtain ⟨ad160, e160, hx160_0⟩ := Kd.at_int (Kd.R_reads' HO_8.out).2.2 0 p160 q160; cases e160; have qi160 : (0 < x8_2.length) = True := eq_true (by omega); (try rw [tn0] at hx160_0); (try rw [Addr.add_zero'] at hx160_0); replace p160 := eq_true p160; replace q160 := eq_true q160; have p161 : 0 ≤ (1 : Int) := (by omega); have q161 : 1 < (x8_2.length : Int) := oD (by assumption); obtain ⟨ad161, e161, hx161_0⟩ := Kd.at_int (Kd.R_reads' HO_8.out).2.2 1 p161 q161; obtain rfl : ad160 = ad161 := (by injection e161); (try simp only [show (1 : Int).toNat = 1 from rfl, Nat.reduceMul, Nat.reduceEqDiff, Go.Addr.add, ↓reduceIte] at hx161_0); have qi161 : (1 < x8_2.length) = True := eq_true (by omega); (try rw [show ((1 : Int)).toNat = 1 from rfl] at hx161_0); replace p161 := eq_true p161; replace q161 := eq_true q161)); try go_wp2_with (first | (go_at_call 42; refine cD (spec_l01In.calls _ _ _ _ _ A58.out) fun nd => ?_; (try exact dq)) | (go_at_call 42; refine cD (spec_l01In.calls _ _ _ _ _ A73.out) fun nd => ?_; (try exact dq); obtain ⟨Ao83, co83, eo83⟩ := Kd.R_slice HO_8.out; subst eo83; have p160 : 0 ≤ (0 : Int) := (by omega); have q160 : 0 < (x8_2.length : Int) := oD (by assumption); obtain ⟨ad160, e160, hx160_0⟩ := Kd.at_int (Kd.R_reads' HO_8.out).2.2 0 p160 q160; cases e160; have qi160 : (0 < x8_2.length) = True := eq_true (by omega); (try rw [tn0] at hx160_0); (try rw [Addr.add_zero'] at hx160_0); replace p160 := eq_true p160; replace q160 := eq_true q160; have p161 : 0 ≤ (1 : Int) := (by omega); have q161 : 1 < (x8_2.length : Int) := oD (by assumption); obtain ⟨ad161, e161, hx161_0⟩ := Kd.at_int (Kd.R_reads' HO_8.out).2.2 1 p161 q161; obtain rfl : ad160 = ad161 := (by injection e161); (try simp only [show (1 : Int).toNat = 1 from rfl, Nat.reduceMul, Nat.reduceEqDiff, Go.Addr.add, ↓reduceIte] at hx161_0); have qi161 : (1 < x8_2.length) = True := eq_true (by omega); (try rw [show ((1 : Int)).toNat = 1 from rfl] at hx161_0); replace p161 := eq_true p161; replace q161 := eq_true q161)))
                go_ret
                exact ⟨by rfl, by exact bW⟩
              ·obtain rfl := oI H
               obtain ⟨hcz84_0, hcz84_1, hcz84_2, hcz84_3, hcz84_4, hcz84_5⟩ := cz6 BK138.out
               obtain ⟨hfz84_0, hfz84_1, hfz84_2, hfz84_3, hfz84_4, hfz84_5⟩ := fz6 BK138.out
               go_wp2_with (first | (go_at_call 42; refine cD (spec_l01In.calls _ _ _ _ _ A58.out) fun nd => ?_; (try exact dq)) | (go_at_call 42; refine cD (spec_l01In.calls _ _ _ _ _ A73.out) fun nd => ?_; (try exact dq); obtain ⟨Ao85, co85, eo85⟩ := Kd.R_slice HO_8.out; subst eo85; have p160 : 0 ≤ (0 : Int) := (by omega); have q160 : 0 < (x8_2.length : Int) := oD (by assumption); obtain ⟨ad160, e160, hx160_0⟩ := Kd.at_int (Kd.R_reads' HO_8.out).2.2 0 p160 q160; cases e160; have qi160 : (0 < x8_2.length) = True := eq_true (by omega); (try rw [tn0] at hx160_0); (try rw [Addr.add_zero'] at hx160_0); replace p160 := eq_true p160; replace q160 := eq_true q160; have p161 : 0 ≤ (1 : Int) := (by omega); have q161 : 1 < (x8_2.length : Int) := oD (by assumption); obtain ⟨ad161, e161, hx161_0⟩ := Kd.at_int (Kd.R_reads' HO_8.out).2.2 1 p161 q161; obtain rfl : ad160 = ad161 := (by injection e161); (try simp only [show (1 : Int).toNat = 1 from rfl, Nat.reduceMul, Nat.reduceEqDiff, Go.Addr.add, ↓reduceIte] at hx161_0); have qi161 : (1 < x8_2.length) = True := eq_true (by omega); (try rw [show ((1 : Int)).toNat = 1 from rfl] at hx161_0); replace p161 := eq_true p161; replace q161 := eq_true q161))
               repeat (go_quiet (first | (go_at_call 42; refine cD (spec_l01In.calls _ _ _ _ _ A58.out) fun nd => ?_; (try exact dq)) | (go_at_call 42; refine cD (spec_l01In.calls _ _ _ _ _ A73.out) fun nd => ?_; (try exact dq); obtain ⟨Ao85, co85, eo85⟩ := Kd.R_slice HO_8.out; subst eo85; have p160 : 0 ≤ (0 : Int) := (by omega); have q160 : 0 < (x8_2.length : Int) := oD (by assumption); obtain ⟨ad160, e160, hx160_0⟩ := Kd.at_int (Kd.R_reads' HO_8.out).2.2 0 p160 q160; cases e160; have qi160 : (0 < x8_2.length) = True := eq_true (by omega); (try rw [tn0] at hx160_0); (try rw [Addr.add_zero'] at hx160_0); replace p160 := eq_true p160; replace q160 := eq_true q160; have p161 : 0 ≤ (1 : Int) := (by omega); have q161 : 1 < (x8_2.length : Int) := oD (by assumption); obtain ⟨ad161, e161, hx161_0⟩ := Kd.at_int (Kd.R_reads' HO_8.out).2.2 1 p161 q161; obtain rfl : ad160 = ad161 := (by injection e161); (try simp only [show (1 : Int).toNat = 1 from rfl, Nat.reduceMul, Nat.reduceEqDiff, Go.Addr.add, ↓reduceIte] at hx161_0); have qi161 : (1 < x8_2.length) = True := eq_true (by omega); (try rw [show ((1 : Int)).toNat = 1 from rfl] at hx161_0); replace p161 := eq_true p161; replace q161 := eq_true q161)); try go_wp2_with (first | (go_at_call 42; refine cD (spec_l01In.calls _ _ _ _ _ A58.out) fun nd => ?_; (try exact dq)) | (go_at_call 42; refine cD (spec_l01In.calls _ _ _ _ _ A73.out) fun nd => ?_; (try exact dq); obtain ⟨Ao85, co85, eo85⟩ := Kd.R_slice HO_8.out; subst eo85; have p160 : 0 ≤ (0 : Int) := (by omega); have q160 : 0 < (x8_2.length : Int) := oD (by assumption); obtain ⟨ad160, e160, hx160_0⟩ := Kd.at_int (Kd.R_reads' HO_8.out).2.2 0 p160 q160; cases e160; have qi160 : (0 < x8_2.length) = True := eq_true (by omega); (try rw [tn0] at hx160_0); (try rw [Addr.add_zero'] at hx160_0); replace p160 := eq_true p160; replace q160 := eq_true q160; have p161 : 0 ≤ (1 : Int) := (by omega); have q161 : 1 < (x8_2.length : Int) := oD (by assumption); obtain ⟨ad161, e161, hx161_0⟩ := Kd.at_int (Kd.R_reads' HO_8.out).2.2 1 p161 q161; obtain rfl : ad160 = ad161 := (by injection e161); (try simp only [show (1 : Int).toNat = 1 from rfl, Nat.reduceMul, Nat.reduceEqDiff, Go.Addr.add, ↓reduceIte] at hx161_0); have qi161 : (1 < x8_2.length) = True := eq_true (by omega); (try rw [show ((1 : Int)).toNat = 1 from rfl] at hx161_0); replace p161 := eq_true p161; replace q161 := eq_true q161)))
               go_ret
               exact ⟨by rfl, by exact bW⟩
             ·obtain rfl := oI H
              obtain ⟨hcz86_0, hcz86_1, hcz86_2, hcz86_3, hcz86_4, hcz86_5⟩ := cz6 BK138.out
              obtain ⟨hfz86_0, hfz86_1, hfz86_2, hfz86_3, hfz86_4, hfz86_5⟩ := fz6 BK138.out
              go_wp2_with (first | (go_at_call 42; refine cD (spec_l01In.calls _ _ _ _ _ A58.out) fun nd => ?_; (try exact dq)) | (go_at_call 42; refine cD (spec_l01In.calls _ _ _ _ _ A73.out) fun nd => ?_; (try exact dq); obtain ⟨Ao87, co87, eo87⟩ := Kd.R_slice HO_8.out; subst eo87; have p160 : 0 ≤ (0 : Int) := (by omega); have q160 : 0 < (x8_2.length : Int) := oD (by assumption); obtain ⟨ad160, e160, hx160_0⟩ := Kd.at_int (Kd.R_reads' HO_8.out).2.2 0 p160 q160; cases e160; have qi160 : (0 < x8_2.length) = True := eq_true (by omega); (try rw [tn0] at hx160_0); (try rw [Addr.add_zero'] at hx160_0); replace p160 := eq_true p160; replace q160 := eq_true q160; have p161 : 0 ≤ (1 : Int) := (by omega); have q161 : 1 < (x8_2.length : Int) := oD (by assumption); obtain ⟨ad161, e161, hx161_0⟩ := Kd.at_int (Kd.R_reads' HO_8.out).2.2 1 p161 q161; obtain rfl : ad160 = ad161 := (by injection e161); (try simp only [show (1 : Int).toNat = 1 from rfl, Nat.reduceMul, Nat.reduceEqDiff, Go.Addr.add, ↓reduceIte] at hx161_0); have qi161 : (1 < x8_2.length) = True := eq_true (by omega); (try rw [show ((1 : Int)).toNat = 1 from rfl] at hx161_0); replace p161 := eq_true p161; replace q161 := eq_true q161))
              repeat (go_quiet (first | (go_at_call 42; refine cD (spec_l01In.calls _ _ _ _ _ A58.out) fun nd => ?_; (try exact dq)) | (go_at_call 42; refine cD (spec_l01In.calls _ _ _ _ _ A73.out) fun nd => ?_; (try exact dq); obtain ⟨Ao87, co87, eo87⟩ := Kd.R_slice HO_8.out; subst eo87; have p160 : 0 ≤ (0 : Int) := (by omega); have q160 : 0 < (x8_2.length : Int) := oD (by assumption); obtain ⟨ad160, e160, hx160_0⟩ := Kd.at_int (Kd.R_reads' HO_8.out).2.2 0 p160 q160; cases e160; have qi160 : (0 < x8_2.length) = True := eq_true (by omega); (try rw [tn0] at hx160_0); (try rw [Addr.add_zero'] at hx160_0); replace p160 := eq_true p160; replace q160 := eq_true q160; have p161 : 0 ≤ (1 : Int) := (by omega); have q161 : 1 < (x8_2.length : Int) := oD (by assumption); obtain ⟨ad161, e161, hx161_0⟩ := Kd.at_int (Kd.R_reads' HO_8.out).2.2 1 p161 q161; obtain rfl : ad160 = ad161 := (by injection e161); (try simp only [show (1 : Int).toNat = 1 from rfl, Nat.reduceMul, Nat.reduceEqDiff, Go.Addr.add, ↓reduceIte] at hx161_0); have qi161 : (1 < x8_2.length) = True := eq_true (by omega); (try rw [show ((1 : Int)).toNat = 1 from rfl] at hx161_0); replace p161 := eq_true p161; replace q161 := eq_true q161)); try go_wp2_with (first | (go_at_call 42; refine cD (spec_l01In.calls _ _ _ _ _ A58.out) fun nd => ?_; (try exact dq)) | (go_at_call 42; refine cD (spec_l01In.calls _ _ _ _ _ A73.out) fun nd => ?_; (try exact dq); obtain ⟨Ao87, co87, eo87⟩ := Kd.R_slice HO_8.out; subst eo87; have p160 : 0 ≤ (0 : Int) := (by omega); have q160 : 0 < (x8_2.length : Int) := oD (by assumption); obtain ⟨ad160, e160, hx160_0⟩ := Kd.at_int (Kd.R_reads' HO_8.out).2.2 0 p160 q160; cases e160; have qi160 : (0 < x8_2.length) = True := eq_true (by omega); (try rw [tn0] at hx160_0); (try rw [Addr.add_zero'] at hx160_0); replace p160 := eq_true p160; replace q160 := eq_true q160; have p161 : 0 ≤ (1 : Int) := (by omega); have q161 : 1 < (x8_2.length : Int) := oD (by assumption); obtain ⟨ad161, e161, hx161_0⟩ := Kd.at_int (Kd.R_reads' HO_8.out).2.2 1 p161 q161; obtain rfl : ad160 = ad161 := (by injection e161); (try simp only [show (1 : Int).toNat = 1 from rfl, Nat.reduceMul, Nat.reduceEqDiff, Go.Addr.add, ↓reduceIte] at hx161_0); have qi161 : (1 < x8_2.length) = True := eq_true (by omega); (try rw [show ((1 : Int)).toNat = 1 from rfl] at hx161_0); replace p161 := eq_true p161; replace q161 := eq_true q161)))
              go_ret
              exact ⟨by rfl, by exact bW⟩
            ·by_cases c88 : ((rd_T31 l0 a1).f0) = 16
             ·rw [if_pos c88] at H
              have c88b0 : (((rd_T31 l0 a1).f0) == 16) = true := beq_iff_eq.mpr c88
              have c88b1 : (((rd_T31 l0 a1).f0) != 16) = false := bne_eq_false_iff_eq.mpr c88
              clear c88
              replace H := iP H; obtain ⟨c89, H⟩ := H
              have c89b0 : decide (0 < (x8_2.length : Int)) = true := decide_eq_true c89
              have c89b1 : decide (0 < x8_2.length) = true := decide_eq_true (by omega)
              have c89p : 0 < x8_2.length := by omega
              clear c89
              replace H := iP H; obtain ⟨c90, H⟩ := H
              have c90b0 : decide (1 < (x8_2.length : Int)) = true := decide_eq_true c90
              have c90b1 : decide (1 < x8_2.length) = true := decide_eq_true (by omega)
              clear c90
              replace H := iE H; rcases H with ⟨c91b0, c91b1, H⟩ | ⟨c91b0, c91b1, H⟩
              ·replace H := iE H; rcases H with ⟨c92b0, c92b1, H⟩ | ⟨c92b0, c92b1, H⟩
               ·obtain rfl := oI H
                obtain ⟨hcz93_0, hcz93_1, hcz93_2, hcz93_3, hcz93_4, hcz93_5⟩ := cz6 BK138.out
                obtain ⟨hfz93_0, hfz93_1, hfz93_2, hfz93_3, hfz93_4, hfz93_5⟩ := fz6 BK138.out
                go_wp2_with (first | (go_at_call 42; refine cD (spec_l01In.calls _ _ _ _ _ A58.out) fun nd => ?_; (try exact dq)) | (go_at_call 42; refine cD (spec_l01In.calls _ _ _ _ _ A73.out) fun nd => ?_; (try exact dq); obtain ⟨Ao94, co94, eo94⟩ := Kd.R_slice HO_8.out; subst eo94; have p162 : 0 ≤ (0 : Int) := (by omega); have q162 : 0 < (x8_2.length : Int) := oD (by assumption); obtain ⟨ad162, e162, hx162_0⟩ := Kd.at_int (Kd.R_reads' HO_8.out).2.2 0 p162 q162; cases e162; have qi162 : (0 < x8_2.length) = True := eq_true (by omega); (try rw [tn0] at hx162_0); (try rw [Addr.add_zero'] at hx162_0); replace p162 := eq_true p162; replace q162 := eq_true q162; have p163 : 0 ≤ (1 : Int) := (by omega); have q163 : 1 < (x8_2.length : Int) := oD (by assumption); obtain ⟨ad163, e163, hx163_0⟩ := Kd.at_int (Kd.R_reads' HO_8.out).2.2 1 p163 q163; obtain rfl : ad162 = ad163 := (by injection e163); (try simp only [show (1 : Int).toNat = 1 from rfl, Nat.reduceMul, Nat.reduceEqDiff, Go.Addr.add, ↓reduceIte] at hx163_0); have qi163 : (1 < x8_2.length) = True := eq_true (by omega); (try rw [show ((1 : Int)).toNat = 1 from rfl] at hx163_0); replace p163 := eq_true p163; replace q163 := eq_true q163))
                repeat (go_quiet (first | (go_at_call 42; refine cD (spec_l01In.calls _ _ _ _ _ A58.out) fun nd => ?_; (try exact dq)) | (go_at_call 42; refine cD (spec_l01In.calls _ _ _ _ _ A73.out) fun nd => ?_; (try exact dq); obtain ⟨Ao94, co94, eo94⟩ := Kd.R_slice HO_8.out; subst eo94; have p162 : 0 ≤ (0 : Int) := (by omega); have q162 : 0 < (x8_2.length : Int) := oD (by assumption); obtain ⟨ad162, e162, hx162_0⟩ := Kd.at_int (Kd.R_reads' HO_8.out).2.2 0 p162 q162; cases e162; have qi162 : (0 < x8_2.length) = True := eq_true (by omega); (try rw [tn0] at hx162_0); (try rw [Addr.add_zero'] at hx162_0); replace p162 := eq_true p162; replace q162 := eq_true q162; have p163 : 0 ≤ (1 : Int) := (by omega); have q163 : 1 < (x8_2.length : Int) := oD (by assumption); obtain ⟨ad163, e163, hx163_0⟩ := Kd.at_int (Kd.R_reads' HO_8.out).2.2 1 p163 q163; obtain rfl : ad162 = ad163 := (by injection e163); (try simp only [show (1 : Int).toNat = 1 from rfl, Nat.reduceMul, Nat.reduceEqDiff, Go.Addr.add, ↓reduceIte] at hx163_0); have qi163 : (1 < x8_2.length) = True := eq_true (by omega); (try rw [show ((1 : Int)).toNat = 1 from rfl] at hx163_0); replace p163 := eq_true p163; replace q163 := eq_true q163)); try go_wp2_with (first | (go_at_call 42; refine cD (spec_l01In.calls _ _ _ _ _ A58.out) fun nd => ?_; (try exact dq)) | (go_at_call 42; refine cD (spec_l01In.calls _ _ _ _ _ A73.out) fun nd => ?_; (try exact dq); obtain ⟨Ao94, co94, eo94⟩ := Kd.R_slice HO_8.out; subst eo94; have p162 : 0 ≤ (0 : Int) := (by omega); have q162 : 0 < (x8_2.length : Int) := oD (by assumption); obtain ⟨ad162, e162, hx162_0⟩ := Kd.at_int (Kd.R_reads' HO_8.out).2.2 0 p162 q162; cases e162; have qi162 : (0 < x8_2.length) = True := eq_true (by omega); (try rw [tn0] at hx162_0); (try rw [Addr.add_zero'] at hx162_0); replace p162 := eq_true p162; replace q162 := eq_true q162; have p163 : 0 ≤ (1 : Int) := (by omega); have q163 : 1 < (x8_2.length : Int) := oD (by assumption); obtain ⟨ad163, e163, hx163_0⟩ := Kd.at_int (Kd.R_reads' HO_8.out).2.2 1 p163 q163; obtain rfl : ad162 = ad163 := (by injection e163); (try simp only [show (1 : Int).toNat = 1 from rfl, Nat.reduceMul, Nat.reduceEqDiff, Go.Addr.add, ↓reduceIte] at hx163_0); have qi163 : (1 < x8_2.length) = True := eq_true (by omega); (try rw [show ((1 : Int)).toNat = 1 from rfl] at hx163_0); replace p163 := eq_true p163; replace q163 := eq_true q163)))
                go_ret
                exact ⟨by rfl, by exact bW⟩
               ·obtain rfl := oI H
                obtain ⟨hcz95_0, hcz95_1, hcz95_2, hcz95_3, hcz95_4, hcz95_5⟩ := cz6 BK138.out
                obtain ⟨hfz95_0, hfz95_1, hfz95_2, hfz95_3, hfz95_4, hfz95_5⟩ := fz6 BK138.out
                go_wp2_with (first | (go_at_call 42; refine cD (spec_l01In.calls _ _ _ _ _ A58.out) fun nd => ?_; (try exact dq)) | (go_at_call 42; refine cD (spec_l01In.calls _ _ _ _ _ A73.out) fun nd => ?_; (try exact dq); obtain ⟨Ao96, co96, eo96⟩ := Kd.R_slice HO_8.out; subst eo96; have p162 : 0 ≤ (0 : Int) := (by omega); have q162 : 0 < (x8_2.length : Int) := oD (by assumption); obtain ⟨ad162, e162, hx162_0⟩ := Kd.at_int (Kd.R_reads' HO_8.out).2.2 0 p162 q162; cases e162; have qi162 : (0 < x8_2.length) = True := eq_true (by omega); (try rw [tn0] at hx162_0); (try rw [Addr.add_zero'] at hx162_0); replace p162 := eq_true p162; replace q162 := eq_true q162; have p163 : 0 ≤ (1 : Int) := (by omega); have q163 : 1 < (x8_2.length : Int) := oD (by assumption); obtain ⟨ad163, e163, hx163_0⟩ := Kd.at_int (Kd.R_reads' HO_8.out).2.2 1 p163 q163; obtain rfl : ad162 = ad163 := (by injection e163); (try simp only [show (1 : Int).toNat = 1 from rfl, Nat.reduceMul, Nat.reduceEqDiff, Go.Addr.add, ↓reduceIte] at hx163_0); have qi163 : (1 < x8_2.length) = True := eq_true (by omega); (try rw [show ((1 : Int)).toNat = 1 from rfl] at hx163_0); replace p163 := eq_true p163; replace q163 := eq_true q163))
                repeat (go_quiet (first | (go_at_call 42; refine cD (spec_l01In.calls _ _ _ _ _ A58.out) fun nd => ?_; (try exact dq)) | (go_at_call 42; refine cD (spec_l01In.calls _ _ _ _ _ A73.out) fun nd => ?_; (try exact dq); obtain ⟨Ao96, co96, eo96⟩ := Kd.R_slice HO_8.out; subst eo96; have p162 : 0 ≤ (0 : Int) := (by omega); have q162 : 0 < (x8_2.length : Int) := oD (by assumption); obtain ⟨ad162, e162, hx162_0⟩ := Kd.at_int (Kd.R_reads' HO_8.out).2.2 0 p162 q162; cases e162; have qi162 : (0 < x8_2.length) = True := eq_true (by omega); (try rw [tn0] at hx162_0); (try rw [Addr.add_zero'] at hx162_0); replace p162 := eq_true p162; replace q162 := eq_true q162; have p163 : 0 ≤ (1 : Int) := (by omega); have q163 : 1 < (x8_2.length : Int) := oD (by assumption); obtain ⟨ad163, e163, hx163_0⟩ := Kd.at_int (Kd.R_reads' HO_8.out).2.2 1 p163 q163; obtain rfl : ad162 = ad163 := (by injection e163); (try simp only [show (1 : Int).toNat = 1 from rfl, Nat.reduceMul, Nat.reduceEqDiff, Go.Addr.add, ↓reduceIte] at hx163_0); have qi163 : (1 < x8_2.length) = True := eq_true (by omega); (try rw [show ((1 : Int)).toNat = 1 from rfl] at hx163_0); replace p163 := eq_true p163; replace q163 := eq_true q163)); try go_wp2_with (first | (go_at_call 42; refine cD (spec_l01In.calls _ _ _ _ _ A58.out) fun nd => ?_; (try exact dq)) | (go_at_call 42; refine cD (spec_l01In.calls _ _ _ _ _ A73.out) fun nd => ?_; (try exact dq); obtain ⟨Ao96, co96, eo96⟩ := Kd.R_slice HO_8.out; subst eo96; have p162 : 0 ≤ (0 : Int) := (by omega); have q162 : 0 < (x8_2.length : Int) := oD (by assumption); obtain ⟨ad162, e162, hx162_0⟩ := Kd.at_int (Kd.R_reads' HO_8.out).2.2 0 p162 q162; cases e162; have qi162 : (0 < x8_2.length) = True := eq_true (by omega); (try rw [tn0] at hx162_0); (try rw [Addr.add_zero'] at hx162_0); replace p162 := eq_true p162; replace q162 := eq_true q162; have p163 : 0 ≤ (1 : Int) := (by omega); have q163 : 1 < (x8_2.length : Int) := oD (by assumption); obtain ⟨ad163, e163, hx163_0⟩ := Kd.at_int (Kd.R_reads' HO_8.out).2.2 1 p163 q163; obtain rfl : ad162 = ad163 := (by injection e163); (try simp only [show (1 : Int).toNat = 1 from rfl, Nat.reduceMul, Nat.reduceEqDiff, Go.Addr.add, ↓reduceIte] at hx163_0); have qi163 : (1 < x8_2.length) = True := eq_true (by omega); (try rw [show ((1 : Int)).toNat = 1 from rfl] at hx163_0); replace p163 := eq_true p163; replace q163 := eq_true q163)))
                go_ret
                exact ⟨by rfl, by exact bW⟩
              ·obtain rfl := oI H
               obtain ⟨hcz97_0, hcz97_1, hcz97_2, hcz97_3, hcz97_4, hcz97_5⟩ := cz6 BK138.out
               obtain ⟨hfz97_0, hfz97_1, hfz97_2, hfz97_3, hfz97_4, hfz97_5⟩ := fz6 BK138.out
               go_wp2_with (first | (go_at_call 42; refine cD (spec_l01In.calls _ _ _ _ _ A58.out) fun nd => ?_; (try exact dq)) | (go_at_call 42; refine cD (spec_l01In.calls _ _ _ _ _ A73.out) fun nd => ?_; (try exact dq); obtain ⟨Ao98, co98, eo98⟩ := Kd.R_slice HO_8.out; subst eo98; have p162 : 0 ≤ (0 : Int) := (by omega); have q162 : 0 < (x8_2.length : Int) := oD (by assumption); obtain ⟨ad162, e162, hx162_0⟩ := Kd.at_int (Kd.R_reads' HO_8.out).2.2 0 p162 q162; cases e162; have qi162 : (0 < x8_2.length) = True := eq_true (by omega); (try rw [tn0] at hx162_0); (try rw [Addr.add_zero'] at hx162_0); replace p162 := eq_true p162; replace q162 := eq_true q162; have p163 : 0 ≤ (1 : Int) := (by omega); have q163 : 1 < (x8_2.length : Int) := oD (by assumption); obtain ⟨ad163, e163, hx163_0⟩ := Kd.at_int (Kd.R_reads' HO_8.out).2.2 1 p163 q163; obtain rfl : ad162 = ad163 := (by injection e163); (try simp only [show (1 : Int).toNat = 1 from rfl, Nat.reduceMul, Nat.reduceEqDiff, Go.Addr.add, ↓reduceIte] at hx163_0); have qi163 : (1 < x8_2.length) = True := eq_true (by omega); (try rw [show ((1 : Int)).toNat = 1 from rfl] at hx163_0); replace p163 := eq_true p163; replace q163 := eq_true q163))
               repeat (go_quiet (first | (go_at_call 42; refine cD (spec_l01In.calls _ _ _ _ _ A58.out) fun nd => ?_; (try exact dq)) | (go_at_call 42; refine cD (spec_l01In.calls _ _ _ _ _ A73.out) fun nd => ?_; (try exact dq); obtain ⟨Ao98, co98, eo98⟩ := Kd.R_slice HO_8.out; subst eo98; have p162 : 0 ≤ (0 : Int) := (by omega); have q162 : 0 < (x8_2.length : Int) := oD (by assumption); obtain ⟨ad162, e162, hx162_0⟩ := Kd.at_int (Kd.R_reads' HO_8.out).2.2 0 p162 q162; cases e162; have qi162 : (0 < x8_2.length) = True := eq_true (by omega); (try rw [tn0] at hx162_0); (try rw [Addr.add_zero'] at hx162_0); replace p162 := eq_true p162; replace q162 := eq_true q162; have p163 : 0 ≤ (1 : Int) := (by omega); have q163 : 1 < (x8_2.length : Int) := oD (by assumption); obtain ⟨ad163, e163, hx163_0⟩ := Kd.at_int (Kd.R_reads' HO_8.out).2.2 1 p163 q163; obtain rfl : ad162 = ad163 := (by injection e163); (try simp only [show (1 : Int).toNat = 1 from rfl, Nat.reduceMul, Nat.reduceEqDiff, Go.Addr.add, ↓reduceIte] at hx163_0); have qi163 : (1 < x8_2.length) = True := eq_true (by omega); (try rw [show ((1 : Int)).toNat = 1 from rfl] at hx163_0); replace p163 := eq_true p163; replace q163 := eq_true q163)); try go_wp2_with (first | (go_at_call 42; refine cD (spec_l01In.calls _ _ _ _ _ A58.out) fun nd => ?_; (try exact dq)) | (go_at_call 42; refine cD (spec_l01In.calls _ _ _ _ _ A73.out) fun nd => ?_; (try exact dq); obtain ⟨Ao98, co98, eo98⟩ := Kd.R_slice HO_8.out; subst eo98; have p162 : 0 ≤ (0 : Int) := (by omega); have q162 : 0 < (x8_2.length : Int) := oD (by assumption); obtain ⟨ad162, e162, hx162_0⟩ := Kd.at_int (Kd.R_reads' HO_8.out).2.2 0 p162 q162; cases e162; have qi162 : (0 < x8_2.length) = True := eq_true (by omega); (try rw [tn0] at hx162_0); (try rw [Addr.add_zero'] at hx162_0); replace p162 := eq_true p162; replace q162 := eq_true q162; have p163 : 0 ≤ (1 : Int) := (by omega); have q163 : 1 < (x8_2.length : Int) := oD (by assumption); obtain ⟨ad163, e163, hx163_0⟩ := Kd.at_int (Kd.R_reads' HO_8.out).2.2 1 p163 q163; obtain rfl : ad162 = ad163 := (by injection e163); (try simp only [show (1 : Int).toNat = 1 from rfl, Nat.reduceMul, Nat.reduceEqDiff, Go.Addr.add, ↓reduceIte] at hx163_0); have qi163 : (1 < x8_2.length) = True := eq_true (by omega); (try rw [show ((1 : Int)).toNat = 1 from rfl] at hx163_0); replace p163 := eq_true p163; replace q163 := eq_true q163)))
               go_ret
               exact ⟨by rfl, by exact bW⟩
             ·rw [if_neg c88] at H
              have c88b0 : (((rd_T31 l0 a1).f0) == 16) = false := beq_eq_false_iff_ne.mpr c88
              have c88b1 : (((rd_T31 l0 a1).f0) != 16) = true := bne_iff_ne.mpr c88
              by_cases c99 : ((rd_T31 l0 a1).f0) = 17
              ·rw [if_pos c99] at H
               have c99b0 : (((rd_T31 l0 a1).f0) == 17) = true := beq_iff_eq.mpr c99
               have c99b1 : (((rd_T31 l0 a1).f0) != 17) = false := bne_eq_false_iff_eq.mpr c99
               clear c99
               by_cases c100 : ((rd_T31 l0 a1).f2) ≥ 0
               ·rw [if_pos c100] at H
                have c100b0 : decide (0 ≤ ((rd_T31 l0 a1).f2)) = true := decide_eq_true c100
                clear c100
                replace H := iP H; obtain ⟨c101, H⟩ := H
                have c101b0 : decide (0 < (x8_2.length : Int)) = true := decide_eq_true c101
                have c101b1 : decide (0 < x8_2.length) = true := decide_eq_true (by omega)
                have c101p : 0 < x8_2.length := by omega
                clear c101
                replace H := iD H; rcases H with ⟨c102b0, H⟩ | ⟨c102b0, H⟩
                ·replace H := iE H; rcases H with ⟨c103b0, c103b1, H⟩ | ⟨c103b0, c103b1, H⟩
                 ·obtain rfl := oI H
                  obtain ⟨hcz104_0, hcz104_1, hcz104_2, hcz104_3, hcz104_4, hcz104_5⟩ := cz6 BK138.out
                  obtain ⟨hfz104_0, hfz104_1, hfz104_2, hfz104_3, hfz104_4, hfz104_5⟩ := fz6 BK138.out
                  go_wp2_with (first | (go_at_call 42; refine cD (spec_l01In.calls _ _ _ _ _ A58.out) fun nd => ?_; (try exact dq)) | (go_at_call 42; refine cD (spec_l01In.calls _ _ _ _ _ A73.out) fun nd => ?_; (try exact dq); obtain ⟨Ao105, co105, eo105⟩ := Kd.R_slice HO_8.out; subst eo105; have p164 : 0 ≤ (0 : Int) := (by omega); have q164 : 0 < (x8_2.length : Int) := oD (by assumption); obtain ⟨ad164, e164, hx164_0⟩ := Kd.at_int (Kd.R_reads' HO_8.out).2.2 0 p164 q164; cases e164; have qi164 : (0 < x8_2.length) = True := eq_true (by omega); (try rw [tn0] at hx164_0); (try rw [Addr.add_zero'] at hx164_0); replace p164 := eq_true p164; replace q164 := eq_true q164))
                  repeat (go_quiet (first | (go_at_call 42; refine cD (spec_l01In.calls _ _ _ _ _ A58.out) fun nd => ?_; (try exact dq)) | (go_at_call 42; refine cD (spec_l01In.calls _ _ _ _ _ A73.out) fun nd => ?_; (try exact dq); obtain ⟨Ao105, co105, eo105⟩ := Kd.R_slice HO_8.out; subst eo105; have p164 : 0 ≤ (0 : Int) := (by omega); have q164 : 0 < (x8_2.length : Int) := oD (by assumption); obtain ⟨ad164, e164, hx164_0⟩ := Kd.at_int (Kd.R_reads' HO_8.out).2.2 0 p164 q164; cases e164; have qi164 : (0 < x8_2.length) = True := eq_true (by omega); (try rw [tn0] at hx164_0); (try rw [Addr.add_zero'] at hx164_0); replace p164 := eq_true p164; replace q164 := eq_true q164)); try go_wp2_with (first | (go_at_call 42; refine cD (spec_l01In.calls _ _ _ _ _ A58.out) fun nd => ?_; (try exact dq)) | (go_at_call 42; refine cD (spec_l01In.calls _ _ _ _ _ A73.out) fun nd => ?_; (try exact dq); obtain ⟨Ao105, co105, eo105⟩ := Kd.R_slice HO_8.out; subst eo105; have p164 : 0 ≤ (0 : Int) := (by omega); have q164 : 0 < (x8_2.length : Int) := oD (by assumption); obtain ⟨ad164, e164, hx164_0⟩ := Kd.at_int (Kd.R_reads' HO_8.out).2.2 0 p164 q164; cases e164; have qi164 : (0 < x8_2.length) = True := eq_true (by omega); (try rw [tn0] at hx164_0); (try rw [Addr.add_zero'] at hx164_0); replace p164 := eq_true p164; replace q164 := eq_true q164)))
                  go_ret
                  exact ⟨by rfl, by exact bW⟩
                 ·obtain rfl := oI H
                  obtain ⟨hcz106_0, hcz106_1, hcz106_2, hcz106_3, hcz106_4, hcz106_5⟩ := cz6 BK138.out
                  obtain ⟨hfz106_0, hfz106_1, hfz106_2, hfz106_3, hfz106_4, hfz106_5⟩ := fz6 BK138.out
                  go_wp2_with (first | (go_at_call 42; refine cD (spec_l01In.calls _ _ _ _ _ A58.out) fun nd => ?_; (try exact dq)) | (go_at_call 42; refine cD (spec_l01In.calls _ _ _ _ _ A73.out) fun nd => ?_; (try exact dq); obtain ⟨Ao107, co107, eo107⟩ := Kd.R_slice HO_8.out; subst eo107; have p164 : 0 ≤ (0 : Int) := (by omega); have q164 : 0 < (x8_2.length : Int) := oD (by assumption); obtain ⟨ad164, e164, hx164_0⟩ := Kd.at_int (Kd.R_reads' HO_8.out).2.2 0 p164 q164; cases e164; have qi164 : (0 < x8_2.length) = True := eq_true (by omega); (try rw [tn0] at hx164_0); (try rw [Addr.add_zero'] at hx164_0); replace p164 := eq_true p164; replace q164 := eq_true q164))
                  repeat (go_quiet (first | (go_at_call 42; refine cD (spec_l01In.calls _ _ _ _ _ A58.out) fun nd => ?_; (try exact dq)) | (go_at_call 42; refine cD (spec_l01In.calls _ _ _ _ _ A73.out) fun nd => ?_; (try exact dq); obtain ⟨Ao107, co107, eo107⟩ := Kd.R_slice HO_8.out; subst eo107; have p164 : 0 ≤ (0 : Int) := (by omega); have q164 : 0 < (x8_2.length : Int) := oD (by assumption); obtain ⟨ad164, e164, hx164_0⟩ := Kd.at_int (Kd.R_reads' HO_8.out).2.2 0 p164 q164; cases e164; have qi164 : (0 < x8_2.length) = True := eq_true (by omega); (try rw [tn0] at hx164_0); (try rw [Addr.add_zero'] at hx164_0); replace p164 := eq_true p164; replace q164 := eq_true q164)); try go_wp2_with (first | (go_at_call 42; refine cD (spec_l01In.calls _ _ _ _ _ A58.out) fun nd => ?_; (try exact dq)) | (go_at_call 42; refine cD (spec_l01In.calls _ _ _ _ _ A73.out) fun nd => ?_; (try exact dq); obtain ⟨Ao107, co107, eo107⟩ := Kd.R_slice HO_8.out; subst eo107; have p164 : 0 ≤ (0 : Int) := (by omega); have q164 : 0 < (x8_2.length : Int) := oD (by assumption); obtain ⟨ad164, e164, hx164_0⟩ := Kd.at_int (Kd.R_reads' HO_8.out).2.2 0 p164 q164; cases e164; have qi164 : (0 < x8_2.length) = True := eq_true (by omega); (try rw [tn0] at hx164_0); (try rw [Addr.add_zero'] at hx164_0); replace p164 := eq_true p164; replace q164 := eq_true q164)))
                  go_ret
                  exact ⟨by rfl, by exact bW⟩
                ·obtain rfl := oI H
                 obtain ⟨hcz108_0, hcz108_1, hcz108_2, hcz108_3, hcz108_4, hcz108_5⟩ := cz6 BK138.out
                 obtain ⟨hfz108_0, hfz108_1, hfz108_2, hfz108_3, hfz108_4, hfz108_5⟩ := fz6 BK138.out
                 go_wp2_with (first | (go_at_call 42; refine cD (spec_l01In.calls _ _ _ _ _ A58.out) fun nd => ?_; (try exact dq)) | (go_at_call 42; refine cD (spec_l01In.calls _ _ _ _ _ A73.out) fun nd => ?_; (try exact dq); obtain ⟨Ao109, co109, eo109⟩ := Kd.R_slice HO_8.out; subst eo109; have p164 : 0 ≤ (0 : Int) := (by omega); have q164 : 0 < (x8_2.length : Int) := oD (by assumption); obtain ⟨ad164, e164, hx164_0⟩ := Kd.at_int (Kd.R_reads' HO_8.out).2.2 0 p164 q164; cases e164; have qi164 : (0 < x8_2.length) = True := eq_true (by omega); (try rw [tn0] at hx164_0); (try rw [Addr.add_zero'] at hx164_0); replace p164 := eq_true p164; replace q164 := eq_true q164))
                 repeat (go_quiet (first | (go_at_call 42; refine cD (spec_l01In.calls _ _ _ _ _ A58.out) fun nd => ?_; (try exact dq)) | (go_at_call 42; refine cD (spec_l01In.calls _ _ _ _ _ A73.out) fun nd => ?_; (try exact dq); obtain ⟨Ao109, co109, eo109⟩ := Kd.R_slice HO_8.out; subst eo109; have p164 : 0 ≤ (0 : Int) := (by omega); have q164 : 0 < (x8_2.length : Int) := oD (by assumption); obtain ⟨ad164, e164, hx164_0⟩ := Kd.at_int (Kd.R_reads' HO_8.out).2.2 0 p164 q164; cases e164; have qi164 : (0 < x8_2.length) = True := eq_true (by omega); (try rw [tn0] at hx164_0); (try rw [Addr.add_zero'] at hx164_0); replace p164 := eq_true p164; replace q164 := eq_true q164)); try go_wp2_with (first | (go_at_call 42; refine cD (spec_l01In.calls _ _ _ _ _ A58.out) fun nd => ?_; (try exact dq)) | (go_at_call 42; refine cD (spec_l01In.calls _ _ _ _ _ A73.out) fun nd => ?_; (try exact dq); obtain ⟨Ao109, co109, eo109⟩ := Kd.R_slice HO_8.out; subst eo109; have p164 : 0 ≤ (0 : Int) := (by omega); have q164 : 0 < (x8_2.length : Int) := oD (by assumption); obtain ⟨ad164, e164, hx164_0⟩ := Kd.at_int (Kd.R_reads' HO_8.out).2.2 0 p164 q164; cases e164; have qi164 : (0 < x8_2.length) = True := eq_true (by omega); (try rw [tn0] at hx164_0); (try rw [Addr.add_zero'] at hx164_0); replace p164 := eq_true p164; replace q164 := eq_true q164)))
                 go_ret
                 exact ⟨by rfl, by exact bW⟩
               ·rw [if_neg c100] at H
                have c100b0 : decide (0 ≤ ((rd_T31 l0 a1).f2)) = false := decide_eq_false c100
                clear c100
                obtain rfl := oI H
                obtain ⟨hcz110_0, hcz110_1, hcz110_2, hcz110_3, hcz110_4, hcz110_5⟩ := cz6 BK138.out
                obtain ⟨hfz110_0, hfz110_1, hfz110_2, hfz110_3, hfz110_4, hfz110_5⟩ := fz6 BK138.out
                go_wp2_with (first | (go_at_call 42; refine cD (spec_l01In.calls _ _ _ _ _ A58.out) fun nd => ?_; (try exact dq)) | (go_at_call 42; refine cD (spec_l01In.calls _ _ _ _ _ A73.out) fun nd => ?_; (try exact dq)))
                repeat (go_quiet (first | (go_at_call 42; refine cD (spec_l01In.calls _ _ _ _ _ A58.out) fun nd => ?_; (try exact dq)) | (go_at_call 42; refine cD (spec_l01In.calls _ _ _ _ _ A73.out) fun nd => ?_; (try exact dq))); try go_wp2_with (first | (go_at_call 42; refine cD (spec_l01In.calls _ _ _ _ _ A58.out) fun nd => ?_; (try exact dq)) | (go_at_call 42; refine cD (spec_l01In.calls _ _ _ _ _ A73.out) fun nd => ?_; (try exact dq))))
                go_ret
                exact ⟨by rfl, by exact bW⟩
              ·rw [if_neg c99] at H
               have c99b0 : (((rd_T31 l0 a1).f0) == 17) = false := beq_eq_false_iff_ne.mpr c99
               have c99b1 : (((rd_T31 l0 a1).f0) != 17) = true := bne_iff_ne.mpr c99
               by_cases c111 : ((rd_T31 l0 a1).f0) = 18
               ·rw [if_pos c111] at H
                have c111b0 : (((rd_T31 l0 a1).f0) == 18) = true := beq_iff_eq.mpr c111
                have c111b1 : (((rd_T31 l0 a1).f0) != 18) = false := bne_eq_false_iff_eq.mpr c111
                clear c111
                replace H := iP H; obtain ⟨c112, H⟩ := H
                have c112b0 : decide (0 < (x8_2.length : Int)) = true := decide_eq_true c112
                have c112b1 : decide (0 < x8_2.length) = true := decide_eq_true (by omega)
                have c112p : 0 < x8_2.length := by omega
                clear c112
                replace H := iE H; rcases H with ⟨c113b0, c113b1, H⟩ | ⟨c113b0, c113b1, H⟩
                ·replace H := iP H; obtain ⟨c114, H⟩ := H
                 have c114b0 : decide (1 < (x8_2.length : Int)) = true := decide_eq_true c114
                 have c114b1 : decide (1 < x8_2.length) = true := decide_eq_true (by omega)
                 clear c114
                 replace H := iE H; rcases H with ⟨c115b0, c115b1, H⟩ | ⟨c115b0, c115b1, H⟩
                 ·replace H := iP H; obtain ⟨c116, H⟩ := H
                  have c116b0 : decide (2 < (x8_2.length : Int)) = true := decide_eq_true c116
                  have c116b1 : decide (2 < x8_2.length) = true := decide_eq_true (by omega)
                  clear c116
                  replace H := iE H; rcases H with ⟨c117b0, c117b1, H⟩ | ⟨c117b0, c117b1, H⟩
                  ·obtain rfl := oI H
                   obtain ⟨hcz118_0, hcz118_1, hcz118_2, hcz118_3, hcz118_4, hcz118_5⟩ := cz6 BK138.out
                   obtain ⟨hfz118_0, hfz118_1, hfz118_2, hfz118_3, hfz118_4, hfz118_5⟩ := fz6 BK138.out
                   go_wp2_with (first | (go_at_call 42; refine cD (spec_l01In.calls _ _ _ _ _ A58.out) fun nd => ?_; (try exact dq)) | (go_at_call 42; refine cD (spec_l01In.calls _ _ _ _ _ A73.out) fun nd => ?_; (try exact dq); obtain ⟨Ao119, co119, eo119⟩ := Kd.R_slice HO_8.out; subst eo119; have p165 : 0 ≤ (0 : Int) := (by omega); have q165 : 0 < (x8_2.length : Int) := oD (by assumption); obtain ⟨ad165, e165, hx165_0⟩ := Kd.at_int (Kd.R_reads' HO_8.out).2.2 0 p165 q165; cases e165; have qi165 : (0 < x8_2.length) = True := eq_true (by omega); (try rw [tn0] at hx165_0); (try rw [Addr.add_zero'] at hx165_0); replace p165 := eq_true p165; replace q165 := eq_true q165; have p166 : 0 ≤ (1 : Int) := (by omega); have q166 : 1 < (x8_2.length : Int) := oD (by assumption); obtain ⟨ad166, e166, hx166_0⟩ := Kd.at_int (Kd.R_reads' HO_8.out).2.2 1 p166 q166; obtain rfl : ad165 = ad166 := (by injection e166); (try simp only [show (1 : Int).toNat = 1 from rfl, Nat.reduceMul, Nat.reduceEqDiff, Go.Addr.add, ↓reduceIte] at hx166_0); have qi166 : (1 < x8_2.length) = True := eq_true (by omega); (try rw [show ((1 : Int)).toNat = 1 from rfl] at hx166_0); replace p166 := eq_true p166; replace q166 := eq_true q166; have p167 : 0 ≤ (2 : Int) := (by omega); have q167 : 2 < (x8_2.length : Int) := oD (by assumption); obtain ⟨ad167, e167, hx167_0⟩ := Kd.at_int (Kd.R_reads' HO_8.out).2.2 2 p167 q167; obtain rfl : ad165 = ad167 := (by injection e167); (try simp only [show (2 : Int).toNat = 2 from rfl, Nat.reduceMul, Nat.reduceEqDiff, Go.Addr.add, ↓reduceIte] at hx167_0); have qi167 : (2 < x8_2.length) = True := eq_true (by omega); (try rw [show ((2 : Int)).toNat = 2 from rfl] at hx167_0); replace p167 := eq_true p167; replace q167 := eq_true q167))
                   repeat (go_quiet (first | (go_at_call 42; refine cD (spec_l01In.calls _ _ _ _ _ A58.out) fun nd => ?_; (try exact dq)) | (go_at_call 42; refine cD (spec_l01In.calls _ _ _ _ _ A73.out) fun nd => ?_; (try exact dq); obtain ⟨Ao119, co119, eo119⟩ := Kd.R_slice HO_8.out; subst eo119; have p165 : 0 ≤ (0 : Int) := (by omega); have q165 : 0 < (x8_2.length : Int) := oD (by assumption); obtain ⟨ad165, e165, hx165_0⟩ := Kd.at_int (Kd.R_reads' HO_8.out).2.2 0 p165 q165; cases e165; have qi165 : (0 < x8_2.length) = True := eq_true (by omega); (try rw [tn0] at hx165_0); (try rw [Addr.add_zero'] at hx165_0); replace p165 := eq_true p165; replace q165 := eq_true q165; have p166 : 0 ≤ (1 : Int) := (by omega); have q166 : 1 < (x8_2.length : Int) := oD (by assumption); obtain ⟨ad166, e166, hx166_0⟩ := Kd.at_int (Kd.R_reads' HO_8.out).2.2 1 p166 q166; obtain rfl : ad165 = ad166 := (by injection e166); (try simp only [show (1 : Int).toNat = 1 from rfl, Nat.reduceMul, Nat.reduceEqDiff, Go.Addr.add, ↓reduceIte] at hx166_0); have qi166 : (1 < x8_2.length) = True := eq_true (by omega); (try rw [show ((1 : Int)).toNat = 1 from rfl] at hx166_0); replace p166 := eq_true p166; replace q166 := eq_true q166; have p167 : 0 ≤ (2 : Int) := (by omega); have q167 : 2 < (x8_2.length : Int) := oD (by assumption); obtain ⟨ad167, e167, hx167_0⟩ := Kd.at_int (Kd.R_reads' HO_8.out).2.2 2 p167 q167; obtain rfl : ad165 = ad167 := (by injection e167); (try simp only [show (2 : Int).toNat = 2 from rfl, Nat.reduceMul, Nat.reduceEqDiff, Go.Addr.add, ↓reduceIte] at hx167_0); have qi167 : (2 < x8_2.length) = True := eq_true (by omega); (try rw [show ((2 : Int)).toNat = 2 from rfl] at hx167_0); replace p167 := eq_true p167; replace q167 := eq_true q167)); try go_wp2_with (first | (go_at_call 42; refine cD (spec_l01In.calls _ _ _ _ _ A58.out) fun nd => ?_; (try exact dq)) | (go_at_call 42; refine cD (spec_l01In.calls _ _ _ _ _ A73.out) fun nd => ?_; (try exact dq); obtain ⟨Ao119, co119, eo119⟩ := Kd.R_slice HO_8.out; subst eo119; have p165 : 0 ≤ (0 : Int) := (by omega); have q165 : 0 < (x8_2.length : Int) := oD (by assumption); obtain ⟨ad165, e165, hx165_0⟩ := Kd.at_int (Kd.R_reads' HO_8.out).2.2 0 p165 q165; cases e165; have qi165 : (0 < x8_2.length) = True := eq_true (by omega); (try rw [tn0] at hx165_0); (try rw [Addr.add_zero'] at hx165_0); replace p165 := eq_true p165; replace q165 := eq_true q165; have p166 : 0 ≤ (1 : Int) := (by omega); have q166 : 1 < (x8_2.length : Int) := oD (by assumption); obtain ⟨ad166, e166, hx166_0⟩ := Kd.at_int (Kd.R_reads' HO_8.out).2.2 1 p166 q166; obtain rfl : ad165 = ad166 := (by injection e166); (try simp only [show (1 : Int).toNat = 1 from rfl, Nat.reduceMul, Nat.reduceEqDiff, Go.Addr.add, ↓reduceIte] at hx166_0); have qi166 : (1 < x8_2.length) = True := eq_true (by omega); (try rw [show ((1 : Int)).toNat = 1 from rfl] at hx166_0); replace p166 := eq_true p166; replace q166 := eq_true q166; have p167 : 0 ≤ (2 : Int) := (by omega); have q167 : 2 < (x8_2.length : Int) := oD (by assumption); obtain ⟨ad167, e167, hx167_0⟩ := Kd.at_int (Kd.R_reads' HO_8.out).2.2 2 p167 q167; obtain rfl : ad165 = ad167 := (by injection e167); (try simp only [show (2 : Int).toNat = 2 from rfl, Nat.reduceMul, Nat.reduceEqDiff, Go.Addr.add, ↓reduceIte] at hx167_0); have qi167 : (2 < x8_2.length) = True := eq_true (by omega); (try rw [show ((2 : Int)).toNat = 2 from rfl] at hx167_0); replace p167 := eq_true p167; replace q167 := eq_true q167)))
                   go_ret
                   exact ⟨by rfl, by exact bW⟩
                  ·obtain rfl := oI H
                   obtain ⟨hcz120_0, hcz120_1, hcz120_2, hcz120_3, hcz120_4, hcz120_5⟩ := cz6 BK138.out
                   obtain ⟨hfz120_0, hfz120_1, hfz120_2, hfz120_3, hfz120_4, hfz120_5⟩ := fz6 BK138.out
                   go_wp2_with (first | (go_at_call 42; refine cD (spec_l01In.calls _ _ _ _ _ A58.out) fun nd => ?_; (try exact dq)) | (go_at_call 42; refine cD (spec_l01In.calls _ _ _ _ _ A73.out) fun nd => ?_; (try exact dq); obtain ⟨Ao121, co121, eo121⟩ := Kd.R_slice HO_8.out; subst eo121; have p165 : 0 ≤ (0 : Int) := (by omega); have q165 : 0 < (x8_2.length : Int) := oD (by assumption); obtain ⟨ad165, e165, hx165_0⟩ := Kd.at_int (Kd.R_reads' HO_8.out).2.2 0 p165 q165; cases e165; have qi165 : (0 < x8_2.length) = True := eq_true (by omega); (try rw [tn0] at hx165_0); (try rw [Addr.add_zero'] at hx165_0); replace p165 := eq_true p165; replace q165 := eq_true q165; have p166 : 0 ≤ (1 : Int) := (by omega); have q166 : 1 < (x8_2.length : Int) := oD (by assumption); obtain ⟨ad166, e166, hx166_0⟩ := Kd.at_int (Kd.R_reads' HO_8.out).2.2 1 p166 q166; obtain rfl : ad165 = ad166 := (by injection e166); (try simp only [show (1 : Int).toNat = 1 from rfl, Nat.reduceMul, Nat.reduceEqDiff, Go.Addr.add, ↓reduceIte] at hx166_0); have qi166 : (1 < x8_2.length) = True := eq_true (by omega); (try rw [show ((1 : Int)).toNat = 1 from rfl] at hx166_0); replace p166 := eq_true p166; replace q166 := eq_true q166; have p167 : 0 ≤ (2 : Int) := (by omega); have q167 : 2 < (x8_2.length : Int) := oD (by assumption); obtain ⟨ad167, e167, hx167_0⟩ := Kd.at_int (Kd.R_reads' HO_8.out).2.2 2 p167 q167; obtain rfl : ad165 = ad167 := (by injection e167); (try simp only [show (2 : Int).toNat = 2 from rfl, Nat.reduceMul, Nat.reduceEqDiff, Go.Addr.add, ↓reduceIte] at hx167_0); have qi167 : (2 < x8_2.length) = True := eq_true (by omega); (try rw [show ((2 : Int)).toNat = 2 from rfl] at hx167_0); replace p167 := eq_true p167; replace q167 := eq_true q167))
                   repeat (go_quiet (first | (go_at_call 42; refine cD (spec_l01In.calls _ _ _ _ _ A58.out) fun nd => ?_; (try exact dq)) | (go_at_call 42; refine cD (spec_l01In.calls _ _ _ _ _ A73.out) fun nd => ?_; (try exact dq); obtain ⟨Ao121, co121, eo121⟩ := Kd.R_slice HO_8.out; subst eo121; have p165 : 0 ≤ (0 : Int) := (by omega); have q165 : 0 < (x8_2.length : Int) := oD (by assumption); obtain ⟨ad165, e165, hx165_0⟩ := Kd.at_int (Kd.R_reads' HO_8.out).2.2 0 p165 q165; cases e165; have qi165 : (0 < x8_2.length) = True := eq_true (by omega); (try rw [tn0] at hx165_0); (try rw [Addr.add_zero'] at hx165_0); replace p165 := eq_true p165; replace q165 := eq_true q165; have p166 : 0 ≤ (1 : Int) := (by omega); have q166 : 1 < (x8_2.length : Int) := oD (by assumption); obtain ⟨ad166, e166, hx166_0⟩ := Kd.at_int (Kd.R_reads' HO_8.out).2.2 1 p166 q166; obtain rfl : ad165 = ad166 := (by injection e166); (try simp only [show (1 : Int).toNat = 1 from rfl, Nat.reduceMul, Nat.reduceEqDiff, Go.Addr.add, ↓reduceIte] at hx166_0); have qi166 : (1 < x8_2.length) = True := eq_true (by omega); (try rw [show ((1 : Int)).toNat = 1 from rfl] at hx166_0); replace p166 := eq_true p166; replace q166 := eq_true q166; have p167 : 0 ≤ (2 : Int) := (by omega); have q167 : 2 < (x8_2.length : Int) := oD (by assumption); obtain ⟨ad167, e167, hx167_0⟩ := Kd.at_int (Kd.R_reads' HO_8.out).2.2 2 p167 q167; obtain rfl : ad165 = ad167 := (by injection e167); (try simp only [show (2 : Int).toNat = 2 from rfl, Nat.reduceMul, Nat.reduceEqDiff, Go.Addr.add, ↓reduceIte] at hx167_0); have qi167 : (2 < x8_2.length) = True := eq_true (by omega); (try rw [show ((2 : Int)).toNat = 2 from rfl] at hx167_0); replace p167 := eq_true p167; replace q167 := eq_true q167)); try go_wp2_with (first | (go_at_call 42; refine cD (spec_l01In.calls _ _ _ _ _ A58.out) fun nd => ?_; (try exact dq)) | (go_at_call 42; refine cD (spec_l01In.calls _ _ _ _ _ A73.out) fun nd => ?_; (try exact dq); obtain ⟨Ao121, co121, eo121⟩ := Kd.R_slice HO_8.out; subst eo121; have p165 : 0 ≤ (0 : Int) := (by omega); have q165 : 0 < (x8_2.length : Int) := oD (by assumption); obtain ⟨ad165, e165, hx165_0⟩ := Kd.at_int (Kd.R_reads' HO_8.out).2.2 0 p165 q165; cases e165; have qi165 : (0 < x8_2.length) = True := eq_true (by omega); (try rw [tn0] at hx165_0); (try rw [Addr.add_zero'] at hx165_0); replace p165 := eq_true p165; replace q165 := eq_true q165; have p166 : 0 ≤ (1 : Int) := (by omega); have q166 : 1 < (x8_2.length : Int) := oD (by assumption); obtain ⟨ad166, e166, hx166_0⟩ := Kd.at_int (Kd.R_reads' HO_8.out).2.2 1 p166 q166; obtain rfl : ad165 = ad166 := (by injection e166); (try simp only [show (1 : Int).toNat = 1 from rfl, Nat.reduceMul, Nat.reduceEqDiff, Go.Addr.add, ↓reduceIte] at hx166_0); have qi166 : (1 < x8_2.length) = True := eq_true (by omega); (try rw [show ((1 : Int)).toNat = 1 from rfl] at hx166_0); replace p166 := eq_true p166; replace q166 := eq_true q166; have p167 : 0 ≤ (2 : Int) := (by omega); have q167 : 2 < (x8_2.length : Int) := oD (by assumption); obtain ⟨ad167, e167, hx167_0⟩ := Kd.at_int (Kd.R_reads' HO_8.out).2.2 2 p167 q167; obtain rfl : ad165 = ad167 := (by injection e167); (try simp only [show (2 : Int).toNat = 2 from rfl, Nat.reduceMul, Nat.reduceEqDiff, Go.Addr.add, ↓reduceIte] at hx167_0); have qi167 : (2 < x8_2.length) = True := eq_true (by omega); (try rw [show ((2 : Int)).toNat = 2 from rfl] at hx167_0); replace p167 := eq_true p167; replace q167 := eq_true q167)))
                   go_ret
                   exact ⟨by rfl, by exact bW⟩
                 ·obtain rfl := oI H
                  obtain ⟨hcz122_0, hcz122_1, hcz122_2, hcz122_3, hcz122_4, hcz122_5⟩ := cz6 BK138.out
                  obtain ⟨hfz122_0, hfz122_1, hfz122_2, hfz122_3, hfz122_4, hfz122_5⟩ := fz6 BK138.out
                  go_wp2_with (first | (go_at_call 42; refine cD (spec_l01In.calls _ _ _ _ _ A58.out) fun nd => ?_; (try exact dq)) | (go_at_call 42; refine cD (spec_l01In.calls _ _ _ _ _ A73.out) fun nd => ?_; (try exact dq); obtain ⟨Ao123, co123, eo123⟩ := Kd.R_slice HO_8.out; subst eo123; have p165 : 0 ≤ (0 : Int) := (by omega); have q165 : 0 < (x8_2.length : Int) := oD (by assumption); obtain ⟨ad165, e165, hx165_0⟩ := Kd.at_int (Kd.R_reads' HO_8.out).2.2 0 p165 q165; cases e165; have qi165 : (0 < x8_2.length) = True := eq_true (by omega); (try rw [tn0] at hx165_0); (try rw [Addr.add_zero'] at hx165_0); replace p165 := eq_true p165; replace q165 := eq_true q165; have p166 : 0 ≤ (1 : Int) := (by omega); have q166 : 1 < (x8_2.length : Int) := oD (by assumption); obtain ⟨ad166, e166, hx166_0⟩ := Kd.at_int (Kd.R_reads' HO_8.out).2.2 1 p166 q166; obtain rfl : ad165 = ad166 := (by injection e166); (try simp only [show (1 : Int).toNat = 1 from rfl, Nat.reduceMul, Nat.reduceEqDiff, Go.Addr.add, ↓reduceIte] at hx166_0); have qi166 : (1 < x8_2.length) = True := eq_true (by omega); (try rw [show ((1 : Int)).toNat = 1 from rfl] at hx166_0); replace p166 := eq_true p166; replace q166 := eq_true q166))
                  repeat (go_quiet (first | (go_at_call 42; refine cD (spec_l01In.calls _ _ _ _ _ A58.out) fun nd => ?_; (try exact dq)) | (go_at_call 42; refine cD (spec_l01In.calls _ _ _ _ _ A73.out) fun nd => ?_; (try exact dq); obtain ⟨Ao123, co123, eo123⟩ := Kd.R_slice HO_8.out; subst eo123; have p165 : 0 ≤ (0 : Int) := (by omega); have q165 : 0 < (x8_2.length : Int) := oD (by assumption); obtain ⟨ad165, e165, hx165_0⟩ := Kd.at_int (Kd.R_reads' HO_8.out).2.2 0 p165 q165; cases e165; have qi165 : (0 < x8_2.length) = True := eq_true (by omega); (try rw [tn0] at hx165_0); (try rw [Addr.add_zero'] at hx165_0); replace p165 := eq_true p165; replace q165 := eq_true q165; have p166 : 0 ≤ (1 : Int) := (by omega); have q166 : 1 < (x8_2.length : Int) := oD (by assumption); obtain ⟨ad166, e166, hx166_0⟩ := Kd.at_int (Kd.R_reads' HO_8.out).2.2 1 p166 q166; obtain rfl : ad165 = ad166 := (by injection e166); (try simp only [show (1 : Int).toNat = 1 from rfl, Nat.reduceMul, Nat.reduceEqDiff, Go.Addr.add, ↓reduceIte] at hx166_0); have qi166 : (1 < x8_2.length) = True := eq_true (by omega); (try rw [show ((1 : Int)).toNat = 1 from rfl] at hx166_0); replace p166 := eq_true p166; replace q166 := eq_true q166)); try go_wp2_with (first | (go_at_call 42; refine cD (spec_l01In.calls _ _ _ _ _ A58.out) fun nd => ?_; (try exact dq)) | (go_at_call 42; refine cD (spec_l01In.calls _ _ _ _ _ A73.out) fun nd => ?_; (try exact dq); obtain ⟨Ao123, co123, eo123⟩ := Kd.R_slice HO_8.out; subst eo123; have p165 : 0 ≤ (0 : Int) := (by omega); have q165 : 0 < (x8_2.length : Int) := oD (by assumption); obtain ⟨ad165, e165, hx165_0⟩ := Kd.at_int (Kd.R_reads' HO_8.out).2.2 0 p165 q165; cases e165; have qi165 : (0 < x8_2.length) = True := eq_true (by omega); (try rw [tn0] at hx165_0); (try rw [Addr.add_zero'] at hx165_0); replace p165 := eq_true p165; replace q165 := eq_true q165; have p166 : 0 ≤ (1 : Int) := (by omega); have q166 : 1 < (x8_2.length : Int) := oD (by assumption); obtain ⟨ad166, e166, hx166_0⟩ := Kd.at_int (Kd.R_reads' HO_8.out).2.2 1 p166 q166; obtain rfl : ad165 = ad166 := (by injection e166); (try simp only [show (1 : Int).toNat = 1 from rfl, Nat.reduceMul, Nat.reduceEqDiff, Go.Addr.add, ↓reduceIte] at hx166_0); have qi166 : (1 < x8_2.length) = True := eq_true (by omega); (try rw [show ((1 : Int)).toNat = 1 from rfl] at hx166_0); replace p166 := eq_true p166; replace q166 := eq_true q166)))
                  go_ret
                  exact ⟨by rfl, by exact bW⟩
                ·obtain rfl := oI H
                 obtain ⟨hcz124_0, hcz124_1, hcz124_2, hcz124_3, hcz124_4, hcz124_5⟩ := cz6 BK138.out
                 obtain ⟨hfz124_0, hfz124_1, hfz124_2, hfz124_3, hfz124_4, hfz124_5⟩ := fz6 BK138.out
                 go_wp2_with (first | (go_at_call 42; refine cD (spec_l01In.calls _ _ _ _ _ A58.out) fun nd => ?_; (try exact dq)) | (go_at_call 42; refine cD (spec_l01In.calls _ _ _ _ _ A73.out) fun nd => ?_; (try exact dq); obtain ⟨Ao125, co125, eo125⟩ := Kd.R_slice HO_8.out; subst eo125; have p165 : 0 ≤ (0 : Int) := (by omega); have q165 : 0 < (x8_2.length : Int) := oD (by assumption); obtain ⟨ad165, e165, hx165_0⟩ := Kd.at_int (Kd.R_reads' HO_8.out).2.2 0 p165 q165; cases e165; have qi165 : (0 < x8_2.length) = True := eq_true (by omega); (try rw [tn0] at hx165_0); (try rw [Addr.add_zero'] at hx165_0); replace p165 := eq_true p165; replace q165 := eq_true q165))
                 repeat (go_quiet (first | (go_at_call 42; refine cD (spec_l01In.calls _ _ _ _ _ A58.out) fun nd => ?_; (try exact dq)) | (go_at_call 42; refine cD (spec_l01In.calls _ _ _ _ _ A73.out) fun nd => ?_; (try exact dq); obtain ⟨Ao125, co125, eo125⟩ := Kd.R_slice HO_8.out; subst eo125; have p165 : 0 ≤ (0 : Int) := (by omega); have q165 : 0 < (x8_2.length : Int) := oD (by assumption); obtain ⟨ad165, e165, hx165_0⟩ := Kd.at_int (Kd.R_reads' HO_8.out).2.2 0 p165 q165; cases e165; have qi165 : (0 < x8_2.length) = True := eq_true (by omega); (try rw [tn0] at hx165_0); (try rw [Addr.add_zero'] at hx165_0); replace p165 := eq_true p165; replace q165 := eq_true q165)); try go_wp2_with (first | (go_at_call 42; refine cD (spec_l01In.calls _ _ _ _ _ A58.out) fun nd => ?_; (try exact dq)) | (go_at_call 42; refine cD (spec_l01In.calls _ _ _ _ _ A73.out) fun nd => ?_; (try exact dq); obtain ⟨Ao125, co125, eo125⟩ := Kd.R_slice HO_8.out; subst eo125; have p165 : 0 ≤ (0 : Int) := (by omega); have q165 : 0 < (x8_2.length : Int) := oD (by assumption); obtain ⟨ad165, e165, hx165_0⟩ := Kd.at_int (Kd.R_reads' HO_8.out).2.2 0 p165 q165; cases e165; have qi165 : (0 < x8_2.length) = True := eq_true (by omega); (try rw [tn0] at hx165_0); (try rw [Addr.add_zero'] at hx165_0); replace p165 := eq_true p165; replace q165 := eq_true q165)))
                 go_ret
                 exact ⟨by rfl, by exact bW⟩
               ·rw [if_neg c111] at H
                have c111b0 : (((rd_T31 l0 a1).f0) == 18) = false := beq_eq_false_iff_ne.mpr c111
                have c111b1 : (((rd_T31 l0 a1).f0) != 18) = true := bne_iff_ne.mpr c111
                have HC126 := am H; clear H
                obtain ⟨hcz127_0, hcz127_1, hcz127_2, hcz127_3, hcz127_4, hcz127_5⟩ := cz6 BK138.out
                obtain ⟨hfz127_0, hfz127_1, hfz127_2, hfz127_3, hfz127_4, hfz127_5⟩ := fz6 BK138.out
                go_upto_region 31 with (first | (go_at_call 42; refine cD (spec_l01In.calls _ _ _ _ _ A58.out) fun nd => ?_; (try exact dq)) | (go_at_call 42; refine cD (spec_l01In.calls _ _ _ _ _ A73.out) fun nd => ?_; (try exact dq)))
                repeat (go_quiet (first | (go_at_call 42; refine cD (spec_l01In.calls _ _ _ _ _ A58.out) fun nd => ?_; (try exact dq)) | (go_at_call 42; refine cD (spec_l01In.calls _ _ _ _ _ A73.out) fun nd => ?_; (try exact dq))); go_upto_region 31 with (first | (go_at_call 42; refine cD (spec_l01In.calls _ _ _ _ _ A58.out) fun nd => ?_; (try exact dq)) | (go_at_call 42; refine cD (spec_l01In.calls _ _ _ _ _ A73.out) fun nd => ?_; (try exact dq))))
                (try simp only [Act.put, List.setIfInBounds_toArray, List.set_cons_zero, List.set_cons_succ])
                go_cut [258] (fun v258 wc => ∃ (kq : Nat) (x258_125 : Bool), v258 = .bool x258_125 ∧ Aside0 (spec_l02Node.j2 kq x8_2 x258_125 ((rd_T31 l0 a1).f0) ((rd_T31 l0 a1).f1) ((rd_T31 l0 a1).f2) ((rd_T31 l0 a1).f3) ((rd_T31 l0 a1).f4) ((rd_T31 l0 a1).f5) = some r) ∧ Aside0 (kq ≤ k2) ∧ Aside0 (Kd.R (Kd.int .i64) 3 wc w.heap.size (fun _ => True) u8 x8_2) ∧ Aside0 (wc.heap[gb138]? = some (.cells #[.int .i64 ((rd_T31 l0 a1).f0), .int .i64 ((rd_T31 l0 a1).f1), .int .i64 ((rd_T31 l0 a1).f2), .int .i64 ((rd_T31 l0 a1).f3), .int .i64 ((rd_T31 l0 a1).f4), .int .i64 ((rd_T31 l0 a1).f5)] 31 (0, 0))) ∧ Aside0 (Below w.heap.size w wc))
                case first =>
                 have H := HC126.out
                 clear HC126
                 replace H := iE H; rcases H with ⟨c128b0, c128b1, H⟩ | ⟨c128b0, c128b1, H⟩
                 ·have H' := am H
                  clear H
                  obtain ⟨hcz129_0, hcz129_1, hcz129_2, hcz129_3, hcz129_4, hcz129_5⟩ := cz6 BK138.out
                  obtain ⟨hfz129_0, hfz129_1, hfz129_2, hfz129_3, hfz129_4, hfz129_5⟩ := fz6 BK138.out
                  go_wp2
                  repeat (go_quiet (fail); try go_wp2)
                  go_meet
                  case rel => exact ⟨_, (true), (by rfl), H', ⟨by have := HK1.out; have := HK2.out; omega⟩, ⟨by exact sR <| Kd.R_mono HO_8.out (fun _ hk => trivial)⟩, ⟨by exact sB <| BK138.out⟩, ⟨by exact bW⟩⟩
                 ·have H' := am H
                  clear H
                  obtain ⟨hcz130_0, hcz130_1, hcz130_2, hcz130_3, hcz130_4, hcz130_5⟩ := cz6 BK138.out
                  obtain ⟨hfz130_0, hfz130_1, hfz130_2, hfz130_3, hfz130_4, hfz130_5⟩ := fz6 BK138.out
                  go_wp2
                  repeat (go_quiet (fail); try go_wp2)
                  go_meet
                  case rel => exact ⟨_, ((((rd_T31 l0 a1).f0) == 20)), (by rfl), H', ⟨by have := HK1.out; have := HK2.out; omega⟩, ⟨by exact sR <| Kd.R_mono HO_8.out (fun _ hk => trivial)⟩, ⟨by exact sB <| BK138.out⟩, ⟨by exact bW⟩⟩
                case rest =>
                 clear HC126
                 clear c88 c88b0 c88b1 c99 c99b0 c99b1 c111 c111b0 c111b1 hcz127_0 hcz127_1 hcz127_2 hcz127_3 hcz127_4 hcz127_5 hfz127_0 hfz127_1 hfz127_2 hfz127_3 hfz127_4 hfz127_5
                 obtain ⟨kq, x258_125, rfl, HA, HJ125, HO_8, BK138, HB⟩ := hcut
                 cases kq with
                 | zero => exact absurd HA.out (by simp [spec_l02Node.j2])
                 | succ kj125 =>
                  have H := HA.out
                  clear HA
                  simp only [spec_l02Node.j2] at H
                  replace H := iB H; rcases H with ⟨rfl, H⟩ | ⟨rfl, H⟩
                  ·replace H := oA H; obtain ⟨t168, A132, H⟩ := H
                   replace H := iB H; rcases H with ⟨rfl, H⟩ | ⟨rfl, H⟩
                   ·replace H := oA H; obtain ⟨t169, A134, H⟩ := H
                    replace H := iB H; rcases H with ⟨rfl, H⟩ | ⟨rfl, H⟩
                    ·replace H := iP H; obtain ⟨c136, H⟩ := H
                     have c136b0 : decide (0 < (x8_2.length : Int)) = true := decide_eq_true c136
                     have c136b1 : decide (0 < x8_2.length) = true := decide_eq_true (by omega)
                     have c136p : 0 < x8_2.length := by omega
                     clear c136
                     replace H := iE H; rcases H with ⟨c137b0, c137b1, H⟩ | ⟨c137b0, c137b1, H⟩
                     ·replace H := iE H; rcases H with ⟨c138b0, c138b1, H⟩ | ⟨c138b0, c138b1, H⟩
                      ·obtain rfl := oI H
                       obtain ⟨hcz139_0, hcz139_1, hcz139_2, hcz139_3, hcz139_4, hcz139_5⟩ := cz6 BK138.out
                       obtain ⟨hfz139_0, hfz139_1, hfz139_2, hfz139_3, hfz139_4, hfz139_5⟩ := fz6 BK138.out
                       go_wp2_with (first | (go_at_call 42; refine cD (spec_l01In.calls _ _ _ _ _ A132.out) fun nd => ?_; (try exact dq)) | (go_at_call 42; refine cD (spec_l01In.calls _ _ _ _ _ A134.out) fun nd => ?_; (try exact dq); obtain ⟨Ao140, co140, eo140⟩ := Kd.R_slice HO_8.out; subst eo140; have p170 : 0 ≤ (0 : Int) := (by omega); have q170 : 0 < (x8_2.length : Int) := oD (by assumption); obtain ⟨ad170, e170, hx170_0⟩ := Kd.at_int (Kd.R_reads' HO_8.out).2.2 0 p170 q170; cases e170; have qi170 : (0 < x8_2.length) = True := eq_true (by omega); (try rw [tn0] at hx170_0); (try rw [Addr.add_zero'] at hx170_0); replace p170 := eq_true p170; replace q170 := eq_true q170))
                       go_ret
                       exact ⟨by rfl, by exact bW⟩
                      ·obtain rfl := oI H
                       obtain ⟨hcz141_0, hcz141_1, hcz141_2, hcz141_3, hcz141_4, hcz141_5⟩ := cz6 BK138.out
                       obtain ⟨hfz141_0, hfz141_1, hfz141_2, hfz141_3, hfz141_4, hfz141_5⟩ := fz6 BK138.out
                       go_wp2_with (first | (go_at_call 42; refine cD (spec_l01In.calls _ _ _ _ _ A132.out) fun nd => ?_; (try exact dq)) | (go_at_call 42; refine cD (spec_l01In.calls _ _ _ _ _ A134.out) fun nd => ?_; (try exact dq); obtain ⟨Ao142, co142, eo142⟩ := Kd.R_slice HO_8.out; subst eo142; have p170 : 0 ≤ (0 : Int) := (by omega); have q170 : 0 < (x8_2.length : Int) := oD (by assumption); obtain ⟨ad170, e170, hx170_0⟩ := Kd.at_int (Kd.R_reads' HO_8.out).2.2 0 p170 q170; cases e170; have qi170 : (0 < x8_2.length) = True := eq_true (by omega); (try rw [tn0] at hx170_0); (try rw [Addr.add_zero'] at hx170_0); replace p170 := eq_true p170; replace q170 := eq_true q170))
                       go_ret
                       exact ⟨by rfl, by exact bW⟩
                     ·obtain rfl := oI H
                      obtain ⟨hcz143_0, hcz143_1, hcz143_2, hcz143_3, hcz143_4, hcz143_5⟩ := cz6 BK138.out
                      obtain ⟨hfz143_0, hfz143_1, hfz143_2, hfz143_3, hfz143_4, hfz143_5⟩ := fz6 BK138.out
                      go_wp2_with (first | (go_at_call 42; refine cD (spec_l01In.calls _ _ _ _ _ A132.out) fun nd => ?_; (try exact dq)) | (go_at_call 42; refine cD (spec_l01In.calls _ _ _ _ _ A134.out) fun nd => ?_; (try exact dq); obtain ⟨Ao144, co144, eo144⟩ := Kd.R_slice HO_8.out; subst eo144; have p170 : 0 ≤ (0 : Int) := (by omega); have q170 : 0 < (x8_2.length : Int) := oD (by assumption); obtain ⟨ad170, e170, hx170_0⟩ := Kd.at_int (Kd.R_reads' HO_8.out).2.2 0 p170 q170; cases e170; have qi170 : (0 < x8_2.length) = True := eq_true (by omega); (try rw [tn0] at hx170_0); (try rw [Addr.add_zero'] at hx170_0); replace p170 := eq_true p170; replace q170 := eq_true q170))
                      go_ret
                      exact ⟨by rfl, by exact bW⟩
                    ·obtain rfl := oI H
                     obtain ⟨hcz145_0, hcz145_1, hcz145_2, hcz145_3, hcz145_4, hcz145_5⟩ := cz6 BK138.out
                     obtain ⟨hfz145_0, hfz145_1, hfz145_2, hfz145_3, hfz145_4, hfz145_5⟩ := fz6 BK138.out
                     go_wp2_with (first | (go_at_call 42; refine cD (spec_l01In.calls _ _ _ _ _ A132.out) fun nd => ?_; (try exact dq)) | (go_at_call 42; refine cD (spec_l01In.calls _ _ _ _ _ A134.out) fun nd => ?_; (try exact dq)))
                     go_ret
                     exact ⟨by rfl, by exact bW⟩
                   ·obtain rfl := oI H
                    obtain ⟨hcz146_0, hcz146_1, hcz146_2, hcz146_3, hcz146_4, hcz146_5⟩ := cz6 BK138.out
                    obtain ⟨hfz146_0, hfz146_1, hfz146_2, hfz146_3, hfz146_4, hfz146_5⟩ := fz6 BK138.out
                    go_wp2_with (first | (go_at_call 42; refine cD (spec_l01In.calls _ _ _ _ _ A132.out) fun nd => ?_; (try exact dq)))
                    go_ret
                    exact ⟨by rfl, by exact bW⟩
                  ·obtain rfl := oI H
                   go_wp2
                   repeat (go_quiet (fail); try go_wp2)
                   go_ret
                   exact ⟨by rfl, by exact bW⟩
    ·obtain rfl := oI H
     obtain ⟨Ao147, co147, eo147⟩ := Kd.R_slice HO_6.out
     subst eo147
     obtain ⟨hcz148_0, hcz148_1, hcz148_2, hcz148_3, hcz148_4, hcz148_5⟩ := cz6 BK138.out
     obtain ⟨hfz148_0, hfz148_1, hfz148_2, hfz148_3, hfz148_4, hfz148_5⟩ := fz6 BK138.out
     go_wp2_with (first | (go_at_call 42; refine cD (spec_l01In.calls _ _ _ _ _ A15.out) fun nd => ?_; (try exact dq)))
     go_ret
     exact ⟨by rfl, by exact bW⟩
end Go.Proofs.Ytkpipmojkhikaaa.PAll
