/- Written by a program of this session over the loaded program, and by hand: Go functions as plain Lean functions, and that a call comes to what they say. -/
import Derived.Test.YtjjjbifbibabgaaVFree0
import Derived.Test.YtjjjbifbibabgaaVFree11
import Derived.Test.YtjjjbifbibabgaaVFree12
import Derived.Test.YtjjjbifbibabgaaBase
import Derived.Test.YtjjjbifbibabgaaSq
namespace Go.Proofs.Ytjjjbifbibabgaa.PAll
open Go.RowKit Go.Proofs.YtjjjbifbibabgaaW.PrintWords Go.Proofs.YtjjjbifbibabgaaW.PrintLast Go.Proofs.YtjjjbifbibabgaaW.PrintMore Go.Proofs.YtjjjbifbibabgaaW.Sq
attribute [local go_sem] max2_int min2_int max_two min_two max_three min_three max_four min_four   -- for this text's walks alone
set_option linter.unusedVariables false
set_option linter.unusedSimpArgs false

/-! ### impl_isRight: by hand -/
def inB (x a b : Int) : Bool := decide (a ≤ x ∧ x ≤ b)
theorem withinI (x a b : Int) : impl_within.f x a b = some (inB x a b) := by
 unfold impl_within.f inB
 by_cases h : x ≥ a
 ·rw [if_pos h]; simp [h]
 ·rw [if_neg h]; simp [h]
theorem widthI (x : Int) : impl_isWidth.f x = some (inB x 1 8) := by
 unfold impl_isWidth.f; rw [withinI]; rfl
theorem varI (x : Int) : impl_isVar.f x = some (inB x 0 7) := by
 unfold impl_isVar.f; rw [withinI]; rfl
open Go.Proofs.Ytjjjbifbibabgaa.Base in
theorem wordOkI (w a : Int) : impl_WordOk.f w a = some (wok w a) := by
 unfold impl_WordOk.f wok
 rw [widthI]; simp only [Option.bind_some]
 by_cases h : 1 ≤ w ∧ w ≤ 8
 ·have hp := P2_pos (by omega : 0 ≤ w) h.2
  rw [if_pos (by simp [inB, h]), if_pos (u64_nonneg w), u64_id (by omega) (by omega), shl_one (by omega) h.2, withinI, wrap_id (by omega) (by omega)]
  simp [inB, h]
 ·rw [if_neg (by simp [inB]; omega)]; simp; omega
/-- The places of a node's parts. -/
def partsL (op a b c : Int) : List Int := if op = 2 ∨ op = 17 ∨ op = 19 ∨ op = 20 then [a] else if 3 ≤ op ∧ op ≤ 16 then [a, b] else if op = 18 then [a, b, c] else []
theorem partsL_len (op a b c : Int) : (partsL op a b c).length ≤ 3 := by
 unfold partsL; split <;> (try split) <;> (try split) <;> simp
theorem partsI (op w q a b c : Int) {k : Nat} (hk : 1 ≤ k) : impl_Parts.f k op w q a b c = some (partsL op a b c) := by
 obtain ⟨k, rfl⟩ : ∃ m, k = m + 1 := ⟨k - 1, by omega⟩
 unfold impl_Parts.f partsL impl_isQuant.f
 simp only [impl_Parts.j0, withinI, inB]
 by_cases h2 : op = 2
 ·subst h2; simp
 ·by_cases h17 : op = 17
  ·subst h17; simp
  ·by_cases h19 : op = 19
   ·subst h19; simp
   ·by_cases h20 : op = 20
    ·subst h20; simp
    ·have hq : ¬ (op = 2 ∨ op = 17 ∨ op = 19 ∨ op = 20) := by omega
     rw [if_neg h2, if_neg h17, if_neg h19, if_neg hq]
     simp only [Option.bind_some, decide_eq_true_eq]
     rw [if_neg (by simpa using h20)]
     by_cases h3 : 3 ≤ op ∧ op ≤ 16
     ·rw [if_pos h3, if_pos h3]
     ·rw [if_neg h3, if_neg h3]
      by_cases h18 : op = 18
      ·rw [if_pos h18, if_pos h18]
      ·rw [if_neg h18, if_neg h18]
/-- What a node has no use for is 0. -/
def usesB (op K A B C : Int) : Bool :=
 if op = 0 ∨ op = 1 then A == 0 && B == 0 && C == 0 else if op = 17 then B == 0 && C == 0 else if op = 19 ∨ op = 20 then C == 0
 else if op = 2 then K == 0 && B == 0 && C == 0 else if 3 ≤ op ∧ op ≤ 16 then K == 0 && C == 0 else if op = 18 then K == 0 else K == 0 && A == 0 && B == 0 && C == 0
theorem usesI (op W K A B C : Int) {k : Nat} (hk : 3 ≤ k) : impl_usesOnly.f k op W K A B C = some (usesB op K A B C) := by
 obtain ⟨k, rfl⟩ : ∃ m, k = m + 1 := ⟨k - 1, by omega⟩
 unfold impl_usesOnly.f usesB
 rw [partsI op W K A B C (by omega)]
 simp only [Option.bind_some, impl_usesOnly.j0]
 unfold impl_isQuant.f partsL
 by_cases h0 : op = 0
 ·subst h0; simp [Bool.and_assoc]
 by_cases h1 : op = 1
 ·subst h1; simp [Bool.and_assoc]
 by_cases h17 : op = 17
 ·subst h17; simp
 by_cases h19 : op = 19
 ·subst h19; simp
 by_cases h20 : op = 20
 ·subst h20; simp
 by_cases h2 : op = 2
 ·subst h2; simp [Bool.and_assoc]
 by_cases h3 : 3 ≤ op ∧ op ≤ 16
 ·have e : ¬ (op = 2 ∨ op = 17 ∨ op = 19 ∨ op = 20) := by omega
  simp [h0, h1, h17, h19, h20, h2, h3]
 by_cases h18 : op = 18
 ·subst h18; simp
 ·simp [h0, h1, h17, h19, h20, h2, h3, h18, Bool.and_assoc]
theorem blk6 {w : World} {g T : Nat} {a b c d e f : Int} (h : w.heap[g]? = some (.cells #[.int .i64 a, .int .i64 b, .int .i64 c, .int .i64 d, .int .i64 e, .int .i64 f] T (0, 0))) :
  w.cell? ⟨g, 0, none⟩ = some (.int .i64 a) ∧ w.cell? ⟨g, 1, none⟩ = some (.int .i64 b) ∧ w.cell? ⟨g, 2, none⟩ = some (.int .i64 c) ∧ w.cell? ⟨g, 3, none⟩ = some (.int .i64 d) ∧ w.cell? ⟨g, 4, none⟩ = some (.int .i64 e) ∧ w.cell? ⟨g, 5, none⟩ = some (.int .i64 f) :=
 ⟨(blk_cell h 0).trans rfl, (blk_cell h 1).trans rfl, (blk_cell h 2).trans rfl, (blk_cell h 3).trans rfl, (blk_cell h 4).trans rfl, (blk_cell h 5).trans rfl⟩
theorem blk_new {w w1 : World} {o : Obj} {n : Nat} (hb : Below ((w.alloc o).drewN n).heap.size ((w.alloc o).drewN n) w1) : w1.heap[w.heap.size]? = some o :=
 (hb.block _ (by simp)).trans (heap_alloc_new w o)
theorem blk_new0 {w w1 : World} {o : Obj} (hb : Below (w.alloc o).heap.size (w.alloc o) w1) : w1.heap[w.heap.size]? = some o :=
 (hb.block _ (by simp)).trans (heap_alloc_new w o)
theorem blk_past0 {w w1 : World} {o o' : Obj} {g : Nat} (h : w.heap[g]? = some o) (hb : Below (w.alloc o').heap.size (w.alloc o') w1) : w1.heap[g]? = some o :=
 (hb.block _ (by have := (Array.getElem?_eq_some_iff.1 h).1; simp; omega)).trans ((Below.heap_alloc w o' g (Array.getElem?_eq_some_iff.1 h).1).trans h)
theorem blk3 {w : World} {g T : Nat} {a b c : Int} (h : w.heap[g]? = some (.cells #[.int .i64 a, .int .i64 b, .int .i64 c] T (0, 0))) :
  w.cell? ⟨g, 0, none⟩ = some (.int .i64 a) ∧ w.cell? ⟨g, 1, none⟩ = some (.int .i64 b) ∧ w.cell? ⟨g, 2, none⟩ = some (.int .i64 c) :=
 ⟨(blk_cell h 0).trans rfl, (blk_cell h 1).trans rfl, (blk_cell h 2).trans rfl⟩
/-- Cell t of the array of widths when j parts are looked at. -/
def wv (l : List (S39)) (ps : List Int) (j t : Nat) : Int := if t < j then (rd_T39 l (rd ps (t : Int))).f1 else 0
/-- What a node's Op asks of the widths of its parts. -/
def rightSw (op W K B : Int) (u v x : Int) : Bool :=
 if op = 0 then Go.Proofs.Ytjjjbifbibabgaa.Base.wok W K else if op = 1 then inB K 0 7 else if op = 2 then u == W
 else if 3 ≤ op ∧ op ≤ 12 then u == W && v == W else if 13 ≤ op ∧ op ≤ 15 then u == v && W == 1
 else if op = 16 then wrap64 (u + v) == W else if op = 17 then inB K 0 (wrap64 (u - W))
 else if op = 18 then u == 1 && v == W && x == W else inB K 0 7 && inB B 1 8 && u == 1 && W == 1
def rightB (l : List (S39)) (op W K A B C : Int) : Bool :=
 inB W 1 8 && inB op 0 20 && usesB op K A B C && (partsL op A B C).all (fun p => inB p 0 ((l.length : Int) - 1)) &&
  rightSw op W K B (wv l (partsL op A B C) (partsL op A B C).length 0) (wv l (partsL op A B C) (partsL op A B C).length 1) (wv l (partsL op A B C) (partsL op A B C).length 2)
def impl_isRight.f (l0 : List (S39)) (a1_0 : Int) (a1_1 : Int) (a1_2 : Int) (a1_3 : Int) (a1_4 : Int) (a1_5 : Int) : Option Bool := some (rightB l0 a1_0 a1_1 a1_2 a1_3 a1_4 a1_5)
set_option maxHeartbeats 2000000 in
set_option maxRecDepth 100000 in
theorem isRight_no1 (A0 : Option Addr) (c0 : Nat) (l0 : List (S39)) (a1_0 : Int) (a1_1 : Int) (a1_2 : Int) (a1_3 : Int) (a1_4 : Int) (a1_5 : Int) (w : World) (hr0 : Kd.C k39 w A0 l0.length l0) (hc0 : l0.length ≤ c0) (b1 : inB a1_1 1 8 = false) :
  Calls Try.prog 35 #[.slice A0 l0.length c0, .agg #[.int .i64 a1_0, .int .i64 a1_1, .int .i64 a1_2, .int .i64 a1_3, .int .i64 a1_4, .int .i64 a1_5]] w fun e w' => e = .returned (.bool (false)) ∧ Below w.heap.size w w' := by
 go_enter Try.func35, Try.ntmps35
 go_wp2_with (first | (go_at_call 47; (with_reducible refine (impl_isWidth.calls _ _ _ (widthI _)).mono ?_); rintro e w' ⟨rfl, ⟨nd, rfl⟩⟩) | (go_at_call 34; (with_reducible refine (impl_within.calls _ _ _ _ _ (withinI _ _ _)).mono ?_); rintro e w' ⟨rfl, ⟨nd, rfl⟩⟩) | (go_at_call 50; (with_reducible refine (impl_isVar.calls _ _ _ (varI _)).mono ?_); rintro e w' ⟨rfl, ⟨nd, rfl⟩⟩) | (go_at_call 49; (with_reducible refine (impl_WordOk.calls _ _ _ _ (wordOkI _ _)).mono ?_); rintro e w' ⟨rfl, ⟨nd, rfl⟩⟩))
 go_ret
 exact ⟨rfl, pw_below_drewN (below_alloc (Below.refl _ _) _) _⟩
set_option maxHeartbeats 2000000 in
set_option maxRecDepth 100000 in
theorem isRight_no2 (A0 : Option Addr) (c0 : Nat) (l0 : List (S39)) (a1_0 : Int) (a1_1 : Int) (a1_2 : Int) (a1_3 : Int) (a1_4 : Int) (a1_5 : Int) (w : World) (hr0 : Kd.C k39 w A0 l0.length l0) (hc0 : l0.length ≤ c0) (b1 : inB a1_1 1 8 = true) (b2 : inB a1_0 0 20 = false) :
  Calls Try.prog 35 #[.slice A0 l0.length c0, .agg #[.int .i64 a1_0, .int .i64 a1_1, .int .i64 a1_2, .int .i64 a1_3, .int .i64 a1_4, .int .i64 a1_5]] w fun e w' => e = .returned (.bool (false)) ∧ Below w.heap.size w w' := by
 go_enter Try.func35, Try.ntmps35
 go_wp2_with (first | (go_at_call 47; (with_reducible refine (impl_isWidth.calls _ _ _ (widthI _)).mono ?_); rintro e w' ⟨rfl, ⟨nd, rfl⟩⟩) | (go_at_call 34; (with_reducible refine (impl_within.calls _ _ _ _ _ (withinI _ _ _)).mono ?_); rintro e w' ⟨rfl, ⟨nd, rfl⟩⟩) | (go_at_call 50; (with_reducible refine (impl_isVar.calls _ _ _ (varI _)).mono ?_); rintro e w' ⟨rfl, ⟨nd, rfl⟩⟩) | (go_at_call 49; (with_reducible refine (impl_WordOk.calls _ _ _ _ (wordOkI _ _)).mono ?_); rintro e w' ⟨rfl, ⟨nd, rfl⟩⟩))
 go_ret
 exact ⟨rfl, pw_below_drewN (below_alloc (Below.refl _ _) _) _⟩
set_option maxHeartbeats 2000000 in
set_option maxRecDepth 100000 in
theorem isRight_no3 (A0 : Option Addr) (c0 : Nat) (l0 : List (S39)) (a1_0 : Int) (a1_1 : Int) (a1_2 : Int) (a1_3 : Int) (a1_4 : Int) (a1_5 : Int) (w : World) (hr0 : Kd.C k39 w A0 l0.length l0) (hc0 : l0.length ≤ c0) (b1 : inB a1_1 1 8 = true) (b2 : inB a1_0 0 20 = true) (b3 : usesB a1_0 a1_2 a1_3 a1_4 a1_5 = false) :
  Calls Try.prog 35 #[.slice A0 l0.length c0, .agg #[.int .i64 a1_0, .int .i64 a1_1, .int .i64 a1_2, .int .i64 a1_3, .int .i64 a1_4, .int .i64 a1_5]] w fun e w' => e = .returned (.bool (false)) ∧ Below w.heap.size w w' := by
 go_enter Try.func35, Try.ntmps35
 go_wp2_with (first | (go_at_call 47; (with_reducible refine (impl_isWidth.calls _ _ _ (widthI _)).mono ?_); rintro e w' ⟨rfl, ⟨nd, rfl⟩⟩) | (go_at_call 34; (with_reducible refine (impl_within.calls _ _ _ _ _ (withinI _ _ _)).mono ?_); rintro e w' ⟨rfl, ⟨nd, rfl⟩⟩) | (go_at_call 50; (with_reducible refine (impl_isVar.calls _ _ _ (varI _)).mono ?_); rintro e w' ⟨rfl, ⟨nd, rfl⟩⟩) | (go_at_call 49; (with_reducible refine (impl_WordOk.calls _ _ _ _ (wordOkI _ _)).mono ?_); rintro e w' ⟨rfl, ⟨nd, rfl⟩⟩) | (go_at_call 48; (with_reducible refine (impl_usesOnly.calls 3 _ _ _ _ _ _ _ _ (usesI _ _ _ _ _ _ (by omega))).mono ?_); rintro e w1 ⟨rfl, hb⟩; have BK := am (blk_new hb); have HB := am (show Below w.heap.size w w1 from (pw_below_drewN (below_alloc (Below.refl _ _) _) _).trans (hb.mono (by simp))); have hlt := (Array.getElem?_eq_some_iff.1 BK.out).1; clear hb; obtain ⟨q0, q1, q2, q3, q4, q5⟩ := blk6 BK.out))
 go_ret
 exact ⟨rfl, HB.out⟩
set_option maxHeartbeats 2000000 in
set_option maxRecDepth 100000 in
theorem isRight_go (A0 : Option Addr) (c0 : Nat) (l0 : List (S39)) (a1_0 : Int) (a1_1 : Int) (a1_2 : Int) (a1_3 : Int) (a1_4 : Int) (a1_5 : Int) (w : World) (hr0 : Kd.C k39 w A0 l0.length l0) (hc0 : l0.length ≤ c0) (b1 : inB a1_1 1 8 = true) (b2 : inB a1_0 0 20 = true) (b3 : usesB a1_0 a1_2 a1_3 a1_4 a1_5 = true) (r : Bool)
  (hno : ¬ (∀ t : Nat, t < (partsL a1_0 a1_3 a1_4 a1_5).length → inB (rd (partsL a1_0 a1_3 a1_4 a1_5) (t : Int)) 0 ((l0.length : Int) - 1) = true) → r = false)
  (hyes : (∀ t : Nat, t < (partsL a1_0 a1_3 a1_4 a1_5).length → inB (rd (partsL a1_0 a1_3 a1_4 a1_5) (t : Int)) 0 ((l0.length : Int) - 1) = true) → r = rightSw a1_0 a1_1 a1_2 a1_4 (wv l0 (partsL a1_0 a1_3 a1_4 a1_5) (partsL a1_0 a1_3 a1_4 a1_5).length 0) (wv l0 (partsL a1_0 a1_3 a1_4 a1_5) (partsL a1_0 a1_3 a1_4 a1_5).length 1) (wv l0 (partsL a1_0 a1_3 a1_4 a1_5) (partsL a1_0 a1_3 a1_4 a1_5).length 2)) :
  Calls Try.prog 35 #[.slice A0 l0.length c0, .agg #[.int .i64 a1_0, .int .i64 a1_1, .int .i64 a1_2, .int .i64 a1_3, .int .i64 a1_4, .int .i64 a1_5]] w fun e w' => e = .returned (.bool (r)) ∧ Below w.heap.size w w' := by
 have HR0 := am hr0
 have HC0 := am hc0
 clear hr0 hc0
 have hl0 : (l0.length : Int) ≤ 9223372036854775807 := by have := HR0.out.2.1; omega
 have HNO := am hno
 have HYES := am hyes
 clear hno hyes
 go_enter Try.func35, Try.ntmps35
 go_wp2_with (first | (go_at_call 47; (with_reducible refine (impl_isWidth.calls _ _ _ (widthI _)).mono ?_); rintro e w' ⟨rfl, ⟨nd, rfl⟩⟩) | (go_at_call 34; (with_reducible refine (impl_within.calls _ _ _ _ _ (withinI _ _ _)).mono ?_); rintro e w' ⟨rfl, ⟨nd, rfl⟩⟩) | (go_at_call 50; (with_reducible refine (impl_isVar.calls _ _ _ (varI _)).mono ?_); rintro e w' ⟨rfl, ⟨nd, rfl⟩⟩) | (go_at_call 49; (with_reducible refine (impl_WordOk.calls _ _ _ _ (wordOkI _ _)).mono ?_); rintro e w' ⟨rfl, ⟨nd, rfl⟩⟩) | (go_at_call 48; (with_reducible refine (impl_usesOnly.calls 3 _ _ _ _ _ _ _ _ (usesI _ _ _ _ _ _ (by omega))).mono ?_); rintro e w1 ⟨rfl, hb⟩; have BK := am (blk_new hb); have HB := am (show Below w.heap.size w w1 from (pw_below_drewN (below_alloc (Below.refl _ _) _) _).trans (hb.mono (by simp))); have hlt := (Array.getElem?_eq_some_iff.1 BK.out).1; clear hb; obtain ⟨q0, q1, q2, q3, q4, q5⟩ := blk6 BK.out))
 refine (impl_Parts.calls 1 _ _ _ _ _ _ _ _ (partsI _ _ _ _ _ _ (by omega))).mono ?_
 rintro e w2 ⟨v0, rfl, HO, hb⟩
 have BK2 := am (blk_past0 BK.out hb)
 have AR := am (blk_new0 hb)
 have HB2 := am ((HB.out.alloc HB.out.size _).trans (hb.mono (by have := HB.out.size; simp; omega)))
 have hw1 := am HB.out.size
 clear q0 q1 q2 q3 q4 q5 hb HB BK
 obtain ⟨A5, c5, rfl, _, _⟩ := Kd.R_reads HO
 have HO2 := am (show Kd.R (Kd.int .i64) 3 w2 (w1.heap.size + 1) (fun k => w1.heap.size + 1 ≤ k) (.slice A5 (partsL a1_0 a1_3 a1_4 a1_5).length c5) (partsL a1_0 a1_3 a1_4 a1_5) from
  Kd.R_mono (Kd.R_bound (Kd.R_lower HO (by simp))) (fun k hk => hk.2.1))
 clear HO
 have hps3 := partsL_len a1_0 a1_3 a1_4 a1_5
 obtain ⟨ps, hps⟩ : ∃ ps, partsL a1_0 a1_3 a1_4 a1_5 = ps := ⟨_, rfl⟩
 rw [hps] at HNO HYES HO2 hps3 ⊢
 clear hps
 have HP3 := am hps3
 clear hps3
 go_wp2
 go_loopg [27] ps.length (fun g v27 w' => ∃ j : Nat, v27 = .int .i64 (j : Int) ∧ Aside0 (g + j = ps.length) ∧ Aside0 (∀ t : Nat, t < j → inB (rd ps (t : Int)) 0 ((l0.length : Int) - 1) = true) ∧
  Aside0 (w'.heap[w1.heap.size]? = some (.cells #[.int .i64 (wv l0 ps j 0), .int .i64 (wv l0 ps j 1), .int .i64 (wv l0 ps j 2)] 65 (0, 0))) ∧
  Aside0 (w'.heap[w.heap.size]? = some (.cells #[.int .i64 a1_0, .int .i64 a1_1, .int .i64 a1_2, .int .i64 a1_3, .int .i64 a1_4, .int .i64 a1_5] 39 (0, 0))) ∧
  Aside0 (Kd.R (Kd.int .i64) 3 w' (w1.heap.size + 1) (fun k => w1.heap.size + 1 ≤ k) (.slice A5 ps.length c5) ps) ∧ Aside0 (Below w.heap.size w w'))
 case atStart => exact ⟨0, rfl, ⟨rfl⟩, ⟨fun t ht => absurd ht (by omega)⟩, AR, BK2, HO2, HB2⟩
 case round =>
  clear AR BK2 HO2 HB2
  obtain ⟨j, rfl, HG, HA, AR, BK, HO, HB⟩ := hrel
  by_cases hj : j < ps.length
  ·have hj3 : j < 3 := by have := HP3.out; omega
   have p1 : (0 : Int) ≤ (j : Int) := by omega
   have p2 : (j : Int) < (ps.length : Int) := by omega
   have t1 : decide ((j : Int) < (ps.length : Int)) = true := decide_eq_true p2
   obtain ⟨A6, c6, e6, _, hr6⟩ := Kd.R_reads HO.out
   cases e6
   obtain ⟨ad5, e5, hx5⟩ := Kd.at_int hr6 (j : Int) p1 p2
   cases e5
   rw [Int.toNat_natCast] at hx5
   clear hr6
   by_cases hin : inB (rd ps (j : Int)) 0 ((l0.length : Int) - 1) = true
   ·have hi2 : 0 ≤ rd ps (j : Int) ∧ rd ps (j : Int) ≤ (l0.length : Int) - 1 := by simpa [inB] using hin
    have p3 : 0 ≤ rd ps (j : Int) := hi2.1
    have p4 : rd ps (j : Int) < (l0.length : Int) := by omega
    clear hi2
    obtain ⟨ad0, e0, y0, y1, y2, y3, y4, y5⟩ := at_T39 HR0.out (rd ps (j : Int)) p3 p4
    cases e0
    replace y1 := pw_cell_below HB.out y1
    clear y0 y2 y3 y4 y5
    have fz : wr.frozen? ⟨w1.heap.size, j, none⟩ = false := by have h := AR.out; simp [World.frozen?, h]
    have old : ∃ v, wr.cell? ⟨w1.heap.size, j, none⟩ = some v := by
     have h := blk_cell AR.out j
     have : j = 0 ∨ j = 1 ∨ j = 2 := by omega
     rcases this with rfl | rfl | rfl <;> exact ⟨_, h.trans rfl⟩
    obtain ⟨ov, old⟩ := old
    go_wp2_with (first | (go_at_call 47; (with_reducible refine (impl_isWidth.calls _ _ _ (widthI _)).mono ?_); rintro e w' ⟨rfl, ⟨nd, rfl⟩⟩) | (go_at_call 34; (with_reducible refine (impl_within.calls _ _ _ _ _ (withinI _ _ _)).mono ?_); rintro e w' ⟨rfl, ⟨nd, rfl⟩⟩) | (go_at_call 50; (with_reducible refine (impl_isVar.calls _ _ _ (varI _)).mono ?_); rintro e w' ⟨rfl, ⟨nd, rfl⟩⟩) | (go_at_call 49; (with_reducible refine (impl_WordOk.calls _ _ _ _ (wordOkI _ _)).mono ?_); rintro e w' ⟨rfl, ⟨nd, rfl⟩⟩))
    obtain ⟨g1, rfl⟩ : ∃ g1, gk = g1 + 1 := ⟨gk - 1, by have := HG.out; omega⟩
    go_roundg g1
    case measure => omega
    case rel =>
     refine ⟨j + 1, by go_num, ⟨by have := HG.out; omega⟩, ⟨fun t ht => ?_⟩, ⟨?_⟩, ⟨?_⟩, ⟨?_⟩, ⟨?_⟩⟩
     ·rcases Nat.lt_or_ge t j with h | h
      ·exact HA.out t h
      ·obtain rfl : t = j := by omega
       exact hin
     ·have h := blk_set (show (wr.drewN nd).heap[w1.heap.size]? = some (.cells _ _ (0, 0)) from AR.out) j (.int .i64 (rd_T39 l0 (rd ps (j : Int))).f1)
      refine h.trans ?_
      have : j = 0 ∨ j = 1 ∨ j = 2 := by omega
      rcases this with rfl | rfl | rfl <;> simp [wv]
     ·exact blk_far (show (wr.drewN nd).heap[w.heap.size]? = some (.cells _ _ (0, 0)) from BK.out) (by simp; omega) _
     ·exact Kd.R_far (Kd.R_drewN HO.out _) (fun k hk => by simp; omega) _
     ·exact below_set (pw_below_drewN HB.out _) hw1.out
   ·have hin' : inB (rd ps (j : Int)) 0 ((l0.length : Int) - 1) = false := by simpa using hin
    go_wp2_with (first | (go_at_call 47; (with_reducible refine (impl_isWidth.calls _ _ _ (widthI _)).mono ?_); rintro e w' ⟨rfl, ⟨nd, rfl⟩⟩) | (go_at_call 34; (with_reducible refine (impl_within.calls _ _ _ _ _ (withinI _ _ _)).mono ?_); rintro e w' ⟨rfl, ⟨nd, rfl⟩⟩) | (go_at_call 50; (with_reducible refine (impl_isVar.calls _ _ _ (varI _)).mono ?_); rintro e w' ⟨rfl, ⟨nd, rfl⟩⟩) | (go_at_call 49; (with_reducible refine (impl_WordOk.calls _ _ _ _ (wordOkI _ _)).mono ?_); rintro e w' ⟨rfl, ⟨nd, rfl⟩⟩))
    go_ret
    exact ⟨by rw [HNO.out (fun h => hin (h j hj))] <;> rfl, pw_below_drewN HB.out _⟩
  ·have t1 : decide ((j : Int) < (ps.length : Int)) = false := decide_eq_false (by omega)
   obtain rfl : j = ps.length := by have := HG.out; omega
   obtain ⟨q0, q1, q2, q3, q4, q5⟩ := blk6 BK.out
   obtain ⟨z0, z1, z2⟩ := blk3 AR.out
   have HR := am (HYES.out HA.out)
   clear HYES HNO HA hj
   generalize wv l0 ps ps.length 0 = u at *
   generalize wv l0 ps ps.length 1 = v at *
   generalize wv l0 ps ps.length 2 = x at *
   have hop : (a1_0 = 0) ∨ (a1_0 = 1) ∨ (a1_0 = 2) ∨ (3 ≤ a1_0 ∧ a1_0 ≤ 12) ∨ (13 ≤ a1_0 ∧ a1_0 ≤ 15) ∨ (a1_0 = 16) ∨ (a1_0 = 17) ∨ (a1_0 = 18) ∨ (a1_0 = 19 ∨ a1_0 = 20) := by
    have h : 0 ≤ a1_0 ∧ a1_0 ≤ 20 := by simpa [inB] using b2
    omega
   clear b1 b2 b3
   have tc := fun (b : Bool) => (Bool.eq_false_or_eq_true b).symm
   rcases hop with h | h | h | h | h | h | h | h | h
   ·have E : rightSw a1_0 a1_1 a1_2 a1_4 u v x = Go.Proofs.Ytjjjbifbibabgaa.Base.wok a1_1 a1_2 := by unfold rightSw; rw [if_pos h]
    have k0 : (a1_0 == 0) = true := by simp [h]
    (go_wp2_with (first | (go_at_call 47; (with_reducible refine (impl_isWidth.calls _ _ _ (widthI _)).mono ?_); rintro e w' ⟨rfl, ⟨nd, rfl⟩⟩) | (go_at_call 34; (with_reducible refine (impl_within.calls _ _ _ _ _ (withinI _ _ _)).mono ?_); rintro e w' ⟨rfl, ⟨nd, rfl⟩⟩) | (go_at_call 50; (with_reducible refine (impl_isVar.calls _ _ _ (varI _)).mono ?_); rintro e w' ⟨rfl, ⟨nd, rfl⟩⟩) | (go_at_call 49; (with_reducible refine (impl_WordOk.calls _ _ _ _ (wordOkI _ _)).mono ?_); rintro e w' ⟨rfl, ⟨nd, rfl⟩⟩)); go_ret; exact ⟨by rw [HR.out, E]; (rfl), by exact pw_below_drewN HB.out _⟩)
   ·have E : rightSw a1_0 a1_1 a1_2 a1_4 u v x = inB a1_2 0 7 := by unfold rightSw; rw [if_neg (by omega), if_pos h]
    have k0 : (a1_0 == 0) = false := by simp [inB]; omega
    have k1 : (a1_0 == 1) = true := by simp [h]
    (go_wp2_with (first | (go_at_call 47; (with_reducible refine (impl_isWidth.calls _ _ _ (widthI _)).mono ?_); rintro e w' ⟨rfl, ⟨nd, rfl⟩⟩) | (go_at_call 34; (with_reducible refine (impl_within.calls _ _ _ _ _ (withinI _ _ _)).mono ?_); rintro e w' ⟨rfl, ⟨nd, rfl⟩⟩) | (go_at_call 50; (with_reducible refine (impl_isVar.calls _ _ _ (varI _)).mono ?_); rintro e w' ⟨rfl, ⟨nd, rfl⟩⟩) | (go_at_call 49; (with_reducible refine (impl_WordOk.calls _ _ _ _ (wordOkI _ _)).mono ?_); rintro e w' ⟨rfl, ⟨nd, rfl⟩⟩)); go_ret; exact ⟨by rw [HR.out, E]; (rfl), by exact pw_below_drewN HB.out _⟩)
   ·have E : rightSw a1_0 a1_1 a1_2 a1_4 u v x = (u == a1_1) := by unfold rightSw; rw [if_neg (by omega), if_neg (by omega), if_pos h]
    have k0 : (a1_0 == 0) = false := by simp [inB]; omega
    have k1 : (a1_0 == 1) = false := by simp [inB]; omega
    have k2 : (a1_0 == 2) = true := by simp [h]
    (go_wp2_with (first | (go_at_call 47; (with_reducible refine (impl_isWidth.calls _ _ _ (widthI _)).mono ?_); rintro e w' ⟨rfl, ⟨nd, rfl⟩⟩) | (go_at_call 34; (with_reducible refine (impl_within.calls _ _ _ _ _ (withinI _ _ _)).mono ?_); rintro e w' ⟨rfl, ⟨nd, rfl⟩⟩) | (go_at_call 50; (with_reducible refine (impl_isVar.calls _ _ _ (varI _)).mono ?_); rintro e w' ⟨rfl, ⟨nd, rfl⟩⟩) | (go_at_call 49; (with_reducible refine (impl_WordOk.calls _ _ _ _ (wordOkI _ _)).mono ?_); rintro e w' ⟨rfl, ⟨nd, rfl⟩⟩)); go_ret; exact ⟨by rw [HR.out, E]; (rfl), by exact HB.out⟩)
   ·have E : rightSw a1_0 a1_1 a1_2 a1_4 u v x = ((u == a1_1) && (v == a1_1)) := by unfold rightSw; rw [if_neg (by omega), if_neg (by omega), if_neg (by omega), if_pos h]
    have k0 : (a1_0 == 0) = false := by simp [inB]; omega
    have k1 : (a1_0 == 1) = false := by simp [inB]; omega
    have k2 : (a1_0 == 2) = false := by simp [inB]; omega
    have k3 : (inB a1_0 3 12) = true := by simp [inB]; omega
    rcases tc (u == a1_1) with g1 | g1
    ·(go_wp2_with (first | (go_at_call 47; (with_reducible refine (impl_isWidth.calls _ _ _ (widthI _)).mono ?_); rintro e w' ⟨rfl, ⟨nd, rfl⟩⟩) | (go_at_call 34; (with_reducible refine (impl_within.calls _ _ _ _ _ (withinI _ _ _)).mono ?_); rintro e w' ⟨rfl, ⟨nd, rfl⟩⟩) | (go_at_call 50; (with_reducible refine (impl_isVar.calls _ _ _ (varI _)).mono ?_); rintro e w' ⟨rfl, ⟨nd, rfl⟩⟩) | (go_at_call 49; (with_reducible refine (impl_WordOk.calls _ _ _ _ (wordOkI _ _)).mono ?_); rintro e w' ⟨rfl, ⟨nd, rfl⟩⟩)); go_ret; exact ⟨by rw [HR.out, E]; ((simp only [g1, Bool.true_and, Bool.false_and, Bool.and_true, Bool.and_false]; rfl)), by exact pw_below_drewN HB.out _⟩)
    ·(go_wp2_with (first | (go_at_call 47; (with_reducible refine (impl_isWidth.calls _ _ _ (widthI _)).mono ?_); rintro e w' ⟨rfl, ⟨nd, rfl⟩⟩) | (go_at_call 34; (with_reducible refine (impl_within.calls _ _ _ _ _ (withinI _ _ _)).mono ?_); rintro e w' ⟨rfl, ⟨nd, rfl⟩⟩) | (go_at_call 50; (with_reducible refine (impl_isVar.calls _ _ _ (varI _)).mono ?_); rintro e w' ⟨rfl, ⟨nd, rfl⟩⟩) | (go_at_call 49; (with_reducible refine (impl_WordOk.calls _ _ _ _ (wordOkI _ _)).mono ?_); rintro e w' ⟨rfl, ⟨nd, rfl⟩⟩)); go_ret; exact ⟨by rw [HR.out, E]; ((simp only [g1, Bool.true_and, Bool.false_and, Bool.and_true, Bool.and_false]; rfl)), by exact pw_below_drewN HB.out _⟩)
   ·have E : rightSw a1_0 a1_1 a1_2 a1_4 u v x = ((u == v) && (a1_1 == 1)) := by unfold rightSw; rw [if_neg (by omega), if_neg (by omega), if_neg (by omega), if_neg (by omega), if_pos h]
    have k0 : (a1_0 == 0) = false := by simp [inB]; omega
    have k1 : (a1_0 == 1) = false := by simp [inB]; omega
    have k2 : (a1_0 == 2) = false := by simp [inB]; omega
    have k3 : (inB a1_0 3 12) = false := by simp [inB]; omega
    have k4 : (inB a1_0 13 15) = true := by simp [inB]; omega
    rcases tc (u == v) with g1 | g1
    ·(go_wp2_with (first | (go_at_call 47; (with_reducible refine (impl_isWidth.calls _ _ _ (widthI _)).mono ?_); rintro e w' ⟨rfl, ⟨nd, rfl⟩⟩) | (go_at_call 34; (with_reducible refine (impl_within.calls _ _ _ _ _ (withinI _ _ _)).mono ?_); rintro e w' ⟨rfl, ⟨nd, rfl⟩⟩) | (go_at_call 50; (with_reducible refine (impl_isVar.calls _ _ _ (varI _)).mono ?_); rintro e w' ⟨rfl, ⟨nd, rfl⟩⟩) | (go_at_call 49; (with_reducible refine (impl_WordOk.calls _ _ _ _ (wordOkI _ _)).mono ?_); rintro e w' ⟨rfl, ⟨nd, rfl⟩⟩)); go_ret; exact ⟨by rw [HR.out, E]; ((simp only [g1, Bool.true_and, Bool.false_and, Bool.and_true, Bool.and_false]; rfl)), by exact pw_below_drewN HB.out _⟩)
    ·(go_wp2_with (first | (go_at_call 47; (with_reducible refine (impl_isWidth.calls _ _ _ (widthI _)).mono ?_); rintro e w' ⟨rfl, ⟨nd, rfl⟩⟩) | (go_at_call 34; (with_reducible refine (impl_within.calls _ _ _ _ _ (withinI _ _ _)).mono ?_); rintro e w' ⟨rfl, ⟨nd, rfl⟩⟩) | (go_at_call 50; (with_reducible refine (impl_isVar.calls _ _ _ (varI _)).mono ?_); rintro e w' ⟨rfl, ⟨nd, rfl⟩⟩) | (go_at_call 49; (with_reducible refine (impl_WordOk.calls _ _ _ _ (wordOkI _ _)).mono ?_); rintro e w' ⟨rfl, ⟨nd, rfl⟩⟩)); go_ret; exact ⟨by rw [HR.out, E]; ((simp only [g1, Bool.true_and, Bool.false_and, Bool.and_true, Bool.and_false]; rfl)), by exact pw_below_drewN HB.out _⟩)
   ·have E : rightSw a1_0 a1_1 a1_2 a1_4 u v x = (wrap64 (u + v) == a1_1) := by unfold rightSw; rw [if_neg (by omega), if_neg (by omega), if_neg (by omega), if_neg (by omega), if_neg (by omega), if_pos h]
    have k0 : (a1_0 == 0) = false := by simp [inB]; omega
    have k1 : (a1_0 == 1) = false := by simp [inB]; omega
    have k2 : (a1_0 == 2) = false := by simp [inB]; omega
    have k3 : (inB a1_0 3 12) = false := by simp [inB]; omega
    have k4 : (inB a1_0 13 15) = false := by simp [inB]; omega
    have k5 : (a1_0 == 16) = true := by simp [h]
    (go_wp2_with (first | (go_at_call 47; (with_reducible refine (impl_isWidth.calls _ _ _ (widthI _)).mono ?_); rintro e w' ⟨rfl, ⟨nd, rfl⟩⟩) | (go_at_call 34; (with_reducible refine (impl_within.calls _ _ _ _ _ (withinI _ _ _)).mono ?_); rintro e w' ⟨rfl, ⟨nd, rfl⟩⟩) | (go_at_call 50; (with_reducible refine (impl_isVar.calls _ _ _ (varI _)).mono ?_); rintro e w' ⟨rfl, ⟨nd, rfl⟩⟩) | (go_at_call 49; (with_reducible refine (impl_WordOk.calls _ _ _ _ (wordOkI _ _)).mono ?_); rintro e w' ⟨rfl, ⟨nd, rfl⟩⟩)); go_ret; exact ⟨by rw [HR.out, E]; (rfl), by exact pw_below_drewN HB.out _⟩)
   ·have E : rightSw a1_0 a1_1 a1_2 a1_4 u v x = inB a1_2 0 (wrap64 (u - a1_1)) := by unfold rightSw; rw [if_neg (by omega), if_neg (by omega), if_neg (by omega), if_neg (by omega), if_neg (by omega), if_neg (by omega), if_pos h]
    have k0 : (a1_0 == 0) = false := by simp [inB]; omega
    have k1 : (a1_0 == 1) = false := by simp [inB]; omega
    have k2 : (a1_0 == 2) = false := by simp [inB]; omega
    have k3 : (inB a1_0 3 12) = false := by simp [inB]; omega
    have k4 : (inB a1_0 13 15) = false := by simp [inB]; omega
    have k5 : (a1_0 == 16) = false := by simp [inB]; omega
    have k6 : (a1_0 == 17) = true := by simp [h]
    (go_wp2_with (first | (go_at_call 47; (with_reducible refine (impl_isWidth.calls _ _ _ (widthI _)).mono ?_); rintro e w' ⟨rfl, ⟨nd, rfl⟩⟩) | (go_at_call 34; (with_reducible refine (impl_within.calls _ _ _ _ _ (withinI _ _ _)).mono ?_); rintro e w' ⟨rfl, ⟨nd, rfl⟩⟩) | (go_at_call 50; (with_reducible refine (impl_isVar.calls _ _ _ (varI _)).mono ?_); rintro e w' ⟨rfl, ⟨nd, rfl⟩⟩) | (go_at_call 49; (with_reducible refine (impl_WordOk.calls _ _ _ _ (wordOkI _ _)).mono ?_); rintro e w' ⟨rfl, ⟨nd, rfl⟩⟩)); go_ret; exact ⟨by rw [HR.out, E]; (rfl), by exact pw_below_drewN HB.out _⟩)
   ·have E : rightSw a1_0 a1_1 a1_2 a1_4 u v x = ((u == 1) && (v == a1_1) && (x == a1_1)) := by unfold rightSw; rw [if_neg (by omega), if_neg (by omega), if_neg (by omega), if_neg (by omega), if_neg (by omega), if_neg (by omega), if_neg (by omega), if_pos h]
    have k0 : (a1_0 == 0) = false := by simp [inB]; omega
    have k1 : (a1_0 == 1) = false := by simp [inB]; omega
    have k2 : (a1_0 == 2) = false := by simp [inB]; omega
    have k3 : (inB a1_0 3 12) = false := by simp [inB]; omega
    have k4 : (inB a1_0 13 15) = false := by simp [inB]; omega
    have k5 : (a1_0 == 16) = false := by simp [inB]; omega
    have k6 : (a1_0 == 17) = false := by simp [inB]; omega
    have k7 : (a1_0 == 18) = true := by simp [h]
    rcases tc (u == 1) with g2 | g2
    ·(go_wp2_with (first | (go_at_call 47; (with_reducible refine (impl_isWidth.calls _ _ _ (widthI _)).mono ?_); rintro e w' ⟨rfl, ⟨nd, rfl⟩⟩) | (go_at_call 34; (with_reducible refine (impl_within.calls _ _ _ _ _ (withinI _ _ _)).mono ?_); rintro e w' ⟨rfl, ⟨nd, rfl⟩⟩) | (go_at_call 50; (with_reducible refine (impl_isVar.calls _ _ _ (varI _)).mono ?_); rintro e w' ⟨rfl, ⟨nd, rfl⟩⟩) | (go_at_call 49; (with_reducible refine (impl_WordOk.calls _ _ _ _ (wordOkI _ _)).mono ?_); rintro e w' ⟨rfl, ⟨nd, rfl⟩⟩)); go_ret; exact ⟨by rw [HR.out, E]; ((simp only [g2, Bool.true_and, Bool.false_and, Bool.and_true, Bool.and_false]; rfl)), by exact pw_below_drewN HB.out _⟩)
    ·rcases tc (v == a1_1) with g1 | g1
     ·(go_wp2_with (first | (go_at_call 47; (with_reducible refine (impl_isWidth.calls _ _ _ (widthI _)).mono ?_); rintro e w' ⟨rfl, ⟨nd, rfl⟩⟩) | (go_at_call 34; (with_reducible refine (impl_within.calls _ _ _ _ _ (withinI _ _ _)).mono ?_); rintro e w' ⟨rfl, ⟨nd, rfl⟩⟩) | (go_at_call 50; (with_reducible refine (impl_isVar.calls _ _ _ (varI _)).mono ?_); rintro e w' ⟨rfl, ⟨nd, rfl⟩⟩) | (go_at_call 49; (with_reducible refine (impl_WordOk.calls _ _ _ _ (wordOkI _ _)).mono ?_); rintro e w' ⟨rfl, ⟨nd, rfl⟩⟩)); go_ret; exact ⟨by rw [HR.out, E]; ((simp only [g2, g1, Bool.true_and, Bool.false_and, Bool.and_true, Bool.and_false]; rfl)), by exact pw_below_drewN HB.out _⟩)
     ·(go_wp2_with (first | (go_at_call 47; (with_reducible refine (impl_isWidth.calls _ _ _ (widthI _)).mono ?_); rintro e w' ⟨rfl, ⟨nd, rfl⟩⟩) | (go_at_call 34; (with_reducible refine (impl_within.calls _ _ _ _ _ (withinI _ _ _)).mono ?_); rintro e w' ⟨rfl, ⟨nd, rfl⟩⟩) | (go_at_call 50; (with_reducible refine (impl_isVar.calls _ _ _ (varI _)).mono ?_); rintro e w' ⟨rfl, ⟨nd, rfl⟩⟩) | (go_at_call 49; (with_reducible refine (impl_WordOk.calls _ _ _ _ (wordOkI _ _)).mono ?_); rintro e w' ⟨rfl, ⟨nd, rfl⟩⟩)); go_ret; exact ⟨by rw [HR.out, E]; ((simp only [g2, g1, Bool.true_and, Bool.false_and, Bool.and_true, Bool.and_false]; rfl)), by exact pw_below_drewN HB.out _⟩)
   ·have E : rightSw a1_0 a1_1 a1_2 a1_4 u v x = (inB a1_2 0 7 && inB a1_4 1 8 && (u == 1) && (a1_1 == 1)) := by unfold rightSw; rw [if_neg (by omega), if_neg (by omega), if_neg (by omega), if_neg (by omega), if_neg (by omega), if_neg (by omega), if_neg (by omega), if_neg (by omega)]
    have k0 : (a1_0 == 0) = false := by rcases h with rfl | rfl <;> rfl
    have k1 : (a1_0 == 1) = false := by rcases h with rfl | rfl <;> rfl
    have k2 : (a1_0 == 2) = false := by rcases h with rfl | rfl <;> rfl
    have k3 : (inB a1_0 3 12) = false := by simp [inB]; omega
    have k4 : (inB a1_0 13 15) = false := by simp [inB]; omega
    have k5 : (a1_0 == 16) = false := by rcases h with rfl | rfl <;> rfl
    have k6 : (a1_0 == 17) = false := by rcases h with rfl | rfl <;> rfl
    have k7 : (a1_0 == 18) = false := by rcases h with rfl | rfl <;> rfl
    rcases tc (inB a1_2 0 7) with g3 | g3
    ·(go_wp2_with (first | (go_at_call 47; (with_reducible refine (impl_isWidth.calls _ _ _ (widthI _)).mono ?_); rintro e w' ⟨rfl, ⟨nd, rfl⟩⟩) | (go_at_call 34; (with_reducible refine (impl_within.calls _ _ _ _ _ (withinI _ _ _)).mono ?_); rintro e w' ⟨rfl, ⟨nd, rfl⟩⟩) | (go_at_call 50; (with_reducible refine (impl_isVar.calls _ _ _ (varI _)).mono ?_); rintro e w' ⟨rfl, ⟨nd, rfl⟩⟩) | (go_at_call 49; (with_reducible refine (impl_WordOk.calls _ _ _ _ (wordOkI _ _)).mono ?_); rintro e w' ⟨rfl, ⟨nd, rfl⟩⟩)); go_ret; exact ⟨by rw [HR.out, E]; ((simp only [g3, Bool.true_and, Bool.false_and, Bool.and_true, Bool.and_false]; rfl)), by exact pw_below_drewN HB.out _⟩)
    ·rcases tc (inB a1_4 1 8) with g2 | g2
     ·(go_wp2_with (first | (go_at_call 47; (with_reducible refine (impl_isWidth.calls _ _ _ (widthI _)).mono ?_); rintro e w' ⟨rfl, ⟨nd, rfl⟩⟩) | (go_at_call 34; (with_reducible refine (impl_within.calls _ _ _ _ _ (withinI _ _ _)).mono ?_); rintro e w' ⟨rfl, ⟨nd, rfl⟩⟩) | (go_at_call 50; (with_reducible refine (impl_isVar.calls _ _ _ (varI _)).mono ?_); rintro e w' ⟨rfl, ⟨nd, rfl⟩⟩) | (go_at_call 49; (with_reducible refine (impl_WordOk.calls _ _ _ _ (wordOkI _ _)).mono ?_); rintro e w' ⟨rfl, ⟨nd, rfl⟩⟩)); go_ret; exact ⟨by rw [HR.out, E]; ((simp only [g3, g2, Bool.true_and, Bool.false_and, Bool.and_true, Bool.and_false]; rfl)), by exact pw_below_drewN HB.out _⟩)
     ·rcases tc (u == 1) with g1 | g1
      ·(go_wp2_with (first | (go_at_call 47; (with_reducible refine (impl_isWidth.calls _ _ _ (widthI _)).mono ?_); rintro e w' ⟨rfl, ⟨nd, rfl⟩⟩) | (go_at_call 34; (with_reducible refine (impl_within.calls _ _ _ _ _ (withinI _ _ _)).mono ?_); rintro e w' ⟨rfl, ⟨nd, rfl⟩⟩) | (go_at_call 50; (with_reducible refine (impl_isVar.calls _ _ _ (varI _)).mono ?_); rintro e w' ⟨rfl, ⟨nd, rfl⟩⟩) | (go_at_call 49; (with_reducible refine (impl_WordOk.calls _ _ _ _ (wordOkI _ _)).mono ?_); rintro e w' ⟨rfl, ⟨nd, rfl⟩⟩)); go_ret; exact ⟨by rw [HR.out, E]; ((simp only [g3, g2, g1, Bool.true_and, Bool.false_and, Bool.and_true, Bool.and_false]; rfl)), by exact pw_below_drewN HB.out _⟩)
      ·(go_wp2_with (first | (go_at_call 47; (with_reducible refine (impl_isWidth.calls _ _ _ (widthI _)).mono ?_); rintro e w' ⟨rfl, ⟨nd, rfl⟩⟩) | (go_at_call 34; (with_reducible refine (impl_within.calls _ _ _ _ _ (withinI _ _ _)).mono ?_); rintro e w' ⟨rfl, ⟨nd, rfl⟩⟩) | (go_at_call 50; (with_reducible refine (impl_isVar.calls _ _ _ (varI _)).mono ?_); rintro e w' ⟨rfl, ⟨nd, rfl⟩⟩) | (go_at_call 49; (with_reducible refine (impl_WordOk.calls _ _ _ _ (wordOkI _ _)).mono ?_); rintro e w' ⟨rfl, ⟨nd, rfl⟩⟩)); go_ret; exact ⟨by rw [HR.out, E]; ((simp only [g3, g2, g1, Bool.true_and, Bool.false_and, Bool.and_true, Bool.and_false]; rfl)), by exact pw_below_drewN HB.out _⟩)
theorem partsAll (l : List Int) (P : Int → Bool) : (∀ t : Nat, t < l.length → P (rd l (t : Int)) = true) ↔ l.all P = true := by
 rw [List.all_eq_true]
 constructor
 ·intro h x hx
  obtain ⟨t, ht, rfl⟩ := List.getElem_of_mem hx
  have := h t ht
  rwa [show rd l (t : Int) = l[t] from by simp [rd, ht]] at this
 ·intro h t ht
  rw [show rd l (t : Int) = l[t] from by simp [rd, ht]]
  exact h _ (List.getElem_mem ht)
theorem impl_isRight.calls (A0 : Option Addr) (c0 : Nat) (l0 : List (S39)) (a1_0 : Int) (a1_1 : Int) (a1_2 : Int) (a1_3 : Int) (a1_4 : Int) (a1_5 : Int) (r : Bool) (w : World) (hr0 : Kd.C k39 w A0 l0.length l0) (hc0 : l0.length ≤ c0) (h : impl_isRight.f l0 a1_0 a1_1 a1_2 a1_3 a1_4 a1_5 = some r) :
  Calls Try.prog 35 #[.slice A0 l0.length c0, .agg #[.int .i64 a1_0, .int .i64 a1_1, .int .i64 a1_2, .int .i64 a1_3, .int .i64 a1_4, .int .i64 a1_5]] w fun e w' => e = .returned (.bool (r)) ∧ Below w.heap.size w w' := by
 obtain rfl : rightB l0 a1_0 a1_1 a1_2 a1_3 a1_4 a1_5 = r := oI h
 cases b1 : inB a1_1 1 8 with
 | false => simpa [rightB, b1] using isRight_no1 A0 c0 l0 a1_0 a1_1 a1_2 a1_3 a1_4 a1_5 w hr0 hc0 b1
 | true =>
  cases b2 : inB a1_0 0 20 with
  | false => simpa [rightB, b1, b2] using isRight_no2 A0 c0 l0 a1_0 a1_1 a1_2 a1_3 a1_4 a1_5 w hr0 hc0 b1 b2
  | true =>
   cases b3 : usesB a1_0 a1_2 a1_3 a1_4 a1_5 with
   | false => simpa [rightB, b1, b2, b3] using isRight_no3 A0 c0 l0 a1_0 a1_1 a1_2 a1_3 a1_4 a1_5 w hr0 hc0 b1 b2 b3
   | true =>
    refine isRight_go A0 c0 l0 a1_0 a1_1 a1_2 a1_3 a1_4 a1_5 w hr0 hc0 b1 b2 b3 _ (fun hn => ?_) (fun hy => ?_)
    ·rw [partsAll _ (fun p => inB p 0 ((l0.length : Int) - 1))] at hn
     simp only [Bool.not_eq_true] at hn
     unfold rightB
     rw [hn]; simp
    ·rw [partsAll _ (fun p => inB p 0 ((l0.length : Int) - 1))] at hy
     unfold rightB
     rw [b1, b2, b3, hy]; simp only [Bool.true_and]
/-! ### impl_TermOk: function 20 -/
def impl_TermOk.l0 : Nat → List (S39) → List (S39) → Int → Int → Option (Bool)
 | 0, _, _, _, _ => none
 | k + 1, x0, x9, x10, x11 => if x11 < x10 then (if 0 ≤ x11 then (if x11 < (x9.length : Int) then (if x11 ≤ (x0.length : Int) then ((impl_isRight.f (x0.take (x11 : Int).toNat) ((rd_T39 x9 x11).f0) ((rd_T39 x9 x11).f1) ((rd_T39 x9 x11).f2) ((rd_T39 x9 x11).f3) ((rd_T39 x9 x11).f4) ((rd_T39 x9 x11).f5)).bind fun t711 => (if t711 = true then (impl_TermOk.l0 k x0 x9 x10 (wrap64 (x11 + 1))) else (some false))) else (none)) else (none)) else (none)) else (some true)
def impl_TermOk.f (k : Nat) (l0 : List (S39)) : Option (Bool) := (impl_within.f (l0.length : Int) 1 80).bind fun t704 => (if t704 = true then (impl_TermOk.l0 k l0 l0 (l0.length : Int) 0) else (some false))
set_option maxHeartbeats 8000000 in
set_option maxRecDepth 100000 in
theorem impl_TermOk.calls (k : Nat) (A0 : Option Addr) (c0 : Nat) (l0 : List (S39)) (r : Bool) (w : World) (hr0 : Kd.C k39 w A0 l0.length l0) (hc0 : l0.length ≤ c0) (h : impl_TermOk.f k l0 = some r) :
  Calls Try.prog 20 #[.slice A0 l0.length c0] w fun e w' => e = .returned (.bool r) ∧ Below w.heap.size w w' := by
 have hu39 := Try.underlying39
 have HR0 := am hr0
 have HC0 := am hc0
 clear hr0 hc0
 have HB := am (Below.refl w.heap.size w)
 have H : ((impl_within.f (l0.length : Int) 1 80).bind fun t704 => (if t704 = true then (impl_TermOk.l0 k l0 l0 (l0.length : Int) 0) else (some false))) = some r := h
 clear h
 replace H := oB H
 obtain ⟨t704, A20, H⟩ := H
 have A2 := am A20
 clear A20
 by_cases c3 : t704 = true
 ·subst c3
  rw [if_pos rfl] at H
  have H' := am H
  clear H
  go_enter Try.func20, Try.ntmps20
  go_wp2_with (first | ((with_reducible refine gate_callee (f := 34) rfl ?_); refine goesL_ (some 7) rfl rfl Try.func34 (by kernel_rfl) rfl #[.int .i64 (l0.length : Int), .int .i64 1, .int .i64 80] rfl tm ?_; (with_reducible refine (impl_within.calls (l0.length : Int) 1 80 true _ A2.out).mono ?_); rintro e w' ⟨rfl, ⟨nd, rfl⟩⟩; refine ⟨_, rfl, ?_⟩))
  go_loopg [11] k (fun kq v11 w' => ∃ (x11_1 : Int), v11 = .int .i64 x11_1 ∧ Aside0 (impl_TermOk.l0 kq l0 l0 (l0.length : Int) x11_1 = some r) ∧ Aside0 (kq ≤ k) ∧ Aside0 (Below w.heap.size w w'))
  case atStart => exact ⟨(0), (by rfl), H', ⟨Nat.le_refl _⟩, ⟨by exact sW HB.out⟩⟩
  case round =>
   clear H'
   obtain ⟨x11_1, rfl, HA, HK1, HB⟩ := hrel
   cases gk with
   | zero => exact absurd HA.out (by simp [impl_TermOk.l0])
   | succ k1 =>
    have H := HA.out
    clear HA
    simp only [impl_TermOk.l0] at H
    by_cases c4 : x11_1 < (l0.length : Int)
    ·rw [if_pos c4] at H
     have c4b0 : decide (x11_1 < (l0.length : Int)) = true := decide_eq_true c4
     clear c4
     by_cases c5 : 0 ≤ x11_1
     ·rw [if_pos c5] at H
      have c5b0 : decide (0 ≤ x11_1) = true := decide_eq_true c5
      clear c5
      by_cases c6 : x11_1 < (l0.length : Int)
      ·rw [if_pos c6] at H
       have c6b0 : decide (x11_1 < (l0.length : Int)) = true := decide_eq_true c6
       clear c6
       have c7b0 := eq_true (oD (by assumption) : 0 ≤ x11_1)
       by_cases c8 : x11_1 ≤ (l0.length : Int)
       ·rw [if_pos c8] at H
        have c8b0 := eq_true c8
        have c8b1 : decide (x11_1 ≤ (l0.length : Int)) = true := decide_eq_true c8
        clear c8
        obtain ⟨y707, hy707⟩ : ∃ y_ : List (S39), y_ = (l0.take (x11_1 : Int).toNat) := ⟨_, rfl⟩
        replace H : ((impl_isRight.f y707 ((rd_T39 l0 x11_1).f0) ((rd_T39 l0 x11_1).f1) ((rd_T39 l0 x11_1).f2) ((rd_T39 l0 x11_1).f3) ((rd_T39 l0 x11_1).f4) ((rd_T39 l0 x11_1).f5)).bind fun t711 => (if t711 = true then (impl_TermOk.l0 k1 l0 l0 (l0.length : Int) (wrap64 (x11_1 + 1))) else (some false))) = some r := by (rw [hy707]; with_reducible exact H)
        have Ny707 := am hy707
        clear hy707
        replace H := oB H
        obtain ⟨t711, A90, H⟩ := H
        have A9 := am A90
        clear A90
        by_cases c10 : t711 = true
        ·subst c10
         rw [if_pos rfl] at H
         have H' := am H
         clear H
         have p705 : 0 ≤ (x11_1 : Int) := oD (by assumption)
         have q705 : x11_1 < (l0.length : Int) := oD (by assumption)
         obtain ⟨ad705, e705, hx705_0, hx705_1, hx705_2, hx705_3, hx705_4, hx705_5⟩ := at_T39 HR0.out x11_1 p705 q705
         cases e705
         replace hx705_0 := pw_cell_below HB.out hx705_0
         replace hx705_1 := pw_cell_below HB.out hx705_1
         replace hx705_2 := pw_cell_below HB.out hx705_2
         replace hx705_3 := pw_cell_below HB.out hx705_3
         replace hx705_4 := pw_cell_below HB.out hx705_4
         replace hx705_5 := pw_cell_below HB.out hx705_5
         replace p705 := eq_true p705
         replace q705 := eq_true q705
         try go_wp2_with (first | ((with_reducible refine gate_dst (N := 4) rfl ?_); refine box_event ?hg (N := 4) ?hd (cs := #[.int .i64 0, .int .i64 0, .int .i64 0, .int .i64 0, .int .i64 0, .int .i64 0]) (t := 39) ?hr ?_; (case hd => rfl); (case hg => rfl); (case hr => (go_simp; done)); intro gb706 hg w11 hbox hb; have n0_ := am (below_step (by exact sW HB.out) hb); have n1_ := am (hbox); have n2_ := am ((by rw [hg]; exact (below_size (by exact sW HB.out)) : w.heap.size ≤ gb706)); have n3_ := am ((by rw [hg]; exact (below_size (by exact sW HB.out)) : w.heap.size ≤ gb706)); clear HB; have HB := n0_; have BK706 := n1_; have GW706 := n2_; have GE706 := n3_; clear n0_ n1_ n2_ n3_; clear hb hbox hg; obtain ⟨hcz12_0, hcz12_1, hcz12_2, hcz12_3, hcz12_4, hcz12_5⟩ := cz6 BK706.out; obtain ⟨hfz12_0, hfz12_1, hfz12_2, hfz12_3, hfz12_4, hfz12_5⟩ := fz6 BK706.out))
         have n0_ : Aside0 (((((((w11.setCell ⟨gb706, 0, none⟩ (.int .i64 ((rd_T39 l0 x11_1).f0))).setCell ⟨gb706, 1, none⟩ (.int .i64 ((rd_T39 l0 x11_1).f1))).setCell ⟨gb706, 2, none⟩ (.int .i64 ((rd_T39 l0 x11_1).f2))).setCell ⟨gb706, 3, none⟩ (.int .i64 ((rd_T39 l0 x11_1).f3))).setCell ⟨gb706, 4, none⟩ (.int .i64 ((rd_T39 l0 x11_1).f4))).setCell ⟨gb706, 5, none⟩ (.int .i64 ((rd_T39 l0 x11_1).f5))).heap[gb706]? = some (.cells #[.int .i64 ((rd_T39 l0 x11_1).f0), .int .i64 ((rd_T39 l0 x11_1).f1), .int .i64 ((rd_T39 l0 x11_1).f2), .int .i64 ((rd_T39 l0 x11_1).f3), .int .i64 ((rd_T39 l0 x11_1).f4), .int .i64 ((rd_T39 l0 x11_1).f5)] 39 (0, 0))) := ⟨by (with_reducible repeat (first | refine blk_drewN ?_ _ | refine blk_drew ?_ | refine blk_alloc ?_ _)); refine blk_put (cs := #[.int .i64 ((rd_T39 l0 x11_1).f0), .int .i64 ((rd_T39 l0 x11_1).f1), .int .i64 ((rd_T39 l0 x11_1).f2), .int .i64 ((rd_T39 l0 x11_1).f3), .int .i64 ((rd_T39 l0 x11_1).f4), .int .i64 0]) ?_ 5 _ rfl; (with_reducible repeat (first | refine blk_drewN ?_ _ | refine blk_drew ?_ | refine blk_alloc ?_ _)); refine blk_put (cs := #[.int .i64 ((rd_T39 l0 x11_1).f0), .int .i64 ((rd_T39 l0 x11_1).f1), .int .i64 ((rd_T39 l0 x11_1).f2), .int .i64 ((rd_T39 l0 x11_1).f3), .int .i64 0, .int .i64 0]) ?_ 4 _ rfl; (with_reducible repeat (first | refine blk_drewN ?_ _ | refine blk_drew ?_ | refine blk_alloc ?_ _)); refine blk_put (cs := #[.int .i64 ((rd_T39 l0 x11_1).f0), .int .i64 ((rd_T39 l0 x11_1).f1), .int .i64 ((rd_T39 l0 x11_1).f2), .int .i64 0, .int .i64 0, .int .i64 0]) ?_ 3 _ rfl; (with_reducible repeat (first | refine blk_drewN ?_ _ | refine blk_drew ?_ | refine blk_alloc ?_ _)); refine blk_put (cs := #[.int .i64 ((rd_T39 l0 x11_1).f0), .int .i64 ((rd_T39 l0 x11_1).f1), .int .i64 0, .int .i64 0, .int .i64 0, .int .i64 0]) ?_ 2 _ rfl; (with_reducible repeat (first | refine blk_drewN ?_ _ | refine blk_drew ?_ | refine blk_alloc ?_ _)); refine blk_put (cs := #[.int .i64 ((rd_T39 l0 x11_1).f0), .int .i64 0, .int .i64 0, .int .i64 0, .int .i64 0, .int .i64 0]) ?_ 1 _ rfl; (with_reducible repeat (first | refine blk_drewN ?_ _ | refine blk_drew ?_ | refine blk_alloc ?_ _)); refine blk_put (cs := #[.int .i64 0, .int .i64 0, .int .i64 0, .int .i64 0, .int .i64 0, .int .i64 0]) ?_ 0 _ rfl; exact sB <| BK706.out⟩
         have n1_ : Aside0 (Below w.heap.size w ((((((w11.setCell ⟨gb706, 0, none⟩ (.int .i64 ((rd_T39 l0 x11_1).f0))).setCell ⟨gb706, 1, none⟩ (.int .i64 ((rd_T39 l0 x11_1).f1))).setCell ⟨gb706, 2, none⟩ (.int .i64 ((rd_T39 l0 x11_1).f2))).setCell ⟨gb706, 3, none⟩ (.int .i64 ((rd_T39 l0 x11_1).f3))).setCell ⟨gb706, 4, none⟩ (.int .i64 ((rd_T39 l0 x11_1).f4))).setCell ⟨gb706, 5, none⟩ (.int .i64 ((rd_T39 l0 x11_1).f5)))) := ⟨by exact bW⟩
         clear BK706
         clear HB
         generalize ((((((w11.setCell ⟨gb706, 0, none⟩ (.int .i64 ((rd_T39 l0 x11_1).f0))).setCell ⟨gb706, 1, none⟩ (.int .i64 ((rd_T39 l0 x11_1).f1))).setCell ⟨gb706, 2, none⟩ (.int .i64 ((rd_T39 l0 x11_1).f2))).setCell ⟨gb706, 3, none⟩ (.int .i64 ((rd_T39 l0 x11_1).f3))).setCell ⟨gb706, 4, none⟩ (.int .i64 ((rd_T39 l0 x11_1).f4))).setCell ⟨gb706, 5, none⟩ (.int .i64 ((rd_T39 l0 x11_1).f5))) = w13 at n0_ n1_ ⊢
         have BK706 := n0_
         have HB := n1_
         clear n0_ n1_
         have n0_ := am (blk_drew BK706.out)
         have n1_ := am (below_drew1 HB.out)
         clear BK706
         clear HB
         have BK706 := n0_
         have HB := n1_
         clear n0_ n1_
         have q15 : (x11_1 : Int) ≤ ((l0.length : Int) : Int) := oD (by assumption)
         obtain ⟨i015, hi015, _, hsz15, _⟩ := info_parts info39
         have hroom15 : l0.length ≤ c0 := HC0.out
         have hC15 : Kd.C k39 _ (some ad705) l0.length l0 := HR0.out
         have hcut15 := cut_to (P := Try.prog) 26 39 .i64 Try.underlying26 hi015 (some ad705) l0.length c0 x11_1 (oD (by assumption)) q15 hroom15
         have hr15 := Kd.C_take (m := (x11_1 : Int).toNat) hC15 (by omega)
         have hy15 : y707.length = (x11_1 : Int).toNat := (by rw [Ny707.out, List.length_take]; omega)
         rw [← Ny707.out] at hr15
         rw [← hy15] at hcut15
         have HR710 := am hr15
         have HC710 := am (show y707.length ≤ c0 from by omega)
         clear hr15 hC15 hroom15 hi015 hsz15
         have KY15 := am hy15
         clear hy15
         replace q15 := eq_true q15
         refine start_ (n := 6) (S := fun w' => w'.cell? ⟨gb706, 0, none⟩ = some (.int .i64 ((rd_T39 l0 x11_1).f0)) ∧ w'.cell? ⟨gb706, 1, none⟩ = some (.int .i64 ((rd_T39 l0 x11_1).f1)) ∧ w'.cell? ⟨gb706, 2, none⟩ = some (.int .i64 ((rd_T39 l0 x11_1).f2)) ∧ w'.cell? ⟨gb706, 3, none⟩ = some (.int .i64 ((rd_T39 l0 x11_1).f3)) ∧ w'.cell? ⟨gb706, 4, none⟩ = some (.int .i64 ((rd_T39 l0 x11_1).f4)) ∧ w'.cell? ⟨gb706, 5, none⟩ = some (.int .i64 ((rd_T39 l0 x11_1).f5))) (ds := []) #[false, false, false, false, false, false] (by kernel_rfl) rfl rfl ⟨(blk_cell BK706.out 0).trans rfl, (blk_cell BK706.out 1).trans rfl, (blk_cell BK706.out 2).trans rfl, (blk_cell BK706.out 3).trans rfl, (blk_cell BK706.out 4).trans rfl, (blk_cell BK706.out 5).trans rfl⟩ (fun hHeld => ?_)
         generalize w13.drew = w14 at BK706 HB HR710 hHeld ⊢
         refine pS (i := 0) (N := some 16) #[true, false, false, false, false, false] ?_
         refine pS (i := 1) (N := some 17) #[true, true, false, false, false, false] ?_
         refine pS (i := 2) (N := some 18) #[true, true, true, false, false, false] ?_
         refine take_ (i := 3) (N := some 19) (v := ?_) (a' := ?_) #[true, true, true, true, false, false] rfl rfl (by kernel_rfl) (fun _ _ _ h => h) (Or.inl ⟨by rfl, ?_⟩) hHeld ?_ ?_
         rotate_left
         ·rintro w' ⟨s0, s1, s2, s3, s4, s5⟩
          go_simp
          with_reducible rfl
         rotate_left
         ·simp only [Act.put, List.setIfInBounds_toArray, List.set_cons_zero, List.set_cons_succ, i64_w, i32_w]
          rfl
         refine one_ (i := 4) (N := some 20) #[true, true, true, true, true, false] rfl rfl (by kernel_rfl) (by decide) (fun K hK => ?_)
         refine goes_ Try.func35 (by kernel_rfl) rfl #[.slice (some ad705) y707.length c0, .agg #[.int .i64 ((rd_T39 l0 x11_1).f0), .int .i64 ((rd_T39 l0 x11_1).f1), .int .i64 ((rd_T39 l0 x11_1).f2), .int .i64 ((rd_T39 l0 x11_1).f3), .int .i64 ((rd_T39 l0 x11_1).f4), .int .i64 ((rd_T39 l0 x11_1).f5)]] (by rfl) rfl rfl tm ?_
         with_reducible refine (impl_isRight.calls _ _ y707 ((rd_T39 l0 x11_1).f0) ((rd_T39 l0 x11_1).f1) ((rd_T39 l0 x11_1).f2) ((rd_T39 l0 x11_1).f3) ((rd_T39 l0 x11_1).f4) ((rd_T39 l0 x11_1).f5) true _ ?side1 ?side2 A9.out).mono ?_
         (case side1 => exact sC (Kd.C_below HR710.out HB.out))
         (case side2 => exact HC710.out)
         rintro e w16 ⟨rfl, hb⟩
         refine ⟨_, rfl, ?_⟩
         have n0_ := am (blk_below (g := gb706) (o := .cells #[.int .i64 ((rd_T39 l0 x11_1).f0), .int .i64 ((rd_T39 l0 x11_1).f1), .int .i64 ((rd_T39 l0 x11_1).f2), .int .i64 ((rd_T39 l0 x11_1).f3), .int .i64 ((rd_T39 l0 x11_1).f4), .int .i64 ((rd_T39 l0 x11_1).f5)] 39 (0, 0)) (by exact sB <| BK706.out) hb)
         have n1_ := am (below_step (by exact bW) hb)
         clear BK706
         clear HB
         have BK706 := n0_
         have HB := n1_
         clear n0_ n1_
         clear hb
         refine hK.out _ _ ⟨(blk_cell BK706.out 0).trans rfl, (blk_cell BK706.out 1).trans rfl, (blk_cell BK706.out 2).trans rfl, (blk_cell BK706.out 3).trans rfl, (blk_cell BK706.out 4).trans rfl, (blk_cell BK706.out 5).trans rfl⟩ (fun hHeld => ?_)
         clear hK K
         refine norm_ (a' := ?_) ?_ ?_
         rotate_left
         ·show Act.put _ (some 20) _ = _
          simp only [Act.put, List.setIfInBounds_toArray, List.set_cons_zero, List.set_cons_succ, i64_w, i32_w]
          rfl
         refine pS (i := 5) (N := some 21) #[true, true, true, true, true, true] ?_
         refine done_ (by kernel_rfl) ?_
         try go_wp2
         go_roundg k1
         case measure => have := HK1.out; omega
         case rel => exact ⟨(wrap64 (x11_1 + 1)), (by rfl), H', ⟨by have := HK1.out; omega⟩, ⟨by exact bW⟩⟩
        ·replace c10 := Bool.eq_false_iff.mpr c10
         subst c10
         rw [if_neg (show ¬ (false = true) by decide)] at H
         obtain rfl := oI H
         have p705 : 0 ≤ (x11_1 : Int) := oD (by assumption)
         have q705 : x11_1 < (l0.length : Int) := oD (by assumption)
         obtain ⟨ad705, e705, hx705_0, hx705_1, hx705_2, hx705_3, hx705_4, hx705_5⟩ := at_T39 HR0.out x11_1 p705 q705
         cases e705
         replace hx705_0 := pw_cell_below HB.out hx705_0
         replace hx705_1 := pw_cell_below HB.out hx705_1
         replace hx705_2 := pw_cell_below HB.out hx705_2
         replace hx705_3 := pw_cell_below HB.out hx705_3
         replace hx705_4 := pw_cell_below HB.out hx705_4
         replace hx705_5 := pw_cell_below HB.out hx705_5
         replace p705 := eq_true p705
         replace q705 := eq_true q705
         try go_wp2_with (first | ((with_reducible refine gate_dst (N := 4) rfl ?_); refine box_event ?hg (N := 4) ?hd (cs := #[.int .i64 0, .int .i64 0, .int .i64 0, .int .i64 0, .int .i64 0, .int .i64 0]) (t := 39) ?hr ?_; (case hd => rfl); (case hg => rfl); (case hr => (go_simp; done)); intro gb706 hg w17 hbox hb; have n0_ := am (below_step (by exact sW HB.out) hb); have n1_ := am (hbox); have n2_ := am ((by rw [hg]; exact (below_size (by exact sW HB.out)) : w.heap.size ≤ gb706)); have n3_ := am ((by rw [hg]; exact (below_size (by exact sW HB.out)) : w.heap.size ≤ gb706)); clear HB; have HB := n0_; have BK706 := n1_; have GW706 := n2_; have GE706 := n3_; clear n0_ n1_ n2_ n3_; clear hb hbox hg; obtain ⟨hcz18_0, hcz18_1, hcz18_2, hcz18_3, hcz18_4, hcz18_5⟩ := cz6 BK706.out; obtain ⟨hfz18_0, hfz18_1, hfz18_2, hfz18_3, hfz18_4, hfz18_5⟩ := fz6 BK706.out))
         have n0_ : Aside0 (((((((w17.setCell ⟨gb706, 0, none⟩ (.int .i64 ((rd_T39 l0 x11_1).f0))).setCell ⟨gb706, 1, none⟩ (.int .i64 ((rd_T39 l0 x11_1).f1))).setCell ⟨gb706, 2, none⟩ (.int .i64 ((rd_T39 l0 x11_1).f2))).setCell ⟨gb706, 3, none⟩ (.int .i64 ((rd_T39 l0 x11_1).f3))).setCell ⟨gb706, 4, none⟩ (.int .i64 ((rd_T39 l0 x11_1).f4))).setCell ⟨gb706, 5, none⟩ (.int .i64 ((rd_T39 l0 x11_1).f5))).heap[gb706]? = some (.cells #[.int .i64 ((rd_T39 l0 x11_1).f0), .int .i64 ((rd_T39 l0 x11_1).f1), .int .i64 ((rd_T39 l0 x11_1).f2), .int .i64 ((rd_T39 l0 x11_1).f3), .int .i64 ((rd_T39 l0 x11_1).f4), .int .i64 ((rd_T39 l0 x11_1).f5)] 39 (0, 0))) := ⟨by (with_reducible repeat (first | refine blk_drewN ?_ _ | refine blk_drew ?_ | refine blk_alloc ?_ _)); refine blk_put (cs := #[.int .i64 ((rd_T39 l0 x11_1).f0), .int .i64 ((rd_T39 l0 x11_1).f1), .int .i64 ((rd_T39 l0 x11_1).f2), .int .i64 ((rd_T39 l0 x11_1).f3), .int .i64 ((rd_T39 l0 x11_1).f4), .int .i64 0]) ?_ 5 _ rfl; (with_reducible repeat (first | refine blk_drewN ?_ _ | refine blk_drew ?_ | refine blk_alloc ?_ _)); refine blk_put (cs := #[.int .i64 ((rd_T39 l0 x11_1).f0), .int .i64 ((rd_T39 l0 x11_1).f1), .int .i64 ((rd_T39 l0 x11_1).f2), .int .i64 ((rd_T39 l0 x11_1).f3), .int .i64 0, .int .i64 0]) ?_ 4 _ rfl; (with_reducible repeat (first | refine blk_drewN ?_ _ | refine blk_drew ?_ | refine blk_alloc ?_ _)); refine blk_put (cs := #[.int .i64 ((rd_T39 l0 x11_1).f0), .int .i64 ((rd_T39 l0 x11_1).f1), .int .i64 ((rd_T39 l0 x11_1).f2), .int .i64 0, .int .i64 0, .int .i64 0]) ?_ 3 _ rfl; (with_reducible repeat (first | refine blk_drewN ?_ _ | refine blk_drew ?_ | refine blk_alloc ?_ _)); refine blk_put (cs := #[.int .i64 ((rd_T39 l0 x11_1).f0), .int .i64 ((rd_T39 l0 x11_1).f1), .int .i64 0, .int .i64 0, .int .i64 0, .int .i64 0]) ?_ 2 _ rfl; (with_reducible repeat (first | refine blk_drewN ?_ _ | refine blk_drew ?_ | refine blk_alloc ?_ _)); refine blk_put (cs := #[.int .i64 ((rd_T39 l0 x11_1).f0), .int .i64 0, .int .i64 0, .int .i64 0, .int .i64 0, .int .i64 0]) ?_ 1 _ rfl; (with_reducible repeat (first | refine blk_drewN ?_ _ | refine blk_drew ?_ | refine blk_alloc ?_ _)); refine blk_put (cs := #[.int .i64 0, .int .i64 0, .int .i64 0, .int .i64 0, .int .i64 0, .int .i64 0]) ?_ 0 _ rfl; exact sB <| BK706.out⟩
         have n1_ : Aside0 (Below w.heap.size w ((((((w17.setCell ⟨gb706, 0, none⟩ (.int .i64 ((rd_T39 l0 x11_1).f0))).setCell ⟨gb706, 1, none⟩ (.int .i64 ((rd_T39 l0 x11_1).f1))).setCell ⟨gb706, 2, none⟩ (.int .i64 ((rd_T39 l0 x11_1).f2))).setCell ⟨gb706, 3, none⟩ (.int .i64 ((rd_T39 l0 x11_1).f3))).setCell ⟨gb706, 4, none⟩ (.int .i64 ((rd_T39 l0 x11_1).f4))).setCell ⟨gb706, 5, none⟩ (.int .i64 ((rd_T39 l0 x11_1).f5)))) := ⟨by exact bW⟩
         clear BK706
         clear HB
         generalize ((((((w17.setCell ⟨gb706, 0, none⟩ (.int .i64 ((rd_T39 l0 x11_1).f0))).setCell ⟨gb706, 1, none⟩ (.int .i64 ((rd_T39 l0 x11_1).f1))).setCell ⟨gb706, 2, none⟩ (.int .i64 ((rd_T39 l0 x11_1).f2))).setCell ⟨gb706, 3, none⟩ (.int .i64 ((rd_T39 l0 x11_1).f3))).setCell ⟨gb706, 4, none⟩ (.int .i64 ((rd_T39 l0 x11_1).f4))).setCell ⟨gb706, 5, none⟩ (.int .i64 ((rd_T39 l0 x11_1).f5))) = w19 at n0_ n1_ ⊢
         have BK706 := n0_
         have HB := n1_
         clear n0_ n1_
         have n0_ := am (blk_drew BK706.out)
         have n1_ := am (below_drew1 HB.out)
         clear BK706
         clear HB
         have BK706 := n0_
         have HB := n1_
         clear n0_ n1_
         have q21 : (x11_1 : Int) ≤ ((l0.length : Int) : Int) := oD (by assumption)
         obtain ⟨i021, hi021, _, hsz21, _⟩ := info_parts info39
         have hroom21 : l0.length ≤ c0 := HC0.out
         have hC21 : Kd.C k39 _ (some ad705) l0.length l0 := HR0.out
         have hcut21 := cut_to (P := Try.prog) 26 39 .i64 Try.underlying26 hi021 (some ad705) l0.length c0 x11_1 (oD (by assumption)) q21 hroom21
         have hr21 := Kd.C_take (m := (x11_1 : Int).toNat) hC21 (by omega)
         have hy21 : y707.length = (x11_1 : Int).toNat := (by rw [Ny707.out, List.length_take]; omega)
         rw [← Ny707.out] at hr21
         rw [← hy21] at hcut21
         have HR710 := am hr21
         have HC710 := am (show y707.length ≤ c0 from by omega)
         clear hr21 hC21 hroom21 hi021 hsz21
         have KY21 := am hy21
         clear hy21
         replace q21 := eq_true q21
         refine start_ (n := 6) (S := fun w' => w'.cell? ⟨gb706, 0, none⟩ = some (.int .i64 ((rd_T39 l0 x11_1).f0)) ∧ w'.cell? ⟨gb706, 1, none⟩ = some (.int .i64 ((rd_T39 l0 x11_1).f1)) ∧ w'.cell? ⟨gb706, 2, none⟩ = some (.int .i64 ((rd_T39 l0 x11_1).f2)) ∧ w'.cell? ⟨gb706, 3, none⟩ = some (.int .i64 ((rd_T39 l0 x11_1).f3)) ∧ w'.cell? ⟨gb706, 4, none⟩ = some (.int .i64 ((rd_T39 l0 x11_1).f4)) ∧ w'.cell? ⟨gb706, 5, none⟩ = some (.int .i64 ((rd_T39 l0 x11_1).f5))) (ds := []) #[false, false, false, false, false, false] (by kernel_rfl) rfl rfl ⟨(blk_cell BK706.out 0).trans rfl, (blk_cell BK706.out 1).trans rfl, (blk_cell BK706.out 2).trans rfl, (blk_cell BK706.out 3).trans rfl, (blk_cell BK706.out 4).trans rfl, (blk_cell BK706.out 5).trans rfl⟩ (fun hHeld => ?_)
         generalize w19.drew = w20 at BK706 HB HR710 hHeld ⊢
         refine pS (i := 0) (N := some 16) #[true, false, false, false, false, false] ?_
         refine pS (i := 1) (N := some 17) #[true, true, false, false, false, false] ?_
         refine pS (i := 2) (N := some 18) #[true, true, true, false, false, false] ?_
         refine take_ (i := 3) (N := some 19) (v := ?_) (a' := ?_) #[true, true, true, true, false, false] rfl rfl (by kernel_rfl) (fun _ _ _ h => h) (Or.inl ⟨by rfl, ?_⟩) hHeld ?_ ?_
         rotate_left
         ·rintro w' ⟨s0, s1, s2, s3, s4, s5⟩
          go_simp
          with_reducible rfl
         rotate_left
         ·simp only [Act.put, List.setIfInBounds_toArray, List.set_cons_zero, List.set_cons_succ, i64_w, i32_w]
          rfl
         refine one_ (i := 4) (N := some 20) #[true, true, true, true, true, false] rfl rfl (by kernel_rfl) (by decide) (fun K hK => ?_)
         refine goes_ Try.func35 (by kernel_rfl) rfl #[.slice (some ad705) y707.length c0, .agg #[.int .i64 ((rd_T39 l0 x11_1).f0), .int .i64 ((rd_T39 l0 x11_1).f1), .int .i64 ((rd_T39 l0 x11_1).f2), .int .i64 ((rd_T39 l0 x11_1).f3), .int .i64 ((rd_T39 l0 x11_1).f4), .int .i64 ((rd_T39 l0 x11_1).f5)]] (by rfl) rfl rfl tm ?_
         with_reducible refine (impl_isRight.calls _ _ y707 ((rd_T39 l0 x11_1).f0) ((rd_T39 l0 x11_1).f1) ((rd_T39 l0 x11_1).f2) ((rd_T39 l0 x11_1).f3) ((rd_T39 l0 x11_1).f4) ((rd_T39 l0 x11_1).f5) false _ ?side1 ?side2 A9.out).mono ?_
         (case side1 => exact sC (Kd.C_below HR710.out HB.out))
         (case side2 => exact HC710.out)
         rintro e w22 ⟨rfl, hb⟩
         refine ⟨_, rfl, ?_⟩
         have n0_ := am (blk_below (g := gb706) (o := .cells #[.int .i64 ((rd_T39 l0 x11_1).f0), .int .i64 ((rd_T39 l0 x11_1).f1), .int .i64 ((rd_T39 l0 x11_1).f2), .int .i64 ((rd_T39 l0 x11_1).f3), .int .i64 ((rd_T39 l0 x11_1).f4), .int .i64 ((rd_T39 l0 x11_1).f5)] 39 (0, 0)) (by exact sB <| BK706.out) hb)
         have n1_ := am (below_step (by exact bW) hb)
         clear BK706
         clear HB
         have BK706 := n0_
         have HB := n1_
         clear n0_ n1_
         clear hb
         refine hK.out _ _ ⟨(blk_cell BK706.out 0).trans rfl, (blk_cell BK706.out 1).trans rfl, (blk_cell BK706.out 2).trans rfl, (blk_cell BK706.out 3).trans rfl, (blk_cell BK706.out 4).trans rfl, (blk_cell BK706.out 5).trans rfl⟩ (fun hHeld => ?_)
         clear hK K
         refine norm_ (a' := ?_) ?_ ?_
         rotate_left
         ·show Act.put _ (some 20) _ = _
          simp only [Act.put, List.setIfInBounds_toArray, List.set_cons_zero, List.set_cons_succ, i64_w, i32_w]
          rfl
         refine pS (i := 5) (N := some 21) #[true, true, true, true, true, true] ?_
         refine done_ (by kernel_rfl) ?_
         try go_wp2
         go_ret
         exact ⟨by rfl, by exact bW⟩
       ·rw [if_neg c8] at H
        exact absurd H (by simp)
      ·rw [if_neg c6] at H
       exact absurd H (by simp)
     ·rw [if_neg c5] at H
      exact absurd H (by simp)
    ·rw [if_neg c4] at H
     have c4b0 : decide (x11_1 < (l0.length : Int)) = false := decide_eq_false c4
     clear c4
     obtain rfl := oI H
     go_wp2
     go_ret
     exact ⟨by rfl, by exact sW HB.out⟩
 ·replace c3 := Bool.eq_false_iff.mpr c3
  subst c3
  rw [if_neg (show ¬ (false = true) by decide)] at H
  obtain rfl := oI H
  go_enter Try.func20, Try.ntmps20
  go_wp2_with (first | ((with_reducible refine gate_callee (f := 34) rfl ?_); refine goesL_ (some 7) rfl rfl Try.func34 (by kernel_rfl) rfl #[.int .i64 (l0.length : Int), .int .i64 1, .int .i64 80] rfl tm ?_; (with_reducible refine (impl_within.calls (l0.length : Int) 1 80 false _ A2.out).mono ?_); rintro e w' ⟨rfl, ⟨nd, rfl⟩⟩; refine ⟨_, rfl, ?_⟩))
  go_ret
  exact ⟨by rfl, by exact sW HB.out⟩
end Go.Proofs.Ytjjjbifbibabgaa.PAll
