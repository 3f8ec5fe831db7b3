/- Written by a program of this session over the loaded program: Go functions as plain Lean functions, and that a call comes to what they say. -/
import Derived.Test.YtdebihfmceclkaaPFnExactFreex0
import Derived.Test.YtdebihfmceclkaaPFnExactFreex12
import Derived.Test.YtdebihfmceclkaaPFnExactFreex13
namespace Go.Proofs.Ytdebihfmceclkaa.PFnExactFree
open Go.RowKit Go.Proofs.YtdebihfmceclkaaW.PrintWords Go.Proofs.YtdebihfmceclkaaW.PrintLast Go.Proofs.YtdebihfmceclkaaW.PrintMore
attribute [local go_sem] max2_int min2_int max_two min_two max_three min_three max_four min_four   -- for this text's walks alone
set_option linter.unusedVariables false
set_option linter.unusedSimpArgs false

/-! ### impl_freeAt: by hand -/
def impl_freeAt.f (k : Nat) (l0 : List (S36)) (a1 : Int) : Option (List Bool) := impl_reach.f (impl_freeAt_1.f l0 a1) k l0 (wrap64 ((l0.length : Int) - 1))
theorem impl_freeAt.mono : ∀ a0 a1 k, LeO (impl_freeAt.f k a0 a1) (impl_freeAt.f (k + 1) a0 a1) := fun a0 a1 k => impl_reach.mono _ _ _ _
set_option maxHeartbeats 2000000 in
set_option maxRecDepth 100000 in
theorem impl_freeAt.calls (k : Nat) (A0 : Option Addr) (c0 : Nat) (l0 : List (S36)) (a1 : Int) (r : List Bool) (w : World) (hr0 : Kd.C k36 w A0 l0.length l0) (hc0 : l0.length ≤ c0) (h : impl_freeAt.f k l0 a1 = some r) :
  Calls Try.prog 106 #[.slice A0 l0.length c0, .int .i64 a1] w fun e w' => ∃ v0_ : Value, e = .returned (v0_) ∧ Kd.R Kd.bool 4 w' w.heap.size (fun _ => True) v0_ r ∧ Below w.heap.size w w' := by
 have HR0 := Aside0.mk hr0
 have HC0 := Aside0.mk hc0
 have H := Aside0.mk h
 clear hr0 hc0 h
 have hmf : ∀ (fn : Fn) (first cap : Array Value) (w : World), (Instr.makeFunc fn first cap).run Try.prog w = .ok (.func fn first cap) w := fun _ _ _ _ => rfl
 go_enter Try.func106, Try.ntmps106
 go_wp2_with fail
 have hb0 : Below w.heap.size w ((w.alloc (Obj.cells #[Value.slice A0 l0.length c0] 25)).alloc (Obj.cells #[Value.int IntKind.i64 a1] 3)) := below_alloc (below_alloc (Below.refl _ _) _) _
 have h1 : ((w.alloc (Obj.cells #[Value.slice A0 l0.length c0] 25)).alloc (Obj.cells #[Value.int IntKind.i64 a1] 3)).heap[w.heap.size]? = some (Obj.cells #[Value.slice A0 l0.length c0] 25) := blk_alloc (heap_alloc_new w _) _
 have h2 : ((w.alloc (Obj.cells #[Value.slice A0 l0.length c0] 25)).alloc (Obj.cells #[Value.int IntKind.i64 a1] 3)).heap[w.heap.size + 1]? = some (Obj.cells #[Value.int IntKind.i64 a1] 3) := by
  have := heap_alloc_new (w.alloc (Obj.cells #[Value.slice A0 l0.length c0] 25)) (Obj.cells #[Value.int IntKind.i64 a1] 3)
  rwa [show (w.alloc (Obj.cells #[Value.slice A0 l0.length c0] 25)).heap.size = w.heap.size + 1 from by simp] at this
 have hC := Kd.C_alloc (Kd.C_alloc HR0.out (Obj.cells #[Value.slice A0 l0.length c0] 25)) (Obj.cells #[Value.int IntKind.i64 a1] 3)
 refine (impl_reach.calls 112 #[.pointer (some ⟨w.heap.size, 0, none⟩), .pointer (some ⟨w.heap.size + 1, 0, none⟩)] (impl_freeAt_1.f l0 a1) k A0 c0 l0 (wrap64 ((l0.length : Int) - 1)) r _ hC HC0.out (fun _ _ => rfl) ?hp H.out).mono ?_
 case hp =>
  intro W i b hW hb
  exact impl_freeAt_1.calls A0 c0 l0 a1 i b w.heap.size (w.heap.size + 1) W (Kd.C_below hC hW) HC0.out ((blk_cell (blk_below h1 hW) 0).trans rfl) ((blk_cell (blk_below h2 hW) 0).trans rfl) hb
 rintro e w' ⟨v0, rfl, HO, hb⟩
 have HO2 := Aside0.mk (Kd.R_lower HO (below_size hb0))
 have HB2 := Aside0.mk (hb0.trans (hb.mono (below_size hb0)))
 clear HO hb h1 h2 hC hb0
 go_wp2
 go_ret
 exact ⟨v0, rfl, HO2.out, HB2.out⟩

end Go.Proofs.Ytdebihfmceclkaa.PFnExactFree
