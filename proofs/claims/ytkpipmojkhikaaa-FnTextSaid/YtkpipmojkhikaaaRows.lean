/-
  No cell of these rows narrows 'for every input' (looked for: loops, veiled, ifaces, maps, wideKeys, modest, calm, conditions, laid).
  DERIVED. THE GIVEN ROWS OF THIS SEAT. 7 by the template 'for every input the law returns true; each argument reads behind the call as it read before'; 0 by the template 'total and deterministic' (their statements: YtkpipmojkhikaaaTotals.lean).
  GIVEN WITH THE SEED: the statements are not yours to turn. If you find one false, say at which input.
  Laid BY PROGRAM, IN A SANDBOX (cutbox-rows.mjs): the forced cells as the released guide's own fill.sh prints them over the translation 2fa9fc13d19862ee… (all of the seat's roots in one cut). By AI agents, Wed Nov 11 2026. No macro, syntax, notation, axiom, sorry.
-/
import Derived.Test.YtkpipmojkhikaaaChecked
import GoSem.Claim
import GoSem.ClaimJoined
import GoSem.ClaimMapViews
import Derived.JoinedTies
import Derived.KernelRfl
namespace Go.Proofs.Ytkpipmojkhikaaa
/- THE CELL 'sum', in the pinned program and in every row, IS THE sha256 OF THE DUMP (.gsa) THAT YtkpipmojkhikaaaProg.lean LOADS. Nothing in Lean hashes anything: it is a label: what it is worth is what the hold of that sum in a sandbox is worth. -/
noncomputable def Try.pinned : Pinned := { name := "ytkpipmojkhikaaa", sum := "2fa9fc13d19862ee8491c3cddd6d8b53011f02e25921d30b8f384d6abe931fb0", checked := Try.checked }
namespace Rows
def none {H : Type} : Left H := { results := [], args := [] }

/-- 'laws.FnInstances': WHATEVER THE INPUT: true; the input reads as it did. -/
def fnInstancesSpec : ChangeSpec := { name := "fnInstances", fn := fun _ => fun
  | [d] => { results := [.lit (.bool true)], args := [d] }
  | _ => none }
def fnInstancesRow : OpenClaim := { program := "ytkpipmojkhikaaa", sum := "2fa9fc13d19862ee8491c3cddd6d8b53011f02e25921d30b8f384d6abe931fb0", func := "loop.example/g00116/laws.FnInstances", spec := "fnInstances", unfollowed := true, recurses := true, apart := false }
def FnInstancesSaid : Prop := fnInstancesRow.holds Try.pinned (OpenSpec.ofChange fnInstancesSpec)

/-- ITS FALSE NEIGHBOUR: 'it returns false'. Refute it at one input. -/
def fnInstancesWrong : ChangeSpec := { name := "fnInstances", fn := fun _ => fun
  | [d] => { results := [.lit (.bool false)], args := [d] }
  | _ => none }
def FnInstancesWrongFalsely : Prop := fnInstancesRow.holds Try.pinned (OpenSpec.ofChange fnInstancesWrong)

/-- 'laws.FnExactShowTerm': WHATEVER THE INPUT: true; the input reads as it did. -/
def fnExactShowTermSpec : ChangeSpec := { name := "fnExactShowTerm", fn := fun _ => fun
  | [d] => { results := [.lit (.bool true)], args := [d] }
  | _ => none }
def fnExactShowTermRow : OpenClaim := { program := "ytkpipmojkhikaaa", sum := "2fa9fc13d19862ee8491c3cddd6d8b53011f02e25921d30b8f384d6abe931fb0", func := "loop.example/g00116/laws.FnExactShowTerm", spec := "fnExactShowTerm", apart := false }
def FnExactShowTermSaid : Prop := fnExactShowTermRow.holds Try.pinned (OpenSpec.ofChange fnExactShowTermSpec)

/-- ITS FALSE NEIGHBOUR: 'it returns false'. Refute it at one input. -/
def fnExactShowTermWrong : ChangeSpec := { name := "fnExactShowTerm", fn := fun _ => fun
  | [d] => { results := [.lit (.bool false)], args := [d] }
  | _ => none }
def FnExactShowTermWrongFalsely : Prop := fnExactShowTermRow.holds Try.pinned (OpenSpec.ofChange fnExactShowTermWrong)

/-- 'laws.FnExactSame': WHATEVER THE INPUT: true; the input reads as it did. -/
def fnExactSameSpec : ChangeSpec := { name := "fnExactSame", fn := fun _ => fun
  | [d1, d2] => { results := [.lit (.bool true)], args := [d1, d2] }
  | _ => none }
def fnExactSameRow : OpenClaim := { program := "ytkpipmojkhikaaa", sum := "2fa9fc13d19862ee8491c3cddd6d8b53011f02e25921d30b8f384d6abe931fb0", func := "loop.example/g00116/laws.FnExactSame", spec := "fnExactSame", apart := false }
def FnExactSameSaid : Prop := fnExactSameRow.holds Try.pinned (OpenSpec.ofChange fnExactSameSpec)

/-- ITS FALSE NEIGHBOUR: 'it returns false'. Refute it at one input. -/
def fnExactSameWrong : ChangeSpec := { name := "fnExactSame", fn := fun _ => fun
  | [d1, d2] => { results := [.lit (.bool false)], args := [d1, d2] }
  | _ => none }
def FnExactSameWrongFalsely : Prop := fnExactSameRow.holds Try.pinned (OpenSpec.ofChange fnExactSameWrong)

/-- 'laws.FnExactValue': WHATEVER THE INPUT: true; the input reads as it did. -/
def fnExactValueSpec : ChangeSpec := { name := "fnExactValue", fn := fun _ => fun
  | [d1, d2] => { results := [.lit (.bool true)], args := [d1, d2] }
  | _ => none }
def fnExactValueRow : OpenClaim := { program := "ytkpipmojkhikaaa", sum := "2fa9fc13d19862ee8491c3cddd6d8b53011f02e25921d30b8f384d6abe931fb0", func := "loop.example/g00116/laws.FnExactValue", spec := "fnExactValue", unfollowed := true, recurses := true, apart := false }
def FnExactValueSaid : Prop := fnExactValueRow.holds Try.pinned (OpenSpec.ofChange fnExactValueSpec)

/-- ITS FALSE NEIGHBOUR: 'it returns false'. Refute it at one input. -/
def fnExactValueWrong : ChangeSpec := { name := "fnExactValue", fn := fun _ => fun
  | [d1, d2] => { results := [.lit (.bool false)], args := [d1, d2] }
  | _ => none }
def FnExactValueWrongFalsely : Prop := fnExactValueRow.holds Try.pinned (OpenSpec.ofChange fnExactValueWrong)

/-- 'laws.FnExactCanon': WHATEVER THE INPUT: true; the input reads as it did. -/
def fnExactCanonSpec : ChangeSpec := { name := "fnExactCanon", fn := fun _ => fun
  | [d] => { results := [.lit (.bool true)], args := [d] }
  | _ => none }
def fnExactCanonRow : OpenClaim := { program := "ytkpipmojkhikaaa", sum := "2fa9fc13d19862ee8491c3cddd6d8b53011f02e25921d30b8f384d6abe931fb0", func := "loop.example/g00116/laws.FnExactCanon", spec := "fnExactCanon", recurses := true, apart := false }
def FnExactCanonSaid : Prop := fnExactCanonRow.holds Try.pinned (OpenSpec.ofChange fnExactCanonSpec)

/-- ITS FALSE NEIGHBOUR: 'it returns false'. Refute it at one input. -/
def fnExactCanonWrong : ChangeSpec := { name := "fnExactCanon", fn := fun _ => fun
  | [d] => { results := [.lit (.bool false)], args := [d] }
  | _ => none }
def FnExactCanonWrongFalsely : Prop := fnExactCanonRow.holds Try.pinned (OpenSpec.ofChange fnExactCanonWrong)

/-- 'laws.FnText': WHATEVER THE INPUT: true; the input reads as it did. -/
def fnTextSpec : ChangeSpec := { name := "fnText", fn := fun _ => fun
  | [d] => { results := [.lit (.bool true)], args := [d] }
  | _ => none }
def fnTextRow : OpenClaim := { program := "ytkpipmojkhikaaa", sum := "2fa9fc13d19862ee8491c3cddd6d8b53011f02e25921d30b8f384d6abe931fb0", func := "loop.example/g00116/laws.FnText", spec := "fnText", recurses := true, apart := false }
def FnTextSaid : Prop := fnTextRow.holds Try.pinned (OpenSpec.ofChange fnTextSpec)

/-- ITS FALSE NEIGHBOUR: 'it returns false'. Refute it at one input. -/
def fnTextWrong : ChangeSpec := { name := "fnText", fn := fun _ => fun
  | [d] => { results := [.lit (.bool false)], args := [d] }
  | _ => none }
def FnTextWrongFalsely : Prop := fnTextRow.holds Try.pinned (OpenSpec.ofChange fnTextWrong)

/-- 'laws.FnDenied': WHATEVER THE INPUT: true; the input reads as it did. -/
def fnDeniedSpec : ChangeSpec := { name := "fnDenied", fn := fun _ => fun
  | [d] => { results := [.lit (.bool true)], args := [d] }
  | _ => none }
def fnDeniedRow : OpenClaim := { program := "ytkpipmojkhikaaa", sum := "2fa9fc13d19862ee8491c3cddd6d8b53011f02e25921d30b8f384d6abe931fb0", func := "loop.example/g00116/laws.FnDenied", spec := "fnDenied", unfollowed := true, recurses := true, apart := false }
def FnDeniedSaid : Prop := fnDeniedRow.holds Try.pinned (OpenSpec.ofChange fnDeniedSpec)

/-- ITS FALSE NEIGHBOUR: 'it returns false'. Refute it at one input. -/
def fnDeniedWrong : ChangeSpec := { name := "fnDenied", fn := fun _ => fun
  | [d] => { results := [.lit (.bool false)], args := [d] }
  | _ => none }
def FnDeniedWrongFalsely : Prop := fnDeniedRow.holds Try.pinned (OpenSpec.ofChange fnDeniedWrong)

/- THE SECOND FORM. 'bulk': how many values and letters a reading holds, each counted each time it is reached (what is shared counts as often as it is met; a slice's spare places count too). A statement '..UptoSaid' is the law's where the arguments, and the package variables that the reading takes, are together of bulk at most 1048576: NARROWER than '..Said'. Prove '..Said' where nothing that the law and all that it calls make is longer than what came in: it says more and counts as full. Else prove '..UptoSaid'. A law counts once. -/
mutual
def uptoBulk {H : Type} : DataW H → Nat
  | .lit (.string bytes) => bytes.length + 1
  | .lit _ => 1
  | .nil => 1
  | .ptr d => uptoBulk d + 1
  | .slice elems spare => uptoBulkAll elems + uptoBulkAll spare + 1
  | .agg parts => uptoBulkAll parts + 1
  | .iface _ d => uptoBulk d + 1
  | .map entries => uptoBulkEntries entries + 1
  | .held _ => 1
def uptoBulkAll {H : Type} : List (DataW H) → Nat
  | [] => 0
  | d :: r => uptoBulk d + uptoBulkAll r
def uptoBulkEntries {H : Type} : List (Lit × DataW H) → Nat
  | [] => 0
  | x :: r => uptoBulkEntry x + uptoBulkEntries r
def uptoBulkEntry {H : Type} : Lit × DataW H → Nat
  | (.string bytes, d) => bytes.length + uptoBulk d + 1
  | (_, d) => uptoBulk d + 1
 end
def uptoSmall : (H : Type) → List (DataW H) → Bool := fun _ ds => decide (uptoBulkAll ds ≤ 1048576)
def OpenSpec.upto (s : _root_.Go.ChangeSpec) : _root_.Go.OpenSpec := { _root_.Go.OpenSpec.ofChange s with cond := some uptoSmall }

/-- 'laws.FnInstances', WHERE WHAT IT READS IS OF BULK AT MOST 1048576: true; the input reads as it did. -/
def fnInstancesUptoRow : OpenClaim := { program := "ytkpipmojkhikaaa", sum := "2fa9fc13d19862ee8491c3cddd6d8b53011f02e25921d30b8f384d6abe931fb0", func := "loop.example/g00116/laws.FnInstances", spec := "fnInstances", unfollowed := true, recurses := true, apart := false, narrowed := true }
def FnInstancesUptoSaid : Prop := fnInstancesUptoRow.holds Try.pinned (OpenSpec.upto fnInstancesSpec)

/-- 'laws.FnExactShowTerm', WHERE WHAT IT READS IS OF BULK AT MOST 1048576: true; the input reads as it did. -/
def fnExactShowTermUptoRow : OpenClaim := { program := "ytkpipmojkhikaaa", sum := "2fa9fc13d19862ee8491c3cddd6d8b53011f02e25921d30b8f384d6abe931fb0", func := "loop.example/g00116/laws.FnExactShowTerm", spec := "fnExactShowTerm", apart := false, narrowed := true }
def FnExactShowTermUptoSaid : Prop := fnExactShowTermUptoRow.holds Try.pinned (OpenSpec.upto fnExactShowTermSpec)

/-- 'laws.FnExactSame', WHERE WHAT IT READS IS OF BULK AT MOST 1048576: true; the input reads as it did. -/
def fnExactSameUptoRow : OpenClaim := { program := "ytkpipmojkhikaaa", sum := "2fa9fc13d19862ee8491c3cddd6d8b53011f02e25921d30b8f384d6abe931fb0", func := "loop.example/g00116/laws.FnExactSame", spec := "fnExactSame", apart := false, narrowed := true }
def FnExactSameUptoSaid : Prop := fnExactSameUptoRow.holds Try.pinned (OpenSpec.upto fnExactSameSpec)

/-- 'laws.FnExactValue', WHERE WHAT IT READS IS OF BULK AT MOST 1048576: true; the input reads as it did. -/
def fnExactValueUptoRow : OpenClaim := { program := "ytkpipmojkhikaaa", sum := "2fa9fc13d19862ee8491c3cddd6d8b53011f02e25921d30b8f384d6abe931fb0", func := "loop.example/g00116/laws.FnExactValue", spec := "fnExactValue", unfollowed := true, recurses := true, apart := false, narrowed := true }
def FnExactValueUptoSaid : Prop := fnExactValueUptoRow.holds Try.pinned (OpenSpec.upto fnExactValueSpec)

/-- 'laws.FnExactCanon', WHERE WHAT IT READS IS OF BULK AT MOST 1048576: true; the input reads as it did. -/
def fnExactCanonUptoRow : OpenClaim := { program := "ytkpipmojkhikaaa", sum := "2fa9fc13d19862ee8491c3cddd6d8b53011f02e25921d30b8f384d6abe931fb0", func := "loop.example/g00116/laws.FnExactCanon", spec := "fnExactCanon", recurses := true, apart := false, narrowed := true }
def FnExactCanonUptoSaid : Prop := fnExactCanonUptoRow.holds Try.pinned (OpenSpec.upto fnExactCanonSpec)

/-- 'laws.FnText', WHERE WHAT IT READS IS OF BULK AT MOST 1048576: true; the input reads as it did. -/
def fnTextUptoRow : OpenClaim := { program := "ytkpipmojkhikaaa", sum := "2fa9fc13d19862ee8491c3cddd6d8b53011f02e25921d30b8f384d6abe931fb0", func := "loop.example/g00116/laws.FnText", spec := "fnText", recurses := true, apart := false, narrowed := true }
def FnTextUptoSaid : Prop := fnTextUptoRow.holds Try.pinned (OpenSpec.upto fnTextSpec)

/-- 'laws.FnDenied', WHERE WHAT IT READS IS OF BULK AT MOST 1048576: true; the input reads as it did. -/
def fnDeniedUptoRow : OpenClaim := { program := "ytkpipmojkhikaaa", sum := "2fa9fc13d19862ee8491c3cddd6d8b53011f02e25921d30b8f384d6abe931fb0", func := "loop.example/g00116/laws.FnDenied", spec := "fnDenied", unfollowed := true, recurses := true, apart := false, narrowed := true }
def FnDeniedUptoSaid : Prop := fnDeniedUptoRow.holds Try.pinned (OpenSpec.upto fnDeniedSpec)

end Rows
end Go.Proofs.Ytkpipmojkhikaaa
