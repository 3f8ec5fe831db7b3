/-
  No cell of these rows narrows 'for every input' (looked for: loops, veiled, ifaces, maps, wideKeys, modest, calm, conditions, laid).
  DERIVED. THE GIVEN ROWS OF THIS SEAT. 11 by the template 'for every input the law returns true; each argument reads behind the call as it read before'; 0 by the template 'total and deterministic' (their statements: YthepgolhpllpbaaTotals.lean).
  GIVEN WITH THE SEED: the statements are not yours to turn. If you find one false, say at which input.
  Laid BY PROGRAM, IN A SANDBOX (cutbox-rows.mjs): the forced cells as the released guide's own fill.sh prints them over the translation 813a84af98a51566… (all of the seat's roots in one cut). By AI agents, Wed Nov 11 2026. No macro, syntax, notation, axiom, sorry.
-/
import Derived.Test.YthepgolhpllpbaaChecked
import GoSem.Claim
import GoSem.ClaimJoined
import GoSem.ClaimMapViews
import Derived.JoinedTies
import Derived.KernelRfl
namespace Go.Proofs.Ythepgolhpllpbaa
/- THE CELL 'sum', in the pinned program and in every row, IS THE sha256 OF THE DUMP (.gsa) THAT YthepgolhpllpbaaProg.lean LOADS. Nothing in Lean hashes anything: it is a label: what it is worth is what the hold of that sum in a sandbox is worth. -/
noncomputable def Try.pinned : Pinned := { name := "ythepgolhpllpbaa", sum := "813a84af98a515666918a57ab510bb646d0d9934cdf0405eaf82b8739bc17ee5", checked := Try.checked }
namespace Rows
def none {H : Type} : Left H := { results := [], args := [] }

/-- 'laws.FnExactDiv': WHATEVER THE INPUT: true; the input reads as it did. -/
def fnExactDivSpec : ChangeSpec := { name := "fnExactDiv", fn := fun _ => fun
  | [d1, d2, d3] => { results := [.lit (.bool true)], args := [d1, d2, d3] }
  | _ => none }
def fnExactDivRow : OpenClaim := { program := "ythepgolhpllpbaa", sum := "813a84af98a515666918a57ab510bb646d0d9934cdf0405eaf82b8739bc17ee5", func := "loop.example/g00116/laws.FnExactDiv", spec := "fnExactDiv", apart := false }
def FnExactDivSaid : Prop := fnExactDivRow.holds Try.pinned (OpenSpec.ofChange fnExactDivSpec)

/-- ITS FALSE NEIGHBOUR: 'it returns false'. Refute it at one input. -/
def fnExactDivWrong : ChangeSpec := { name := "fnExactDiv", fn := fun _ => fun
  | [d1, d2, d3] => { results := [.lit (.bool false)], args := [d1, d2, d3] }
  | _ => none }
def FnExactDivWrongFalsely : Prop := fnExactDivRow.holds Try.pinned (OpenSpec.ofChange fnExactDivWrong)

/-- 'laws.FnExactRem': WHATEVER THE INPUT: true; the input reads as it did. -/
def fnExactRemSpec : ChangeSpec := { name := "fnExactRem", fn := fun _ => fun
  | [d1, d2, d3] => { results := [.lit (.bool true)], args := [d1, d2, d3] }
  | _ => none }
def fnExactRemRow : OpenClaim := { program := "ythepgolhpllpbaa", sum := "813a84af98a515666918a57ab510bb646d0d9934cdf0405eaf82b8739bc17ee5", func := "loop.example/g00116/laws.FnExactRem", spec := "fnExactRem", apart := false }
def FnExactRemSaid : Prop := fnExactRemRow.holds Try.pinned (OpenSpec.ofChange fnExactRemSpec)

/-- ITS FALSE NEIGHBOUR: 'it returns false'. Refute it at one input. -/
def fnExactRemWrong : ChangeSpec := { name := "fnExactRem", fn := fun _ => fun
  | [d1, d2, d3] => { results := [.lit (.bool false)], args := [d1, d2, d3] }
  | _ => none }
def FnExactRemWrongFalsely : Prop := fnExactRemRow.holds Try.pinned (OpenSpec.ofChange fnExactRemWrong)

/-- 'laws.FnExactTableOk': WHATEVER THE INPUT: true; the input reads as it did. -/
def fnExactTableOkSpec : ChangeSpec := { name := "fnExactTableOk", fn := fun _ => fun
  | [d] => { results := [.lit (.bool true)], args := [d] }
  | _ => none }
def fnExactTableOkRow : OpenClaim := { program := "ythepgolhpllpbaa", sum := "813a84af98a515666918a57ab510bb646d0d9934cdf0405eaf82b8739bc17ee5", func := "loop.example/g00116/laws.FnExactTableOk", spec := "fnExactTableOk", apart := false }
def FnExactTableOkSaid : Prop := fnExactTableOkRow.holds Try.pinned (OpenSpec.ofChange fnExactTableOkSpec)

/-- ITS FALSE NEIGHBOUR: 'it returns false'. Refute it at one input. -/
def fnExactTableOkWrong : ChangeSpec := { name := "fnExactTableOk", fn := fun _ => fun
  | [d] => { results := [.lit (.bool false)], args := [d] }
  | _ => none }
def FnExactTableOkWrongFalsely : Prop := fnExactTableOkRow.holds Try.pinned (OpenSpec.ofChange fnExactTableOkWrong)

/-- 'laws.FnExactLessSigned': WHATEVER THE INPUT: true; the input reads as it did. -/
def fnExactLessSignedSpec : ChangeSpec := { name := "fnExactLessSigned", fn := fun _ => fun
  | [d1, d2, d3] => { results := [.lit (.bool true)], args := [d1, d2, d3] }
  | _ => none }
def fnExactLessSignedRow : OpenClaim := { program := "ythepgolhpllpbaa", sum := "813a84af98a515666918a57ab510bb646d0d9934cdf0405eaf82b8739bc17ee5", func := "loop.example/g00116/laws.FnExactLessSigned", spec := "fnExactLessSigned", apart := false }
def FnExactLessSignedSaid : Prop := fnExactLessSignedRow.holds Try.pinned (OpenSpec.ofChange fnExactLessSignedSpec)

/-- ITS FALSE NEIGHBOUR: 'it returns false'. Refute it at one input. -/
def fnExactLessSignedWrong : ChangeSpec := { name := "fnExactLessSigned", fn := fun _ => fun
  | [d1, d2, d3] => { results := [.lit (.bool false)], args := [d1, d2, d3] }
  | _ => none }
def FnExactLessSignedWrongFalsely : Prop := fnExactLessSignedRow.holds Try.pinned (OpenSpec.ofChange fnExactLessSignedWrong)

/-- 'laws.FnExactSwaps': WHATEVER THE INPUT: true; the input reads as it did. -/
def fnExactSwapsSpec : ChangeSpec := { name := "fnExactSwaps", fn := fun _ => fun
  | [d] => { results := [.lit (.bool true)], args := [d] }
  | _ => none }
def fnExactSwapsRow : OpenClaim := { program := "ythepgolhpllpbaa", sum := "813a84af98a515666918a57ab510bb646d0d9934cdf0405eaf82b8739bc17ee5", func := "loop.example/g00116/laws.FnExactSwaps", spec := "fnExactSwaps", apart := false }
def FnExactSwapsSaid : Prop := fnExactSwapsRow.holds Try.pinned (OpenSpec.ofChange fnExactSwapsSpec)

/-- ITS FALSE NEIGHBOUR: 'it returns false'. Refute it at one input. -/
def fnExactSwapsWrong : ChangeSpec := { name := "fnExactSwaps", fn := fun _ => fun
  | [d] => { results := [.lit (.bool false)], args := [d] }
  | _ => none }
def FnExactSwapsWrongFalsely : Prop := fnExactSwapsRow.holds Try.pinned (OpenSpec.ofChange fnExactSwapsWrong)

/-- 'laws.FnExactParts': WHATEVER THE INPUT: true; the input reads as it did. -/
def fnExactPartsSpec : ChangeSpec := { name := "fnExactParts", fn := fun _ => fun
  | [d] => { results := [.lit (.bool true)], args := [d] }
  | _ => none }
def fnExactPartsRow : OpenClaim := { program := "ythepgolhpllpbaa", sum := "813a84af98a515666918a57ab510bb646d0d9934cdf0405eaf82b8739bc17ee5", func := "loop.example/g00116/laws.FnExactParts", spec := "fnExactParts", apart := false }
def FnExactPartsSaid : Prop := fnExactPartsRow.holds Try.pinned (OpenSpec.ofChange fnExactPartsSpec)

/-- ITS FALSE NEIGHBOUR: 'it returns false'. Refute it at one input. -/
def fnExactPartsWrong : ChangeSpec := { name := "fnExactParts", fn := fun _ => fun
  | [d] => { results := [.lit (.bool false)], args := [d] }
  | _ => none }
def FnExactPartsWrongFalsely : Prop := fnExactPartsRow.holds Try.pinned (OpenSpec.ofChange fnExactPartsWrong)

/-- 'laws.FnExactHalf': WHATEVER THE INPUT: true; the input reads as it did. -/
def fnExactHalfSpec : ChangeSpec := { name := "fnExactHalf", fn := fun _ => fun
  | [d1, d2] => { results := [.lit (.bool true)], args := [d1, d2] }
  | _ => none }
def fnExactHalfRow : OpenClaim := { program := "ythepgolhpllpbaa", sum := "813a84af98a515666918a57ab510bb646d0d9934cdf0405eaf82b8739bc17ee5", func := "loop.example/g00116/laws.FnExactHalf", spec := "fnExactHalf", apart := false }
def FnExactHalfSaid : Prop := fnExactHalfRow.holds Try.pinned (OpenSpec.ofChange fnExactHalfSpec)

/-- ITS FALSE NEIGHBOUR: 'it returns false'. Refute it at one input. -/
def fnExactHalfWrong : ChangeSpec := { name := "fnExactHalf", fn := fun _ => fun
  | [d1, d2] => { results := [.lit (.bool false)], args := [d1, d2] }
  | _ => none }
def FnExactHalfWrongFalsely : Prop := fnExactHalfRow.holds Try.pinned (OpenSpec.ofChange fnExactHalfWrong)

/-- 'laws.FnOrder': WHATEVER THE INPUT: true; the input reads as it did. -/
def fnOrderSpec : ChangeSpec := { name := "fnOrder", fn := fun _ => fun
  | [d] => { results := [.lit (.bool true)], args := [d] }
  | _ => none }
def fnOrderRow : OpenClaim := { program := "ythepgolhpllpbaa", sum := "813a84af98a515666918a57ab510bb646d0d9934cdf0405eaf82b8739bc17ee5", func := "loop.example/g00116/laws.FnOrder", spec := "fnOrder", apart := false }
def FnOrderSaid : Prop := fnOrderRow.holds Try.pinned (OpenSpec.ofChange fnOrderSpec)

/-- ITS FALSE NEIGHBOUR: 'it returns false'. Refute it at one input. -/
def fnOrderWrong : ChangeSpec := { name := "fnOrder", fn := fun _ => fun
  | [d] => { results := [.lit (.bool false)], args := [d] }
  | _ => none }
def FnOrderWrongFalsely : Prop := fnOrderRow.holds Try.pinned (OpenSpec.ofChange fnOrderWrong)

/-- 'laws.FnCut': WHATEVER THE INPUT: true; the input reads as it did. -/
def fnCutSpec : ChangeSpec := { name := "fnCut", fn := fun _ => fun
  | [d] => { results := [.lit (.bool true)], args := [d] }
  | _ => none }
def fnCutRow : OpenClaim := { program := "ythepgolhpllpbaa", sum := "813a84af98a515666918a57ab510bb646d0d9934cdf0405eaf82b8739bc17ee5", func := "loop.example/g00116/laws.FnCut", spec := "fnCut", apart := false }
def FnCutSaid : Prop := fnCutRow.holds Try.pinned (OpenSpec.ofChange fnCutSpec)

/-- ITS FALSE NEIGHBOUR: 'it returns false'. Refute it at one input. -/
def fnCutWrong : ChangeSpec := { name := "fnCut", fn := fun _ => fun
  | [d] => { results := [.lit (.bool false)], args := [d] }
  | _ => none }
def FnCutWrongFalsely : Prop := fnCutRow.holds Try.pinned (OpenSpec.ofChange fnCutWrong)

/-- 'laws.FnExactRows': WHATEVER THE INPUT: true; the input reads as it did. -/
def fnExactRowsSpec : ChangeSpec := { name := "fnExactRows", fn := fun _ => fun
  | [d] => { results := [.lit (.bool true)], args := [d] }
  | _ => none }
def fnExactRowsRow : OpenClaim := { program := "ythepgolhpllpbaa", sum := "813a84af98a515666918a57ab510bb646d0d9934cdf0405eaf82b8739bc17ee5", func := "loop.example/g00116/laws.FnExactRows", spec := "fnExactRows", apart := false }
def FnExactRowsSaid : Prop := fnExactRowsRow.holds Try.pinned (OpenSpec.ofChange fnExactRowsSpec)

/-- ITS FALSE NEIGHBOUR: 'it returns false'. Refute it at one input. -/
def fnExactRowsWrong : ChangeSpec := { name := "fnExactRows", fn := fun _ => fun
  | [d] => { results := [.lit (.bool false)], args := [d] }
  | _ => none }
def FnExactRowsWrongFalsely : Prop := fnExactRowsRow.holds Try.pinned (OpenSpec.ofChange fnExactRowsWrong)

/-- 'laws.FnWords': WHATEVER THE INPUT: true; the input reads as it did. -/
def fnWordsSpec : ChangeSpec := { name := "fnWords", fn := fun _ => fun
  | [d] => { results := [.lit (.bool true)], args := [d] }
  | _ => none }
def fnWordsRow : OpenClaim := { program := "ythepgolhpllpbaa", sum := "813a84af98a515666918a57ab510bb646d0d9934cdf0405eaf82b8739bc17ee5", func := "loop.example/g00116/laws.FnWords", spec := "fnWords", apart := false }
def FnWordsSaid : Prop := fnWordsRow.holds Try.pinned (OpenSpec.ofChange fnWordsSpec)

/-- ITS FALSE NEIGHBOUR: 'it returns false'. Refute it at one input. -/
def fnWordsWrong : ChangeSpec := { name := "fnWords", fn := fun _ => fun
  | [d] => { results := [.lit (.bool false)], args := [d] }
  | _ => none }
def FnWordsWrongFalsely : Prop := fnWordsRow.holds Try.pinned (OpenSpec.ofChange fnWordsWrong)

/- THE SECOND FORM. 'bulk': how many values and letters a reading holds, each counted each time it is reached (what is shared counts as often as it is met; a slice's spare places count too). A statement '..UptoSaid' is the law's where the arguments, and the package variables that the reading takes, are together of bulk at most 1048576: NARROWER than '..Said'. Prove '..Said' where nothing that the law and all that it calls make is longer than what came in: it says more and counts as full. Else prove '..UptoSaid'. A law counts once. -/
mutual
def uptoBulk {H : Type} : DataW H → Nat
  | .lit (.string bytes) => bytes.length + 1
  | .lit _ => 1
  | .nil => 1
  | .ptr d => uptoBulk d + 1
  | .slice elems spare => uptoBulkAll elems + uptoBulkAll spare + 1
  | .agg parts => uptoBulkAll parts + 1
  | .iface _ d => uptoBulk d + 1
  | .map entries => uptoBulkEntries entries + 1
  | .held _ => 1
def uptoBulkAll {H : Type} : List (DataW H) → Nat
  | [] => 0
  | d :: r => uptoBulk d + uptoBulkAll r
def uptoBulkEntries {H : Type} : List (Lit × DataW H) → Nat
  | [] => 0
  | x :: r => uptoBulkEntry x + uptoBulkEntries r
def uptoBulkEntry {H : Type} : Lit × DataW H → Nat
  | (.string bytes, d) => bytes.length + uptoBulk d + 1
  | (_, d) => uptoBulk d + 1
 end
def uptoSmall : (H : Type) → List (DataW H) → Bool := fun _ ds => decide (uptoBulkAll ds ≤ 1048576)
def OpenSpec.upto (s : _root_.Go.ChangeSpec) : _root_.Go.OpenSpec := { _root_.Go.OpenSpec.ofChange s with cond := some uptoSmall }

/-- 'laws.FnExactDiv', WHERE WHAT IT READS IS OF BULK AT MOST 1048576: true; the input reads as it did. -/
def fnExactDivUptoRow : OpenClaim := { program := "ythepgolhpllpbaa", sum := "813a84af98a515666918a57ab510bb646d0d9934cdf0405eaf82b8739bc17ee5", func := "loop.example/g00116/laws.FnExactDiv", spec := "fnExactDiv", apart := false, narrowed := true }
def FnExactDivUptoSaid : Prop := fnExactDivUptoRow.holds Try.pinned (OpenSpec.upto fnExactDivSpec)

/-- 'laws.FnExactRem', WHERE WHAT IT READS IS OF BULK AT MOST 1048576: true; the input reads as it did. -/
def fnExactRemUptoRow : OpenClaim := { program := "ythepgolhpllpbaa", sum := "813a84af98a515666918a57ab510bb646d0d9934cdf0405eaf82b8739bc17ee5", func := "loop.example/g00116/laws.FnExactRem", spec := "fnExactRem", apart := false, narrowed := true }
def FnExactRemUptoSaid : Prop := fnExactRemUptoRow.holds Try.pinned (OpenSpec.upto fnExactRemSpec)

/-- 'laws.FnExactTableOk', WHERE WHAT IT READS IS OF BULK AT MOST 1048576: true; the input reads as it did. -/
def fnExactTableOkUptoRow : OpenClaim := { program := "ythepgolhpllpbaa", sum := "813a84af98a515666918a57ab510bb646d0d9934cdf0405eaf82b8739bc17ee5", func := "loop.example/g00116/laws.FnExactTableOk", spec := "fnExactTableOk", apart := false, narrowed := true }
def FnExactTableOkUptoSaid : Prop := fnExactTableOkUptoRow.holds Try.pinned (OpenSpec.upto fnExactTableOkSpec)

/-- 'laws.FnExactLessSigned', WHERE WHAT IT READS IS OF BULK AT MOST 1048576: true; the input reads as it did. -/
def fnExactLessSignedUptoRow : OpenClaim := { program := "ythepgolhpllpbaa", sum := "813a84af98a515666918a57ab510bb646d0d9934cdf0405eaf82b8739bc17ee5", func := "loop.example/g00116/laws.FnExactLessSigned", spec := "fnExactLessSigned", apart := false, narrowed := true }
def FnExactLessSignedUptoSaid : Prop := fnExactLessSignedUptoRow.holds Try.pinned (OpenSpec.upto fnExactLessSignedSpec)

/-- 'laws.FnExactSwaps', WHERE WHAT IT READS IS OF BULK AT MOST 1048576: true; the input reads as it did. -/
def fnExactSwapsUptoRow : OpenClaim := { program := "ythepgolhpllpbaa", sum := "813a84af98a515666918a57ab510bb646d0d9934cdf0405eaf82b8739bc17ee5", func := "loop.example/g00116/laws.FnExactSwaps", spec := "fnExactSwaps", apart := false, narrowed := true }
def FnExactSwapsUptoSaid : Prop := fnExactSwapsUptoRow.holds Try.pinned (OpenSpec.upto fnExactSwapsSpec)

/-- 'laws.FnExactParts', WHERE WHAT IT READS IS OF BULK AT MOST 1048576: true; the input reads as it did. -/
def fnExactPartsUptoRow : OpenClaim := { program := "ythepgolhpllpbaa", sum := "813a84af98a515666918a57ab510bb646d0d9934cdf0405eaf82b8739bc17ee5", func := "loop.example/g00116/laws.FnExactParts", spec := "fnExactParts", apart := false, narrowed := true }
def FnExactPartsUptoSaid : Prop := fnExactPartsUptoRow.holds Try.pinned (OpenSpec.upto fnExactPartsSpec)

/-- 'laws.FnExactHalf', WHERE WHAT IT READS IS OF BULK AT MOST 1048576: true; the input reads as it did. -/
def fnExactHalfUptoRow : OpenClaim := { program := "ythepgolhpllpbaa", sum := "813a84af98a515666918a57ab510bb646d0d9934cdf0405eaf82b8739bc17ee5", func := "loop.example/g00116/laws.FnExactHalf", spec := "fnExactHalf", apart := false, narrowed := true }
def FnExactHalfUptoSaid : Prop := fnExactHalfUptoRow.holds Try.pinned (OpenSpec.upto fnExactHalfSpec)

/-- 'laws.FnOrder', WHERE WHAT IT READS IS OF BULK AT MOST 1048576: true; the input reads as it did. -/
def fnOrderUptoRow : OpenClaim := { program := "ythepgolhpllpbaa", sum := "813a84af98a515666918a57ab510bb646d0d9934cdf0405eaf82b8739bc17ee5", func := "loop.example/g00116/laws.FnOrder", spec := "fnOrder", apart := false, narrowed := true }
def FnOrderUptoSaid : Prop := fnOrderUptoRow.holds Try.pinned (OpenSpec.upto fnOrderSpec)

/-- 'laws.FnCut', WHERE WHAT IT READS IS OF BULK AT MOST 1048576: true; the input reads as it did. -/
def fnCutUptoRow : OpenClaim := { program := "ythepgolhpllpbaa", sum := "813a84af98a515666918a57ab510bb646d0d9934cdf0405eaf82b8739bc17ee5", func := "loop.example/g00116/laws.FnCut", spec := "fnCut", apart := false, narrowed := true }
def FnCutUptoSaid : Prop := fnCutUptoRow.holds Try.pinned (OpenSpec.upto fnCutSpec)

/-- 'laws.FnExactRows', WHERE WHAT IT READS IS OF BULK AT MOST 1048576: true; the input reads as it did. -/
def fnExactRowsUptoRow : OpenClaim := { program := "ythepgolhpllpbaa", sum := "813a84af98a515666918a57ab510bb646d0d9934cdf0405eaf82b8739bc17ee5", func := "loop.example/g00116/laws.FnExactRows", spec := "fnExactRows", apart := false, narrowed := true }
def FnExactRowsUptoSaid : Prop := fnExactRowsUptoRow.holds Try.pinned (OpenSpec.upto fnExactRowsSpec)

/-- 'laws.FnWords', WHERE WHAT IT READS IS OF BULK AT MOST 1048576: true; the input reads as it did. -/
def fnWordsUptoRow : OpenClaim := { program := "ythepgolhpllpbaa", sum := "813a84af98a515666918a57ab510bb646d0d9934cdf0405eaf82b8739bc17ee5", func := "loop.example/g00116/laws.FnWords", spec := "fnWords", apart := false, narrowed := true }
def FnWordsUptoSaid : Prop := fnWordsUptoRow.holds Try.pinned (OpenSpec.upto fnWordsSpec)

end Rows
end Go.Proofs.Ythepgolhpllpbaa
