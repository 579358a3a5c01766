/-
  No cell of these rows narrows 'for every input' (looked for: loops, veiled, ifaces, maps, wideKeys, modest, calm, conditions, laid).
  DERIVED. THE GIVEN ROWS OF THIS SEAT. 6 by the template 'for every input the law returns true; each argument reads behind the call as it read before'; 0 by the template 'total and deterministic' (their statements: YtlgnanbnicmdaabTotals.lean).
  GIVEN WITH THE SEED: the statements are not yours to turn. If you find one false, say at which input.
  Laid BY PROGRAM, IN A SANDBOX (cutbox-rows.mjs): the forced cells as the released guide's own fill.sh prints them over the translation 783d6cfc5bb1b188… (all of the seat's roots in one cut). By AI agents, Wed Nov 11 2026. No macro, syntax, notation, axiom, sorry.
-/
import Derived.Test.YtlgnanbnicmdaabChecked
import GoSem.Claim
import GoSem.ClaimJoined
import GoSem.ClaimMapViews
import Derived.JoinedTies
import Derived.KernelRfl
namespace Go.Proofs.Ytlgnanbnicmdaab
/- THE CELL 'sum', in the pinned program and in every row, IS THE sha256 OF THE DUMP (.gsa) THAT YtlgnanbnicmdaabProg.lean LOADS. Nothing in Lean hashes anything: it is a label: what it is worth is what the hold of that sum in a sandbox is worth. -/
noncomputable def Try.pinned : Pinned := { name := "ytlgnanbnicmdaab", sum := "783d6cfc5bb1b188ba94fd843784cd11ed20bc62cb43688b5b8313ab5cc9c630", checked := Try.checked }
namespace Rows
def none {H : Type} : Left H := { results := [], args := [] }

/-- 'laws.FnExactIsNormal': WHATEVER THE INPUT: true; the input reads as it did. -/
def fnExactIsNormalSpec : ChangeSpec := { name := "fnExactIsNormal", fn := fun _ => fun
  | [d1, d2, d3] => { results := [.lit (.bool true)], args := [d1, d2, d3] }
  | _ => none }
def fnExactIsNormalRow : OpenClaim := { program := "ytlgnanbnicmdaab", sum := "783d6cfc5bb1b188ba94fd843784cd11ed20bc62cb43688b5b8313ab5cc9c630", func := "loop.example/g00682/laws.FnExactIsNormal", spec := "fnExactIsNormal", unfollowed := true, recurses := true, apart := false }
def FnExactIsNormalSaid : Prop := fnExactIsNormalRow.holds Try.pinned (OpenSpec.ofChange fnExactIsNormalSpec)

/-- ITS FALSE NEIGHBOUR: 'it returns false'. Refute it at one input. -/
def fnExactIsNormalWrong : ChangeSpec := { name := "fnExactIsNormal", fn := fun _ => fun
  | [d1, d2, d3] => { results := [.lit (.bool false)], args := [d1, d2, d3] }
  | _ => none }
def FnExactIsNormalWrongFalsely : Prop := fnExactIsNormalRow.holds Try.pinned (OpenSpec.ofChange fnExactIsNormalWrong)

/-- 'laws.FnExactStepTerm': WHATEVER THE INPUT: true; the input reads as it did. -/
def fnExactStepTermSpec : ChangeSpec := { name := "fnExactStepTerm", fn := fun _ => fun
  | [d1, d2, d3] => { results := [.lit (.bool true)], args := [d1, d2, d3] }
  | _ => none }
def fnExactStepTermRow : OpenClaim := { program := "ytlgnanbnicmdaab", sum := "783d6cfc5bb1b188ba94fd843784cd11ed20bc62cb43688b5b8313ab5cc9c630", func := "loop.example/g00682/laws.FnExactStepTerm", spec := "fnExactStepTerm", unfollowed := true, recurses := true, apart := false }
def FnExactStepTermSaid : Prop := fnExactStepTermRow.holds Try.pinned (OpenSpec.ofChange fnExactStepTermSpec)

/-- ITS FALSE NEIGHBOUR: 'it returns false'. Refute it at one input. -/
def fnExactStepTermWrong : ChangeSpec := { name := "fnExactStepTerm", fn := fun _ => fun
  | [d1, d2, d3] => { results := [.lit (.bool false)], args := [d1, d2, d3] }
  | _ => none }
def FnExactStepTermWrongFalsely : Prop := fnExactStepTermRow.holds Try.pinned (OpenSpec.ofChange fnExactStepTermWrong)

/-- 'laws.FnExactNormalTerm': WHATEVER THE INPUT: true; the input reads as it did. -/
def fnExactNormalTermSpec : ChangeSpec := { name := "fnExactNormalTerm", fn := fun _ => fun
  | [d1, d2, d3] => { results := [.lit (.bool true)], args := [d1, d2, d3] }
  | _ => none }
def fnExactNormalTermRow : OpenClaim := { program := "ytlgnanbnicmdaab", sum := "783d6cfc5bb1b188ba94fd843784cd11ed20bc62cb43688b5b8313ab5cc9c630", func := "loop.example/g00682/laws.FnExactNormalTerm", spec := "fnExactNormalTerm", unfollowed := true, recurses := true, apart := false }
def FnExactNormalTermSaid : Prop := fnExactNormalTermRow.holds Try.pinned (OpenSpec.ofChange fnExactNormalTermSpec)

/-- ITS FALSE NEIGHBOUR: 'it returns false'. Refute it at one input. -/
def fnExactNormalTermWrong : ChangeSpec := { name := "fnExactNormalTerm", fn := fun _ => fun
  | [d1, d2, d3] => { results := [.lit (.bool false)], args := [d1, d2, d3] }
  | _ => none }
def FnExactNormalTermWrongFalsely : Prop := fnExactNormalTermRow.holds Try.pinned (OpenSpec.ofChange fnExactNormalTermWrong)

/-- 'laws.FnExactNormalClause': WHATEVER THE INPUT: true; the input reads as it did. -/
def fnExactNormalClauseSpec : ChangeSpec := { name := "fnExactNormalClause", fn := fun _ => fun
  | [d1, d2, d3] => { results := [.lit (.bool true)], args := [d1, d2, d3] }
  | _ => none }
def fnExactNormalClauseRow : OpenClaim := { program := "ytlgnanbnicmdaab", sum := "783d6cfc5bb1b188ba94fd843784cd11ed20bc62cb43688b5b8313ab5cc9c630", func := "loop.example/g00682/laws.FnExactNormalClause", spec := "fnExactNormalClause", unfollowed := true, recurses := true, apart := false }
def FnExactNormalClauseSaid : Prop := fnExactNormalClauseRow.holds Try.pinned (OpenSpec.ofChange fnExactNormalClauseSpec)

/-- ITS FALSE NEIGHBOUR: 'it returns false'. Refute it at one input. -/
def fnExactNormalClauseWrong : ChangeSpec := { name := "fnExactNormalClause", fn := fun _ => fun
  | [d1, d2, d3] => { results := [.lit (.bool false)], args := [d1, d2, d3] }
  | _ => none }
def FnExactNormalClauseWrongFalsely : Prop := fnExactNormalClauseRow.holds Try.pinned (OpenSpec.ofChange fnExactNormalClauseWrong)

/-- 'laws.FnExactInputsOf': WHATEVER THE INPUT: true; the input reads as it did. -/
def fnExactInputsOfSpec : ChangeSpec := { name := "fnExactInputsOf", fn := fun _ => fun
  | [d1, d2] => { results := [.lit (.bool true)], args := [d1, d2] }
  | _ => none }
def fnExactInputsOfRow : OpenClaim := { program := "ytlgnanbnicmdaab", sum := "783d6cfc5bb1b188ba94fd843784cd11ed20bc62cb43688b5b8313ab5cc9c630", func := "loop.example/g00682/laws.FnExactInputsOf", spec := "fnExactInputsOf", unfollowed := true, recurses := true, apart := false }
def FnExactInputsOfSaid : Prop := fnExactInputsOfRow.holds Try.pinned (OpenSpec.ofChange fnExactInputsOfSpec)

/-- ITS FALSE NEIGHBOUR: 'it returns false'. Refute it at one input. -/
def fnExactInputsOfWrong : ChangeSpec := { name := "fnExactInputsOf", fn := fun _ => fun
  | [d1, d2] => { results := [.lit (.bool false)], args := [d1, d2] }
  | _ => none }
def FnExactInputsOfWrongFalsely : Prop := fnExactInputsOfRow.holds Try.pinned (OpenSpec.ofChange fnExactInputsOfWrong)

/-- 'laws.FnExactReadClause': WHATEVER THE INPUT: true; the input reads as it did. -/
def fnExactReadClauseSpec : ChangeSpec := { name := "fnExactReadClause", fn := fun _ => fun
  | [d1, d2] => { results := [.lit (.bool true)], args := [d1, d2] }
  | _ => none }
def fnExactReadClauseRow : OpenClaim := { program := "ytlgnanbnicmdaab", sum := "783d6cfc5bb1b188ba94fd843784cd11ed20bc62cb43688b5b8313ab5cc9c630", func := "loop.example/g00682/laws.FnExactReadClause", spec := "fnExactReadClause", unfollowed := true, recurses := true, apart := false }
def FnExactReadClauseSaid : Prop := fnExactReadClauseRow.holds Try.pinned (OpenSpec.ofChange fnExactReadClauseSpec)

/-- ITS FALSE NEIGHBOUR: 'it returns false'. Refute it at one input. -/
def fnExactReadClauseWrong : ChangeSpec := { name := "fnExactReadClause", fn := fun _ => fun
  | [d1, d2] => { results := [.lit (.bool false)], args := [d1, d2] }
  | _ => none }
def FnExactReadClauseWrongFalsely : Prop := fnExactReadClauseRow.holds Try.pinned (OpenSpec.ofChange fnExactReadClauseWrong)

/- THE SECOND FORM. 'bulk': how many values and letters a reading holds, each counted each time it is reached (what is shared counts as often as it is met; a slice's spare places count too). A statement '..UptoSaid' is the law's where the arguments, and the package variables that the reading takes, are together of bulk at most 1048576: NARROWER than '..Said'. Prove '..Said' where nothing that the law and all that it calls make is longer than what came in: it says more and counts as full. Else prove '..UptoSaid'. A law counts once. -/
mutual
def uptoBulk {H : Type} : DataW H → Nat
  | .lit (.string bytes) => bytes.length + 1
  | .lit _ => 1
  | .nil => 1
  | .ptr d => uptoBulk d + 1
  | .slice elems spare => uptoBulkAll elems + uptoBulkAll spare + 1
  | .agg parts => uptoBulkAll parts + 1
  | .iface _ d => uptoBulk d + 1
  | .map entries => uptoBulkEntries entries + 1
  | .held _ => 1
def uptoBulkAll {H : Type} : List (DataW H) → Nat
  | [] => 0
  | d :: r => uptoBulk d + uptoBulkAll r
def uptoBulkEntries {H : Type} : List (Lit × DataW H) → Nat
  | [] => 0
  | x :: r => uptoBulkEntry x + uptoBulkEntries r
def uptoBulkEntry {H : Type} : Lit × DataW H → Nat
  | (.string bytes, d) => bytes.length + uptoBulk d + 1
  | (_, d) => uptoBulk d + 1
 end
def uptoSmall : (H : Type) → List (DataW H) → Bool := fun _ ds => decide (uptoBulkAll ds ≤ 1048576)
def OpenSpec.upto (s : _root_.Go.ChangeSpec) : _root_.Go.OpenSpec := { _root_.Go.OpenSpec.ofChange s with cond := some uptoSmall }

/-- 'laws.FnExactIsNormal', WHERE WHAT IT READS IS OF BULK AT MOST 1048576: true; the input reads as it did. -/
def fnExactIsNormalUptoRow : OpenClaim := { program := "ytlgnanbnicmdaab", sum := "783d6cfc5bb1b188ba94fd843784cd11ed20bc62cb43688b5b8313ab5cc9c630", func := "loop.example/g00682/laws.FnExactIsNormal", spec := "fnExactIsNormal", unfollowed := true, recurses := true, apart := false, narrowed := true }
def FnExactIsNormalUptoSaid : Prop := fnExactIsNormalUptoRow.holds Try.pinned (OpenSpec.upto fnExactIsNormalSpec)

/-- 'laws.FnExactStepTerm', WHERE WHAT IT READS IS OF BULK AT MOST 1048576: true; the input reads as it did. -/
def fnExactStepTermUptoRow : OpenClaim := { program := "ytlgnanbnicmdaab", sum := "783d6cfc5bb1b188ba94fd843784cd11ed20bc62cb43688b5b8313ab5cc9c630", func := "loop.example/g00682/laws.FnExactStepTerm", spec := "fnExactStepTerm", unfollowed := true, recurses := true, apart := false, narrowed := true }
def FnExactStepTermUptoSaid : Prop := fnExactStepTermUptoRow.holds Try.pinned (OpenSpec.upto fnExactStepTermSpec)

/-- 'laws.FnExactNormalTerm', WHERE WHAT IT READS IS OF BULK AT MOST 1048576: true; the input reads as it did. -/
def fnExactNormalTermUptoRow : OpenClaim := { program := "ytlgnanbnicmdaab", sum := "783d6cfc5bb1b188ba94fd843784cd11ed20bc62cb43688b5b8313ab5cc9c630", func := "loop.example/g00682/laws.FnExactNormalTerm", spec := "fnExactNormalTerm", unfollowed := true, recurses := true, apart := false, narrowed := true }
def FnExactNormalTermUptoSaid : Prop := fnExactNormalTermUptoRow.holds Try.pinned (OpenSpec.upto fnExactNormalTermSpec)

/-- 'laws.FnExactNormalClause', WHERE WHAT IT READS IS OF BULK AT MOST 1048576: true; the input reads as it did. -/
def fnExactNormalClauseUptoRow : OpenClaim := { program := "ytlgnanbnicmdaab", sum := "783d6cfc5bb1b188ba94fd843784cd11ed20bc62cb43688b5b8313ab5cc9c630", func := "loop.example/g00682/laws.FnExactNormalClause", spec := "fnExactNormalClause", unfollowed := true, recurses := true, apart := false, narrowed := true }
def FnExactNormalClauseUptoSaid : Prop := fnExactNormalClauseUptoRow.holds Try.pinned (OpenSpec.upto fnExactNormalClauseSpec)

/-- 'laws.FnExactInputsOf', WHERE WHAT IT READS IS OF BULK AT MOST 1048576: true; the input reads as it did. -/
def fnExactInputsOfUptoRow : OpenClaim := { program := "ytlgnanbnicmdaab", sum := "783d6cfc5bb1b188ba94fd843784cd11ed20bc62cb43688b5b8313ab5cc9c630", func := "loop.example/g00682/laws.FnExactInputsOf", spec := "fnExactInputsOf", unfollowed := true, recurses := true, apart := false, narrowed := true }
def FnExactInputsOfUptoSaid : Prop := fnExactInputsOfUptoRow.holds Try.pinned (OpenSpec.upto fnExactInputsOfSpec)

/-- 'laws.FnExactReadClause', WHERE WHAT IT READS IS OF BULK AT MOST 1048576: true; the input reads as it did. -/
def fnExactReadClauseUptoRow : OpenClaim := { program := "ytlgnanbnicmdaab", sum := "783d6cfc5bb1b188ba94fd843784cd11ed20bc62cb43688b5b8313ab5cc9c630", func := "loop.example/g00682/laws.FnExactReadClause", spec := "fnExactReadClause", unfollowed := true, recurses := true, apart := false, narrowed := true }
def FnExactReadClauseUptoSaid : Prop := fnExactReadClauseUptoRow.holds Try.pinned (OpenSpec.upto fnExactReadClauseSpec)

end Rows
end Go.Proofs.Ytlgnanbnicmdaab
