/-
  No cell of these rows narrows 'for every input' (looked for: loops, veiled, ifaces, maps, wideKeys, modest, calm, conditions, laid).
  DERIVED. THE GIVEN ROWS OF THIS SEAT. 6 by the template 'for every input the law returns true; each argument reads behind the call as it read before'; 0 by the template 'total and deterministic' (their statements: YtgbjmojghcbneaaTotals.lean).
  GIVEN WITH THE SEED: the statements are not yours to turn. If you find one false, say at which input.
  Laid BY PROGRAM, IN A SANDBOX (cutbox-rows.mjs): the forced cells as the released guide's own fill.sh prints them over the translation 57fa0f19a808a6cc… (all of the seat's roots in one cut). By AI agents, Wed Nov 11 2026. No macro, syntax, notation, axiom, sorry.
-/
import Derived.Test.YtgbjmojghcbneaaChecked
import GoSem.Claim
import GoSem.ClaimJoined
import GoSem.ClaimMapViews
import Derived.JoinedTies
import Derived.KernelRfl
namespace Go.Proofs.Ytgbjmojghcbneaa
/- THE CELL 'sum', in the pinned program and in every row, IS THE sha256 OF THE DUMP (.gsa) THAT YtgbjmojghcbneaaProg.lean LOADS. Nothing in Lean hashes anything: it is a label: what it is worth is what the hold of that sum in a sandbox is worth. -/
noncomputable def Try.pinned : Pinned := { name := "ytgbjmojghcbneaa", sum := "57fa0f19a808a6ccd6b2e8941801a14310fa702c56bbf9ff4ade090e80e6b369", checked := Try.checked }
namespace Rows
def none {H : Type} : Left H := { results := [], args := [] }

/-- 'laws.FnExactGoodLengths': WHATEVER THE INPUT: true; the input reads as it did. -/
def fnExactGoodLengthsSpec : ChangeSpec := { name := "fnExactGoodLengths", fn := fun _ => fun
  | [d] => { results := [.lit (.bool true)], args := [d] }
  | _ => none }
def fnExactGoodLengthsRow : OpenClaim := { program := "ytgbjmojghcbneaa", sum := "57fa0f19a808a6ccd6b2e8941801a14310fa702c56bbf9ff4ade090e80e6b369", func := "loop.example/g00682/laws.FnExactGoodLengths", spec := "fnExactGoodLengths", unfollowed := true, recurses := true, apart := false }
def FnExactGoodLengthsSaid : Prop := fnExactGoodLengthsRow.holds Try.pinned (OpenSpec.ofChange fnExactGoodLengthsSpec)

/-- ITS FALSE NEIGHBOUR: 'it returns false'. Refute it at one input. -/
def fnExactGoodLengthsWrong : ChangeSpec := { name := "fnExactGoodLengths", fn := fun _ => fun
  | [d] => { results := [.lit (.bool false)], args := [d] }
  | _ => none }
def FnExactGoodLengthsWrongFalsely : Prop := fnExactGoodLengthsRow.holds Try.pinned (OpenSpec.ofChange fnExactGoodLengthsWrong)

/-- 'laws.FnExactKraftOf': WHATEVER THE INPUT: true; the input reads as it did. -/
def fnExactKraftOfSpec : ChangeSpec := { name := "fnExactKraftOf", fn := fun _ => fun
  | [d] => { results := [.lit (.bool true)], args := [d] }
  | _ => none }
def fnExactKraftOfRow : OpenClaim := { program := "ytgbjmojghcbneaa", sum := "57fa0f19a808a6ccd6b2e8941801a14310fa702c56bbf9ff4ade090e80e6b369", func := "loop.example/g00682/laws.FnExactKraftOf", spec := "fnExactKraftOf", unfollowed := true, recurses := true, apart := false }
def FnExactKraftOfSaid : Prop := fnExactKraftOfRow.holds Try.pinned (OpenSpec.ofChange fnExactKraftOfSpec)

/-- ITS FALSE NEIGHBOUR: 'it returns false'. Refute it at one input. -/
def fnExactKraftOfWrong : ChangeSpec := { name := "fnExactKraftOf", fn := fun _ => fun
  | [d] => { results := [.lit (.bool false)], args := [d] }
  | _ => none }
def FnExactKraftOfWrongFalsely : Prop := fnExactKraftOfRow.holds Try.pinned (OpenSpec.ofChange fnExactKraftOfWrong)

/-- 'laws.FnExactUnpackBits': WHATEVER THE INPUT: true; the input reads as it did. -/
def fnExactUnpackBitsSpec : ChangeSpec := { name := "fnExactUnpackBits", fn := fun _ => fun
  | [d1, d2] => { results := [.lit (.bool true)], args := [d1, d2] }
  | _ => none }
def fnExactUnpackBitsRow : OpenClaim := { program := "ytgbjmojghcbneaa", sum := "57fa0f19a808a6ccd6b2e8941801a14310fa702c56bbf9ff4ade090e80e6b369", func := "loop.example/g00682/laws.FnExactUnpackBits", spec := "fnExactUnpackBits", inPlace := ["internal/abi.NoEscape"], apart := false }
def FnExactUnpackBitsSaid : Prop := fnExactUnpackBitsRow.holds Try.pinned (OpenSpec.ofChange fnExactUnpackBitsSpec)

/-- ITS FALSE NEIGHBOUR: 'it returns false'. Refute it at one input. -/
def fnExactUnpackBitsWrong : ChangeSpec := { name := "fnExactUnpackBits", fn := fun _ => fun
  | [d1, d2] => { results := [.lit (.bool false)], args := [d1, d2] }
  | _ => none }
def FnExactUnpackBitsWrongFalsely : Prop := fnExactUnpackBitsRow.holds Try.pinned (OpenSpec.ofChange fnExactUnpackBitsWrong)

/-- 'laws.FnExactListBytes': WHATEVER THE INPUT: true; the input reads as it did. -/
def fnExactListBytesSpec : ChangeSpec := { name := "fnExactListBytes", fn := fun _ => fun
  | [d] => { results := [.lit (.bool true)], args := [d] }
  | _ => none }
def fnExactListBytesRow : OpenClaim := { program := "ytgbjmojghcbneaa", sum := "57fa0f19a808a6ccd6b2e8941801a14310fa702c56bbf9ff4ade090e80e6b369", func := "loop.example/g00682/laws.FnExactListBytes", spec := "fnExactListBytes", apart := false }
def FnExactListBytesSaid : Prop := fnExactListBytesRow.holds Try.pinned (OpenSpec.ofChange fnExactListBytesSpec)

/-- ITS FALSE NEIGHBOUR: 'it returns false'. Refute it at one input. -/
def fnExactListBytesWrong : ChangeSpec := { name := "fnExactListBytes", fn := fun _ => fun
  | [d] => { results := [.lit (.bool false)], args := [d] }
  | _ => none }
def FnExactListBytesWrongFalsely : Prop := fnExactListBytesRow.holds Try.pinned (OpenSpec.ofChange fnExactListBytesWrong)

/-- 'laws.FnExactCostBy': WHATEVER THE INPUT: true; the input reads as it did. -/
def fnExactCostBySpec : ChangeSpec := { name := "fnExactCostBy", fn := fun _ => fun
  | [d1, d2] => { results := [.lit (.bool true)], args := [d1, d2] }
  | _ => none }
def fnExactCostByRow : OpenClaim := { program := "ytgbjmojghcbneaa", sum := "57fa0f19a808a6ccd6b2e8941801a14310fa702c56bbf9ff4ade090e80e6b369", func := "loop.example/g00682/laws.FnExactCostBy", spec := "fnExactCostBy", unfollowed := true, recurses := true, apart := false }
def FnExactCostBySaid : Prop := fnExactCostByRow.holds Try.pinned (OpenSpec.ofChange fnExactCostBySpec)

/-- ITS FALSE NEIGHBOUR: 'it returns false'. Refute it at one input. -/
def fnExactCostByWrong : ChangeSpec := { name := "fnExactCostBy", fn := fun _ => fun
  | [d1, d2] => { results := [.lit (.bool false)], args := [d1, d2] }
  | _ => none }
def FnExactCostByWrongFalsely : Prop := fnExactCostByRow.holds Try.pinned (OpenSpec.ofChange fnExactCostByWrong)

/-- 'laws.FnExactGoodDisk': WHATEVER THE INPUT: true; the input reads as it did. -/
def fnExactGoodDiskSpec : ChangeSpec := { name := "fnExactGoodDisk", fn := fun _ => fun
  | [d] => { results := [.lit (.bool true)], args := [d] }
  | _ => none }
def fnExactGoodDiskRow : OpenClaim := { program := "ytgbjmojghcbneaa", sum := "57fa0f19a808a6ccd6b2e8941801a14310fa702c56bbf9ff4ade090e80e6b369", func := "loop.example/g00682/laws.FnExactGoodDisk", spec := "fnExactGoodDisk", unfollowed := true, recurses := true, apart := false }
def FnExactGoodDiskSaid : Prop := fnExactGoodDiskRow.holds Try.pinned (OpenSpec.ofChange fnExactGoodDiskSpec)

/-- ITS FALSE NEIGHBOUR: 'it returns false'. Refute it at one input. -/
def fnExactGoodDiskWrong : ChangeSpec := { name := "fnExactGoodDisk", fn := fun _ => fun
  | [d] => { results := [.lit (.bool false)], args := [d] }
  | _ => none }
def FnExactGoodDiskWrongFalsely : Prop := fnExactGoodDiskRow.holds Try.pinned (OpenSpec.ofChange fnExactGoodDiskWrong)

/- THE SECOND FORM. 'bulk': how many values and letters a reading holds, each counted each time it is reached (what is shared counts as often as it is met; a slice's spare places count too). A statement '..UptoSaid' is the law's where the arguments, and the package variables that the reading takes, are together of bulk at most 1048576: NARROWER than '..Said'. Prove '..Said' where nothing that the law and all that it calls make is longer than what came in: it says more and counts as full. Else prove '..UptoSaid'. A law counts once. -/
mutual
def uptoBulk {H : Type} : DataW H → Nat
  | .lit (.string bytes) => bytes.length + 1
  | .lit _ => 1
  | .nil => 1
  | .ptr d => uptoBulk d + 1
  | .slice elems spare => uptoBulkAll elems + uptoBulkAll spare + 1
  | .agg parts => uptoBulkAll parts + 1
  | .iface _ d => uptoBulk d + 1
  | .map entries => uptoBulkEntries entries + 1
  | .held _ => 1
def uptoBulkAll {H : Type} : List (DataW H) → Nat
  | [] => 0
  | d :: r => uptoBulk d + uptoBulkAll r
def uptoBulkEntries {H : Type} : List (Lit × DataW H) → Nat
  | [] => 0
  | x :: r => uptoBulkEntry x + uptoBulkEntries r
def uptoBulkEntry {H : Type} : Lit × DataW H → Nat
  | (.string bytes, d) => bytes.length + uptoBulk d + 1
  | (_, d) => uptoBulk d + 1
 end
def uptoSmall : (H : Type) → List (DataW H) → Bool := fun _ ds => decide (uptoBulkAll ds ≤ 1048576)
def OpenSpec.upto (s : _root_.Go.ChangeSpec) : _root_.Go.OpenSpec := { _root_.Go.OpenSpec.ofChange s with cond := some uptoSmall }

/-- 'laws.FnExactGoodLengths', WHERE WHAT IT READS IS OF BULK AT MOST 1048576: true; the input reads as it did. -/
def fnExactGoodLengthsUptoRow : OpenClaim := { program := "ytgbjmojghcbneaa", sum := "57fa0f19a808a6ccd6b2e8941801a14310fa702c56bbf9ff4ade090e80e6b369", func := "loop.example/g00682/laws.FnExactGoodLengths", spec := "fnExactGoodLengths", unfollowed := true, recurses := true, apart := false, narrowed := true }
def FnExactGoodLengthsUptoSaid : Prop := fnExactGoodLengthsUptoRow.holds Try.pinned (OpenSpec.upto fnExactGoodLengthsSpec)

/-- 'laws.FnExactKraftOf', WHERE WHAT IT READS IS OF BULK AT MOST 1048576: true; the input reads as it did. -/
def fnExactKraftOfUptoRow : OpenClaim := { program := "ytgbjmojghcbneaa", sum := "57fa0f19a808a6ccd6b2e8941801a14310fa702c56bbf9ff4ade090e80e6b369", func := "loop.example/g00682/laws.FnExactKraftOf", spec := "fnExactKraftOf", unfollowed := true, recurses := true, apart := false, narrowed := true }
def FnExactKraftOfUptoSaid : Prop := fnExactKraftOfUptoRow.holds Try.pinned (OpenSpec.upto fnExactKraftOfSpec)

/-- 'laws.FnExactUnpackBits', WHERE WHAT IT READS IS OF BULK AT MOST 1048576: true; the input reads as it did. -/
def fnExactUnpackBitsUptoRow : OpenClaim := { program := "ytgbjmojghcbneaa", sum := "57fa0f19a808a6ccd6b2e8941801a14310fa702c56bbf9ff4ade090e80e6b369", func := "loop.example/g00682/laws.FnExactUnpackBits", spec := "fnExactUnpackBits", inPlace := ["internal/abi.NoEscape"], apart := false, narrowed := true }
def FnExactUnpackBitsUptoSaid : Prop := fnExactUnpackBitsUptoRow.holds Try.pinned (OpenSpec.upto fnExactUnpackBitsSpec)

/-- 'laws.FnExactListBytes', WHERE WHAT IT READS IS OF BULK AT MOST 1048576: true; the input reads as it did. -/
def fnExactListBytesUptoRow : OpenClaim := { program := "ytgbjmojghcbneaa", sum := "57fa0f19a808a6ccd6b2e8941801a14310fa702c56bbf9ff4ade090e80e6b369", func := "loop.example/g00682/laws.FnExactListBytes", spec := "fnExactListBytes", apart := false, narrowed := true }
def FnExactListBytesUptoSaid : Prop := fnExactListBytesUptoRow.holds Try.pinned (OpenSpec.upto fnExactListBytesSpec)

/-- 'laws.FnExactCostBy', WHERE WHAT IT READS IS OF BULK AT MOST 1048576: true; the input reads as it did. -/
def fnExactCostByUptoRow : OpenClaim := { program := "ytgbjmojghcbneaa", sum := "57fa0f19a808a6ccd6b2e8941801a14310fa702c56bbf9ff4ade090e80e6b369", func := "loop.example/g00682/laws.FnExactCostBy", spec := "fnExactCostBy", unfollowed := true, recurses := true, apart := false, narrowed := true }
def FnExactCostByUptoSaid : Prop := fnExactCostByUptoRow.holds Try.pinned (OpenSpec.upto fnExactCostBySpec)

/-- 'laws.FnExactGoodDisk', WHERE WHAT IT READS IS OF BULK AT MOST 1048576: true; the input reads as it did. -/
def fnExactGoodDiskUptoRow : OpenClaim := { program := "ytgbjmojghcbneaa", sum := "57fa0f19a808a6ccd6b2e8941801a14310fa702c56bbf9ff4ade090e80e6b369", func := "loop.example/g00682/laws.FnExactGoodDisk", spec := "fnExactGoodDisk", unfollowed := true, recurses := true, apart := false, narrowed := true }
def FnExactGoodDiskUptoSaid : Prop := fnExactGoodDiskUptoRow.holds Try.pinned (OpenSpec.upto fnExactGoodDiskSpec)

end Rows
end Go.Proofs.Ytgbjmojghcbneaa
