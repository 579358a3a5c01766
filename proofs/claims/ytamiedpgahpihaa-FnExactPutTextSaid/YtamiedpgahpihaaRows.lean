/-
  No cell of these rows narrows 'for every input' (looked for: loops, veiled, ifaces, maps, wideKeys, modest, calm, conditions, laid).
  DERIVED. THE GIVEN ROWS OF THIS SEAT. 6 by the template 'for every input the law returns true; each argument reads behind the call as it read before'; 0 by the template 'total and deterministic' (their statements: YtamiedpgahpihaaTotals.lean).
  GIVEN WITH THE SEED: the statements are not yours to turn. If you find one false, say at which input.
  Laid BY PROGRAM, IN A SANDBOX (cutbox-rows.mjs): the forced cells as the released guide's own fill.sh prints them over the translation a420aac7c577ca4d… (all of the seat's roots in one cut). By AI agents, Wed Nov 11 2026. No macro, syntax, notation, axiom, sorry.
-/
import Derived.Test.YtamiedpgahpihaaChecked
import GoSem.Claim
import GoSem.ClaimJoined
import GoSem.ClaimMapViews
import Derived.JoinedTies
import Derived.KernelRfl
namespace Go.Proofs.Ytamiedpgahpihaa
/- THE CELL 'sum', in the pinned program and in every row, IS THE sha256 OF THE DUMP (.gsa) THAT YtamiedpgahpihaaProg.lean LOADS. Nothing in Lean hashes anything: it is a label: what it is worth is what the hold of that sum in a sandbox is worth. -/
noncomputable def Try.pinned : Pinned := { name := "ytamiedpgahpihaa", sum := "a420aac7c577ca4d492dcc42d6f2b68801b681dc55d335d30ea85ee4248cfdfc", checked := Try.checked }
namespace Rows
def none {H : Type} : Left H := { results := [], args := [] }

/-- 'laws.FnExactSectorOf': WHATEVER THE INPUT: true; the input reads as it did. -/
def fnExactSectorOfSpec : ChangeSpec := { name := "fnExactSectorOf", fn := fun _ => fun
  | [d1, d2, d3] => { results := [.lit (.bool true)], args := [d1, d2, d3] }
  | _ => none }
def fnExactSectorOfRow : OpenClaim := { program := "ytamiedpgahpihaa", sum := "a420aac7c577ca4d492dcc42d6f2b68801b681dc55d335d30ea85ee4248cfdfc", func := "loop.example/g00682/laws.FnExactSectorOf", spec := "fnExactSectorOf", inPlace := ["internal/abi.NoEscape", "internal/bytealg.MakeNoZero"], apart := false }
def FnExactSectorOfSaid : Prop := fnExactSectorOfRow.holds Try.pinned (OpenSpec.ofChange fnExactSectorOfSpec)

/-- ITS FALSE NEIGHBOUR: 'it returns false'. Refute it at one input. -/
def fnExactSectorOfWrong : ChangeSpec := { name := "fnExactSectorOf", fn := fun _ => fun
  | [d1, d2, d3] => { results := [.lit (.bool false)], args := [d1, d2, d3] }
  | _ => none }
def FnExactSectorOfWrongFalsely : Prop := fnExactSectorOfRow.holds Try.pinned (OpenSpec.ofChange fnExactSectorOfWrong)

/-- 'laws.FnExactReadSector': WHATEVER THE INPUT: true; the input reads as it did. -/
def fnExactReadSectorSpec : ChangeSpec := { name := "fnExactReadSector", fn := fun _ => fun
  | [d1, d2] => { results := [.lit (.bool true)], args := [d1, d2] }
  | _ => none }
def fnExactReadSectorRow : OpenClaim := { program := "ytamiedpgahpihaa", sum := "a420aac7c577ca4d492dcc42d6f2b68801b681dc55d335d30ea85ee4248cfdfc", func := "loop.example/g00682/laws.FnExactReadSector", spec := "fnExactReadSector", inPlace := ["internal/abi.NoEscape", "internal/bytealg.MakeNoZero"], apart := false }
def FnExactReadSectorSaid : Prop := fnExactReadSectorRow.holds Try.pinned (OpenSpec.ofChange fnExactReadSectorSpec)

/-- ITS FALSE NEIGHBOUR: 'it returns false'. Refute it at one input. -/
def fnExactReadSectorWrong : ChangeSpec := { name := "fnExactReadSector", fn := fun _ => fun
  | [d1, d2] => { results := [.lit (.bool false)], args := [d1, d2] }
  | _ => none }
def FnExactReadSectorWrongFalsely : Prop := fnExactReadSectorRow.holds Try.pinned (OpenSpec.ofChange fnExactReadSectorWrong)

/-- 'laws.FnExactTextsOn': WHATEVER THE INPUT: true; the input reads as it did. -/
def fnExactTextsOnSpec : ChangeSpec := { name := "fnExactTextsOn", fn := fun _ => fun
  | [d] => { results := [.lit (.bool true)], args := [d] }
  | _ => none }
def fnExactTextsOnRow : OpenClaim := { program := "ytamiedpgahpihaa", sum := "a420aac7c577ca4d492dcc42d6f2b68801b681dc55d335d30ea85ee4248cfdfc", func := "loop.example/g00682/laws.FnExactTextsOn", spec := "fnExactTextsOn", inPlace := ["internal/abi.NoEscape", "internal/bytealg.MakeNoZero"], unfollowed := true, recurses := true, apart := false }
def FnExactTextsOnSaid : Prop := fnExactTextsOnRow.holds Try.pinned (OpenSpec.ofChange fnExactTextsOnSpec)

/-- ITS FALSE NEIGHBOUR: 'it returns false'. Refute it at one input. -/
def fnExactTextsOnWrong : ChangeSpec := { name := "fnExactTextsOn", fn := fun _ => fun
  | [d] => { results := [.lit (.bool false)], args := [d] }
  | _ => none }
def FnExactTextsOnWrongFalsely : Prop := fnExactTextsOnRow.holds Try.pinned (OpenSpec.ofChange fnExactTextsOnWrong)

/-- 'laws.FnExactMendDisk': WHATEVER THE INPUT: true; the input reads as it did. -/
def fnExactMendDiskSpec : ChangeSpec := { name := "fnExactMendDisk", fn := fun _ => fun
  | [d] => { results := [.lit (.bool true)], args := [d] }
  | _ => none }
def fnExactMendDiskRow : OpenClaim := { program := "ytamiedpgahpihaa", sum := "a420aac7c577ca4d492dcc42d6f2b68801b681dc55d335d30ea85ee4248cfdfc", func := "loop.example/g00682/laws.FnExactMendDisk", spec := "fnExactMendDisk", inPlace := ["internal/abi.NoEscape", "internal/bytealg.MakeNoZero"], unfollowed := true, recurses := true, apart := false }
def FnExactMendDiskSaid : Prop := fnExactMendDiskRow.holds Try.pinned (OpenSpec.ofChange fnExactMendDiskSpec)

/-- ITS FALSE NEIGHBOUR: 'it returns false'. Refute it at one input. -/
def fnExactMendDiskWrong : ChangeSpec := { name := "fnExactMendDisk", fn := fun _ => fun
  | [d] => { results := [.lit (.bool false)], args := [d] }
  | _ => none }
def FnExactMendDiskWrongFalsely : Prop := fnExactMendDiskRow.holds Try.pinned (OpenSpec.ofChange fnExactMendDiskWrong)

/-- 'laws.FnExactPutText': WHATEVER THE INPUT: true; the input reads as it did. -/
def fnExactPutTextSpec : ChangeSpec := { name := "fnExactPutText", fn := fun _ => fun
  | [d1, d2] => { results := [.lit (.bool true)], args := [d1, d2] }
  | _ => none }
def fnExactPutTextRow : OpenClaim := { program := "ytamiedpgahpihaa", sum := "a420aac7c577ca4d492dcc42d6f2b68801b681dc55d335d30ea85ee4248cfdfc", func := "loop.example/g00682/laws.FnExactPutText", spec := "fnExactPutText", inPlace := ["internal/abi.NoEscape", "internal/bytealg.MakeNoZero"], unfollowed := true, recurses := true, apart := false }
def FnExactPutTextSaid : Prop := fnExactPutTextRow.holds Try.pinned (OpenSpec.ofChange fnExactPutTextSpec)

/-- ITS FALSE NEIGHBOUR: 'it returns false'. Refute it at one input. -/
def fnExactPutTextWrong : ChangeSpec := { name := "fnExactPutText", fn := fun _ => fun
  | [d1, d2] => { results := [.lit (.bool false)], args := [d1, d2] }
  | _ => none }
def FnExactPutTextWrongFalsely : Prop := fnExactPutTextRow.holds Try.pinned (OpenSpec.ofChange fnExactPutTextWrong)

/-- 'laws.FnExactCrashDisk': WHATEVER THE INPUT: true; the input reads as it did. -/
def fnExactCrashDiskSpec : ChangeSpec := { name := "fnExactCrashDisk", fn := fun _ => fun
  | [d1, d2, d3] => { results := [.lit (.bool true)], args := [d1, d2, d3] }
  | _ => none }
def fnExactCrashDiskRow : OpenClaim := { program := "ytamiedpgahpihaa", sum := "a420aac7c577ca4d492dcc42d6f2b68801b681dc55d335d30ea85ee4248cfdfc", func := "loop.example/g00682/laws.FnExactCrashDisk", spec := "fnExactCrashDisk", inPlace := ["internal/abi.NoEscape", "internal/bytealg.MakeNoZero"], unfollowed := true, recurses := true, apart := false }
def FnExactCrashDiskSaid : Prop := fnExactCrashDiskRow.holds Try.pinned (OpenSpec.ofChange fnExactCrashDiskSpec)

/-- ITS FALSE NEIGHBOUR: 'it returns false'. Refute it at one input. -/
def fnExactCrashDiskWrong : ChangeSpec := { name := "fnExactCrashDisk", fn := fun _ => fun
  | [d1, d2, d3] => { results := [.lit (.bool false)], args := [d1, d2, d3] }
  | _ => none }
def FnExactCrashDiskWrongFalsely : Prop := fnExactCrashDiskRow.holds Try.pinned (OpenSpec.ofChange fnExactCrashDiskWrong)

/- THE SECOND FORM. 'bulk': how many values and letters a reading holds, each counted each time it is reached (what is shared counts as often as it is met; a slice's spare places count too). A statement '..UptoSaid' is the law's where the arguments, and the package variables that the reading takes, are together of bulk at most 1048576: NARROWER than '..Said'. Prove '..Said' where nothing that the law and all that it calls make is longer than what came in: it says more and counts as full. Else prove '..UptoSaid'. A law counts once. -/
mutual
def uptoBulk {H : Type} : DataW H → Nat
  | .lit (.string bytes) => bytes.length + 1
  | .lit _ => 1
  | .nil => 1
  | .ptr d => uptoBulk d + 1
  | .slice elems spare => uptoBulkAll elems + uptoBulkAll spare + 1
  | .agg parts => uptoBulkAll parts + 1
  | .iface _ d => uptoBulk d + 1
  | .map entries => uptoBulkEntries entries + 1
  | .held _ => 1
def uptoBulkAll {H : Type} : List (DataW H) → Nat
  | [] => 0
  | d :: r => uptoBulk d + uptoBulkAll r
def uptoBulkEntries {H : Type} : List (Lit × DataW H) → Nat
  | [] => 0
  | x :: r => uptoBulkEntry x + uptoBulkEntries r
def uptoBulkEntry {H : Type} : Lit × DataW H → Nat
  | (.string bytes, d) => bytes.length + uptoBulk d + 1
  | (_, d) => uptoBulk d + 1
 end
def uptoSmall : (H : Type) → List (DataW H) → Bool := fun _ ds => decide (uptoBulkAll ds ≤ 1048576)
def OpenSpec.upto (s : _root_.Go.ChangeSpec) : _root_.Go.OpenSpec := { _root_.Go.OpenSpec.ofChange s with cond := some uptoSmall }

/-- 'laws.FnExactSectorOf', WHERE WHAT IT READS IS OF BULK AT MOST 1048576: true; the input reads as it did. -/
def fnExactSectorOfUptoRow : OpenClaim := { program := "ytamiedpgahpihaa", sum := "a420aac7c577ca4d492dcc42d6f2b68801b681dc55d335d30ea85ee4248cfdfc", func := "loop.example/g00682/laws.FnExactSectorOf", spec := "fnExactSectorOf", inPlace := ["internal/abi.NoEscape", "internal/bytealg.MakeNoZero"], apart := false, narrowed := true }
def FnExactSectorOfUptoSaid : Prop := fnExactSectorOfUptoRow.holds Try.pinned (OpenSpec.upto fnExactSectorOfSpec)

/-- 'laws.FnExactReadSector', WHERE WHAT IT READS IS OF BULK AT MOST 1048576: true; the input reads as it did. -/
def fnExactReadSectorUptoRow : OpenClaim := { program := "ytamiedpgahpihaa", sum := "a420aac7c577ca4d492dcc42d6f2b68801b681dc55d335d30ea85ee4248cfdfc", func := "loop.example/g00682/laws.FnExactReadSector", spec := "fnExactReadSector", inPlace := ["internal/abi.NoEscape", "internal/bytealg.MakeNoZero"], apart := false, narrowed := true }
def FnExactReadSectorUptoSaid : Prop := fnExactReadSectorUptoRow.holds Try.pinned (OpenSpec.upto fnExactReadSectorSpec)

/-- 'laws.FnExactTextsOn', WHERE WHAT IT READS IS OF BULK AT MOST 1048576: true; the input reads as it did. -/
def fnExactTextsOnUptoRow : OpenClaim := { program := "ytamiedpgahpihaa", sum := "a420aac7c577ca4d492dcc42d6f2b68801b681dc55d335d30ea85ee4248cfdfc", func := "loop.example/g00682/laws.FnExactTextsOn", spec := "fnExactTextsOn", inPlace := ["internal/abi.NoEscape", "internal/bytealg.MakeNoZero"], unfollowed := true, recurses := true, apart := false, narrowed := true }
def FnExactTextsOnUptoSaid : Prop := fnExactTextsOnUptoRow.holds Try.pinned (OpenSpec.upto fnExactTextsOnSpec)

/-- 'laws.FnExactMendDisk', WHERE WHAT IT READS IS OF BULK AT MOST 1048576: true; the input reads as it did. -/
def fnExactMendDiskUptoRow : OpenClaim := { program := "ytamiedpgahpihaa", sum := "a420aac7c577ca4d492dcc42d6f2b68801b681dc55d335d30ea85ee4248cfdfc", func := "loop.example/g00682/laws.FnExactMendDisk", spec := "fnExactMendDisk", inPlace := ["internal/abi.NoEscape", "internal/bytealg.MakeNoZero"], unfollowed := true, recurses := true, apart := false, narrowed := true }
def FnExactMendDiskUptoSaid : Prop := fnExactMendDiskUptoRow.holds Try.pinned (OpenSpec.upto fnExactMendDiskSpec)

/-- 'laws.FnExactPutText', WHERE WHAT IT READS IS OF BULK AT MOST 1048576: true; the input reads as it did. -/
def fnExactPutTextUptoRow : OpenClaim := { program := "ytamiedpgahpihaa", sum := "a420aac7c577ca4d492dcc42d6f2b68801b681dc55d335d30ea85ee4248cfdfc", func := "loop.example/g00682/laws.FnExactPutText", spec := "fnExactPutText", inPlace := ["internal/abi.NoEscape", "internal/bytealg.MakeNoZero"], unfollowed := true, recurses := true, apart := false, narrowed := true }
def FnExactPutTextUptoSaid : Prop := fnExactPutTextUptoRow.holds Try.pinned (OpenSpec.upto fnExactPutTextSpec)

/-- 'laws.FnExactCrashDisk', WHERE WHAT IT READS IS OF BULK AT MOST 1048576: true; the input reads as it did. -/
def fnExactCrashDiskUptoRow : OpenClaim := { program := "ytamiedpgahpihaa", sum := "a420aac7c577ca4d492dcc42d6f2b68801b681dc55d335d30ea85ee4248cfdfc", func := "loop.example/g00682/laws.FnExactCrashDisk", spec := "fnExactCrashDisk", inPlace := ["internal/abi.NoEscape", "internal/bytealg.MakeNoZero"], unfollowed := true, recurses := true, apart := false, narrowed := true }
def FnExactCrashDiskUptoSaid : Prop := fnExactCrashDiskUptoRow.holds Try.pinned (OpenSpec.upto fnExactCrashDiskSpec)

end Rows
end Go.Proofs.Ytamiedpgahpihaa
