/-
  No cell of these rows narrows 'for every input' (looked for: loops, veiled, ifaces, maps, wideKeys, modest, calm, conditions, laid).
  DERIVED. THE GIVEN ROWS OF THIS SEAT. 6 by the template 'for every input the law returns true; each argument reads behind the call as it read before'; 0 by the template 'total and deterministic' (their statements: YtghbmflbkpaohaaTotals.lean).
  GIVEN WITH THE SEED: the statements are not yours to turn. If you find one false, say at which input.
  Laid BY PROGRAM, IN A SANDBOX (cutbox-rows.mjs): the forced cells as the released guide's own fill.sh prints them over the translation 6e53a2d682bb3b16… (all of the seat's roots in one cut). By AI agents, Wed Nov 11 2026. No macro, syntax, notation, axiom, sorry.
-/
import Derived.Test.YtghbmflbkpaohaaChecked
import GoSem.Claim
import GoSem.ClaimJoined
import GoSem.ClaimMapViews
import Derived.JoinedTies
import Derived.KernelRfl
namespace Go.Proofs.Ytghbmflbkpaohaa
/- THE CELL 'sum', in the pinned program and in every row, IS THE sha256 OF THE DUMP (.gsa) THAT YtghbmflbkpaohaaProg.lean LOADS. Nothing in Lean hashes anything: it is a label: what it is worth is what the hold of that sum in a sandbox is worth. -/
noncomputable def Try.pinned : Pinned := { name := "ytghbmflbkpaohaa", sum := "6e53a2d682bb3b16b7724e7a6f1e2ac4739958ef6a5f6e1d0626a6abdd6a0f7d", checked := Try.checked }
namespace Rows
def none {H : Type} : Left H := { results := [], args := [] }

/-- 'laws.FnExactUnZig': WHATEVER THE INPUT: true; the input reads as it did. -/
def fnExactUnZigSpec : ChangeSpec := { name := "fnExactUnZig", fn := fun _ => fun
  | [d] => { results := [.lit (.bool true)], args := [d] }
  | _ => none }
def fnExactUnZigRow : OpenClaim := { program := "ytghbmflbkpaohaa", sum := "6e53a2d682bb3b16b7724e7a6f1e2ac4739958ef6a5f6e1d0626a6abdd6a0f7d", func := "loop.example/g00682/laws.FnExactUnZig", spec := "fnExactUnZig", apart := false }
def FnExactUnZigSaid : Prop := fnExactUnZigRow.holds Try.pinned (OpenSpec.ofChange fnExactUnZigSpec)

/-- ITS FALSE NEIGHBOUR: 'it returns false'. Refute it at one input. -/
def fnExactUnZigWrong : ChangeSpec := { name := "fnExactUnZig", fn := fun _ => fun
  | [d] => { results := [.lit (.bool false)], args := [d] }
  | _ => none }
def FnExactUnZigWrongFalsely : Prop := fnExactUnZigRow.holds Try.pinned (OpenSpec.ofChange fnExactUnZigWrong)

/-- 'laws.FnExactZigOf': WHATEVER THE INPUT: true; the input reads as it did. -/
def fnExactZigOfSpec : ChangeSpec := { name := "fnExactZigOf", fn := fun _ => fun
  | [d] => { results := [.lit (.bool true)], args := [d] }
  | _ => none }
def fnExactZigOfRow : OpenClaim := { program := "ytghbmflbkpaohaa", sum := "6e53a2d682bb3b16b7724e7a6f1e2ac4739958ef6a5f6e1d0626a6abdd6a0f7d", func := "loop.example/g00682/laws.FnExactZigOf", spec := "fnExactZigOf", apart := false }
def FnExactZigOfSaid : Prop := fnExactZigOfRow.holds Try.pinned (OpenSpec.ofChange fnExactZigOfSpec)

/-- ITS FALSE NEIGHBOUR: 'it returns false'. Refute it at one input. -/
def fnExactZigOfWrong : ChangeSpec := { name := "fnExactZigOf", fn := fun _ => fun
  | [d] => { results := [.lit (.bool false)], args := [d] }
  | _ => none }
def FnExactZigOfWrongFalsely : Prop := fnExactZigOfRow.holds Try.pinned (OpenSpec.ofChange fnExactZigOfWrong)

/-- 'laws.FnExactVarintOf': WHATEVER THE INPUT: true; the input reads as it did. -/
def fnExactVarintOfSpec : ChangeSpec := { name := "fnExactVarintOf", fn := fun _ => fun
  | [d] => { results := [.lit (.bool true)], args := [d] }
  | _ => none }
def fnExactVarintOfRow : OpenClaim := { program := "ytghbmflbkpaohaa", sum := "6e53a2d682bb3b16b7724e7a6f1e2ac4739958ef6a5f6e1d0626a6abdd6a0f7d", func := "loop.example/g00682/laws.FnExactVarintOf", spec := "fnExactVarintOf", apart := false }
def FnExactVarintOfSaid : Prop := fnExactVarintOfRow.holds Try.pinned (OpenSpec.ofChange fnExactVarintOfSpec)

/-- ITS FALSE NEIGHBOUR: 'it returns false'. Refute it at one input. -/
def fnExactVarintOfWrong : ChangeSpec := { name := "fnExactVarintOf", fn := fun _ => fun
  | [d] => { results := [.lit (.bool false)], args := [d] }
  | _ => none }
def FnExactVarintOfWrongFalsely : Prop := fnExactVarintOfRow.holds Try.pinned (OpenSpec.ofChange fnExactVarintOfWrong)

/-- 'laws.FnExactSumOf': WHATEVER THE INPUT: true; the input reads as it did. -/
def fnExactSumOfSpec : ChangeSpec := { name := "fnExactSumOf", fn := fun _ => fun
  | [d] => { results := [.lit (.bool true)], args := [d] }
  | _ => none }
def fnExactSumOfRow : OpenClaim := { program := "ytghbmflbkpaohaa", sum := "6e53a2d682bb3b16b7724e7a6f1e2ac4739958ef6a5f6e1d0626a6abdd6a0f7d", func := "loop.example/g00682/laws.FnExactSumOf", spec := "fnExactSumOf", apart := false }
def FnExactSumOfSaid : Prop := fnExactSumOfRow.holds Try.pinned (OpenSpec.ofChange fnExactSumOfSpec)

/-- ITS FALSE NEIGHBOUR: 'it returns false'. Refute it at one input. -/
def fnExactSumOfWrong : ChangeSpec := { name := "fnExactSumOf", fn := fun _ => fun
  | [d] => { results := [.lit (.bool false)], args := [d] }
  | _ => none }
def FnExactSumOfWrongFalsely : Prop := fnExactSumOfRow.holds Try.pinned (OpenSpec.ofChange fnExactSumOfWrong)

/-- 'laws.FnExactReadVarint': WHATEVER THE INPUT: true; the input reads as it did. -/
def fnExactReadVarintSpec : ChangeSpec := { name := "fnExactReadVarint", fn := fun _ => fun
  | [d1, d2] => { results := [.lit (.bool true)], args := [d1, d2] }
  | _ => none }
def fnExactReadVarintRow : OpenClaim := { program := "ytghbmflbkpaohaa", sum := "6e53a2d682bb3b16b7724e7a6f1e2ac4739958ef6a5f6e1d0626a6abdd6a0f7d", func := "loop.example/g00682/laws.FnExactReadVarint", spec := "fnExactReadVarint", apart := false }
def FnExactReadVarintSaid : Prop := fnExactReadVarintRow.holds Try.pinned (OpenSpec.ofChange fnExactReadVarintSpec)

/-- ITS FALSE NEIGHBOUR: 'it returns false'. Refute it at one input. -/
def fnExactReadVarintWrong : ChangeSpec := { name := "fnExactReadVarint", fn := fun _ => fun
  | [d1, d2] => { results := [.lit (.bool false)], args := [d1, d2] }
  | _ => none }
def FnExactReadVarintWrongFalsely : Prop := fnExactReadVarintRow.holds Try.pinned (OpenSpec.ofChange fnExactReadVarintWrong)

/-- 'laws.FnExactTakeSum': WHATEVER THE INPUT: true; the input reads as it did. -/
def fnExactTakeSumSpec : ChangeSpec := { name := "fnExactTakeSum", fn := fun _ => fun
  | [d] => { results := [.lit (.bool true)], args := [d] }
  | _ => none }
def fnExactTakeSumRow : OpenClaim := { program := "ytghbmflbkpaohaa", sum := "6e53a2d682bb3b16b7724e7a6f1e2ac4739958ef6a5f6e1d0626a6abdd6a0f7d", func := "loop.example/g00682/laws.FnExactTakeSum", spec := "fnExactTakeSum", apart := false }
def FnExactTakeSumSaid : Prop := fnExactTakeSumRow.holds Try.pinned (OpenSpec.ofChange fnExactTakeSumSpec)

/-- ITS FALSE NEIGHBOUR: 'it returns false'. Refute it at one input. -/
def fnExactTakeSumWrong : ChangeSpec := { name := "fnExactTakeSum", fn := fun _ => fun
  | [d] => { results := [.lit (.bool false)], args := [d] }
  | _ => none }
def FnExactTakeSumWrongFalsely : Prop := fnExactTakeSumRow.holds Try.pinned (OpenSpec.ofChange fnExactTakeSumWrong)

/- THE SECOND FORM. 'bulk': how many values and letters a reading holds, each counted each time it is reached (what is shared counts as often as it is met; a slice's spare places count too). A statement '..UptoSaid' is the law's where the arguments, and the package variables that the reading takes, are together of bulk at most 1048576: NARROWER than '..Said'. Prove '..Said' where nothing that the law and all that it calls make is longer than what came in: it says more and counts as full. Else prove '..UptoSaid'. A law counts once. -/
mutual
def uptoBulk {H : Type} : DataW H → Nat
  | .lit (.string bytes) => bytes.length + 1
  | .lit _ => 1
  | .nil => 1
  | .ptr d => uptoBulk d + 1
  | .slice elems spare => uptoBulkAll elems + uptoBulkAll spare + 1
  | .agg parts => uptoBulkAll parts + 1
  | .iface _ d => uptoBulk d + 1
  | .map entries => uptoBulkEntries entries + 1
  | .held _ => 1
def uptoBulkAll {H : Type} : List (DataW H) → Nat
  | [] => 0
  | d :: r => uptoBulk d + uptoBulkAll r
def uptoBulkEntries {H : Type} : List (Lit × DataW H) → Nat
  | [] => 0
  | x :: r => uptoBulkEntry x + uptoBulkEntries r
def uptoBulkEntry {H : Type} : Lit × DataW H → Nat
  | (.string bytes, d) => bytes.length + uptoBulk d + 1
  | (_, d) => uptoBulk d + 1
 end
def uptoSmall : (H : Type) → List (DataW H) → Bool := fun _ ds => decide (uptoBulkAll ds ≤ 1048576)
def OpenSpec.upto (s : _root_.Go.ChangeSpec) : _root_.Go.OpenSpec := { _root_.Go.OpenSpec.ofChange s with cond := some uptoSmall }

/-- 'laws.FnExactUnZig', WHERE WHAT IT READS IS OF BULK AT MOST 1048576: true; the input reads as it did. -/
def fnExactUnZigUptoRow : OpenClaim := { program := "ytghbmflbkpaohaa", sum := "6e53a2d682bb3b16b7724e7a6f1e2ac4739958ef6a5f6e1d0626a6abdd6a0f7d", func := "loop.example/g00682/laws.FnExactUnZig", spec := "fnExactUnZig", apart := false, narrowed := true }
def FnExactUnZigUptoSaid : Prop := fnExactUnZigUptoRow.holds Try.pinned (OpenSpec.upto fnExactUnZigSpec)

/-- 'laws.FnExactZigOf', WHERE WHAT IT READS IS OF BULK AT MOST 1048576: true; the input reads as it did. -/
def fnExactZigOfUptoRow : OpenClaim := { program := "ytghbmflbkpaohaa", sum := "6e53a2d682bb3b16b7724e7a6f1e2ac4739958ef6a5f6e1d0626a6abdd6a0f7d", func := "loop.example/g00682/laws.FnExactZigOf", spec := "fnExactZigOf", apart := false, narrowed := true }
def FnExactZigOfUptoSaid : Prop := fnExactZigOfUptoRow.holds Try.pinned (OpenSpec.upto fnExactZigOfSpec)

/-- 'laws.FnExactVarintOf', WHERE WHAT IT READS IS OF BULK AT MOST 1048576: true; the input reads as it did. -/
def fnExactVarintOfUptoRow : OpenClaim := { program := "ytghbmflbkpaohaa", sum := "6e53a2d682bb3b16b7724e7a6f1e2ac4739958ef6a5f6e1d0626a6abdd6a0f7d", func := "loop.example/g00682/laws.FnExactVarintOf", spec := "fnExactVarintOf", apart := false, narrowed := true }
def FnExactVarintOfUptoSaid : Prop := fnExactVarintOfUptoRow.holds Try.pinned (OpenSpec.upto fnExactVarintOfSpec)

/-- 'laws.FnExactSumOf', WHERE WHAT IT READS IS OF BULK AT MOST 1048576: true; the input reads as it did. -/
def fnExactSumOfUptoRow : OpenClaim := { program := "ytghbmflbkpaohaa", sum := "6e53a2d682bb3b16b7724e7a6f1e2ac4739958ef6a5f6e1d0626a6abdd6a0f7d", func := "loop.example/g00682/laws.FnExactSumOf", spec := "fnExactSumOf", apart := false, narrowed := true }
def FnExactSumOfUptoSaid : Prop := fnExactSumOfUptoRow.holds Try.pinned (OpenSpec.upto fnExactSumOfSpec)

/-- 'laws.FnExactReadVarint', WHERE WHAT IT READS IS OF BULK AT MOST 1048576: true; the input reads as it did. -/
def fnExactReadVarintUptoRow : OpenClaim := { program := "ytghbmflbkpaohaa", sum := "6e53a2d682bb3b16b7724e7a6f1e2ac4739958ef6a5f6e1d0626a6abdd6a0f7d", func := "loop.example/g00682/laws.FnExactReadVarint", spec := "fnExactReadVarint", apart := false, narrowed := true }
def FnExactReadVarintUptoSaid : Prop := fnExactReadVarintUptoRow.holds Try.pinned (OpenSpec.upto fnExactReadVarintSpec)

/-- 'laws.FnExactTakeSum', WHERE WHAT IT READS IS OF BULK AT MOST 1048576: true; the input reads as it did. -/
def fnExactTakeSumUptoRow : OpenClaim := { program := "ytghbmflbkpaohaa", sum := "6e53a2d682bb3b16b7724e7a6f1e2ac4739958ef6a5f6e1d0626a6abdd6a0f7d", func := "loop.example/g00682/laws.FnExactTakeSum", spec := "fnExactTakeSum", apart := false, narrowed := true }
def FnExactTakeSumUptoSaid : Prop := fnExactTakeSumUptoRow.holds Try.pinned (OpenSpec.upto fnExactTakeSumSpec)

end Rows
end Go.Proofs.Ytghbmflbkpaohaa
