/-
  DERIVED. GIVEN WITH THE SEED: THE CARDS: each row of YtmgkflkfoccgkabDoorRows.lean that lists a variable, with what it lists TIED to the program's text (the seventh form; the later family's looks); each row that meets fmt, with fmt's text TOLD by the authors' own Lean function (tested against real Go, not proved from fmt's source: count such statements apart). THE CARD IS WHAT COUNTS. Prove the row's statement (the work); the ties are given (YtmgkflkfoccgkabDoorTie.lean); close each card by the builder's one call (the guide's Derived/Test/ToyasCard.lean, 'card_holds'). Laid BY PROGRAM, IN A SANDBOX (cutbox-door.mjs). By AI agents, Wed Nov 11 2026. No macro, syntax, notation, axiom, sorry.
-/
import Derived.Test.YtmgkflkfoccgkabDoorRows
import GoSem.ClaimSeven
namespace Go.Proofs.YtmgkflkfoccgkabDoor
namespace Rows

/-- THE TIED CARD OF 'laws.FnCoded'. -/
def fnCodedCard : Claim7 := { stood := { row := fnCodedRow, standIns := [], harness := (true, "4b742eb66db2ce77e726c8622d1d57357d9c598da31eff55cc4ad9dd085514e1"), looks := false }, kinds := [], alts := [], laidByText := true, laidKinds := [.data, .pinned], laidTests := true, laidLooks := .later }
def FnCodedCardSaid : Prop := Claim7.holds Tryd.pinned (.plain (OpenSpec.ofChange fnCodedSpec)) fnCodedCard

/-- THE SECOND FORM's CARD OF 'laws.FnCoded'. -/
def fnCodedUptoCard : Claim7 := { stood := { row := fnCodedUptoRow, standIns := [], harness := (true, "4b742eb66db2ce77e726c8622d1d57357d9c598da31eff55cc4ad9dd085514e1"), looks := false }, kinds := [], alts := [], laidByText := true, laidKinds := [.data, .pinned], laidTests := true, laidLooks := .later }
def FnCodedUptoCardSaid : Prop := Claim7.holds Tryd.pinned (.plain (OpenSpec.upto fnCodedSpec)) fnCodedUptoCard
end Rows
end Go.Proofs.YtmgkflkfoccgkabDoor
