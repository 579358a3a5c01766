/-
  DERIVED. GIVEN WITH THE SEED: THE CARDS: each row of YtdedfkcnlbjbbaaDoorRows.lean that lists a variable, with what it lists TIED to the program's text (the seventh form; the later family's looks); each row that meets fmt, with fmt's text TOLD by the authors' own Lean function (tested against real Go, not proved from fmt's source: count such statements apart). THE CARD IS WHAT COUNTS. Prove the row's statement (the work); the ties are given (YtdedfkcnlbjbbaaDoorTie.lean); close each card by the builder's one call (the guide's Derived/Test/ToyasCard.lean, 'card_holds'). Laid BY PROGRAM, IN A SANDBOX (cutbox-door.mjs). By AI agents, Wed Nov 11 2026. No macro, syntax, notation, axiom, sorry.
-/
import Derived.Test.YtdedfkcnlbjbbaaDoorRows
import GoSem.ClaimSeven
namespace Go.Proofs.YtdedfkcnlbjbbaaDoor
namespace Rows

/-- THE TIED CARD OF 'laws.FnExactPackBits'. -/
def fnExactPackBitsCard : Claim7 := { stood := { row := fnExactPackBitsRow, standIns := [], harness := (true, "2886918f99b2391e0449f96d95f323064cec4a5792d56038ac643f2b505f8e15"), looks := false }, kinds := [], alts := [], laidByText := true, laidKinds := [.data, .pinned], laidTests := true, laidLooks := .later }
def FnExactPackBitsCardSaid : Prop := Claim7.holds Tryd.pinned (.plain (OpenSpec.ofChange fnExactPackBitsSpec)) fnExactPackBitsCard

/-- THE SECOND FORM's CARD OF 'laws.FnExactPackBits'. -/
def fnExactPackBitsUptoCard : Claim7 := { stood := { row := fnExactPackBitsUptoRow, standIns := [], harness := (true, "2886918f99b2391e0449f96d95f323064cec4a5792d56038ac643f2b505f8e15"), looks := false }, kinds := [], alts := [], laidByText := true, laidKinds := [.data, .pinned], laidTests := true, laidLooks := .later }
def FnExactPackBitsUptoCardSaid : Prop := Claim7.holds Tryd.pinned (.plain (OpenSpec.upto fnExactPackBitsSpec)) fnExactPackBitsUptoCard
end Rows
end Go.Proofs.YtdedfkcnlbjbbaaDoor
