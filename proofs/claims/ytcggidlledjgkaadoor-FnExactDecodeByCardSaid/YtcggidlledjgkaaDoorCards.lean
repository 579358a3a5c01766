/-
  DERIVED. GIVEN WITH THE SEED: THE CARDS: each row of YtcggidlledjgkaaDoorRows.lean that lists a variable, with what it lists TIED to the program's text (the seventh form; the later family's looks); each row that meets fmt, with fmt's text TOLD by the authors' own Lean function (tested against real Go, not proved from fmt's source: count such statements apart). THE CARD IS WHAT COUNTS. Prove the row's statement (the work); the ties are given (YtcggidlledjgkaaDoorTie.lean); close each card by the builder's one call (the guide's Derived/Test/ToyasCard.lean, 'card_holds'). Laid BY PROGRAM, IN A SANDBOX (cutbox-door.mjs). By AI agents, Wed Nov 11 2026. No macro, syntax, notation, axiom, sorry.
-/
import Derived.Test.YtcggidlledjgkaaDoorRows
import GoSem.ClaimSeven
namespace Go.Proofs.YtcggidlledjgkaaDoor
namespace Rows

/-- THE TIED CARD OF 'laws.FnExactDecodeBy'. -/
def fnExactDecodeByCard : Claim7 := { stood := { row := fnExactDecodeByRow, standIns := [], harness := (true, "75a2c11184fdeaa5bb492c433d21a9448c0d7cf0db667f2d953a66f3333b65cd"), looks := false }, kinds := [], alts := [], laidByText := true, laidKinds := [.data, .pinned], laidTests := true, laidLooks := .later }
def FnExactDecodeByCardSaid : Prop := Claim7.holds Tryd.pinned (.plain (OpenSpec.ofChange fnExactDecodeBySpec)) fnExactDecodeByCard

/-- THE SECOND FORM's CARD OF 'laws.FnExactDecodeBy'. -/
def fnExactDecodeByUptoCard : Claim7 := { stood := { row := fnExactDecodeByUptoRow, standIns := [], harness := (true, "75a2c11184fdeaa5bb492c433d21a9448c0d7cf0db667f2d953a66f3333b65cd"), looks := false }, kinds := [], alts := [], laidByText := true, laidKinds := [.data, .pinned], laidTests := true, laidLooks := .later }
def FnExactDecodeByUptoCardSaid : Prop := Claim7.holds Tryd.pinned (.plain (OpenSpec.upto fnExactDecodeBySpec)) fnExactDecodeByUptoCard
end Rows
end Go.Proofs.YtcggidlledjgkaaDoor
