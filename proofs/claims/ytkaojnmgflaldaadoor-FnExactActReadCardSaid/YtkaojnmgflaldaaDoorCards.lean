/-
  DERIVED. GIVEN WITH THE SEED: THE CARDS: each row of YtkaojnmgflaldaaDoorRows.lean that lists a variable, with what it lists TIED to the program's text (the seventh form; the later family's looks); each row that meets fmt, with fmt's text TOLD by the authors' own Lean function (tested against real Go, not proved from fmt's source: count such statements apart). THE CARD IS WHAT COUNTS. Prove the row's statement (the work); the ties are given (YtkaojnmgflaldaaDoorTie.lean); close each card by the builder's one call (the guide's Derived/Test/ToyasCard.lean, 'card_holds'). Laid BY PROGRAM, IN A SANDBOX (cutbox-door.mjs). By AI agents, Wed Nov 11 2026. No macro, syntax, notation, axiom, sorry.
-/
import Derived.Test.YtkaojnmgflaldaaDoorRows
import GoSem.ClaimSeven
namespace Go.Proofs.YtkaojnmgflaldaaDoor
namespace Rows

/-- THE TIED CARD OF 'laws.FnExactActRead'. -/
def fnExactActReadCard : Claim7 := { stood := { row := fnExactActReadRow, standIns := [], harness := (true, "a55e4beea45c31d641695ead975115f46faff5eaae37c86190a9fe843d7eb73e"), looks := true }, kinds := [], alts := [], laidByText := true, laidKinds := [.data, .data, .data, .data, .sentinel, .sentinel, .pinned], laidTests := true, laidLooks := .later }
def FnExactActReadCardSaid : Prop := Claim7.holds Tryd.pinned (.plain (OpenSpec.ofChange fnExactActReadSpec)) fnExactActReadCard

/-- THE SECOND FORM's CARD OF 'laws.FnExactActRead'. -/
def fnExactActReadUptoCard : Claim7 := { stood := { row := fnExactActReadUptoRow, standIns := [], harness := (true, "a55e4beea45c31d641695ead975115f46faff5eaae37c86190a9fe843d7eb73e"), looks := true }, kinds := [], alts := [], laidByText := true, laidKinds := [.data, .data, .data, .data, .sentinel, .sentinel, .pinned], laidTests := true, laidLooks := .later }
def FnExactActReadUptoCardSaid : Prop := Claim7.holds Tryd.pinned (.plain (OpenSpec.upto fnExactActReadSpec)) fnExactActReadUptoCard
end Rows
end Go.Proofs.YtkaojnmgflaldaaDoor
