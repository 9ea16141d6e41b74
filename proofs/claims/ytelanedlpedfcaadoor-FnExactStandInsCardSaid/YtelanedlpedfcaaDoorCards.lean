/-
  DERIVED. GIVEN WITH THE SEED: THE CARDS: each row of YtelanedlpedfcaaDoorRows.lean that lists a variable, with what it lists TIED to the program's text (the seventh form; the later family's looks); each row that meets fmt, with fmt's text TOLD by the authors' own Lean function (tested against real Go, not proved from fmt's source: count such statements apart). THE CARD IS WHAT COUNTS. Prove the row's statement (the work); the ties are given (YtelanedlpedfcaaDoorTie.lean); close each card by the builder's one call (the guide's Derived/Test/ToyasCard.lean, 'card_holds'). Laid BY PROGRAM, IN A SANDBOX (cutbox-door.mjs). By AI agents, Wed Nov 11 2026. No macro, syntax, notation, axiom, sorry.
-/
import Derived.Test.YtelanedlpedfcaaDoorRows
import GoSem.ClaimSeven
namespace Go.Proofs.YtelanedlpedfcaaDoor
namespace Rows

/-- THE TIED CARD OF 'laws.FnExactNewcomers'. -/
def fnExactNewcomersCard : Claim7 := { stood := { row := fnExactNewcomersRow, standIns := [], harness := (true, "a9abe269dae01b3a329e467ae548f08c51b159d510e2a1f1595eed80b4f39ae3"), looks := false }, kinds := [], alts := [], laidByText := true, laidKinds := [.data, .data, .data], laidTests := true, laidLooks := .later }
def FnExactNewcomersCardSaid : Prop := Claim7.holds Tryd.pinned (.plain (OpenSpec.ofChange fnExactNewcomersSpec)) fnExactNewcomersCard

/-- THE TIED CARD OF 'laws.FnExactStandIns'. -/
def fnExactStandInsCard : Claim7 := { stood := { row := fnExactStandInsRow, standIns := [], harness := (true, "a9abe269dae01b3a329e467ae548f08c51b159d510e2a1f1595eed80b4f39ae3"), looks := false }, kinds := [], alts := [], laidByText := true, laidKinds := [.data, .data, .data], laidTests := true, laidLooks := .later }
def FnExactStandInsCardSaid : Prop := Claim7.holds Tryd.pinned (.plain (OpenSpec.ofChange fnExactStandInsSpec)) fnExactStandInsCard

/-- THE SECOND FORM's CARD OF 'laws.FnExactNewcomers'. -/
def fnExactNewcomersUptoCard : Claim7 := { stood := { row := fnExactNewcomersUptoRow, standIns := [], harness := (true, "a9abe269dae01b3a329e467ae548f08c51b159d510e2a1f1595eed80b4f39ae3"), looks := false }, kinds := [], alts := [], laidByText := true, laidKinds := [.data, .data, .data], laidTests := true, laidLooks := .later }
def FnExactNewcomersUptoCardSaid : Prop := Claim7.holds Tryd.pinned (.plain (OpenSpec.upto fnExactNewcomersSpec)) fnExactNewcomersUptoCard

/-- THE SECOND FORM's CARD OF 'laws.FnExactStandIns'. -/
def fnExactStandInsUptoCard : Claim7 := { stood := { row := fnExactStandInsUptoRow, standIns := [], harness := (true, "a9abe269dae01b3a329e467ae548f08c51b159d510e2a1f1595eed80b4f39ae3"), looks := false }, kinds := [], alts := [], laidByText := true, laidKinds := [.data, .data, .data], laidTests := true, laidLooks := .later }
def FnExactStandInsUptoCardSaid : Prop := Claim7.holds Tryd.pinned (.plain (OpenSpec.upto fnExactStandInsSpec)) fnExactStandInsUptoCard
end Rows
end Go.Proofs.YtelanedlpedfcaaDoor
