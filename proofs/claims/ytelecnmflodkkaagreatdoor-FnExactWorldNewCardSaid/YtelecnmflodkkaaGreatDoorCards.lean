/-
  DERIVED. GIVEN WITH THE SEED: THE CARDS: each row of YtelecnmflodkkaaGreatDoorRows.lean that lists a variable, with what it lists TIED to the program's text (the seventh form; the later family's looks); each row that meets fmt, with fmt's text TOLD by the authors' own Lean function (tested against real Go, not proved from fmt's source: count such statements apart). THE CARD IS WHAT COUNTS. Prove the row's statement (the work); the ties are given (YtelecnmflodkkaaGreatDoorTie.lean); close each card by the builder's one call (the guide's Derived/Test/ToyasCard.lean, 'card_holds'). Laid BY PROGRAM, IN A SANDBOX (cutbox-door.mjs). By AI agents, Wed Nov 11 2026. No macro, syntax, notation, axiom, sorry.
-/
import Derived.Test.YtelecnmflodkkaaGreatDoorRows
import GoSem.ClaimSeven
namespace Go.Proofs.YtelecnmflodkkaaGreatDoor
namespace Rows

/-- THE TIED CARD OF 'laws.FnRing'. -/
def fnRingCard : Claim7 := { stood := { row := fnRingRow, standIns := [], harness := (true, "c2ccd6f13fabb8619b34b06c14f235c999d1a9e931be1183d441577abaf287ce"), looks := false }, kinds := [], alts := [], laidByText := true, laidKinds := [.data, .data, .data], laidTests := true, laidLooks := .later }
def FnRingCardSaid : Prop := Claim7.holds Tryz.pinned (.plain (OpenSpec.ofChange fnRingSpec)) fnRingCard

/-- THE TIED CARD OF 'laws.FnExactWorldNew'. -/
def fnExactWorldNewCard : Claim7 := { stood := { row := fnExactWorldNewRow, standIns := [], harness := (true, "c2ccd6f13fabb8619b34b06c14f235c999d1a9e931be1183d441577abaf287ce"), looks := false }, kinds := [], alts := [], laidByText := true, laidKinds := [.data, .data, .data], laidTests := true, laidLooks := .later }
def FnExactWorldNewCardSaid : Prop := Claim7.holds Tryz.pinned (.plain (OpenSpec.ofChange fnExactWorldNewSpec)) fnExactWorldNewCard

/-- THE SECOND FORM's CARD OF 'laws.FnRing'. -/
def fnRingUptoCard : Claim7 := { stood := { row := fnRingUptoRow, standIns := [], harness := (true, "c2ccd6f13fabb8619b34b06c14f235c999d1a9e931be1183d441577abaf287ce"), looks := false }, kinds := [], alts := [], laidByText := true, laidKinds := [.data, .data, .data], laidTests := true, laidLooks := .later }
def FnRingUptoCardSaid : Prop := Claim7.holds Tryz.pinned (.plain (OpenSpec.upto fnRingSpec)) fnRingUptoCard

/-- THE SECOND FORM's CARD OF 'laws.FnExactWorldNew'. -/
def fnExactWorldNewUptoCard : Claim7 := { stood := { row := fnExactWorldNewUptoRow, standIns := [], harness := (true, "c2ccd6f13fabb8619b34b06c14f235c999d1a9e931be1183d441577abaf287ce"), looks := false }, kinds := [], alts := [], laidByText := true, laidKinds := [.data, .data, .data], laidTests := true, laidLooks := .later }
def FnExactWorldNewUptoCardSaid : Prop := Claim7.holds Tryz.pinned (.plain (OpenSpec.upto fnExactWorldNewSpec)) fnExactWorldNewUptoCard
end Rows
end Go.Proofs.YtelecnmflodkkaaGreatDoor
