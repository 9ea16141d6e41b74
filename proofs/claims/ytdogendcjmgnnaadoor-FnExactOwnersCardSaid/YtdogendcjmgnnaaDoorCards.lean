/-
  DERIVED. GIVEN WITH THE SEED: THE CARDS: each row of YtdogendcjmgnnaaDoorRows.lean that lists a variable, with what it lists TIED to the program's text (the seventh form; the later family's looks); each row that meets fmt, with fmt's text TOLD by the authors' own Lean function (tested against real Go, not proved from fmt's source: count such statements apart). THE CARD IS WHAT COUNTS. Prove the row's statement (the work); the ties are given (YtdogendcjmgnnaaDoorTie.lean); close each card by the builder's one call (the guide's Derived/Test/ToyasCard.lean, 'card_holds'). Laid BY PROGRAM, IN A SANDBOX (cutbox-door.mjs). By AI agents, Wed Nov 11 2026. No macro, syntax, notation, axiom, sorry.
-/
import Derived.Test.YtdogendcjmgnnaaDoorRows
import GoSem.ClaimSeven
namespace Go.Proofs.YtdogendcjmgnnaaDoor
namespace Rows

/-- THE TIED CARD OF 'laws.FnExactRingRight'. -/
def fnExactRingRightCard : Claim7 := { stood := { row := fnExactRingRightRow, standIns := [], harness := (true, "ec164a04fd4b5fbfa775392ccf34910d927062456d59d87074f881a1f57c5866"), looks := false }, kinds := [], alts := [], laidByText := true, laidKinds := [.data, .data, .data], laidTests := true, laidLooks := .later }
def FnExactRingRightCardSaid : Prop := Claim7.holds Tryd.pinned (.plain (OpenSpec.ofChange fnExactRingRightSpec)) fnExactRingRightCard

/-- THE TIED CARD OF 'laws.FnExactRingNew'. -/
def fnExactRingNewCard : Claim7 := { stood := { row := fnExactRingNewRow, standIns := [], harness := (true, "ec164a04fd4b5fbfa775392ccf34910d927062456d59d87074f881a1f57c5866"), looks := false }, kinds := [], alts := [], laidByText := true, laidKinds := [.data, .data, .data], laidTests := true, laidLooks := .later }
def FnExactRingNewCardSaid : Prop := Claim7.holds Tryd.pinned (.plain (OpenSpec.ofChange fnExactRingNewSpec)) fnExactRingNewCard

/-- THE TIED CARD OF 'laws.FnExactRingMore'. -/
def fnExactRingMoreCard : Claim7 := { stood := { row := fnExactRingMoreRow, standIns := [], harness := (true, "ec164a04fd4b5fbfa775392ccf34910d927062456d59d87074f881a1f57c5866"), looks := false }, kinds := [], alts := [], laidByText := true, laidKinds := [.data, .data, .data], laidTests := true, laidLooks := .later }
def FnExactRingMoreCardSaid : Prop := Claim7.holds Tryd.pinned (.plain (OpenSpec.ofChange fnExactRingMoreSpec)) fnExactRingMoreCard

/-- THE TIED CARD OF 'laws.FnExactOrder'. -/
def fnExactOrderCard : Claim7 := { stood := { row := fnExactOrderRow, standIns := [], harness := (true, "ec164a04fd4b5fbfa775392ccf34910d927062456d59d87074f881a1f57c5866"), looks := false }, kinds := [], alts := [], laidByText := true, laidKinds := [.data, .data, .data], laidTests := true, laidLooks := .later }
def FnExactOrderCardSaid : Prop := Claim7.holds Tryd.pinned (.plain (OpenSpec.ofChange fnExactOrderSpec)) fnExactOrderCard

/-- THE TIED CARD OF 'laws.FnExactOwners'. -/
def fnExactOwnersCard : Claim7 := { stood := { row := fnExactOwnersRow, standIns := [], harness := (true, "ec164a04fd4b5fbfa775392ccf34910d927062456d59d87074f881a1f57c5866"), looks := false }, kinds := [], alts := [], laidByText := true, laidKinds := [.data, .data, .data], laidTests := true, laidLooks := .later }
def FnExactOwnersCardSaid : Prop := Claim7.holds Tryd.pinned (.plain (OpenSpec.ofChange fnExactOwnersSpec)) fnExactOwnersCard

/-- THE TIED CARD OF 'laws.FnExactNewcomers'. -/
def fnExactNewcomersCard : Claim7 := { stood := { row := fnExactNewcomersRow, standIns := [], harness := (true, "ec164a04fd4b5fbfa775392ccf34910d927062456d59d87074f881a1f57c5866"), looks := false }, kinds := [], alts := [], laidByText := true, laidKinds := [.data, .data, .data], laidTests := true, laidLooks := .later }
def FnExactNewcomersCardSaid : Prop := Claim7.holds Tryd.pinned (.plain (OpenSpec.ofChange fnExactNewcomersSpec)) fnExactNewcomersCard

/-- THE TIED CARD OF 'laws.FnExactStandIns'. -/
def fnExactStandInsCard : Claim7 := { stood := { row := fnExactStandInsRow, standIns := [], harness := (true, "ec164a04fd4b5fbfa775392ccf34910d927062456d59d87074f881a1f57c5866"), looks := false }, kinds := [], alts := [], laidByText := true, laidKinds := [.data, .data, .data], laidTests := true, laidLooks := .later }
def FnExactStandInsCardSaid : Prop := Claim7.holds Tryd.pinned (.plain (OpenSpec.ofChange fnExactStandInsSpec)) fnExactStandInsCard

/-- THE SECOND FORM's CARD OF 'laws.FnExactRingRight'. -/
def fnExactRingRightUptoCard : Claim7 := { stood := { row := fnExactRingRightUptoRow, standIns := [], harness := (true, "ec164a04fd4b5fbfa775392ccf34910d927062456d59d87074f881a1f57c5866"), looks := false }, kinds := [], alts := [], laidByText := true, laidKinds := [.data, .data, .data], laidTests := true, laidLooks := .later }
def FnExactRingRightUptoCardSaid : Prop := Claim7.holds Tryd.pinned (.plain (OpenSpec.upto fnExactRingRightSpec)) fnExactRingRightUptoCard

/-- THE SECOND FORM's CARD OF 'laws.FnExactRingNew'. -/
def fnExactRingNewUptoCard : Claim7 := { stood := { row := fnExactRingNewUptoRow, standIns := [], harness := (true, "ec164a04fd4b5fbfa775392ccf34910d927062456d59d87074f881a1f57c5866"), looks := false }, kinds := [], alts := [], laidByText := true, laidKinds := [.data, .data, .data], laidTests := true, laidLooks := .later }
def FnExactRingNewUptoCardSaid : Prop := Claim7.holds Tryd.pinned (.plain (OpenSpec.upto fnExactRingNewSpec)) fnExactRingNewUptoCard

/-- THE SECOND FORM's CARD OF 'laws.FnExactRingMore'. -/
def fnExactRingMoreUptoCard : Claim7 := { stood := { row := fnExactRingMoreUptoRow, standIns := [], harness := (true, "ec164a04fd4b5fbfa775392ccf34910d927062456d59d87074f881a1f57c5866"), looks := false }, kinds := [], alts := [], laidByText := true, laidKinds := [.data, .data, .data], laidTests := true, laidLooks := .later }
def FnExactRingMoreUptoCardSaid : Prop := Claim7.holds Tryd.pinned (.plain (OpenSpec.upto fnExactRingMoreSpec)) fnExactRingMoreUptoCard

/-- THE SECOND FORM's CARD OF 'laws.FnExactOrder'. -/
def fnExactOrderUptoCard : Claim7 := { stood := { row := fnExactOrderUptoRow, standIns := [], harness := (true, "ec164a04fd4b5fbfa775392ccf34910d927062456d59d87074f881a1f57c5866"), looks := false }, kinds := [], alts := [], laidByText := true, laidKinds := [.data, .data, .data], laidTests := true, laidLooks := .later }
def FnExactOrderUptoCardSaid : Prop := Claim7.holds Tryd.pinned (.plain (OpenSpec.upto fnExactOrderSpec)) fnExactOrderUptoCard

/-- THE SECOND FORM's CARD OF 'laws.FnExactOwners'. -/
def fnExactOwnersUptoCard : Claim7 := { stood := { row := fnExactOwnersUptoRow, standIns := [], harness := (true, "ec164a04fd4b5fbfa775392ccf34910d927062456d59d87074f881a1f57c5866"), looks := false }, kinds := [], alts := [], laidByText := true, laidKinds := [.data, .data, .data], laidTests := true, laidLooks := .later }
def FnExactOwnersUptoCardSaid : Prop := Claim7.holds Tryd.pinned (.plain (OpenSpec.upto fnExactOwnersSpec)) fnExactOwnersUptoCard

/-- THE SECOND FORM's CARD OF 'laws.FnExactNewcomers'. -/
def fnExactNewcomersUptoCard : Claim7 := { stood := { row := fnExactNewcomersUptoRow, standIns := [], harness := (true, "ec164a04fd4b5fbfa775392ccf34910d927062456d59d87074f881a1f57c5866"), looks := false }, kinds := [], alts := [], laidByText := true, laidKinds := [.data, .data, .data], laidTests := true, laidLooks := .later }
def FnExactNewcomersUptoCardSaid : Prop := Claim7.holds Tryd.pinned (.plain (OpenSpec.upto fnExactNewcomersSpec)) fnExactNewcomersUptoCard

/-- THE SECOND FORM's CARD OF 'laws.FnExactStandIns'. -/
def fnExactStandInsUptoCard : Claim7 := { stood := { row := fnExactStandInsUptoRow, standIns := [], harness := (true, "ec164a04fd4b5fbfa775392ccf34910d927062456d59d87074f881a1f57c5866"), looks := false }, kinds := [], alts := [], laidByText := true, laidKinds := [.data, .data, .data], laidTests := true, laidLooks := .later }
def FnExactStandInsUptoCardSaid : Prop := Claim7.holds Tryd.pinned (.plain (OpenSpec.upto fnExactStandInsSpec)) fnExactStandInsUptoCard
end Rows
end Go.Proofs.YtdogendcjmgnnaaDoor
