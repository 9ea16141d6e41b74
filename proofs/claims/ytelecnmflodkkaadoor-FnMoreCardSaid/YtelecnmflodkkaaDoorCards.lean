/-
  DERIVED. GIVEN WITH THE SEED: THE CARDS: each row of YtelecnmflodkkaaDoorRows.lean that lists a variable, with what it lists TIED to the program's text (the seventh form; the later family's looks); each row that meets fmt, with fmt's text TOLD by the authors' own Lean function (tested against real Go, not proved from fmt's source: count such statements apart). THE CARD IS WHAT COUNTS. Prove the row's statement (the work); the ties are given (YtelecnmflodkkaaDoorTie.lean); close each card by the builder's one call (the guide's Derived/Test/ToyasCard.lean, 'card_holds'). Laid BY PROGRAM, IN A SANDBOX (cutbox-door.mjs). By AI agents, Wed Nov 11 2026. No macro, syntax, notation, axiom, sorry.
-/
import Derived.Test.YtelecnmflodkkaaDoorRows
import GoSem.ClaimSeven
namespace Go.Proofs.YtelecnmflodkkaaDoor
namespace Rows

/-- THE TIED CARD OF 'laws.FnExactRingNew'. -/
def fnExactRingNewCard : Claim7 := { stood := { row := fnExactRingNewRow, standIns := [], harness := (true, "04c657a4273198521dd21b683870fc34c9a056806fe1bb8915cf020c2ff00ca4"), looks := false }, kinds := [], alts := [], laidByText := true, laidKinds := [.data, .data, .data], laidTests := true, laidLooks := .later }
def FnExactRingNewCardSaid : Prop := Claim7.holds Tryd.pinned (.plain (OpenSpec.ofChange fnExactRingNewSpec)) fnExactRingNewCard

/-- THE TIED CARD OF 'laws.FnMore'. -/
def fnMoreCard : Claim7 := { stood := { row := fnMoreRow, standIns := [], harness := (true, "04c657a4273198521dd21b683870fc34c9a056806fe1bb8915cf020c2ff00ca4"), looks := false }, kinds := [], alts := [], laidByText := true, laidKinds := [.data, .data, .data], laidTests := true, laidLooks := .later }
def FnMoreCardSaid : Prop := Claim7.holds Tryd.pinned (.plain (OpenSpec.ofChange fnMoreSpec)) fnMoreCard

/-- THE TIED CARD OF 'laws.FnExactNewcomers'. -/
def fnExactNewcomersCard : Claim7 := { stood := { row := fnExactNewcomersRow, standIns := [], harness := (true, "04c657a4273198521dd21b683870fc34c9a056806fe1bb8915cf020c2ff00ca4"), looks := false }, kinds := [], alts := [], laidByText := true, laidKinds := [.data, .data, .data], laidTests := true, laidLooks := .later }
def FnExactNewcomersCardSaid : Prop := Claim7.holds Tryd.pinned (.plain (OpenSpec.ofChange fnExactNewcomersSpec)) fnExactNewcomersCard

/-- THE TIED CARD OF 'laws.FnExactStandIns'. -/
def fnExactStandInsCard : Claim7 := { stood := { row := fnExactStandInsRow, standIns := [], harness := (true, "04c657a4273198521dd21b683870fc34c9a056806fe1bb8915cf020c2ff00ca4"), looks := false }, kinds := [], alts := [], laidByText := true, laidKinds := [.data, .data, .data], laidTests := true, laidLooks := .later }
def FnExactStandInsCardSaid : Prop := Claim7.holds Tryd.pinned (.plain (OpenSpec.ofChange fnExactStandInsSpec)) fnExactStandInsCard

/-- THE TIED CARD OF 'laws.FnExactClusterNew'. -/
def fnExactClusterNewCard : Claim7 := { stood := { row := fnExactClusterNewRow, standIns := [], harness := (true, "04c657a4273198521dd21b683870fc34c9a056806fe1bb8915cf020c2ff00ca4"), looks := false }, kinds := [], alts := [], laidByText := true, laidKinds := [.data, .data, .data], laidTests := true, laidLooks := .later }
def FnExactClusterNewCardSaid : Prop := Claim7.holds Tryd.pinned (.plain (OpenSpec.ofChange fnExactClusterNewSpec)) fnExactClusterNewCard

/-- THE SECOND FORM's CARD OF 'laws.FnExactRingNew'. -/
def fnExactRingNewUptoCard : Claim7 := { stood := { row := fnExactRingNewUptoRow, standIns := [], harness := (true, "04c657a4273198521dd21b683870fc34c9a056806fe1bb8915cf020c2ff00ca4"), looks := false }, kinds := [], alts := [], laidByText := true, laidKinds := [.data, .data, .data], laidTests := true, laidLooks := .later }
def FnExactRingNewUptoCardSaid : Prop := Claim7.holds Tryd.pinned (.plain (OpenSpec.upto fnExactRingNewSpec)) fnExactRingNewUptoCard

/-- THE SECOND FORM's CARD OF 'laws.FnMore'. -/
def fnMoreUptoCard : Claim7 := { stood := { row := fnMoreUptoRow, standIns := [], harness := (true, "04c657a4273198521dd21b683870fc34c9a056806fe1bb8915cf020c2ff00ca4"), looks := false }, kinds := [], alts := [], laidByText := true, laidKinds := [.data, .data, .data], laidTests := true, laidLooks := .later }
def FnMoreUptoCardSaid : Prop := Claim7.holds Tryd.pinned (.plain (OpenSpec.upto fnMoreSpec)) fnMoreUptoCard

/-- THE SECOND FORM's CARD OF 'laws.FnExactNewcomers'. -/
def fnExactNewcomersUptoCard : Claim7 := { stood := { row := fnExactNewcomersUptoRow, standIns := [], harness := (true, "04c657a4273198521dd21b683870fc34c9a056806fe1bb8915cf020c2ff00ca4"), looks := false }, kinds := [], alts := [], laidByText := true, laidKinds := [.data, .data, .data], laidTests := true, laidLooks := .later }
def FnExactNewcomersUptoCardSaid : Prop := Claim7.holds Tryd.pinned (.plain (OpenSpec.upto fnExactNewcomersSpec)) fnExactNewcomersUptoCard

/-- THE SECOND FORM's CARD OF 'laws.FnExactStandIns'. -/
def fnExactStandInsUptoCard : Claim7 := { stood := { row := fnExactStandInsUptoRow, standIns := [], harness := (true, "04c657a4273198521dd21b683870fc34c9a056806fe1bb8915cf020c2ff00ca4"), looks := false }, kinds := [], alts := [], laidByText := true, laidKinds := [.data, .data, .data], laidTests := true, laidLooks := .later }
def FnExactStandInsUptoCardSaid : Prop := Claim7.holds Tryd.pinned (.plain (OpenSpec.upto fnExactStandInsSpec)) fnExactStandInsUptoCard

/-- THE SECOND FORM's CARD OF 'laws.FnExactClusterNew'. -/
def fnExactClusterNewUptoCard : Claim7 := { stood := { row := fnExactClusterNewUptoRow, standIns := [], harness := (true, "04c657a4273198521dd21b683870fc34c9a056806fe1bb8915cf020c2ff00ca4"), looks := false }, kinds := [], alts := [], laidByText := true, laidKinds := [.data, .data, .data], laidTests := true, laidLooks := .later }
def FnExactClusterNewUptoCardSaid : Prop := Claim7.holds Tryd.pinned (.plain (OpenSpec.upto fnExactClusterNewSpec)) fnExactClusterNewUptoCard
end Rows
end Go.Proofs.YtelecnmflodkkaaDoor
