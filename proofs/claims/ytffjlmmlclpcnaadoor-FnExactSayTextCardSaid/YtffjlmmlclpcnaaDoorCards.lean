/-
  DERIVED. GIVEN WITH THE SEED: THE CARDS: each row of YtffjlmmlclpcnaaDoorRows.lean that lists a variable, with what it lists TIED to the program's text (the seventh form; the later family's looks); each row that meets fmt, with fmt's text TOLD by the authors' own Lean function (tested against real Go, not proved from fmt's source: count such statements apart). THE CARD IS WHAT COUNTS. Prove the row's statement (the work); the ties are given (YtffjlmmlclpcnaaDoorTie.lean); close each card by the builder's one call (the guide's Derived/Test/ToyasCard.lean, 'card_holds'). Laid BY PROGRAM, IN A SANDBOX (cutbox-door.mjs). By AI agents, Wed Nov 11 2026. No macro, syntax, notation, axiom, sorry.
-/
import Derived.Test.YtffjlmmlclpcnaaDoorRows
import GoSem.ClaimSeven
namespace Go.Proofs.YtffjlmmlclpcnaaDoor
namespace Rows

/-- THE TIED CARD OF 'laws.FnExactActText'. -/
def fnExactActTextCard : Claim7 := { stood := { row := fnExactActTextRow, standIns := [], harness := (true, "5845a95d3e8eed014b4d3e9917a0a8492f1694fc26f86ed7c471d54a3939147d"), looks := false }, kinds := [], alts := [], laidByText := true, laidKinds := [.data, .data, .data], laidTests := true, laidLooks := .later }
def FnExactActTextCardSaid : Prop := Claim7.holds Tryd.pinned (.plain (OpenSpec.ofChange fnExactActTextSpec)) fnExactActTextCard

/-- THE TIED CARD OF 'laws.FnExactSayText'. -/
def fnExactSayTextCard : Claim7 := { stood := { row := fnExactSayTextRow, standIns := [], harness := (true, "5845a95d3e8eed014b4d3e9917a0a8492f1694fc26f86ed7c471d54a3939147d"), looks := false }, kinds := [], alts := [], laidByText := true, laidKinds := [.data, .data, .data], laidTests := true, laidLooks := .later }
def FnExactSayTextCardSaid : Prop := Claim7.holds Tryd.pinned (.plain (OpenSpec.ofChange fnExactSayTextSpec)) fnExactSayTextCard

/-- THE SECOND FORM's CARD OF 'laws.FnExactActText'. -/
def fnExactActTextUptoCard : Claim7 := { stood := { row := fnExactActTextUptoRow, standIns := [], harness := (true, "5845a95d3e8eed014b4d3e9917a0a8492f1694fc26f86ed7c471d54a3939147d"), looks := false }, kinds := [], alts := [], laidByText := true, laidKinds := [.data, .data, .data], laidTests := true, laidLooks := .later }
def FnExactActTextUptoCardSaid : Prop := Claim7.holds Tryd.pinned (.plain (OpenSpec.upto fnExactActTextSpec)) fnExactActTextUptoCard

/-- THE SECOND FORM's CARD OF 'laws.FnExactSayText'. -/
def fnExactSayTextUptoCard : Claim7 := { stood := { row := fnExactSayTextUptoRow, standIns := [], harness := (true, "5845a95d3e8eed014b4d3e9917a0a8492f1694fc26f86ed7c471d54a3939147d"), looks := false }, kinds := [], alts := [], laidByText := true, laidKinds := [.data, .data, .data], laidTests := true, laidLooks := .later }
def FnExactSayTextUptoCardSaid : Prop := Claim7.holds Tryd.pinned (.plain (OpenSpec.upto fnExactSayTextSpec)) fnExactSayTextUptoCard
end Rows
end Go.Proofs.YtffjlmmlclpcnaaDoor
