/-
  No cell of these rows narrows 'for every input' (looked for: loops, veiled, ifaces, maps, wideKeys, modest, calm, conditions, laid).
  DERIVED. THE GIVEN ROWS OF THIS SEAT. 11 by the template 'for every input the law returns true; each argument reads behind the call as it read before'; 0 by the template 'total and deterministic' (their statements: YthebelmpachdbaaTotals.lean).
  GIVEN WITH THE SEED: the statements are not yours to turn. If you find one false, say at which input.
  Laid BY PROGRAM, IN A SANDBOX (cutbox-rows.mjs): the forced cells as the released guide's own fill.sh prints them over the translation f018991a583d133e… (all of the seat's roots in one cut). By AI agents, Wed Nov 11 2026. No macro, syntax, notation, axiom, sorry.
-/
import Derived.Test.YthebelmpachdbaaChecked
import GoSem.Claim
import GoSem.ClaimJoined
import GoSem.ClaimMapViews
import Derived.JoinedTies
import Derived.KernelRfl
namespace Go.Proofs.Ythebelmpachdbaa
/- THE CELL 'sum', in the pinned program and in every row, IS THE sha256 OF THE DUMP (.gsa) THAT YthebelmpachdbaaProg.lean LOADS. Nothing in Lean hashes anything: it is a label: what it is worth is what the hold of that sum in a sandbox is worth. -/
noncomputable def Try.pinned : Pinned := { name := "ythebelmpachdbaa", sum := "f018991a583d133e5df80d22627a8b100cd2a545dc05fe9a59b89cf047046b65", checked := Try.checked }
namespace Rows
def none {H : Type} : Left H := { results := [], args := [] }

/-- 'laws.FnSync': WHATEVER THE INPUT: true; the input reads as it did. -/
def fnSyncSpec : ChangeSpec := { name := "fnSync", fn := fun _ => fun
  | [d1, d2] => { results := [.lit (.bool true)], args := [d1, d2] }
  | _ => none }
def fnSyncRow : OpenClaim := { program := "ythebelmpachdbaa", sum := "f018991a583d133e5df80d22627a8b100cd2a545dc05fe9a59b89cf047046b65", func := "loop.example/g00659/laws.FnSync", spec := "fnSync", unfollowed := true, recurses := true, apart := false }
def FnSyncSaid : Prop := fnSyncRow.holds Try.pinned (OpenSpec.ofChange fnSyncSpec)

/-- ITS FALSE NEIGHBOUR: 'it returns false'. Refute it at one input. -/
def fnSyncWrong : ChangeSpec := { name := "fnSync", fn := fun _ => fun
  | [d1, d2] => { results := [.lit (.bool false)], args := [d1, d2] }
  | _ => none }
def FnSyncWrongFalsely : Prop := fnSyncRow.holds Try.pinned (OpenSpec.ofChange fnSyncWrong)

/-- 'laws.FnExactLeafOf': WHATEVER THE INPUT: true; the input reads as it did. -/
def fnExactLeafOfSpec : ChangeSpec := { name := "fnExactLeafOf", fn := fun _ => fun
  | [d] => { results := [.lit (.bool true)], args := [d] }
  | _ => none }
def fnExactLeafOfRow : OpenClaim := { program := "ythebelmpachdbaa", sum := "f018991a583d133e5df80d22627a8b100cd2a545dc05fe9a59b89cf047046b65", func := "loop.example/g00659/laws.FnExactLeafOf", spec := "fnExactLeafOf", unfollowed := true, recurses := true, apart := false }
def FnExactLeafOfSaid : Prop := fnExactLeafOfRow.holds Try.pinned (OpenSpec.ofChange fnExactLeafOfSpec)

/-- ITS FALSE NEIGHBOUR: 'it returns false'. Refute it at one input. -/
def fnExactLeafOfWrong : ChangeSpec := { name := "fnExactLeafOf", fn := fun _ => fun
  | [d] => { results := [.lit (.bool false)], args := [d] }
  | _ => none }
def FnExactLeafOfWrongFalsely : Prop := fnExactLeafOfRow.holds Try.pinned (OpenSpec.ofChange fnExactLeafOfWrong)

/-- 'laws.FnExactTreeLooks': WHATEVER THE INPUT: true; the input reads as it did. -/
def fnExactTreeLooksSpec : ChangeSpec := { name := "fnExactTreeLooks", fn := fun _ => fun
  | [d1, d2] => { results := [.lit (.bool true)], args := [d1, d2] }
  | _ => none }
def fnExactTreeLooksRow : OpenClaim := { program := "ythebelmpachdbaa", sum := "f018991a583d133e5df80d22627a8b100cd2a545dc05fe9a59b89cf047046b65", func := "loop.example/g00659/laws.FnExactTreeLooks", spec := "fnExactTreeLooks", unfollowed := true, recurses := true, apart := false }
def FnExactTreeLooksSaid : Prop := fnExactTreeLooksRow.holds Try.pinned (OpenSpec.ofChange fnExactTreeLooksSpec)

/-- ITS FALSE NEIGHBOUR: 'it returns false'. Refute it at one input. -/
def fnExactTreeLooksWrong : ChangeSpec := { name := "fnExactTreeLooks", fn := fun _ => fun
  | [d1, d2] => { results := [.lit (.bool false)], args := [d1, d2] }
  | _ => none }
def FnExactTreeLooksWrongFalsely : Prop := fnExactTreeLooksRow.holds Try.pinned (OpenSpec.ofChange fnExactTreeLooksWrong)

/-- 'laws.FnExactGetNum': WHATEVER THE INPUT: true; the input reads as it did. -/
def fnExactGetNumSpec : ChangeSpec := { name := "fnExactGetNum", fn := fun _ => fun
  | [d1, d2] => { results := [.lit (.bool true)], args := [d1, d2] }
  | _ => none }
def fnExactGetNumRow : OpenClaim := { program := "ythebelmpachdbaa", sum := "f018991a583d133e5df80d22627a8b100cd2a545dc05fe9a59b89cf047046b65", func := "loop.example/g00659/laws.FnExactGetNum", spec := "fnExactGetNum", unfollowed := true, recurses := true, apart := false }
def FnExactGetNumSaid : Prop := fnExactGetNumRow.holds Try.pinned (OpenSpec.ofChange fnExactGetNumSpec)

/-- ITS FALSE NEIGHBOUR: 'it returns false'. Refute it at one input. -/
def fnExactGetNumWrong : ChangeSpec := { name := "fnExactGetNum", fn := fun _ => fun
  | [d1, d2] => { results := [.lit (.bool false)], args := [d1, d2] }
  | _ => none }
def FnExactGetNumWrongFalsely : Prop := fnExactGetNumRow.holds Try.pinned (OpenSpec.ofChange fnExactGetNumWrong)

/-- 'laws.FnExactSeenHas': WHATEVER THE INPUT: true; the input reads as it did. -/
def fnExactSeenHasSpec : ChangeSpec := { name := "fnExactSeenHas", fn := fun _ => fun
  | [d1, d2] => { results := [.lit (.bool true)], args := [d1, d2] }
  | _ => none }
def fnExactSeenHasRow : OpenClaim := { program := "ythebelmpachdbaa", sum := "f018991a583d133e5df80d22627a8b100cd2a545dc05fe9a59b89cf047046b65", func := "loop.example/g00659/laws.FnExactSeenHas", spec := "fnExactSeenHas", apart := false }
def FnExactSeenHasSaid : Prop := fnExactSeenHasRow.holds Try.pinned (OpenSpec.ofChange fnExactSeenHasSpec)

/-- ITS FALSE NEIGHBOUR: 'it returns false'. Refute it at one input. -/
def fnExactSeenHasWrong : ChangeSpec := { name := "fnExactSeenHas", fn := fun _ => fun
  | [d1, d2] => { results := [.lit (.bool false)], args := [d1, d2] }
  | _ => none }
def FnExactSeenHasWrongFalsely : Prop := fnExactSeenHasRow.holds Try.pinned (OpenSpec.ofChange fnExactSeenHasWrong)

/-- 'laws.FnExactSeenOf': WHATEVER THE INPUT: true; the input reads as it did. -/
def fnExactSeenOfSpec : ChangeSpec := { name := "fnExactSeenOf", fn := fun _ => fun
  | [d1, d2] => { results := [.lit (.bool true)], args := [d1, d2] }
  | _ => none }
def fnExactSeenOfRow : OpenClaim := { program := "ythebelmpachdbaa", sum := "f018991a583d133e5df80d22627a8b100cd2a545dc05fe9a59b89cf047046b65", func := "loop.example/g00659/laws.FnExactSeenOf", spec := "fnExactSeenOf", apart := false }
def FnExactSeenOfSaid : Prop := fnExactSeenOfRow.holds Try.pinned (OpenSpec.ofChange fnExactSeenOfSpec)

/-- ITS FALSE NEIGHBOUR: 'it returns false'. Refute it at one input. -/
def fnExactSeenOfWrong : ChangeSpec := { name := "fnExactSeenOf", fn := fun _ => fun
  | [d1, d2] => { results := [.lit (.bool false)], args := [d1, d2] }
  | _ => none }
def FnExactSeenOfWrongFalsely : Prop := fnExactSeenOfRow.holds Try.pinned (OpenSpec.ofChange fnExactSeenOfWrong)

/-- 'laws.FnExactTreeDiff': WHATEVER THE INPUT: true; the input reads as it did. -/
def fnExactTreeDiffSpec : ChangeSpec := { name := "fnExactTreeDiff", fn := fun _ => fun
  | [d1, d2] => { results := [.lit (.bool true)], args := [d1, d2] }
  | _ => none }
def fnExactTreeDiffRow : OpenClaim := { program := "ythebelmpachdbaa", sum := "f018991a583d133e5df80d22627a8b100cd2a545dc05fe9a59b89cf047046b65", func := "loop.example/g00659/laws.FnExactTreeDiff", spec := "fnExactTreeDiff", unfollowed := true, recurses := true, apart := false }
def FnExactTreeDiffSaid : Prop := fnExactTreeDiffRow.holds Try.pinned (OpenSpec.ofChange fnExactTreeDiffSpec)

/-- ITS FALSE NEIGHBOUR: 'it returns false'. Refute it at one input. -/
def fnExactTreeDiffWrong : ChangeSpec := { name := "fnExactTreeDiff", fn := fun _ => fun
  | [d1, d2] => { results := [.lit (.bool false)], args := [d1, d2] }
  | _ => none }
def FnExactTreeDiffWrongFalsely : Prop := fnExactTreeDiffRow.holds Try.pinned (OpenSpec.ofChange fnExactTreeDiffWrong)

/-- 'laws.FnExactSeenLess': WHATEVER THE INPUT: true; the input reads as it did. -/
def fnExactSeenLessSpec : ChangeSpec := { name := "fnExactSeenLess", fn := fun _ => fun
  | [d1, d2] => { results := [.lit (.bool true)], args := [d1, d2] }
  | _ => none }
def fnExactSeenLessRow : OpenClaim := { program := "ythebelmpachdbaa", sum := "f018991a583d133e5df80d22627a8b100cd2a545dc05fe9a59b89cf047046b65", func := "loop.example/g00659/laws.FnExactSeenLess", spec := "fnExactSeenLess", unfollowed := true, recurses := true, apart := false }
def FnExactSeenLessSaid : Prop := fnExactSeenLessRow.holds Try.pinned (OpenSpec.ofChange fnExactSeenLessSpec)

/-- ITS FALSE NEIGHBOUR: 'it returns false'. Refute it at one input. -/
def fnExactSeenLessWrong : ChangeSpec := { name := "fnExactSeenLess", fn := fun _ => fun
  | [d1, d2] => { results := [.lit (.bool false)], args := [d1, d2] }
  | _ => none }
def FnExactSeenLessWrongFalsely : Prop := fnExactSeenLessRow.holds Try.pinned (OpenSpec.ofChange fnExactSeenLessWrong)

/-- 'laws.FnExactGetText': WHATEVER THE INPUT: true; the input reads as it did. -/
def fnExactGetTextSpec : ChangeSpec := { name := "fnExactGetText", fn := fun _ => fun
  | [d1, d2] => { results := [.lit (.bool true)], args := [d1, d2] }
  | _ => none }
def fnExactGetTextRow : OpenClaim := { program := "ythebelmpachdbaa", sum := "f018991a583d133e5df80d22627a8b100cd2a545dc05fe9a59b89cf047046b65", func := "loop.example/g00659/laws.FnExactGetText", spec := "fnExactGetText", unfollowed := true, recurses := true, apart := false }
def FnExactGetTextSaid : Prop := fnExactGetTextRow.holds Try.pinned (OpenSpec.ofChange fnExactGetTextSpec)

/-- ITS FALSE NEIGHBOUR: 'it returns false'. Refute it at one input. -/
def fnExactGetTextWrong : ChangeSpec := { name := "fnExactGetText", fn := fun _ => fun
  | [d1, d2] => { results := [.lit (.bool false)], args := [d1, d2] }
  | _ => none }
def FnExactGetTextWrongFalsely : Prop := fnExactGetTextRow.holds Try.pinned (OpenSpec.ofChange fnExactGetTextWrong)

/-- 'laws.FnExactSeenBytes': WHATEVER THE INPUT: true; the input reads as it did. -/
def fnExactSeenBytesSpec : ChangeSpec := { name := "fnExactSeenBytes", fn := fun _ => fun
  | [d] => { results := [.lit (.bool true)], args := [d] }
  | _ => none }
def fnExactSeenBytesRow : OpenClaim := { program := "ythebelmpachdbaa", sum := "f018991a583d133e5df80d22627a8b100cd2a545dc05fe9a59b89cf047046b65", func := "loop.example/g00659/laws.FnExactSeenBytes", spec := "fnExactSeenBytes", apart := false }
def FnExactSeenBytesSaid : Prop := fnExactSeenBytesRow.holds Try.pinned (OpenSpec.ofChange fnExactSeenBytesSpec)

/-- ITS FALSE NEIGHBOUR: 'it returns false'. Refute it at one input. -/
def fnExactSeenBytesWrong : ChangeSpec := { name := "fnExactSeenBytes", fn := fun _ => fun
  | [d] => { results := [.lit (.bool false)], args := [d] }
  | _ => none }
def FnExactSeenBytesWrongFalsely : Prop := fnExactSeenBytesRow.holds Try.pinned (OpenSpec.ofChange fnExactSeenBytesWrong)

/-- 'laws.FnExactSeenJoin': WHATEVER THE INPUT: true; the input reads as it did. -/
def fnExactSeenJoinSpec : ChangeSpec := { name := "fnExactSeenJoin", fn := fun _ => fun
  | [d1, d2] => { results := [.lit (.bool true)], args := [d1, d2] }
  | _ => none }
def fnExactSeenJoinRow : OpenClaim := { program := "ythebelmpachdbaa", sum := "f018991a583d133e5df80d22627a8b100cd2a545dc05fe9a59b89cf047046b65", func := "loop.example/g00659/laws.FnExactSeenJoin", spec := "fnExactSeenJoin", apart := false }
def FnExactSeenJoinSaid : Prop := fnExactSeenJoinRow.holds Try.pinned (OpenSpec.ofChange fnExactSeenJoinSpec)

/-- ITS FALSE NEIGHBOUR: 'it returns false'. Refute it at one input. -/
def fnExactSeenJoinWrong : ChangeSpec := { name := "fnExactSeenJoin", fn := fun _ => fun
  | [d1, d2] => { results := [.lit (.bool false)], args := [d1, d2] }
  | _ => none }
def FnExactSeenJoinWrongFalsely : Prop := fnExactSeenJoinRow.holds Try.pinned (OpenSpec.ofChange fnExactSeenJoinWrong)

/- THE SECOND FORM. 'bulk': how many values and letters a reading holds, each counted each time it is reached (what is shared counts as often as it is met; a slice's spare places count too). A statement '..UptoSaid' is the law's where the arguments, and the package variables that the reading takes, are together of bulk at most 1048576: NARROWER than '..Said'. Prove '..Said' where nothing that the law and all that it calls make is longer than what came in: it says more and counts as full. Else prove '..UptoSaid'. A law counts once. -/
mutual
def uptoBulk {H : Type} : DataW H → Nat
  | .lit (.string bytes) => bytes.length + 1
  | .lit _ => 1
  | .nil => 1
  | .ptr d => uptoBulk d + 1
  | .slice elems spare => uptoBulkAll elems + uptoBulkAll spare + 1
  | .agg parts => uptoBulkAll parts + 1
  | .iface _ d => uptoBulk d + 1
  | .map entries => uptoBulkEntries entries + 1
  | .held _ => 1
def uptoBulkAll {H : Type} : List (DataW H) → Nat
  | [] => 0
  | d :: r => uptoBulk d + uptoBulkAll r
def uptoBulkEntries {H : Type} : List (Lit × DataW H) → Nat
  | [] => 0
  | x :: r => uptoBulkEntry x + uptoBulkEntries r
def uptoBulkEntry {H : Type} : Lit × DataW H → Nat
  | (.string bytes, d) => bytes.length + uptoBulk d + 1
  | (_, d) => uptoBulk d + 1
 end
def uptoSmall : (H : Type) → List (DataW H) → Bool := fun _ ds => decide (uptoBulkAll ds ≤ 1048576)
def OpenSpec.upto (s : _root_.Go.ChangeSpec) : _root_.Go.OpenSpec := { _root_.Go.OpenSpec.ofChange s with cond := some uptoSmall }

/-- 'laws.FnSync', WHERE WHAT IT READS IS OF BULK AT MOST 1048576: true; the input reads as it did. -/
def fnSyncUptoRow : OpenClaim := { program := "ythebelmpachdbaa", sum := "f018991a583d133e5df80d22627a8b100cd2a545dc05fe9a59b89cf047046b65", func := "loop.example/g00659/laws.FnSync", spec := "fnSync", unfollowed := true, recurses := true, apart := false, narrowed := true }
def FnSyncUptoSaid : Prop := fnSyncUptoRow.holds Try.pinned (OpenSpec.upto fnSyncSpec)

/-- 'laws.FnExactLeafOf', WHERE WHAT IT READS IS OF BULK AT MOST 1048576: true; the input reads as it did. -/
def fnExactLeafOfUptoRow : OpenClaim := { program := "ythebelmpachdbaa", sum := "f018991a583d133e5df80d22627a8b100cd2a545dc05fe9a59b89cf047046b65", func := "loop.example/g00659/laws.FnExactLeafOf", spec := "fnExactLeafOf", unfollowed := true, recurses := true, apart := false, narrowed := true }
def FnExactLeafOfUptoSaid : Prop := fnExactLeafOfUptoRow.holds Try.pinned (OpenSpec.upto fnExactLeafOfSpec)

/-- 'laws.FnExactTreeLooks', WHERE WHAT IT READS IS OF BULK AT MOST 1048576: true; the input reads as it did. -/
def fnExactTreeLooksUptoRow : OpenClaim := { program := "ythebelmpachdbaa", sum := "f018991a583d133e5df80d22627a8b100cd2a545dc05fe9a59b89cf047046b65", func := "loop.example/g00659/laws.FnExactTreeLooks", spec := "fnExactTreeLooks", unfollowed := true, recurses := true, apart := false, narrowed := true }
def FnExactTreeLooksUptoSaid : Prop := fnExactTreeLooksUptoRow.holds Try.pinned (OpenSpec.upto fnExactTreeLooksSpec)

/-- 'laws.FnExactGetNum', WHERE WHAT IT READS IS OF BULK AT MOST 1048576: true; the input reads as it did. -/
def fnExactGetNumUptoRow : OpenClaim := { program := "ythebelmpachdbaa", sum := "f018991a583d133e5df80d22627a8b100cd2a545dc05fe9a59b89cf047046b65", func := "loop.example/g00659/laws.FnExactGetNum", spec := "fnExactGetNum", unfollowed := true, recurses := true, apart := false, narrowed := true }
def FnExactGetNumUptoSaid : Prop := fnExactGetNumUptoRow.holds Try.pinned (OpenSpec.upto fnExactGetNumSpec)

/-- 'laws.FnExactSeenHas', WHERE WHAT IT READS IS OF BULK AT MOST 1048576: true; the input reads as it did. -/
def fnExactSeenHasUptoRow : OpenClaim := { program := "ythebelmpachdbaa", sum := "f018991a583d133e5df80d22627a8b100cd2a545dc05fe9a59b89cf047046b65", func := "loop.example/g00659/laws.FnExactSeenHas", spec := "fnExactSeenHas", apart := false, narrowed := true }
def FnExactSeenHasUptoSaid : Prop := fnExactSeenHasUptoRow.holds Try.pinned (OpenSpec.upto fnExactSeenHasSpec)

/-- 'laws.FnExactSeenOf', WHERE WHAT IT READS IS OF BULK AT MOST 1048576: true; the input reads as it did. -/
def fnExactSeenOfUptoRow : OpenClaim := { program := "ythebelmpachdbaa", sum := "f018991a583d133e5df80d22627a8b100cd2a545dc05fe9a59b89cf047046b65", func := "loop.example/g00659/laws.FnExactSeenOf", spec := "fnExactSeenOf", apart := false, narrowed := true }
def FnExactSeenOfUptoSaid : Prop := fnExactSeenOfUptoRow.holds Try.pinned (OpenSpec.upto fnExactSeenOfSpec)

/-- 'laws.FnExactTreeDiff', WHERE WHAT IT READS IS OF BULK AT MOST 1048576: true; the input reads as it did. -/
def fnExactTreeDiffUptoRow : OpenClaim := { program := "ythebelmpachdbaa", sum := "f018991a583d133e5df80d22627a8b100cd2a545dc05fe9a59b89cf047046b65", func := "loop.example/g00659/laws.FnExactTreeDiff", spec := "fnExactTreeDiff", unfollowed := true, recurses := true, apart := false, narrowed := true }
def FnExactTreeDiffUptoSaid : Prop := fnExactTreeDiffUptoRow.holds Try.pinned (OpenSpec.upto fnExactTreeDiffSpec)

/-- 'laws.FnExactSeenLess', WHERE WHAT IT READS IS OF BULK AT MOST 1048576: true; the input reads as it did. -/
def fnExactSeenLessUptoRow : OpenClaim := { program := "ythebelmpachdbaa", sum := "f018991a583d133e5df80d22627a8b100cd2a545dc05fe9a59b89cf047046b65", func := "loop.example/g00659/laws.FnExactSeenLess", spec := "fnExactSeenLess", unfollowed := true, recurses := true, apart := false, narrowed := true }
def FnExactSeenLessUptoSaid : Prop := fnExactSeenLessUptoRow.holds Try.pinned (OpenSpec.upto fnExactSeenLessSpec)

/-- 'laws.FnExactGetText', WHERE WHAT IT READS IS OF BULK AT MOST 1048576: true; the input reads as it did. -/
def fnExactGetTextUptoRow : OpenClaim := { program := "ythebelmpachdbaa", sum := "f018991a583d133e5df80d22627a8b100cd2a545dc05fe9a59b89cf047046b65", func := "loop.example/g00659/laws.FnExactGetText", spec := "fnExactGetText", unfollowed := true, recurses := true, apart := false, narrowed := true }
def FnExactGetTextUptoSaid : Prop := fnExactGetTextUptoRow.holds Try.pinned (OpenSpec.upto fnExactGetTextSpec)

/-- 'laws.FnExactSeenBytes', WHERE WHAT IT READS IS OF BULK AT MOST 1048576: true; the input reads as it did. -/
def fnExactSeenBytesUptoRow : OpenClaim := { program := "ythebelmpachdbaa", sum := "f018991a583d133e5df80d22627a8b100cd2a545dc05fe9a59b89cf047046b65", func := "loop.example/g00659/laws.FnExactSeenBytes", spec := "fnExactSeenBytes", apart := false, narrowed := true }
def FnExactSeenBytesUptoSaid : Prop := fnExactSeenBytesUptoRow.holds Try.pinned (OpenSpec.upto fnExactSeenBytesSpec)

/-- 'laws.FnExactSeenJoin', WHERE WHAT IT READS IS OF BULK AT MOST 1048576: true; the input reads as it did. -/
def fnExactSeenJoinUptoRow : OpenClaim := { program := "ythebelmpachdbaa", sum := "f018991a583d133e5df80d22627a8b100cd2a545dc05fe9a59b89cf047046b65", func := "loop.example/g00659/laws.FnExactSeenJoin", spec := "fnExactSeenJoin", apart := false, narrowed := true }
def FnExactSeenJoinUptoSaid : Prop := fnExactSeenJoinUptoRow.holds Try.pinned (OpenSpec.upto fnExactSeenJoinSpec)

end Rows
end Go.Proofs.Ythebelmpachdbaa
