/-
  No cell of these rows narrows 'for every input' (looked for: loops, veiled, ifaces, maps, wideKeys, modest, calm, conditions, laid).
  DERIVED. THE GIVEN ROWS OF THIS SEAT. 4 by the template 'for every input the law returns true; each argument reads behind the call as it read before'; 0 by the template 'total and deterministic' (their statements: YtlglglbjckpnbaaTotals.lean).
  GIVEN WITH THE SEED: the statements are not yours to turn. If you find one false, say at which input.
  Laid BY PROGRAM, IN A SANDBOX (cutbox-rows.mjs): the forced cells as the released guide's own fill.sh prints them over the translation 4ce390a3adc9b06b… (all of the seat's roots in one cut). By AI agents, Wed Nov 11 2026. No macro, syntax, notation, axiom, sorry.
-/
import Derived.Test.YtlglglbjckpnbaaChecked
import GoSem.Claim
import GoSem.ClaimJoined
import GoSem.ClaimMapViews
import Derived.JoinedTies
import Derived.KernelRfl
namespace Go.Proofs.Ytlglglbjckpnbaa
/- THE CELL 'sum', in the pinned program and in every row, IS THE sha256 OF THE DUMP (.gsa) THAT YtlglglbjckpnbaaProg.lean LOADS. Nothing in Lean hashes anything: it is a label: what it is worth is what the hold of that sum in a sandbox is worth. -/
noncomputable def Try.pinned : Pinned := { name := "ytlglglbjckpnbaa", sum := "4ce390a3adc9b06be375006ed00231f282790b48972c2bd5d5b615a00edda630", checked := Try.checked }
namespace Rows
def none {H : Type} : Left H := { results := [], args := [] }

/-- 'laws.FnSync': WHATEVER THE INPUT: true; the input reads as it did. -/
def fnSyncSpec : ChangeSpec := { name := "fnSync", fn := fun _ => fun
  | [d1, d2] => { results := [.lit (.bool true)], args := [d1, d2] }
  | _ => none }
def fnSyncRow : OpenClaim := { program := "ytlglglbjckpnbaa", sum := "4ce390a3adc9b06be375006ed00231f282790b48972c2bd5d5b615a00edda630", func := "loop.example/g00659/laws.FnSync", spec := "fnSync", unfollowed := true, recurses := true, apart := false }
def FnSyncSaid : Prop := fnSyncRow.holds Try.pinned (OpenSpec.ofChange fnSyncSpec)

/-- ITS FALSE NEIGHBOUR: 'it returns false'. Refute it at one input. -/
def fnSyncWrong : ChangeSpec := { name := "fnSync", fn := fun _ => fun
  | [d1, d2] => { results := [.lit (.bool false)], args := [d1, d2] }
  | _ => none }
def FnSyncWrongFalsely : Prop := fnSyncRow.holds Try.pinned (OpenSpec.ofChange fnSyncWrong)

/-- 'laws.FnExactClientSeen': WHATEVER THE INPUT: true; the input reads as it did. -/
def fnExactClientSeenSpec : ChangeSpec := { name := "fnExactClientSeen", fn := fun _ => fun
  | [d1, d2] => { results := [.lit (.bool true)], args := [d1, d2] }
  | _ => none }
def fnExactClientSeenRow : OpenClaim := { program := "ytlglglbjckpnbaa", sum := "4ce390a3adc9b06be375006ed00231f282790b48972c2bd5d5b615a00edda630", func := "loop.example/g00659/laws.FnExactClientSeen", spec := "fnExactClientSeen", unfollowed := true, recurses := true, apart := false }
def FnExactClientSeenSaid : Prop := fnExactClientSeenRow.holds Try.pinned (OpenSpec.ofChange fnExactClientSeenSpec)

/-- ITS FALSE NEIGHBOUR: 'it returns false'. Refute it at one input. -/
def fnExactClientSeenWrong : ChangeSpec := { name := "fnExactClientSeen", fn := fun _ => fun
  | [d1, d2] => { results := [.lit (.bool false)], args := [d1, d2] }
  | _ => none }
def FnExactClientSeenWrongFalsely : Prop := fnExactClientSeenRow.holds Try.pinned (OpenSpec.ofChange fnExactClientSeenWrong)

/-- 'laws.FnExactMaximal': WHATEVER THE INPUT: true; the input reads as it did. -/
def fnExactMaximalSpec : ChangeSpec := { name := "fnExactMaximal", fn := fun _ => fun
  | [d1, d2, d3] => { results := [.lit (.bool true)], args := [d1, d2, d3] }
  | _ => none }
def fnExactMaximalRow : OpenClaim := { program := "ytlglglbjckpnbaa", sum := "4ce390a3adc9b06be375006ed00231f282790b48972c2bd5d5b615a00edda630", func := "loop.example/g00659/laws.FnExactMaximal", spec := "fnExactMaximal", unfollowed := true, recurses := true, apart := false }
def FnExactMaximalSaid : Prop := fnExactMaximalRow.holds Try.pinned (OpenSpec.ofChange fnExactMaximalSpec)

/-- ITS FALSE NEIGHBOUR: 'it returns false'. Refute it at one input. -/
def fnExactMaximalWrong : ChangeSpec := { name := "fnExactMaximal", fn := fun _ => fun
  | [d1, d2, d3] => { results := [.lit (.bool false)], args := [d1, d2, d3] }
  | _ => none }
def FnExactMaximalWrongFalsely : Prop := fnExactMaximalRow.holds Try.pinned (OpenSpec.ofChange fnExactMaximalWrong)

/-- 'laws.FnExactClientMerge': WHATEVER THE INPUT: true; the input reads as it did. -/
def fnExactClientMergeSpec : ChangeSpec := { name := "fnExactClientMerge", fn := fun _ => fun
  | [d1, d2] => { results := [.lit (.bool true)], args := [d1, d2] }
  | _ => none }
def fnExactClientMergeRow : OpenClaim := { program := "ytlglglbjckpnbaa", sum := "4ce390a3adc9b06be375006ed00231f282790b48972c2bd5d5b615a00edda630", func := "loop.example/g00659/laws.FnExactClientMerge", spec := "fnExactClientMerge", inPlace := ["slices.overlaps[loop.example/g00659/impl.Kept]"], unfollowed := true, recurses := true, apart := false }
def FnExactClientMergeSaid : Prop := fnExactClientMergeRow.holds Try.pinned (OpenSpec.ofChange fnExactClientMergeSpec)

/-- ITS FALSE NEIGHBOUR: 'it returns false'. Refute it at one input. -/
def fnExactClientMergeWrong : ChangeSpec := { name := "fnExactClientMerge", fn := fun _ => fun
  | [d1, d2] => { results := [.lit (.bool false)], args := [d1, d2] }
  | _ => none }
def FnExactClientMergeWrongFalsely : Prop := fnExactClientMergeRow.holds Try.pinned (OpenSpec.ofChange fnExactClientMergeWrong)

/- THE SECOND FORM. 'bulk': how many values and letters a reading holds, each counted each time it is reached (what is shared counts as often as it is met; a slice's spare places count too). A statement '..UptoSaid' is the law's where the arguments, and the package variables that the reading takes, are together of bulk at most 1048576: NARROWER than '..Said'. Prove '..Said' where nothing that the law and all that it calls make is longer than what came in: it says more and counts as full. Else prove '..UptoSaid'. A law counts once. -/
mutual
def uptoBulk {H : Type} : DataW H → Nat
  | .lit (.string bytes) => bytes.length + 1
  | .lit _ => 1
  | .nil => 1
  | .ptr d => uptoBulk d + 1
  | .slice elems spare => uptoBulkAll elems + uptoBulkAll spare + 1
  | .agg parts => uptoBulkAll parts + 1
  | .iface _ d => uptoBulk d + 1
  | .map entries => uptoBulkEntries entries + 1
  | .held _ => 1
def uptoBulkAll {H : Type} : List (DataW H) → Nat
  | [] => 0
  | d :: r => uptoBulk d + uptoBulkAll r
def uptoBulkEntries {H : Type} : List (Lit × DataW H) → Nat
  | [] => 0
  | x :: r => uptoBulkEntry x + uptoBulkEntries r
def uptoBulkEntry {H : Type} : Lit × DataW H → Nat
  | (.string bytes, d) => bytes.length + uptoBulk d + 1
  | (_, d) => uptoBulk d + 1
 end
def uptoSmall : (H : Type) → List (DataW H) → Bool := fun _ ds => decide (uptoBulkAll ds ≤ 1048576)
def OpenSpec.upto (s : _root_.Go.ChangeSpec) : _root_.Go.OpenSpec := { _root_.Go.OpenSpec.ofChange s with cond := some uptoSmall }

/-- 'laws.FnSync', WHERE WHAT IT READS IS OF BULK AT MOST 1048576: true; the input reads as it did. -/
def fnSyncUptoRow : OpenClaim := { program := "ytlglglbjckpnbaa", sum := "4ce390a3adc9b06be375006ed00231f282790b48972c2bd5d5b615a00edda630", func := "loop.example/g00659/laws.FnSync", spec := "fnSync", unfollowed := true, recurses := true, apart := false, narrowed := true }
def FnSyncUptoSaid : Prop := fnSyncUptoRow.holds Try.pinned (OpenSpec.upto fnSyncSpec)

/-- 'laws.FnExactClientSeen', WHERE WHAT IT READS IS OF BULK AT MOST 1048576: true; the input reads as it did. -/
def fnExactClientSeenUptoRow : OpenClaim := { program := "ytlglglbjckpnbaa", sum := "4ce390a3adc9b06be375006ed00231f282790b48972c2bd5d5b615a00edda630", func := "loop.example/g00659/laws.FnExactClientSeen", spec := "fnExactClientSeen", unfollowed := true, recurses := true, apart := false, narrowed := true }
def FnExactClientSeenUptoSaid : Prop := fnExactClientSeenUptoRow.holds Try.pinned (OpenSpec.upto fnExactClientSeenSpec)

/-- 'laws.FnExactMaximal', WHERE WHAT IT READS IS OF BULK AT MOST 1048576: true; the input reads as it did. -/
def fnExactMaximalUptoRow : OpenClaim := { program := "ytlglglbjckpnbaa", sum := "4ce390a3adc9b06be375006ed00231f282790b48972c2bd5d5b615a00edda630", func := "loop.example/g00659/laws.FnExactMaximal", spec := "fnExactMaximal", unfollowed := true, recurses := true, apart := false, narrowed := true }
def FnExactMaximalUptoSaid : Prop := fnExactMaximalUptoRow.holds Try.pinned (OpenSpec.upto fnExactMaximalSpec)

/-- 'laws.FnExactClientMerge', WHERE WHAT IT READS IS OF BULK AT MOST 1048576: true; the input reads as it did. -/
def fnExactClientMergeUptoRow : OpenClaim := { program := "ytlglglbjckpnbaa", sum := "4ce390a3adc9b06be375006ed00231f282790b48972c2bd5d5b615a00edda630", func := "loop.example/g00659/laws.FnExactClientMerge", spec := "fnExactClientMerge", inPlace := ["slices.overlaps[loop.example/g00659/impl.Kept]"], unfollowed := true, recurses := true, apart := false, narrowed := true }
def FnExactClientMergeUptoSaid : Prop := fnExactClientMergeUptoRow.holds Try.pinned (OpenSpec.upto fnExactClientMergeSpec)

end Rows
end Go.Proofs.Ytlglglbjckpnbaa
