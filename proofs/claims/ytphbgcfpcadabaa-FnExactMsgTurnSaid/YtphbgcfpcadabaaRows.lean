/-
  No cell of these rows narrows 'for every input' (looked for: loops, veiled, ifaces, maps, wideKeys, modest, calm, conditions, laid).
  DERIVED. THE GIVEN ROWS OF THIS SEAT. 4 by the template 'for every input the law returns true; each argument reads behind the call as it read before'; 0 by the template 'total and deterministic' (their statements: YtphbgcfpcadabaaTotals.lean).
  GIVEN WITH THE SEED: the statements are not yours to turn. If you find one false, say at which input.
  Laid BY PROGRAM, IN A SANDBOX (cutbox-rows.mjs): the forced cells as the released guide's own fill.sh prints them over the translation 8217ae79f4782237… (all of the seat's roots in one cut). By AI agents, Wed Nov 11 2026. No macro, syntax, notation, axiom, sorry.
-/
import Derived.Test.YtphbgcfpcadabaaChecked
import GoSem.Claim
import GoSem.ClaimJoined
import GoSem.ClaimMapViews
import Derived.JoinedTies
import Derived.KernelRfl
namespace Go.Proofs.Ytphbgcfpcadabaa
/- THE CELL 'sum', in the pinned program and in every row, IS THE sha256 OF THE DUMP (.gsa) THAT YtphbgcfpcadabaaProg.lean LOADS. Nothing in Lean hashes anything: it is a label: what it is worth is what the hold of that sum in a sandbox is worth. -/
noncomputable def Try.pinned : Pinned := { name := "ytphbgcfpcadabaa", sum := "8217ae79f478223753aff25b16b3735519ebc1c245c403bb46da3c48c70c865c", checked := Try.checked }
namespace Rows
def none {H : Type} : Left H := { results := [], args := [] }

/-- 'laws.FnExactActRight': WHATEVER THE INPUT: true; the input reads as it did. -/
def fnExactActRightSpec : ChangeSpec := { name := "fnExactActRight", fn := fun _ => fun
  | [d] => { results := [.lit (.bool true)], args := [d] }
  | _ => none }
def fnExactActRightRow : OpenClaim := { program := "ytphbgcfpcadabaa", sum := "8217ae79f478223753aff25b16b3735519ebc1c245c403bb46da3c48c70c865c", func := "loop.example/g00659/laws.FnExactActRight", spec := "fnExactActRight", inPlace := ["internal/bytealg.IndexByteString", "internal/bytealg.IndexString"], unfollowed := true, recurses := true, named := ["internal/bytealg.MaxLen"], apart := false }
def FnExactActRightSaid : Prop := fnExactActRightRow.holds Try.pinned (OpenSpec.ofChange fnExactActRightSpec)

/-- ITS FALSE NEIGHBOUR: 'it returns false'. Refute it at one input. -/
def fnExactActRightWrong : ChangeSpec := { name := "fnExactActRight", fn := fun _ => fun
  | [d] => { results := [.lit (.bool false)], args := [d] }
  | _ => none }
def FnExactActRightWrongFalsely : Prop := fnExactActRightRow.holds Try.pinned (OpenSpec.ofChange fnExactActRightWrong)

/-- 'laws.FnExactMsgTurn': WHATEVER THE INPUT: true; the input reads as it did. -/
def fnExactMsgTurnSpec : ChangeSpec := { name := "fnExactMsgTurn", fn := fun _ => fun
  | [d1, d2, d3] => { results := [.lit (.bool true)], args := [d1, d2, d3] }
  | _ => none }
def fnExactMsgTurnRow : OpenClaim := { program := "ytphbgcfpcadabaa", sum := "8217ae79f478223753aff25b16b3735519ebc1c245c403bb46da3c48c70c865c", func := "loop.example/g00659/laws.FnExactMsgTurn", spec := "fnExactMsgTurn", apart := false }
def FnExactMsgTurnSaid : Prop := fnExactMsgTurnRow.holds Try.pinned (OpenSpec.ofChange fnExactMsgTurnSpec)

/-- ITS FALSE NEIGHBOUR: 'it returns false'. Refute it at one input. -/
def fnExactMsgTurnWrong : ChangeSpec := { name := "fnExactMsgTurn", fn := fun _ => fun
  | [d1, d2, d3] => { results := [.lit (.bool false)], args := [d1, d2, d3] }
  | _ => none }
def FnExactMsgTurnWrongFalsely : Prop := fnExactMsgTurnRow.holds Try.pinned (OpenSpec.ofChange fnExactMsgTurnWrong)

/-- 'laws.FnExactSetSync': WHATEVER THE INPUT: true; the input reads as it did. -/
def fnExactSetSyncSpec : ChangeSpec := { name := "fnExactSetSync", fn := fun _ => fun
  | [d1, d2] => { results := [.lit (.bool true)], args := [d1, d2] }
  | _ => none }
def fnExactSetSyncRow : OpenClaim := { program := "ytphbgcfpcadabaa", sum := "8217ae79f478223753aff25b16b3735519ebc1c245c403bb46da3c48c70c865c", func := "loop.example/g00659/laws.FnExactSetSync", spec := "fnExactSetSync", unfollowed := true, recurses := true, apart := false }
def FnExactSetSyncSaid : Prop := fnExactSetSyncRow.holds Try.pinned (OpenSpec.ofChange fnExactSetSyncSpec)

/-- ITS FALSE NEIGHBOUR: 'it returns false'. Refute it at one input. -/
def fnExactSetSyncWrong : ChangeSpec := { name := "fnExactSetSync", fn := fun _ => fun
  | [d1, d2] => { results := [.lit (.bool false)], args := [d1, d2] }
  | _ => none }
def FnExactSetSyncWrongFalsely : Prop := fnExactSetSyncRow.holds Try.pinned (OpenSpec.ofChange fnExactSetSyncWrong)

/-- 'laws.FnExactSetPut': WHATEVER THE INPUT: true; the input reads as it did. -/
def fnExactSetPutSpec : ChangeSpec := { name := "fnExactSetPut", fn := fun _ => fun
  | [d1, d2, d3, d4, d5] => { results := [.lit (.bool true)], args := [d1, d2, d3, d4, d5] }
  | _ => none }
def fnExactSetPutRow : OpenClaim := { program := "ytphbgcfpcadabaa", sum := "8217ae79f478223753aff25b16b3735519ebc1c245c403bb46da3c48c70c865c", func := "loop.example/g00659/laws.FnExactSetPut", spec := "fnExactSetPut", unfollowed := true, recurses := true, apart := false }
def FnExactSetPutSaid : Prop := fnExactSetPutRow.holds Try.pinned (OpenSpec.ofChange fnExactSetPutSpec)

/-- ITS FALSE NEIGHBOUR: 'it returns false'. Refute it at one input. -/
def fnExactSetPutWrong : ChangeSpec := { name := "fnExactSetPut", fn := fun _ => fun
  | [d1, d2, d3, d4, d5] => { results := [.lit (.bool false)], args := [d1, d2, d3, d4, d5] }
  | _ => none }
def FnExactSetPutWrongFalsely : Prop := fnExactSetPutRow.holds Try.pinned (OpenSpec.ofChange fnExactSetPutWrong)

/- THE SECOND FORM. 'bulk': how many values and letters a reading holds, each counted each time it is reached (what is shared counts as often as it is met; a slice's spare places count too). A statement '..UptoSaid' is the law's where the arguments, and the package variables that the reading takes, are together of bulk at most 1048576: NARROWER than '..Said'. Prove '..Said' where nothing that the law and all that it calls make is longer than what came in: it says more and counts as full. Else prove '..UptoSaid'. A law counts once. -/
mutual
def uptoBulk {H : Type} : DataW H → Nat
  | .lit (.string bytes) => bytes.length + 1
  | .lit _ => 1
  | .nil => 1
  | .ptr d => uptoBulk d + 1
  | .slice elems spare => uptoBulkAll elems + uptoBulkAll spare + 1
  | .agg parts => uptoBulkAll parts + 1
  | .iface _ d => uptoBulk d + 1
  | .map entries => uptoBulkEntries entries + 1
  | .held _ => 1
def uptoBulkAll {H : Type} : List (DataW H) → Nat
  | [] => 0
  | d :: r => uptoBulk d + uptoBulkAll r
def uptoBulkEntries {H : Type} : List (Lit × DataW H) → Nat
  | [] => 0
  | x :: r => uptoBulkEntry x + uptoBulkEntries r
def uptoBulkEntry {H : Type} : Lit × DataW H → Nat
  | (.string bytes, d) => bytes.length + uptoBulk d + 1
  | (_, d) => uptoBulk d + 1
 end
def uptoSmall : (H : Type) → List (DataW H) → Bool := fun _ ds => decide (uptoBulkAll ds ≤ 1048576)
def OpenSpec.upto (s : _root_.Go.ChangeSpec) : _root_.Go.OpenSpec := { _root_.Go.OpenSpec.ofChange s with cond := some uptoSmall }

/-- 'laws.FnExactActRight', WHERE WHAT IT READS IS OF BULK AT MOST 1048576: true; the input reads as it did. -/
def fnExactActRightUptoRow : OpenClaim := { program := "ytphbgcfpcadabaa", sum := "8217ae79f478223753aff25b16b3735519ebc1c245c403bb46da3c48c70c865c", func := "loop.example/g00659/laws.FnExactActRight", spec := "fnExactActRight", inPlace := ["internal/bytealg.IndexByteString", "internal/bytealg.IndexString"], unfollowed := true, recurses := true, named := ["internal/bytealg.MaxLen"], apart := false, narrowed := true }
def FnExactActRightUptoSaid : Prop := fnExactActRightUptoRow.holds Try.pinned (OpenSpec.upto fnExactActRightSpec)

/-- 'laws.FnExactMsgTurn', WHERE WHAT IT READS IS OF BULK AT MOST 1048576: true; the input reads as it did. -/
def fnExactMsgTurnUptoRow : OpenClaim := { program := "ytphbgcfpcadabaa", sum := "8217ae79f478223753aff25b16b3735519ebc1c245c403bb46da3c48c70c865c", func := "loop.example/g00659/laws.FnExactMsgTurn", spec := "fnExactMsgTurn", apart := false, narrowed := true }
def FnExactMsgTurnUptoSaid : Prop := fnExactMsgTurnUptoRow.holds Try.pinned (OpenSpec.upto fnExactMsgTurnSpec)

/-- 'laws.FnExactSetSync', WHERE WHAT IT READS IS OF BULK AT MOST 1048576: true; the input reads as it did. -/
def fnExactSetSyncUptoRow : OpenClaim := { program := "ytphbgcfpcadabaa", sum := "8217ae79f478223753aff25b16b3735519ebc1c245c403bb46da3c48c70c865c", func := "loop.example/g00659/laws.FnExactSetSync", spec := "fnExactSetSync", unfollowed := true, recurses := true, apart := false, narrowed := true }
def FnExactSetSyncUptoSaid : Prop := fnExactSetSyncUptoRow.holds Try.pinned (OpenSpec.upto fnExactSetSyncSpec)

/-- 'laws.FnExactSetPut', WHERE WHAT IT READS IS OF BULK AT MOST 1048576: true; the input reads as it did. -/
def fnExactSetPutUptoRow : OpenClaim := { program := "ytphbgcfpcadabaa", sum := "8217ae79f478223753aff25b16b3735519ebc1c245c403bb46da3c48c70c865c", func := "loop.example/g00659/laws.FnExactSetPut", spec := "fnExactSetPut", unfollowed := true, recurses := true, apart := false, narrowed := true }
def FnExactSetPutUptoSaid : Prop := fnExactSetPutUptoRow.holds Try.pinned (OpenSpec.upto fnExactSetPutSpec)

end Rows
end Go.Proofs.Ytphbgcfpcadabaa
