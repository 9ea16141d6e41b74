/-
  No cell of these rows narrows 'for every input' (looked for: loops, veiled, ifaces, maps, wideKeys, modest, calm, conditions, laid).
  DERIVED. THE GIVEN ROWS OF THIS SEAT. 12 by the template 'for every input the law returns true; each argument reads behind the call as it read before'; 0 by the template 'total and deterministic' (their statements: YtdjhclgkkklajaaTotals.lean).
  GIVEN WITH THE SEED: the statements are not yours to turn. If you find one false, say at which input.
  Laid BY PROGRAM, IN A SANDBOX (cutbox-rows.mjs): the forced cells as the released guide's own fill.sh prints them over the translation 620a2995c498be31… (all of the seat's roots in one cut). By AI agents, Wed Nov 11 2026. No macro, syntax, notation, axiom, sorry.
-/
import Derived.Test.YtdjhclgkkklajaaChecked
import GoSem.Claim
import GoSem.ClaimJoined
import GoSem.ClaimMapViews
import Derived.JoinedTies
import Derived.KernelRfl
namespace Go.Proofs.Ytdjhclgkkklajaa
/- THE CELL 'sum', in the pinned program and in every row, IS THE sha256 OF THE DUMP (.gsa) THAT YtdjhclgkkklajaaProg.lean LOADS. Nothing in Lean hashes anything: it is a label: what it is worth is what the hold of that sum in a sandbox is worth. -/
noncomputable def Try.pinned : Pinned := { name := "ytdjhclgkkklajaa", sum := "620a2995c498be3114d81ee789c774cf3d3c48b267d6973f4df8b2b79c4e4b31", checked := Try.checked }
namespace Rows
def none {H : Type} : Left H := { results := [], args := [] }

/-- 'laws.FnNums': WHATEVER THE INPUT: true; the input reads as it did. -/
def fnNumsSpec : ChangeSpec := { name := "fnNums", fn := fun _ => fun
  | [d1, d2] => { results := [.lit (.bool true)], args := [d1, d2] }
  | _ => none }
def fnNumsRow : OpenClaim := { program := "ytdjhclgkkklajaa", sum := "620a2995c498be3114d81ee789c774cf3d3c48b267d6973f4df8b2b79c4e4b31", func := "loop.example/g00659/laws.FnNums", spec := "fnNums", unfollowed := true, recurses := true, apart := false }
def FnNumsSaid : Prop := fnNumsRow.holds Try.pinned (OpenSpec.ofChange fnNumsSpec)

/-- ITS FALSE NEIGHBOUR: 'it returns false'. Refute it at one input. -/
def fnNumsWrong : ChangeSpec := { name := "fnNums", fn := fun _ => fun
  | [d1, d2] => { results := [.lit (.bool false)], args := [d1, d2] }
  | _ => none }
def FnNumsWrongFalsely : Prop := fnNumsRow.holds Try.pinned (OpenSpec.ofChange fnNumsWrong)

/-- 'laws.FnExactSeenPut': WHATEVER THE INPUT: true; the input reads as it did. -/
def fnExactSeenPutSpec : ChangeSpec := { name := "fnExactSeenPut", fn := fun _ => fun
  | [d1, d2] => { results := [.lit (.bool true)], args := [d1, d2] }
  | _ => none }
def fnExactSeenPutRow : OpenClaim := { program := "ytdjhclgkkklajaa", sum := "620a2995c498be3114d81ee789c774cf3d3c48b267d6973f4df8b2b79c4e4b31", func := "loop.example/g00659/laws.FnExactSeenPut", spec := "fnExactSeenPut", apart := false }
def FnExactSeenPutSaid : Prop := fnExactSeenPutRow.holds Try.pinned (OpenSpec.ofChange fnExactSeenPutSpec)

/-- ITS FALSE NEIGHBOUR: 'it returns false'. Refute it at one input. -/
def fnExactSeenPutWrong : ChangeSpec := { name := "fnExactSeenPut", fn := fun _ => fun
  | [d1, d2] => { results := [.lit (.bool false)], args := [d1, d2] }
  | _ => none }
def FnExactSeenPutWrongFalsely : Prop := fnExactSeenPutRow.holds Try.pinned (OpenSpec.ofChange fnExactSeenPutWrong)

/-- 'laws.FnExactClientRight': WHATEVER THE INPUT: true; the input reads as it did. -/
def fnExactClientRightSpec : ChangeSpec := { name := "fnExactClientRight", fn := fun _ => fun
  | [d] => { results := [.lit (.bool true)], args := [d] }
  | _ => none }
def fnExactClientRightRow : OpenClaim := { program := "ytdjhclgkkklajaa", sum := "620a2995c498be3114d81ee789c774cf3d3c48b267d6973f4df8b2b79c4e4b31", func := "loop.example/g00659/laws.FnExactClientRight", spec := "fnExactClientRight", apart := false }
def FnExactClientRightSaid : Prop := fnExactClientRightRow.holds Try.pinned (OpenSpec.ofChange fnExactClientRightSpec)

/-- ITS FALSE NEIGHBOUR: 'it returns false'. Refute it at one input. -/
def fnExactClientRightWrong : ChangeSpec := { name := "fnExactClientRight", fn := fun _ => fun
  | [d] => { results := [.lit (.bool false)], args := [d] }
  | _ => none }
def FnExactClientRightWrongFalsely : Prop := fnExactClientRightRow.holds Try.pinned (OpenSpec.ofChange fnExactClientRightWrong)

/-- 'laws.FnExactActRight': WHATEVER THE INPUT: true; the input reads as it did. -/
def fnExactActRightSpec : ChangeSpec := { name := "fnExactActRight", fn := fun _ => fun
  | [d] => { results := [.lit (.bool true)], args := [d] }
  | _ => none }
def fnExactActRightRow : OpenClaim := { program := "ytdjhclgkkklajaa", sum := "620a2995c498be3114d81ee789c774cf3d3c48b267d6973f4df8b2b79c4e4b31", func := "loop.example/g00659/laws.FnExactActRight", spec := "fnExactActRight", inPlace := ["internal/bytealg.IndexByteString", "internal/bytealg.IndexString"], unfollowed := true, recurses := true, named := ["internal/bytealg.MaxLen"], apart := false }
def FnExactActRightSaid : Prop := fnExactActRightRow.holds Try.pinned (OpenSpec.ofChange fnExactActRightSpec)

/-- ITS FALSE NEIGHBOUR: 'it returns false'. Refute it at one input. -/
def fnExactActRightWrong : ChangeSpec := { name := "fnExactActRight", fn := fun _ => fun
  | [d] => { results := [.lit (.bool false)], args := [d] }
  | _ => none }
def FnExactActRightWrongFalsely : Prop := fnExactActRightRow.holds Try.pinned (OpenSpec.ofChange fnExactActRightWrong)

/-- 'laws.FnExactSetRight': WHATEVER THE INPUT: true; the input reads as it did. -/
def fnExactSetRightSpec : ChangeSpec := { name := "fnExactSetRight", fn := fun _ => fun
  | [d] => { results := [.lit (.bool true)], args := [d] }
  | _ => none }
def fnExactSetRightRow : OpenClaim := { program := "ytdjhclgkkklajaa", sum := "620a2995c498be3114d81ee789c774cf3d3c48b267d6973f4df8b2b79c4e4b31", func := "loop.example/g00659/laws.FnExactSetRight", spec := "fnExactSetRight", apart := false }
def FnExactSetRightSaid : Prop := fnExactSetRightRow.holds Try.pinned (OpenSpec.ofChange fnExactSetRightSpec)

/-- ITS FALSE NEIGHBOUR: 'it returns false'. Refute it at one input. -/
def fnExactSetRightWrong : ChangeSpec := { name := "fnExactSetRight", fn := fun _ => fun
  | [d] => { results := [.lit (.bool false)], args := [d] }
  | _ => none }
def FnExactSetRightWrongFalsely : Prop := fnExactSetRightRow.holds Try.pinned (OpenSpec.ofChange fnExactSetRightWrong)

/-- 'laws.FnExactStoreNew': WHATEVER THE INPUT: true; the input reads as it did. -/
def fnExactStoreNewSpec : ChangeSpec := { name := "fnExactStoreNew", fn := fun _ => fun
  | [d] => { results := [.lit (.bool true)], args := [d] }
  | _ => none }
def fnExactStoreNewRow : OpenClaim := { program := "ytdjhclgkkklajaa", sum := "620a2995c498be3114d81ee789c774cf3d3c48b267d6973f4df8b2b79c4e4b31", func := "loop.example/g00659/laws.FnExactStoreNew", spec := "fnExactStoreNew", apart := false }
def FnExactStoreNewSaid : Prop := fnExactStoreNewRow.holds Try.pinned (OpenSpec.ofChange fnExactStoreNewSpec)

/-- ITS FALSE NEIGHBOUR: 'it returns false'. Refute it at one input. -/
def fnExactStoreNewWrong : ChangeSpec := { name := "fnExactStoreNew", fn := fun _ => fun
  | [d] => { results := [.lit (.bool false)], args := [d] }
  | _ => none }
def FnExactStoreNewWrongFalsely : Prop := fnExactStoreNewRow.holds Try.pinned (OpenSpec.ofChange fnExactStoreNewWrong)

/-- 'laws.FnExactSetHas': WHATEVER THE INPUT: true; the input reads as it did. -/
def fnExactSetHasSpec : ChangeSpec := { name := "fnExactSetHas", fn := fun _ => fun
  | [d1, d2] => { results := [.lit (.bool true)], args := [d1, d2] }
  | _ => none }
def fnExactSetHasRow : OpenClaim := { program := "ytdjhclgkkklajaa", sum := "620a2995c498be3114d81ee789c774cf3d3c48b267d6973f4df8b2b79c4e4b31", func := "loop.example/g00659/laws.FnExactSetHas", spec := "fnExactSetHas", unfollowed := true, recurses := true, apart := false }
def FnExactSetHasSaid : Prop := fnExactSetHasRow.holds Try.pinned (OpenSpec.ofChange fnExactSetHasSpec)

/-- ITS FALSE NEIGHBOUR: 'it returns false'. Refute it at one input. -/
def fnExactSetHasWrong : ChangeSpec := { name := "fnExactSetHas", fn := fun _ => fun
  | [d1, d2] => { results := [.lit (.bool false)], args := [d1, d2] }
  | _ => none }
def FnExactSetHasWrongFalsely : Prop := fnExactSetHasRow.holds Try.pinned (OpenSpec.ofChange fnExactSetHasWrong)

/-- 'laws.FnExactSeenRead': WHATEVER THE INPUT: true; the input reads as it did. -/
def fnExactSeenReadSpec : ChangeSpec := { name := "fnExactSeenRead", fn := fun _ => fun
  | [d] => { results := [.lit (.bool true)], args := [d] }
  | _ => none }
def fnExactSeenReadRow : OpenClaim := { program := "ytdjhclgkkklajaa", sum := "620a2995c498be3114d81ee789c774cf3d3c48b267d6973f4df8b2b79c4e4b31", func := "loop.example/g00659/laws.FnExactSeenRead", spec := "fnExactSeenRead", unfollowed := true, recurses := true, apart := false }
def FnExactSeenReadSaid : Prop := fnExactSeenReadRow.holds Try.pinned (OpenSpec.ofChange fnExactSeenReadSpec)

/-- ITS FALSE NEIGHBOUR: 'it returns false'. Refute it at one input. -/
def fnExactSeenReadWrong : ChangeSpec := { name := "fnExactSeenRead", fn := fun _ => fun
  | [d] => { results := [.lit (.bool false)], args := [d] }
  | _ => none }
def FnExactSeenReadWrongFalsely : Prop := fnExactSeenReadRow.holds Try.pinned (OpenSpec.ofChange fnExactSeenReadWrong)

/-- 'laws.FnExactValues': WHATEVER THE INPUT: true; the input reads as it did. -/
def fnExactValuesSpec : ChangeSpec := { name := "fnExactValues", fn := fun _ => fun
  | [d] => { results := [.lit (.bool true)], args := [d] }
  | _ => none }
def fnExactValuesRow : OpenClaim := { program := "ytdjhclgkkklajaa", sum := "620a2995c498be3114d81ee789c774cf3d3c48b267d6973f4df8b2b79c4e4b31", func := "loop.example/g00659/laws.FnExactValues", spec := "fnExactValues", apart := false }
def FnExactValuesSaid : Prop := fnExactValuesRow.holds Try.pinned (OpenSpec.ofChange fnExactValuesSpec)

/-- ITS FALSE NEIGHBOUR: 'it returns false'. Refute it at one input. -/
def fnExactValuesWrong : ChangeSpec := { name := "fnExactValues", fn := fun _ => fun
  | [d] => { results := [.lit (.bool false)], args := [d] }
  | _ => none }
def FnExactValuesWrongFalsely : Prop := fnExactValuesRow.holds Try.pinned (OpenSpec.ofChange fnExactValuesWrong)

/-- 'laws.FnExactMsgRight': WHATEVER THE INPUT: true; the input reads as it did. -/
def fnExactMsgRightSpec : ChangeSpec := { name := "fnExactMsgRight", fn := fun _ => fun
  | [d] => { results := [.lit (.bool true)], args := [d] }
  | _ => none }
def fnExactMsgRightRow : OpenClaim := { program := "ytdjhclgkkklajaa", sum := "620a2995c498be3114d81ee789c774cf3d3c48b267d6973f4df8b2b79c4e4b31", func := "loop.example/g00659/laws.FnExactMsgRight", spec := "fnExactMsgRight", apart := false }
def FnExactMsgRightSaid : Prop := fnExactMsgRightRow.holds Try.pinned (OpenSpec.ofChange fnExactMsgRightSpec)

/-- ITS FALSE NEIGHBOUR: 'it returns false'. Refute it at one input. -/
def fnExactMsgRightWrong : ChangeSpec := { name := "fnExactMsgRight", fn := fun _ => fun
  | [d] => { results := [.lit (.bool false)], args := [d] }
  | _ => none }
def FnExactMsgRightWrongFalsely : Prop := fnExactMsgRightRow.holds Try.pinned (OpenSpec.ofChange fnExactMsgRightWrong)

/-- 'laws.FnExactClientSeen': WHATEVER THE INPUT: true; the input reads as it did. -/
def fnExactClientSeenSpec : ChangeSpec := { name := "fnExactClientSeen", fn := fun _ => fun
  | [d1, d2] => { results := [.lit (.bool true)], args := [d1, d2] }
  | _ => none }
def fnExactClientSeenRow : OpenClaim := { program := "ytdjhclgkkklajaa", sum := "620a2995c498be3114d81ee789c774cf3d3c48b267d6973f4df8b2b79c4e4b31", func := "loop.example/g00659/laws.FnExactClientSeen", spec := "fnExactClientSeen", unfollowed := true, recurses := true, apart := false }
def FnExactClientSeenSaid : Prop := fnExactClientSeenRow.holds Try.pinned (OpenSpec.ofChange fnExactClientSeenSpec)

/-- ITS FALSE NEIGHBOUR: 'it returns false'. Refute it at one input. -/
def fnExactClientSeenWrong : ChangeSpec := { name := "fnExactClientSeen", fn := fun _ => fun
  | [d1, d2] => { results := [.lit (.bool false)], args := [d1, d2] }
  | _ => none }
def FnExactClientSeenWrongFalsely : Prop := fnExactClientSeenRow.holds Try.pinned (OpenSpec.ofChange fnExactClientSeenWrong)

/-- 'laws.FnExactSetBytes': WHATEVER THE INPUT: true; the input reads as it did. -/
def fnExactSetBytesSpec : ChangeSpec := { name := "fnExactSetBytes", fn := fun _ => fun
  | [d] => { results := [.lit (.bool true)], args := [d] }
  | _ => none }
def fnExactSetBytesRow : OpenClaim := { program := "ytdjhclgkkklajaa", sum := "620a2995c498be3114d81ee789c774cf3d3c48b267d6973f4df8b2b79c4e4b31", func := "loop.example/g00659/laws.FnExactSetBytes", spec := "fnExactSetBytes", unfollowed := true, recurses := true, apart := false }
def FnExactSetBytesSaid : Prop := fnExactSetBytesRow.holds Try.pinned (OpenSpec.ofChange fnExactSetBytesSpec)

/-- ITS FALSE NEIGHBOUR: 'it returns false'. Refute it at one input. -/
def fnExactSetBytesWrong : ChangeSpec := { name := "fnExactSetBytes", fn := fun _ => fun
  | [d] => { results := [.lit (.bool false)], args := [d] }
  | _ => none }
def FnExactSetBytesWrongFalsely : Prop := fnExactSetBytesRow.holds Try.pinned (OpenSpec.ofChange fnExactSetBytesWrong)

/- THE SECOND FORM. 'bulk': how many values and letters a reading holds, each counted each time it is reached (what is shared counts as often as it is met; a slice's spare places count too). A statement '..UptoSaid' is the law's where the arguments, and the package variables that the reading takes, are together of bulk at most 1048576: NARROWER than '..Said'. Prove '..Said' where nothing that the law and all that it calls make is longer than what came in: it says more and counts as full. Else prove '..UptoSaid'. A law counts once. -/
mutual
def uptoBulk {H : Type} : DataW H → Nat
  | .lit (.string bytes) => bytes.length + 1
  | .lit _ => 1
  | .nil => 1
  | .ptr d => uptoBulk d + 1
  | .slice elems spare => uptoBulkAll elems + uptoBulkAll spare + 1
  | .agg parts => uptoBulkAll parts + 1
  | .iface _ d => uptoBulk d + 1
  | .map entries => uptoBulkEntries entries + 1
  | .held _ => 1
def uptoBulkAll {H : Type} : List (DataW H) → Nat
  | [] => 0
  | d :: r => uptoBulk d + uptoBulkAll r
def uptoBulkEntries {H : Type} : List (Lit × DataW H) → Nat
  | [] => 0
  | x :: r => uptoBulkEntry x + uptoBulkEntries r
def uptoBulkEntry {H : Type} : Lit × DataW H → Nat
  | (.string bytes, d) => bytes.length + uptoBulk d + 1
  | (_, d) => uptoBulk d + 1
 end
def uptoSmall : (H : Type) → List (DataW H) → Bool := fun _ ds => decide (uptoBulkAll ds ≤ 1048576)
def OpenSpec.upto (s : _root_.Go.ChangeSpec) : _root_.Go.OpenSpec := { _root_.Go.OpenSpec.ofChange s with cond := some uptoSmall }

/-- 'laws.FnNums', WHERE WHAT IT READS IS OF BULK AT MOST 1048576: true; the input reads as it did. -/
def fnNumsUptoRow : OpenClaim := { program := "ytdjhclgkkklajaa", sum := "620a2995c498be3114d81ee789c774cf3d3c48b267d6973f4df8b2b79c4e4b31", func := "loop.example/g00659/laws.FnNums", spec := "fnNums", unfollowed := true, recurses := true, apart := false, narrowed := true }
def FnNumsUptoSaid : Prop := fnNumsUptoRow.holds Try.pinned (OpenSpec.upto fnNumsSpec)

/-- 'laws.FnExactSeenPut', WHERE WHAT IT READS IS OF BULK AT MOST 1048576: true; the input reads as it did. -/
def fnExactSeenPutUptoRow : OpenClaim := { program := "ytdjhclgkkklajaa", sum := "620a2995c498be3114d81ee789c774cf3d3c48b267d6973f4df8b2b79c4e4b31", func := "loop.example/g00659/laws.FnExactSeenPut", spec := "fnExactSeenPut", apart := false, narrowed := true }
def FnExactSeenPutUptoSaid : Prop := fnExactSeenPutUptoRow.holds Try.pinned (OpenSpec.upto fnExactSeenPutSpec)

/-- 'laws.FnExactClientRight', WHERE WHAT IT READS IS OF BULK AT MOST 1048576: true; the input reads as it did. -/
def fnExactClientRightUptoRow : OpenClaim := { program := "ytdjhclgkkklajaa", sum := "620a2995c498be3114d81ee789c774cf3d3c48b267d6973f4df8b2b79c4e4b31", func := "loop.example/g00659/laws.FnExactClientRight", spec := "fnExactClientRight", apart := false, narrowed := true }
def FnExactClientRightUptoSaid : Prop := fnExactClientRightUptoRow.holds Try.pinned (OpenSpec.upto fnExactClientRightSpec)

/-- 'laws.FnExactActRight', WHERE WHAT IT READS IS OF BULK AT MOST 1048576: true; the input reads as it did. -/
def fnExactActRightUptoRow : OpenClaim := { program := "ytdjhclgkkklajaa", sum := "620a2995c498be3114d81ee789c774cf3d3c48b267d6973f4df8b2b79c4e4b31", func := "loop.example/g00659/laws.FnExactActRight", spec := "fnExactActRight", inPlace := ["internal/bytealg.IndexByteString", "internal/bytealg.IndexString"], unfollowed := true, recurses := true, named := ["internal/bytealg.MaxLen"], apart := false, narrowed := true }
def FnExactActRightUptoSaid : Prop := fnExactActRightUptoRow.holds Try.pinned (OpenSpec.upto fnExactActRightSpec)

/-- 'laws.FnExactSetRight', WHERE WHAT IT READS IS OF BULK AT MOST 1048576: true; the input reads as it did. -/
def fnExactSetRightUptoRow : OpenClaim := { program := "ytdjhclgkkklajaa", sum := "620a2995c498be3114d81ee789c774cf3d3c48b267d6973f4df8b2b79c4e4b31", func := "loop.example/g00659/laws.FnExactSetRight", spec := "fnExactSetRight", apart := false, narrowed := true }
def FnExactSetRightUptoSaid : Prop := fnExactSetRightUptoRow.holds Try.pinned (OpenSpec.upto fnExactSetRightSpec)

/-- 'laws.FnExactStoreNew', WHERE WHAT IT READS IS OF BULK AT MOST 1048576: true; the input reads as it did. -/
def fnExactStoreNewUptoRow : OpenClaim := { program := "ytdjhclgkkklajaa", sum := "620a2995c498be3114d81ee789c774cf3d3c48b267d6973f4df8b2b79c4e4b31", func := "loop.example/g00659/laws.FnExactStoreNew", spec := "fnExactStoreNew", apart := false, narrowed := true }
def FnExactStoreNewUptoSaid : Prop := fnExactStoreNewUptoRow.holds Try.pinned (OpenSpec.upto fnExactStoreNewSpec)

/-- 'laws.FnExactSetHas', WHERE WHAT IT READS IS OF BULK AT MOST 1048576: true; the input reads as it did. -/
def fnExactSetHasUptoRow : OpenClaim := { program := "ytdjhclgkkklajaa", sum := "620a2995c498be3114d81ee789c774cf3d3c48b267d6973f4df8b2b79c4e4b31", func := "loop.example/g00659/laws.FnExactSetHas", spec := "fnExactSetHas", unfollowed := true, recurses := true, apart := false, narrowed := true }
def FnExactSetHasUptoSaid : Prop := fnExactSetHasUptoRow.holds Try.pinned (OpenSpec.upto fnExactSetHasSpec)

/-- 'laws.FnExactSeenRead', WHERE WHAT IT READS IS OF BULK AT MOST 1048576: true; the input reads as it did. -/
def fnExactSeenReadUptoRow : OpenClaim := { program := "ytdjhclgkkklajaa", sum := "620a2995c498be3114d81ee789c774cf3d3c48b267d6973f4df8b2b79c4e4b31", func := "loop.example/g00659/laws.FnExactSeenRead", spec := "fnExactSeenRead", unfollowed := true, recurses := true, apart := false, narrowed := true }
def FnExactSeenReadUptoSaid : Prop := fnExactSeenReadUptoRow.holds Try.pinned (OpenSpec.upto fnExactSeenReadSpec)

/-- 'laws.FnExactValues', WHERE WHAT IT READS IS OF BULK AT MOST 1048576: true; the input reads as it did. -/
def fnExactValuesUptoRow : OpenClaim := { program := "ytdjhclgkkklajaa", sum := "620a2995c498be3114d81ee789c774cf3d3c48b267d6973f4df8b2b79c4e4b31", func := "loop.example/g00659/laws.FnExactValues", spec := "fnExactValues", apart := false, narrowed := true }
def FnExactValuesUptoSaid : Prop := fnExactValuesUptoRow.holds Try.pinned (OpenSpec.upto fnExactValuesSpec)

/-- 'laws.FnExactMsgRight', WHERE WHAT IT READS IS OF BULK AT MOST 1048576: true; the input reads as it did. -/
def fnExactMsgRightUptoRow : OpenClaim := { program := "ytdjhclgkkklajaa", sum := "620a2995c498be3114d81ee789c774cf3d3c48b267d6973f4df8b2b79c4e4b31", func := "loop.example/g00659/laws.FnExactMsgRight", spec := "fnExactMsgRight", apart := false, narrowed := true }
def FnExactMsgRightUptoSaid : Prop := fnExactMsgRightUptoRow.holds Try.pinned (OpenSpec.upto fnExactMsgRightSpec)

/-- 'laws.FnExactClientSeen', WHERE WHAT IT READS IS OF BULK AT MOST 1048576: true; the input reads as it did. -/
def fnExactClientSeenUptoRow : OpenClaim := { program := "ytdjhclgkkklajaa", sum := "620a2995c498be3114d81ee789c774cf3d3c48b267d6973f4df8b2b79c4e4b31", func := "loop.example/g00659/laws.FnExactClientSeen", spec := "fnExactClientSeen", unfollowed := true, recurses := true, apart := false, narrowed := true }
def FnExactClientSeenUptoSaid : Prop := fnExactClientSeenUptoRow.holds Try.pinned (OpenSpec.upto fnExactClientSeenSpec)

/-- 'laws.FnExactSetBytes', WHERE WHAT IT READS IS OF BULK AT MOST 1048576: true; the input reads as it did. -/
def fnExactSetBytesUptoRow : OpenClaim := { program := "ytdjhclgkkklajaa", sum := "620a2995c498be3114d81ee789c774cf3d3c48b267d6973f4df8b2b79c4e4b31", func := "loop.example/g00659/laws.FnExactSetBytes", spec := "fnExactSetBytes", unfollowed := true, recurses := true, apart := false, narrowed := true }
def FnExactSetBytesUptoSaid : Prop := fnExactSetBytesUptoRow.holds Try.pinned (OpenSpec.upto fnExactSetBytesSpec)

end Rows
end Go.Proofs.Ytdjhclgkkklajaa
