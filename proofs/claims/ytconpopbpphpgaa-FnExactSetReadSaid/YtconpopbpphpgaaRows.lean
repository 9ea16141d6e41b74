/-
  No cell of these rows narrows 'for every input' (looked for: loops, veiled, ifaces, maps, wideKeys, modest, calm, conditions, laid).
  DERIVED. THE GIVEN ROWS OF THIS SEAT. 7 by the template 'for every input the law returns true; each argument reads behind the call as it read before'; 0 by the template 'total and deterministic' (their statements: YtconpopbpphpgaaTotals.lean).
  GIVEN WITH THE SEED: the statements are not yours to turn. If you find one false, say at which input.
  Laid BY PROGRAM, IN A SANDBOX (cutbox-rows.mjs): the forced cells as the released guide's own fill.sh prints them over the translation 3573bfde8ef902ed… (all of the seat's roots in one cut). By AI agents, Wed Nov 11 2026. No macro, syntax, notation, axiom, sorry.
-/
import Derived.Test.YtconpopbpphpgaaChecked
import GoSem.Claim
import GoSem.ClaimJoined
import GoSem.ClaimMapViews
import Derived.JoinedTies
import Derived.KernelRfl
namespace Go.Proofs.Ytconpopbpphpgaa
/- THE CELL 'sum', in the pinned program and in every row, IS THE sha256 OF THE DUMP (.gsa) THAT YtconpopbpphpgaaProg.lean LOADS. Nothing in Lean hashes anything: it is a label: what it is worth is what the hold of that sum in a sandbox is worth. -/
noncomputable def Try.pinned : Pinned := { name := "ytconpopbpphpgaa", sum := "3573bfde8ef902edf7f85a9eef89bcaae11375ba77795288e4e0f3cd8bc2e4b3", checked := Try.checked }
namespace Rows
def none {H : Type} : Left H := { results := [], args := [] }

/-- 'laws.FnExactDeskWords': WHATEVER THE INPUT: true; the input reads as it did. -/
def fnExactDeskWordsSpec : ChangeSpec := { name := "fnExactDeskWords", fn := fun _ => fun
  | [] => { results := [.lit (.bool true)], args := [] }
  | _ => none }
def fnExactDeskWordsRow : OpenClaim := { program := "ytconpopbpphpgaa", sum := "3573bfde8ef902edf7f85a9eef89bcaae11375ba77795288e4e0f3cd8bc2e4b3", func := "loop.example/g00659/laws.FnExactDeskWords", spec := "fnExactDeskWords", unfollowed := true, recurses := true, apart := false }
def FnExactDeskWordsSaid : Prop := fnExactDeskWordsRow.holds Try.pinned (OpenSpec.ofChange fnExactDeskWordsSpec)

/-- ITS FALSE NEIGHBOUR: 'it returns false'. Refute it at one input. -/
def fnExactDeskWordsWrong : ChangeSpec := { name := "fnExactDeskWords", fn := fun _ => fun
  | [] => { results := [.lit (.bool false)], args := [] }
  | _ => none }
def FnExactDeskWordsWrongFalsely : Prop := fnExactDeskWordsRow.holds Try.pinned (OpenSpec.ofChange fnExactDeskWordsWrong)

/-- 'laws.FnSeen': WHATEVER THE INPUT: true; the input reads as it did. -/
def fnSeenSpec : ChangeSpec := { name := "fnSeen", fn := fun _ => fun
  | [d1, d2] => { results := [.lit (.bool true)], args := [d1, d2] }
  | _ => none }
def fnSeenRow : OpenClaim := { program := "ytconpopbpphpgaa", sum := "3573bfde8ef902edf7f85a9eef89bcaae11375ba77795288e4e0f3cd8bc2e4b3", func := "loop.example/g00659/laws.FnSeen", spec := "fnSeen", unfollowed := true, recurses := true, apart := false }
def FnSeenSaid : Prop := fnSeenRow.holds Try.pinned (OpenSpec.ofChange fnSeenSpec)

/-- ITS FALSE NEIGHBOUR: 'it returns false'. Refute it at one input. -/
def fnSeenWrong : ChangeSpec := { name := "fnSeen", fn := fun _ => fun
  | [d1, d2] => { results := [.lit (.bool false)], args := [d1, d2] }
  | _ => none }
def FnSeenWrongFalsely : Prop := fnSeenRow.holds Try.pinned (OpenSpec.ofChange fnSeenWrong)

/-- 'laws.FnExactMsgTurn': WHATEVER THE INPUT: true; the input reads as it did. -/
def fnExactMsgTurnSpec : ChangeSpec := { name := "fnExactMsgTurn", fn := fun _ => fun
  | [d1, d2, d3] => { results := [.lit (.bool true)], args := [d1, d2, d3] }
  | _ => none }
def fnExactMsgTurnRow : OpenClaim := { program := "ytconpopbpphpgaa", sum := "3573bfde8ef902edf7f85a9eef89bcaae11375ba77795288e4e0f3cd8bc2e4b3", func := "loop.example/g00659/laws.FnExactMsgTurn", spec := "fnExactMsgTurn", apart := false }
def FnExactMsgTurnSaid : Prop := fnExactMsgTurnRow.holds Try.pinned (OpenSpec.ofChange fnExactMsgTurnSpec)

/-- ITS FALSE NEIGHBOUR: 'it returns false'. Refute it at one input. -/
def fnExactMsgTurnWrong : ChangeSpec := { name := "fnExactMsgTurn", fn := fun _ => fun
  | [d1, d2, d3] => { results := [.lit (.bool false)], args := [d1, d2, d3] }
  | _ => none }
def FnExactMsgTurnWrongFalsely : Prop := fnExactMsgTurnRow.holds Try.pinned (OpenSpec.ofChange fnExactMsgTurnWrong)

/-- 'laws.FnExactMaximal': WHATEVER THE INPUT: true; the input reads as it did. -/
def fnExactMaximalSpec : ChangeSpec := { name := "fnExactMaximal", fn := fun _ => fun
  | [d1, d2, d3] => { results := [.lit (.bool true)], args := [d1, d2, d3] }
  | _ => none }
def fnExactMaximalRow : OpenClaim := { program := "ytconpopbpphpgaa", sum := "3573bfde8ef902edf7f85a9eef89bcaae11375ba77795288e4e0f3cd8bc2e4b3", func := "loop.example/g00659/laws.FnExactMaximal", spec := "fnExactMaximal", unfollowed := true, recurses := true, apart := false }
def FnExactMaximalSaid : Prop := fnExactMaximalRow.holds Try.pinned (OpenSpec.ofChange fnExactMaximalSpec)

/-- ITS FALSE NEIGHBOUR: 'it returns false'. Refute it at one input. -/
def fnExactMaximalWrong : ChangeSpec := { name := "fnExactMaximal", fn := fun _ => fun
  | [d1, d2, d3] => { results := [.lit (.bool false)], args := [d1, d2, d3] }
  | _ => none }
def FnExactMaximalWrongFalsely : Prop := fnExactMaximalRow.holds Try.pinned (OpenSpec.ofChange fnExactMaximalWrong)

/-- 'laws.FnExactSetRead': WHATEVER THE INPUT: true; the input reads as it did. -/
def fnExactSetReadSpec : ChangeSpec := { name := "fnExactSetRead", fn := fun _ => fun
  | [d] => { results := [.lit (.bool true)], args := [d] }
  | _ => none }
def fnExactSetReadRow : OpenClaim := { program := "ytconpopbpphpgaa", sum := "3573bfde8ef902edf7f85a9eef89bcaae11375ba77795288e4e0f3cd8bc2e4b3", func := "loop.example/g00659/laws.FnExactSetRead", spec := "fnExactSetRead", unfollowed := true, recurses := true, apart := false }
def FnExactSetReadSaid : Prop := fnExactSetReadRow.holds Try.pinned (OpenSpec.ofChange fnExactSetReadSpec)

/-- ITS FALSE NEIGHBOUR: 'it returns false'. Refute it at one input. -/
def fnExactSetReadWrong : ChangeSpec := { name := "fnExactSetRead", fn := fun _ => fun
  | [d] => { results := [.lit (.bool false)], args := [d] }
  | _ => none }
def FnExactSetReadWrongFalsely : Prop := fnExactSetReadRow.holds Try.pinned (OpenSpec.ofChange fnExactSetReadWrong)

/-- 'laws.FnExactClientMerge': WHATEVER THE INPUT: true; the input reads as it did. -/
def fnExactClientMergeSpec : ChangeSpec := { name := "fnExactClientMerge", fn := fun _ => fun
  | [d1, d2] => { results := [.lit (.bool true)], args := [d1, d2] }
  | _ => none }
def fnExactClientMergeRow : OpenClaim := { program := "ytconpopbpphpgaa", sum := "3573bfde8ef902edf7f85a9eef89bcaae11375ba77795288e4e0f3cd8bc2e4b3", func := "loop.example/g00659/laws.FnExactClientMerge", spec := "fnExactClientMerge", inPlace := ["slices.overlaps[loop.example/g00659/impl.Kept]"], unfollowed := true, recurses := true, apart := false }
def FnExactClientMergeSaid : Prop := fnExactClientMergeRow.holds Try.pinned (OpenSpec.ofChange fnExactClientMergeSpec)

/-- ITS FALSE NEIGHBOUR: 'it returns false'. Refute it at one input. -/
def fnExactClientMergeWrong : ChangeSpec := { name := "fnExactClientMerge", fn := fun _ => fun
  | [d1, d2] => { results := [.lit (.bool false)], args := [d1, d2] }
  | _ => none }
def FnExactClientMergeWrongFalsely : Prop := fnExactClientMergeRow.holds Try.pinned (OpenSpec.ofChange fnExactClientMergeWrong)

/-- 'laws.FnExactSetSync': WHATEVER THE INPUT: true; the input reads as it did. -/
def fnExactSetSyncSpec : ChangeSpec := { name := "fnExactSetSync", fn := fun _ => fun
  | [d1, d2] => { results := [.lit (.bool true)], args := [d1, d2] }
  | _ => none }
def fnExactSetSyncRow : OpenClaim := { program := "ytconpopbpphpgaa", sum := "3573bfde8ef902edf7f85a9eef89bcaae11375ba77795288e4e0f3cd8bc2e4b3", func := "loop.example/g00659/laws.FnExactSetSync", spec := "fnExactSetSync", unfollowed := true, recurses := true, apart := false }
def FnExactSetSyncSaid : Prop := fnExactSetSyncRow.holds Try.pinned (OpenSpec.ofChange fnExactSetSyncSpec)

/-- ITS FALSE NEIGHBOUR: 'it returns false'. Refute it at one input. -/
def fnExactSetSyncWrong : ChangeSpec := { name := "fnExactSetSync", fn := fun _ => fun
  | [d1, d2] => { results := [.lit (.bool false)], args := [d1, d2] }
  | _ => none }
def FnExactSetSyncWrongFalsely : Prop := fnExactSetSyncRow.holds Try.pinned (OpenSpec.ofChange fnExactSetSyncWrong)

/- THE SECOND FORM. 'bulk': how many values and letters a reading holds, each counted each time it is reached (what is shared counts as often as it is met; a slice's spare places count too). A statement '..UptoSaid' is the law's where the arguments, and the package variables that the reading takes, are together of bulk at most 1048576: NARROWER than '..Said'. Prove '..Said' where nothing that the law and all that it calls make is longer than what came in: it says more and counts as full. Else prove '..UptoSaid'. A law counts once. -/
mutual
def uptoBulk {H : Type} : DataW H → Nat
  | .lit (.string bytes) => bytes.length + 1
  | .lit _ => 1
  | .nil => 1
  | .ptr d => uptoBulk d + 1
  | .slice elems spare => uptoBulkAll elems + uptoBulkAll spare + 1
  | .agg parts => uptoBulkAll parts + 1
  | .iface _ d => uptoBulk d + 1
  | .map entries => uptoBulkEntries entries + 1
  | .held _ => 1
def uptoBulkAll {H : Type} : List (DataW H) → Nat
  | [] => 0
  | d :: r => uptoBulk d + uptoBulkAll r
def uptoBulkEntries {H : Type} : List (Lit × DataW H) → Nat
  | [] => 0
  | x :: r => uptoBulkEntry x + uptoBulkEntries r
def uptoBulkEntry {H : Type} : Lit × DataW H → Nat
  | (.string bytes, d) => bytes.length + uptoBulk d + 1
  | (_, d) => uptoBulk d + 1
 end
def uptoSmall : (H : Type) → List (DataW H) → Bool := fun _ ds => decide (uptoBulkAll ds ≤ 1048576)
def OpenSpec.upto (s : _root_.Go.ChangeSpec) : _root_.Go.OpenSpec := { _root_.Go.OpenSpec.ofChange s with cond := some uptoSmall }

/-- 'laws.FnExactDeskWords', WHERE WHAT IT READS IS OF BULK AT MOST 1048576: true; the input reads as it did. -/
def fnExactDeskWordsUptoRow : OpenClaim := { program := "ytconpopbpphpgaa", sum := "3573bfde8ef902edf7f85a9eef89bcaae11375ba77795288e4e0f3cd8bc2e4b3", func := "loop.example/g00659/laws.FnExactDeskWords", spec := "fnExactDeskWords", unfollowed := true, recurses := true, apart := false, narrowed := true }
def FnExactDeskWordsUptoSaid : Prop := fnExactDeskWordsUptoRow.holds Try.pinned (OpenSpec.upto fnExactDeskWordsSpec)

/-- 'laws.FnSeen', WHERE WHAT IT READS IS OF BULK AT MOST 1048576: true; the input reads as it did. -/
def fnSeenUptoRow : OpenClaim := { program := "ytconpopbpphpgaa", sum := "3573bfde8ef902edf7f85a9eef89bcaae11375ba77795288e4e0f3cd8bc2e4b3", func := "loop.example/g00659/laws.FnSeen", spec := "fnSeen", unfollowed := true, recurses := true, apart := false, narrowed := true }
def FnSeenUptoSaid : Prop := fnSeenUptoRow.holds Try.pinned (OpenSpec.upto fnSeenSpec)

/-- 'laws.FnExactMsgTurn', WHERE WHAT IT READS IS OF BULK AT MOST 1048576: true; the input reads as it did. -/
def fnExactMsgTurnUptoRow : OpenClaim := { program := "ytconpopbpphpgaa", sum := "3573bfde8ef902edf7f85a9eef89bcaae11375ba77795288e4e0f3cd8bc2e4b3", func := "loop.example/g00659/laws.FnExactMsgTurn", spec := "fnExactMsgTurn", apart := false, narrowed := true }
def FnExactMsgTurnUptoSaid : Prop := fnExactMsgTurnUptoRow.holds Try.pinned (OpenSpec.upto fnExactMsgTurnSpec)

/-- 'laws.FnExactMaximal', WHERE WHAT IT READS IS OF BULK AT MOST 1048576: true; the input reads as it did. -/
def fnExactMaximalUptoRow : OpenClaim := { program := "ytconpopbpphpgaa", sum := "3573bfde8ef902edf7f85a9eef89bcaae11375ba77795288e4e0f3cd8bc2e4b3", func := "loop.example/g00659/laws.FnExactMaximal", spec := "fnExactMaximal", unfollowed := true, recurses := true, apart := false, narrowed := true }
def FnExactMaximalUptoSaid : Prop := fnExactMaximalUptoRow.holds Try.pinned (OpenSpec.upto fnExactMaximalSpec)

/-- 'laws.FnExactSetRead', WHERE WHAT IT READS IS OF BULK AT MOST 1048576: true; the input reads as it did. -/
def fnExactSetReadUptoRow : OpenClaim := { program := "ytconpopbpphpgaa", sum := "3573bfde8ef902edf7f85a9eef89bcaae11375ba77795288e4e0f3cd8bc2e4b3", func := "loop.example/g00659/laws.FnExactSetRead", spec := "fnExactSetRead", unfollowed := true, recurses := true, apart := false, narrowed := true }
def FnExactSetReadUptoSaid : Prop := fnExactSetReadUptoRow.holds Try.pinned (OpenSpec.upto fnExactSetReadSpec)

/-- 'laws.FnExactClientMerge', WHERE WHAT IT READS IS OF BULK AT MOST 1048576: true; the input reads as it did. -/
def fnExactClientMergeUptoRow : OpenClaim := { program := "ytconpopbpphpgaa", sum := "3573bfde8ef902edf7f85a9eef89bcaae11375ba77795288e4e0f3cd8bc2e4b3", func := "loop.example/g00659/laws.FnExactClientMerge", spec := "fnExactClientMerge", inPlace := ["slices.overlaps[loop.example/g00659/impl.Kept]"], unfollowed := true, recurses := true, apart := false, narrowed := true }
def FnExactClientMergeUptoSaid : Prop := fnExactClientMergeUptoRow.holds Try.pinned (OpenSpec.upto fnExactClientMergeSpec)

/-- 'laws.FnExactSetSync', WHERE WHAT IT READS IS OF BULK AT MOST 1048576: true; the input reads as it did. -/
def fnExactSetSyncUptoRow : OpenClaim := { program := "ytconpopbpphpgaa", sum := "3573bfde8ef902edf7f85a9eef89bcaae11375ba77795288e4e0f3cd8bc2e4b3", func := "loop.example/g00659/laws.FnExactSetSync", spec := "fnExactSetSync", unfollowed := true, recurses := true, apart := false, narrowed := true }
def FnExactSetSyncUptoSaid : Prop := fnExactSetSyncUptoRow.holds Try.pinned (OpenSpec.upto fnExactSetSyncSpec)

end Rows
end Go.Proofs.Ytconpopbpphpgaa
