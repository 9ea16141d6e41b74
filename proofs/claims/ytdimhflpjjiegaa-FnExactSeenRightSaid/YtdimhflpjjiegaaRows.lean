/-
  No cell of these rows narrows 'for every input' (looked for: loops, veiled, ifaces, maps, wideKeys, modest, calm, conditions, laid).
  DERIVED. THE GIVEN ROWS OF THIS SEAT. 6 by the template 'for every input the law returns true; each argument reads behind the call as it read before'; 0 by the template 'total and deterministic' (their statements: YtdimhflpjjiegaaTotals.lean).
  GIVEN WITH THE SEED: the statements are not yours to turn. If you find one false, say at which input.
  Laid BY PROGRAM, IN A SANDBOX (cutbox-rows.mjs): the forced cells as the released guide's own fill.sh prints them over the translation a81d242f19e108d6… (all of the seat's roots in one cut). By AI agents, Wed Nov 11 2026. No macro, syntax, notation, axiom, sorry.
-/
import Derived.Test.YtdimhflpjjiegaaChecked
import GoSem.Claim
import GoSem.ClaimJoined
import GoSem.ClaimMapViews
import Derived.JoinedTies
import Derived.KernelRfl
namespace Go.Proofs.Ytdimhflpjjiegaa
/- THE CELL 'sum', in the pinned program and in every row, IS THE sha256 OF THE DUMP (.gsa) THAT YtdimhflpjjiegaaProg.lean LOADS. Nothing in Lean hashes anything: it is a label: what it is worth is what the hold of that sum in a sandbox is worth. -/
noncomputable def Try.pinned : Pinned := { name := "ytdimhflpjjiegaa", sum := "a81d242f19e108d61e5391ee303742e71db69a028c265940e8d5e0f9950ad2e1", checked := Try.checked }
namespace Rows
def none {H : Type} : Left H := { results := [], args := [] }

/-- 'laws.FnExactConstants': WHATEVER THE INPUT: true; the input reads as it did. -/
def fnExactConstantsSpec : ChangeSpec := { name := "fnExactConstants", fn := fun _ => fun
  | [] => { results := [.lit (.bool true)], args := [] }
  | _ => none }
def fnExactConstantsRow : OpenClaim := { program := "ytdimhflpjjiegaa", sum := "a81d242f19e108d61e5391ee303742e71db69a028c265940e8d5e0f9950ad2e1", func := "loop.example/g00659/laws.FnExactConstants", spec := "fnExactConstants", apart := false }
def FnExactConstantsSaid : Prop := fnExactConstantsRow.holds Try.pinned (OpenSpec.ofChange fnExactConstantsSpec)

/-- ITS FALSE NEIGHBOUR: 'it returns false'. Refute it at one input. -/
def fnExactConstantsWrong : ChangeSpec := { name := "fnExactConstants", fn := fun _ => fun
  | [] => { results := [.lit (.bool false)], args := [] }
  | _ => none }
def FnExactConstantsWrongFalsely : Prop := fnExactConstantsRow.holds Try.pinned (OpenSpec.ofChange fnExactConstantsWrong)

/-- 'laws.FnExactPutNum': WHATEVER THE INPUT: true; the input reads as it did. -/
def fnExactPutNumSpec : ChangeSpec := { name := "fnExactPutNum", fn := fun _ => fun
  | [d] => { results := [.lit (.bool true)], args := [d] }
  | _ => none }
def fnExactPutNumRow : OpenClaim := { program := "ytdimhflpjjiegaa", sum := "a81d242f19e108d61e5391ee303742e71db69a028c265940e8d5e0f9950ad2e1", func := "loop.example/g00659/laws.FnExactPutNum", spec := "fnExactPutNum", apart := false }
def FnExactPutNumSaid : Prop := fnExactPutNumRow.holds Try.pinned (OpenSpec.ofChange fnExactPutNumSpec)

/-- ITS FALSE NEIGHBOUR: 'it returns false'. Refute it at one input. -/
def fnExactPutNumWrong : ChangeSpec := { name := "fnExactPutNum", fn := fun _ => fun
  | [d] => { results := [.lit (.bool false)], args := [d] }
  | _ => none }
def FnExactPutNumWrongFalsely : Prop := fnExactPutNumRow.holds Try.pinned (OpenSpec.ofChange fnExactPutNumWrong)

/-- 'laws.FnExactNameRight': WHATEVER THE INPUT: true; the input reads as it did. -/
def fnExactNameRightSpec : ChangeSpec := { name := "fnExactNameRight", fn := fun _ => fun
  | [d] => { results := [.lit (.bool true)], args := [d] }
  | _ => none }
def fnExactNameRightRow : OpenClaim := { program := "ytdimhflpjjiegaa", sum := "a81d242f19e108d61e5391ee303742e71db69a028c265940e8d5e0f9950ad2e1", func := "loop.example/g00659/laws.FnExactNameRight", spec := "fnExactNameRight", apart := false }
def FnExactNameRightSaid : Prop := fnExactNameRightRow.holds Try.pinned (OpenSpec.ofChange fnExactNameRightSpec)

/-- ITS FALSE NEIGHBOUR: 'it returns false'. Refute it at one input. -/
def fnExactNameRightWrong : ChangeSpec := { name := "fnExactNameRight", fn := fun _ => fun
  | [d] => { results := [.lit (.bool false)], args := [d] }
  | _ => none }
def FnExactNameRightWrongFalsely : Prop := fnExactNameRightRow.holds Try.pinned (OpenSpec.ofChange fnExactNameRightWrong)

/-- 'laws.FnExactFnv': WHATEVER THE INPUT: true; the input reads as it did. -/
def fnExactFnvSpec : ChangeSpec := { name := "fnExactFnv", fn := fun _ => fun
  | [d] => { results := [.lit (.bool true)], args := [d] }
  | _ => none }
def fnExactFnvRow : OpenClaim := { program := "ytdimhflpjjiegaa", sum := "a81d242f19e108d61e5391ee303742e71db69a028c265940e8d5e0f9950ad2e1", func := "loop.example/g00659/laws.FnExactFnv", spec := "fnExactFnv", unfollowed := true, recurses := true, apart := false }
def FnExactFnvSaid : Prop := fnExactFnvRow.holds Try.pinned (OpenSpec.ofChange fnExactFnvSpec)

/-- ITS FALSE NEIGHBOUR: 'it returns false'. Refute it at one input. -/
def fnExactFnvWrong : ChangeSpec := { name := "fnExactFnv", fn := fun _ => fun
  | [d] => { results := [.lit (.bool false)], args := [d] }
  | _ => none }
def FnExactFnvWrongFalsely : Prop := fnExactFnvRow.holds Try.pinned (OpenSpec.ofChange fnExactFnvWrong)

/-- 'laws.FnExactPutText': WHATEVER THE INPUT: true; the input reads as it did. -/
def fnExactPutTextSpec : ChangeSpec := { name := "fnExactPutText", fn := fun _ => fun
  | [d] => { results := [.lit (.bool true)], args := [d] }
  | _ => none }
def fnExactPutTextRow : OpenClaim := { program := "ytdimhflpjjiegaa", sum := "a81d242f19e108d61e5391ee303742e71db69a028c265940e8d5e0f9950ad2e1", func := "loop.example/g00659/laws.FnExactPutText", spec := "fnExactPutText", unfollowed := true, recurses := true, apart := false }
def FnExactPutTextSaid : Prop := fnExactPutTextRow.holds Try.pinned (OpenSpec.ofChange fnExactPutTextSpec)

/-- ITS FALSE NEIGHBOUR: 'it returns false'. Refute it at one input. -/
def fnExactPutTextWrong : ChangeSpec := { name := "fnExactPutText", fn := fun _ => fun
  | [d] => { results := [.lit (.bool false)], args := [d] }
  | _ => none }
def FnExactPutTextWrongFalsely : Prop := fnExactPutTextRow.holds Try.pinned (OpenSpec.ofChange fnExactPutTextWrong)

/-- 'laws.FnExactSeenRight': WHATEVER THE INPUT: true; the input reads as it did. -/
def fnExactSeenRightSpec : ChangeSpec := { name := "fnExactSeenRight", fn := fun _ => fun
  | [d] => { results := [.lit (.bool true)], args := [d] }
  | _ => none }
def fnExactSeenRightRow : OpenClaim := { program := "ytdimhflpjjiegaa", sum := "a81d242f19e108d61e5391ee303742e71db69a028c265940e8d5e0f9950ad2e1", func := "loop.example/g00659/laws.FnExactSeenRight", spec := "fnExactSeenRight", apart := false }
def FnExactSeenRightSaid : Prop := fnExactSeenRightRow.holds Try.pinned (OpenSpec.ofChange fnExactSeenRightSpec)

/-- ITS FALSE NEIGHBOUR: 'it returns false'. Refute it at one input. -/
def fnExactSeenRightWrong : ChangeSpec := { name := "fnExactSeenRight", fn := fun _ => fun
  | [d] => { results := [.lit (.bool false)], args := [d] }
  | _ => none }
def FnExactSeenRightWrongFalsely : Prop := fnExactSeenRightRow.holds Try.pinned (OpenSpec.ofChange fnExactSeenRightWrong)

/- THE SECOND FORM. 'bulk': how many values and letters a reading holds, each counted each time it is reached (what is shared counts as often as it is met; a slice's spare places count too). A statement '..UptoSaid' is the law's where the arguments, and the package variables that the reading takes, are together of bulk at most 1048576: NARROWER than '..Said'. Prove '..Said' where nothing that the law and all that it calls make is longer than what came in: it says more and counts as full. Else prove '..UptoSaid'. A law counts once. -/
mutual
def uptoBulk {H : Type} : DataW H → Nat
  | .lit (.string bytes) => bytes.length + 1
  | .lit _ => 1
  | .nil => 1
  | .ptr d => uptoBulk d + 1
  | .slice elems spare => uptoBulkAll elems + uptoBulkAll spare + 1
  | .agg parts => uptoBulkAll parts + 1
  | .iface _ d => uptoBulk d + 1
  | .map entries => uptoBulkEntries entries + 1
  | .held _ => 1
def uptoBulkAll {H : Type} : List (DataW H) → Nat
  | [] => 0
  | d :: r => uptoBulk d + uptoBulkAll r
def uptoBulkEntries {H : Type} : List (Lit × DataW H) → Nat
  | [] => 0
  | x :: r => uptoBulkEntry x + uptoBulkEntries r
def uptoBulkEntry {H : Type} : Lit × DataW H → Nat
  | (.string bytes, d) => bytes.length + uptoBulk d + 1
  | (_, d) => uptoBulk d + 1
 end
def uptoSmall : (H : Type) → List (DataW H) → Bool := fun _ ds => decide (uptoBulkAll ds ≤ 1048576)
def OpenSpec.upto (s : _root_.Go.ChangeSpec) : _root_.Go.OpenSpec := { _root_.Go.OpenSpec.ofChange s with cond := some uptoSmall }

/-- 'laws.FnExactConstants', WHERE WHAT IT READS IS OF BULK AT MOST 1048576: true; the input reads as it did. -/
def fnExactConstantsUptoRow : OpenClaim := { program := "ytdimhflpjjiegaa", sum := "a81d242f19e108d61e5391ee303742e71db69a028c265940e8d5e0f9950ad2e1", func := "loop.example/g00659/laws.FnExactConstants", spec := "fnExactConstants", apart := false, narrowed := true }
def FnExactConstantsUptoSaid : Prop := fnExactConstantsUptoRow.holds Try.pinned (OpenSpec.upto fnExactConstantsSpec)

/-- 'laws.FnExactPutNum', WHERE WHAT IT READS IS OF BULK AT MOST 1048576: true; the input reads as it did. -/
def fnExactPutNumUptoRow : OpenClaim := { program := "ytdimhflpjjiegaa", sum := "a81d242f19e108d61e5391ee303742e71db69a028c265940e8d5e0f9950ad2e1", func := "loop.example/g00659/laws.FnExactPutNum", spec := "fnExactPutNum", apart := false, narrowed := true }
def FnExactPutNumUptoSaid : Prop := fnExactPutNumUptoRow.holds Try.pinned (OpenSpec.upto fnExactPutNumSpec)

/-- 'laws.FnExactNameRight', WHERE WHAT IT READS IS OF BULK AT MOST 1048576: true; the input reads as it did. -/
def fnExactNameRightUptoRow : OpenClaim := { program := "ytdimhflpjjiegaa", sum := "a81d242f19e108d61e5391ee303742e71db69a028c265940e8d5e0f9950ad2e1", func := "loop.example/g00659/laws.FnExactNameRight", spec := "fnExactNameRight", apart := false, narrowed := true }
def FnExactNameRightUptoSaid : Prop := fnExactNameRightUptoRow.holds Try.pinned (OpenSpec.upto fnExactNameRightSpec)

/-- 'laws.FnExactFnv', WHERE WHAT IT READS IS OF BULK AT MOST 1048576: true; the input reads as it did. -/
def fnExactFnvUptoRow : OpenClaim := { program := "ytdimhflpjjiegaa", sum := "a81d242f19e108d61e5391ee303742e71db69a028c265940e8d5e0f9950ad2e1", func := "loop.example/g00659/laws.FnExactFnv", spec := "fnExactFnv", unfollowed := true, recurses := true, apart := false, narrowed := true }
def FnExactFnvUptoSaid : Prop := fnExactFnvUptoRow.holds Try.pinned (OpenSpec.upto fnExactFnvSpec)

/-- 'laws.FnExactPutText', WHERE WHAT IT READS IS OF BULK AT MOST 1048576: true; the input reads as it did. -/
def fnExactPutTextUptoRow : OpenClaim := { program := "ytdimhflpjjiegaa", sum := "a81d242f19e108d61e5391ee303742e71db69a028c265940e8d5e0f9950ad2e1", func := "loop.example/g00659/laws.FnExactPutText", spec := "fnExactPutText", unfollowed := true, recurses := true, apart := false, narrowed := true }
def FnExactPutTextUptoSaid : Prop := fnExactPutTextUptoRow.holds Try.pinned (OpenSpec.upto fnExactPutTextSpec)

/-- 'laws.FnExactSeenRight', WHERE WHAT IT READS IS OF BULK AT MOST 1048576: true; the input reads as it did. -/
def fnExactSeenRightUptoRow : OpenClaim := { program := "ytdimhflpjjiegaa", sum := "a81d242f19e108d61e5391ee303742e71db69a028c265940e8d5e0f9950ad2e1", func := "loop.example/g00659/laws.FnExactSeenRight", spec := "fnExactSeenRight", apart := false, narrowed := true }
def FnExactSeenRightUptoSaid : Prop := fnExactSeenRightUptoRow.holds Try.pinned (OpenSpec.upto fnExactSeenRightSpec)

end Rows
end Go.Proofs.Ytdimhflpjjiegaa
