/-
  No cell of these rows narrows 'for every input' (looked for: loops, veiled, ifaces, maps, wideKeys, modest, calm, conditions, laid).
  DERIVED. THE GIVEN ROWS OF THIS SEAT. 9 by the template 'for every input the law returns true; each argument reads behind the call as it read before'; 0 by the template 'total and deterministic' (their statements: YtapbfobhnbcpdaaTotals.lean).
  GIVEN WITH THE SEED: the statements are not yours to turn. If you find one false, say at which input.
  Laid BY PROGRAM, IN A SANDBOX (cutbox-rows.mjs): the forced cells as the released guide's own fill.sh prints them over the translation 00528ccbe0c0b5d7… (all of the seat's roots in one cut). By AI agents, Wed Nov 11 2026. No macro, syntax, notation, axiom, sorry.
-/
import Derived.Test.YtapbfobhnbcpdaaChecked
import GoSem.Claim
import GoSem.ClaimJoined
import GoSem.ClaimMapViews
import Derived.JoinedTies
import Derived.KernelRfl
namespace Go.Proofs.Ytapbfobhnbcpdaa
/- THE CELL 'sum', in the pinned program and in every row, IS THE sha256 OF THE DUMP (.gsa) THAT YtapbfobhnbcpdaaProg.lean LOADS. Nothing in Lean hashes anything: it is a label: what it is worth is what the hold of that sum in a sandbox is worth. -/
noncomputable def Try.pinned : Pinned := { name := "ytapbfobhnbcpdaa", sum := "00528ccbe0c0b5d7cb7a60e850b5d333f7777dbde846694c0b44f57fdb73d8f3", checked := Try.checked }
namespace Rows
def none {H : Type} : Left H := { results := [], args := [] }

/-- 'laws.FnExactConstants': WHATEVER THE INPUT: true; the input reads as it did. -/
def fnExactConstantsSpec : ChangeSpec := { name := "fnExactConstants", fn := fun _ => fun
  | [] => { results := [.lit (.bool true)], args := [] }
  | _ => none }
def fnExactConstantsRow : OpenClaim := { program := "ytapbfobhnbcpdaa", sum := "00528ccbe0c0b5d7cb7a60e850b5d333f7777dbde846694c0b44f57fdb73d8f3", func := "loop.example/g01400/laws.FnExactConstants", spec := "fnExactConstants", apart := false }
def FnExactConstantsSaid : Prop := fnExactConstantsRow.holds Try.pinned (OpenSpec.ofChange fnExactConstantsSpec)

/-- ITS FALSE NEIGHBOUR: 'it returns false'. Refute it at one input. -/
def fnExactConstantsWrong : ChangeSpec := { name := "fnExactConstants", fn := fun _ => fun
  | [] => { results := [.lit (.bool false)], args := [] }
  | _ => none }
def FnExactConstantsWrongFalsely : Prop := fnExactConstantsRow.holds Try.pinned (OpenSpec.ofChange fnExactConstantsWrong)

/-- 'laws.FnExactCodeName': WHATEVER THE INPUT: true; the input reads as it did. -/
def fnExactCodeNameSpec : ChangeSpec := { name := "fnExactCodeName", fn := fun _ => fun
  | [d] => { results := [.lit (.bool true)], args := [d] }
  | _ => none }
def fnExactCodeNameRow : OpenClaim := { program := "ytapbfobhnbcpdaa", sum := "00528ccbe0c0b5d7cb7a60e850b5d333f7777dbde846694c0b44f57fdb73d8f3", func := "loop.example/g01400/laws.FnExactCodeName", spec := "fnExactCodeName", apart := false }
def FnExactCodeNameSaid : Prop := fnExactCodeNameRow.holds Try.pinned (OpenSpec.ofChange fnExactCodeNameSpec)

/-- ITS FALSE NEIGHBOUR: 'it returns false'. Refute it at one input. -/
def fnExactCodeNameWrong : ChangeSpec := { name := "fnExactCodeName", fn := fun _ => fun
  | [d] => { results := [.lit (.bool false)], args := [d] }
  | _ => none }
def FnExactCodeNameWrongFalsely : Prop := fnExactCodeNameRow.holds Try.pinned (OpenSpec.ofChange fnExactCodeNameWrong)

/-- 'laws.FnExactValidWord': WHATEVER THE INPUT: true; the input reads as it did. -/
def fnExactValidWordSpec : ChangeSpec := { name := "fnExactValidWord", fn := fun _ => fun
  | [d] => { results := [.lit (.bool true)], args := [d] }
  | _ => none }
def fnExactValidWordRow : OpenClaim := { program := "ytapbfobhnbcpdaa", sum := "00528ccbe0c0b5d7cb7a60e850b5d333f7777dbde846694c0b44f57fdb73d8f3", func := "loop.example/g01400/laws.FnExactValidWord", spec := "fnExactValidWord", apart := false }
def FnExactValidWordSaid : Prop := fnExactValidWordRow.holds Try.pinned (OpenSpec.ofChange fnExactValidWordSpec)

/-- ITS FALSE NEIGHBOUR: 'it returns false'. Refute it at one input. -/
def fnExactValidWordWrong : ChangeSpec := { name := "fnExactValidWord", fn := fun _ => fun
  | [d] => { results := [.lit (.bool false)], args := [d] }
  | _ => none }
def FnExactValidWordWrongFalsely : Prop := fnExactValidWordRow.holds Try.pinned (OpenSpec.ofChange fnExactValidWordWrong)

/-- 'laws.FnExactMirrorWord': WHATEVER THE INPUT: true; the input reads as it did. -/
def fnExactMirrorWordSpec : ChangeSpec := { name := "fnExactMirrorWord", fn := fun _ => fun
  | [d] => { results := [.lit (.bool true)], args := [d] }
  | _ => none }
def fnExactMirrorWordRow : OpenClaim := { program := "ytapbfobhnbcpdaa", sum := "00528ccbe0c0b5d7cb7a60e850b5d333f7777dbde846694c0b44f57fdb73d8f3", func := "loop.example/g01400/laws.FnExactMirrorWord", spec := "fnExactMirrorWord", apart := false }
def FnExactMirrorWordSaid : Prop := fnExactMirrorWordRow.holds Try.pinned (OpenSpec.ofChange fnExactMirrorWordSpec)

/-- ITS FALSE NEIGHBOUR: 'it returns false'. Refute it at one input. -/
def fnExactMirrorWordWrong : ChangeSpec := { name := "fnExactMirrorWord", fn := fun _ => fun
  | [d] => { results := [.lit (.bool false)], args := [d] }
  | _ => none }
def FnExactMirrorWordWrongFalsely : Prop := fnExactMirrorWordRow.holds Try.pinned (OpenSpec.ofChange fnExactMirrorWordWrong)

/-- 'laws.FnExactValidCovers': WHATEVER THE INPUT: true; the input reads as it did. -/
def fnExactValidCoversSpec : ChangeSpec := { name := "fnExactValidCovers", fn := fun _ => fun
  | [d1, d2] => { results := [.lit (.bool true)], args := [d1, d2] }
  | _ => none }
def fnExactValidCoversRow : OpenClaim := { program := "ytapbfobhnbcpdaa", sum := "00528ccbe0c0b5d7cb7a60e850b5d333f7777dbde846694c0b44f57fdb73d8f3", func := "loop.example/g01400/laws.FnExactValidCovers", spec := "fnExactValidCovers", apart := false }
def FnExactValidCoversSaid : Prop := fnExactValidCoversRow.holds Try.pinned (OpenSpec.ofChange fnExactValidCoversSpec)

/-- ITS FALSE NEIGHBOUR: 'it returns false'. Refute it at one input. -/
def fnExactValidCoversWrong : ChangeSpec := { name := "fnExactValidCovers", fn := fun _ => fun
  | [d1, d2] => { results := [.lit (.bool false)], args := [d1, d2] }
  | _ => none }
def FnExactValidCoversWrongFalsely : Prop := fnExactValidCoversRow.holds Try.pinned (OpenSpec.ofChange fnExactValidCoversWrong)

/-- 'laws.FnExactTurnsToClear': WHATEVER THE INPUT: true; the input reads as it did. -/
def fnExactTurnsToClearSpec : ChangeSpec := { name := "fnExactTurnsToClear", fn := fun _ => fun
  | [d] => { results := [.lit (.bool true)], args := [d] }
  | _ => none }
def fnExactTurnsToClearRow : OpenClaim := { program := "ytapbfobhnbcpdaa", sum := "00528ccbe0c0b5d7cb7a60e850b5d333f7777dbde846694c0b44f57fdb73d8f3", func := "loop.example/g01400/laws.FnExactTurnsToClear", spec := "fnExactTurnsToClear", apart := false }
def FnExactTurnsToClearSaid : Prop := fnExactTurnsToClearRow.holds Try.pinned (OpenSpec.ofChange fnExactTurnsToClearSpec)

/-- ITS FALSE NEIGHBOUR: 'it returns false'. Refute it at one input. -/
def fnExactTurnsToClearWrong : ChangeSpec := { name := "fnExactTurnsToClear", fn := fun _ => fun
  | [d] => { results := [.lit (.bool false)], args := [d] }
  | _ => none }
def FnExactTurnsToClearWrongFalsely : Prop := fnExactTurnsToClearRow.holds Try.pinned (OpenSpec.ofChange fnExactTurnsToClearWrong)

/-- 'laws.FnExactSameTangle': WHATEVER THE INPUT: true; the input reads as it did. -/
def fnExactSameTangleSpec : ChangeSpec := { name := "fnExactSameTangle", fn := fun _ => fun
  | [d1, d2] => { results := [.lit (.bool true)], args := [d1, d2] }
  | _ => none }
def fnExactSameTangleRow : OpenClaim := { program := "ytapbfobhnbcpdaa", sum := "00528ccbe0c0b5d7cb7a60e850b5d333f7777dbde846694c0b44f57fdb73d8f3", func := "loop.example/g01400/laws.FnExactSameTangle", spec := "fnExactSameTangle", apart := false }
def FnExactSameTangleSaid : Prop := fnExactSameTangleRow.holds Try.pinned (OpenSpec.ofChange fnExactSameTangleSpec)

/-- ITS FALSE NEIGHBOUR: 'it returns false'. Refute it at one input. -/
def fnExactSameTangleWrong : ChangeSpec := { name := "fnExactSameTangle", fn := fun _ => fun
  | [d1, d2] => { results := [.lit (.bool false)], args := [d1, d2] }
  | _ => none }
def FnExactSameTangleWrongFalsely : Prop := fnExactSameTangleRow.holds Try.pinned (OpenSpec.ofChange fnExactSameTangleWrong)

/-- 'laws.FnExactUndoWord': WHATEVER THE INPUT: true; the input reads as it did. -/
def fnExactUndoWordSpec : ChangeSpec := { name := "fnExactUndoWord", fn := fun _ => fun
  | [d] => { results := [.lit (.bool true)], args := [d] }
  | _ => none }
def fnExactUndoWordRow : OpenClaim := { program := "ytapbfobhnbcpdaa", sum := "00528ccbe0c0b5d7cb7a60e850b5d333f7777dbde846694c0b44f57fdb73d8f3", func := "loop.example/g01400/laws.FnExactUndoWord", spec := "fnExactUndoWord", inPlace := ["internal/abi.NoEscape", "internal/bytealg.MakeNoZero"], apart := false }
def FnExactUndoWordSaid : Prop := fnExactUndoWordRow.holds Try.pinned (OpenSpec.ofChange fnExactUndoWordSpec)

/-- ITS FALSE NEIGHBOUR: 'it returns false'. Refute it at one input. -/
def fnExactUndoWordWrong : ChangeSpec := { name := "fnExactUndoWord", fn := fun _ => fun
  | [d] => { results := [.lit (.bool false)], args := [d] }
  | _ => none }
def FnExactUndoWordWrongFalsely : Prop := fnExactUndoWordRow.holds Try.pinned (OpenSpec.ofChange fnExactUndoWordWrong)

/-- 'laws.FnExactWithoutChain': WHATEVER THE INPUT: true; the input reads as it did. -/
def fnExactWithoutChainSpec : ChangeSpec := { name := "fnExactWithoutChain", fn := fun _ => fun
  | [d1, d2, d3] => { results := [.lit (.bool true)], args := [d1, d2, d3] }
  | _ => none }
def fnExactWithoutChainRow : OpenClaim := { program := "ytapbfobhnbcpdaa", sum := "00528ccbe0c0b5d7cb7a60e850b5d333f7777dbde846694c0b44f57fdb73d8f3", func := "loop.example/g01400/laws.FnExactWithoutChain", spec := "fnExactWithoutChain", apart := false }
def FnExactWithoutChainSaid : Prop := fnExactWithoutChainRow.holds Try.pinned (OpenSpec.ofChange fnExactWithoutChainSpec)

/-- ITS FALSE NEIGHBOUR: 'it returns false'. Refute it at one input. -/
def fnExactWithoutChainWrong : ChangeSpec := { name := "fnExactWithoutChain", fn := fun _ => fun
  | [d1, d2, d3] => { results := [.lit (.bool false)], args := [d1, d2, d3] }
  | _ => none }
def FnExactWithoutChainWrongFalsely : Prop := fnExactWithoutChainRow.holds Try.pinned (OpenSpec.ofChange fnExactWithoutChainWrong)

/- THE SECOND FORM. 'bulk': how many values and letters a reading holds, each counted each time it is reached (what is shared counts as often as it is met; a slice's spare places count too). A statement '..UptoSaid' is the law's where the arguments, and the package variables that the reading takes, are together of bulk at most 1048576: NARROWER than '..Said'. Prove '..Said' where nothing that the law and all that it calls make is longer than what came in: it says more and counts as full. Else prove '..UptoSaid'. A law counts once. -/
mutual
def uptoBulk {H : Type} : DataW H → Nat
  | .lit (.string bytes) => bytes.length + 1
  | .lit _ => 1
  | .nil => 1
  | .ptr d => uptoBulk d + 1
  | .slice elems spare => uptoBulkAll elems + uptoBulkAll spare + 1
  | .agg parts => uptoBulkAll parts + 1
  | .iface _ d => uptoBulk d + 1
  | .map entries => uptoBulkEntries entries + 1
  | .held _ => 1
def uptoBulkAll {H : Type} : List (DataW H) → Nat
  | [] => 0
  | d :: r => uptoBulk d + uptoBulkAll r
def uptoBulkEntries {H : Type} : List (Lit × DataW H) → Nat
  | [] => 0
  | x :: r => uptoBulkEntry x + uptoBulkEntries r
def uptoBulkEntry {H : Type} : Lit × DataW H → Nat
  | (.string bytes, d) => bytes.length + uptoBulk d + 1
  | (_, d) => uptoBulk d + 1
 end
def uptoSmall : (H : Type) → List (DataW H) → Bool := fun _ ds => decide (uptoBulkAll ds ≤ 1048576)
def OpenSpec.upto (s : _root_.Go.ChangeSpec) : _root_.Go.OpenSpec := { _root_.Go.OpenSpec.ofChange s with cond := some uptoSmall }

/-- 'laws.FnExactConstants', WHERE WHAT IT READS IS OF BULK AT MOST 1048576: true; the input reads as it did. -/
def fnExactConstantsUptoRow : OpenClaim := { program := "ytapbfobhnbcpdaa", sum := "00528ccbe0c0b5d7cb7a60e850b5d333f7777dbde846694c0b44f57fdb73d8f3", func := "loop.example/g01400/laws.FnExactConstants", spec := "fnExactConstants", apart := false, narrowed := true }
def FnExactConstantsUptoSaid : Prop := fnExactConstantsUptoRow.holds Try.pinned (OpenSpec.upto fnExactConstantsSpec)

/-- 'laws.FnExactCodeName', WHERE WHAT IT READS IS OF BULK AT MOST 1048576: true; the input reads as it did. -/
def fnExactCodeNameUptoRow : OpenClaim := { program := "ytapbfobhnbcpdaa", sum := "00528ccbe0c0b5d7cb7a60e850b5d333f7777dbde846694c0b44f57fdb73d8f3", func := "loop.example/g01400/laws.FnExactCodeName", spec := "fnExactCodeName", apart := false, narrowed := true }
def FnExactCodeNameUptoSaid : Prop := fnExactCodeNameUptoRow.holds Try.pinned (OpenSpec.upto fnExactCodeNameSpec)

/-- 'laws.FnExactValidWord', WHERE WHAT IT READS IS OF BULK AT MOST 1048576: true; the input reads as it did. -/
def fnExactValidWordUptoRow : OpenClaim := { program := "ytapbfobhnbcpdaa", sum := "00528ccbe0c0b5d7cb7a60e850b5d333f7777dbde846694c0b44f57fdb73d8f3", func := "loop.example/g01400/laws.FnExactValidWord", spec := "fnExactValidWord", apart := false, narrowed := true }
def FnExactValidWordUptoSaid : Prop := fnExactValidWordUptoRow.holds Try.pinned (OpenSpec.upto fnExactValidWordSpec)

/-- 'laws.FnExactMirrorWord', WHERE WHAT IT READS IS OF BULK AT MOST 1048576: true; the input reads as it did. -/
def fnExactMirrorWordUptoRow : OpenClaim := { program := "ytapbfobhnbcpdaa", sum := "00528ccbe0c0b5d7cb7a60e850b5d333f7777dbde846694c0b44f57fdb73d8f3", func := "loop.example/g01400/laws.FnExactMirrorWord", spec := "fnExactMirrorWord", apart := false, narrowed := true }
def FnExactMirrorWordUptoSaid : Prop := fnExactMirrorWordUptoRow.holds Try.pinned (OpenSpec.upto fnExactMirrorWordSpec)

/-- 'laws.FnExactValidCovers', WHERE WHAT IT READS IS OF BULK AT MOST 1048576: true; the input reads as it did. -/
def fnExactValidCoversUptoRow : OpenClaim := { program := "ytapbfobhnbcpdaa", sum := "00528ccbe0c0b5d7cb7a60e850b5d333f7777dbde846694c0b44f57fdb73d8f3", func := "loop.example/g01400/laws.FnExactValidCovers", spec := "fnExactValidCovers", apart := false, narrowed := true }
def FnExactValidCoversUptoSaid : Prop := fnExactValidCoversUptoRow.holds Try.pinned (OpenSpec.upto fnExactValidCoversSpec)

/-- 'laws.FnExactTurnsToClear', WHERE WHAT IT READS IS OF BULK AT MOST 1048576: true; the input reads as it did. -/
def fnExactTurnsToClearUptoRow : OpenClaim := { program := "ytapbfobhnbcpdaa", sum := "00528ccbe0c0b5d7cb7a60e850b5d333f7777dbde846694c0b44f57fdb73d8f3", func := "loop.example/g01400/laws.FnExactTurnsToClear", spec := "fnExactTurnsToClear", apart := false, narrowed := true }
def FnExactTurnsToClearUptoSaid : Prop := fnExactTurnsToClearUptoRow.holds Try.pinned (OpenSpec.upto fnExactTurnsToClearSpec)

/-- 'laws.FnExactSameTangle', WHERE WHAT IT READS IS OF BULK AT MOST 1048576: true; the input reads as it did. -/
def fnExactSameTangleUptoRow : OpenClaim := { program := "ytapbfobhnbcpdaa", sum := "00528ccbe0c0b5d7cb7a60e850b5d333f7777dbde846694c0b44f57fdb73d8f3", func := "loop.example/g01400/laws.FnExactSameTangle", spec := "fnExactSameTangle", apart := false, narrowed := true }
def FnExactSameTangleUptoSaid : Prop := fnExactSameTangleUptoRow.holds Try.pinned (OpenSpec.upto fnExactSameTangleSpec)

/-- 'laws.FnExactUndoWord', WHERE WHAT IT READS IS OF BULK AT MOST 1048576: true; the input reads as it did. -/
def fnExactUndoWordUptoRow : OpenClaim := { program := "ytapbfobhnbcpdaa", sum := "00528ccbe0c0b5d7cb7a60e850b5d333f7777dbde846694c0b44f57fdb73d8f3", func := "loop.example/g01400/laws.FnExactUndoWord", spec := "fnExactUndoWord", inPlace := ["internal/abi.NoEscape", "internal/bytealg.MakeNoZero"], apart := false, narrowed := true }
def FnExactUndoWordUptoSaid : Prop := fnExactUndoWordUptoRow.holds Try.pinned (OpenSpec.upto fnExactUndoWordSpec)

/-- 'laws.FnExactWithoutChain', WHERE WHAT IT READS IS OF BULK AT MOST 1048576: true; the input reads as it did. -/
def fnExactWithoutChainUptoRow : OpenClaim := { program := "ytapbfobhnbcpdaa", sum := "00528ccbe0c0b5d7cb7a60e850b5d333f7777dbde846694c0b44f57fdb73d8f3", func := "loop.example/g01400/laws.FnExactWithoutChain", spec := "fnExactWithoutChain", apart := false, narrowed := true }
def FnExactWithoutChainUptoSaid : Prop := fnExactWithoutChainUptoRow.holds Try.pinned (OpenSpec.upto fnExactWithoutChainSpec)

end Rows
end Go.Proofs.Ytapbfobhnbcpdaa
