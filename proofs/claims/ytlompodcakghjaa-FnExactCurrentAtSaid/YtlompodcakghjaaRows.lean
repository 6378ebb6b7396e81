/-
  No cell of these rows narrows 'for every input' (looked for: loops, veiled, ifaces, maps, wideKeys, modest, calm, conditions, laid).
  DERIVED. THE GIVEN ROWS OF THIS SEAT. 10 by the template 'for every input the law returns true; each argument reads behind the call as it read before'; 0 by the template 'total and deterministic' (their statements: YtlompodcakghjaaTotals.lean).
  GIVEN WITH THE SEED: the statements are not yours to turn. If you find one false, say at which input.
  Laid BY PROGRAM, IN A SANDBOX (cutbox-rows.mjs): the forced cells as the released guide's own fill.sh prints them over the translation 4d627f9ce2eab5c6… (all of the seat's roots in one cut). By AI agents, Wed Nov 11 2026. No macro, syntax, notation, axiom, sorry.
-/
import Derived.Test.YtlompodcakghjaaChecked
import GoSem.Claim
import GoSem.ClaimJoined
import GoSem.ClaimMapViews
import Derived.JoinedTies
import Derived.KernelRfl
namespace Go.Proofs.Ytlompodcakghjaa
/- THE CELL 'sum', in the pinned program and in every row, IS THE sha256 OF THE DUMP (.gsa) THAT YtlompodcakghjaaProg.lean LOADS. Nothing in Lean hashes anything: it is a label: what it is worth is what the hold of that sum in a sandbox is worth. -/
noncomputable def Try.pinned : Pinned := { name := "ytlompodcakghjaa", sum := "4d627f9ce2eab5c65b49a6f97897a406a43f1240dfdeff14bef99074731415e5", checked := Try.checked }
namespace Rows
def none {H : Type} : Left H := { results := [], args := [] }

/-- 'laws.FnExactSameTides': WHATEVER THE INPUT: true; the input reads as it did. -/
def fnExactSameTidesSpec : ChangeSpec := { name := "fnExactSameTides", fn := fun _ => fun
  | [d1, d2] => { results := [.lit (.bool true)], args := [d1, d2] }
  | _ => none }
def fnExactSameTidesRow : OpenClaim := { program := "ytlompodcakghjaa", sum := "4d627f9ce2eab5c65b49a6f97897a406a43f1240dfdeff14bef99074731415e5", func := "loop.example/g01400/laws.FnExactSameTides", spec := "fnExactSameTides", apart := false }
def FnExactSameTidesSaid : Prop := fnExactSameTidesRow.holds Try.pinned (OpenSpec.ofChange fnExactSameTidesSpec)

/-- ITS FALSE NEIGHBOUR: 'it returns false'. Refute it at one input. -/
def fnExactSameTidesWrong : ChangeSpec := { name := "fnExactSameTides", fn := fun _ => fun
  | [d1, d2] => { results := [.lit (.bool false)], args := [d1, d2] }
  | _ => none }
def FnExactSameTidesWrongFalsely : Prop := fnExactSameTidesRow.holds Try.pinned (OpenSpec.ofChange fnExactSameTidesWrong)

/-- 'laws.FnExactValidTides': WHATEVER THE INPUT: true; the input reads as it did. -/
def fnExactValidTidesSpec : ChangeSpec := { name := "fnExactValidTides", fn := fun _ => fun
  | [d] => { results := [.lit (.bool true)], args := [d] }
  | _ => none }
def fnExactValidTidesRow : OpenClaim := { program := "ytlompodcakghjaa", sum := "4d627f9ce2eab5c65b49a6f97897a406a43f1240dfdeff14bef99074731415e5", func := "loop.example/g01400/laws.FnExactValidTides", spec := "fnExactValidTides", apart := false }
def FnExactValidTidesSaid : Prop := fnExactValidTidesRow.holds Try.pinned (OpenSpec.ofChange fnExactValidTidesSpec)

/-- ITS FALSE NEIGHBOUR: 'it returns false'. Refute it at one input. -/
def fnExactValidTidesWrong : ChangeSpec := { name := "fnExactValidTides", fn := fun _ => fun
  | [d] => { results := [.lit (.bool false)], args := [d] }
  | _ => none }
def FnExactValidTidesWrongFalsely : Prop := fnExactValidTidesRow.holds Try.pinned (OpenSpec.ofChange fnExactValidTidesWrong)

/-- 'laws.FnExactShiftTides': WHATEVER THE INPUT: true; the input reads as it did. -/
def fnExactShiftTidesSpec : ChangeSpec := { name := "fnExactShiftTides", fn := fun _ => fun
  | [d1, d2] => { results := [.lit (.bool true)], args := [d1, d2] }
  | _ => none }
def fnExactShiftTidesRow : OpenClaim := { program := "ytlompodcakghjaa", sum := "4d627f9ce2eab5c65b49a6f97897a406a43f1240dfdeff14bef99074731415e5", func := "loop.example/g01400/laws.FnExactShiftTides", spec := "fnExactShiftTides", apart := false }
def FnExactShiftTidesSaid : Prop := fnExactShiftTidesRow.holds Try.pinned (OpenSpec.ofChange fnExactShiftTidesSpec)

/-- ITS FALSE NEIGHBOUR: 'it returns false'. Refute it at one input. -/
def fnExactShiftTidesWrong : ChangeSpec := { name := "fnExactShiftTides", fn := fun _ => fun
  | [d1, d2] => { results := [.lit (.bool false)], args := [d1, d2] }
  | _ => none }
def FnExactShiftTidesWrongFalsely : Prop := fnExactShiftTidesRow.holds Try.pinned (OpenSpec.ofChange fnExactShiftTidesWrong)

/-- 'laws.FnExactCurrentAt': WHATEVER THE INPUT: true; the input reads as it did. -/
def fnExactCurrentAtSpec : ChangeSpec := { name := "fnExactCurrentAt", fn := fun _ => fun
  | [d1, d2] => { results := [.lit (.bool true)], args := [d1, d2] }
  | _ => none }
def fnExactCurrentAtRow : OpenClaim := { program := "ytlompodcakghjaa", sum := "4d627f9ce2eab5c65b49a6f97897a406a43f1240dfdeff14bef99074731415e5", func := "loop.example/g01400/laws.FnExactCurrentAt", spec := "fnExactCurrentAt", apart := false }
def FnExactCurrentAtSaid : Prop := fnExactCurrentAtRow.holds Try.pinned (OpenSpec.ofChange fnExactCurrentAtSpec)

/-- ITS FALSE NEIGHBOUR: 'it returns false'. Refute it at one input. -/
def fnExactCurrentAtWrong : ChangeSpec := { name := "fnExactCurrentAt", fn := fun _ => fun
  | [d1, d2] => { results := [.lit (.bool false)], args := [d1, d2] }
  | _ => none }
def FnExactCurrentAtWrongFalsely : Prop := fnExactCurrentAtRow.holds Try.pinned (OpenSpec.ofChange fnExactCurrentAtWrong)

/-- 'laws.FnExactHeightAt': WHATEVER THE INPUT: true; the input reads as it did. -/
def fnExactHeightAtSpec : ChangeSpec := { name := "fnExactHeightAt", fn := fun _ => fun
  | [d1, d2] => { results := [.lit (.bool true)], args := [d1, d2] }
  | _ => none }
def fnExactHeightAtRow : OpenClaim := { program := "ytlompodcakghjaa", sum := "4d627f9ce2eab5c65b49a6f97897a406a43f1240dfdeff14bef99074731415e5", func := "loop.example/g01400/laws.FnExactHeightAt", spec := "fnExactHeightAt", apart := false }
def FnExactHeightAtSaid : Prop := fnExactHeightAtRow.holds Try.pinned (OpenSpec.ofChange fnExactHeightAtSpec)

/-- ITS FALSE NEIGHBOUR: 'it returns false'. Refute it at one input. -/
def fnExactHeightAtWrong : ChangeSpec := { name := "fnExactHeightAt", fn := fun _ => fun
  | [d1, d2] => { results := [.lit (.bool false)], args := [d1, d2] }
  | _ => none }
def FnExactHeightAtWrongFalsely : Prop := fnExactHeightAtRow.holds Try.pinned (OpenSpec.ofChange fnExactHeightAtWrong)

/-- 'laws.FnExactFirstOver': WHATEVER THE INPUT: true; the input reads as it did. -/
def fnExactFirstOverSpec : ChangeSpec := { name := "fnExactFirstOver", fn := fun _ => fun
  | [d1, d2, d3] => { results := [.lit (.bool true)], args := [d1, d2, d3] }
  | _ => none }
def fnExactFirstOverRow : OpenClaim := { program := "ytlompodcakghjaa", sum := "4d627f9ce2eab5c65b49a6f97897a406a43f1240dfdeff14bef99074731415e5", func := "loop.example/g01400/laws.FnExactFirstOver", spec := "fnExactFirstOver", apart := false }
def FnExactFirstOverSaid : Prop := fnExactFirstOverRow.holds Try.pinned (OpenSpec.ofChange fnExactFirstOverSpec)

/-- ITS FALSE NEIGHBOUR: 'it returns false'. Refute it at one input. -/
def fnExactFirstOverWrong : ChangeSpec := { name := "fnExactFirstOver", fn := fun _ => fun
  | [d1, d2, d3] => { results := [.lit (.bool false)], args := [d1, d2, d3] }
  | _ => none }
def FnExactFirstOverWrongFalsely : Prop := fnExactFirstOverRow.holds Try.pinned (OpenSpec.ofChange fnExactFirstOverWrong)

/-- 'laws.FnExactHighestIn': WHATEVER THE INPUT: true; the input reads as it did. -/
def fnExactHighestInSpec : ChangeSpec := { name := "fnExactHighestIn", fn := fun _ => fun
  | [d1, d2, d3] => { results := [.lit (.bool true)], args := [d1, d2, d3] }
  | _ => none }
def fnExactHighestInRow : OpenClaim := { program := "ytlompodcakghjaa", sum := "4d627f9ce2eab5c65b49a6f97897a406a43f1240dfdeff14bef99074731415e5", func := "loop.example/g01400/laws.FnExactHighestIn", spec := "fnExactHighestIn", apart := false }
def FnExactHighestInSaid : Prop := fnExactHighestInRow.holds Try.pinned (OpenSpec.ofChange fnExactHighestInSpec)

/-- ITS FALSE NEIGHBOUR: 'it returns false'. Refute it at one input. -/
def fnExactHighestInWrong : ChangeSpec := { name := "fnExactHighestIn", fn := fun _ => fun
  | [d1, d2, d3] => { results := [.lit (.bool false)], args := [d1, d2, d3] }
  | _ => none }
def FnExactHighestInWrongFalsely : Prop := fnExactHighestInRow.holds Try.pinned (OpenSpec.ofChange fnExactHighestInWrong)

/-- 'laws.FnExactLowestIn': WHATEVER THE INPUT: true; the input reads as it did. -/
def fnExactLowestInSpec : ChangeSpec := { name := "fnExactLowestIn", fn := fun _ => fun
  | [d1, d2, d3] => { results := [.lit (.bool true)], args := [d1, d2, d3] }
  | _ => none }
def fnExactLowestInRow : OpenClaim := { program := "ytlompodcakghjaa", sum := "4d627f9ce2eab5c65b49a6f97897a406a43f1240dfdeff14bef99074731415e5", func := "loop.example/g01400/laws.FnExactLowestIn", spec := "fnExactLowestIn", apart := false }
def FnExactLowestInSaid : Prop := fnExactLowestInRow.holds Try.pinned (OpenSpec.ofChange fnExactLowestInSpec)

/-- ITS FALSE NEIGHBOUR: 'it returns false'. Refute it at one input. -/
def fnExactLowestInWrong : ChangeSpec := { name := "fnExactLowestIn", fn := fun _ => fun
  | [d1, d2, d3] => { results := [.lit (.bool false)], args := [d1, d2, d3] }
  | _ => none }
def FnExactLowestInWrongFalsely : Prop := fnExactLowestInRow.holds Try.pinned (OpenSpec.ofChange fnExactLowestInWrong)

/-- 'laws.FnExactLongestWindow': WHATEVER THE INPUT: true; the input reads as it did. -/
def fnExactLongestWindowSpec : ChangeSpec := { name := "fnExactLongestWindow", fn := fun _ => fun
  | [d1, d2] => { results := [.lit (.bool true)], args := [d1, d2] }
  | _ => none }
def fnExactLongestWindowRow : OpenClaim := { program := "ytlompodcakghjaa", sum := "4d627f9ce2eab5c65b49a6f97897a406a43f1240dfdeff14bef99074731415e5", func := "loop.example/g01400/laws.FnExactLongestWindow", spec := "fnExactLongestWindow", unfollowed := true, recurses := true, apart := false }
def FnExactLongestWindowSaid : Prop := fnExactLongestWindowRow.holds Try.pinned (OpenSpec.ofChange fnExactLongestWindowSpec)

/-- ITS FALSE NEIGHBOUR: 'it returns false'. Refute it at one input. -/
def fnExactLongestWindowWrong : ChangeSpec := { name := "fnExactLongestWindow", fn := fun _ => fun
  | [d1, d2] => { results := [.lit (.bool false)], args := [d1, d2] }
  | _ => none }
def FnExactLongestWindowWrongFalsely : Prop := fnExactLongestWindowRow.holds Try.pinned (OpenSpec.ofChange fnExactLongestWindowWrong)

/-- 'laws.FnExactWindowsOver': WHATEVER THE INPUT: true; the input reads as it did. -/
def fnExactWindowsOverSpec : ChangeSpec := { name := "fnExactWindowsOver", fn := fun _ => fun
  | [d1, d2] => { results := [.lit (.bool true)], args := [d1, d2] }
  | _ => none }
def fnExactWindowsOverRow : OpenClaim := { program := "ytlompodcakghjaa", sum := "4d627f9ce2eab5c65b49a6f97897a406a43f1240dfdeff14bef99074731415e5", func := "loop.example/g01400/laws.FnExactWindowsOver", spec := "fnExactWindowsOver", unfollowed := true, recurses := true, apart := false }
def FnExactWindowsOverSaid : Prop := fnExactWindowsOverRow.holds Try.pinned (OpenSpec.ofChange fnExactWindowsOverSpec)

/-- ITS FALSE NEIGHBOUR: 'it returns false'. Refute it at one input. -/
def fnExactWindowsOverWrong : ChangeSpec := { name := "fnExactWindowsOver", fn := fun _ => fun
  | [d1, d2] => { results := [.lit (.bool false)], args := [d1, d2] }
  | _ => none }
def FnExactWindowsOverWrongFalsely : Prop := fnExactWindowsOverRow.holds Try.pinned (OpenSpec.ofChange fnExactWindowsOverWrong)

/- THE SECOND FORM. 'bulk': how many values and letters a reading holds, each counted each time it is reached (what is shared counts as often as it is met; a slice's spare places count too). A statement '..UptoSaid' is the law's where the arguments, and the package variables that the reading takes, are together of bulk at most 1048576: NARROWER than '..Said'. Prove '..Said' where nothing that the law and all that it calls make is longer than what came in: it says more and counts as full. Else prove '..UptoSaid'. A law counts once. -/
mutual
def uptoBulk {H : Type} : DataW H → Nat
  | .lit (.string bytes) => bytes.length + 1
  | .lit _ => 1
  | .nil => 1
  | .ptr d => uptoBulk d + 1
  | .slice elems spare => uptoBulkAll elems + uptoBulkAll spare + 1
  | .agg parts => uptoBulkAll parts + 1
  | .iface _ d => uptoBulk d + 1
  | .map entries => uptoBulkEntries entries + 1
  | .held _ => 1
def uptoBulkAll {H : Type} : List (DataW H) → Nat
  | [] => 0
  | d :: r => uptoBulk d + uptoBulkAll r
def uptoBulkEntries {H : Type} : List (Lit × DataW H) → Nat
  | [] => 0
  | x :: r => uptoBulkEntry x + uptoBulkEntries r
def uptoBulkEntry {H : Type} : Lit × DataW H → Nat
  | (.string bytes, d) => bytes.length + uptoBulk d + 1
  | (_, d) => uptoBulk d + 1
 end
def uptoSmall : (H : Type) → List (DataW H) → Bool := fun _ ds => decide (uptoBulkAll ds ≤ 1048576)
def OpenSpec.upto (s : _root_.Go.ChangeSpec) : _root_.Go.OpenSpec := { _root_.Go.OpenSpec.ofChange s with cond := some uptoSmall }

/-- 'laws.FnExactSameTides', WHERE WHAT IT READS IS OF BULK AT MOST 1048576: true; the input reads as it did. -/
def fnExactSameTidesUptoRow : OpenClaim := { program := "ytlompodcakghjaa", sum := "4d627f9ce2eab5c65b49a6f97897a406a43f1240dfdeff14bef99074731415e5", func := "loop.example/g01400/laws.FnExactSameTides", spec := "fnExactSameTides", apart := false, narrowed := true }
def FnExactSameTidesUptoSaid : Prop := fnExactSameTidesUptoRow.holds Try.pinned (OpenSpec.upto fnExactSameTidesSpec)

/-- 'laws.FnExactValidTides', WHERE WHAT IT READS IS OF BULK AT MOST 1048576: true; the input reads as it did. -/
def fnExactValidTidesUptoRow : OpenClaim := { program := "ytlompodcakghjaa", sum := "4d627f9ce2eab5c65b49a6f97897a406a43f1240dfdeff14bef99074731415e5", func := "loop.example/g01400/laws.FnExactValidTides", spec := "fnExactValidTides", apart := false, narrowed := true }
def FnExactValidTidesUptoSaid : Prop := fnExactValidTidesUptoRow.holds Try.pinned (OpenSpec.upto fnExactValidTidesSpec)

/-- 'laws.FnExactShiftTides', WHERE WHAT IT READS IS OF BULK AT MOST 1048576: true; the input reads as it did. -/
def fnExactShiftTidesUptoRow : OpenClaim := { program := "ytlompodcakghjaa", sum := "4d627f9ce2eab5c65b49a6f97897a406a43f1240dfdeff14bef99074731415e5", func := "loop.example/g01400/laws.FnExactShiftTides", spec := "fnExactShiftTides", apart := false, narrowed := true }
def FnExactShiftTidesUptoSaid : Prop := fnExactShiftTidesUptoRow.holds Try.pinned (OpenSpec.upto fnExactShiftTidesSpec)

/-- 'laws.FnExactCurrentAt', WHERE WHAT IT READS IS OF BULK AT MOST 1048576: true; the input reads as it did. -/
def fnExactCurrentAtUptoRow : OpenClaim := { program := "ytlompodcakghjaa", sum := "4d627f9ce2eab5c65b49a6f97897a406a43f1240dfdeff14bef99074731415e5", func := "loop.example/g01400/laws.FnExactCurrentAt", spec := "fnExactCurrentAt", apart := false, narrowed := true }
def FnExactCurrentAtUptoSaid : Prop := fnExactCurrentAtUptoRow.holds Try.pinned (OpenSpec.upto fnExactCurrentAtSpec)

/-- 'laws.FnExactHeightAt', WHERE WHAT IT READS IS OF BULK AT MOST 1048576: true; the input reads as it did. -/
def fnExactHeightAtUptoRow : OpenClaim := { program := "ytlompodcakghjaa", sum := "4d627f9ce2eab5c65b49a6f97897a406a43f1240dfdeff14bef99074731415e5", func := "loop.example/g01400/laws.FnExactHeightAt", spec := "fnExactHeightAt", apart := false, narrowed := true }
def FnExactHeightAtUptoSaid : Prop := fnExactHeightAtUptoRow.holds Try.pinned (OpenSpec.upto fnExactHeightAtSpec)

/-- 'laws.FnExactFirstOver', WHERE WHAT IT READS IS OF BULK AT MOST 1048576: true; the input reads as it did. -/
def fnExactFirstOverUptoRow : OpenClaim := { program := "ytlompodcakghjaa", sum := "4d627f9ce2eab5c65b49a6f97897a406a43f1240dfdeff14bef99074731415e5", func := "loop.example/g01400/laws.FnExactFirstOver", spec := "fnExactFirstOver", apart := false, narrowed := true }
def FnExactFirstOverUptoSaid : Prop := fnExactFirstOverUptoRow.holds Try.pinned (OpenSpec.upto fnExactFirstOverSpec)

/-- 'laws.FnExactHighestIn', WHERE WHAT IT READS IS OF BULK AT MOST 1048576: true; the input reads as it did. -/
def fnExactHighestInUptoRow : OpenClaim := { program := "ytlompodcakghjaa", sum := "4d627f9ce2eab5c65b49a6f97897a406a43f1240dfdeff14bef99074731415e5", func := "loop.example/g01400/laws.FnExactHighestIn", spec := "fnExactHighestIn", apart := false, narrowed := true }
def FnExactHighestInUptoSaid : Prop := fnExactHighestInUptoRow.holds Try.pinned (OpenSpec.upto fnExactHighestInSpec)

/-- 'laws.FnExactLowestIn', WHERE WHAT IT READS IS OF BULK AT MOST 1048576: true; the input reads as it did. -/
def fnExactLowestInUptoRow : OpenClaim := { program := "ytlompodcakghjaa", sum := "4d627f9ce2eab5c65b49a6f97897a406a43f1240dfdeff14bef99074731415e5", func := "loop.example/g01400/laws.FnExactLowestIn", spec := "fnExactLowestIn", apart := false, narrowed := true }
def FnExactLowestInUptoSaid : Prop := fnExactLowestInUptoRow.holds Try.pinned (OpenSpec.upto fnExactLowestInSpec)

/-- 'laws.FnExactLongestWindow', WHERE WHAT IT READS IS OF BULK AT MOST 1048576: true; the input reads as it did. -/
def fnExactLongestWindowUptoRow : OpenClaim := { program := "ytlompodcakghjaa", sum := "4d627f9ce2eab5c65b49a6f97897a406a43f1240dfdeff14bef99074731415e5", func := "loop.example/g01400/laws.FnExactLongestWindow", spec := "fnExactLongestWindow", unfollowed := true, recurses := true, apart := false, narrowed := true }
def FnExactLongestWindowUptoSaid : Prop := fnExactLongestWindowUptoRow.holds Try.pinned (OpenSpec.upto fnExactLongestWindowSpec)

/-- 'laws.FnExactWindowsOver', WHERE WHAT IT READS IS OF BULK AT MOST 1048576: true; the input reads as it did. -/
def fnExactWindowsOverUptoRow : OpenClaim := { program := "ytlompodcakghjaa", sum := "4d627f9ce2eab5c65b49a6f97897a406a43f1240dfdeff14bef99074731415e5", func := "loop.example/g01400/laws.FnExactWindowsOver", spec := "fnExactWindowsOver", unfollowed := true, recurses := true, apart := false, narrowed := true }
def FnExactWindowsOverUptoSaid : Prop := fnExactWindowsOverUptoRow.holds Try.pinned (OpenSpec.upto fnExactWindowsOverSpec)

end Rows
end Go.Proofs.Ytlompodcakghjaa
