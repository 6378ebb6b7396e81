/-
  DERIVED. GIVEN WITH THE SEED: THE CARDS: each row of YtdfhjljlpcjdoaaDoorRows.lean that lists a variable, with what it lists TIED to the program's text (the seventh form; the later family's looks); each row that meets fmt, with fmt's text TOLD by the authors' own Lean function (tested against real Go, not proved from fmt's source: count such statements apart). THE CARD IS WHAT COUNTS. Prove the row's statement (the work); the ties are given (YtdfhjljlpcjdoaaDoorTie.lean); close each card by the builder's one call (the guide's Derived/Test/ToyasCard.lean, 'card_holds'). Laid BY PROGRAM, IN A SANDBOX (cutbox-door.mjs). By AI agents, Wed Nov 11 2026. No macro, syntax, notation, axiom, sorry.
-/
import Derived.Test.YtdfhjljlpcjdoaaDoorRows
import GoSem.ClaimSeven
namespace Go.Proofs.YtdfhjljlpcjdoaaDoor
namespace Rows

/-- THE TIED CARD OF 'laws.FnExactTidesText'. -/
def fnExactTidesTextCard : Claim7 := { stood := { row := fnExactTidesTextRow, standIns := [], harness := (true, "0b4d1d29a3998c965f1d8742a4fc1ef4b7495f3e5309f14e894db8755735a3ac"), looks := false }, kinds := [], alts := [], laidByText := true, laidKinds := [.data, .data, .data], laidTests := true, laidLooks := .later }
def FnExactTidesTextCardSaid : Prop := Claim7.holds Tryd.pinned (.plain (OpenSpec.ofChange fnExactTidesTextSpec)) fnExactTidesTextCard

/-- THE TIED CARD OF 'laws.FnExactReadTides'. -/
def fnExactReadTidesCard : Claim7 := { stood := { row := fnExactReadTidesRow, standIns := [], harness := (true, "0b4d1d29a3998c965f1d8742a4fc1ef4b7495f3e5309f14e894db8755735a3ac"), looks := false }, kinds := [], alts := [], laidByText := true, laidKinds := [.data, .pinned], laidTests := true, laidLooks := .later }
def FnExactReadTidesCardSaid : Prop := Claim7.holds Tryd.pinned (.plain (OpenSpec.ofChange fnExactReadTidesSpec)) fnExactReadTidesCard

/-- THE TIED CARD OF 'laws.FnTides'. -/
def fnTidesCard : Claim7 := { stood := { row := fnTidesRow, standIns := [], harness := (true, "0b4d1d29a3998c965f1d8742a4fc1ef4b7495f3e5309f14e894db8755735a3ac"), looks := false }, kinds := [], alts := [], laidByText := true, laidKinds := [.data, .data, .data, .data, .pinned], laidTests := true, laidLooks := .later }
def FnTidesCardSaid : Prop := Claim7.holds Tryd.pinned (.plain (OpenSpec.ofChange fnTidesSpec)) fnTidesCard

/-- THE SECOND FORM's CARD OF 'laws.FnExactTidesText'. -/
def fnExactTidesTextUptoCard : Claim7 := { stood := { row := fnExactTidesTextUptoRow, standIns := [], harness := (true, "0b4d1d29a3998c965f1d8742a4fc1ef4b7495f3e5309f14e894db8755735a3ac"), looks := false }, kinds := [], alts := [], laidByText := true, laidKinds := [.data, .data, .data], laidTests := true, laidLooks := .later }
def FnExactTidesTextUptoCardSaid : Prop := Claim7.holds Tryd.pinned (.plain (OpenSpec.upto fnExactTidesTextSpec)) fnExactTidesTextUptoCard

/-- THE SECOND FORM's CARD OF 'laws.FnExactReadTides'. -/
def fnExactReadTidesUptoCard : Claim7 := { stood := { row := fnExactReadTidesUptoRow, standIns := [], harness := (true, "0b4d1d29a3998c965f1d8742a4fc1ef4b7495f3e5309f14e894db8755735a3ac"), looks := false }, kinds := [], alts := [], laidByText := true, laidKinds := [.data, .pinned], laidTests := true, laidLooks := .later }
def FnExactReadTidesUptoCardSaid : Prop := Claim7.holds Tryd.pinned (.plain (OpenSpec.upto fnExactReadTidesSpec)) fnExactReadTidesUptoCard

/-- THE SECOND FORM's CARD OF 'laws.FnTides'. -/
def fnTidesUptoCard : Claim7 := { stood := { row := fnTidesUptoRow, standIns := [], harness := (true, "0b4d1d29a3998c965f1d8742a4fc1ef4b7495f3e5309f14e894db8755735a3ac"), looks := false }, kinds := [], alts := [], laidByText := true, laidKinds := [.data, .data, .data, .data, .pinned], laidTests := true, laidLooks := .later }
def FnTidesUptoCardSaid : Prop := Claim7.holds Tryd.pinned (.plain (OpenSpec.upto fnTidesSpec)) fnTidesUptoCard
end Rows
end Go.Proofs.YtdfhjljlpcjdoaaDoor
