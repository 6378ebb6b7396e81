/-
  DERIVED. GIVEN WITH THE SEED: THE CARDS: each row of YteffdjfiialdfaaDoorRows.lean that lists a variable, with what it lists TIED to the program's text (the seventh form; the later family's looks); each row that meets fmt, with fmt's text TOLD by the authors' own Lean function (tested against real Go, not proved from fmt's source: count such statements apart). THE CARD IS WHAT COUNTS. Prove the row's statement (the work); the ties are given (YteffdjfiialdfaaDoorTie.lean); close each card by the builder's one call (the guide's Derived/Test/ToyasCard.lean, 'card_holds'). Laid BY PROGRAM, IN A SANDBOX (cutbox-door.mjs). By AI agents, Wed Nov 11 2026. No macro, syntax, notation, axiom, sorry.
-/
import Derived.Test.YteffdjfiialdfaaDoorRows
import GoSem.ClaimSeven
namespace Go.Proofs.YteffdjfiialdfaaDoor
namespace Rows

/-- THE TIED CARD OF 'laws.FnExactBayText'. -/
def fnExactBayTextCard : Claim7 := { stood := { row := fnExactBayTextRow, standIns := [], harness := (true, "60c03d19bba42591af1998a450ee68d3685093ff40284cbd58823c31bbf828ad"), looks := false }, kinds := [], alts := [], laidByText := true, laidKinds := [.data, .data, .data], laidTests := true, laidLooks := .later }
def FnExactBayTextCardSaid : Prop := Claim7.holds Tryd.pinned (.plain (OpenSpec.ofChange fnExactBayTextSpec)) fnExactBayTextCard

/-- THE TIED CARD OF 'laws.FnExactBoatsText'. -/
def fnExactBoatsTextCard : Claim7 := { stood := { row := fnExactBoatsTextRow, standIns := [], harness := (true, "60c03d19bba42591af1998a450ee68d3685093ff40284cbd58823c31bbf828ad"), looks := false }, kinds := [], alts := [], laidByText := true, laidKinds := [.data, .data, .data], laidTests := true, laidLooks := .later }
def FnExactBoatsTextCardSaid : Prop := Claim7.holds Tryd.pinned (.plain (OpenSpec.ofChange fnExactBoatsTextSpec)) fnExactBoatsTextCard

/-- THE TIED CARD OF 'laws.FnExactReadBay'. -/
def fnExactReadBayCard : Claim7 := { stood := { row := fnExactReadBayRow, standIns := [], harness := (true, "60c03d19bba42591af1998a450ee68d3685093ff40284cbd58823c31bbf828ad"), looks := false }, kinds := [], alts := [], laidByText := true, laidKinds := [.data, .pinned], laidTests := true, laidLooks := .later }
def FnExactReadBayCardSaid : Prop := Claim7.holds Tryd.pinned (.plain (OpenSpec.ofChange fnExactReadBaySpec)) fnExactReadBayCard

/-- THE TIED CARD OF 'laws.FnExactReadBoats'. -/
def fnExactReadBoatsCard : Claim7 := { stood := { row := fnExactReadBoatsRow, standIns := [], harness := (true, "60c03d19bba42591af1998a450ee68d3685093ff40284cbd58823c31bbf828ad"), looks := false }, kinds := [], alts := [], laidByText := true, laidKinds := [.data, .pinned], laidTests := true, laidLooks := .later }
def FnExactReadBoatsCardSaid : Prop := Claim7.holds Tryd.pinned (.plain (OpenSpec.ofChange fnExactReadBoatsSpec)) fnExactReadBoatsCard

/-- THE SECOND FORM's CARD OF 'laws.FnExactBayText'. -/
def fnExactBayTextUptoCard : Claim7 := { stood := { row := fnExactBayTextUptoRow, standIns := [], harness := (true, "60c03d19bba42591af1998a450ee68d3685093ff40284cbd58823c31bbf828ad"), looks := false }, kinds := [], alts := [], laidByText := true, laidKinds := [.data, .data, .data], laidTests := true, laidLooks := .later }
def FnExactBayTextUptoCardSaid : Prop := Claim7.holds Tryd.pinned (.plain (OpenSpec.upto fnExactBayTextSpec)) fnExactBayTextUptoCard

/-- THE SECOND FORM's CARD OF 'laws.FnExactBoatsText'. -/
def fnExactBoatsTextUptoCard : Claim7 := { stood := { row := fnExactBoatsTextUptoRow, standIns := [], harness := (true, "60c03d19bba42591af1998a450ee68d3685093ff40284cbd58823c31bbf828ad"), looks := false }, kinds := [], alts := [], laidByText := true, laidKinds := [.data, .data, .data], laidTests := true, laidLooks := .later }
def FnExactBoatsTextUptoCardSaid : Prop := Claim7.holds Tryd.pinned (.plain (OpenSpec.upto fnExactBoatsTextSpec)) fnExactBoatsTextUptoCard

/-- THE SECOND FORM's CARD OF 'laws.FnExactReadBay'. -/
def fnExactReadBayUptoCard : Claim7 := { stood := { row := fnExactReadBayUptoRow, standIns := [], harness := (true, "60c03d19bba42591af1998a450ee68d3685093ff40284cbd58823c31bbf828ad"), looks := false }, kinds := [], alts := [], laidByText := true, laidKinds := [.data, .pinned], laidTests := true, laidLooks := .later }
def FnExactReadBayUptoCardSaid : Prop := Claim7.holds Tryd.pinned (.plain (OpenSpec.upto fnExactReadBaySpec)) fnExactReadBayUptoCard

/-- THE SECOND FORM's CARD OF 'laws.FnExactReadBoats'. -/
def fnExactReadBoatsUptoCard : Claim7 := { stood := { row := fnExactReadBoatsUptoRow, standIns := [], harness := (true, "60c03d19bba42591af1998a450ee68d3685093ff40284cbd58823c31bbf828ad"), looks := false }, kinds := [], alts := [], laidByText := true, laidKinds := [.data, .pinned], laidTests := true, laidLooks := .later }
def FnExactReadBoatsUptoCardSaid : Prop := Claim7.holds Tryd.pinned (.plain (OpenSpec.upto fnExactReadBoatsSpec)) fnExactReadBoatsUptoCard
end Rows
end Go.Proofs.YteffdjfiialdfaaDoor
