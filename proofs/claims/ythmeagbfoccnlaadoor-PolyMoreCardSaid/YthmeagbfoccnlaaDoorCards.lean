/-
  DERIVED. GIVEN WITH THE SEED: THE CARDS: each row of YthmeagbfoccnlaaDoorRows.lean that lists a variable, with what it lists TIED to the program's text (the seventh form; the later family's looks); each row that meets fmt, with fmt's text TOLD by the authors' own Lean function (tested against real Go, not proved from fmt's source: count such statements apart). THE CARD IS WHAT COUNTS. Prove the row's statement (the work); the ties are given (YthmeagbfoccnlaaDoorTie.lean); close each card by the builder's one call (the guide's Derived/Test/ToyasCard.lean, 'card_holds'). Laid BY PROGRAM, IN A SANDBOX (cutbox-door.mjs). By AI agents, Wed Nov 11 2026. No macro, syntax, notation, axiom, sorry.
-/
import Derived.Test.YthmeagbfoccnlaaDoorRows
import GoSem.ClaimSeven
namespace Go.Proofs.YthmeagbfoccnlaaDoor
namespace Rows

/-- THE TIED CARD OF 'sextonlaw02.PolySums'. -/
def polySumsCard : Claim7 := { stood := { row := polySumsRow, standIns := [], harness := (true, "45ef233ffb7186df711183e83979afdeede9d9f43bd9e836ca7680c43c5a489e"), looks := false }, kinds := [], alts := [], laidByText := true, laidKinds := [.data], laidTests := true, laidLooks := .later }
def PolySumsCardSaid : Prop := Claim7.holds Tryd.pinned (.plain (OpenSpec.ofChange polySumsSpec)) polySumsCard

/-- THE TIED CARD OF 'sextonlaw02.PolyMore'. -/
def polyMoreCard : Claim7 := { stood := { row := polyMoreRow, standIns := [], harness := (true, "45ef233ffb7186df711183e83979afdeede9d9f43bd9e836ca7680c43c5a489e"), looks := false }, kinds := [], alts := [], laidByText := true, laidKinds := [.data], laidTests := true, laidLooks := .later }
def PolyMoreCardSaid : Prop := Claim7.holds Tryd.pinned (.plain (OpenSpec.ofChange polyMoreSpec)) polyMoreCard

/-- THE TIED CARD OF 'sextonlaw02.PolyLinear'. -/
def polyLinearCard : Claim7 := { stood := { row := polyLinearRow, standIns := [], harness := (true, "45ef233ffb7186df711183e83979afdeede9d9f43bd9e836ca7680c43c5a489e"), looks := false }, kinds := [], alts := [], laidByText := true, laidKinds := [.data], laidTests := true, laidLooks := .later }
def PolyLinearCardSaid : Prop := Claim7.holds Tryd.pinned (.plain (OpenSpec.ofChange polyLinearSpec)) polyLinearCard

/-- THE TIED CARD OF 'sextonlaw02.PolyGuards'. -/
def polyGuardsCard : Claim7 := { stood := { row := polyGuardsRow, standIns := [], harness := (true, "45ef233ffb7186df711183e83979afdeede9d9f43bd9e836ca7680c43c5a489e"), looks := false }, kinds := [], alts := [], laidByText := true, laidKinds := [.data], laidTests := true, laidLooks := .later }
def PolyGuardsCardSaid : Prop := Claim7.holds Tryd.pinned (.plain (OpenSpec.ofChange polyGuardsSpec)) polyGuardsCard

/-- THE SECOND FORM's CARD OF 'sextonlaw02.PolySums'. -/
def polySumsUptoCard : Claim7 := { stood := { row := polySumsUptoRow, standIns := [], harness := (true, "45ef233ffb7186df711183e83979afdeede9d9f43bd9e836ca7680c43c5a489e"), looks := false }, kinds := [], alts := [], laidByText := true, laidKinds := [.data], laidTests := true, laidLooks := .later }
def PolySumsUptoCardSaid : Prop := Claim7.holds Tryd.pinned (.plain (OpenSpec.upto polySumsSpec)) polySumsUptoCard

/-- THE SECOND FORM's CARD OF 'sextonlaw02.PolyMore'. -/
def polyMoreUptoCard : Claim7 := { stood := { row := polyMoreUptoRow, standIns := [], harness := (true, "45ef233ffb7186df711183e83979afdeede9d9f43bd9e836ca7680c43c5a489e"), looks := false }, kinds := [], alts := [], laidByText := true, laidKinds := [.data], laidTests := true, laidLooks := .later }
def PolyMoreUptoCardSaid : Prop := Claim7.holds Tryd.pinned (.plain (OpenSpec.upto polyMoreSpec)) polyMoreUptoCard

/-- THE SECOND FORM's CARD OF 'sextonlaw02.PolyLinear'. -/
def polyLinearUptoCard : Claim7 := { stood := { row := polyLinearUptoRow, standIns := [], harness := (true, "45ef233ffb7186df711183e83979afdeede9d9f43bd9e836ca7680c43c5a489e"), looks := false }, kinds := [], alts := [], laidByText := true, laidKinds := [.data], laidTests := true, laidLooks := .later }
def PolyLinearUptoCardSaid : Prop := Claim7.holds Tryd.pinned (.plain (OpenSpec.upto polyLinearSpec)) polyLinearUptoCard

/-- THE SECOND FORM's CARD OF 'sextonlaw02.PolyGuards'. -/
def polyGuardsUptoCard : Claim7 := { stood := { row := polyGuardsUptoRow, standIns := [], harness := (true, "45ef233ffb7186df711183e83979afdeede9d9f43bd9e836ca7680c43c5a489e"), looks := false }, kinds := [], alts := [], laidByText := true, laidKinds := [.data], laidTests := true, laidLooks := .later }
def PolyGuardsUptoCardSaid : Prop := Claim7.holds Tryd.pinned (.plain (OpenSpec.upto polyGuardsSpec)) polyGuardsUptoCard
end Rows
end Go.Proofs.YthmeagbfoccnlaaDoor
