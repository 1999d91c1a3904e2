/-
  NARROWER THAN 'FOR EVERY INPUT', by the rows' own cells (each row's printed sentence says how): PolySums: laid · PolyMore: laid · PolyLinear: laid · PolyGuards: laid.
  DERIVED. THE GIVEN ROWS OF THIS SEAT. 4 by the template 'for every input the law returns true; each argument reads behind the call as it read before'; 0 by the template 'total and deterministic' (their statements: YthmeagbfoccnlaaDoorTotals.lean).
  GIVEN WITH THE SEED: the statements are not yours to turn. If you find one false, say at which input.
  Laid BY PROGRAM, IN A SANDBOX (cutbox-rows.mjs): the forced cells as the released guide's own fill.sh prints them over the translation 68499006ab12153f… (all of the seat's roots in one cut). By AI agents, Wed Nov 11 2026. No macro, syntax, notation, axiom, sorry.
-/
import Derived.Test.YthmeagbfoccnlaaDoorChecked
import GoSem.Claim
import GoSem.ClaimJoined
import GoSem.ClaimMapViews
import Derived.JoinedTies
import Derived.KernelRfl
namespace Go.Proofs.YthmeagbfoccnlaaDoor
/- THE CELL 'sum', in the pinned program and in every row, IS THE sha256 OF THE DUMP (.gsa) THAT YthmeagbfoccnlaaDoorProg.lean LOADS. Nothing in Lean hashes anything: it is a label: what it is worth is what the hold of that sum in a sandbox is worth. -/
noncomputable def Tryd.pinned : Pinned := { name := "ythmeagbfoccnlaadoor", sum := "68499006ab12153fee4a0c7fc9ed90628e949decbc75cd4af94bc9a1630806fc", checked := Tryd.checked }
namespace Rows
def none {H : Type} : Left H := { results := [], args := [] }

/- WHAT THE LISTED PACKAGE-LEVEL VARIABLES READ AS WHEN THE CALL BEGINS. Each datum BY PROGRAM (the guide's laid-datum.mjs) off the statement by which the dump's own 'gosem.cut.vars' lays the variable. In a bare row this is a premise. The card (YthmeagbfoccnlaaDoorCards.lean) ties it to the program's text. -/
def laid_sexton_poly_nibbles {H : Type} : DataW H := .agg [.lit (.int .u32 0), .lit (.int .u32 498536548), .lit (.int .u32 997073096), .lit (.int .u32 651767980), .lit (.int .u32 1994146192), .lit (.int .u32 1802195444), .lit (.int .u32 1303535960), .lit (.int .u32 1342533948), .lit (.int .u32 3988292384), .lit (.int .u32 4027552580), .lit (.int .u32 3604390888), .lit (.int .u32 3412177804), .lit (.int .u32 2607071920), .lit (.int .u32 2262029012), .lit (.int .u32 2685067896), .lit (.int .u32 3183342108)]

/-- 'sextonlaw02.PolySums': WHATEVER THE INPUT: true; the input reads as it did. -/
def polySumsSpec : ChangeSpec := { name := "polySums", fn := fun _ => fun
  | [d] => { results := [.lit (.bool true)], args := [d] }
  | _ => none }
def polySumsRow : OpenClaim := { program := "ythmeagbfoccnlaadoor", sum := "68499006ab12153fee4a0c7fc9ed90628e949decbc75cd4af94bc9a1630806fc", func := "sexton/sextonlaw02.PolySums", spec := "polySums", named := ["sexton/poly.nibbles"], apart := false, laid := [("sexton/poly.nibbles", laid_sexton_poly_nibbles)] }
def PolySumsSaid : Prop := polySumsRow.holds Tryd.pinned (OpenSpec.ofChange polySumsSpec)

/-- ITS FALSE NEIGHBOUR: 'it returns false'. Refute it at one input. -/
def polySumsWrong : ChangeSpec := { name := "polySums", fn := fun _ => fun
  | [d] => { results := [.lit (.bool false)], args := [d] }
  | _ => none }
def PolySumsWrongFalsely : Prop := polySumsRow.holds Tryd.pinned (OpenSpec.ofChange polySumsWrong)

/-- 'sextonlaw02.PolyMore': WHATEVER THE INPUT: true; the input reads as it did. -/
def polyMoreSpec : ChangeSpec := { name := "polyMore", fn := fun _ => fun
  | [d1, d2, d3] => { results := [.lit (.bool true)], args := [d1, d2, d3] }
  | _ => none }
def polyMoreRow : OpenClaim := { program := "ythmeagbfoccnlaadoor", sum := "68499006ab12153fee4a0c7fc9ed90628e949decbc75cd4af94bc9a1630806fc", func := "sexton/sextonlaw02.PolyMore", spec := "polyMore", named := ["sexton/poly.nibbles"], apart := false, laid := [("sexton/poly.nibbles", laid_sexton_poly_nibbles)] }
def PolyMoreSaid : Prop := polyMoreRow.holds Tryd.pinned (OpenSpec.ofChange polyMoreSpec)

/-- ITS FALSE NEIGHBOUR: 'it returns false'. Refute it at one input. -/
def polyMoreWrong : ChangeSpec := { name := "polyMore", fn := fun _ => fun
  | [d1, d2, d3] => { results := [.lit (.bool false)], args := [d1, d2, d3] }
  | _ => none }
def PolyMoreWrongFalsely : Prop := polyMoreRow.holds Tryd.pinned (OpenSpec.ofChange polyMoreWrong)

/-- 'sextonlaw02.PolyLinear': WHATEVER THE INPUT: true; the input reads as it did. -/
def polyLinearSpec : ChangeSpec := { name := "polyLinear", fn := fun _ => fun
  | [d1, d2, d3] => { results := [.lit (.bool true)], args := [d1, d2, d3] }
  | _ => none }
def polyLinearRow : OpenClaim := { program := "ythmeagbfoccnlaadoor", sum := "68499006ab12153fee4a0c7fc9ed90628e949decbc75cd4af94bc9a1630806fc", func := "sexton/sextonlaw02.PolyLinear", spec := "polyLinear", named := ["sexton/poly.nibbles"], apart := false, laid := [("sexton/poly.nibbles", laid_sexton_poly_nibbles)] }
def PolyLinearSaid : Prop := polyLinearRow.holds Tryd.pinned (OpenSpec.ofChange polyLinearSpec)

/-- ITS FALSE NEIGHBOUR: 'it returns false'. Refute it at one input. -/
def polyLinearWrong : ChangeSpec := { name := "polyLinear", fn := fun _ => fun
  | [d1, d2, d3] => { results := [.lit (.bool false)], args := [d1, d2, d3] }
  | _ => none }
def PolyLinearWrongFalsely : Prop := polyLinearRow.holds Tryd.pinned (OpenSpec.ofChange polyLinearWrong)

/-- 'sextonlaw02.PolyGuards': WHATEVER THE INPUT: true; the input reads as it did. -/
def polyGuardsSpec : ChangeSpec := { name := "polyGuards", fn := fun _ => fun
  | [d] => { results := [.lit (.bool true)], args := [d] }
  | _ => none }
def polyGuardsRow : OpenClaim := { program := "ythmeagbfoccnlaadoor", sum := "68499006ab12153fee4a0c7fc9ed90628e949decbc75cd4af94bc9a1630806fc", func := "sexton/sextonlaw02.PolyGuards", spec := "polyGuards", named := ["sexton/poly.nibbles"], apart := false, laid := [("sexton/poly.nibbles", laid_sexton_poly_nibbles)] }
def PolyGuardsSaid : Prop := polyGuardsRow.holds Tryd.pinned (OpenSpec.ofChange polyGuardsSpec)

/-- ITS FALSE NEIGHBOUR: 'it returns false'. Refute it at one input. -/
def polyGuardsWrong : ChangeSpec := { name := "polyGuards", fn := fun _ => fun
  | [d] => { results := [.lit (.bool false)], args := [d] }
  | _ => none }
def PolyGuardsWrongFalsely : Prop := polyGuardsRow.holds Tryd.pinned (OpenSpec.ofChange polyGuardsWrong)

/- THE SECOND FORM. 'bulk': how many values and letters a reading holds, each counted each time it is reached (what is shared counts as often as it is met; a slice's spare places count too). A statement '..UptoSaid' is the law's where the arguments, and the package variables that the reading takes, are together of bulk at most 1048576: NARROWER than '..Said'. Prove '..Said' where nothing that the law and all that it calls make is longer than what came in: it says more and counts as full. Else prove '..UptoSaid'. A law counts once. -/
mutual
def uptoBulk {H : Type} : DataW H → Nat
  | .lit (.string bytes) => bytes.length + 1
  | .lit _ => 1
  | .nil => 1
  | .ptr d => uptoBulk d + 1
  | .slice elems spare => uptoBulkAll elems + uptoBulkAll spare + 1
  | .agg parts => uptoBulkAll parts + 1
  | .iface _ d => uptoBulk d + 1
  | .map entries => uptoBulkEntries entries + 1
  | .held _ => 1
def uptoBulkAll {H : Type} : List (DataW H) → Nat
  | [] => 0
  | d :: r => uptoBulk d + uptoBulkAll r
def uptoBulkEntries {H : Type} : List (Lit × DataW H) → Nat
  | [] => 0
  | x :: r => uptoBulkEntry x + uptoBulkEntries r
def uptoBulkEntry {H : Type} : Lit × DataW H → Nat
  | (.string bytes, d) => bytes.length + uptoBulk d + 1
  | (_, d) => uptoBulk d + 1
 end
def uptoSmall : (H : Type) → List (DataW H) → Bool := fun _ ds => decide (uptoBulkAll ds ≤ 1048576)
def OpenSpec.upto (s : _root_.Go.ChangeSpec) : _root_.Go.OpenSpec := { _root_.Go.OpenSpec.ofChange s with cond := some uptoSmall }

/-- 'sextonlaw02.PolySums', WHERE WHAT IT READS IS OF BULK AT MOST 1048576: true; the input reads as it did. -/
def polySumsUptoRow : OpenClaim := { program := "ythmeagbfoccnlaadoor", sum := "68499006ab12153fee4a0c7fc9ed90628e949decbc75cd4af94bc9a1630806fc", func := "sexton/sextonlaw02.PolySums", spec := "polySums", named := ["sexton/poly.nibbles"], apart := false, laid := [("sexton/poly.nibbles", laid_sexton_poly_nibbles)], narrowed := true }
def PolySumsUptoSaid : Prop := polySumsUptoRow.holds Tryd.pinned (OpenSpec.upto polySumsSpec)

/-- 'sextonlaw02.PolyMore', WHERE WHAT IT READS IS OF BULK AT MOST 1048576: true; the input reads as it did. -/
def polyMoreUptoRow : OpenClaim := { program := "ythmeagbfoccnlaadoor", sum := "68499006ab12153fee4a0c7fc9ed90628e949decbc75cd4af94bc9a1630806fc", func := "sexton/sextonlaw02.PolyMore", spec := "polyMore", named := ["sexton/poly.nibbles"], apart := false, laid := [("sexton/poly.nibbles", laid_sexton_poly_nibbles)], narrowed := true }
def PolyMoreUptoSaid : Prop := polyMoreUptoRow.holds Tryd.pinned (OpenSpec.upto polyMoreSpec)

/-- 'sextonlaw02.PolyLinear', WHERE WHAT IT READS IS OF BULK AT MOST 1048576: true; the input reads as it did. -/
def polyLinearUptoRow : OpenClaim := { program := "ythmeagbfoccnlaadoor", sum := "68499006ab12153fee4a0c7fc9ed90628e949decbc75cd4af94bc9a1630806fc", func := "sexton/sextonlaw02.PolyLinear", spec := "polyLinear", named := ["sexton/poly.nibbles"], apart := false, laid := [("sexton/poly.nibbles", laid_sexton_poly_nibbles)], narrowed := true }
def PolyLinearUptoSaid : Prop := polyLinearUptoRow.holds Tryd.pinned (OpenSpec.upto polyLinearSpec)

/-- 'sextonlaw02.PolyGuards', WHERE WHAT IT READS IS OF BULK AT MOST 1048576: true; the input reads as it did. -/
def polyGuardsUptoRow : OpenClaim := { program := "ythmeagbfoccnlaadoor", sum := "68499006ab12153fee4a0c7fc9ed90628e949decbc75cd4af94bc9a1630806fc", func := "sexton/sextonlaw02.PolyGuards", spec := "polyGuards", named := ["sexton/poly.nibbles"], apart := false, laid := [("sexton/poly.nibbles", laid_sexton_poly_nibbles)], narrowed := true }
def PolyGuardsUptoSaid : Prop := polyGuardsUptoRow.holds Tryd.pinned (OpenSpec.upto polyGuardsSpec)

end Rows
end Go.Proofs.YthmeagbfoccnlaaDoor
