/-
  No cell of these rows narrows 'for every input' (looked for: loops, veiled, ifaces, maps, wideKeys, modest, calm, conditions, laid).
  DERIVED. THE GIVEN ROWS OF THIS SEAT. 5 by the template 'for every input the law returns true; each argument reads behind the call as it read before'; 0 by the template 'total and deterministic' (their statements: YtfelpemelohggaaTotals.lean).
  GIVEN WITH THE SEED: the statements are not yours to turn. If you find one false, say at which input.
  Laid BY PROGRAM, IN A SANDBOX (cutbox-rows.mjs): the forced cells as the released guide's own fill.sh prints them over the translation 6dd9bafcb22a359c… (all of the seat's roots in one cut). By AI agents, Wed Nov 11 2026. No macro, syntax, notation, axiom, sorry.
-/
import Derived.Test.YtfelpemelohggaaChecked
import GoSem.Claim
import GoSem.ClaimJoined
import GoSem.ClaimMapViews
import Derived.JoinedTies
import Derived.KernelRfl
namespace Go.Proofs.Ytfelpemelohggaa
/- THE CELL 'sum', in the pinned program and in every row, IS THE sha256 OF THE DUMP (.gsa) THAT YtfelpemelohggaaProg.lean LOADS. Nothing in Lean hashes anything: it is a label: what it is worth is what the hold of that sum in a sandbox is worth. -/
noncomputable def Try.pinned : Pinned := { name := "ytfelpemelohggaa", sum := "6dd9bafcb22a359c5a1b5fdf8219ad9accf0ba84cd1d48b27c64526d2ca18a8e", checked := Try.checked }
namespace Rows
def none {H : Type} : Left H := { results := [], args := [] }

/-- 'sextonlaw07.AttrGrows': WHATEVER THE INPUT: true; the input reads as it did. -/
def attrGrowsSpec : ChangeSpec := { name := "attrGrows", fn := fun _ => fun
  | [d1, d2, d3] => { results := [.lit (.bool true)], args := [d1, d2, d3] }
  | _ => none }
def attrGrowsRow : OpenClaim := { program := "ytfelpemelohggaa", sum := "6dd9bafcb22a359c5a1b5fdf8219ad9accf0ba84cd1d48b27c64526d2ca18a8e", func := "sexton/sextonlaw07.AttrGrows", spec := "attrGrows", apart := false }
def AttrGrowsSaid : Prop := attrGrowsRow.holds Try.pinned (OpenSpec.ofChange attrGrowsSpec)

/-- ITS FALSE NEIGHBOUR: 'it returns false'. Refute it at one input. -/
def attrGrowsWrong : ChangeSpec := { name := "attrGrows", fn := fun _ => fun
  | [d1, d2, d3] => { results := [.lit (.bool false)], args := [d1, d2, d3] }
  | _ => none }
def AttrGrowsWrongFalsely : Prop := attrGrowsRow.holds Try.pinned (OpenSpec.ofChange attrGrowsWrong)

/-- 'sextonlaw07.AttrLinks': WHATEVER THE INPUT: true; the input reads as it did. -/
def attrLinksSpec : ChangeSpec := { name := "attrLinks", fn := fun _ => fun
  | [d1, d2, d3] => { results := [.lit (.bool true)], args := [d1, d2, d3] }
  | _ => none }
def attrLinksRow : OpenClaim := { program := "ytfelpemelohggaa", sum := "6dd9bafcb22a359c5a1b5fdf8219ad9accf0ba84cd1d48b27c64526d2ca18a8e", func := "sexton/sextonlaw07.AttrLinks", spec := "attrLinks", apart := false }
def AttrLinksSaid : Prop := attrLinksRow.holds Try.pinned (OpenSpec.ofChange attrLinksSpec)

/-- ITS FALSE NEIGHBOUR: 'it returns false'. Refute it at one input. -/
def attrLinksWrong : ChangeSpec := { name := "attrLinks", fn := fun _ => fun
  | [d1, d2, d3] => { results := [.lit (.bool false)], args := [d1, d2, d3] }
  | _ => none }
def AttrLinksWrongFalsely : Prop := attrLinksRow.holds Try.pinned (OpenSpec.ofChange attrLinksWrong)

/-- 'sextonlaw07.AttrCodes': WHATEVER THE INPUT: true; the input reads as it did. -/
def attrCodesSpec : ChangeSpec := { name := "attrCodes", fn := fun _ => fun
  | [d1, d2] => { results := [.lit (.bool true)], args := [d1, d2] }
  | _ => none }
def attrCodesRow : OpenClaim := { program := "ytfelpemelohggaa", sum := "6dd9bafcb22a359c5a1b5fdf8219ad9accf0ba84cd1d48b27c64526d2ca18a8e", func := "sexton/sextonlaw07.AttrCodes", spec := "attrCodes", apart := false }
def AttrCodesSaid : Prop := attrCodesRow.holds Try.pinned (OpenSpec.ofChange attrCodesSpec)

/-- ITS FALSE NEIGHBOUR: 'it returns false'. Refute it at one input. -/
def attrCodesWrong : ChangeSpec := { name := "attrCodes", fn := fun _ => fun
  | [d1, d2] => { results := [.lit (.bool false)], args := [d1, d2] }
  | _ => none }
def AttrCodesWrongFalsely : Prop := attrCodesRow.holds Try.pinned (OpenSpec.ofChange attrCodesWrong)

/-- 'sextonlaw07.AttrStamps': WHATEVER THE INPUT: true; the input reads as it did. -/
def attrStampsSpec : ChangeSpec := { name := "attrStamps", fn := fun _ => fun
  | [d1, d2, d3] => { results := [.lit (.bool true)], args := [d1, d2, d3] }
  | _ => none }
def attrStampsRow : OpenClaim := { program := "ytfelpemelohggaa", sum := "6dd9bafcb22a359c5a1b5fdf8219ad9accf0ba84cd1d48b27c64526d2ca18a8e", func := "sexton/sextonlaw07.AttrStamps", spec := "attrStamps", apart := false }
def AttrStampsSaid : Prop := attrStampsRow.holds Try.pinned (OpenSpec.ofChange attrStampsSpec)

/-- ITS FALSE NEIGHBOUR: 'it returns false'. Refute it at one input. -/
def attrStampsWrong : ChangeSpec := { name := "attrStamps", fn := fun _ => fun
  | [d1, d2, d3] => { results := [.lit (.bool false)], args := [d1, d2, d3] }
  | _ => none }
def AttrStampsWrongFalsely : Prop := attrStampsRow.holds Try.pinned (OpenSpec.ofChange attrStampsWrong)

/-- 'sextonlaw07.AttrBack': WHATEVER THE INPUT: true; the input reads as it did. -/
def attrBackSpec : ChangeSpec := { name := "attrBack", fn := fun _ => fun
  | [d] => { results := [.lit (.bool true)], args := [d] }
  | _ => none }
def attrBackRow : OpenClaim := { program := "ytfelpemelohggaa", sum := "6dd9bafcb22a359c5a1b5fdf8219ad9accf0ba84cd1d48b27c64526d2ca18a8e", func := "sexton/sextonlaw07.AttrBack", spec := "attrBack", apart := false }
def AttrBackSaid : Prop := attrBackRow.holds Try.pinned (OpenSpec.ofChange attrBackSpec)

/-- ITS FALSE NEIGHBOUR: 'it returns false'. Refute it at one input. -/
def attrBackWrong : ChangeSpec := { name := "attrBack", fn := fun _ => fun
  | [d] => { results := [.lit (.bool false)], args := [d] }
  | _ => none }
def AttrBackWrongFalsely : Prop := attrBackRow.holds Try.pinned (OpenSpec.ofChange attrBackWrong)

/- THE SECOND FORM. 'bulk': how many values and letters a reading holds, each counted each time it is reached (what is shared counts as often as it is met; a slice's spare places count too). A statement '..UptoSaid' is the law's where the arguments, and the package variables that the reading takes, are together of bulk at most 1048576: NARROWER than '..Said'. Prove '..Said' where nothing that the law and all that it calls make is longer than what came in: it says more and counts as full. Else prove '..UptoSaid'. A law counts once. -/
mutual
def uptoBulk {H : Type} : DataW H → Nat
  | .lit (.string bytes) => bytes.length + 1
  | .lit _ => 1
  | .nil => 1
  | .ptr d => uptoBulk d + 1
  | .slice elems spare => uptoBulkAll elems + uptoBulkAll spare + 1
  | .agg parts => uptoBulkAll parts + 1
  | .iface _ d => uptoBulk d + 1
  | .map entries => uptoBulkEntries entries + 1
  | .held _ => 1
def uptoBulkAll {H : Type} : List (DataW H) → Nat
  | [] => 0
  | d :: r => uptoBulk d + uptoBulkAll r
def uptoBulkEntries {H : Type} : List (Lit × DataW H) → Nat
  | [] => 0
  | x :: r => uptoBulkEntry x + uptoBulkEntries r
def uptoBulkEntry {H : Type} : Lit × DataW H → Nat
  | (.string bytes, d) => bytes.length + uptoBulk d + 1
  | (_, d) => uptoBulk d + 1
 end
def uptoSmall : (H : Type) → List (DataW H) → Bool := fun _ ds => decide (uptoBulkAll ds ≤ 1048576)
def OpenSpec.upto (s : _root_.Go.ChangeSpec) : _root_.Go.OpenSpec := { _root_.Go.OpenSpec.ofChange s with cond := some uptoSmall }

/-- 'sextonlaw07.AttrGrows', WHERE WHAT IT READS IS OF BULK AT MOST 1048576: true; the input reads as it did. -/
def attrGrowsUptoRow : OpenClaim := { program := "ytfelpemelohggaa", sum := "6dd9bafcb22a359c5a1b5fdf8219ad9accf0ba84cd1d48b27c64526d2ca18a8e", func := "sexton/sextonlaw07.AttrGrows", spec := "attrGrows", apart := false, narrowed := true }
def AttrGrowsUptoSaid : Prop := attrGrowsUptoRow.holds Try.pinned (OpenSpec.upto attrGrowsSpec)

/-- 'sextonlaw07.AttrLinks', WHERE WHAT IT READS IS OF BULK AT MOST 1048576: true; the input reads as it did. -/
def attrLinksUptoRow : OpenClaim := { program := "ytfelpemelohggaa", sum := "6dd9bafcb22a359c5a1b5fdf8219ad9accf0ba84cd1d48b27c64526d2ca18a8e", func := "sexton/sextonlaw07.AttrLinks", spec := "attrLinks", apart := false, narrowed := true }
def AttrLinksUptoSaid : Prop := attrLinksUptoRow.holds Try.pinned (OpenSpec.upto attrLinksSpec)

/-- 'sextonlaw07.AttrCodes', WHERE WHAT IT READS IS OF BULK AT MOST 1048576: true; the input reads as it did. -/
def attrCodesUptoRow : OpenClaim := { program := "ytfelpemelohggaa", sum := "6dd9bafcb22a359c5a1b5fdf8219ad9accf0ba84cd1d48b27c64526d2ca18a8e", func := "sexton/sextonlaw07.AttrCodes", spec := "attrCodes", apart := false, narrowed := true }
def AttrCodesUptoSaid : Prop := attrCodesUptoRow.holds Try.pinned (OpenSpec.upto attrCodesSpec)

/-- 'sextonlaw07.AttrStamps', WHERE WHAT IT READS IS OF BULK AT MOST 1048576: true; the input reads as it did. -/
def attrStampsUptoRow : OpenClaim := { program := "ytfelpemelohggaa", sum := "6dd9bafcb22a359c5a1b5fdf8219ad9accf0ba84cd1d48b27c64526d2ca18a8e", func := "sexton/sextonlaw07.AttrStamps", spec := "attrStamps", apart := false, narrowed := true }
def AttrStampsUptoSaid : Prop := attrStampsUptoRow.holds Try.pinned (OpenSpec.upto attrStampsSpec)

/-- 'sextonlaw07.AttrBack', WHERE WHAT IT READS IS OF BULK AT MOST 1048576: true; the input reads as it did. -/
def attrBackUptoRow : OpenClaim := { program := "ytfelpemelohggaa", sum := "6dd9bafcb22a359c5a1b5fdf8219ad9accf0ba84cd1d48b27c64526d2ca18a8e", func := "sexton/sextonlaw07.AttrBack", spec := "attrBack", apart := false, narrowed := true }
def AttrBackUptoSaid : Prop := attrBackUptoRow.holds Try.pinned (OpenSpec.upto attrBackSpec)

end Rows
end Go.Proofs.Ytfelpemelohggaa
