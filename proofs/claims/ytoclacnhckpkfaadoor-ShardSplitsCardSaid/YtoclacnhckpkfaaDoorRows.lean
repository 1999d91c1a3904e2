/-
  NARROWER THAN 'FOR EVERY INPUT', by the rows' own cells (each row's printed sentence says how): ShardSplits: laid · ShardWhole: laid · ShardTwo: laid · ShardSteps: laid · ShardNil: laid.
  DERIVED. THE GIVEN ROWS OF THIS SEAT. 5 by the template 'for every input the law returns true; each argument reads behind the call as it read before'; 0 by the template 'total and deterministic' (their statements: YtoclacnhckpkfaaDoorTotals.lean).
  GIVEN WITH THE SEED: the statements are not yours to turn. If you find one false, say at which input.
  Laid BY PROGRAM, IN A SANDBOX (cutbox-rows.mjs): the forced cells as the released guide's own fill.sh prints them over the translation cbca2849967431c1… (all of the seat's roots in one cut). By AI agents, Wed Nov 11 2026. No macro, syntax, notation, axiom, sorry.
-/
import Derived.Test.YtoclacnhckpkfaaDoorChecked
import GoSem.Claim
import GoSem.ClaimJoined
import GoSem.ClaimMapViews
import Derived.JoinedTies
import Derived.KernelRfl
namespace Go.Proofs.YtoclacnhckpkfaaDoor
/- THE CELL 'sum', in the pinned program and in every row, IS THE sha256 OF THE DUMP (.gsa) THAT YtoclacnhckpkfaaDoorProg.lean LOADS. Nothing in Lean hashes anything: it is a label: what it is worth is what the hold of that sum in a sandbox is worth. -/
noncomputable def Tryd.pinned : Pinned := { name := "ytoclacnhckpkfaadoor", sum := "cbca2849967431c180ac6ddd02ee6cf20799d30be20f59def7b4565d3ff4ba2b", checked := Tryd.checked }
namespace Rows
def none {H : Type} : Left H := { results := [], args := [] }

/- WHAT THE LISTED PACKAGE-LEVEL VARIABLES READ AS WHEN THE CALL BEGINS. Each datum BY PROGRAM (the guide's laid-datum.mjs) off the statement by which the dump's own 'gosem.cut.vars' lays the variable. In a bare row this is a premise. The card (YtoclacnhckpkfaaDoorCards.lean) ties it to the program's text. -/
def laid_sexton_poly_nibbles {H : Type} : DataW H := .agg [.lit (.int .u32 0), .lit (.int .u32 498536548), .lit (.int .u32 997073096), .lit (.int .u32 651767980), .lit (.int .u32 1994146192), .lit (.int .u32 1802195444), .lit (.int .u32 1303535960), .lit (.int .u32 1342533948), .lit (.int .u32 3988292384), .lit (.int .u32 4027552580), .lit (.int .u32 3604390888), .lit (.int .u32 3412177804), .lit (.int .u32 2607071920), .lit (.int .u32 2262029012), .lit (.int .u32 2685067896), .lit (.int .u32 3183342108)]

/-- 'sextonlaw19.ShardSplits': WHATEVER THE INPUT: true; the input reads as it did. -/
def shardSplitsSpec : ChangeSpec := { name := "shardSplits", fn := fun _ => fun
  | [d1, d2, d3] => { results := [.lit (.bool true)], args := [d1, d2, d3] }
  | _ => none }
def shardSplitsRow : OpenClaim := { program := "ytoclacnhckpkfaadoor", sum := "cbca2849967431c180ac6ddd02ee6cf20799d30be20f59def7b4565d3ff4ba2b", func := "sexton/sextonlaw19.ShardSplits", spec := "shardSplits", inPlace := ["internal/abi.NoEscape", "internal/bytealg.MakeNoZero"], named := ["sexton/poly.nibbles"], apart := false, laid := [("sexton/poly.nibbles", laid_sexton_poly_nibbles)] }
def ShardSplitsSaid : Prop := shardSplitsRow.holds Tryd.pinned (OpenSpec.ofChange shardSplitsSpec)

/-- ITS FALSE NEIGHBOUR: 'it returns false'. Refute it at one input. -/
def shardSplitsWrong : ChangeSpec := { name := "shardSplits", fn := fun _ => fun
  | [d1, d2, d3] => { results := [.lit (.bool false)], args := [d1, d2, d3] }
  | _ => none }
def ShardSplitsWrongFalsely : Prop := shardSplitsRow.holds Tryd.pinned (OpenSpec.ofChange shardSplitsWrong)

/-- 'sextonlaw19.ShardWhole': WHATEVER THE INPUT: true; the input reads as it did. -/
def shardWholeSpec : ChangeSpec := { name := "shardWhole", fn := fun _ => fun
  | [d1, d2, d3] => { results := [.lit (.bool true)], args := [d1, d2, d3] }
  | _ => none }
def shardWholeRow : OpenClaim := { program := "ytoclacnhckpkfaadoor", sum := "cbca2849967431c180ac6ddd02ee6cf20799d30be20f59def7b4565d3ff4ba2b", func := "sexton/sextonlaw19.ShardWhole", spec := "shardWhole", inPlace := ["internal/abi.NoEscape", "internal/bytealg.MakeNoZero"], named := ["sexton/poly.nibbles"], apart := false, laid := [("sexton/poly.nibbles", laid_sexton_poly_nibbles)] }
def ShardWholeSaid : Prop := shardWholeRow.holds Tryd.pinned (OpenSpec.ofChange shardWholeSpec)

/-- ITS FALSE NEIGHBOUR: 'it returns false'. Refute it at one input. -/
def shardWholeWrong : ChangeSpec := { name := "shardWhole", fn := fun _ => fun
  | [d1, d2, d3] => { results := [.lit (.bool false)], args := [d1, d2, d3] }
  | _ => none }
def ShardWholeWrongFalsely : Prop := shardWholeRow.holds Tryd.pinned (OpenSpec.ofChange shardWholeWrong)

/-- 'sextonlaw19.ShardTwo': WHATEVER THE INPUT: true; the input reads as it did. -/
def shardTwoSpec : ChangeSpec := { name := "shardTwo", fn := fun _ => fun
  | [d1, d2, d3] => { results := [.lit (.bool true)], args := [d1, d2, d3] }
  | _ => none }
def shardTwoRow : OpenClaim := { program := "ytoclacnhckpkfaadoor", sum := "cbca2849967431c180ac6ddd02ee6cf20799d30be20f59def7b4565d3ff4ba2b", func := "sexton/sextonlaw19.ShardTwo", spec := "shardTwo", inPlace := ["internal/abi.NoEscape", "internal/bytealg.MakeNoZero"], named := ["sexton/poly.nibbles"], apart := false, laid := [("sexton/poly.nibbles", laid_sexton_poly_nibbles)] }
def ShardTwoSaid : Prop := shardTwoRow.holds Tryd.pinned (OpenSpec.ofChange shardTwoSpec)

/-- ITS FALSE NEIGHBOUR: 'it returns false'. Refute it at one input. -/
def shardTwoWrong : ChangeSpec := { name := "shardTwo", fn := fun _ => fun
  | [d1, d2, d3] => { results := [.lit (.bool false)], args := [d1, d2, d3] }
  | _ => none }
def ShardTwoWrongFalsely : Prop := shardTwoRow.holds Tryd.pinned (OpenSpec.ofChange shardTwoWrong)

/-- 'sextonlaw19.ShardSteps': WHATEVER THE INPUT: true; the input reads as it did. -/
def shardStepsSpec : ChangeSpec := { name := "shardSteps", fn := fun _ => fun
  | [d1, d2] => { results := [.lit (.bool true)], args := [d1, d2] }
  | _ => none }
def shardStepsRow : OpenClaim := { program := "ytoclacnhckpkfaadoor", sum := "cbca2849967431c180ac6ddd02ee6cf20799d30be20f59def7b4565d3ff4ba2b", func := "sexton/sextonlaw19.ShardSteps", spec := "shardSteps", inPlace := ["internal/abi.NoEscape", "internal/bytealg.MakeNoZero"], named := ["sexton/poly.nibbles"], apart := false, laid := [("sexton/poly.nibbles", laid_sexton_poly_nibbles)] }
def ShardStepsSaid : Prop := shardStepsRow.holds Tryd.pinned (OpenSpec.ofChange shardStepsSpec)

/-- ITS FALSE NEIGHBOUR: 'it returns false'. Refute it at one input. -/
def shardStepsWrong : ChangeSpec := { name := "shardSteps", fn := fun _ => fun
  | [d1, d2] => { results := [.lit (.bool false)], args := [d1, d2] }
  | _ => none }
def ShardStepsWrongFalsely : Prop := shardStepsRow.holds Tryd.pinned (OpenSpec.ofChange shardStepsWrong)

/-- 'sextonlaw19.ShardNil': WHATEVER THE INPUT: true; the input reads as it did. -/
def shardNilSpec : ChangeSpec := { name := "shardNil", fn := fun _ => fun
  | [d] => { results := [.lit (.bool true)], args := [d] }
  | _ => none }
def shardNilRow : OpenClaim := { program := "ytoclacnhckpkfaadoor", sum := "cbca2849967431c180ac6ddd02ee6cf20799d30be20f59def7b4565d3ff4ba2b", func := "sexton/sextonlaw19.ShardNil", spec := "shardNil", inPlace := ["internal/abi.NoEscape", "internal/bytealg.MakeNoZero"], named := ["sexton/poly.nibbles"], apart := false, laid := [("sexton/poly.nibbles", laid_sexton_poly_nibbles)] }
def ShardNilSaid : Prop := shardNilRow.holds Tryd.pinned (OpenSpec.ofChange shardNilSpec)

/-- ITS FALSE NEIGHBOUR: 'it returns false'. Refute it at one input. -/
def shardNilWrong : ChangeSpec := { name := "shardNil", fn := fun _ => fun
  | [d] => { results := [.lit (.bool false)], args := [d] }
  | _ => none }
def ShardNilWrongFalsely : Prop := shardNilRow.holds Tryd.pinned (OpenSpec.ofChange shardNilWrong)

/- THE SECOND FORM. 'bulk': how many values and letters a reading holds, each counted each time it is reached (what is shared counts as often as it is met; a slice's spare places count too). A statement '..UptoSaid' is the law's where the arguments, and the package variables that the reading takes, are together of bulk at most 1048576: NARROWER than '..Said'. Prove '..Said' where nothing that the law and all that it calls make is longer than what came in: it says more and counts as full. Else prove '..UptoSaid'. A law counts once. -/
mutual
def uptoBulk {H : Type} : DataW H → Nat
  | .lit (.string bytes) => bytes.length + 1
  | .lit _ => 1
  | .nil => 1
  | .ptr d => uptoBulk d + 1
  | .slice elems spare => uptoBulkAll elems + uptoBulkAll spare + 1
  | .agg parts => uptoBulkAll parts + 1
  | .iface _ d => uptoBulk d + 1
  | .map entries => uptoBulkEntries entries + 1
  | .held _ => 1
def uptoBulkAll {H : Type} : List (DataW H) → Nat
  | [] => 0
  | d :: r => uptoBulk d + uptoBulkAll r
def uptoBulkEntries {H : Type} : List (Lit × DataW H) → Nat
  | [] => 0
  | x :: r => uptoBulkEntry x + uptoBulkEntries r
def uptoBulkEntry {H : Type} : Lit × DataW H → Nat
  | (.string bytes, d) => bytes.length + uptoBulk d + 1
  | (_, d) => uptoBulk d + 1
 end
def uptoSmall : (H : Type) → List (DataW H) → Bool := fun _ ds => decide (uptoBulkAll ds ≤ 1048576)
def OpenSpec.upto (s : _root_.Go.ChangeSpec) : _root_.Go.OpenSpec := { _root_.Go.OpenSpec.ofChange s with cond := some uptoSmall }

/-- 'sextonlaw19.ShardSplits', WHERE WHAT IT READS IS OF BULK AT MOST 1048576: true; the input reads as it did. -/
def shardSplitsUptoRow : OpenClaim := { program := "ytoclacnhckpkfaadoor", sum := "cbca2849967431c180ac6ddd02ee6cf20799d30be20f59def7b4565d3ff4ba2b", func := "sexton/sextonlaw19.ShardSplits", spec := "shardSplits", inPlace := ["internal/abi.NoEscape", "internal/bytealg.MakeNoZero"], named := ["sexton/poly.nibbles"], apart := false, laid := [("sexton/poly.nibbles", laid_sexton_poly_nibbles)], narrowed := true }
def ShardSplitsUptoSaid : Prop := shardSplitsUptoRow.holds Tryd.pinned (OpenSpec.upto shardSplitsSpec)

/-- 'sextonlaw19.ShardWhole', WHERE WHAT IT READS IS OF BULK AT MOST 1048576: true; the input reads as it did. -/
def shardWholeUptoRow : OpenClaim := { program := "ytoclacnhckpkfaadoor", sum := "cbca2849967431c180ac6ddd02ee6cf20799d30be20f59def7b4565d3ff4ba2b", func := "sexton/sextonlaw19.ShardWhole", spec := "shardWhole", inPlace := ["internal/abi.NoEscape", "internal/bytealg.MakeNoZero"], named := ["sexton/poly.nibbles"], apart := false, laid := [("sexton/poly.nibbles", laid_sexton_poly_nibbles)], narrowed := true }
def ShardWholeUptoSaid : Prop := shardWholeUptoRow.holds Tryd.pinned (OpenSpec.upto shardWholeSpec)

/-- 'sextonlaw19.ShardTwo', WHERE WHAT IT READS IS OF BULK AT MOST 1048576: true; the input reads as it did. -/
def shardTwoUptoRow : OpenClaim := { program := "ytoclacnhckpkfaadoor", sum := "cbca2849967431c180ac6ddd02ee6cf20799d30be20f59def7b4565d3ff4ba2b", func := "sexton/sextonlaw19.ShardTwo", spec := "shardTwo", inPlace := ["internal/abi.NoEscape", "internal/bytealg.MakeNoZero"], named := ["sexton/poly.nibbles"], apart := false, laid := [("sexton/poly.nibbles", laid_sexton_poly_nibbles)], narrowed := true }
def ShardTwoUptoSaid : Prop := shardTwoUptoRow.holds Tryd.pinned (OpenSpec.upto shardTwoSpec)

/-- 'sextonlaw19.ShardSteps', WHERE WHAT IT READS IS OF BULK AT MOST 1048576: true; the input reads as it did. -/
def shardStepsUptoRow : OpenClaim := { program := "ytoclacnhckpkfaadoor", sum := "cbca2849967431c180ac6ddd02ee6cf20799d30be20f59def7b4565d3ff4ba2b", func := "sexton/sextonlaw19.ShardSteps", spec := "shardSteps", inPlace := ["internal/abi.NoEscape", "internal/bytealg.MakeNoZero"], named := ["sexton/poly.nibbles"], apart := false, laid := [("sexton/poly.nibbles", laid_sexton_poly_nibbles)], narrowed := true }
def ShardStepsUptoSaid : Prop := shardStepsUptoRow.holds Tryd.pinned (OpenSpec.upto shardStepsSpec)

/-- 'sextonlaw19.ShardNil', WHERE WHAT IT READS IS OF BULK AT MOST 1048576: true; the input reads as it did. -/
def shardNilUptoRow : OpenClaim := { program := "ytoclacnhckpkfaadoor", sum := "cbca2849967431c180ac6ddd02ee6cf20799d30be20f59def7b4565d3ff4ba2b", func := "sexton/sextonlaw19.ShardNil", spec := "shardNil", inPlace := ["internal/abi.NoEscape", "internal/bytealg.MakeNoZero"], named := ["sexton/poly.nibbles"], apart := false, laid := [("sexton/poly.nibbles", laid_sexton_poly_nibbles)], narrowed := true }
def ShardNilUptoSaid : Prop := shardNilUptoRow.holds Tryd.pinned (OpenSpec.upto shardNilSpec)

end Rows
end Go.Proofs.YtoclacnhckpkfaaDoor
