/-
  No cell of these rows narrows 'for every input' (looked for: loops, veiled, ifaces, maps, wideKeys, modest, calm, conditions, laid).
  DERIVED. THE GIVEN ROWS OF THIS SEAT. 4 by the template 'for every input the law returns true; each argument reads behind the call as it read before'; 0 by the template 'total and deterministic' (their statements: YtmapkneofccboaaTotals.lean).
  GIVEN WITH THE SEED: the statements are not yours to turn. If you find one false, say at which input.
  Laid BY PROGRAM, IN A SANDBOX (cutbox-rows.mjs): the forced cells as the released guide's own fill.sh prints them over the translation 8527fc4b98e27b58… (all of the seat's roots in one cut). By AI agents, Wed Nov 11 2026. No macro, syntax, notation, axiom, sorry.
-/
import Derived.Test.YtmapkneofccboaaChecked
import GoSem.Claim
import GoSem.ClaimJoined
import GoSem.ClaimMapViews
import Derived.JoinedTies
import Derived.KernelRfl
namespace Go.Proofs.Ytmapkneofccboaa
/- THE CELL 'sum', in the pinned program and in every row, IS THE sha256 OF THE DUMP (.gsa) THAT YtmapkneofccboaaProg.lean LOADS. Nothing in Lean hashes anything: it is a label: what it is worth is what the hold of that sum in a sandbox is worth. -/
noncomputable def Try.pinned : Pinned := { name := "ytmapkneofccboaa", sum := "8527fc4b98e27b58c542b08d350643dd3dd58e361a81188ae89762b1cd135ddf", checked := Try.checked }
namespace Rows
def none {H : Type} : Left H := { results := [], args := [] }

/-- 'sextonlaw05.OplogKeeps': WHATEVER THE INPUT: true; the input reads as it did. -/
def oplogKeepsSpec : ChangeSpec := { name := "oplogKeeps", fn := fun _ => fun
  | [d] => { results := [.lit (.bool true)], args := [d] }
  | _ => none }
def oplogKeepsRow : OpenClaim := { program := "ytmapkneofccboaa", sum := "8527fc4b98e27b58c542b08d350643dd3dd58e361a81188ae89762b1cd135ddf", func := "sexton/sextonlaw05.OplogKeeps", spec := "oplogKeeps", apart := false }
def OplogKeepsSaid : Prop := oplogKeepsRow.holds Try.pinned (OpenSpec.ofChange oplogKeepsSpec)

/-- ITS FALSE NEIGHBOUR: 'it returns false'. Refute it at one input. -/
def oplogKeepsWrong : ChangeSpec := { name := "oplogKeeps", fn := fun _ => fun
  | [d] => { results := [.lit (.bool false)], args := [d] }
  | _ => none }
def OplogKeepsWrongFalsely : Prop := oplogKeepsRow.holds Try.pinned (OpenSpec.ofChange oplogKeepsWrong)

/-- 'sextonlaw05.OplogPuts': WHATEVER THE INPUT: true; the input reads as it did. -/
def oplogPutsSpec : ChangeSpec := { name := "oplogPuts", fn := fun _ => fun
  | [d1, d2, d3] => { results := [.lit (.bool true)], args := [d1, d2, d3] }
  | _ => none }
def oplogPutsRow : OpenClaim := { program := "ytmapkneofccboaa", sum := "8527fc4b98e27b58c542b08d350643dd3dd58e361a81188ae89762b1cd135ddf", func := "sexton/sextonlaw05.OplogPuts", spec := "oplogPuts", unfollowed := true, recurses := true, apart := false }
def OplogPutsSaid : Prop := oplogPutsRow.holds Try.pinned (OpenSpec.ofChange oplogPutsSpec)

/-- ITS FALSE NEIGHBOUR: 'it returns false'. Refute it at one input. -/
def oplogPutsWrong : ChangeSpec := { name := "oplogPuts", fn := fun _ => fun
  | [d1, d2, d3] => { results := [.lit (.bool false)], args := [d1, d2, d3] }
  | _ => none }
def OplogPutsWrongFalsely : Prop := oplogPutsRow.holds Try.pinned (OpenSpec.ofChange oplogPutsWrong)

/-- 'sextonlaw05.OplogSteps': WHATEVER THE INPUT: true; the input reads as it did. -/
def oplogStepsSpec : ChangeSpec := { name := "oplogSteps", fn := fun _ => fun
  | [d1, d2] => { results := [.lit (.bool true)], args := [d1, d2] }
  | _ => none }
def oplogStepsRow : OpenClaim := { program := "ytmapkneofccboaa", sum := "8527fc4b98e27b58c542b08d350643dd3dd58e361a81188ae89762b1cd135ddf", func := "sexton/sextonlaw05.OplogSteps", spec := "oplogSteps", unfollowed := true, recurses := true, apart := false }
def OplogStepsSaid : Prop := oplogStepsRow.holds Try.pinned (OpenSpec.ofChange oplogStepsSpec)

/-- ITS FALSE NEIGHBOUR: 'it returns false'. Refute it at one input. -/
def oplogStepsWrong : ChangeSpec := { name := "oplogSteps", fn := fun _ => fun
  | [d1, d2] => { results := [.lit (.bool false)], args := [d1, d2] }
  | _ => none }
def OplogStepsWrongFalsely : Prop := oplogStepsRow.holds Try.pinned (OpenSpec.ofChange oplogStepsWrong)

/-- 'sextonlaw05.OplogNil': WHATEVER THE INPUT: true; the input reads as it did. -/
def oplogNilSpec : ChangeSpec := { name := "oplogNil", fn := fun _ => fun
  | [d1, d2] => { results := [.lit (.bool true)], args := [d1, d2] }
  | _ => none }
def oplogNilRow : OpenClaim := { program := "ytmapkneofccboaa", sum := "8527fc4b98e27b58c542b08d350643dd3dd58e361a81188ae89762b1cd135ddf", func := "sexton/sextonlaw05.OplogNil", spec := "oplogNil", unfollowed := true, recurses := true, apart := false }
def OplogNilSaid : Prop := oplogNilRow.holds Try.pinned (OpenSpec.ofChange oplogNilSpec)

/-- ITS FALSE NEIGHBOUR: 'it returns false'. Refute it at one input. -/
def oplogNilWrong : ChangeSpec := { name := "oplogNil", fn := fun _ => fun
  | [d1, d2] => { results := [.lit (.bool false)], args := [d1, d2] }
  | _ => none }
def OplogNilWrongFalsely : Prop := oplogNilRow.holds Try.pinned (OpenSpec.ofChange oplogNilWrong)

/- THE SECOND FORM. 'bulk': how many values and letters a reading holds, each counted each time it is reached (what is shared counts as often as it is met; a slice's spare places count too). A statement '..UptoSaid' is the law's where the arguments, and the package variables that the reading takes, are together of bulk at most 1048576: NARROWER than '..Said'. Prove '..Said' where nothing that the law and all that it calls make is longer than what came in: it says more and counts as full. Else prove '..UptoSaid'. A law counts once. -/
mutual
def uptoBulk {H : Type} : DataW H → Nat
  | .lit (.string bytes) => bytes.length + 1
  | .lit _ => 1
  | .nil => 1
  | .ptr d => uptoBulk d + 1
  | .slice elems spare => uptoBulkAll elems + uptoBulkAll spare + 1
  | .agg parts => uptoBulkAll parts + 1
  | .iface _ d => uptoBulk d + 1
  | .map entries => uptoBulkEntries entries + 1
  | .held _ => 1
def uptoBulkAll {H : Type} : List (DataW H) → Nat
  | [] => 0
  | d :: r => uptoBulk d + uptoBulkAll r
def uptoBulkEntries {H : Type} : List (Lit × DataW H) → Nat
  | [] => 0
  | x :: r => uptoBulkEntry x + uptoBulkEntries r
def uptoBulkEntry {H : Type} : Lit × DataW H → Nat
  | (.string bytes, d) => bytes.length + uptoBulk d + 1
  | (_, d) => uptoBulk d + 1
 end
def uptoSmall : (H : Type) → List (DataW H) → Bool := fun _ ds => decide (uptoBulkAll ds ≤ 1048576)
def OpenSpec.upto (s : _root_.Go.ChangeSpec) : _root_.Go.OpenSpec := { _root_.Go.OpenSpec.ofChange s with cond := some uptoSmall }

/-- 'sextonlaw05.OplogKeeps', WHERE WHAT IT READS IS OF BULK AT MOST 1048576: true; the input reads as it did. -/
def oplogKeepsUptoRow : OpenClaim := { program := "ytmapkneofccboaa", sum := "8527fc4b98e27b58c542b08d350643dd3dd58e361a81188ae89762b1cd135ddf", func := "sexton/sextonlaw05.OplogKeeps", spec := "oplogKeeps", apart := false, narrowed := true }
def OplogKeepsUptoSaid : Prop := oplogKeepsUptoRow.holds Try.pinned (OpenSpec.upto oplogKeepsSpec)

/-- 'sextonlaw05.OplogPuts', WHERE WHAT IT READS IS OF BULK AT MOST 1048576: true; the input reads as it did. -/
def oplogPutsUptoRow : OpenClaim := { program := "ytmapkneofccboaa", sum := "8527fc4b98e27b58c542b08d350643dd3dd58e361a81188ae89762b1cd135ddf", func := "sexton/sextonlaw05.OplogPuts", spec := "oplogPuts", unfollowed := true, recurses := true, apart := false, narrowed := true }
def OplogPutsUptoSaid : Prop := oplogPutsUptoRow.holds Try.pinned (OpenSpec.upto oplogPutsSpec)

/-- 'sextonlaw05.OplogSteps', WHERE WHAT IT READS IS OF BULK AT MOST 1048576: true; the input reads as it did. -/
def oplogStepsUptoRow : OpenClaim := { program := "ytmapkneofccboaa", sum := "8527fc4b98e27b58c542b08d350643dd3dd58e361a81188ae89762b1cd135ddf", func := "sexton/sextonlaw05.OplogSteps", spec := "oplogSteps", unfollowed := true, recurses := true, apart := false, narrowed := true }
def OplogStepsUptoSaid : Prop := oplogStepsUptoRow.holds Try.pinned (OpenSpec.upto oplogStepsSpec)

/-- 'sextonlaw05.OplogNil', WHERE WHAT IT READS IS OF BULK AT MOST 1048576: true; the input reads as it did. -/
def oplogNilUptoRow : OpenClaim := { program := "ytmapkneofccboaa", sum := "8527fc4b98e27b58c542b08d350643dd3dd58e361a81188ae89762b1cd135ddf", func := "sexton/sextonlaw05.OplogNil", spec := "oplogNil", unfollowed := true, recurses := true, apart := false, narrowed := true }
def OplogNilUptoSaid : Prop := oplogNilUptoRow.holds Try.pinned (OpenSpec.upto oplogNilSpec)

end Rows
end Go.Proofs.Ytmapkneofccboaa
