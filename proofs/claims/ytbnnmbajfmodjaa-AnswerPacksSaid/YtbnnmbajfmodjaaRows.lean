/-
  No cell of these rows narrows 'for every input' (looked for: loops, veiled, ifaces, maps, wideKeys, modest, calm, conditions, laid).
  DERIVED. THE GIVEN ROWS OF THIS SEAT. 3 by the template 'for every input the law returns true; each argument reads behind the call as it read before'; 0 by the template 'total and deterministic' (their statements: YtbnnmbajfmodjaaTotals.lean).
  GIVEN WITH THE SEED: the statements are not yours to turn. If you find one false, say at which input.
  Laid BY PROGRAM, IN A SANDBOX (cutbox-rows.mjs): the forced cells as the released guide's own fill.sh prints them over the translation d51d1dd2276c7546… (all of the seat's roots in one cut). By AI agents, Wed Nov 11 2026. No macro, syntax, notation, axiom, sorry.
-/
import Derived.Test.YtbnnmbajfmodjaaChecked
import GoSem.Claim
import GoSem.ClaimJoined
import GoSem.ClaimMapViews
import Derived.JoinedTies
import Derived.KernelRfl
namespace Go.Proofs.Ytbnnmbajfmodjaa
/- THE CELL 'sum', in the pinned program and in every row, IS THE sha256 OF THE DUMP (.gsa) THAT YtbnnmbajfmodjaaProg.lean LOADS. Nothing in Lean hashes anything: it is a label: what it is worth is what the hold of that sum in a sandbox is worth. -/
noncomputable def Try.pinned : Pinned := { name := "ytbnnmbajfmodjaa", sum := "d51d1dd2276c754680b13b38a16d29f67076f26d84d03ce2c212ed0aa063b95d", checked := Try.checked }
namespace Rows
def none {H : Type} : Left H := { results := [], args := [] }

/-- 'sextonlaw14.AnswerPacks': WHATEVER THE INPUT: true; the input reads as it did. -/
def answerPacksSpec : ChangeSpec := { name := "answerPacks", fn := fun _ => fun
  | [d] => { results := [.lit (.bool true)], args := [d] }
  | _ => none }
def answerPacksRow : OpenClaim := { program := "ytbnnmbajfmodjaa", sum := "d51d1dd2276c754680b13b38a16d29f67076f26d84d03ce2c212ed0aa063b95d", func := "sexton/sextonlaw14.AnswerPacks", spec := "answerPacks", unfollowed := true, recurses := true, apart := false }
def AnswerPacksSaid : Prop := answerPacksRow.holds Try.pinned (OpenSpec.ofChange answerPacksSpec)

/-- ITS FALSE NEIGHBOUR: 'it returns false'. Refute it at one input. -/
def answerPacksWrong : ChangeSpec := { name := "answerPacks", fn := fun _ => fun
  | [d] => { results := [.lit (.bool false)], args := [d] }
  | _ => none }
def AnswerPacksWrongFalsely : Prop := answerPacksRow.holds Try.pinned (OpenSpec.ofChange answerPacksWrong)

/-- 'sextonlaw14.AnswerUnpacks': WHATEVER THE INPUT: true; the input reads as it did. -/
def answerUnpacksSpec : ChangeSpec := { name := "answerUnpacks", fn := fun _ => fun
  | [d] => { results := [.lit (.bool true)], args := [d] }
  | _ => none }
def answerUnpacksRow : OpenClaim := { program := "ytbnnmbajfmodjaa", sum := "d51d1dd2276c754680b13b38a16d29f67076f26d84d03ce2c212ed0aa063b95d", func := "sexton/sextonlaw14.AnswerUnpacks", spec := "answerUnpacks", unfollowed := true, recurses := true, apart := false }
def AnswerUnpacksSaid : Prop := answerUnpacksRow.holds Try.pinned (OpenSpec.ofChange answerUnpacksSpec)

/-- ITS FALSE NEIGHBOUR: 'it returns false'. Refute it at one input. -/
def answerUnpacksWrong : ChangeSpec := { name := "answerUnpacks", fn := fun _ => fun
  | [d] => { results := [.lit (.bool false)], args := [d] }
  | _ => none }
def AnswerUnpacksWrongFalsely : Prop := answerUnpacksRow.holds Try.pinned (OpenSpec.ofChange answerUnpacksWrong)

/-- 'sextonlaw14.AnswerBack': WHATEVER THE INPUT: true; the input reads as it did. -/
def answerBackSpec : ChangeSpec := { name := "answerBack", fn := fun _ => fun
  | [d1, d2] => { results := [.lit (.bool true)], args := [d1, d2] }
  | _ => none }
def answerBackRow : OpenClaim := { program := "ytbnnmbajfmodjaa", sum := "d51d1dd2276c754680b13b38a16d29f67076f26d84d03ce2c212ed0aa063b95d", func := "sexton/sextonlaw14.AnswerBack", spec := "answerBack", unfollowed := true, recurses := true, apart := false }
def AnswerBackSaid : Prop := answerBackRow.holds Try.pinned (OpenSpec.ofChange answerBackSpec)

/-- ITS FALSE NEIGHBOUR: 'it returns false'. Refute it at one input. -/
def answerBackWrong : ChangeSpec := { name := "answerBack", fn := fun _ => fun
  | [d1, d2] => { results := [.lit (.bool false)], args := [d1, d2] }
  | _ => none }
def AnswerBackWrongFalsely : Prop := answerBackRow.holds Try.pinned (OpenSpec.ofChange answerBackWrong)

/- THE SECOND FORM. 'bulk': how many values and letters a reading holds, each counted each time it is reached (what is shared counts as often as it is met; a slice's spare places count too). A statement '..UptoSaid' is the law's where the arguments, and the package variables that the reading takes, are together of bulk at most 1048576: NARROWER than '..Said'. Prove '..Said' where nothing that the law and all that it calls make is longer than what came in: it says more and counts as full. Else prove '..UptoSaid'. A law counts once. -/
mutual
def uptoBulk {H : Type} : DataW H → Nat
  | .lit (.string bytes) => bytes.length + 1
  | .lit _ => 1
  | .nil => 1
  | .ptr d => uptoBulk d + 1
  | .slice elems spare => uptoBulkAll elems + uptoBulkAll spare + 1
  | .agg parts => uptoBulkAll parts + 1
  | .iface _ d => uptoBulk d + 1
  | .map entries => uptoBulkEntries entries + 1
  | .held _ => 1
def uptoBulkAll {H : Type} : List (DataW H) → Nat
  | [] => 0
  | d :: r => uptoBulk d + uptoBulkAll r
def uptoBulkEntries {H : Type} : List (Lit × DataW H) → Nat
  | [] => 0
  | x :: r => uptoBulkEntry x + uptoBulkEntries r
def uptoBulkEntry {H : Type} : Lit × DataW H → Nat
  | (.string bytes, d) => bytes.length + uptoBulk d + 1
  | (_, d) => uptoBulk d + 1
 end
def uptoSmall : (H : Type) → List (DataW H) → Bool := fun _ ds => decide (uptoBulkAll ds ≤ 1048576)
def OpenSpec.upto (s : _root_.Go.ChangeSpec) : _root_.Go.OpenSpec := { _root_.Go.OpenSpec.ofChange s with cond := some uptoSmall }

/-- 'sextonlaw14.AnswerPacks', WHERE WHAT IT READS IS OF BULK AT MOST 1048576: true; the input reads as it did. -/
def answerPacksUptoRow : OpenClaim := { program := "ytbnnmbajfmodjaa", sum := "d51d1dd2276c754680b13b38a16d29f67076f26d84d03ce2c212ed0aa063b95d", func := "sexton/sextonlaw14.AnswerPacks", spec := "answerPacks", unfollowed := true, recurses := true, apart := false, narrowed := true }
def AnswerPacksUptoSaid : Prop := answerPacksUptoRow.holds Try.pinned (OpenSpec.upto answerPacksSpec)

/-- 'sextonlaw14.AnswerUnpacks', WHERE WHAT IT READS IS OF BULK AT MOST 1048576: true; the input reads as it did. -/
def answerUnpacksUptoRow : OpenClaim := { program := "ytbnnmbajfmodjaa", sum := "d51d1dd2276c754680b13b38a16d29f67076f26d84d03ce2c212ed0aa063b95d", func := "sexton/sextonlaw14.AnswerUnpacks", spec := "answerUnpacks", unfollowed := true, recurses := true, apart := false, narrowed := true }
def AnswerUnpacksUptoSaid : Prop := answerUnpacksUptoRow.holds Try.pinned (OpenSpec.upto answerUnpacksSpec)

/-- 'sextonlaw14.AnswerBack', WHERE WHAT IT READS IS OF BULK AT MOST 1048576: true; the input reads as it did. -/
def answerBackUptoRow : OpenClaim := { program := "ytbnnmbajfmodjaa", sum := "d51d1dd2276c754680b13b38a16d29f67076f26d84d03ce2c212ed0aa063b95d", func := "sexton/sextonlaw14.AnswerBack", spec := "answerBack", unfollowed := true, recurses := true, apart := false, narrowed := true }
def AnswerBackUptoSaid : Prop := answerBackUptoRow.holds Try.pinned (OpenSpec.upto answerBackSpec)

end Rows
end Go.Proofs.Ytbnnmbajfmodjaa
