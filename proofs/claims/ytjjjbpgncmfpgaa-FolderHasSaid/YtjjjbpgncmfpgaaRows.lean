/-
  No cell of these rows narrows 'for every input' (looked for: loops, veiled, ifaces, maps, wideKeys, modest, calm, conditions, laid).
  DERIVED. THE GIVEN ROWS OF THIS SEAT. 6 by the template 'for every input the law returns true; each argument reads behind the call as it read before'; 0 by the template 'total and deterministic' (their statements: YtjjjbpgncmfpgaaTotals.lean).
  GIVEN WITH THE SEED: the statements are not yours to turn. If you find one false, say at which input.
  Laid BY PROGRAM, IN A SANDBOX (cutbox-rows.mjs): the forced cells as the released guide's own fill.sh prints them over the translation a99a2d73c6c2137c… (all of the seat's roots in one cut). By AI agents, Wed Nov 11 2026. No macro, syntax, notation, axiom, sorry.
-/
import Derived.Test.YtjjjbpgncmfpgaaChecked
import GoSem.Claim
import GoSem.ClaimJoined
import GoSem.ClaimMapViews
import Derived.JoinedTies
import Derived.KernelRfl
namespace Go.Proofs.Ytjjjbpgncmfpgaa
/- THE CELL 'sum', in the pinned program and in every row, IS THE sha256 OF THE DUMP (.gsa) THAT YtjjjbpgncmfpgaaProg.lean LOADS. Nothing in Lean hashes anything: it is a label: what it is worth is what the hold of that sum in a sandbox is worth. -/
noncomputable def Try.pinned : Pinned := { name := "ytjjjbpgncmfpgaa", sum := "a99a2d73c6c2137c6c384f3d965733fced5634dbbc8e0874f51e2ac7a9031dc5", checked := Try.checked }
namespace Rows
def none {H : Type} : Left H := { results := [], args := [] }

/-- 'sextonlaw10.FolderFinds': WHATEVER THE INPUT: true; the input reads as it did. -/
def folderFindsSpec : ChangeSpec := { name := "folderFinds", fn := fun _ => fun
  | [d1, d2] => { results := [.lit (.bool true)], args := [d1, d2] }
  | _ => none }
def folderFindsRow : OpenClaim := { program := "ytjjjbpgncmfpgaa", sum := "a99a2d73c6c2137c6c384f3d965733fced5634dbbc8e0874f51e2ac7a9031dc5", func := "sexton/sextonlaw10.FolderFinds", spec := "folderFinds", unfollowed := true, recurses := true, apart := false }
def FolderFindsSaid : Prop := folderFindsRow.holds Try.pinned (OpenSpec.ofChange folderFindsSpec)

/-- ITS FALSE NEIGHBOUR: 'it returns false'. Refute it at one input. -/
def folderFindsWrong : ChangeSpec := { name := "folderFinds", fn := fun _ => fun
  | [d1, d2] => { results := [.lit (.bool false)], args := [d1, d2] }
  | _ => none }
def FolderFindsWrongFalsely : Prop := folderFindsRow.holds Try.pinned (OpenSpec.ofChange folderFindsWrong)

/-- 'sextonlaw10.FolderChanges': WHATEVER THE INPUT: true; the input reads as it did. -/
def folderChangesSpec : ChangeSpec := { name := "folderChanges", fn := fun _ => fun
  | [d1, d2, d3] => { results := [.lit (.bool true)], args := [d1, d2, d3] }
  | _ => none }
def folderChangesRow : OpenClaim := { program := "ytjjjbpgncmfpgaa", sum := "a99a2d73c6c2137c6c384f3d965733fced5634dbbc8e0874f51e2ac7a9031dc5", func := "sexton/sextonlaw10.FolderChanges", spec := "folderChanges", unfollowed := true, recurses := true, apart := false }
def FolderChangesSaid : Prop := folderChangesRow.holds Try.pinned (OpenSpec.ofChange folderChangesSpec)

/-- ITS FALSE NEIGHBOUR: 'it returns false'. Refute it at one input. -/
def folderChangesWrong : ChangeSpec := { name := "folderChanges", fn := fun _ => fun
  | [d1, d2, d3] => { results := [.lit (.bool false)], args := [d1, d2, d3] }
  | _ => none }
def FolderChangesWrongFalsely : Prop := folderChangesRow.holds Try.pinned (OpenSpec.ofChange folderChangesWrong)

/-- 'sextonlaw10.FolderHas': WHATEVER THE INPUT: true; the input reads as it did. -/
def folderHasSpec : ChangeSpec := { name := "folderHas", fn := fun _ => fun
  | [d] => { results := [.lit (.bool true)], args := [d] }
  | _ => none }
def folderHasRow : OpenClaim := { program := "ytjjjbpgncmfpgaa", sum := "a99a2d73c6c2137c6c384f3d965733fced5634dbbc8e0874f51e2ac7a9031dc5", func := "sexton/sextonlaw10.FolderHas", spec := "folderHas", unfollowed := true, recurses := true, apart := false }
def FolderHasSaid : Prop := folderHasRow.holds Try.pinned (OpenSpec.ofChange folderHasSpec)

/-- ITS FALSE NEIGHBOUR: 'it returns false'. Refute it at one input. -/
def folderHasWrong : ChangeSpec := { name := "folderHas", fn := fun _ => fun
  | [d] => { results := [.lit (.bool false)], args := [d] }
  | _ => none }
def FolderHasWrongFalsely : Prop := folderHasRow.holds Try.pinned (OpenSpec.ofChange folderHasWrong)

/-- 'sextonlaw10.FolderPages': WHATEVER THE INPUT: true; the input reads as it did. -/
def folderPagesSpec : ChangeSpec := { name := "folderPages", fn := fun _ => fun
  | [d1, d2, d3] => { results := [.lit (.bool true)], args := [d1, d2, d3] }
  | _ => none }
def folderPagesRow : OpenClaim := { program := "ytjjjbpgncmfpgaa", sum := "a99a2d73c6c2137c6c384f3d965733fced5634dbbc8e0874f51e2ac7a9031dc5", func := "sexton/sextonlaw10.FolderPages", spec := "folderPages", unfollowed := true, recurses := true, apart := false }
def FolderPagesSaid : Prop := folderPagesRow.holds Try.pinned (OpenSpec.ofChange folderPagesSpec)

/-- ITS FALSE NEIGHBOUR: 'it returns false'. Refute it at one input. -/
def folderPagesWrong : ChangeSpec := { name := "folderPages", fn := fun _ => fun
  | [d1, d2, d3] => { results := [.lit (.bool false)], args := [d1, d2, d3] }
  | _ => none }
def FolderPagesWrongFalsely : Prop := folderPagesRow.holds Try.pinned (OpenSpec.ofChange folderPagesWrong)

/-- 'sextonlaw10.FolderWalk': WHATEVER THE INPUT: true; the input reads as it did. -/
def folderWalkSpec : ChangeSpec := { name := "folderWalk", fn := fun _ => fun
  | [d1, d2, d3] => { results := [.lit (.bool true)], args := [d1, d2, d3] }
  | _ => none }
def folderWalkRow : OpenClaim := { program := "ytjjjbpgncmfpgaa", sum := "a99a2d73c6c2137c6c384f3d965733fced5634dbbc8e0874f51e2ac7a9031dc5", func := "sexton/sextonlaw10.FolderWalk", spec := "folderWalk", unfollowed := true, recurses := true, apart := false }
def FolderWalkSaid : Prop := folderWalkRow.holds Try.pinned (OpenSpec.ofChange folderWalkSpec)

/-- ITS FALSE NEIGHBOUR: 'it returns false'. Refute it at one input. -/
def folderWalkWrong : ChangeSpec := { name := "folderWalk", fn := fun _ => fun
  | [d1, d2, d3] => { results := [.lit (.bool false)], args := [d1, d2, d3] }
  | _ => none }
def FolderWalkWrongFalsely : Prop := folderWalkRow.holds Try.pinned (OpenSpec.ofChange folderWalkWrong)

/-- 'sextonlaw10.FolderWhole': WHATEVER THE INPUT: true; the input reads as it did. -/
def folderWholeSpec : ChangeSpec := { name := "folderWhole", fn := fun _ => fun
  | [d1, d2] => { results := [.lit (.bool true)], args := [d1, d2] }
  | _ => none }
def folderWholeRow : OpenClaim := { program := "ytjjjbpgncmfpgaa", sum := "a99a2d73c6c2137c6c384f3d965733fced5634dbbc8e0874f51e2ac7a9031dc5", func := "sexton/sextonlaw10.FolderWhole", spec := "folderWhole", unfollowed := true, recurses := true, apart := false }
def FolderWholeSaid : Prop := folderWholeRow.holds Try.pinned (OpenSpec.ofChange folderWholeSpec)

/-- ITS FALSE NEIGHBOUR: 'it returns false'. Refute it at one input. -/
def folderWholeWrong : ChangeSpec := { name := "folderWhole", fn := fun _ => fun
  | [d1, d2] => { results := [.lit (.bool false)], args := [d1, d2] }
  | _ => none }
def FolderWholeWrongFalsely : Prop := folderWholeRow.holds Try.pinned (OpenSpec.ofChange folderWholeWrong)

/- THE SECOND FORM. 'bulk': how many values and letters a reading holds, each counted each time it is reached (what is shared counts as often as it is met; a slice's spare places count too). A statement '..UptoSaid' is the law's where the arguments, and the package variables that the reading takes, are together of bulk at most 1048576: NARROWER than '..Said'. Prove '..Said' where nothing that the law and all that it calls make is longer than what came in: it says more and counts as full. Else prove '..UptoSaid'. A law counts once. -/
mutual
def uptoBulk {H : Type} : DataW H → Nat
  | .lit (.string bytes) => bytes.length + 1
  | .lit _ => 1
  | .nil => 1
  | .ptr d => uptoBulk d + 1
  | .slice elems spare => uptoBulkAll elems + uptoBulkAll spare + 1
  | .agg parts => uptoBulkAll parts + 1
  | .iface _ d => uptoBulk d + 1
  | .map entries => uptoBulkEntries entries + 1
  | .held _ => 1
def uptoBulkAll {H : Type} : List (DataW H) → Nat
  | [] => 0
  | d :: r => uptoBulk d + uptoBulkAll r
def uptoBulkEntries {H : Type} : List (Lit × DataW H) → Nat
  | [] => 0
  | x :: r => uptoBulkEntry x + uptoBulkEntries r
def uptoBulkEntry {H : Type} : Lit × DataW H → Nat
  | (.string bytes, d) => bytes.length + uptoBulk d + 1
  | (_, d) => uptoBulk d + 1
 end
def uptoSmall : (H : Type) → List (DataW H) → Bool := fun _ ds => decide (uptoBulkAll ds ≤ 1048576)
def OpenSpec.upto (s : _root_.Go.ChangeSpec) : _root_.Go.OpenSpec := { _root_.Go.OpenSpec.ofChange s with cond := some uptoSmall }

/-- 'sextonlaw10.FolderFinds', WHERE WHAT IT READS IS OF BULK AT MOST 1048576: true; the input reads as it did. -/
def folderFindsUptoRow : OpenClaim := { program := "ytjjjbpgncmfpgaa", sum := "a99a2d73c6c2137c6c384f3d965733fced5634dbbc8e0874f51e2ac7a9031dc5", func := "sexton/sextonlaw10.FolderFinds", spec := "folderFinds", unfollowed := true, recurses := true, apart := false, narrowed := true }
def FolderFindsUptoSaid : Prop := folderFindsUptoRow.holds Try.pinned (OpenSpec.upto folderFindsSpec)

/-- 'sextonlaw10.FolderChanges', WHERE WHAT IT READS IS OF BULK AT MOST 1048576: true; the input reads as it did. -/
def folderChangesUptoRow : OpenClaim := { program := "ytjjjbpgncmfpgaa", sum := "a99a2d73c6c2137c6c384f3d965733fced5634dbbc8e0874f51e2ac7a9031dc5", func := "sexton/sextonlaw10.FolderChanges", spec := "folderChanges", unfollowed := true, recurses := true, apart := false, narrowed := true }
def FolderChangesUptoSaid : Prop := folderChangesUptoRow.holds Try.pinned (OpenSpec.upto folderChangesSpec)

/-- 'sextonlaw10.FolderHas', WHERE WHAT IT READS IS OF BULK AT MOST 1048576: true; the input reads as it did. -/
def folderHasUptoRow : OpenClaim := { program := "ytjjjbpgncmfpgaa", sum := "a99a2d73c6c2137c6c384f3d965733fced5634dbbc8e0874f51e2ac7a9031dc5", func := "sexton/sextonlaw10.FolderHas", spec := "folderHas", unfollowed := true, recurses := true, apart := false, narrowed := true }
def FolderHasUptoSaid : Prop := folderHasUptoRow.holds Try.pinned (OpenSpec.upto folderHasSpec)

/-- 'sextonlaw10.FolderPages', WHERE WHAT IT READS IS OF BULK AT MOST 1048576: true; the input reads as it did. -/
def folderPagesUptoRow : OpenClaim := { program := "ytjjjbpgncmfpgaa", sum := "a99a2d73c6c2137c6c384f3d965733fced5634dbbc8e0874f51e2ac7a9031dc5", func := "sexton/sextonlaw10.FolderPages", spec := "folderPages", unfollowed := true, recurses := true, apart := false, narrowed := true }
def FolderPagesUptoSaid : Prop := folderPagesUptoRow.holds Try.pinned (OpenSpec.upto folderPagesSpec)

/-- 'sextonlaw10.FolderWalk', WHERE WHAT IT READS IS OF BULK AT MOST 1048576: true; the input reads as it did. -/
def folderWalkUptoRow : OpenClaim := { program := "ytjjjbpgncmfpgaa", sum := "a99a2d73c6c2137c6c384f3d965733fced5634dbbc8e0874f51e2ac7a9031dc5", func := "sexton/sextonlaw10.FolderWalk", spec := "folderWalk", unfollowed := true, recurses := true, apart := false, narrowed := true }
def FolderWalkUptoSaid : Prop := folderWalkUptoRow.holds Try.pinned (OpenSpec.upto folderWalkSpec)

/-- 'sextonlaw10.FolderWhole', WHERE WHAT IT READS IS OF BULK AT MOST 1048576: true; the input reads as it did. -/
def folderWholeUptoRow : OpenClaim := { program := "ytjjjbpgncmfpgaa", sum := "a99a2d73c6c2137c6c384f3d965733fced5634dbbc8e0874f51e2ac7a9031dc5", func := "sexton/sextonlaw10.FolderWhole", spec := "folderWhole", unfollowed := true, recurses := true, apart := false, narrowed := true }
def FolderWholeUptoSaid : Prop := folderWholeUptoRow.holds Try.pinned (OpenSpec.upto folderWholeSpec)

end Rows
end Go.Proofs.Ytjjjbpgncmfpgaa
