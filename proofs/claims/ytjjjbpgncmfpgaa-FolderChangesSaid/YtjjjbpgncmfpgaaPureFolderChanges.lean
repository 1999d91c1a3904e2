/- A folder with a name more and one with a name less: the program and the document's answer tell alike. -/
import Derived.Test.YtjjjbpgncmfpgaaRdFolderChanges
import Derived.Test.YtjjjbpgncmfpgaaFolderPlain
import Derived.Test.YtjjjbpgncmfpgaaHFolderChangesLaw
namespace Go.Proofs.Ytjjjbpgncmfpgaa.folderChanges
set_option linter.unusedVariables false
set_option linter.unusedSimpArgs false
open Go.RowKit Go.Proofs.Ytjjjbpgncmfpgaa.FA Go.Proofs.YtjjjbpgncmfpgaaW.PrintWords Go.Proofs.Ytjjjbpgncmfpgaa.Rd Go.Proofs.Ytjjjbpgncmfpgaa.B
theorem pure_FolderChanges : ∀ (a0 : S24) (o0 : r24.ok a0) (a1 : ByteArray) (o1 : r9.ok a1) (a2 : S28) (o2 : r28.ok a2) (w0 : r24.wt a0) (w1 : r9.wt a1) (w2 : r28.wt a2), ∃ k, sextonlaw10_FolderChanges.f k a0.f0 a0.f1 a1 a2.f0 a2.f1 = some true := by
  intro a0 o0 s o1 th o2 w0 w1 w2
  refine ⟨6000, ?_⟩
  generalize a0.f0 = l
  generalize a0.f1 = nx
  generalize th.f0 = a
  generalize th.f1 = b
  unfold sextonlaw10_FolderChanges.f sextonlaw10_large.f
  rw [Option.bind_some]
  by_cases h : (l.length : Int) > 400
  · rw [if_pos (decide_eq_true h), two_is 6000 (by omega)]
  · rw [if_neg (by rw [decide_eq_true_eq]; exact h), add_is l nx s a b (by omega) 6000 (by omega), Option.bind_some, ref_add_is l nx s a b (by omega) 6000 (by omega), Option.bind_some, remove_is l nx s (by omega) 6000 (by omega), Option.bind_some, ref_remove_is l nx s (by omega) 6000 (by omega), Option.bind_some]
    rw [same_is _ _ (by have := add_len l nx s a b; omega) 6000 (by omega), Option.bind_some, same_is _ _ (by have := remove_len l nx s; omega) 6000 (by omega), Option.bind_some]
    rw [if_pos (by simp), two_is 6000 (by omega)]
end Go.Proofs.Ytjjjbpgncmfpgaa.folderChanges
