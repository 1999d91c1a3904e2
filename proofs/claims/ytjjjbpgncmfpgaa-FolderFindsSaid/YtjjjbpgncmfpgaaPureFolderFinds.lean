import Derived.Test.YtjjjbpgncmfpgaaRdFolderFinds
import Derived.Test.YtjjjbpgncmfpgaaFolderOps
import Derived.Test.YtjjjbpgncmfpgaaFAsextonlaw10FolderFinds
namespace Go.Proofs.Ytjjjbpgncmfpgaa.folderFinds
set_option linter.unusedVariables false
set_option linter.unusedSimpArgs false
open Go.RowKit Go.Proofs.Ytjjjbpgncmfpgaa.FA Go.Proofs.YtjjjbpgncmfpgaaW.PrintWords Go.Proofs.Ytjjjbpgncmfpgaa.Rd Go.Proofs.Ytjjjbpgncmfpgaa.B
theorem pure_FolderFinds : ∀ (a0 : S24) (o0 : r24.ok a0) (a1 : ByteArray) (o1 : r9.ok a1) (w0 : r24.wt a0) (w1 : r9.wt a1), ∃ k, sextonlaw10_FolderFinds.f k a0.f0 a0.f1 a1 = some true := by
  intro a0 o0 s o1 w0 w1
  refine ⟨5000, ?_⟩
  generalize a0.f0 = l
  generalize a0.f1 = nx
  unfold sextonlaw10_FolderFinds.f sextonlaw10_large.f
  simp only [Option.bind_some]
  by_cases h : (l.length : Int) > 400
  · rw [decide_eq_true h, if_pos rfl, two_is 5000 (by omega)]
    rfl
  · rw [decide_eq_false h, if_neg (by decide), find_is l nx s (by omega) 5000 (by omega), ref_find_is l nx s (by omega) 5000 (by omega), name_is, ref_name_is s 5000 (by omega), check_is l nx (by omega) 5000 (by omega), right_is l nx (by omega) 5000 (by omega), two_is 5000 (by omega)]
    simp only [Option.bind_some, if_true]
    rw [if_pos, if_pos]
    · simp
    · cases dirOk l nx <;> simp
end Go.Proofs.Ytjjjbpgncmfpgaa.folderFinds
