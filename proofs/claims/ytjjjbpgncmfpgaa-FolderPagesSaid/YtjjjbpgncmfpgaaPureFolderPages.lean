/- A page of the program's is the page of the document's answer. -/
import Derived.Test.YtjjjbpgncmfpgaaRdFolderPages
import Derived.Test.YtjjjbpgncmfpgaaFolderPlain
import Derived.Test.YtjjjbpgncmfpgaaHFolderPagesLaw
namespace Go.Proofs.Ytjjjbpgncmfpgaa.folderPages
set_option linter.unusedVariables false
set_option linter.unusedSimpArgs false
open Go.RowKit Go.Proofs.Ytjjjbpgncmfpgaa.FA Go.Proofs.YtjjjbpgncmfpgaaW.PrintWords Go.Proofs.Ytjjjbpgncmfpgaa.Rd Go.Proofs.Ytjjjbpgncmfpgaa.B
theorem pure_FolderPages : ∀ (a0 : S24) (o0 : r24.ok a0) (a1 : Int) (o1 : r3.ok a1) (a2 : Int) (o2 : r3.ok a2) (w0 : r24.wt a0) (w1 : r3.wt a1) (w2 : r3.wt a2), ∃ k, sextonlaw10_FolderPages.f k a0.f0 a0.f1 a1 a2 = some true := by
  intro a0 o0 c o1 m o2 w0 w1 w2
  refine ⟨6000, ?_⟩
  generalize a0.f0 = l
  generalize a0.f1 = nx
  unfold sextonlaw10_FolderPages.f sextonlaw10_large.f
  rw [Option.bind_some]
  by_cases h : (l.length : Int) > 400
  · rw [if_pos (decide_eq_true h), two_is 6000 (by omega)]
  · rw [if_neg (by rw [decide_eq_true_eq]; exact h), page_is_any l nx c m (by omega) 6000 (by omega), Option.bind_some, ref_page_is l nx c m (by omega) 6000 (by omega), Option.bind_some]
    have hlen : (if dirOk l nx = true then pageOf l c m else ([], 4)).1.length ≤ 1000 := by
      by_cases hd : dirOk l nx = true
      · rw [if_pos hd]; have := page_len l c m; omega
      · rw [if_neg hd]; decide
    rw [entries_same _ hlen 6000 (by omega), Option.bind_some, if_pos ⟨rfl, rfl⟩, two_is 6000 (by omega)]
end Go.Proofs.Ytjjjbpgncmfpgaa.folderPages
