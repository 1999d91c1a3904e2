/- Another size of each inode. -/
import Derived.Test.YtfelpemelohggaaRdAttrGrows
import Derived.Test.YtfelpemelohggaaAttrOps
import Derived.Test.YtfelpemelohggaaFAsextonlaw07AttrGrows
namespace Go.Proofs.Ytfelpemelohggaa.attrGrows
open Go.RowKit Go.Proofs.Ytfelpemelohggaa.FA Go.Proofs.YtfelpemelohggaaW.PrintWords Go.Proofs.YtfelpemelohggaaW.PrintLast Go.Proofs.YtfelpemelohggaaW.PrintMore Go.Proofs.Ytfelpemelohggaa.Rd Go.Proofs.Ytfelpemelohggaa.B Go.Proofs.Ytfelpemelohggaa.TlvFns Go.Proofs.Ytfelpemelohggaa.AttrFns
set_option linter.unusedVariables false
set_option linter.unusedSimpArgs false
theorem pure_AttrGrows : ∀ (a0 : S23) (o0 : r23.ok a0) (a1 : Int) (o1 : r3.ok a1) (a2 : Int) (o2 : r3.ok a2) (w0 : r23.wt a0) (w1 : r3.wt a1) (w2 : r3.wt a2), ∃ k, sextonlaw07_AttrGrows.f k a0.f0 a0.f1 a0.f2 a0.f3 a1 a2 = some true := by
  intro a _ n _ s _ _ _ _
  refine ⟨5, ?_⟩
  unfold sextonlaw07_AttrGrows.f
  rw [grow_is 5 (by decide), ref_grow_is 5 (by decide)]
  simp only [Option.bind_some]
  rw [one_is, if_pos (by simp), if_pos (by trivial)]
  rfl
end Go.Proofs.Ytfelpemelohggaa.attrGrows
