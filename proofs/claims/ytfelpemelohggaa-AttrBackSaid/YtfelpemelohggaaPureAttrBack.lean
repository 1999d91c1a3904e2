/- The law AttrBack answers true: its walk says so by itself. -/
import Derived.Test.YtfelpemelohggaaRdAttrBack
import Derived.Test.YtfelpemelohggaaHAttrBackLaw
namespace Go.Proofs.Ytfelpemelohggaa.attrBack
open Go.RowKit Go.Proofs.Ytfelpemelohggaa.FA Go.Proofs.YtfelpemelohggaaW.PrintWords Go.Proofs.Ytfelpemelohggaa.Rd
set_option linter.unusedVariables false
theorem pure_AttrBack : ∀ (a0 : S23) (o0 : r23.ok a0) (w0 : r23.wt a0), sextonlaw07_AttrBack.f a0.f0 a0.f1 a0.f2 a0.f3 = some true := fun _ _ _ => rfl
end Go.Proofs.Ytfelpemelohggaa.attrBack
