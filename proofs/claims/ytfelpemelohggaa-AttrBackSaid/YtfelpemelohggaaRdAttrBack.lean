/- The readings of the parameters of the law AttrBack. -/
import Derived.Test.YtfelpemelohggaaRead
import Derived.Test.YtfelpemelohggaaHAttrBackLaw
namespace Go.Proofs.Ytfelpemelohggaa.attrBack
open Go.RowKit Go.Proofs.Ytfelpemelohggaa.FA Go.Proofs.YtfelpemelohggaaW.PrintWords Go.Proofs.Ytfelpemelohggaa.Rd
def r3 : Rdg Try.prog Int := Rd.int 3 .i64 Try.underlying3 (by kernel_rfl)
instance : Inhabited S23 := ⟨z23⟩
def r23 : Rdg Try.prog S23 := Rd.struct 23 Try.underlying23 (by kernel_rfl) (Rd.cons r3 _ rfl (by decide) rfl rfl rfl (Rd.cons r3 _ rfl (by decide) rfl rfl rfl (Rd.cons r3 _ rfl (by decide) rfl rfl rfl (Rd.last r3 _ rfl rfl rfl rfl rfl)))) (fun x => (x.f0, x.f1, x.f2, x.f3)) (fun p => ⟨p.1, p.2.1, p.2.2.1, p.2.2.2⟩) (fun _ => rfl)
end Go.Proofs.Ytfelpemelohggaa.attrBack
