/- The readings of the parameters of the law AskBack. -/
import Derived.Test.YtellcdiifpdonaaRead
import Derived.Test.YtellcdiifpdonaaFAsextonlaw13AskBack
namespace Go.Proofs.Ytellcdiifpdonaa.askBack
open Go.RowKit Go.Proofs.Ytellcdiifpdonaa.FA Go.Proofs.YtellcdiifpdonaaW.PrintWords Go.Proofs.Ytellcdiifpdonaa.Rd
def r3 : Rdg Try.prog Int := Rd.int 3 .i64 Try.underlying3 (by kernel_rfl)
instance : Inhabited S23 := ⟨z23⟩
def r23 : Rdg Try.prog S23 := Rd.struct 23 Try.underlying23 (by kernel_rfl) (Rd.cons r3 _ rfl (by decide) rfl rfl rfl (Rd.last r3 _ rfl rfl rfl rfl rfl)) (fun x => (x.f0, x.f1)) (fun p => ⟨p.1, p.2⟩) (fun _ => rfl)
def r9 : Rdg Try.prog ByteArray := Rd.string 9 Try.underlying9 (by kernel_rfl)
instance : Inhabited S25 := ⟨z25⟩
def r25 : Rdg Try.prog S25 := Rd.struct 25 Try.underlying25 (by kernel_rfl) (Rd.cons r3 _ rfl (by decide) rfl rfl rfl (Rd.cons r23 _ rfl (by decide) rfl rfl rfl (Rd.cons r23 _ rfl (by decide) rfl rfl rfl (Rd.cons r9 _ rfl (by decide) rfl rfl rfl (Rd.cons r9 _ rfl (by decide) rfl rfl rfl (Rd.cons r3 _ rfl (by decide) rfl rfl rfl (Rd.cons r3 _ rfl (by decide) rfl rfl rfl (Rd.last r9 _ rfl rfl rfl rfl rfl)))))))) (fun x => (x.f0, x.f1, x.f2, x.f3, x.f4, x.f5, x.f6, x.f7)) (fun p => ⟨p.1, p.2.1, p.2.2.1, p.2.2.2.1, p.2.2.2.2.1, p.2.2.2.2.2.1, p.2.2.2.2.2.2.1, p.2.2.2.2.2.2.2⟩) (fun _ => rfl)
end Go.Proofs.Ytellcdiifpdonaa.askBack
