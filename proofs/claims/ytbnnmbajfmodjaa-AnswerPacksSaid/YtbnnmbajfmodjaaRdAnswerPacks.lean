/- The readings of the parameters of the law AnswerPacks. -/
import Derived.Test.YtbnnmbajfmodjaaRead
import Derived.Test.YtbnnmbajfmodjaaFAsextonlaw14AnswerPacks
namespace Go.Proofs.Ytbnnmbajfmodjaa.answerPacks
open Go.RowKit Go.Proofs.Ytbnnmbajfmodjaa.FA Go.Proofs.YtbnnmbajfmodjaaW.PrintWords Go.Proofs.Ytbnnmbajfmodjaa.Rd
def r22 : Rdg Try.prog Int := Rd.int 22 .i64 Try.underlying22 (by kernel_rfl)
def r3 : Rdg Try.prog Int := Rd.int 3 .i64 Try.underlying3 (by kernel_rfl)
instance : Inhabited S24 := ⟨z24⟩
def r24 : Rdg Try.prog S24 := Rd.struct 24 Try.underlying24 (by kernel_rfl) (Rd.cons r3 _ rfl (by decide) rfl rfl rfl (Rd.last r3 _ rfl rfl rfl rfl rfl)) (fun x => (x.f0, x.f1)) (fun p => ⟨p.1, p.2⟩) (fun _ => rfl)
instance : Inhabited S26 := ⟨z26⟩
def r26 : Rdg Try.prog S26 := Rd.struct 26 Try.underlying26 (by kernel_rfl) (Rd.cons r3 _ rfl (by decide) rfl rfl rfl (Rd.cons r3 _ rfl (by decide) rfl rfl rfl (Rd.cons r3 _ rfl (by decide) rfl rfl rfl (Rd.last r3 _ rfl rfl rfl rfl rfl)))) (fun x => (x.f0, x.f1, x.f2, x.f3)) (fun p => ⟨p.1, p.2.1, p.2.2.1, p.2.2.2⟩) (fun _ => rfl)
def r9 : Rdg Try.prog ByteArray := Rd.string 9 Try.underlying9 (by kernel_rfl)
instance : Inhabited S52 := ⟨z52⟩
def r52 : Rdg Try.prog S52 := Rd.struct 52 Try.underlying52 (by kernel_rfl) (Rd.cons r9 _ rfl (by decide) rfl rfl rfl (Rd.cons r3 _ rfl (by decide) rfl rfl rfl (Rd.last r24 _ rfl rfl rfl rfl rfl))) (fun x => (x.f0, x.f1, x.f2)) (fun p => ⟨p.1, p.2.1, p.2.2⟩) (fun _ => rfl)
def r27 : Rdg Try.prog (List S52) := Rd.slice 27 r52 Try.underlying27 (by kernel_rfl)
instance : Inhabited S29 := ⟨z29⟩
def r29 : Rdg Try.prog S29 := Rd.struct 29 Try.underlying29 (by kernel_rfl) (Rd.cons r22 _ rfl (by decide) rfl rfl rfl (Rd.cons r24 _ rfl (by decide) rfl rfl rfl (Rd.cons r26 _ rfl (by decide) rfl rfl rfl (Rd.cons r9 _ rfl (by decide) rfl rfl rfl (Rd.cons r27 _ rfl (by decide) rfl rfl rfl (Rd.last r3 _ rfl rfl rfl rfl rfl)))))) (fun x => (x.f0, x.f1, x.f2, x.f3, x.f4, x.f5)) (fun p => ⟨p.1, p.2.1, p.2.2.1, p.2.2.2.1, p.2.2.2.2.1, p.2.2.2.2.2⟩) (fun _ => rfl)
end Go.Proofs.Ytbnnmbajfmodjaa.answerPacks
