/- The readings of the parameters of the law FolderHas. -/
import Derived.Test.YtjjjbpgncmfpgaaRead
import Derived.Test.YtjjjbpgncmfpgaaFAsextonlaw10FolderHas
namespace Go.Proofs.Ytjjjbpgncmfpgaa.folderHas
open Go.RowKit Go.Proofs.Ytjjjbpgncmfpgaa.FA Go.Proofs.YtjjjbpgncmfpgaaW.PrintWords Go.Proofs.Ytjjjbpgncmfpgaa.Rd
def r3 : Rdg Try.prog Int := Rd.int 3 .i64 Try.underlying3 (by kernel_rfl)
def r9 : Rdg Try.prog ByteArray := Rd.string 9 Try.underlying9 (by kernel_rfl)
instance : Inhabited S55 := ⟨z55⟩
def r55 : Rdg Try.prog S55 := Rd.struct 55 Try.underlying55 (by kernel_rfl) (Rd.cons r3 _ rfl (by decide) rfl rfl rfl (Rd.last r9 _ rfl rfl rfl rfl rfl)) (fun x => (x.f0, x.f1)) (fun p => ⟨p.1, p.2⟩) (fun _ => rfl)
def r52 : Rdg Try.prog (List S55) := Rd.slice 52 r55 Try.underlying52 (by kernel_rfl)
end Go.Proofs.Ytjjjbpgncmfpgaa.folderHas
