/- The readings of the parameters of the law FolderChanges. -/
import Derived.Test.YtjjjbpgncmfpgaaRead
import Derived.Test.YtjjjbpgncmfpgaaHFolderChangesLaw
namespace Go.Proofs.Ytjjjbpgncmfpgaa.folderChanges
open Go.RowKit Go.Proofs.Ytjjjbpgncmfpgaa.FA Go.Proofs.YtjjjbpgncmfpgaaW.PrintWords Go.Proofs.Ytjjjbpgncmfpgaa.Rd
def r9 : Rdg Try.prog ByteArray := Rd.string 9 Try.underlying9 (by kernel_rfl)
def r3 : Rdg Try.prog Int := Rd.int 3 .i64 Try.underlying3 (by kernel_rfl)
instance : Inhabited S28 := ⟨z28⟩
def r28 : Rdg Try.prog S28 := Rd.struct 28 Try.underlying28 (by kernel_rfl) (Rd.cons r3 _ rfl (by decide) rfl rfl rfl (Rd.last r3 _ rfl rfl rfl rfl rfl)) (fun x => (x.f0, x.f1)) (fun p => ⟨p.1, p.2⟩) (fun _ => rfl)
instance : Inhabited S30 := ⟨z30⟩
def r30 : Rdg Try.prog S30 := Rd.struct 30 Try.underlying30 (by kernel_rfl) (Rd.cons r9 _ rfl (by decide) rfl rfl rfl (Rd.cons r3 _ rfl (by decide) rfl rfl rfl (Rd.last r28 _ rfl rfl rfl rfl rfl))) (fun x => (x.f0, x.f1, x.f2)) (fun p => ⟨p.1, p.2.1, p.2.2⟩) (fun _ => rfl)
def r22 : Rdg Try.prog (List S30) := Rd.slice 22 r30 Try.underlying22 (by kernel_rfl)
instance : Inhabited S24 := ⟨z24⟩
def r24 : Rdg Try.prog S24 := Rd.struct 24 Try.underlying24 (by kernel_rfl) (Rd.cons r22 _ rfl (by decide) rfl rfl rfl (Rd.last r3 _ rfl rfl rfl rfl rfl)) (fun x => (x.f0, x.f1)) (fun p => ⟨p.1, p.2⟩) (fun _ => rfl)
end Go.Proofs.Ytjjjbpgncmfpgaa.folderChanges
