/- The readings of the parameters of the law ShardNil. -/
import Derived.Test.YtoclacnhckpkfaaDoorRead
import Derived.Test.YtoclacnhckpkfaaDoorHShardNilLaw
namespace Go.Proofs.YtoclacnhckpkfaaDoor.shardNil
open Go.RowKit Go.Proofs.YtoclacnhckpkfaaDoor.FA Go.Proofs.YtoclacnhckpkfaaDoorW.PrintWords Go.Proofs.YtoclacnhckpkfaaDoor.Rd
def r3 : Rdg Tryd.prog Int := Rd.int 3 .i64 Tryd.underlying3 (by kernel_rfl)
def r9 : Rdg Tryd.prog ByteArray := Rd.string 9 Tryd.underlying9 (by kernel_rfl)
instance : Inhabited S36 := ⟨z36⟩
def r36 : Rdg Tryd.prog S36 := Rd.struct 36 Tryd.underlying36 (by kernel_rfl) (Rd.cons r3 _ rfl (by decide) rfl rfl rfl (Rd.cons r3 _ rfl (by decide) rfl rfl rfl (Rd.cons r9 _ rfl (by decide) rfl rfl rfl (Rd.last r3 _ rfl rfl rfl rfl rfl)))) (fun x => (x.f0, x.f1, x.f2, x.f3)) (fun p => ⟨p.1, p.2.1, p.2.2.1, p.2.2.2⟩) (fun _ => rfl)
end Go.Proofs.YtoclacnhckpkfaaDoor.shardNil
