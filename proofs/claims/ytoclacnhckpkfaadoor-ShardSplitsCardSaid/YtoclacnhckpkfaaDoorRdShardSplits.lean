/- The readings of the parameters of the law ShardSplits. -/
import Derived.Test.YtoclacnhckpkfaaDoorRead
import Derived.Test.YtoclacnhckpkfaaDoorShardKinds
import Derived.Test.YtoclacnhckpkfaaDoorFAsextonlaw19ShardSplits
namespace Go.Proofs.YtoclacnhckpkfaaDoor.shardSplits
open Go.RowKit Go.Proofs.YtoclacnhckpkfaaDoor.FA Go.Proofs.YtoclacnhckpkfaaDoorW.PrintWords Go.Proofs.YtoclacnhckpkfaaDoor.Rd
def r3 : Rdg Tryd.prog Int := Rd.int 3 .i64 Tryd.underlying3 (by kernel_rfl)
def r9 : Rdg Tryd.prog ByteArray := Rd.string 9 Tryd.underlying9 (by kernel_rfl)
instance : Inhabited S23 := ⟨z23⟩
def r23 : Rdg Tryd.prog S23 := Rd.struct 23 Tryd.underlying23 (by kernel_rfl) (Rd.cons r3 _ rfl (by decide) rfl rfl rfl (Rd.cons r3 _ rfl (by decide) rfl rfl rfl (Rd.last r3 _ rfl rfl rfl rfl rfl))) (fun x => (x.f0, x.f1, x.f2)) (fun p => ⟨p.1, p.2.1, p.2.2⟩) (fun _ => rfl)
end Go.Proofs.YtoclacnhckpkfaaDoor.shardSplits
