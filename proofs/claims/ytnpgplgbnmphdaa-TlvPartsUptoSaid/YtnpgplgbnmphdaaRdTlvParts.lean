/- The readings of the parameters of the law TlvParts. -/
import Derived.Test.YtnpgplgbnmphdaaRead
import Derived.Test.YtnpgplgbnmphdaaFAsextonlaw01TlvParts
namespace Go.Proofs.Ytnpgplgbnmphdaa.tlvParts
open Go.RowKit Go.Proofs.Ytnpgplgbnmphdaa.FA Go.Proofs.YtnpgplgbnmphdaaW.PrintWords Go.Proofs.Ytnpgplgbnmphdaa.Rd
def r3 : Rdg Try.prog Int := Rd.int 3 .i64 Try.underlying3 (by kernel_rfl)
def r9 : Rdg Try.prog ByteArray := Rd.string 9 Try.underlying9 (by kernel_rfl)
instance : Inhabited S37 := ⟨z37⟩
def r37 : Rdg Try.prog S37 := Rd.struct 37 Try.underlying37 (by kernel_rfl) (Rd.cons r3 _ rfl (by decide) rfl rfl rfl (Rd.last r9 _ rfl rfl rfl rfl rfl)) (fun x => (x.f0, x.f1)) (fun p => ⟨p.1, p.2⟩) (fun _ => rfl)
def r34 : Rdg Try.prog (List S37) := Rd.slice 34 r37 Try.underlying34 (by kernel_rfl)
end Go.Proofs.Ytnpgplgbnmphdaa.tlvParts
