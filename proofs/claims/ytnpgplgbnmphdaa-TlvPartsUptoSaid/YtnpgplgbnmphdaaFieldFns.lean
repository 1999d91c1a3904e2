/- Fields of the program and of the reference as plain pairs. -/
import Derived.Test.YtnpgplgbnmphdaaTlv
import Derived.Test.YtnpgplgbnmphdaaFAx0
namespace Go.Proofs.Ytnpgplgbnmphdaa.TlvFns
open Go.RowKit Go.Proofs.Ytnpgplgbnmphdaa.FA Go.Proofs.YtnpgplgbnmphdaaW.PrintWords Go.Proofs.YtnpgplgbnmphdaaW.PrintLast Go.Proofs.YtnpgplgbnmphdaaW.PrintMore Go.Proofs.Ytnpgplgbnmphdaa.B
set_option linter.unusedVariables false
set_option linter.unusedSimpArgs false
theorem rd_get {l : List S37} {i : Nat} (h : i < l.length) : rd_T37 l (i : Int) = l[i] := by
  unfold rd_T37
  rw [Int.toNat_natCast, List.getD_eq_getElem?_getD, List.getElem?_eq_getElem h]
  rfl
theorem rd_get' {l : List S60} {i : Nat} (h : i < l.length) : rd_T60 l (i : Int) = l[i] := by
  unfold rd_T60
  rw [Int.toNat_natCast, List.getD_eq_getElem?_getD, List.getElem?_eq_getElem h]
  rfl
def fl (l : List S37) : List (Int × ByteArray) := l.map fun x => (x.f0, x.f1)
def fr (l : List S60) : List (Int × ByteArray) := l.map fun x => (x.f0, x.f1)
theorem bytes_str (xs : List Int) : (strOfNums xs).toList = xs.map fun n => UInt8.ofNat n.toNat := by rw [Lib.toList_data]; rfl

end Go.Proofs.Ytnpgplgbnmphdaa.TlvFns
