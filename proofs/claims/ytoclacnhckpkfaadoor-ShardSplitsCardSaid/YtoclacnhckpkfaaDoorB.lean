/- Plain facts on bytes and numbers, with no program in sight: the number that bytes are, and the bytes of a number. -/
import Derived.Laws.BytesArg
import Derived.Laws.BitsLemmas
import Derived.Lib.Strings
import Derived.RowKit
import Derived.Test.YtoclacnhckpkfaaDoorWWords
namespace Go.Proofs.YtoclacnhckpkfaaDoor.B
open Go.RowKit Go.Proofs.YtoclacnhckpkfaaDoorW.PrintWords

/-- The number that bytes are, the first the greatest. -/
def bval (l : List UInt8) : Int := l.foldl (fun n b => 256 * n + (b.toNat : Int)) 0
theorem len_eq (s : ByteArray) : s.toList.length = s.size := by rw [Lib.toList_data]; exact Array.length_toList
theorem bt_get (s : ByteArray) (i : Nat) (h : i < s.toList.length) : bt s (i : Int) = ((s.toList[i]).toNat : Int) := by
  have h' : i < s.size := by rw [len_eq] at h; exact h
  unfold bt
  simp only [Int.toNat_natCast, h', dite_true]
  simp only [Lib.toList_data]
  rfl
theorem ext_list {s t : ByteArray} (h : s.toList = t.toList) : s = t := by
  rw [Lib.toList_data, Lib.toList_data] at h
  cases s; cases t
  simp only [ByteArray.mk.injEq]
  exact Array.toList_inj.1 h
theorem wrap64_in {n : Int} (h0 : -9223372036854775808 ≤ n) (h1 : n ≤ 9223372036854775807) : wrap64 n = n := by unfold wrap64; omega
theorem wraps_i64 (n : Int) (h0 : 0 ≤ n) (h1 : n < 2 ^ 63) : IntKind.i64.wrap n = n := by rw [IntKind.wrap_i64]; omega
end Go.Proofs.YtoclacnhckpkfaaDoor.B
