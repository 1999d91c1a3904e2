/- Plain facts on bytes and numbers, with no program in sight: the number that bytes are, and the bytes of a number. -/
import Derived.Laws.BytesArg
import Derived.Laws.BitsLemmas
import Derived.Lib.Strings
import Derived.RowKit
import Derived.Test.YtjjjbpgncmfpgaaWWords
namespace Go.Proofs.Ytjjjbpgncmfpgaa.B
open Go.RowKit Go.Proofs.YtjjjbpgncmfpgaaW.PrintWords

/-- The number that bytes are, the first the greatest. -/
def bval (l : List UInt8) : Int := l.foldl (fun n b => 256 * n + (b.toNat : Int)) 0
theorem take_snoc {α : Type} {l : List α} {i : Nat} (h : i < l.length) : l.take (i + 1) = l.take i ++ [l[i]] := by
  rw [List.take_succ_eq_append_getElem h]
theorem len_eq (s : ByteArray) : s.toList.length = s.size := by rw [Lib.toList_data]; exact Array.length_toList
theorem bt_get (s : ByteArray) (i : Nat) (h : i < s.toList.length) : bt s (i : Int) = ((s.toList[i]).toNat : Int) := by
  have h' : i < s.size := by rw [len_eq] at h; exact h
  unfold bt
  simp only [Int.toNat_natCast, h', dite_true]
  simp only [Lib.toList_data]
  rfl
theorem wrap64_in {n : Int} (h0 : -9223372036854775808 ≤ n) (h1 : n ≤ 9223372036854775807) : wrap64 n = n := by unfold wrap64; omega
end Go.Proofs.Ytjjjbpgncmfpgaa.B
