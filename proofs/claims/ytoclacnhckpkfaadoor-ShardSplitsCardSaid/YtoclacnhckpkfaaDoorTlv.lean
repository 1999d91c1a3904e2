/- Fields as bytes, and back, in plain Lean, with no program in sight. -/
import Derived.Test.YtoclacnhckpkfaaDoorB
namespace Go.Proofs.YtoclacnhckpkfaaDoor.B
open Go.RowKit Go.Proofs.YtoclacnhckpkfaaDoorW.PrintWords

/-- A field's bytes. -/
def fieldB (t : Int) (v : ByteArray) : List UInt8 := UInt8.ofNat t.toNat :: UInt8.ofNat (v.size / 256) :: UInt8.ofNat (v.size % 256) :: v.toList
/-- What is wrong with fields behind one of a tag; 0: nothing. -/
def packE : Int → List (Int × ByteArray) → Int
  | _, [] => 0
  | b, x :: l => if x.1 < 1 ∨ 255 < x.1 then 1 else if 65535 < x.2.size then 2 else if x.1 < b then 11 else packE x.1 l
def packB : List (Int × ByteArray) → List UInt8
  | [] => []
  | x :: l => fieldB x.1 x.2 ++ packB l
def packVal (l : List (Int × ByteArray)) : ByteArray × Int := if packE 0 l = 0 then (⟨(packB l).toArray⟩, 0) else (⟨#[]⟩, packE 0 l)
/-- What is wrong with bytes as fields; 0: nothing. -/
def unpackE : Nat → Int → List UInt8 → Int
  | 0, _, _ => 0
  | _ + 1, _, [] => 0
  | k + 1, b, x :: y :: z :: r => if x.toNat = 0 then 4 else if (x.toNat : Int) < b then 11 else if r.length < 256 * y.toNat + z.toNat then 10 else unpackE k x.toNat (r.drop (256 * y.toNat + z.toNat))
  | _ + 1, _, _ => 10
def unpackL : Nat → List UInt8 → List (Int × ByteArray)
  | k + 1, x :: y :: z :: r => ((x.toNat : Int), ⟨(r.take (256 * y.toNat + z.toNat)).toArray⟩) :: unpackL k (r.drop (256 * y.toNat + z.toNat))
  | _, _ => []
def unpackVal (s : List UInt8) : List (Int × ByteArray) × Int := if unpackE (s.length + 1) 0 s = 0 then (unpackL (s.length + 1) s, 0) else ([], unpackE (s.length + 1) 0 s)

theorem mk_toList (l : List UInt8) : (⟨l.toArray⟩ : ByteArray).toList = l := by rw [Lib.toList_data]
theorem mk_of_list (s : ByteArray) : (⟨s.toList.toArray⟩ : ByteArray) = s := ext_list (mk_toList _)
theorem mk_size (l : List UInt8) : (⟨l.toArray⟩ : ByteArray).size = l.length := by rw [← len_eq, mk_toList]
/-- The bytes of a number, so many. -/
def be : Nat → Int → List UInt8
  | 0, _ => []
  | s + 1, n => be s (n / 256) ++ [UInt8.ofNat (n % 256).toNat]
def numVal (n size : Int) : ByteArray × Int :=
  if size < 1 ∨ 8 < size ∨ n < 0 ∨ (256 : Int) ^ size.toNat ≤ n then (⟨#[]⟩, 1) else (⟨(be size.toNat n).toArray⟩, 0)
end Go.Proofs.YtoclacnhckpkfaaDoor.B
