/- Fields as bytes, and back, in plain Lean, with no program in sight. -/
import Derived.Test.YtoclacnhckpkfaaDoorB
namespace Go.Proofs.YtoclacnhckpkfaaDoor.B
open Go.RowKit Go.Proofs.YtoclacnhckpkfaaDoorW.PrintWords

/-- A field's bytes. -/
def fieldB (t : Int) (v : ByteArray) : List UInt8 := UInt8.ofNat t.toNat :: UInt8.ofNat (v.size / 256) :: UInt8.ofNat (v.size % 256) :: v.toList
/-- What is wrong with fields behind one of a tag; 0: nothing. -/
def packE : Int → List (Int × ByteArray) → Int
  | _, [] => 0
  | b, x :: l => if x.1 < 1 ∨ 255 < x.1 then 1 else if 65535 < x.2.size then 2 else if x.1 < b then 11 else packE x.1 l
def packB : List (Int × ByteArray) → List UInt8
  | [] => []
  | x :: l => fieldB x.1 x.2 ++ packB l
def packVal (l : List (Int × ByteArray)) : ByteArray × Int := if packE 0 l = 0 then (⟨(packB l).toArray⟩, 0) else (⟨#[]⟩, packE 0 l)
/-- What is wrong with bytes as fields; 0: nothing. -/
def unpackE : Nat → Int → List UInt8 → Int
  | 0, _, _ => 0
  | _ + 1, _, [] => 0
  | k + 1, b, x :: y :: z :: r => if x.toNat = 0 then 4 else if (x.toNat : Int) < b then 11 else if r.length < 256 * y.toNat + z.toNat then 10 else unpackE k x.toNat (r.drop (256 * y.toNat + z.toNat))
  | _ + 1, _, _ => 10
def unpackL : Nat → List UInt8 → List (Int × ByteArray)
  | k + 1, x :: y :: z :: r => ((x.toNat : Int), ⟨(r.take (256 * y.toNat + z.toNat)).toArray⟩) :: unpackL k (r.drop (256 * y.toNat + z.toNat))
  | _, _ => []
def unpackVal (s : List UInt8) : List (Int × ByteArray) × Int := if unpackE (s.length + 1) 0 s = 0 then (unpackL (s.length + 1) s, 0) else ([], unpackE (s.length + 1) 0 s)

theorem app_list (s t : ByteArray) : (s ++ t).toList = s.toList ++ t.toList := by
  rw [Lib.toList_data, Lib.toList_data, Lib.toList_data]
  simp
theorem mk_toList (l : List UInt8) : (⟨l.toArray⟩ : ByteArray).toList = l := by rw [Lib.toList_data]
theorem mk_of_list (s : ByteArray) : (⟨s.toList.toArray⟩ : ByteArray) = s := ext_list (mk_toList _)
theorem mk_size (l : List UInt8) : (⟨l.toArray⟩ : ByteArray).size = l.length := by rw [← len_eq, mk_toList]
theorem ofNat_toNat {n : Nat} (h : n < 256) : (UInt8.ofNat n).toNat = n := by
  rw [UInt8.toNat_ofNat']
  omega
theorem packB_append (a b : List (Int × ByteArray)) : packB (a ++ b) = packB a ++ packB b := by
  induction a with
  | nil => rfl
  | cons x a ih => simp [packB, ih]
theorem fieldB_length (t : Int) (v : ByteArray) : (fieldB t v).length = v.size + 3 := by simp [fieldB, len_eq]

theorem pack_length (l : List (Int × ByteArray)) : l.length ≤ (packB l).length := by
  induction l with
  | nil => simp
  | cons x l ih => simp only [packB, List.length_append, fieldB_length, List.length_cons]; omega
theorem unpack_packs (l : List (Int × ByteArray)) : ∀ (b : Int) (k : Nat), packE b l = 0 → l.length < k → unpackE k b (packB l) = 0 ∧ unpackL k (packB l) = l := by
  induction l with
  | nil =>
    intro b k _ hk
    obtain ⟨k, rfl⟩ : ∃ m, k = m + 1 := ⟨k - 1, by omega⟩
    exact ⟨rfl, rfl⟩
  | cons x l ih =>
    intro b k h hk
    obtain ⟨k, rfl⟩ : ∃ m, k = m + 1 := ⟨k - 1, by omega⟩
    obtain ⟨t, v⟩ := x
    simp only [packE] at h
    by_cases h1 : t < 1 ∨ 255 < t
    · rw [if_pos h1] at h; omega
    · rw [if_neg h1] at h
      by_cases h2 : 65535 < v.size
      · rw [if_pos h2] at h; omega
      · rw [if_neg h2] at h
        by_cases h3 : t < b
        · rw [if_pos h3] at h; omega
        · rw [if_neg h3] at h
          have ht : (UInt8.ofNat t.toNat).toNat = t.toNat := ofNat_toNat (by omega)
          have hy : (UInt8.ofNat (v.size / 256)).toNat = v.size / 256 := ofNat_toNat (by omega)
          have hz : (UInt8.ofNat (v.size % 256)).toNat = v.size % 256 := ofNat_toNat (by omega)
          have hn : 256 * (v.size / 256) + v.size % 256 = v.toList.length := by rw [len_eq]; omega
          obtain ⟨e1, e2⟩ := ih t k h (by simpa using hk)
          simp only [packB, fieldB, List.cons_append, unpackE, unpackL, ht, hy, hz, hn, List.drop_left, List.take_left, mk_of_list]
          rw [if_neg (by omega), if_neg (by omega), if_neg (by simp), show ((t.toNat : Nat) : Int) = t by omega, e1, e2]
          exact ⟨rfl, rfl⟩
theorem pack_unpacks (k : Nat) : ∀ (b : Int) (s : List UInt8), unpackE k b s = 0 → s.length < k → packE b (unpackL k s) = 0 ∧ packB (unpackL k s) = s := by
  induction k with
  | zero => intro b s _ h; omega
  | succ k ih =>
    intro b s h hk
    match s, h, hk with
    | [], _, _ => exact ⟨rfl, rfl⟩
    | [_], h, _ => simp [unpackE] at h
    | [_, _], h, _ => simp [unpackE] at h
    | x :: y :: z :: r, h, hk =>
      have hx := x.toNat_lt
      have hy := y.toNat_lt
      have hz := z.toNat_lt
      simp only [unpackE] at h
      by_cases h1 : x.toNat = 0
      · rw [if_pos h1] at h; omega
      · rw [if_neg h1] at h
        by_cases h2 : (x.toNat : Int) < b
        · rw [if_pos h2] at h; omega
        · rw [if_neg h2] at h
          by_cases h3 : r.length < 256 * y.toNat + z.toNat
          · rw [if_pos h3] at h; omega
          · rw [if_neg h3] at h
            simp only [List.length_cons] at hk
            obtain ⟨e1, e2⟩ := ih _ _ h (by rw [List.length_drop]; omega)
            simp only [unpackL, packE, packB, fieldB, mk_size, mk_toList, List.length_take, Nat.min_eq_left (show 256 * y.toNat + z.toNat ≤ r.length by omega)]
            rw [if_neg (by omega), if_neg (by omega), if_neg h2, e1, e2]
            refine ⟨rfl, ?_⟩
            have ex : UInt8.ofNat ((x.toNat : Int).toNat) = x := by rw [Int.toNat_natCast]; exact UInt8.ofNat_toNat
            have ey : UInt8.ofNat ((256 * y.toNat + z.toNat) / 256) = y := by rw [show (256 * y.toNat + z.toNat) / 256 = y.toNat by omega]; exact UInt8.ofNat_toNat
            have ez : UInt8.ofNat ((256 * y.toNat + z.toNat) % 256) = z := by rw [show (256 * y.toNat + z.toNat) % 256 = z.toNat by omega]; exact UInt8.ofNat_toNat
            rw [ex, ey, ez]
            simp
theorem unpackL_length (k : Nat) : ∀ s : List UInt8, (unpackL k s).length ≤ s.length := by
  induction k with
  | zero => intro s; simp [unpackL]
  | succ k ih =>
    intro s
    match s with
    | [] => simp [unpackL]
    | [_] => simp [unpackL]
    | [_, _] => simp [unpackL]
    | x :: y :: z :: r =>
      have := ih (r.drop (256 * y.toNat + z.toNat))
      rw [List.length_drop] at this
      simp only [unpackL, List.length_cons]
      omega
theorem unpackVal_length (s : List UInt8) : (unpackVal s).1.length ≤ s.length := by
  unfold unpackVal
  split
  · exact unpackL_length _ _
  · simp
/-- More rounds tell the same. -/
theorem unpackE_more (k : Nat) : ∀ (b : Int) (s : List UInt8) (j : Nat), s.length < k → k ≤ j → unpackE j b s = unpackE k b s ∧ unpackL j s = unpackL k s := by
  induction k with
  | zero => intro b s j h; omega
  | succ k ih =>
    intro b s j hk hj
    obtain ⟨j, rfl⟩ : ∃ m, j = m + 1 := ⟨j - 1, by omega⟩
    match s, hk with
    | [], _ => exact ⟨rfl, rfl⟩
    | [_], _ => exact ⟨rfl, rfl⟩
    | [_, _], _ => exact ⟨rfl, rfl⟩
    | x :: y :: z :: r, hk =>
      simp only [List.length_cons] at hk
      obtain ⟨e1, e2⟩ := ih x.toNat (r.drop (256 * y.toNat + z.toNat)) j (by rw [List.length_drop]; omega) (by omega)
      simp only [unpackE, unpackL, e1, e2]
      exact ⟨trivial, trivial⟩
/-- The bytes of a number, so many. -/
def be : Nat → Int → List UInt8
  | 0, _ => []
  | s + 1, n => be s (n / 256) ++ [UInt8.ofNat (n % 256).toNat]
theorem be_length (s : Nat) : ∀ n, (be s n).length = s := by
  induction s with
  | zero => intro n; rfl
  | succ s ih => intro n; simp [be, ih]
theorem bval_be (s : Nat) : ∀ n : Int, 0 ≤ n → n < 256 ^ s → bval (be s n) = n := by
  induction s with
  | zero => intro n h0 h1; simp [be, bval] at *; omega
  | succ s ih =>
    intro n h0 h1
    rw [Int.pow_succ] at h1
    simp only [be]
    rw [bval_snoc, ih (n / 256) (by omega) (by omega), ofNat_toNat (by omega)]
    omega
def numVal (n size : Int) : ByteArray × Int :=
  if size < 1 ∨ 8 < size ∨ n < 0 ∨ (256 : Int) ^ size.toNat ≤ n then (⟨#[]⟩, 1) else (⟨(be size.toNat n).toArray⟩, 0)
end Go.Proofs.YtoclacnhckpkfaaDoor.B
