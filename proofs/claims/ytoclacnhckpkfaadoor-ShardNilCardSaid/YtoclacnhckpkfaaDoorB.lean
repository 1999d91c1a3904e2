/- Plain facts on bytes and numbers, with no program in sight: the number that bytes are, and the bytes of a number. -/
import Derived.Laws.BytesArg
import Derived.Laws.BitsLemmas
import Derived.Lib.Strings
import Derived.RowKit
import Derived.Test.YtoclacnhckpkfaaDoorWWords
namespace Go.Proofs.YtoclacnhckpkfaaDoor.B
open Go.RowKit Go.Proofs.YtoclacnhckpkfaaDoorW.PrintWords

theorem rev_ind {α : Type} {p : List α → Prop} (l : List α) (h0 : p []) (h1 : ∀ l a, p l → p (l ++ [a])) : p l := by
  suffices h : ∀ m : List α, p m.reverse by simpa using h l.reverse
  intro m
  induction m with
  | nil => exact h0
  | cons a m ih => rw [List.reverse_cons]; exact h1 _ _ ih
/-- The number that bytes are, the first the greatest. -/
def bval (l : List UInt8) : Int := l.foldl (fun n b => 256 * n + (b.toNat : Int)) 0
theorem bval_nil : bval [] = 0 := rfl
theorem bval_snoc (l : List UInt8) (b : UInt8) : bval (l ++ [b]) = 256 * bval l + (b.toNat : Int) := by simp [bval]
theorem bval_range (l : List UInt8) : 0 ≤ bval l ∧ bval l < 256 ^ l.length := by
  refine rev_ind (p := fun l => 0 ≤ bval l ∧ bval l < 256 ^ l.length) l (by simp [bval]) fun l b ih => ?_
  have hb := b.toNat_lt
  rw [bval_snoc, List.length_append, List.length_singleton, Int.pow_succ]
  omega
theorem bval_app (l m : List UInt8) : bval (l ++ m) = bval l * 256 ^ m.length + bval m := by
  refine rev_ind (p := fun m => bval (l ++ m) = bval l * 256 ^ m.length + bval m) m (by simp [bval]) fun m b ih => ?_
  rw [← List.append_assoc, bval_snoc, bval_snoc, ih, List.length_append, List.length_singleton, Int.pow_succ, ← Int.mul_assoc]
  omega
theorem bval_le_app (l m : List UInt8) : bval l ≤ bval (l ++ m) := by
  rw [bval_app]
  have h0 := (bval_range l).1
  have h1 := (bval_range m).1
  have h2 : (0 : Int) < 256 ^ m.length := Int.pow_pos (by decide)
  have := Int.mul_le_mul_of_nonneg_left (show (1 : Int) ≤ 256 ^ m.length by omega) h0
  omega
theorem bval_take_le (l : List UInt8) (i : Nat) : bval (l.take i) ≤ bval l := by
  have := bval_le_app (l.take i) (l.drop i)
  rwa [List.take_append_drop] at this
theorem bval_one (b : UInt8) : bval [b] = (b.toNat : Int) := by simp [bval]
theorem bval_cons (b : UInt8) (t : List UInt8) : bval (b :: t) = (b.toNat : Int) * 256 ^ t.length + bval t := by
  have := bval_app [b] t
  rwa [bval_one] at this
theorem take_snoc {α : Type} {l : List α} {i : Nat} (h : i < l.length) : l.take (i + 1) = l.take i ++ [l[i]] := by
  rw [List.take_succ_eq_append_getElem h]
theorem len_eq (s : ByteArray) : s.toList.length = s.size := by rw [Lib.toList_data]; exact Array.length_toList
theorem bt_get (s : ByteArray) (i : Nat) (h : i < s.toList.length) : bt s (i : Int) = ((s.toList[i]).toNat : Int) := by
  have h' : i < s.size := by rw [len_eq] at h; exact h
  unfold bt
  simp only [Int.toNat_natCast, h', dite_true]
  simp only [Lib.toList_data]
  rfl
theorem ext_list {s t : ByteArray} (h : s.toList = t.toList) : s = t := by
  rw [Lib.toList_data, Lib.toList_data] at h
  cases s; cases t
  simp only [ByteArray.mk.injEq]
  exact Array.toList_inj.1 h
theorem wrap64_in {n : Int} (h0 : -9223372036854775808 ≤ n) (h1 : n ≤ 9223372036854775807) : wrap64 n = n := by unfold wrap64; omega
theorem wrap_u64 (n : Int) : IntKind.u64.wrap n = n % 18446744073709551616 := by simp [IntKind.wrap, IntKind.bits, IntKind.signed]
theorem wraps_u64 (n : Int) (h0 : 0 ≤ n) (h1 : n < 2 ^ 64) : IntKind.u64.wrap n = n := by rw [wrap_u64]; omega
theorem u64_or8 {x y : Int} (hx : 0 ≤ x) (hx1 : x * 256 < 2 ^ 64) (h0 : 0 ≤ y) (h1 : y < 256) : Go.bits .or .u64 (x * 256) y = 256 * x + y := by
  rw [bits_join .u64 64 (by decide) wraps_u64 8 (x * 256) y (by omega) (by omega) (by omega) h0 (by omega) (by omega)]
  omega
theorem wraps_i64 (n : Int) (h0 : 0 ≤ n) (h1 : n < 2 ^ 63) : IntKind.i64.wrap n = n := by rw [IntKind.wrap_i64]; omega
theorem i64_or8 {x y : Int} (hx : 0 ≤ x) (hx1 : x * 256 < 2 ^ 63) (h0 : 0 ≤ y) (h1 : y < 256) : Go.bits .or .i64 (x * 256) y = 256 * x + y := by
  rw [bits_join .i64 63 (by decide) wraps_i64 8 (x * 256) y (by omega) (by omega) (by omega) h0 (by omega) (by omega)]
  omega
theorem dec_nat {n : Nat} {b : Bool} (h : decide (0 < (n : Int)) = b) : decide (0 < n) = b := by
  cases b
  · exact decide_eq_false (by have := of_decide_eq_false h; omega)
  · exact decide_eq_true (by have := of_decide_eq_true h; omega)
theorem bne_pos {b : Bool} {n : Int} (h : (b != decide (n > 0)) = true) : (b = true ∧ decide (0 < n) = false) ∨ (b = false ∧ decide (0 < n) = true) := by
  have h' : (b != decide (0 < n)) = true := h
  cases b <;> cases hd : decide (0 < n) <;> rw [hd] at h' <;> first | exact absurd h' (by decide) | exact .inl ⟨rfl, rfl⟩ | exact .inr ⟨rfl, rfl⟩
theorem bne_neg {b : Bool} {n : Int} (h : (b != decide (n > 0)) = false) : decide (0 < n) = b := by
  have h' : (b != decide (0 < n)) = false := h
  cases b <;> cases hd : decide (0 < n) <;> rw [hd] at h' <;> first | exact absurd h' (by decide) | rfl
end Go.Proofs.YtoclacnhckpkfaaDoor.B
