/- Of three texts of one length, xored byte by byte, the sum is their sums, xored. -/
import Derived.Test.YthmeagbfoccnlaaDoorRdPolyLinear
import Derived.Test.YthmeagbfoccnlaaDoorPolyLaws
namespace Go.Proofs.YthmeagbfoccnlaaDoor.polyLinear
open Go.RowKit Go.Proofs.YthmeagbfoccnlaaDoor.FA Go.Proofs.YthmeagbfoccnlaaDoorW.PrintWords Go.Proofs.YthmeagbfoccnlaaDoor.Rd Go.Proofs.YthmeagbfoccnlaaDoor.B
set_option linter.unusedVariables false
def asI (l : List UInt8) : List Int := l.map fun b => (b.toNat : Int)
theorem str_asI (l : List UInt8) : strOfNums (asI l) = ⟨l.toArray⟩ := by
  apply ext_list
  rw [nums_list, mk_toList l, asI, List.map_map]
  conv => rhs; rw [← List.map_id l]
  refine List.map_congr_left fun b _ => ?_
  simp
theorem xor_u8 (a b : UInt8) : Go.bits .xor .u8 (a.toNat : Int) (b.toNat : Int) = ((a ^^^ b).toNat : Int) := by
  rw [bits_xor_nat .u8 8 (by decide) wraps_u8 a.toNat b.toNat a.toNat_lt b.toNat_lt, UInt8.toNat_xor]
theorem xor3_snoc : ∀ (l m n : List UInt8), m.length = l.length → n.length = l.length → ∀ x y z, xor3 (l ++ [x]) (m ++ [y]) (n ++ [z]) = xor3 l m n ++ [x ^^^ y ^^^ z]
  | [], m, n, hm, hn, x, y, z => by
    obtain rfl := List.length_eq_zero_iff.1 hm
    obtain rfl := List.length_eq_zero_iff.1 hn
    rfl
  | a :: l, [], n, hm, hn, x, y, z => by simp at hm
  | a :: l, b :: m, [], hm, hn, x, y, z => by simp at hn
  | a :: l, b :: m, c :: n, hm, hn, x, y, z => by
    have ih := xor3_snoc l m n (by simpa using hm) (by simpa using hn) x y z
    simp only [List.cons_append, xor3, ih]
theorem xor3_length : ∀ (l m n : List UInt8), m.length = l.length → n.length = l.length → (xor3 l m n).length = l.length
  | [], m, n, hm, hn => by
    obtain rfl := List.length_eq_zero_iff.1 hm
    rfl
  | a :: l, [], n, hm, hn => by simp at hm
  | a :: l, b :: m, [], hm, hn => by simp at hn
  | a :: l, b :: m, c :: n, hm, hn => by simp only [xor3, List.length_cons, xor3_length l m n (by simpa using hm) (by simpa using hn)]
theorem loop_is (a b c : ByteArray) (n : Nat) (ha : n ≤ a.size) (hb : n ≤ b.size) (hc : n ≤ c.size) (hn : n ≤ 140737488351232) (za : a.size ≤ 140737488351232) (zb : b.size ≤ 140737488351232) (zc : c.size ≤ 140737488351232) (d : Nat) :
    ∀ k i : Nat, n - i = d → i ≤ n → d + n + 12 < k → sextonlaw02_PolyLinear.l0 k a b c (n : Int) (asI (xor3 (a.toList.take i) (b.toList.take i) (c.toList.take i))) (i : Int) = some true := by
  induction d with
  | zero =>
    intro k i hd hi hk
    obtain ⟨k, rfl⟩ : ∃ m, k = m + 1 := ⟨k - 1, by omega⟩
    obtain rfl : i = n := by omega
    have la : (a.toList.take i).length = i := by rw [List.length_take, len_eq]; omega
    have lb : (b.toList.take i).length = i := by rw [List.length_take, len_eq]; omega
    have lc : (c.toList.take i).length = i := by rw [List.length_take, len_eq]; omega
    have lx := xor3_length _ _ _ (lb.trans la.symm) (lc.trans la.symm)
    simp only [sextonlaw02_PolyLinear.l0]
    rw [if_neg (by omega), str_asI, sum_is _ (by rw [mk_size (xor3 _ _ _), lx, la]; omega) k (by rw [mk_size (xor3 _ _ _), lx, la]; omega)]
    simp only [Option.bind_some]
    rw [if_pos (by omega), if_pos (by omega), Int.toNat_natCast, extract_eq a, extract_eq b, extract_eq c]
    rw [sum_is _ (by rw [mk_size (a.toList.take i), la]; omega) k (by rw [mk_size (a.toList.take i), la]; omega)]
    simp only [Option.bind_some]
    rw [if_pos (by omega), sum_is _ (by rw [mk_size (b.toList.take i), lb]; omega) k (by rw [mk_size (b.toList.take i), lb]; omega)]
    simp only [Option.bind_some]
    rw [if_pos (by omega), sum_is _ (by rw [mk_size (c.toList.take i), lc]; omega) k (by rw [mk_size (c.toList.take i), lc]; omega)]
    simp only [Option.bind_some]
    rw [mk_toList (a.toList.take i), mk_toList (b.toList.take i), mk_toList (c.toList.take i), mk_toList (xor3 _ _ _)]
    have h1 := sumN_lt (a.toList.take i)
    have h2 := sumN_lt (b.toList.take i)
    have h3 := sumN_lt (c.toList.take i)
    have h4 := Nat.xor_lt_two_pow h1 h2
    rw [xor_i64 (by omega) (by omega), xor_i64 (by omega) (by omega), sumN_xor3 _ _ _ (lb.trans la.symm) (lc.trans la.symm), if_pos rfl, nine_is _ (by omega)]
    rfl
  | succ d ih =>
    intro k i hd hi hk
    obtain ⟨k, rfl⟩ : ∃ m, k = m + 1 := ⟨k - 1, by omega⟩
    have la : (a.toList.take i).length = i := by rw [List.length_take, len_eq]; omega
    have lb : (b.toList.take i).length = i := by rw [List.length_take, len_eq]; omega
    have lc : (c.toList.take i).length = i := by rw [List.length_take, len_eq]; omega
    have lx := xor3_length _ _ _ (lb.trans la.symm) (lc.trans la.symm)
    have ga : i < a.toList.length := by rw [len_eq]; omega
    have gb : i < b.toList.length := by rw [len_eq]; omega
    have gc : i < c.toList.length := by rw [len_eq]; omega
    simp only [sextonlaw02_PolyLinear.l0]
    rw [if_pos (by omega), if_pos (by omega), if_pos (by omega), if_pos (by omega), if_pos (by omega), if_pos (by rw [asI, List.length_map, lx, la]; omega), bt_get a i ga, bt_get b i gb, bt_get c i gc, xor_u8, xor_u8, wrap64_in (by omega) (by omega), show (i : Int) + 1 = ((i + 1 : Nat) : Int) by omega]
    have e : asI (xor3 (a.toList.take i) (b.toList.take i) (c.toList.take i)) ++ [((a.toList[i] ^^^ b.toList[i] ^^^ c.toList[i]).toNat : Int)] = asI (xor3 (a.toList.take (i + 1)) (b.toList.take (i + 1)) (c.toList.take (i + 1))) := by
      rw [take_snoc ga, take_snoc gb, take_snoc gc, xor3_snoc _ _ _ (lb.trans la.symm) (lc.trans la.symm)]
      simp [asI]
    rw [e]
    exact ih k (i + 1) (by omega) (by omega) (by omega)
theorem pure_PolyLinear : ∀ (a0 : ByteArray) (o0 : r9.ok a0) (a1 : ByteArray) (o1 : r9.ok a1) (a2 : ByteArray) (o2 : r9.ok a2) (w0 : r9.wt a0) (w1 : r9.wt a1) (w2 : r9.wt a2), ∃ k, sextonlaw02_PolyLinear.f k a0 a1 a2 = some true := by
  intro a _ b _ c _ w0 w1 w2
  have ha : a.size ≤ 140737488351232 := w0
  have hb : b.size ≤ 140737488351232 := w1
  have hc : c.size ≤ 140737488351232 := w2
  refine ⟨a.size + a.size + b.size + b.size + 20, ?_⟩
  have go : ∀ n : Nat, n ≤ a.size → n ≤ b.size → sextonlaw02_PolyLinear.j0 (a.size + a.size + b.size + b.size + 20) a b c (n : Int) = some true := by
    intro n h1 h2
    simp only [sextonlaw02_PolyLinear.j0]
    by_cases h : (c.size : Int) < n
    · rw [if_pos h]
      simp only [sextonlaw02_PolyLinear.j1]
      exact loop_is a b c c.size (by omega) (by omega) (by omega) (by omega) ha hb hc c.size _ 0 (by omega) (by omega) (by omega)
    · rw [if_neg h]
      simp only [sextonlaw02_PolyLinear.j1]
      exact loop_is a b c n (by omega) (by omega) (by omega) (by omega) ha hb hc n _ 0 (by omega) (by omega) (by omega)
  unfold sextonlaw02_PolyLinear.f
  by_cases h : (b.size : Int) < a.size
  · rw [if_pos h]
    exact go b.size (by omega) (by omega)
  · rw [if_neg h]
    exact go a.size (by omega) (by omega)
end Go.Proofs.YthmeagbfoccnlaaDoor.polyLinear
