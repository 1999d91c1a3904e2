/- What attr.Unpack and the reference's Pack and Unpack come to. -/
import Derived.Test.YtfelpemelohggaaAttrOps
import Derived.Test.YtfelpemelohggaaHAttrUnpack
import Derived.Test.YtfelpemelohggaaNumberFns
import Derived.Test.YtfelpemelohggaaFAsextonref07Unpack
namespace Go.Proofs.Ytfelpemelohggaa.AttrFns
open Go.RowKit Go.Proofs.Ytfelpemelohggaa.FA Go.Proofs.YtfelpemelohggaaW.PrintWords Go.Proofs.YtfelpemelohggaaW.PrintLast Go.Proofs.YtfelpemelohggaaW.PrintMore Go.Proofs.Ytfelpemelohggaa.B Go.Proofs.Ytfelpemelohggaa.TlvFns
set_option linter.unusedVariables false
set_option linter.unusedSimpArgs false

theorem bval_lt7 (l : List UInt8) (h : l.length ≤ 7) : 0 ≤ bval l ∧ bval l < 9223372036854775808 := by
  have h1 := bval_range l
  have h2 := pow_le h
  omega
theorem numberOf_small (s : ByteArray) (h1 : 1 ≤ s.size) (h2 : s.size ≤ 7) : numberOf s = (bval s.toList, 0) := by
  have hb := bval_lt7 s.toList (by rw [len_eq]; exact h2)
  unfold numberOf
  rw [if_neg (by omega), if_neg (by omega)]
/-- The number that some bytes are. -/
def seg (s : ByteArray) (i n : Nat) : Int := bval ((s.toList.drop i).take n)
theorem ext_list' (s : ByteArray) (a b : Nat) : (s.extract a b).toList = (s.toList.drop a).take (b - a) := by rw [Lib.extract_toList, ← Lib.toList_data]
theorem ref_pack_is (a b c d : Int) : sextonref07_Pack.f 12 a b c d = some (if Rt a b c d then (⟨(bytes12 a b c d).toArray⟩, 0) else (⟨#[]⟩, 70)) := by
  unfold sextonref07_Pack.f
  rw [right_is]
  simp only [Option.bind_some]
  by_cases h : Rt a b c d
  · rw [if_pos h, decide_eq_true h, if_pos rfl]
    have hr : 0 ≤ a ∧ a ≤ 2 ∧ 0 ≤ b ∧ b ≤ 64 ∧ 0 ≤ c ∧ c ≤ 1048576 ∧ 0 ≤ d ∧ d ≤ 1099511627776 := by unfold Rt at h; omega
    obtain ⟨a1, a2, b1, b2, c1, c2, d1, d2⟩ := hr
    rw [ref_num_is a 1 (by omega) 12 (by decide), ref_num_is b 1 (by omega) 12 (by decide), ref_num_is c 4 (by omega) 12 (by decide), ref_num_is d 6 (by omega) 12 (by decide)]
    rw [numVal_in a 1 (by decide) a1 (Int.lt_of_le_of_lt a2 (by decide)), numVal_in b 1 (by decide) b1 (Int.lt_of_le_of_lt b2 (by decide)), numVal_in c 4 (by decide) c1 (Int.lt_of_le_of_lt c2 (by decide)), numVal_in d 6 (by decide) d1 (Int.lt_of_le_of_lt d2 (by decide))]
    simp only [Option.bind_some]
    have z1 : (⟨(be (1 : Int).toNat a).toArray⟩ : ByteArray).size = 1 := by rw [mk_size, be_length]; rfl
    have z2 : (⟨(be (1 : Int).toNat b).toArray⟩ : ByteArray).size = 1 := by rw [mk_size, be_length]; rfl
    have z3 : (⟨(be (4 : Int).toNat c).toArray⟩ : ByteArray).size = 4 := by rw [mk_size, be_length]; rfl
    have z4 : (⟨(be (6 : Int).toNat d).toArray⟩ : ByteArray).size = 6 := by rw [mk_size, be_length]; rfl
    rw [if_pos (by rw [z1, z2]; decide), if_pos (by rw [ByteArray.size_append, z1, z2, z3]; decide), if_pos (by rw [ByteArray.size_append, ByteArray.size_append, z1, z2, z3, z4]; decide)]
    refine congrArg some (Prod.ext (ext_list ?_) rfl)
    show (((⟨(be (1 : Int).toNat a).toArray⟩ : ByteArray) ++ ⟨(be (1 : Int).toNat b).toArray⟩) ++ ⟨(be (4 : Int).toNat c).toArray⟩ ++ ⟨(be (6 : Int).toNat d).toArray⟩).toList = (⟨(bytes12 a b c d).toArray⟩ : ByteArray).toList
    rw [app_list, app_list, app_list, mk_toList (be _ a), mk_toList (be _ b), mk_toList (be _ c), mk_toList (be _ d), mk_toList (bytes12 a b c d)]
    rfl
  · rw [if_neg h, decide_eq_false h, if_neg (by decide)]
def unpackV (s : ByteArray) : Int × Int × Int × Int × Int :=
  if s.size = 12 then (if Rt (seg s 0 1) (seg s 1 1) (seg s 2 4) (seg s 6 6) then (seg s 0 1, seg s 1 1, seg s 2 4, seg s 6 6, 0) else (0, 0, 0, 0, 70)) else (0, 0, 0, 0, 4)
theorem unpack_is (s : ByteArray) : attr_Unpack.f s = some (unpackV s) := by
  unfold attr_Unpack.f unpackV
  by_cases h : s.size = 12
  · rw [if_pos h, if_pos h]
    have hl : s.toList.length = 12 := by rw [len_eq, h]
    have z0 : (s.extract 0 1).size = 1 := by rw [ByteArray.size_extract, h]; rfl
    have z1 : ((s.extract 1 12).extract 0 1).size = 1 := by rw [ByteArray.size_extract, sx1 s h]; rfl
    have z2 : (((s.extract 1 12).extract 1 11).extract 0 4).size = 4 := by rw [ByteArray.size_extract, sx2 s h]; rfl
    have z3 : ((((s.extract 1 12).extract 1 11).extract 4 10).extract 0 6).size = 6 := by rw [ByteArray.size_extract, sx3 s h]; rfl
    have l0 : (s.extract 0 1).toList = (s.toList.drop 0).take 1 := ext_list' _ _ _
    have t12 : ∀ j k, j + k = 12 → ((s.toList.drop j).take k) = s.toList.drop j := fun j k hjk => List.take_of_length_le (by rw [List.length_drop]; omega)
    have l1 : ((s.extract 1 12).extract 0 1).toList = (s.toList.drop 1).take 1 := by
      rw [ext_list', ext_list', List.drop_zero, t12 1 _ rfl]
    have l2 : (((s.extract 1 12).extract 1 11).extract 0 4).toList = (s.toList.drop 2).take 4 := by
      rw [ext_list', ext_list', ext_list', List.drop_zero, t12 1 _ rfl, List.drop_drop, t12 (1 + 1) _ rfl]
    have l3 : ((((s.extract 1 12).extract 1 11).extract 4 10).extract 0 6).toList = (s.toList.drop 6).take 6 := by
      rw [ext_list', ext_list', ext_list', ext_list', List.drop_zero, t12 1 _ rfl, List.drop_drop, t12 (1 + 1) _ rfl, List.drop_drop]
      exact congrArg (List.take 6) (t12 (1 + 1 + 4) (10 - 4) rfl)
    rw [number_is _ 12 (by decide), number_is _ 12 (by decide), number_is _ 12 (by decide), number_is _ 12 (by decide)]
    rw [numberOf_small _ (by omega) (by omega), numberOf_small _ (by omega) (by omega), numberOf_small _ (by omega) (by omega), numberOf_small _ (by omega) (by omega), l0, l1, l2, l3]
    have e0 : bval ((s.toList.drop 0).take 1) = seg s 0 1 := rfl
    have e1 : bval ((s.toList.drop 1).take 1) = seg s 1 1 := rfl
    have e2 : bval ((s.toList.drop 2).take 4) = seg s 2 4 := rfl
    have e3 : bval ((s.toList.drop 6).take 6) = seg s 6 6 := rfl
    simp only [Option.bind_some]
    rw [e0, e1, e2, e3, check_is 2 (by decide)]
    simp only [Option.bind_some]
    by_cases hR : Rt (seg s 0 1) (seg s 1 1) (seg s 2 4) (seg s 6 6)
    · rw [if_pos hR, if_pos hR, if_pos (by trivial)]
    · rw [if_neg hR, if_neg hR, if_neg (by decide)]
  · rw [if_neg h, if_neg h]
theorem ref_unpack_is (s : ByteArray) : sextonref07_Unpack.f 14 s = some (unpackV s) := by
  unfold sextonref07_Unpack.f unpackV
  by_cases h : s.size = 12
  · rw [if_pos (show (s.size : Int) = 12 by omega), if_pos h, if_pos (by decide), if_pos (by omega)]
    have hl : s.toList.length = 12 := by rw [len_eq, h]
    have z2 : (s.extract 2 6).size = 4 := by rw [ByteArray.size_extract, h]; rfl
    have z3 : (s.extract 6 s.size).size = 6 := by rw [ByteArray.size_extract, h]; rfl
    rw [TlvFns.ref_number_is _ 14 (by decide), TlvFns.ref_number_is _ 14 (by decide), numberOf_small _ (by omega) (by omega), numberOf_small _ (by omega) (by omega), ext_list', ext_list', h]
    simp only [Option.bind_some]
    rw [if_pos (by omega), if_pos (by omega)]
    have b0 : wrap64 (bt s 0) = seg s 0 1 := by
      have hb := bt_get s 0 (by omega)
      have := (s.toList[0]'(by omega)).toNat_lt
      rw [show (0 : Int) = ((0 : Nat) : Int) from rfl, hb, wrap64_in (by omega) (by omega)]
      unfold seg
      rw [List.drop_eq_getElem_cons (show 0 < s.toList.length by omega)]
      exact (bval_one _).symm
    have b1 : wrap64 (bt s 1) = seg s 1 1 := by
      have hb := bt_get s 1 (by omega)
      have := (s.toList[1]'(by omega)).toNat_lt
      rw [show (1 : Int) = ((1 : Nat) : Int) from rfl, hb, wrap64_in (by omega) (by omega)]
      unfold seg
      rw [List.drop_eq_getElem_cons (show 1 < s.toList.length by omega)]
      exact (bval_one _).symm
    rw [b0, b1, right_is]
    simp only [Option.bind_some]
    change (if decide (Rt (seg s 0 1) (seg s 1 1) (seg s 2 4) (seg s 6 6)) = true then _ else _) = _
    by_cases hR : Rt (seg s 0 1) (seg s 1 1) (seg s 2 4) (seg s 6 6)
    · rw [decide_eq_true hR, if_pos rfl, if_pos hR]
      rfl
    · rw [decide_eq_false hR, if_neg (by decide), if_neg hR]
  · rw [if_neg (show ¬ (s.size : Int) = 12 by omega), if_neg h]
end Go.Proofs.Ytfelpemelohggaa.AttrFns
