/- Joined by merge.py out of: AttrFns, AttrPk, AttrCdc, AttrRound. -/
import Derived.Test.YtbnnmbajfmodjaaTlv
import Derived.Test.YtbnnmbajfmodjaaTlvAllFns
import Derived.Test.YtbnnmbajfmodjaaFAAttrAll
import Derived.Test.YtbnnmbajfmodjaaFARef07
import Derived.Test.YtbnnmbajfmodjaaHAttrPack
import Derived.Test.YtbnnmbajfmodjaaHAttrUnpack
section
/- What the printed functions of the layer attr, and of its reference, come to. -/
namespace Go.Proofs.Ytbnnmbajfmodjaa.AttrFns
open Go.RowKit Go.Proofs.Ytbnnmbajfmodjaa.FA Go.Proofs.YtbnnmbajfmodjaaW.PrintWords Go.Proofs.YtbnnmbajfmodjaaW.PrintLast Go.Proofs.YtbnnmbajfmodjaaW.PrintMore Go.Proofs.Ytbnnmbajfmodjaa.B Go.Proofs.Ytbnnmbajfmodjaa.TlvFns
set_option linter.unusedVariables false
set_option linter.unusedSimpArgs false
/-- Right attributes. -/
def Rt (a b c d : Int) : Prop := (a = 0 ∧ b = 0 ∧ c = 0 ∧ d = 0) ∨ (0 ≤ c ∧ c ≤ 1048576 ∧ 0 ≤ d ∧ d ≤ 1099511627776 ∧ (a = 1 ∧ 0 ≤ b ∧ b ≤ 64 ∨ a = 2 ∧ b = 1))
instance (a b c d : Int) : Decidable (Rt a b c d) := by unfold Rt; infer_instance
theorem within_is (a b c : Int) : attr_within.f a b c = some (decide (b ≤ a ∧ a ≤ c)) := by
  unfold attr_within.f
  by_cases h : a ≥ b
  · rw [if_pos h]
    by_cases h2 : a ≤ c
    · simp [h2, h]
    · simp [h2]
  · rw [if_neg h]
    have : ¬ b ≤ a := h
    simp [this]
theorem check_is (k : Nat) (hk : 1 ≤ k) (a b c d : Int) : attr_Check.f k a b c d = some (if Rt a b c d then 0 else 70) := by
  obtain ⟨k, rfl⟩ : ∃ m, k = m + 1 := ⟨k - 1, by omega⟩
  unfold attr_Check.f
  simp only [within_is, Option.bind_some, decide_eq_true_eq, attr_Check.j0, Bool.and_eq_true, beq_iff_eq]
  have key : ∀ q : Bool, (q = true ↔ (0 ≤ c ∧ c ≤ 1048576 ∧ 0 ≤ d ∧ d ≤ 1099511627776)) →
      (if a = 0 then (if a = 0 ∧ b = 0 ∧ c = 0 ∧ d = 0 then some 0 else some 70) else (if a = 2 then (if q = true then (if b = 1 then (if 0 ≤ b ∧ b ≤ 64 then some 0 else some 70) else some 70) else some 70) else (if a = 1 then (if q = true then (if 0 ≤ b ∧ b ≤ 64 then some 0 else some 70) else some 70) else some 70))) = some (if Rt a b c d then (0 : Int) else 70) := by
    intro q hq
    by_cases hR : Rt a b c d
    · rw [if_pos hR]
      unfold Rt at hR
      rcases hR with ⟨rfl, rfl, rfl, rfl⟩ | ⟨h1, h2, h3, h4, ⟨rfl, h5, h6⟩ | ⟨rfl, rfl⟩⟩
      · simp
      · rw [if_neg (by decide), if_neg (by decide), if_pos rfl, if_pos (hq.2 ⟨h1, h2, h3, h4⟩), if_pos ⟨h5, h6⟩]
      · rw [if_neg (by decide), if_pos rfl, if_pos (hq.2 ⟨h1, h2, h3, h4⟩), if_pos rfl, if_pos (by decide)]
    · rw [if_neg hR]
      unfold Rt at hR
      by_cases a0 : a = 0
      · rw [if_pos a0, if_neg (fun h => hR (.inl h))]
      · rw [if_neg a0]
        cases q with
        | false => simp
        | true =>
          obtain ⟨h1, h2, h3, h4⟩ := hq.1 rfl
          by_cases a2 : a = 2
          · rw [if_pos a2, if_pos rfl, if_neg (fun hb => hR (.inr ⟨h1, h2, h3, h4, .inr ⟨a2, hb⟩⟩))]
          · rw [if_neg a2]
            by_cases a1 : a = 1
            · rw [if_pos a1, if_pos rfl, if_neg (fun hb => hR (.inr ⟨h1, h2, h3, h4, .inl ⟨a1, hb.1, hb.2⟩⟩))]
            · rw [if_neg a1]
  by_cases hd : 0 ≤ d ∧ d ≤ 1099511627776
  · rw [if_pos hd]
    have h_ := key (decide (0 ≤ c ∧ c ≤ 1048576)) (by simp [hd])
    simpa only [decide_eq_true_eq] using h_
  · rw [if_neg hd]
    have h_ := key false (by simp; omega)
    simpa using h_
theorem right_is (a b c d : Int) : sextonref07_Right.f a b c d = some (decide (Rt a b c d)) := by
  unfold sextonref07_Right.f
  by_cases hR : Rt a b c d
  · rw [decide_eq_true hR]
    unfold Rt at hR
    rcases hR with ⟨rfl, rfl, rfl, rfl⟩ | ⟨h1, h2, h3, h4, ⟨rfl, h5, h6⟩ | ⟨rfl, rfl⟩⟩
    · simp
    · rw [if_neg (by decide), if_neg (by omega), if_neg (by omega), if_neg (by omega), if_neg (by omega), if_pos rfl, if_pos h5, if_pos h6]
    · rw [if_neg (by decide), if_neg (by omega), if_neg (by omega), if_neg (by omega), if_neg (by omega), if_neg (by decide), if_pos rfl]
      rfl
  · rw [decide_eq_false hR]
    unfold Rt at hR
    by_cases a0 : a = 0
    · rw [if_pos a0]
      by_cases b0 : b = 0
      · rw [if_pos b0]
        by_cases c0 : c = 0
        · rw [if_pos c0]
          have : d ≠ 0 := fun h => hR (.inl ⟨a0, b0, c0, h⟩)
          simp [this]
        · rw [if_neg c0]
      · rw [if_neg b0]
    · rw [if_neg a0]
      by_cases c1 : c < 0
      · rw [if_pos c1]
      · rw [if_neg c1]
        by_cases c2 : c > 1048576
        · rw [if_pos c2]
        · rw [if_neg c2]
          by_cases d1 : d < 0
          · rw [if_pos d1]
          · rw [if_neg d1]
            by_cases d2 : d > 1099511627776
            · rw [if_pos d2]
            · rw [if_neg d2]
              have n2 : ¬ (a = 2 ∧ b = 1) := fun h => hR (.inr ⟨by omega, by omega, by omega, by omega, .inr h⟩)
              have n1 : ¬ (a = 1 ∧ 0 ≤ b ∧ b ≤ 64) := fun h => hR (.inr ⟨by omega, by omega, by omega, by omega, .inl h⟩)
              have e2 : (if a = 2 then some (b == 1) else some false) = some false := by
                by_cases h2 : a = 2
                · rw [if_pos h2]
                  have : b ≠ 1 := fun h => n2 ⟨h2, h⟩
                  simp [this]
                · rw [if_neg h2]
              by_cases h1 : a = 1
              · rw [if_pos h1]
                by_cases b1 : b ≥ 0
                · rw [if_pos b1, if_neg (fun h => n1 ⟨h1, b1, h⟩)]
                  exact e2
                · rw [if_neg b1]
                  exact e2
              · rw [if_neg h1]
                exact e2
end Go.Proofs.Ytbnnmbajfmodjaa.AttrFns
end

section
/- What attr.Pack comes to. -/
namespace Go.Proofs.Ytbnnmbajfmodjaa.AttrFns
open Go.RowKit Go.Proofs.Ytbnnmbajfmodjaa.FA Go.Proofs.YtbnnmbajfmodjaaW.PrintWords Go.Proofs.YtbnnmbajfmodjaaW.PrintLast Go.Proofs.YtbnnmbajfmodjaaW.PrintMore Go.Proofs.Ytbnnmbajfmodjaa.B Go.Proofs.Ytbnnmbajfmodjaa.TlvFns
set_option linter.unusedVariables false
set_option linter.unusedSimpArgs false
theorem numVal_in (n s : Int) (hs : 1 ≤ s ∧ s ≤ 8) (h0 : 0 ≤ n) (h1 : n < 256 ^ s.toNat) : numVal n s = (⟨(be s.toNat n).toArray⟩, 0) := by
  unfold numVal
  rw [if_neg (by omega)]
/-- The twelve bytes. -/
def bytes12 (a b c d : Int) : List UInt8 := be 1 a ++ be 1 b ++ be 4 c ++ be 6 d
theorem pack_is (a b c d : Int) : attr_Pack.f a b c d = some (if Rt a b c d then (⟨(bytes12 a b c d).toArray⟩, 0) else (⟨#[]⟩, 70)) := by
  unfold attr_Pack.f
  rw [check_is 2 (by decide)]
  simp only [Option.bind_some]
  by_cases h : Rt a b c d
  · rw [if_pos h, if_pos h, if_pos rfl]
    have hr : 0 ≤ a ∧ a ≤ 2 ∧ 0 ≤ b ∧ b ≤ 64 ∧ 0 ≤ c ∧ c ≤ 1048576 ∧ 0 ≤ d ∧ d ≤ 1099511627776 := by unfold Rt at h; omega
    obtain ⟨a1, a2, b1, b2, c1, c2, d1, d2⟩ := hr
    rw [num_is a 1 (by omega) 12 (by decide), num_is b 1 (by omega) 12 (by decide), num_is c 4 (by omega) 12 (by decide), num_is d 6 (by omega) 12 (by decide)]
    rw [numVal_in a 1 (by decide) a1 (Int.lt_of_le_of_lt a2 (by decide)), numVal_in b 1 (by decide) b1 (Int.lt_of_le_of_lt b2 (by decide)), numVal_in c 4 (by decide) c1 (Int.lt_of_le_of_lt c2 (by decide)), numVal_in d 6 (by decide) d1 (Int.lt_of_le_of_lt d2 (by decide))]
    simp only [Option.bind_some]
    have z1 : (⟨(be (1 : Int).toNat a).toArray⟩ : ByteArray).size = 1 := by rw [mk_size, be_length]; rfl
    have z2 : (⟨(be (1 : Int).toNat b).toArray⟩ : ByteArray).size = 1 := by rw [mk_size, be_length]; rfl
    have z3 : (⟨(be (4 : Int).toNat c).toArray⟩ : ByteArray).size = 4 := by rw [mk_size, be_length]; rfl
    have z4 : (⟨(be (6 : Int).toNat d).toArray⟩ : ByteArray).size = 6 := by rw [mk_size, be_length]; rfl
    rw [if_pos ⟨by rw [z1]; decide, by rw [z2]; decide, by rw [z3]; decide, by rw [z4]; decide⟩]
    refine congrArg some (Prod.ext (ext_list ?_) rfl)
    show ((((⟨#[]⟩ : ByteArray) ++ ⟨(be (1 : Int).toNat a).toArray⟩) ++ ⟨(be (1 : Int).toNat b).toArray⟩) ++ ⟨(be (4 : Int).toNat c).toArray⟩ ++ ⟨(be (6 : Int).toNat d).toArray⟩).toList = (⟨(bytes12 a b c d).toArray⟩ : ByteArray).toList
    rw [app_list, app_list, app_list, app_list, mk_toList (be _ a), mk_toList (be _ b), mk_toList (be _ c), mk_toList (be _ d), mk_toList (bytes12 a b c d), show (⟨#[]⟩ : ByteArray).toList = [] from by rw [Lib.toList_data]]
    rfl
  · rw [if_neg h, if_neg h, if_neg (by decide)]
end Go.Proofs.Ytbnnmbajfmodjaa.AttrFns
end

section
/- What attr.Unpack and the reference's Pack and Unpack come to. -/
namespace Go.Proofs.Ytbnnmbajfmodjaa.AttrFns
open Go.RowKit Go.Proofs.Ytbnnmbajfmodjaa.FA Go.Proofs.YtbnnmbajfmodjaaW.PrintWords Go.Proofs.YtbnnmbajfmodjaaW.PrintLast Go.Proofs.YtbnnmbajfmodjaaW.PrintMore Go.Proofs.Ytbnnmbajfmodjaa.B Go.Proofs.Ytbnnmbajfmodjaa.TlvFns
set_option linter.unusedVariables false
set_option linter.unusedSimpArgs false

theorem bval_lt7 (l : List UInt8) (h : l.length ≤ 7) : 0 ≤ bval l ∧ bval l < 9223372036854775808 := by
  have h1 := bval_range l
  have h2 := pow_le h
  omega
theorem numberOf_small (s : ByteArray) (h1 : 1 ≤ s.size) (h2 : s.size ≤ 7) : numberOf s = (bval s.toList, 0) := by
  have hb := bval_lt7 s.toList (by rw [len_eq]; exact h2)
  unfold numberOf
  rw [if_neg (by omega), if_neg (by omega)]
/-- The number that some bytes are. -/
def seg (s : ByteArray) (i n : Nat) : Int := bval ((s.toList.drop i).take n)
theorem ext_list' (s : ByteArray) (a b : Nat) : (s.extract a b).toList = (s.toList.drop a).take (b - a) := by rw [Lib.extract_toList, ← Lib.toList_data]
theorem ref_pack_is (a b c d : Int) : sextonref07_Pack.f 12 a b c d = some (if Rt a b c d then (⟨(bytes12 a b c d).toArray⟩, 0) else (⟨#[]⟩, 70)) := by
  unfold sextonref07_Pack.f
  rw [right_is]
  simp only [Option.bind_some]
  by_cases h : Rt a b c d
  · rw [if_pos h, decide_eq_true h, if_pos rfl]
    have hr : 0 ≤ a ∧ a ≤ 2 ∧ 0 ≤ b ∧ b ≤ 64 ∧ 0 ≤ c ∧ c ≤ 1048576 ∧ 0 ≤ d ∧ d ≤ 1099511627776 := by unfold Rt at h; omega
    obtain ⟨a1, a2, b1, b2, c1, c2, d1, d2⟩ := hr
    rw [ref_num_is a 1 (by omega) 12 (by decide), ref_num_is b 1 (by omega) 12 (by decide), ref_num_is c 4 (by omega) 12 (by decide), ref_num_is d 6 (by omega) 12 (by decide)]
    rw [numVal_in a 1 (by decide) a1 (Int.lt_of_le_of_lt a2 (by decide)), numVal_in b 1 (by decide) b1 (Int.lt_of_le_of_lt b2 (by decide)), numVal_in c 4 (by decide) c1 (Int.lt_of_le_of_lt c2 (by decide)), numVal_in d 6 (by decide) d1 (Int.lt_of_le_of_lt d2 (by decide))]
    simp only [Option.bind_some]
    have z1 : (⟨(be (1 : Int).toNat a).toArray⟩ : ByteArray).size = 1 := by rw [mk_size, be_length]; rfl
    have z2 : (⟨(be (1 : Int).toNat b).toArray⟩ : ByteArray).size = 1 := by rw [mk_size, be_length]; rfl
    have z3 : (⟨(be (4 : Int).toNat c).toArray⟩ : ByteArray).size = 4 := by rw [mk_size, be_length]; rfl
    have z4 : (⟨(be (6 : Int).toNat d).toArray⟩ : ByteArray).size = 6 := by rw [mk_size, be_length]; rfl
    rw [if_pos (by rw [z1, z2]; decide), if_pos (by rw [ByteArray.size_append, z1, z2, z3]; decide), if_pos (by rw [ByteArray.size_append, ByteArray.size_append, z1, z2, z3, z4]; decide)]
    refine congrArg some (Prod.ext (ext_list ?_) rfl)
    show (((⟨(be (1 : Int).toNat a).toArray⟩ : ByteArray) ++ ⟨(be (1 : Int).toNat b).toArray⟩) ++ ⟨(be (4 : Int).toNat c).toArray⟩ ++ ⟨(be (6 : Int).toNat d).toArray⟩).toList = (⟨(bytes12 a b c d).toArray⟩ : ByteArray).toList
    rw [app_list, app_list, app_list, mk_toList (be _ a), mk_toList (be _ b), mk_toList (be _ c), mk_toList (be _ d), mk_toList (bytes12 a b c d)]
    rfl
  · rw [if_neg h, decide_eq_false h, if_neg (by decide)]
def unpackV (s : ByteArray) : Int × Int × Int × Int × Int :=
  if s.size = 12 then (if Rt (seg s 0 1) (seg s 1 1) (seg s 2 4) (seg s 6 6) then (seg s 0 1, seg s 1 1, seg s 2 4, seg s 6 6, 0) else (0, 0, 0, 0, 70)) else (0, 0, 0, 0, 4)
theorem unpack_is (s : ByteArray) : attr_Unpack.f s = some (unpackV s) := by
  unfold attr_Unpack.f unpackV
  by_cases h : s.size = 12
  · rw [if_pos h, if_pos h]
    have hl : s.toList.length = 12 := by rw [len_eq, h]
    have z0 : (s.extract 0 1).size = 1 := by rw [ByteArray.size_extract, h]; rfl
    have z1 : ((s.extract 1 12).extract 0 1).size = 1 := by rw [ByteArray.size_extract, sx1 s h]; rfl
    have z2 : (((s.extract 1 12).extract 1 11).extract 0 4).size = 4 := by rw [ByteArray.size_extract, sx2 s h]; rfl
    have z3 : ((((s.extract 1 12).extract 1 11).extract 4 10).extract 0 6).size = 6 := by rw [ByteArray.size_extract, sx3 s h]; rfl
    have l0 : (s.extract 0 1).toList = (s.toList.drop 0).take 1 := ext_list' _ _ _
    have t12 : ∀ j k, j + k = 12 → ((s.toList.drop j).take k) = s.toList.drop j := fun j k hjk => List.take_of_length_le (by rw [List.length_drop]; omega)
    have l1 : ((s.extract 1 12).extract 0 1).toList = (s.toList.drop 1).take 1 := by
      rw [ext_list', ext_list', List.drop_zero, t12 1 _ rfl]
    have l2 : (((s.extract 1 12).extract 1 11).extract 0 4).toList = (s.toList.drop 2).take 4 := by
      rw [ext_list', ext_list', ext_list', List.drop_zero, t12 1 _ rfl, List.drop_drop, t12 (1 + 1) _ rfl]
    have l3 : ((((s.extract 1 12).extract 1 11).extract 4 10).extract 0 6).toList = (s.toList.drop 6).take 6 := by
      rw [ext_list', ext_list', ext_list', ext_list', List.drop_zero, t12 1 _ rfl, List.drop_drop, t12 (1 + 1) _ rfl, List.drop_drop]
      exact congrArg (List.take 6) (t12 (1 + 1 + 4) (10 - 4) rfl)
    rw [number_is _ 12 (by decide), number_is _ 12 (by decide), number_is _ 12 (by decide), number_is _ 12 (by decide)]
    rw [numberOf_small _ (by omega) (by omega), numberOf_small _ (by omega) (by omega), numberOf_small _ (by omega) (by omega), numberOf_small _ (by omega) (by omega), l0, l1, l2, l3]
    have e0 : bval ((s.toList.drop 0).take 1) = seg s 0 1 := rfl
    have e1 : bval ((s.toList.drop 1).take 1) = seg s 1 1 := rfl
    have e2 : bval ((s.toList.drop 2).take 4) = seg s 2 4 := rfl
    have e3 : bval ((s.toList.drop 6).take 6) = seg s 6 6 := rfl
    simp only [Option.bind_some]
    rw [e0, e1, e2, e3, check_is 2 (by decide)]
    simp only [Option.bind_some]
    by_cases hR : Rt (seg s 0 1) (seg s 1 1) (seg s 2 4) (seg s 6 6)
    · rw [if_pos hR, if_pos hR, if_pos (by trivial)]
    · rw [if_neg hR, if_neg hR, if_neg (by decide)]
  · rw [if_neg h, if_neg h]
theorem ref_unpack_is (s : ByteArray) : sextonref07_Unpack.f 14 s = some (unpackV s) := by
  unfold sextonref07_Unpack.f unpackV
  by_cases h : s.size = 12
  · rw [if_pos (show (s.size : Int) = 12 by omega), if_pos h, if_pos (by decide), if_pos (by omega)]
    have hl : s.toList.length = 12 := by rw [len_eq, h]
    have z2 : (s.extract 2 6).size = 4 := by rw [ByteArray.size_extract, h]; rfl
    have z3 : (s.extract 6 s.size).size = 6 := by rw [ByteArray.size_extract, h]; rfl
    rw [TlvFns.ref_number_is _ 14 (by decide), TlvFns.ref_number_is _ 14 (by decide), numberOf_small _ (by omega) (by omega), numberOf_small _ (by omega) (by omega), ext_list', ext_list', h]
    simp only [Option.bind_some]
    rw [if_pos (by omega), if_pos (by omega)]
    have b0 : wrap64 (bt s 0) = seg s 0 1 := by
      have hb := bt_get s 0 (by omega)
      have := (s.toList[0]'(by omega)).toNat_lt
      rw [show (0 : Int) = ((0 : Nat) : Int) from rfl, hb, wrap64_in (by omega) (by omega)]
      unfold seg
      rw [List.drop_eq_getElem_cons (show 0 < s.toList.length by omega)]
      exact (bval_one _).symm
    have b1 : wrap64 (bt s 1) = seg s 1 1 := by
      have hb := bt_get s 1 (by omega)
      have := (s.toList[1]'(by omega)).toNat_lt
      rw [show (1 : Int) = ((1 : Nat) : Int) from rfl, hb, wrap64_in (by omega) (by omega)]
      unfold seg
      rw [List.drop_eq_getElem_cons (show 1 < s.toList.length by omega)]
      exact (bval_one _).symm
    rw [b0, b1, right_is]
    simp only [Option.bind_some]
    change (if decide (Rt (seg s 0 1) (seg s 1 1) (seg s 2 4) (seg s 6 6)) = true then _ else _) = _
    by_cases hR : Rt (seg s 0 1) (seg s 1 1) (seg s 2 4) (seg s 6 6)
    · rw [decide_eq_true hR, if_pos rfl, if_pos hR]
      rfl
    · rw [decide_eq_false hR, if_neg (by decide), if_neg hR]
  · rw [if_neg (show ¬ (s.size : Int) = 12 by omega), if_neg h]
end Go.Proofs.Ytbnnmbajfmodjaa.AttrFns
end

section
/- Attributes packed are unpacked. -/
namespace Go.Proofs.Ytbnnmbajfmodjaa.AttrFns
open Go.RowKit Go.Proofs.Ytbnnmbajfmodjaa.FA Go.Proofs.YtbnnmbajfmodjaaW.PrintWords Go.Proofs.Ytbnnmbajfmodjaa.B Go.Proofs.Ytbnnmbajfmodjaa.TlvFns
set_option linter.unusedVariables false
set_option linter.unusedSimpArgs false
theorem seg_app (l m r : List UInt8) (s : ByteArray) (hs : s.toList = l ++ m ++ r) : seg s l.length m.length = bval m := by
  unfold seg
  rw [hs, List.append_assoc, List.drop_left, List.take_left]
theorem unpack_back (a b c d : Int) (h : Rt a b c d) : attr_Unpack.f ⟨(bytes12 a b c d).toArray⟩ = some (a, b, c, d, 0) := by
  have hr : 0 ≤ a ∧ a ≤ 2 ∧ 0 ≤ b ∧ b ≤ 64 ∧ 0 ≤ c ∧ c ≤ 1048576 ∧ 0 ≤ d ∧ d ≤ 1099511627776 := by unfold Rt at h; omega
  obtain ⟨a1, a2, b1, b2, c1, c2, d1, d2⟩ := hr
  have hl := mk_toList (bytes12 a b c d)
  have e0 : seg ⟨(bytes12 a b c d).toArray⟩ 0 1 = a := by
    have := seg_app [] (be 1 a) (be 1 b ++ be 4 c ++ be 6 d) _ (by rw [hl]; unfold bytes12; simp)
    rw [be_length] at this
    exact this.trans (bval_be 1 a a1 (Int.lt_of_le_of_lt a2 (by decide)))
  have e1 : seg ⟨(bytes12 a b c d).toArray⟩ 1 1 = b := by
    have := seg_app (be 1 a) (be 1 b) (be 4 c ++ be 6 d) _ (by rw [hl]; unfold bytes12; simp)
    rw [be_length, be_length] at this
    exact this.trans (bval_be 1 b b1 (Int.lt_of_le_of_lt b2 (by decide)))
  have e2 : seg ⟨(bytes12 a b c d).toArray⟩ 2 4 = c := by
    have := seg_app (be 1 a ++ be 1 b) (be 4 c) (be 6 d) _ (by rw [hl]; unfold bytes12; simp)
    rw [List.length_append, be_length, be_length, be_length] at this
    exact this.trans (bval_be 4 c c1 (Int.lt_of_le_of_lt c2 (by decide)))
  have e3 : seg ⟨(bytes12 a b c d).toArray⟩ 6 6 = d := by
    have := seg_app (be 1 a ++ be 1 b ++ be 4 c) (be 6 d) [] _ (by rw [hl]; unfold bytes12; simp)
    rw [List.length_append, List.length_append, be_length, be_length, be_length, be_length] at this
    exact this.trans (bval_be 6 d d1 (Int.lt_of_le_of_lt d2 (by decide)))
  have hz : (⟨(bytes12 a b c d).toArray⟩ : ByteArray).size = 12 := by rw [mk_size]; unfold bytes12; simp [be_length]
  rw [AttrFns.unpack_is]
  unfold unpackV
  rw [if_pos hz, e0, e1, e2, e3, if_pos h]
theorem unpackV_back (a b c d : Int) (h : Rt a b c d) : unpackV ⟨(bytes12 a b c d).toArray⟩ = (a, b, c, d, 0) := by
  have h1 := unpack_back a b c d h
  rw [AttrFns.unpack_is] at h1
  exact Option.some.inj h1
end Go.Proofs.Ytbnnmbajfmodjaa.AttrFns
end
