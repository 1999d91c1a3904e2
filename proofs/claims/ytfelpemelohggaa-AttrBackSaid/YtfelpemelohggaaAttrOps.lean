/- What attr.Pack, attr.Grow, attr.Link come to. -/
import Derived.Test.YtfelpemelohggaaAttrFns
import Derived.Test.YtfelpemelohggaaHAttrPack
import Derived.Test.YtfelpemelohggaaFAattrGrow
import Derived.Test.YtfelpemelohggaaFAattrLink
import Derived.Test.YtfelpemelohggaaFAsextonref07Grow
import Derived.Test.YtfelpemelohggaaFAsextonref07Link
import Derived.Test.YtfelpemelohggaaFAsextonref07Pack
import Derived.Test.YtfelpemelohggaaFAsextonlaw07one
namespace Go.Proofs.Ytfelpemelohggaa.AttrFns
open Go.RowKit Go.Proofs.Ytfelpemelohggaa.FA Go.Proofs.YtfelpemelohggaaW.PrintWords Go.Proofs.YtfelpemelohggaaW.PrintLast Go.Proofs.YtfelpemelohggaaW.PrintMore Go.Proofs.Ytfelpemelohggaa.B Go.Proofs.Ytfelpemelohggaa.TlvFns
set_option linter.unusedVariables false
set_option linter.unusedSimpArgs false
theorem numVal_in (n s : Int) (hs : 1 ≤ s ∧ s ≤ 8) (h0 : 0 ≤ n) (h1 : n < 256 ^ s.toNat) : numVal n s = (⟨(be s.toNat n).toArray⟩, 0) := by
  unfold numVal
  rw [if_neg (by omega)]
/-- The twelve bytes. -/
def bytes12 (a b c d : Int) : List UInt8 := be 1 a ++ be 1 b ++ be 4 c ++ be 6 d
theorem pack_is (a b c d : Int) : attr_Pack.f a b c d = some (if Rt a b c d then (⟨(bytes12 a b c d).toArray⟩, 0) else (⟨#[]⟩, 70)) := by
  unfold attr_Pack.f
  rw [check_is 2 (by decide)]
  simp only [Option.bind_some]
  by_cases h : Rt a b c d
  · rw [if_pos h, if_pos h, if_pos rfl]
    have hr : 0 ≤ a ∧ a ≤ 2 ∧ 0 ≤ b ∧ b ≤ 64 ∧ 0 ≤ c ∧ c ≤ 1048576 ∧ 0 ≤ d ∧ d ≤ 1099511627776 := by unfold Rt at h; omega
    obtain ⟨a1, a2, b1, b2, c1, c2, d1, d2⟩ := hr
    rw [num_is a 1 (by omega) 12 (by decide), num_is b 1 (by omega) 12 (by decide), num_is c 4 (by omega) 12 (by decide), num_is d 6 (by omega) 12 (by decide)]
    rw [numVal_in a 1 (by decide) a1 (Int.lt_of_le_of_lt a2 (by decide)), numVal_in b 1 (by decide) b1 (Int.lt_of_le_of_lt b2 (by decide)), numVal_in c 4 (by decide) c1 (Int.lt_of_le_of_lt c2 (by decide)), numVal_in d 6 (by decide) d1 (Int.lt_of_le_of_lt d2 (by decide))]
    simp only [Option.bind_some]
    have z1 : (⟨(be (1 : Int).toNat a).toArray⟩ : ByteArray).size = 1 := by rw [mk_size, be_length]; rfl
    have z2 : (⟨(be (1 : Int).toNat b).toArray⟩ : ByteArray).size = 1 := by rw [mk_size, be_length]; rfl
    have z3 : (⟨(be (4 : Int).toNat c).toArray⟩ : ByteArray).size = 4 := by rw [mk_size, be_length]; rfl
    have z4 : (⟨(be (6 : Int).toNat d).toArray⟩ : ByteArray).size = 6 := by rw [mk_size, be_length]; rfl
    rw [if_pos ⟨by rw [z1]; decide, by rw [z2]; decide, by rw [z3]; decide, by rw [z4]; decide⟩]
    refine congrArg some (Prod.ext (ext_list ?_) rfl)
    show ((((⟨#[]⟩ : ByteArray) ++ ⟨(be (1 : Int).toNat a).toArray⟩) ++ ⟨(be (1 : Int).toNat b).toArray⟩) ++ ⟨(be (4 : Int).toNat c).toArray⟩ ++ ⟨(be (6 : Int).toNat d).toArray⟩).toList = (⟨(bytes12 a b c d).toArray⟩ : ByteArray).toList
    rw [app_list, app_list, app_list, app_list, mk_toList (be _ a), mk_toList (be _ b), mk_toList (be _ c), mk_toList (be _ d), mk_toList (bytes12 a b c d), show (⟨#[]⟩ : ByteArray).toList = [] from by rw [Lib.toList_data]]
    rfl
  · rw [if_neg h, if_neg h, if_neg (by decide)]
theorem one_is : sextonlaw07_one.f = some true := by
  unfold sextonlaw07_one.f
  rw [pack_is, if_pos (by decide)]
  simp only [Option.bind_some]
  rw [if_pos (by trivial), mk_toList (bytes12 1 2 300 7)]
  rfl
def growV (a b c d n s : Int) : Int × Int × Int × Int × Int :=
  if Rt a b c d then (if s < d ∨ 1099511627776 < s then (0, 0, 0, 0, 1) else if a = 0 then (0, 0, 0, 0, 7) else if n < 0 ∨ 1048576 < n then (0, 0, 0, 0, 408) else (a, b, n, s, 0)) else (0, 0, 0, 0, 70)
theorem stamped_is (k : Nat) (hk : 1 ≤ k) (a b c d s : Int) : attr_stamped.f k a b c d s = some (if Rt a b c d then (if s < d ∨ 1099511627776 < s then 1 else 0) else 70) := by
  unfold attr_stamped.f
  rw [check_is k hk]
  simp only [Option.bind_some, within_is]
  by_cases h : Rt a b c d
  · rw [if_pos h, if_pos h, if_pos (by trivial)]
    by_cases h2 : s < d ∨ 1099511627776 < s
    · rw [if_pos h2, if_neg (by simp; omega)]
    · rw [if_neg h2, if_pos (by simp; omega)]
  · rw [if_neg h, if_neg h, if_neg (by decide)]
theorem grow_is (k : Nat) (hk : 1 ≤ k) (a b c d n s : Int) : attr_Grow.f k a b c d n s = some (growV a b c d n s) := by
  unfold attr_Grow.f growV
  rw [stamped_is k hk]
  simp only [Option.bind_some, within_is]
  by_cases h : Rt a b c d
  · rw [if_pos h, if_pos h]
    by_cases h2 : s < d ∨ 1099511627776 < s
    · rw [if_pos h2, if_pos h2, if_neg (by decide)]
    · rw [if_neg h2, if_neg h2, if_pos (by trivial)]
      by_cases h3 : a = 0
      · rw [if_pos h3, if_pos h3]
      · rw [if_neg h3, if_neg h3]
        by_cases h4 : n < 0 ∨ 1048576 < n
        · rw [if_pos h4, if_neg (by simp; omega)]
        · rw [if_neg h4, if_pos (by simp; omega)]
  · rw [if_neg h, if_neg h, if_neg (by decide)]
theorem ref_grow_is (k : Nat) (hk : 1 ≤ k) (a b c d n s : Int) : sextonref07_Grow.f k a b c d n s = some (growV a b c d n s) := by
  obtain ⟨k, rfl⟩ : ∃ m, k = m + 1 := ⟨k - 1, by omega⟩
  unfold sextonref07_Grow.f growV
  rw [right_is]
  simp only [Option.bind_some, sextonref07_Grow.j0, decide_eq_true_eq]
  by_cases h : Rt a b c d
  · rw [if_pos h, if_pos h]
    by_cases h2 : s < d
    · rw [if_pos h2, if_pos (show s < d ∨ 1099511627776 < s from .inl h2), if_pos (by trivial)]
    · rw [if_neg h2]
      by_cases h3 : s > 1099511627776
      · rw [if_pos h3, if_pos (show s < d ∨ 1099511627776 < s from .inr h3)]
      · rw [if_neg h3, if_neg (show ¬ (s < d ∨ 1099511627776 < s) by omega)]
        by_cases h4 : a = 0
        · rw [if_pos h4, if_pos h4]
        · rw [if_neg h4, if_neg h4]
          by_cases h5 : n < 0
          · rw [if_pos h5, if_pos (show n < 0 ∨ 1048576 < n from .inl h5)]
          · rw [if_neg h5]
            by_cases h6 : n > 1048576
            · rw [if_pos h6, if_pos (show n < 0 ∨ 1048576 < n from .inr h6)]
            · rw [if_neg h6, if_neg (show ¬ (n < 0 ∨ 1048576 < n) by omega)]
  · rw [if_neg h, if_neg h]
def linkV (a b c d n s : Int) : Int × Int × Int × Int × Int :=
  if Rt a b c d then (if n ≠ 1 ∧ n ≠ -1 ∨ s < d ∨ 1099511627776 < s then (0, 0, 0, 0, 1) else if a ≠ 1 then (0, 0, 0, 0, 7) else if 64 < b + n then (0, 0, 0, 0, 5) else if b + n < 0 then (0, 0, 0, 0, 6) else (a, b + n, c, s, 0)) else (0, 0, 0, 0, 70)
theorem link_is (k : Nat) (hk : 1 ≤ k) (a b c d n s : Int) : attr_Link.f k a b c d n s = some (linkV a b c d n s) := by
  obtain ⟨k, rfl⟩ : ∃ m, k = m + 1 := ⟨k - 1, by omega⟩
  unfold attr_Link.f linkV
  rw [stamped_is _ (by omega)]
  simp only [Option.bind_some]
  by_cases h : Rt a b c d
  · rw [if_pos h, if_pos h]
    have hb : 0 ≤ b ∧ b ≤ 64 := by unfold Rt at h; omega
    have bad : ∀ q, q = true → attr_Link.j0 (k + 1) n s q a b c d = some (0, 0, 0, 0, 1) := by
      intro q hq
      simp only [attr_Link.j0]
      rw [if_pos hq]
    have good : n = 1 ∨ n = -1 → attr_Link.j0 (k + 1) n s false a b c d = some (if a ≠ 1 then (0, 0, 0, 0, 7) else if 64 < b + n then (0, 0, 0, 0, 5) else if b + n < 0 then (0, 0, 0, 0, 6) else (a, b + n, c, s, 0)) := by
      intro hn
      simp only [attr_Link.j0]
      rw [if_neg (by decide), wrap64_in (n := b + n) (by omega) (by omega)]
      by_cases h1 : a = 1
      · rw [if_pos h1, if_neg (show ¬ a ≠ 1 from fun hh => hh h1)]
        by_cases h2 : b + n > 64
        · rw [if_pos h2, if_pos h2]
        · rw [if_neg h2, if_neg h2]
          by_cases h3 : b + n < 0
          · rw [if_pos h3, if_pos h3]
          · rw [if_neg h3, if_neg h3]
      · rw [if_neg h1, if_pos h1]
    by_cases h2 : s < d ∨ 1099511627776 < s
    · rw [if_pos h2, if_neg (by decide), if_pos (show n ≠ 1 ∧ n ≠ -1 ∨ s < d ∨ 1099511627776 < s from .inr h2), bad _ (by decide), bad _ rfl]
      simp
    · rw [if_neg h2, if_neg (by decide)]
      by_cases h3 : n = 1
      · rw [if_pos h3, if_neg (show ¬ (n ≠ 1 ∧ n ≠ -1 ∨ s < d ∨ 1099511627776 < s) by omega), show ((0 : Int) != 0) = false from by decide, good (.inl h3)]
      · rw [if_neg h3]
        by_cases h4 : n = -1
        · rw [if_pos h4, if_neg (show ¬ (n ≠ 1 ∧ n ≠ -1 ∨ s < d ∨ 1099511627776 < s) by omega), show ((0 : Int) != 0) = false from by decide, good (.inr h4)]
        · rw [if_neg h4, if_pos (show n ≠ 1 ∧ n ≠ -1 ∨ s < d ∨ 1099511627776 < s from .inl ⟨h3, h4⟩), bad _ rfl]
  · rw [if_neg h, if_neg h, if_pos (by trivial)]
theorem ref_link_is (k : Nat) (hk : 2 ≤ k) (a b c d n s : Int) : sextonref07_Link.f k a b c d n s = some (linkV a b c d n s) := by
  obtain ⟨k, rfl⟩ : ∃ m, k = m + 2 := ⟨k - 2, by omega⟩
  unfold sextonref07_Link.f linkV
  rw [right_is]
  simp only [Option.bind_some]
  by_cases h : Rt a b c d
  · rw [if_pos h, decide_eq_true h, if_pos rfl]
    have hb : 0 ≤ b ∧ b ≤ 64 := by unfold Rt at h; omega
    have bad : ∀ q, q = true → sextonref07_Link.j0 (k + 2) n s q a b c d = some (0, 0, 0, 0, 1) := by
      intro q hq
      simp only [sextonref07_Link.j0]
      rw [if_pos hq]
    have good : n = 1 ∨ n = -1 → ∀ q, q = false → sextonref07_Link.j0 (k + 2) n s q a b c d = some (if a ≠ 1 then (0, 0, 0, 0, 7) else if 64 < b + n then (0, 0, 0, 0, 5) else if b + n < 0 then (0, 0, 0, 0, 6) else (a, b + n, c, s, 0)) := by
      intro hn q hq
      simp only [sextonref07_Link.j0, sextonref07_Link.j1]
      rw [if_neg (by rw [hq]; decide), wrap64_in (n := b + n) (by omega) (by omega)]
      by_cases h1 : a = 1
      · rw [if_pos h1, if_neg (show ¬ a ≠ 1 from fun hh => hh h1), h1]
        by_cases h2 : n = 1
        · rw [if_pos h2]
          by_cases h3 : b = 64
          · rw [if_pos (by simp [h3]), if_pos (show 64 < b + n by omega)]
          · rw [if_neg (by simp [h3]), if_neg (show ¬ n = -1 by omega), if_neg (show ¬ 64 < b + n by omega), if_neg (show ¬ b + n < 0 by omega)]
        · rw [if_neg h2, if_neg (by decide), if_pos (show n = -1 by omega)]
          by_cases h3 : b = 0
          · rw [if_pos h3, if_neg (show ¬ 64 < b + n by omega), if_pos (show b + n < 0 by omega)]
          · rw [if_neg h3, if_neg (show ¬ 64 < b + n by omega), if_neg (show ¬ b + n < 0 by omega)]
      · rw [if_neg h1, if_pos h1]
    by_cases h2 : s < d
    · rw [if_pos (show n ≠ 1 ∧ n ≠ -1 ∨ s < d ∨ 1099511627776 < s from .inr (.inl h2)), if_pos h2, bad true rfl]
      simp
    · rw [if_neg h2]
      by_cases h3 : s > 1099511627776
      · rw [if_pos (show n ≠ 1 ∧ n ≠ -1 ∨ s < d ∨ 1099511627776 < s from .inr (.inr h3)), bad _ (decide_eq_true h3), bad true rfl]
        simp
      · by_cases h4 : n = 1 ∨ n = -1
        · rw [if_neg (show ¬ (n ≠ 1 ∧ n ≠ -1 ∨ s < d ∨ 1099511627776 < s) by omega), good h4 _ (decide_eq_false h3)]
          by_cases h5 : n = 1
          · rw [if_pos h5]
          · rw [if_neg h5, if_pos (show n = -1 by omega)]
        · rw [if_pos (show n ≠ 1 ∧ n ≠ -1 ∨ s < d ∨ 1099511627776 < s by omega), if_neg (show ¬ n = 1 by omega), if_neg (show ¬ n = -1 by omega), bad true rfl]
  · rw [if_neg h, decide_eq_false h, if_neg (by decide)]
end Go.Proofs.Ytfelpemelohggaa.AttrFns
