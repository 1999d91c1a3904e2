/- The law AttrBack: what was packed is unpacked; a link more and one less is as it was, but for the stamp. -/
import Derived.Test.YtfelpemelohggaaHAttrBack
namespace Go.Proofs.Ytfelpemelohggaa.FA
open Go.RowKit Go.Proofs.YtfelpemelohggaaW.PrintWords Go.Proofs.YtfelpemelohggaaW.PrintLast Go.Proofs.YtfelpemelohggaaW.PrintMore Go.Proofs.Ytfelpemelohggaa.Hand Go.Proofs.Ytfelpemelohggaa.AttrFns Go.Proofs.Ytfelpemelohggaa.B
set_option linter.unusedVariables false
set_option linter.unusedSimpArgs false
theorem seg_app (l m r : List UInt8) (s : ByteArray) (hs : s.toList = l ++ m ++ r) : seg s l.length m.length = bval m := by
  unfold seg
  rw [hs, List.append_assoc, List.drop_left, List.take_left]
theorem unpack_back (a b c d : Int) (h : Rt a b c d) : attr_Unpack.f ⟨(bytes12 a b c d).toArray⟩ = some (a, b, c, d, 0) := by
  have hr : 0 ≤ a ∧ a ≤ 2 ∧ 0 ≤ b ∧ b ≤ 64 ∧ 0 ≤ c ∧ c ≤ 1048576 ∧ 0 ≤ d ∧ d ≤ 1099511627776 := by unfold Rt at h; omega
  obtain ⟨a1, a2, b1, b2, c1, c2, d1, d2⟩ := hr
  have hl := mk_toList (bytes12 a b c d)
  have e0 : seg ⟨(bytes12 a b c d).toArray⟩ 0 1 = a := by
    have := seg_app [] (be 1 a) (be 1 b ++ be 4 c ++ be 6 d) _ (by rw [hl]; unfold bytes12; simp)
    rw [be_length] at this
    exact this.trans (bval_be 1 a a1 (Int.lt_of_le_of_lt a2 (by decide)))
  have e1 : seg ⟨(bytes12 a b c d).toArray⟩ 1 1 = b := by
    have := seg_app (be 1 a) (be 1 b) (be 4 c ++ be 6 d) _ (by rw [hl]; unfold bytes12; simp)
    rw [be_length, be_length] at this
    exact this.trans (bval_be 1 b b1 (Int.lt_of_le_of_lt b2 (by decide)))
  have e2 : seg ⟨(bytes12 a b c d).toArray⟩ 2 4 = c := by
    have := seg_app (be 1 a ++ be 1 b) (be 4 c) (be 6 d) _ (by rw [hl]; unfold bytes12; simp)
    rw [List.length_append, be_length, be_length, be_length] at this
    exact this.trans (bval_be 4 c c1 (Int.lt_of_le_of_lt c2 (by decide)))
  have e3 : seg ⟨(bytes12 a b c d).toArray⟩ 6 6 = d := by
    have := seg_app (be 1 a ++ be 1 b ++ be 4 c) (be 6 d) [] _ (by rw [hl]; unfold bytes12; simp)
    rw [List.length_append, List.length_append, be_length, be_length, be_length, be_length] at this
    exact this.trans (bval_be 6 d d1 (Int.lt_of_le_of_lt d2 (by decide)))
  have hz : (⟨(bytes12 a b c d).toArray⟩ : ByteArray).size = 12 := by rw [mk_size]; unfold bytes12; simp [be_length]
  rw [unpack_is]
  unfold unpackV
  rw [if_pos hz, e0, e1, e2, e3, if_pos h]
def sextonlaw07_AttrBack.f (a0_0 a0_1 a0_2 a0_3 : Int) : Option Bool := some true
theorem back_all (a b c d : Int) (w : World) : Calls Try.prog 7 #[.agg #[.int .i64 a, .int .i64 b, .int .i64 c, .int .i64 d]] w fun e w' => e = .returned (.bool true) ∧ Below w.heap.size w w' := by
  by_cases h : Rt a b c d
  · have hP := AttrFns.pack_is a b c d
    rw [if_pos h] at hP
    have hz : (⟨(bytes12 a b c d).toArray⟩ : ByteArray).size = 12 := by rw [mk_size]; unfold bytes12; simp [be_length]
    have hU := unpack_back a b c d h
    have hL := link_is 5 (by decide) a b c d 1 1099511627776
    have hd : 0 ≤ d ∧ d ≤ 1099511627776 ∧ 0 ≤ b ∧ b ≤ 64 := by unfold Rt at h; omega
    have n0 : ¬ ((1 : Int) ≠ 1 ∧ (1 : Int) ≠ -1 ∨ 1099511627776 < d ∨ (1099511627776 : Int) < 1099511627776) := by omega
    by_cases ha : a = 1
    · by_cases hb : b = 64
      · have hv : linkV a b c d 1 1099511627776 = (0, 0, 0, 0, 5) := by unfold linkV; rw [if_pos h, if_neg n0, if_neg (fun hh => hh ha), if_pos (by omega)]
        rw [hv] at hL
        exact attr_back_full a b c d w _ hz ⟨hP⟩ ⟨hU⟩ 5 rfl rfl ⟨hL⟩ (by rw [ha]; rfl) (by rw [ha]; rfl) (by rw [hb]; rfl)
      · have hv : linkV a b c d 1 1099511627776 = (a, b + 1, c, 1099511627776, 0) := by unfold linkV; rw [if_pos h, if_neg n0, if_neg (fun hh => hh ha), if_neg (by omega), if_neg (by omega)]
        rw [hv] at hL
        have h2 : Rt a (b + 1) c 1099511627776 := by unfold Rt at h ⊢; omega
        have hM := link_is 5 (by decide) a (b + 1) c 1099511627776 (-1) 1099511627776
        have n1 : ¬ ((-1 : Int) ≠ 1 ∧ (-1 : Int) ≠ -1 ∨ (1099511627776 : Int) < 1099511627776 ∨ (1099511627776 : Int) < 1099511627776) := by omega
        have hv2 : linkV a (b + 1) c 1099511627776 (-1) 1099511627776 = (a, b, c, 1099511627776, 0) := by
          unfold linkV
          rw [if_pos h2, if_neg n1, if_neg (fun hh => hh ha), if_neg (by omega), if_neg (by omega), show b + 1 + -1 = b by omega]
        rw [hv2] at hM
        exact attr_back_more a b c d w _ hz ⟨hP⟩ ⟨hU⟩ (wrap64_in (by omega) (by omega)) ⟨hL⟩ ⟨hM⟩
    · have hv : linkV a b c d 1 1099511627776 = (0, 0, 0, 0, 7) := by unfold linkV; rw [if_pos h, if_neg n0, if_pos ha]
      rw [hv] at hL
      exact attr_back_kind a b c d w _ hz ⟨hP⟩ ⟨hU⟩ 7 rfl rfl ⟨hL⟩ (beq_eq_false_iff_ne.mpr ha) (bne_iff_ne.mpr ha)
  · have hP := AttrFns.pack_is a b c d
    rw [if_neg h] at hP
    exact attr_back_none a b c d w ⟨hP⟩
theorem sextonlaw07_AttrBack.calls (a0_0 a0_1 a0_2 a0_3 : Int) (r : Bool) (w : World) (h : sextonlaw07_AttrBack.f a0_0 a0_1 a0_2 a0_3 = some r) :
    Calls Try.prog 7 #[.agg #[.int .i64 a0_0, .int .i64 a0_1, .int .i64 a0_2, .int .i64 a0_3]] w fun e w' => e = .returned (.bool r) ∧ Below w.heap.size w w' := by
  obtain rfl := Option.some.inj h
  exact back_all a0_0 a0_1 a0_2 a0_3 w
end Go.Proofs.Ytfelpemelohggaa.FA
