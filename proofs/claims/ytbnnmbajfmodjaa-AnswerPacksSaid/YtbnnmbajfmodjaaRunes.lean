/- Which bytes a step of a range over a string takes, in plain Lean: a text's runes hold an ASCII sign just where its bytes do. -/
import Derived.Laws.RangeString
import Derived.Laws.RangeAny
import Derived.Test.YtbnnmbajfmodjaaTlv
namespace Go.Proofs.Ytbnnmbajfmodjaa.Runes
open Go.RowKit Go.Proofs.Ytbnnmbajfmodjaa.B
theorem get_at' (s : ByteArray) (i : Nat) (h : i < s.toList.length) : s.get! i = s.toList[i] := by
  have h' : i < s.size := by rw [len_eq] at h; exact h
  have e : s.get! i = s[i]'h' := by simp [ByteArray.get!, getElem!_pos, h']; rfl
  rw [e]
  simp only [Lib.toList_data]
  rfl
/-- All bytes of a step that begins high are high, and the step stays within the text. -/
theorem step_high (s : ByteArray) (pos : Nat) (h : pos < s.size) (ha : 128 ≤ (s.get! pos).toNat) :
    pos + (Utf8.decode s pos).2 ≤ s.size ∧ ∀ j, j < (Utf8.decode s pos).2 → 128 ≤ (s.get! (pos + j)).toNat := by
  have one : ∀ j, j < 1 → 128 ≤ (s.get! (pos + j)).toNat := by
    intro j hj
    obtain rfl : j = 0 := by omega
    exact ha
  have hn : ¬ (s.get! (pos + 0)).toNat < 128 := by rw [Nat.add_zero]; omega
  unfold Utf8.decode
  simp only [hn, if_false]
  split
  · rename_i hc
    simp only [Bool.and_eq_true, beq_iff_eq, decide_eq_true_eq] at hc
    split
    · refine ⟨by simp only; omega, fun j hj => ?_⟩
      simp only at hj
      have : j = 0 ∨ j = 1 := by omega
      rcases this with rfl | rfl
      · exact ha
      · omega
    · exact ⟨by simp only; omega, one⟩
  · split
    · rename_i hc
      simp only [Bool.and_eq_true, beq_iff_eq, decide_eq_true_eq] at hc
      split
      · refine ⟨by simp only; omega, fun j hj => ?_⟩
        simp only at hj
        have : j = 0 ∨ j = 1 ∨ j = 2 := by omega
        rcases this with rfl | rfl | rfl
        · exact ha
        · omega
        · omega
      · exact ⟨by simp only; omega, one⟩
    · split
      · rename_i hc
        simp only [Bool.and_eq_true, beq_iff_eq, decide_eq_true_eq] at hc
        split
        · refine ⟨by simp only; omega, fun j hj => ?_⟩
          simp only at hj
          have : j = 0 ∨ j = 1 ∨ j = 2 ∨ j = 3 := by omega
          rcases this with rfl | rfl | rfl | rfl
          · exact ha
          · omega
          · omega
          · omega
        · exact ⟨by simp only; omega, one⟩
      · exact ⟨by simp only; omega, one⟩
/-- No sign of a name's two barred ones among the first bytes. -/
def clean (s : ByteArray) (pos : Nat) : Bool := (s.toList.take pos).all fun b => b.toNat != 47 && b.toNat != 0
theorem clean_zero (s : ByteArray) : clean s 0 = true := by simp [clean]
theorem clean_snoc (s : ByteArray) (pos : Nat) (h : pos < s.toList.length) : clean s (pos + 1) = (clean s pos && (s.toList[pos].toNat != 47 && s.toList[pos].toNat != 0)) := by
  unfold clean
  rw [take_snoc h, List.all_append]
  simp
theorem clean_high (s : ByteArray) (pos n : Nat) (hl : pos + n ≤ s.toList.length) (h : ∀ j, j < n → 128 ≤ (s.get! (pos + j)).toNat) : clean s (pos + n) = clean s pos := by
  induction n with
  | zero => rfl
  | succ n ih =>
    have hb := h n (by omega)
    rw [get_at' s (pos + n) (by omega)] at hb
    rw [← Nat.add_assoc, clean_snoc s (pos + n) (by omega), ih (by omega) (fun j hj => h j (by omega))]
    have e1 : (s.toList[pos + n].toNat != 47) = true := bne_iff_ne.mpr (by omega)
    have e2 : (s.toList[pos + n].toNat != 0) = true := bne_iff_ne.mpr (by omega)
    rw [e1, e2]
    simp
/-- A step of the range: what it adds. -/
theorem clean_step (s : ByteArray) (pos : Nat) (h : pos < s.size) :
    clean s (pos + (Utf8.decode s pos).2) = (clean s pos && ((((Utf8.decode s pos).1 : Int) != 47) && (((Utf8.decode s pos).1 : Int) != 0))) ∧ pos + (Utf8.decode s pos).2 ≤ s.size ∧ 1 ≤ (Utf8.decode s pos).2 := by
  have hl : pos < s.toList.length := by rw [len_eq]; exact h
  have hg := get_at' s pos hl
  have hs : (s[pos]'h) = s.toList[pos] := by
    simp only [Lib.toList_data]
    rfl
  by_cases ha : (s[pos]'h).toNat < 128
  · rw [decode_ascii s pos h ha]
    simp only
    rw [clean_snoc s pos hl, hs]
    refine ⟨?_, by omega, Nat.le_refl _⟩
    congr 1
    have e : ∀ n k : Nat, (((n : Nat) : Int) != (k : Int)) = (n != k) := by
      intro n k
      by_cases hnk : n = k
      · subst hnk; simp
      · rw [bne_iff_ne.mpr hnk, bne_iff_ne.mpr (by omega)]
    rw [← e _ 47, ← e _ 0]
    rfl
  · have hh := decode_high s pos h (by omega)
    obtain ⟨h1, h2⟩ := step_high s pos h (by rw [hg, ← hs]; omega)
    rw [clean_high s pos _ (by rw [len_eq]; exact h1) h2]
    refine ⟨?_, h1, hh.2⟩
    have e1 : (((Utf8.decode s pos).1 : Int) != 47) = true := bne_iff_ne.mpr (by omega)
    have e2 : (((Utf8.decode s pos).1 : Int) != 0) = true := bne_iff_ne.mpr (by omega)
    rw [e1, e2]
    simp
end Go.Proofs.Ytbnnmbajfmodjaa.Runes
