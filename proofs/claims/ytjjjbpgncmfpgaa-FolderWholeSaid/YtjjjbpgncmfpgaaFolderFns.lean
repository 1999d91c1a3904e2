/- What the plain functions of folder and of its reference compute. -/
import Derived.Test.YtjjjbpgncmfpgaaHFolderName
import Derived.Test.YtjjjbpgncmfpgaaHFolderPlace
import Derived.Test.YtjjjbpgncmfpgaaFAfolderCheck
import Derived.Test.YtjjjbpgncmfpgaaFAsextonref10Right
import Derived.Test.YtjjjbpgncmfpgaaFAsextonref10asked
import Derived.Test.YtjjjbpgncmfpgaaFAfolderasked
namespace Go.Proofs.Ytjjjbpgncmfpgaa.FA
open Go.RowKit Go.Proofs.YtjjjbpgncmfpgaaW.PrintWords Go.Proofs.Ytjjjbpgncmfpgaa.B Go.Proofs.Ytjjjbpgncmfpgaa.Runes
set_option linter.unusedVariables false
set_option linter.unusedSimpArgs false
def nameOk (s : ByteArray) : Bool := plainName s && clean s s.size
def nameE (s : ByteArray) : Int := if nameOk s = true then 0 else 409
theorem name_is (s : ByteArray) : folder_Name.f s = some (nameE s) := rfl
theorem bt_is (s : ByteArray) (i : Nat) (h : i < s.toList.length) : bt s (i : Int) = (s.toList[i].toNat : Int) := bt_get s i h
theorem ref_name_l0 (s : ByteArray) (hs : s.size ≤ 32) (n : Nat) : ∀ (i k : Nat), i ≤ s.size → s.size - i = n → n < k → sextonref10_Name.l0 k s (i : Int) = some (if (s.toList.drop i).all (fun b => b.toNat != 47 && b.toNat != 0) then 0 else 409) := by
  induction n with
  | zero =>
    intro i k hi hn hk
    obtain ⟨k, rfl⟩ : ∃ k', k = k' + 1 := ⟨k - 1, by omega⟩
    have : i = s.size := by omega
    subst this
    rw [sextonref10_Name.l0, if_neg (by omega), ← len_eq, List.drop_length]
    rfl
  | succ n ih =>
    intro i k hi hn hk
    obtain ⟨k, rfl⟩ : ∃ k', k = k' + 1 := ⟨k - 1, by omega⟩
    have hl : i < s.toList.length := by rw [len_eq]; omega
    rw [sextonref10_Name.l0, if_pos (by omega), if_pos (by omega), bt_is s i hl, List.drop_eq_getElem_cons hl, List.all_cons]
    have hw : wrap64 ((i : Int) + 1) = ((i + 1 : Nat) : Int) := by rw [wrap64_in (by omega) (by omega)]; omega
    by_cases h1 : s.toList[i].toNat = 47
    · rw [if_pos (by omega)]
      simp [h1]
    · rw [if_neg (by omega)]
      by_cases h2 : s.toList[i].toNat = 0
      · rw [if_pos (by omega)]
        simp [h2]
      · rw [if_neg (by omega), hw, ih (i + 1) k (by omega) (by omega) (by omega)]
        have e1 : (s.toList[i].toNat != 47) = true := bne_iff_ne.mpr h1
        have e2 : (s.toList[i].toNat != 0) = true := bne_iff_ne.mpr h2
        rw [e1, e2]
        rfl
theorem ref_name_is (s : ByteArray) (k : Nat) (hk : 40 ≤ k) : sextonref10_Name.f k s = some (nameE s) := by
  obtain ⟨k, rfl⟩ : ∃ k', k = k' + 1 := ⟨k - 1, by omega⟩
  unfold sextonref10_Name.f nameE nameOk plainName
  have hz : s.toList.length = s.size := len_eq s
  by_cases h1 : (s.size : Int) < 1
  · rw [if_pos h1]
    have : s.toList = [] := List.eq_nil_of_length_eq_zero (by omega)
    simp [sextonref10_Name.j0, this]
  · rw [if_neg h1]
    have hne : s.toList ≠ [] := fun e => by rw [e] at hz; simp at hz; omega
    have e1 : (s.toList != []) = true := bne_iff_ne.mpr hne
    by_cases h2 : (s.size : Int) > 32
    · rw [if_pos h2]
      have : decide ((s.size : Int) ≤ 32) = false := decide_eq_false (by omega)
      simp [sextonref10_Name.j0, this]
    · rw [if_neg h2]
      have e2 : decide ((s.size : Int) ≤ 32) = true := decide_eq_true (by omega)
      by_cases h3 : s.toList = [46]
      · rw [if_pos h3]
        simp [sextonref10_Name.j0, h3]
      · rw [if_neg h3]
        have e3 : (s.toList != [46]) = true := bne_iff_ne.mpr h3
        by_cases h4 : s.toList = [46, 46]
        · simp [sextonref10_Name.j0, h4]
        · have e4 : (s.toList == [46, 46]) = false := beq_eq_false_iff_ne.mpr h4
          have e5 : (s.toList != [46, 46]) = true := bne_iff_ne.mpr h4
          rw [e1, e2, e3, e4, e5, sextonref10_Name.j0, if_neg (by decide)]
          have := ref_name_l0 s (by omega) s.size 0 k (by omega) (by omega) (by omega)
          rw [show ((0 : Nat) : Int) = 0 from rfl, List.drop_zero] at this
          rw [this]
          unfold clean
          rw [List.take_of_length_le (by omega)]
          rfl
theorem place_is (l : List S30) (nx : Int) (s : ByteArray) (hl : l.length ≤ 1000) : folder_Dir_place.f l nx s = some (idxFrom (isName s) l 0) := by
  rw [folder_Dir_place.f, if_pos (by omega)]
theorem ref_place_l0 (l : List S30) (s : ByteArray) (hl : l.length ≤ 1000) (n : Nat) : ∀ (i k : Nat), i ≤ l.length → l.length - i = n → n < k → sextonref10_Place.l0 k s l (l.length : Int) (i : Int) = some (idxFrom (isName s) (l.drop i) (i : Int)) := by
  induction n with
  | zero =>
    intro i k hi hn hk
    obtain ⟨k, rfl⟩ : ∃ k', k = k' + 1 := ⟨k - 1, by omega⟩
    have : i = l.length := by omega
    subst this
    rw [sextonref10_Place.l0, if_neg (by omega), List.drop_length]
    rfl
  | succ n ih =>
    intro i k hi hn hk
    obtain ⟨k, rfl⟩ : ∃ k', k = k' + 1 := ⟨k - 1, by omega⟩
    have hl' : i < l.length := by omega
    have hw : wrap64 ((i : Int) + 1) = ((i + 1 : Nat) : Int) := by rw [wrap64_in (by omega) (by omega)]; omega
    have hx : rd_T30 l (i : Int) = l[i] := by simp [rd_T30, List.getD, hl']
    rw [sextonref10_Place.l0, if_pos (by omega), if_pos (by omega), if_pos (by omega), idxFrom_drop_step (isName s) l i hl' _ rfl, hx, hw]
    by_cases h1 : l[i].f0.toList = s.toList
    · rw [if_pos h1, if_pos (by exact beq_iff_eq.mpr h1)]
    · rw [if_neg h1, if_neg (by rw [isName, beq_eq_false_iff_ne.mpr h1]; decide), ih (i + 1) k (by omega) (by omega) (by omega)]
      rfl
theorem ref_place_is (l : List S30) (s : ByteArray) (hl : l.length ≤ 1000) (k : Nat) (hk : 1001 ≤ k) : sextonref10_Place.f k l s = some (idxFrom (isName s) l 0) := by
  have := ref_place_l0 l s hl l.length 0 k (by omega) (by omega) (by omega)
  rw [List.drop_zero] at this
  exact this
end Go.Proofs.Ytjjjbpgncmfpgaa.FA
