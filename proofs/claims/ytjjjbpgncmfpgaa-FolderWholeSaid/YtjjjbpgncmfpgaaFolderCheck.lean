/- Which folders are right: the code and the reference agree. -/
import Derived.Test.YtjjjbpgncmfpgaaFolderFns
namespace Go.Proofs.Ytjjjbpgncmfpgaa.FA
open Go.RowKit Go.Proofs.YtjjjbpgncmfpgaaW.PrintWords Go.Proofs.Ytjjjbpgncmfpgaa.B Go.Proofs.Ytjjjbpgncmfpgaa.Runes
set_option linter.unusedVariables false
set_option linter.unusedSimpArgs false
def tgt (a b : Int) : Bool := decide (0 ≤ a) && decide (a < 24) && decide (1 ≤ b) && decide (b ≤ 1099511627776)
theorem target_is (a b : Int) : folder_target.f a b = some (tgt a b) := by
  unfold folder_target.f tgt
  by_cases h1 : a ≥ 0 <;> by_cases h2 : a < 24 <;> by_cases h3 : b ≥ 1 <;> simp [h1, h2, h3] <;> omega
theorem to_is (a b : Int) : sextonref10_To.f a b = some (tgt a b) := by
  unfold sextonref10_To.f tgt
  by_cases h1 : a ≥ 0 <;> by_cases h2 : a < 24 <;> by_cases h3 : b ≥ 1 <;> simp [h1, h2, h3] <;> omega
def okOne (l : List S30) (nx last : Int) (x : S30) (i : Int) : Bool :=
  decide (last < x.f1) && (decide (x.f1 ≤ nx) && (nameOk x.f0 && ((idxFrom (isName x.f0) l 0 == i) && tgt x.f2.f0 x.f2.f1)))
def okFrom (l : List S30) (nx : Int) : Int → List S30 → Int → Bool
  | _, [], _ => true
  | last, x :: t, i => okOne l nx last x i && okFrom l nx x.f1 t (i + 1)
def dirOk (l : List S30) (nx : Int) : Bool := decide (0 ≤ nx) && (decide (nx ≤ 1099511627776) && okFrom l nx 0 l 0)
theorem nameE_zero (s : ByteArray) : nameE s = 0 ↔ nameOk s = true := by
  unfold nameE
  by_cases h : nameOk s = true
  · simp [h]
  · simp [h]
theorem check_l0 (l : List S30) (nx : Int) (hl : l.length ≤ 1000) (n : Nat) : ∀ (i k : Nat) (last : Int), i ≤ l.length → l.length - i = n → n < k →
    folder_Check.l0 k last l (l.length : Int) (i : Int) l nx = some (if okFrom l nx last (l.drop i) (i : Int) = true then 0 else 4) := by
  induction n with
  | zero =>
    intro i k last hi hn hk
    obtain ⟨k, rfl⟩ : ∃ k', k = k' + 1 := ⟨k - 1, by omega⟩
    have : i = l.length := by omega
    subst this
    rw [folder_Check.l0, if_neg (by omega), List.drop_length]
    rfl
  | succ n ih =>
    intro i k last hi hn hk
    obtain ⟨k, rfl⟩ : ∃ k', k = k' + 1 := ⟨k - 1, by omega⟩
    have hl' : i < l.length := by omega
    have hw : wrap64 ((i : Int) + 1) = ((i + 1 : Nat) : Int) := by rw [wrap64_in (by omega) (by omega)]; omega
    have hx : rd_T30 l (i : Int) = l[i] := by simp [rd_T30, List.getD, hl']
    rw [folder_Check.l0, if_pos (by omega), if_pos (by omega), if_pos (by omega), hx, hw, List.drop_eq_getElem_cons hl']
    rw [show okFrom l nx last (l[i] :: l.drop (i + 1)) (i : Int) = (okOne l nx last l[i] (i : Int) && okFrom l nx l[i].f1 (l.drop (i + 1)) ((i : Int) + 1)) from rfl]
    rw [name_is, place_is l nx _ hl, target_is]
    simp only [Option.bind_some]
    rw [ih (i + 1) k l[i].f1 (by omega) (by omega) (by omega)]
    rw [show (((i + 1 : Nat)) : Int) = (i : Int) + 1 by omega]
    generalize okFrom l nx l[i].f1 (l.drop (i + 1)) ((i : Int) + 1) = B
    unfold okOne
    have hz := nameE_zero l[i].f0
    generalize tgt l[i].f2.f0 l[i].f2.f1 = t
    generalize idxFrom (isName l[i].f0) l 0 = p
    generalize nameE l[i].f0 = e at hz
    generalize nameOk l[i].f0 = q at hz
    generalize l[i].f1 = c
    by_cases h1 : c ≤ last
    · rw [if_pos h1, decide_eq_false (by omega)]; rfl
    · rw [if_neg h1, decide_eq_true (by omega)]
      by_cases h2 : c > nx
      · rw [if_pos h2, decide_eq_false (by omega)]; rfl
      · rw [if_neg h2, decide_eq_true (by omega)]
        by_cases h3 : e = 0
        · rw [if_pos h3, hz.mp h3]
          by_cases h4 : p = (i : Int)
          · rw [if_pos h4, h4]
            cases t <;> simp
          · rw [if_neg h4, beq_eq_false_iff_ne.mpr h4]; rfl
        · rw [if_neg h3, show q = false by rcases q with _ | _; rfl; exact absurd (hz.mpr rfl) h3]; rfl
theorem check_is (l : List S30) (nx : Int) (hl : l.length ≤ 1000) (k : Nat) (hk : 1100 ≤ k) : folder_Check.f k l nx = some (if dirOk l nx = true then 0 else 4) := by
  obtain ⟨k, rfl⟩ : ∃ k', k = k' + 1 := ⟨k - 1, by omega⟩
  unfold folder_Check.f dirOk
  by_cases h1 : nx < 0
  · rw [if_pos h1, decide_eq_false (by omega)]; simp [folder_Check.j0]
  · rw [if_neg h1, decide_eq_true (show 0 ≤ nx by omega)]
    by_cases h2 : nx > 1099511627776
    · rw [decide_eq_true h2, decide_eq_false (by omega)]; simp [folder_Check.j0]
    · rw [decide_eq_false h2, decide_eq_true (by omega), folder_Check.j0, if_neg (by decide)]
      have := check_l0 l nx hl l.length 0 k 0 (by omega) (by omega) (by omega)
      rw [List.drop_zero] at this
      exact this
theorem right_l0 (l : List S30) (nx : Int) (hl : l.length ≤ 1000) (n : Nat) : ∀ (i k : Nat) (last : Int), i ≤ l.length → l.length - i = n → 2 * n + 1100 < k → 0 ≤ last → (i = 0 → last = 0) → (∀ j, i = j + 1 → ∀ h : j < l.length, last = l[j].f1) →
    sextonref10_Right.l0 k l nx l (l.length : Int) (i : Int) = some (okFrom l nx last (l.drop i) (i : Int)) := by
  induction n with
  | zero =>
    intro i k last hi hn hk h0 h00 hlast
    obtain ⟨k, rfl⟩ : ∃ k', k = k' + 1 := ⟨k - 1, by omega⟩
    have : i = l.length := by omega
    subst this
    rw [sextonref10_Right.l0, if_neg (by omega), List.drop_length]
    rfl
  | succ n ih =>
    intro i k last hi hn hk h0 h00 hlast
    obtain ⟨k, rfl⟩ : ∃ k', k = k' + 2 := ⟨k - 2, by omega⟩
    have hl' : i < l.length := by omega
    have hw : wrap64 ((i : Int) + 1) = ((i + 1 : Nat) : Int) := by rw [wrap64_in (by omega) (by omega)]; omega
    have hx : rd_T30 l (i : Int) = l[i] := by simp [rd_T30, List.getD, hl']
    rw [sextonref10_Right.l0, if_pos (by omega), if_pos (by omega), if_pos (by omega), hx, List.drop_eq_getElem_cons hl']
    rw [show okFrom l nx last (l[i] :: l.drop (i + 1)) (i : Int) = (okOne l nx last l[i] (i : Int) && okFrom l nx l[i].f1 (l.drop (i + 1)) ((i : Int) + 1)) from rfl]
    rw [ref_name_is _ _ (by omega), ref_place_is l _ hl _ (by omega), to_is]
    simp only [Option.bind_some]
    have hbad : ∀ (a : ByteArray) (b c d e : Int), sextonref10_Right.j2 (k + 1) l nx (i : Int) l (l.length : Int) (i : Int) true a b c d = some false := by
      intro a b c d e
      rw [sextonref10_Right.j2, if_pos rfl]
    have hnx : ∀ j, i + 1 = j + 1 → ∀ h : j < l.length, l[i].f1 = l[j].f1 := by
      intro j hj h
      obtain rfl : i = j := by omega
      rfl
    have hnext : 0 ≤ l[i].f1 → sextonref10_Right.l0 k l nx l (l.length : Int) (wrap64 ((i : Int) + 1)) = some (okFrom l nx l[i].f1 (l.drop (i + 1)) ((i : Int) + 1)) := by
      intro hc
      rw [hw, ih (i + 1) k l[i].f1 (by omega) (by omega) (by omega) hc (by omega) hnx]
      rfl
    have hgood : 1 ≤ l[i].f1 → ∀ a c d, sextonref10_Right.j2 (k + 1) l nx (i : Int) l (l.length : Int) (i : Int) false a l[i].f1 c d = (if last < l[i].f1 then some (okFrom l nx l[i].f1 (l.drop (i + 1)) ((i : Int) + 1)) else some false) := by
      intro hc a c d
      rw [sextonref10_Right.j2, if_neg (by decide)]
      by_cases hi0 : i = 0
      · rw [if_neg (by omega), hnext (by omega), if_pos (by have := h00 hi0; omega)]
      · obtain ⟨j, rfl⟩ : ∃ j, i = j + 1 := ⟨i - 1, by omega⟩
        have hw2 : wrap64 (((j + 1 : Nat) : Int) - 1) = (j : Int) := by rw [wrap64_in (by omega) (by omega)]; omega
        have hj : rd_T30 l (j : Int) = l[j] := by simp [rd_T30, List.getD, show j < l.length by omega]
        rw [if_pos (by omega), hw2, if_pos (by omega), if_pos (by omega), hj, ← hlast j rfl (by omega), hnext (by omega)]
        by_cases hc2 : last < l[j + 1].f1
        · rw [if_neg (by omega), if_pos hc2]
        · rw [if_pos (by omega), if_neg hc2]
    unfold okOne
    have hz := nameE_zero l[i].f0
    by_cases h3 : nameE l[i].f0 = 0
    · rw [if_pos h3, hz.mp h3]
      by_cases h4 : idxFrom (isName l[i].f0) l 0 = (i : Int)
      · rw [if_pos h4, beq_iff_eq.mpr h4]
        by_cases h5 : tgt l[i].f2.f0 l[i].f2.f1 = true
        · rw [if_pos h5, h5]
          by_cases h6 : l[i].f1 < 1
          · rw [if_pos h6, hbad _ _ _ _ 0, decide_eq_false (by omega)]; rfl
          · rw [if_neg h6]
            by_cases h7 : l[i].f1 > nx
            · rw [decide_eq_true h7, hbad _ _ _ _ 0, decide_eq_false (show ¬ l[i].f1 ≤ nx by omega)]; simp
            · rw [decide_eq_false h7, hgood (by omega), decide_eq_true (show l[i].f1 ≤ nx by omega)]
              by_cases h8 : last < l[i].f1
              · rw [if_pos h8, decide_eq_true h8]; simp
              · rw [if_neg h8, decide_eq_false h8]; rfl
        · rw [if_neg h5, hbad _ _ _ _ 0, Bool.eq_false_iff.mpr h5]; simp
      · rw [if_neg h4, hbad _ _ _ _ 0, beq_eq_false_iff_ne.mpr h4]; simp
    · rw [if_neg h3, hbad _ _ _ _ 0, show nameOk l[i].f0 = false from Bool.eq_false_iff.mpr (fun h => h3 (hz.mpr h))]; simp
theorem right_is (l : List S30) (nx : Int) (hl : l.length ≤ 1000) (k : Nat) (hk : 4000 ≤ k) : sextonref10_Right.f k l nx = some (dirOk l nx) := by
  obtain ⟨k, rfl⟩ : ∃ k', k = k' + 1 := ⟨k - 1, by omega⟩
  unfold sextonref10_Right.f dirOk
  by_cases h1 : nx < 0
  · rw [if_pos h1, decide_eq_false (by omega)]; simp [sextonref10_Right.j0]
  · rw [if_neg h1, decide_eq_true (show 0 ≤ nx by omega)]
    by_cases h2 : nx > 1099511627776
    · rw [decide_eq_true h2, decide_eq_false (by omega)]; simp [sextonref10_Right.j0]
    · rw [decide_eq_false h2, decide_eq_true (by omega), sextonref10_Right.j0, if_neg (by decide)]
      have := right_l0 l nx hl l.length 0 k 0 (by omega) (by omega) (by omega) (by omega) (fun _ => rfl) (fun j hj => by omega)
      rw [List.drop_zero] at this
      exact this
end Go.Proofs.Ytjjjbpgncmfpgaa.FA
