/- All pages of a folder, one behind the other, are its entries. -/
import Derived.Test.YtjjjbpgncmfpgaaFolderOps
import Derived.Test.YtjjjbpgncmfpgaaFAsextonplainEntries
namespace Go.Proofs.Ytjjjbpgncmfpgaa.FA
open Go.RowKit Go.Proofs.YtjjjbpgncmfpgaaW.PrintWords Go.Proofs.Ytjjjbpgncmfpgaa.B Go.Proofs.Ytjjjbpgncmfpgaa.Runes
set_option linter.unusedVariables false
set_option linter.unusedSimpArgs false
theorem rd_at (l : List S30) (i : Nat) (h : i < l.length) : rd_T30 l (i : Int) = l[i] := by simp [rd_T30, List.getD, h]
theorem entries_l0 (l : List S30) (hl : l.length ≤ 1000) (n : Nat) : ∀ (i k : Nat), i ≤ l.length → l.length - i = n → n < k → sextonplain_Entries.l0 k l l (l.length : Int) (i : Int) = some true := by
  induction n with
  | zero =>
    intro i k hi hn hk
    obtain ⟨k, rfl⟩ : ∃ k', k = k' + 1 := ⟨k - 1, by omega⟩
    have : i = l.length := by omega
    subst this
    rw [sextonplain_Entries.l0, if_neg (by omega)]
    simp
  | succ n ih =>
    intro i k hi hn hk
    obtain ⟨k, rfl⟩ : ∃ k', k = k' + 1 := ⟨k - 1, by omega⟩
    have hw : wrap64 ((i : Int) + 1) = ((i + 1 : Nat) : Int) := by rw [wrap64_in (by omega) (by omega)]; omega
    rw [sextonplain_Entries.l0, if_pos (by omega), if_neg (by omega), if_pos (by omega), if_pos (by omega), if_pos (by omega), if_neg (by simp), hw]
    exact ih (i + 1) k (by omega) (by omega) (by omega)
theorem entries_same (l : List S30) (hl : l.length ≤ 1000) (k : Nat) (hk : 1001 ≤ k) : sextonplain_Entries.f k l l = some true := entries_l0 l hl l.length 0 k (by omega) (by omega) (by omega)
theorem page_is (l : List S30) (nx c m : Int) (hl : l.length ≤ 1000) (hd : dirOk l nx = true) (k : Nat) (hk : 4000 ≤ k) : folder_Page.f k l nx c m = some (pageOf l c m) := by
  unfold folder_Page.f
  rw [check_is l nx hl k (by omega), if_pos hd]
  simp only [Option.bind_some, if_true]
  rw [if_pos (by omega)]
theorem ok_asc (l : List S30) (nx : Int) : ∀ (t : List S30) (last i : Int), okFrom l nx last t i = true → (∀ j (h : j < t.length), last < t[j].f1) ∧ (∀ a b (ha : a < b) (hb : b < t.length), t[a].f1 < t[b].f1)
  | [], _, _, _ => ⟨fun j h => absurd h (by simp), fun a b ha hb => absurd hb (by simp)⟩
  | x :: t, last, i, h => by
    simp only [okFrom, okOne, Bool.and_eq_true, decide_eq_true_eq] at h
    obtain ⟨⟨h1, _⟩, h2⟩ := h
    obtain ⟨r1, r2⟩ := ok_asc l nx t x.f1 (i + 1) h2
    refine ⟨fun j hj => ?_, fun a b ha hb => ?_⟩
    · cases j with
      | zero => exact h1
      | succ j => have := r1 j (by simpa using hj); simp only [List.getElem_cons_succ]; omega
    · cases b with
      | zero => omega
      | succ b =>
        cases a with
        | zero => simp only [List.getElem_cons_succ, List.getElem_cons_zero]; exact r1 b (by simpa using hb)
        | succ a => simp only [List.getElem_cons_succ]; exact r2 a b (by omega) (by simpa using hb)
theorem idx_at {α : Type} (p : α → Bool) : ∀ (l : List α) (n : Nat) (i : Int), (∀ j (h : j < l.length), j < n → p l[j] = false) → (∀ h : n < l.length, p l[n] = true) → idxFrom p l i = if n < l.length then i + n else -1
  | [], n, i, _, _ => by simp [idxFrom]
  | x :: t, 0, i, _, h => by
    have := h (by simp)
    simp only [List.getElem_cons_zero] at this
    simp [idxFrom, this]
  | x :: t, n + 1, i, h0, h => by
    have hx : p x = false := h0 0 (by simp) (by omega)
    rw [idxFrom, hx, if_neg (by decide), idx_at p t n (i + 1) (fun j hj hn => h0 (j + 1) (by simpa using hj) (by omega)) (fun hn => h (by simpa using hn))]
    by_cases hn : n < t.length
    · rw [if_pos hn, if_pos (by simpa using hn)]; omega
    · rw [if_neg hn, if_neg (by simpa using hn)]
/-- The last cookie of the first n. -/
def cookieAt (l : List S30) : Nat → Int
  | 0 => 0
  | n + 1 => (rd_T30 l (n : Int)).f1
theorem cookie_succ (l : List S30) (n : Nat) (h : n < l.length) : cookieAt l (n + 1) = l[n].f1 := by rw [cookieAt, rd_at l n h]
theorem page_at (l : List S30) (nx m : Int) (hd : dirOk l nx = true) (hm : 1 ≤ m ∧ m ≤ 64) (n : Nat) (hn : n ≤ l.length) : pageOf l (cookieAt l n) m = ((l.drop n).take m.toNat, 0) := by
  simp only [dirOk, Bool.and_eq_true, decide_eq_true_eq] at hd
  obtain ⟨h1, h2⟩ := ok_asc l nx l 0 0 hd.2.2
  have hc0 : 0 ≤ cookieAt l n := by
    cases n with
    | zero => exact Int.le_refl _
    | succ n => have := h1 n (by omega); rw [cookieAt, rd_at l n (by omega)]; omega
  have hi := idx_at (isBehind (cookieAt l n)) l n 0 (by
    intro j hj hjn
    cases n with
    | zero => omega
    | succ n =>
      unfold isBehind
      rw [cookie_succ l n (by omega)]
      apply decide_eq_false
      by_cases e : j = n
      · subst e; omega
      · have := h2 j n (by omega) (by omega); omega) (by
    intro h
    unfold isBehind
    apply decide_eq_true
    cases n with
    | zero => exact h1 0 h
    | succ n => rw [cookieAt, rd_at l n (by omega)]; exact h2 n (n + 1) (by omega) h)
  rw [pageOf, if_neg (by omega), hi]
  by_cases h : n < l.length
  · rw [if_pos h, if_neg (by omega)]
    rw [show ((0 : Int) + (n : Int)).toNat = n by omega]
  · rw [if_neg h, if_pos (by decide)]
    rw [show n = l.length by omega, List.drop_length]
    simp
end Go.Proofs.Ytjjjbpgncmfpgaa.FA
