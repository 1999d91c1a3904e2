/- A right folder, told by pairs: cookies rise, names differ. -/
import Derived.Test.YtjjjbpgncmfpgaaFolderPlain
namespace Go.Proofs.Ytjjjbpgncmfpgaa.FA
open Go.RowKit Go.Proofs.YtjjjbpgncmfpgaaW.PrintWords Go.Proofs.Ytjjjbpgncmfpgaa.B Go.Proofs.Ytjjjbpgncmfpgaa.Runes
set_option linter.unusedVariables false
set_option linter.unusedSimpArgs false
def Each (nx : Int) (x : S30) : Prop := 0 < x.f1 ∧ x.f1 ≤ nx ∧ nameOk x.f0 = true ∧ tgt x.f2.f0 x.f2.f1 = true
def GoodDir (l : List S30) (nx : Int) : Prop := l.Pairwise (fun x y => x.f1 < y.f1) ∧ l.Pairwise (fun x y => x.f0.toList ≠ y.f0.toList) ∧ ∀ x ∈ l, Each nx x
theorem ok_of (l : List S30) (nx : Int) : ∀ (t : List S30) (last i : Int), (∀ x ∈ t, last < x.f1) → t.Pairwise (fun x y => x.f1 < y.f1) → (∀ j (h : j < t.length), t[j].f1 ≤ nx ∧ nameOk t[j].f0 = true ∧ idxFrom (isName t[j].f0) l 0 = i + j ∧ tgt t[j].f2.f0 t[j].f2.f1 = true) → okFrom l nx last t i = true
  | [], _, _, _, _, _ => rfl
  | x :: t, last, i, h1, h2, h3 => by
    rw [List.pairwise_cons] at h2
    have h0 := h3 0 (by simp)
    simp only [okFrom, okOne, Bool.and_eq_true, decide_eq_true_eq, beq_iff_eq]
    refine ⟨⟨h1 x (by simp), h0.1, h0.2.1, ?_, h0.2.2.2⟩, ok_of l nx t x.f1 (i + 1) h2.1 h2.2 (fun j h => ?_)⟩
    · have := h0.2.2.1
      simpa using this
    · have := h3 (j + 1) (by simp; omega)
      rw [show i + ((j + 1 : Nat) : Int) = i + 1 + (j : Int) by omega] at this
      exact this
/-- The first place of a name that stands at i and not before. -/
theorem idx_own (l : List S30) (i : Nat) (h : i < l.length) (hn : l.Pairwise (fun x y => x.f0.toList ≠ y.f0.toList)) (s : ByteArray) (hs : l[i].f0.toList = s.toList) : idxFrom (isName s) l 0 = (i : Int) := by
  have := idx_at (isName s) l i 0 (fun j hj hji => ?_) (fun _ => ?_)
  · rw [if_pos h] at this; omega
  · unfold isName
    rw [beq_eq_false_iff_ne, ← hs]
    exact List.pairwise_iff_getElem.1 hn j i hj h hji
  · unfold isName
    rw [beq_iff_eq]; exact hs
theorem idx_none {α : Type} (p : α → Bool) : ∀ (l : List α) (i : Int), (∀ x ∈ l, p x = false) → idxFrom p l i = -1
  | [], _, _ => rfl
  | x :: t, i, h => by
    rw [idxFrom, h x (by simp)]
    exact idx_none p t (i + 1) (fun y hy => h y (by simp [hy]))
theorem good_ok (l : List S30) (nx : Int) (h0 : 0 ≤ nx ∧ nx ≤ 1099511627776) (h : GoodDir l nx) : dirOk l nx = true := by
  simp only [dirOk, Bool.and_eq_true, decide_eq_true_eq]
  refine ⟨h0.1, h0.2, ok_of l nx l 0 0 (fun x hx => (h.2.2 x hx).1) h.1 (fun j hj => ?_)⟩
  have := h.2.2 l[j] (List.getElem_mem hj)
  exact ⟨this.2.1, this.2.2.1, by rw [idx_own l j hj h.2.1 l[j].f0 rfl]; omega, this.2.2.2⟩
end Go.Proofs.Ytjjjbpgncmfpgaa.FA
