/- A right folder stays one: with a name more, with one less; what it finds. -/
import Derived.Test.YtjjjbpgncmfpgaaFolderGood
namespace Go.Proofs.Ytjjjbpgncmfpgaa.FA
open Go.RowKit Go.Proofs.YtjjjbpgncmfpgaaW.PrintWords Go.Proofs.Ytjjjbpgncmfpgaa.B Go.Proofs.Ytjjjbpgncmfpgaa.Runes
set_option linter.unusedVariables false
set_option linter.unusedSimpArgs false
theorem good_nil : GoodDir [] 0 := ⟨List.Pairwise.nil, List.Pairwise.nil, fun x hx => absurd hx (by simp)⟩
theorem idx_neg {α : Type} (p : α → Bool) : ∀ (l : List α) (i : Int), 0 ≤ i → idxFrom p l i < 0 → ∀ x ∈ l, p x = false
  | [], _, _, _, x, hx => absurd hx (by simp)
  | y :: t, i, hi, h, x, hx => by
    rw [idxFrom] at h
    by_cases hy : p y = true
    · rw [if_pos hy] at h; omega
    · rw [if_neg hy] at h
      rcases List.mem_cons.1 hx with rfl | hx
      · simpa using hy
      · exact idx_neg p t (i + 1) (by omega) h x hx
theorem idx_pos {α : Type} (p : α → Bool) : ∀ (l : List α) (i : Int), 0 ≤ i → 0 ≤ idxFrom p l i → ∃ x ∈ l, p x = true
  | [], _, _, h => absurd h (by rw [idxFrom]; decide)
  | y :: t, i, hi, h => by
    rw [idxFrom] at h
    by_cases hy : p y = true
    · exact ⟨y, by simp, hy⟩
    · rw [if_neg hy] at h
      obtain ⟨x, hx, hp⟩ := idx_pos p t (i + 1) (by omega) h
      exact ⟨x, by simp [hx], hp⟩
theorem isName_false {s : ByteArray} {x : S30} (h : isName s x = false) : x.f0.toList ≠ s.toList := by
  unfold isName at h
  exact beq_eq_false_iff_ne.1 h
theorem isName_true {s : ByteArray} {x : S30} (h : isName s x = true) : x.f0.toList = s.toList := by
  unfold isName at h
  exact beq_iff_eq.1 h
theorem nameOk_l {s u : ByteArray} (h : s.toList = u.toList) : nameOk s = nameOk u := by
  have e1 : s.size = u.size := by rw [← len_eq s, ← len_eq u, h]
  unfold nameOk plainName clean
  rw [h, e1]
theorem good_add (l : List S30) (nx : Int) (s : ByteArray) (h0 : 0 ≤ nx) (h : GoodDir l nx) (hs : nameOk s = true) (hn : idxFrom (isName s) l 0 < 0) : GoodDir (l ++ [⟨s, nx + 1, ⟨1, 1⟩⟩]) (nx + 1) := by
  have hall := idx_neg (isName s) l 0 (by omega) hn
  refine ⟨List.pairwise_append.2 ⟨h.1, List.pairwise_singleton _ _, fun x hx y hy => ?_⟩, List.pairwise_append.2 ⟨h.2.1, List.pairwise_singleton _ _, fun x hx y hy => ?_⟩, fun x hx => ?_⟩
  · rw [List.mem_singleton] at hy
    subst hy
    have := (h.2.2 x hx).2.1
    show x.f1 < nx + 1
    omega
  · rw [List.mem_singleton] at hy
    subst hy
    exact isName_false (hall x hx)
  · rcases List.mem_append.1 hx with hx | hx
    · have := h.2.2 x hx
      exact ⟨this.1, by have := this.2.1; omega, this.2.2⟩
    · rw [List.mem_singleton] at hx
      subst hx
      exact ⟨by show 0 < nx + 1; omega, Int.le_refl _, hs, (by decide : tgt 1 1 = true)⟩
theorem without_sub {α : Type} (l : List α) (n : Nat) : (l.take n ++ l.drop (n + 1)).Sublist l := by
  have h : (l.take n ++ l.drop (n + 1)).Sublist (l.take n ++ l.drop n) := (List.append_sublist_append_left _).2 (by
    rw [← List.drop_drop]
    exact List.drop_sublist 1 _)
  rwa [List.take_append_drop] at h
theorem good_remove (l : List S30) (nx : Int) (n : Nat) (h : GoodDir l nx) : GoodDir (l.take n ++ l.drop (n + 1)) nx :=
  ⟨h.1.sublist (without_sub l n), h.2.1.sublist (without_sub l n), fun x hx => h.2.2 x ((without_sub l n).subset hx)⟩
/-- A folder behind a step. -/
def stepV (l : List S30) (nx : Int) (b : Bool) (s : ByteArray) : List S30 × Int :=
  if b = true then (if nameOk s = true ∧ idxFrom (isName s) l 0 < 0 then (l ++ [⟨s, nx + 1, ⟨1, 1⟩⟩], nx + 1) else (l, nx))
  else (if 0 ≤ idxFrom (isName s) l 0 then (l.take (idxFrom (isName s) l 0).toNat ++ l.drop ((idxFrom (isName s) l 0).toNat + 1), nx) else (l, nx))
theorem step_good (l : List S30) (nx : Int) (w : Bool) (s : ByteArray) (h0 : 0 ≤ nx) (h : GoodDir l nx) : GoodDir (stepV l nx w s).1 (stepV l nx w s).2 := by
  unfold stepV
  split
  · split
    · rename_i hc; exact good_add l nx s h0 h hc.1 hc.2
    · exact h
  · split
    · exact good_remove l nx _ h
    · exact h
theorem step_nx (l : List S30) (nx : Int) (w : Bool) (s : ByteArray) : nx ≤ (stepV l nx w s).2 ∧ (stepV l nx w s).2 ≤ nx + 1 ∧ (stepV l nx w s).1.length ≤ l.length + 1 := by
  unfold stepV
  split
  · split
    · simp; omega
    · simp; omega
  · split
    · simp; omega
    · simp; omega
theorem add_good (l : List S30) (nx : Int) (s : ByteArray) (h0 : 0 ≤ nx ∧ nx < 1099511627776) (h : GoodDir l nx) :
    (nameOk s = true ∧ idxFrom (isName s) l 0 < 0 → addV l nx s 1 1 = (l ++ [⟨s, nx + 1, ⟨1, 1⟩⟩], nx + 1, 0)) ∧ (¬ (nameOk s = true ∧ idxFrom (isName s) l 0 < 0) → (addV l nx s 1 1).2.2 ≠ 0) := by
  have hd := good_ok l nx ⟨h0.1, by omega⟩ h
  unfold addV askE
  rw [if_pos hd]
  constructor
  · rintro ⟨h1, h2⟩
    rw [if_pos ((nameE_zero s).mpr h1), if_pos (by decide), if_neg (by omega), if_neg (by omega)]
  · intro hc
    by_cases h1 : nameOk s = true
    · rw [if_pos ((nameE_zero s).mpr h1), if_pos (by decide), if_pos (Int.not_lt.1 (fun h2 => hc ⟨h1, h2⟩))]
      decide
    · have h2 : ¬ nameE s = 0 := fun e => h1 ((nameE_zero s).mp e)
      rw [if_neg h2]
      exact h2
theorem remove_good (l : List S30) (nx : Int) (s : ByteArray) (h0 : 0 ≤ nx ∧ nx < 1099511627776) (h : GoodDir l nx) :
    (0 ≤ idxFrom (isName s) l 0 → removeV l nx s = (l.take (idxFrom (isName s) l 0).toNat ++ l.drop ((idxFrom (isName s) l 0).toNat + 1), nx, 0)) ∧ (¬ 0 ≤ idxFrom (isName s) l 0 → (removeV l nx s).2.2 ≠ 0) := by
  have hd := good_ok l nx ⟨h0.1, by omega⟩ h
  unfold removeV askE
  rw [if_pos hd]
  constructor
  · intro h1
    obtain ⟨x, hx, hp⟩ := idx_pos (isName s) l 0 (by omega) h1
    have hn : nameOk s = true := by rw [← nameOk_l (isName_true hp)]; exact (h.2.2 x hx).2.2.1
    rw [if_pos ((nameE_zero s).mpr hn), if_neg (by omega)]
  · intro h1
    by_cases h2 : nameE s = 0
    · rw [if_pos h2, if_pos (by omega)]; decide
    · rw [if_neg h2]; exact h2
theorem find_own (l : List S30) (nx : Int) (h0 : 0 ≤ nx ∧ nx ≤ 1099511627776) (h : GoodDir l nx) (i : Nat) (hi : i < l.length) (s : ByteArray) (hs : l[i].f0.toList = s.toList) :
    findV l nx s = (l[i].f0, l[i].f1, l[i].f2.f0, l[i].f2.f1, 0) := by
  have hd := good_ok l nx h0 h
  have ho := idx_own l i hi h.2.1 s hs
  have hn : nameOk s = true := by rw [← nameOk_l hs]; exact (h.2.2 _ (List.getElem_mem hi)).2.2.1
  unfold findV askE
  rw [if_pos hd, if_pos ((nameE_zero s).mpr hn), ho, if_neg (by omega), rd_at l i hi]
end Go.Proofs.Ytjjjbpgncmfpgaa.FA
