/- What was added to a folder is found until it is removed, and cookies are never given twice: for every row of steps. -/
import Derived.Test.YtjjjbpgncmfpgaaRdFolderHas
import Derived.Test.YtjjjbpgncmfpgaaFolderKeeps
import Derived.Test.YtjjjbpgncmfpgaaFAsextonlaw10FolderHas
namespace Go.Proofs.Ytjjjbpgncmfpgaa.folderHas
set_option linter.unusedVariables false
set_option linter.unusedSimpArgs false
open Go.RowKit Go.Proofs.Ytjjjbpgncmfpgaa.FA Go.Proofs.YtjjjbpgncmfpgaaW.PrintWords Go.Proofs.Ytjjjbpgncmfpgaa.Rd Go.Proofs.Ytjjjbpgncmfpgaa.B
def adds (w : Int) : Bool := if w = 0 then true else (w == 1)
theorem do_is (t : List S30) (nx w : Int) (s : ByteArray) (hl : t.length ≤ 1000) (h0 : 0 ≤ nx ∧ nx < 1099511627776) (h : GoodDir t nx) (k : Nat) (hk : 4001 ≤ k) : sextonlaw10_do.f k t nx w s = some (stepV t nx (adds w) s) := by
  have hj : ∀ b : Bool, sextonlaw10_do.j0 k b t nx w s = some (stepV t nx b s) := by
    intro b
    obtain ⟨k, rfl⟩ : ∃ k', k = k' + 1 := ⟨k - 1, by omega⟩
    unfold stepV
    rw [sextonlaw10_do.j0]
    by_cases hb : b = true
    · rw [if_pos hb, if_pos hb, add_is t nx s 1 1 hl k (by omega), Option.bind_some]
      have ha := add_good t nx s h0 h
      by_cases hc : nameOk s = true ∧ idxFrom (isName s) t 0 < 0
      · rw [if_pos hc, ha.1 hc]; rfl
      · rw [if_neg hc, if_neg (ha.2 hc)]
    · rw [if_neg hb, if_neg hb, remove_is t nx s hl k (by omega), Option.bind_some]
      have ha := remove_good t nx s h0 h
      by_cases hc : 0 ≤ idxFrom (isName s) t 0
      · rw [if_pos hc, ha.1 hc]; rfl
      · rw [if_neg hc, if_neg (ha.2 hc)]
  unfold sextonlaw10_do.f adds
  by_cases hw : w = 0
  · rw [if_pos hw, if_pos hw, hj]
  · rw [if_neg hw, if_neg hw, hj]
def lastAt (s : ByteArray) : List ByteArray → Int → Int → Int
  | [], a, _ => a
  | x :: t, a, j => lastAt s t (if x.toList = s.toList then j else a) (j + 1)
theorem lastAt_is (s : ByteArray) : ∀ (t : List S30) (x4 : List ByteArray) (a j : Int), 0 ≤ j → t.map (fun y => y.f0.toList) = x4.map (fun y => y.toList) → t.Pairwise (fun x y => x.f0.toList ≠ y.f0.toList) →
    lastAt s x4 a j = if idxFrom (isName s) t j < 0 then a else idxFrom (isName s) t j
  | [], [], a, j, _, _, _ => by rw [lastAt, idxFrom, if_pos (by decide)]
  | [], x :: x4, a, j, _, h, _ => by simp at h
  | y :: t, [], a, j, _, h, _ => by simp at h
  | y :: t, x :: x4, a, j, hj, h, hp => by
    simp only [List.map_cons, List.cons.injEq] at h
    rw [List.pairwise_cons] at hp
    have ih := fun a' => lastAt_is s t x4 a' (j + 1) (by omega) h.2 hp.2
    rw [lastAt, idxFrom, ih]
    by_cases hs : y.f0.toList = s.toList
    · have hn : idxFrom (isName s) t (j + 1) = -1 := idx_none _ t _ (fun z hz => by
        unfold isName
        rw [beq_eq_false_iff_ne, ← hs]
        exact fun e => hp.1 z hz e.symm)
      rw [hn, if_pos (by decide), if_pos (by rw [← h.1]; exact hs), if_pos (show isName s y = true by unfold isName; exact beq_iff_eq.2 hs), if_neg (by omega)]
    · rw [if_neg (show ¬ x.toList = s.toList by rw [← h.1]; exact hs), if_neg (show ¬ isName s y = true by unfold isName; rw [beq_iff_eq]; exact hs)]
theorem has_l1 (l : List S55) (t : List S30) (nx w x5 N i : Int) (s : ByteArray) (x4 : List ByteArray) (hl : x4.length ≤ 1000) (n : Nat) : ∀ (j k : Nat) (a : Int), j ≤ x4.length → x4.length - j = n →
    sextonlaw10_FolderHas.l1 (k + n + 1) x4 x5 a l N i x4 (x4.length : Int) (j : Int) t nx w s = sextonlaw10_FolderHas.j2 k x4 x5 (lastAt s (x4.drop j) a (j : Int)) (adds w) l N i t nx w s := by
  induction n with
  | zero =>
    intro j k a hj hn
    have : j = x4.length := by omega
    subst this
    rw [sextonlaw10_FolderHas.l1, if_neg (by omega), List.drop_length, lastAt]
    unfold adds
    by_cases hw : w = 0
    · rw [if_pos hw, if_pos hw]
    · rw [if_neg hw, if_neg hw]
  | succ n ih =>
    intro j k a hj hn
    have hl' : j < x4.length := by omega
    have hw : wrap64 ((j : Int) + 1) = ((j + 1 : Nat) : Int) := by rw [wrap64_in (by omega) (by omega)]; omega
    have hx : rdOf ByteArray.empty x4 (j : Int) = x4[j] := by simp [rdOf, List.getD, hl']
    rw [sextonlaw10_FolderHas.l1, if_pos (by omega), if_pos (by omega), if_pos (by omega), hx, hw, List.drop_eq_getElem_cons hl', lastAt, show k + (n + 1) = k + n + 1 from rfl]
    by_cases h1 : x4[j].toList = s.toList
    · rw [if_pos h1, if_pos h1, ih (j + 1) k _ (by omega) (by omega), show ((j : Int) + 1) = ((j + 1 : Nat) : Int) by omega]
    · rw [if_neg h1, if_neg h1, ih (j + 1) k _ (by omega) (by omega), show ((j : Int) + 1) = ((j + 1 : Nat) : Int) by omega]
theorem has_l2 (l : List S55) (t : List S30) (nx x5 N i : Int) (x4 : List ByteArray) (hl : t.length ≤ 1000) (h0 : 0 ≤ nx ∧ nx ≤ 1099511627776) (hg : GoodDir t nx) (hm : t.map (fun y => y.f0.toList) = x4.map (fun y => y.toList)) (n : Nat) : ∀ (j k : Nat), j ≤ x4.length → x4.length - j = n → 4000 ≤ k →
    sextonlaw10_FolderHas.l2 (k + n + 1) x4 x5 l N i x4 (x4.length : Int) (j : Int) t nx = sextonlaw10_FolderHas.l0 k x4 x5 l N (wrap64 (i + 1)) t nx := by
  have hlen : t.length = x4.length := by have := congrArg List.length hm; simpa using this
  induction n with
  | zero =>
    intro j k hj hn hk
    have : j = x4.length := by omega
    subst this
    rw [sextonlaw10_FolderHas.l2, if_neg (by omega)]
  | succ n ih =>
    intro j k hj hn hk
    have hl' : j < x4.length := by omega
    have hl'' : j < t.length := by omega
    have hw : wrap64 ((j : Int) + 1) = ((j + 1 : Nat) : Int) := by rw [wrap64_in (by omega) (by omega)]; omega
    have hx : rdOf ByteArray.empty x4 (j : Int) = x4[j] := by simp [rdOf, List.getD, hl']
    have hs : t[j].f0.toList = x4[j].toList := by
      have := congrArg (fun z => z[j]?) hm
      simpa [hl', hl''] using this
    rw [sextonlaw10_FolderHas.l2, if_pos (by omega), if_pos (by omega), if_pos (by omega), hx, hw, find_is t nx _ hl _ (by omega), Option.bind_some, find_own t nx h0 hg j hl'' _ hs, rd_at t j hl'', if_pos rfl, if_pos (by omega), if_neg (by simp), show k + (n + 1) = k + n + 1 from rfl, ih (j + 1) k (by omega) (by omega) hk]
theorem has_l0 (l : List S55) (hl : l.length ≤ 200) (q : Nat) : ∀ (i k : Nat) (x4 : List ByteArray) (t : List S30) (nx : Int), i ≤ l.length → l.length - i = q → GoodDir t nx → 0 ≤ nx → nx ≤ (i : Int) → t.length ≤ i → t.map (fun y => y.f0.toList) = x4.map (fun y => y.toList) → 500 * q + 5000 < k →
    sextonlaw10_FolderHas.l0 k x4 nx l (l.length : Int) (i : Int) t nx = some true := by
  induction q with
  | zero =>
    intro i k x4 t nx hi hq hg h0 h1 ht hm hk
    obtain ⟨k, rfl⟩ : ∃ k', k = k' + 1 := ⟨k - 1, by omega⟩
    rw [sextonlaw10_FolderHas.l0, if_neg (by omega), two_is k (by omega)]
    rfl
  | succ q ih =>
    intro i k x4 t nx hi hq hg h0 h1 ht hm hk
    have hlen : t.length = x4.length := by have := congrArg List.length hm; simpa using this
    have hl' : i < l.length := by omega
    have hx : rd_T55 l (i : Int) = l[i] := by simp [rd_T55, List.getD, hl']
    have hw : wrap64 ((i : Int) + 1) = ((i + 1 : Nat) : Int) := by rw [wrap64_in (by omega) (by omega)]; omega
    have fin : ∀ (x4' : List ByteArray) (t' : List S30) (nx' : Int), GoodDir t' nx' → 0 ≤ nx' → nx' ≤ (i : Int) + 1 → t'.length ≤ i + 1 → t'.map (fun y => y.f0.toList) = x4'.map (fun y => y.toList) → ∀ k, 500 * q + 5230 < k →
        sextonlaw10_FolderHas.j6 k x4' nx' l (l.length : Int) (i : Int) t' nx' = some true := by
      intro x4' t' nx' hg' h0' h1' ht' hm' k hk
      have hlen' : t'.length = x4'.length := by have := congrArg List.length hm'; simpa using this
      obtain ⟨k, rfl⟩ : ∃ k', k = k' + x4'.length + 1 + 2 := ⟨k - (x4'.length + 3), by omega⟩
      rw [sextonlaw10_FolderHas.j6, if_pos (by omega), sextonlaw10_FolderHas.j7, if_neg (by simp), show (0 : Int) = ((0 : Nat) : Int) from rfl, has_l2 l t' nx' nx' _ _ x4' (by omega) ⟨h0', by omega⟩ hg' hm' x4'.length 0 k (by omega) (by omega) (by omega), hw]
      exact ih (i + 1) k x4' t' nx' (by omega) (by omega) hg' h0' (by omega) ht' hm' (by omega)
    obtain ⟨k, rfl⟩ : ∃ k', k = k' + 6 + x4.length + 1 + 1 := ⟨k - (x4.length + 8), by omega⟩
    have hd := do_is t nx l[i].f0 l[i].f1 (by omega) ⟨h0, by omega⟩ hg (k + 6 + x4.length + 1) (by omega)
    rw [sextonlaw10_FolderHas.l0, if_pos (by omega), if_pos (by omega), if_pos (by omega), hx, hd, Option.bind_some]
    generalize l[i].f0 = w
    generalize l[i].f1 = s
    rw [show (0 : Int) = ((0 : Nat) : Int) from rfl, has_l1 l _ _ w nx _ _ s x4 (by omega) x4.length 0 (k + 6) (-1) (by omega) (by omega), List.drop_zero, lastAt_is s t x4 (-1) ((0 : Nat) : Int) (by omega) hm hg.2.1, show ((0 : Nat) : Int) = 0 from rfl]
    have hgs := step_good t nx (adds w) s h0 hg
    have hns := step_nx t nx (adds w) s
    have hnw : wrap64 (nx + 1) = nx + 1 := wrap64_in (by omega) (by omega)
    rw [sextonlaw10_FolderHas.j2]
    have stay : ∀ k, 500 * q + 5230 < k → sextonlaw10_FolderHas.j6 k x4 nx l (l.length : Int) (i : Int) t nx = some true := fun k hk => fin x4 t nx hg h0 (by omega) (by omega) hm k hk
    unfold stepV at hgs hns ⊢
    by_cases hb : adds w = true
    · simp only [hb, if_true] at hgs hns ⊢
      by_cases hi : idxFrom (isName s) t 0 < 0
      · simp only [hi, if_true, and_true] at hgs hns ⊢
        rw [if_pos (by decide), ref_name_is s _ (by omega), Option.bind_some, sextonlaw10_FolderHas.j3]
        by_cases hn : nameOk s = true
        · have hne := (nameE_zero s).mpr hn
          rw [if_pos hn] at hgs hns ⊢
          rw [hne, if_pos (by decide), if_pos (by omega), sextonlaw10_FolderHas.j4, if_pos rfl, sextonlaw10_FolderHas.j5, if_neg (by decide), hnw]
          exact fin _ _ _ hgs (by omega) (by omega) (by simp; omega) (by simp [hm]) _ (by omega)
        · have hne : ¬ nameE s = 0 := fun e => hn ((nameE_zero s).mp e)
          rw [if_neg hn]
          rw [if_neg (by rw [beq_iff_eq]; exact hne), sextonlaw10_FolderHas.j4, if_pos rfl, sextonlaw10_FolderHas.j5, if_neg (by decide)]
          exact stay _ (by omega)
      · simp only [hi, if_false, and_false] at hgs hns ⊢
        rw [sextonlaw10_FolderHas.j3, if_neg (by decide), sextonlaw10_FolderHas.j4, if_pos rfl, sextonlaw10_FolderHas.j5, if_neg (by decide)]
        exact stay _ (by omega)
    · have hb' : adds w = false := by simpa using hb
      simp only [hb', Bool.false_eq_true, if_false] at hgs hns ⊢
      rw [sextonlaw10_FolderHas.j3, if_neg (by decide), sextonlaw10_FolderHas.j4, if_neg (by decide), sextonlaw10_FolderHas.j5]
      by_cases hi : idxFrom (isName s) t 0 < 0
      · rw [if_pos hi, if_neg (by decide), if_neg (by omega)]
        exact stay _ (by omega)
      · have hr := idx_lt t _ hi
        have hw2 : wrap64 (idxFrom (isName s) t 0 + 1) = idxFrom (isName s) t 0 + 1 := wrap64_in (by omega) (by omega)
        rw [if_pos (show 0 ≤ idxFrom (isName s) t 0 by omega)] at hgs hns ⊢
        rw [if_neg hi, if_pos (decide_eq_true (by omega)), if_pos (by omega), if_pos (by omega), Option.bind_some, if_pos (by simp; omega), Option.bind_some, hw2, if_pos (by omega), if_pos (by omega), Option.bind_some, if_pos (by simp; omega)]
        rw [show (idxFrom (isName s) t 0 + 1).toNat = (idxFrom (isName s) t 0).toNat + 1 by omega, List.nil_append]
        exact fin _ _ _ hgs h0 (by omega) (by simp; omega) (by simp [List.map_append, List.map_take, List.map_drop, hm]) _ (by omega)
theorem pure_FolderHas : ∀ (a0 : (List S55)) (o0 : r52.ok a0) (w0 : r52.wt a0), ∃ k, sextonlaw10_FolderHas.f k a0 = some true := by
  intro l o0 w0
  refine ⟨500 * l.length + 9000, ?_⟩
  unfold sextonlaw10_FolderHas.f
  by_cases h : (l.length : Int) > 200
  · rw [if_pos h, two_is _ (by omega)]; rfl
  · rw [if_neg h]
    exact has_l0 l (by omega) l.length 0 _ [] [] 0 (by omega) (by omega) good_nil (by omega) (by omega) (by simp) rfl (by omega)
end Go.Proofs.Ytjjjbpgncmfpgaa.folderHas
