import Derived.Test.YtjjjbpgncmfpgaaRdFolderWhole
import Derived.Test.YtjjjbpgncmfpgaaFolderWhole
import Derived.Test.YtjjjbpgncmfpgaaFAsextonlaw10FolderWhole
namespace Go.Proofs.Ytjjjbpgncmfpgaa.folderWhole
set_option linter.unusedVariables false
set_option linter.unusedSimpArgs false
open Go.RowKit Go.Proofs.Ytjjjbpgncmfpgaa.FA Go.Proofs.YtjjjbpgncmfpgaaW.PrintWords Go.Proofs.Ytjjjbpgncmfpgaa.Rd Go.Proofs.Ytjjjbpgncmfpgaa.B
theorem whole_l0 (l : List S30) (nx m : Int) (hl : l.length ≤ 400) (hd : dirOk l nx = true) (hm : 1 ≤ m ∧ m ≤ 64) (q : Nat) : ∀ (i n k : Nat), i ≤ l.length + 1 → l.length + 1 - i = q → n ≤ l.length → (n = l.length ∨ i ≤ n) → 2 * q + 4100 < k →
    sextonlaw10_FolderWhole.l0 k m (l.take n) (cookieAt l n) (i : Int) l nx = some true := by
  induction q with
  | zero =>
    intro i n k hi hq hn hor hk
    obtain ⟨k, rfl⟩ : ∃ k', k = k' + 1 := ⟨k - 1, by omega⟩
    have hnl : n = l.length := by omega
    rw [sextonlaw10_FolderWhole.l0, if_neg (by omega), hnl, List.take_length, entries_same l (by omega) k (by omega), two_is k (by omega)]
    rfl
  | succ q ih =>
    intro i n k hi hq hn hor hk
    obtain ⟨k, rfl⟩ : ∃ k', k = k' + 2 := ⟨k - 2, by omega⟩
    have hw : wrap64 ((i : Int) + 1) = ((i + 1 : Nat) : Int) := by rw [wrap64_in (by omega) (by omega)]; omega
    rw [sextonlaw10_FolderWhole.l0, if_pos (by omega), page_is l nx _ m (by omega) hd (k + 1) (by omega), page_at l nx m hd hm n hn]
    simp only [Option.bind_some]
    rw [if_pos trivial]
    have hlen : ((l.drop n).take m.toNat).length = min m.toNat (l.length - n) := by rw [List.length_take, List.length_drop]
    have hcat : l.take n ++ (l.drop n).take m.toNat = l.take (n + min m.toNat (l.length - n)) := by
      rw [List.take_add]
      congr 1
      by_cases h : m.toNat ≤ l.length - n
      · rw [Nat.min_eq_left h]
      · rw [Nat.min_eq_right (by omega), List.take_of_length_le (by rw [List.length_drop]; omega), List.take_of_length_le (by rw [List.length_drop]; omega)]
    have hgt : decide ((((l.drop n).take m.toNat).length : Int) > m) = false := decide_eq_false (by rw [hlen]; omega)
    rw [hgt, sextonlaw10_FolderWhole.j2, if_neg (by decide), if_pos (by rw [hlen, List.length_take]; omega)]
    simp only [Option.bind_some]
    rw [hcat, hw]
    by_cases hz : n = l.length
    · rw [if_neg (by rw [hlen]; omega)]
      have e : min m.toNat (l.length - n) = 0 := by omega
      rw [e, Nat.add_zero]
      exact ih (i + 1) n k (by omega) (by omega) hn (by omega) (by omega)
    · have hp : 0 < min m.toNat (l.length - n) := by omega
      obtain ⟨p, hpp⟩ : ∃ p, min m.toNat (l.length - n) = p + 1 := ⟨min m.toNat (l.length - n) - 1, by omega⟩
      have hw2 : wrap64 ((((l.drop n).take m.toNat).length : Int) - 1) = (p : Int) := by rw [hlen, hpp, wrap64_in (by omega) (by omega)]; omega
      rw [if_pos (by rw [hlen]; omega), hw2, if_pos (by omega), if_pos (by rw [hlen]; omega)]
      have hr : (rd_T30 ((l.drop n).take m.toNat) (p : Int)).f1 = cookieAt l (n + (p + 1)) := by
        rw [rd_at _ p (by rw [hlen]; omega), show n + (p + 1) = (n + p) + 1 by omega, cookie_succ l (n + p) (by omega)]
        simp
      rw [hr, hpp]
      exact ih (i + 1) (n + (p + 1)) k (by omega) (by omega) (by omega) (by omega) (by omega)
theorem pure_FolderWhole : ∀ (a0 : S24) (o0 : r24.ok a0) (a1 : Int) (o1 : r3.ok a1) (w0 : r24.wt a0) (w1 : r3.wt a1), ∃ k, sextonlaw10_FolderWhole.f k a0.f0 a0.f1 a1 = some true := by
  intro a0 o0 m o1 w0 w1
  refine ⟨6000, ?_⟩
  generalize a0.f0 = l
  generalize a0.f1 = nx
  have htwo : ∀ b, sextonlaw10_FolderWhole.j0 6000 m true l b = some true := by
    intro b
    rw [sextonlaw10_FolderWhole.j0, if_pos rfl, two_is 5999 (by omega)]
    rfl
  unfold sextonlaw10_FolderWhole.f sextonlaw10_large.f
  simp only [Option.bind_some]
  by_cases h : (l.length : Int) > 400
  · rw [decide_eq_true h, if_pos rfl, htwo]
  · rw [decide_eq_false h, if_neg (by decide), check_is l nx (by omega) 6000 (by omega)]
    simp only [Option.bind_some]
    by_cases hd : dirOk l nx = true
    · rw [if_pos hd, if_pos rfl]
      by_cases h1 : m < 1
      · rw [if_pos h1, htwo]
      · rw [if_neg h1]
        by_cases h2 : m > 64
        · rw [decide_eq_true h2, htwo]
        · rw [decide_eq_false h2, sextonlaw10_FolderWhole.j0, if_neg (by decide)]
          exact whole_l0 l nx m (by omega) hd (by omega) (l.length + 1) 0 0 5999 (by omega) (by omega) (by omega) (by omega) (by omega)
    · rw [if_neg hd, if_neg (by decide), htwo]
end Go.Proofs.Ytjjjbpgncmfpgaa.folderWhole
