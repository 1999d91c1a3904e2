/- Find, Add, Remove in plain words, and the fixed case `two`. -/
import Derived.Test.YtjjjbpgncmfpgaaFolderCheck
import Derived.Test.YtjjjbpgncmfpgaaFAfolderFind
import Derived.Test.YtjjjbpgncmfpgaaFAfolderAdd
import Derived.Test.YtjjjbpgncmfpgaaFAsextonref10Find
import Derived.Test.YtjjjbpgncmfpgaaHFolderRemove
import Derived.Test.YtjjjbpgncmfpgaaHFolderPage
import Derived.Test.YtjjjbpgncmfpgaaHFolderTwo
namespace Go.Proofs.Ytjjjbpgncmfpgaa.FA
open Go.RowKit Go.Proofs.YtjjjbpgncmfpgaaW.PrintWords Go.Proofs.Ytjjjbpgncmfpgaa.B Go.Proofs.Ytjjjbpgncmfpgaa.Runes
set_option linter.unusedVariables false
set_option linter.unusedSimpArgs false
def askE (l : List S30) (nx : Int) (s : ByteArray) : Int := if dirOk l nx = true then nameE s else 4
theorem asked_is (l : List S30) (nx : Int) (s : ByteArray) (hl : l.length ≤ 1000) (k : Nat) (hk : 4000 ≤ k) : folder_asked.f k l nx s = some (askE l nx s) := by
  unfold folder_asked.f askE
  rw [check_is l nx hl k (by omega), name_is]
  by_cases h : dirOk l nx = true <;> simp [h]
theorem ref_asked_is (l : List S30) (nx : Int) (s : ByteArray) (hl : l.length ≤ 1000) (k : Nat) (hk : 4000 ≤ k) : sextonref10_asked.f k l nx s = some (askE l nx s) := by
  unfold sextonref10_asked.f askE
  rw [right_is l nx hl k (by omega), ref_name_is s k (by omega)]
  by_cases h : dirOk l nx = true <;> simp [h]
def findV (l : List S30) (nx : Int) (s : ByteArray) : ByteArray × Int × Int × Int × Int :=
  if askE l nx s = 0 then (if idxFrom (isName s) l 0 < 0 then ((⟨#[]⟩ : ByteArray), 0, 0, 0, 402) else
    ((rd_T30 l (idxFrom (isName s) l 0)).f0, (rd_T30 l (idxFrom (isName s) l 0)).f1, (rd_T30 l (idxFrom (isName s) l 0)).f2.f0, (rd_T30 l (idxFrom (isName s) l 0)).f2.f1, 0))
  else ((⟨#[]⟩ : ByteArray), 0, 0, 0, askE l nx s)
theorem idx_lt (l : List S30) (p : S30 → Bool) (h : ¬ idxFrom p l 0 < 0) : 0 ≤ idxFrom p l 0 ∧ idxFrom p l 0 < (l.length : Int) := by
  have := idxFrom_range p l 0 (by omega)
  omega
theorem find_is (l : List S30) (nx : Int) (s : ByteArray) (hl : l.length ≤ 1000) (k : Nat) (hk : 4000 ≤ k) : folder_Find.f k l nx s = some (findV l nx s) := by
  unfold folder_Find.f findV
  rw [asked_is l nx s hl k hk, place_is l nx s hl]
  simp only [Option.bind_some]
  by_cases h : askE l nx s = 0
  · rw [if_pos h, if_pos h]
    by_cases hp : idxFrom (isName s) l 0 < 0
    · rw [if_pos hp, if_pos hp]
    · have := idx_lt l _ hp
      rw [if_neg hp, if_neg hp, if_pos this.1, if_pos this.2]
  · rw [if_neg h, if_neg h]
theorem ref_find_is (l : List S30) (nx : Int) (s : ByteArray) (hl : l.length ≤ 1000) (k : Nat) (hk : 4000 ≤ k) : sextonref10_Find.f k l nx s = some (findV l nx s) := by
  unfold sextonref10_Find.f findV
  rw [ref_asked_is l nx s hl k hk, ref_place_is l s hl k (by omega)]
  simp only [Option.bind_some]
  by_cases h : askE l nx s = 0
  · rw [if_pos h, if_pos h]
    by_cases hp : idxFrom (isName s) l 0 < 0
    · rw [if_pos hp, if_pos hp]
    · have := idx_lt l _ hp
      rw [if_neg hp, if_neg hp, if_pos this.1, if_pos this.2]
  · rw [if_neg h, if_neg h]
/-- Add in plain words. -/
def addV (l : List S30) (nx : Int) (s : ByteArray) (a b : Int) : List S30 × Int × Int :=
  if askE l nx s = 0 then (if tgt a b = true then (if 0 ≤ idxFrom (isName s) l 0 then ([], 0, 403) else (if nx = 1099511627776 then ([], 0, 407) else (l ++ [⟨s, nx + 1, ⟨a, b⟩⟩], nx + 1, 0))) else ([], 0, 1)) else ([], 0, askE l nx s)
theorem ask_nx (l : List S30) (nx : Int) (s : ByteArray) (h : askE l nx s = 0) : 0 ≤ nx ∧ nx ≤ 1099511627776 ∧ dirOk l nx = true ∧ nameOk s = true := by
  unfold askE at h
  by_cases hd : dirOk l nx = true
  · rw [if_pos hd] at h
    have h2 := hd
    unfold dirOk at h2
    simp only [Bool.and_eq_true, decide_eq_true_eq] at h2
    exact ⟨h2.1, h2.2.1, hd, (nameE_zero s).mp h⟩
  · rw [if_neg hd] at h; exact absurd h (by decide)
theorem add_is (l : List S30) (nx : Int) (s : ByteArray) (a b : Int) (hl : l.length ≤ 1000) (k : Nat) (hk : 4000 ≤ k) : folder_Add.f k l nx s a b = some (addV l nx s a b) := by
  unfold folder_Add.f addV
  rw [asked_is l nx s hl k hk, place_is l nx s hl, target_is, api_Entry_33.f, if_pos (show l.length < 3518437208883 by omega)]
  simp only [Option.bind_some]
  by_cases h : askE l nx s = 0
  · rw [if_pos h, if_pos h]
    have hn := ask_nx l nx s h
    by_cases ht : tgt a b = true
    · rw [if_pos ht, if_pos ht]
      by_cases hp : idxFrom (isName s) l 0 ≥ 0
      · rw [if_pos hp, if_pos hp]
      · rw [if_neg hp, if_neg (show ¬ 0 ≤ idxFrom (isName s) l 0 from hp)]
        by_cases hm : nx = 1099511627776
        · rw [if_pos hm, if_pos hm]
        · rw [if_neg hm, if_neg hm, if_pos (by simp; omega), wrap64_in (by omega) (by omega)]
    · rw [if_neg ht, if_neg ht]
  · rw [if_neg h, if_neg h]
/-- Remove in plain words. -/
def removeV (l : List S30) (nx : Int) (s : ByteArray) : List S30 × Int × Int :=
  if askE l nx s = 0 then (if idxFrom (isName s) l 0 < 0 then ([], 0, 402) else (l.take (idxFrom (isName s) l 0).toNat ++ l.drop ((idxFrom (isName s) l 0).toNat + 1), nx, 0)) else ([], 0, askE l nx s)
theorem remove_is (l : List S30) (nx : Int) (s : ByteArray) (hl : l.length ≤ 1000) (k : Nat) (hk : 4000 ≤ k) : folder_Remove.f k l nx s = some (removeV l nx s) := by
  unfold folder_Remove.f removeV
  rw [asked_is l nx s hl k hk, place_is l nx s hl, api_Entry_33.f, if_pos (show l.length < 3518437208883 by omega)]
  simp only [Option.bind_some]
  by_cases h : askE l nx s = 0
  · rw [if_pos h, if_pos h]
    by_cases hp : idxFrom (isName s) l 0 < 0
    · rw [if_pos hp, if_pos hp]
    · have hi := idx_lt l _ hp
      rw [if_neg hp, if_neg hp, wrap64_in (by omega) (by omega), api_Entry_34.f, if_pos ⟨hi.1, hi.2, rfl, by omega⟩]
      rw [show (idxFrom (isName s) l 0 + 1).toNat = (idxFrom (isName s) l 0).toNat + 1 by omega]
      rfl
  · rw [if_neg h, if_neg h]
def sA : ByteArray := ⟨#[97]⟩
def sB : ByteArray := ⟨#[98]⟩
theorem sA_l : sA.toList = [97] := mk_toList [97]
theorem sB_l : sB.toList = [98] := mk_toList [98]
theorem sA_ok : nameOk sA = true := by
  unfold nameOk plainName clean
  rw [sA_l]
  decide
theorem sB_ok : nameOk sB = true := by
  unfold nameOk plainName clean
  rw [sB_l]
  decide
theorem is_AA (x : Int) (y) : isName sA (⟨sA, x, y⟩ : S30) = true := by unfold isName; exact beq_iff_eq.mpr rfl
theorem is_BB (x : Int) (y) : isName sB (⟨sB, x, y⟩ : S30) = true := by unfold isName; exact beq_iff_eq.mpr rfl
theorem is_BA (x : Int) (y) : isName sB (⟨sA, x, y⟩ : S30) = false := by unfold isName; rw [sB_l, show (⟨sA, x, y⟩ : S30).f0 = sA from rfl, sA_l]; decide
theorem is_AB (x : Int) (y) : isName sA (⟨sB, x, y⟩ : S30) = false := by unfold isName; rw [sA_l, show (⟨sB, x, y⟩ : S30).f0 = sB from rfl, sB_l]; decide
def eA : S30 := ⟨sA, 1, ⟨1, 1⟩⟩
def eB : S30 := ⟨sB, 2, ⟨1, 1⟩⟩
theorem dir0 : dirOk [] 0 = true := by decide
theorem dir1 : dirOk [eA] 1 = true := by
  simp [dirOk, okFrom, okOne, eA, sA_ok, idxFrom, is_AA, tgt]
theorem dir2 : dirOk [eA, eB] 2 = true := by
  simp [dirOk, okFrom, okOne, eA, eB, sA_ok, sB_ok, idxFrom, is_AA, is_BA, is_BB, tgt]
theorem dir3 : dirOk [eB] 2 = true := by
  simp [dirOk, okFrom, okOne, eB, sB_ok, idxFrom, is_BB, tgt]
theorem ask_ok {l nx s} (h : dirOk l nx = true) (hs : nameOk s = true) : askE l nx s = 0 := by rw [askE, if_pos h]; exact (nameE_zero s).mpr hs
theorem two_is (k : Nat) (hk : 4000 ≤ k) : sextonlaw10_two.f k = some true := by
  unfold sextonlaw10_two.f
  have h1 : addV [] 0 sA 1 1 = ([eA], 1, 0) := by
    rw [addV, if_pos (ask_ok dir0 sA_ok), if_pos (by decide), if_neg (by simp [idxFrom]), if_neg (by decide)]; rfl
  have h2 : addV [eA] 1 sB 1 1 = ([eA, eB], 2, 0) := by
    rw [addV, if_pos (ask_ok dir1 sB_ok), if_pos (by decide), if_neg (by simp [idxFrom, eA, is_BA]), if_neg (by decide)]; rfl
  have h3 : removeV [eA, eB] 2 sA = ([eB], 2, 0) := by
    have hi : idxFrom (isName sA) [eA, eB] 0 = 0 := by simp [idxFrom, eA, is_AA]
    rw [removeV, if_pos (ask_ok dir2 sA_ok), hi, if_neg (by decide)]; rfl
  have h4 : findV [eB] 2 sB = (sB, 2, 1, 1, 0) := by
    have hi : idxFrom (isName sB) [eB] 0 = 0 := by simp [idxFrom, eB, is_BB]
    rw [findV, if_pos (ask_ok dir3 sB_ok), hi, if_neg (by decide)]; rfl
  have h5 : findV [eB] 2 sA = ((⟨#[]⟩ : ByteArray), 0, 0, 0, 402) := by
    have hi : idxFrom (isName sA) [eB] 0 = -1 := by simp [idxFrom, eB, is_AB]
    rw [findV, if_pos (ask_ok dir3 sA_ok), hi, if_pos (by decide)]
  rw [show (⟨#[97]⟩ : ByteArray) = sA from rfl, show (⟨#[98]⟩ : ByteArray) = sB from rfl]
  rw [add_is [] 0 sA 1 1 (by decide) k hk, h1]
  simp only [Option.bind_some]
  rw [add_is [eA] 1 sB 1 1 (by decide) k hk, h2]
  simp only [Option.bind_some]
  rw [remove_is [eA, eB] 2 sA (by decide) k hk, h3]
  simp only [Option.bind_some]
  rw [find_is [eB] 2 sB (by decide) k hk, h4]
  simp only [Option.bind_some]
  rw [find_is [eB] 2 sA (by decide) k hk, h5]
  rfl
end Go.Proofs.Ytjjjbpgncmfpgaa.FA
