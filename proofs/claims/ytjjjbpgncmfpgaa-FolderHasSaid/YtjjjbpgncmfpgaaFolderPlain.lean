/- Joined by merge.py out of: FolderFns, FolderCheck, FolderOps, FolderWhole, FolderLaws. -/
import Derived.Test.YtjjjbpgncmfpgaaHFolderName
import Derived.Test.YtjjjbpgncmfpgaaHFolderBase
import Derived.Test.YtjjjbpgncmfpgaaFAfolderCheck
import Derived.Test.YtjjjbpgncmfpgaaFARef10a
import Derived.Test.YtjjjbpgncmfpgaaFAfolderasked
import Derived.Test.YtjjjbpgncmfpgaaFAfolderFind
import Derived.Test.YtjjjbpgncmfpgaaFAfolderAdd
import Derived.Test.YtjjjbpgncmfpgaaHFolderRemove
import Derived.Test.YtjjjbpgncmfpgaaHFolderTwo
import Derived.Test.YtjjjbpgncmfpgaaHFolderPage
section
/- What the plain functions of folder and of its reference compute. -/
namespace Go.Proofs.Ytjjjbpgncmfpgaa.FA
open Go.RowKit Go.Proofs.YtjjjbpgncmfpgaaW.PrintWords Go.Proofs.Ytjjjbpgncmfpgaa.B Go.Proofs.Ytjjjbpgncmfpgaa.Runes
set_option linter.unusedVariables false
set_option linter.unusedSimpArgs false
def nameOk (s : ByteArray) : Bool := plainName s && clean s s.size
def nameE (s : ByteArray) : Int := if nameOk s = true then 0 else 409
theorem name_is (s : ByteArray) : folder_Name.f s = some (nameE s) := rfl
theorem bt_is (s : ByteArray) (i : Nat) (h : i < s.toList.length) : bt s (i : Int) = (s.toList[i].toNat : Int) := bt_get s i h
theorem ref_name_l0 (s : ByteArray) (hs : s.size ≤ 32) (n : Nat) : ∀ (i k : Nat), i ≤ s.size → s.size - i = n → n < k → sextonref10_Name.l0 k s (i : Int) = some (if (s.toList.drop i).all (fun b => b.toNat != 47 && b.toNat != 0) then 0 else 409) := by
  induction n with
  | zero =>
    intro i k hi hn hk
    obtain ⟨k, rfl⟩ : ∃ k', k = k' + 1 := ⟨k - 1, by omega⟩
    have : i = s.size := by omega
    subst this
    rw [sextonref10_Name.l0, if_neg (by omega), ← len_eq, List.drop_length]
    rfl
  | succ n ih =>
    intro i k hi hn hk
    obtain ⟨k, rfl⟩ : ∃ k', k = k' + 1 := ⟨k - 1, by omega⟩
    have hl : i < s.toList.length := by rw [len_eq]; omega
    rw [sextonref10_Name.l0, if_pos (by omega), if_pos (by omega), bt_is s i hl, List.drop_eq_getElem_cons hl, List.all_cons]
    have hw : wrap64 ((i : Int) + 1) = ((i + 1 : Nat) : Int) := by rw [wrap64_in (by omega) (by omega)]; omega
    by_cases h1 : s.toList[i].toNat = 47
    · rw [if_pos (by omega)]
      simp [h1]
    · rw [if_neg (by omega)]
      by_cases h2 : s.toList[i].toNat = 0
      · rw [if_pos (by omega)]
        simp [h2]
      · rw [if_neg (by omega), hw, ih (i + 1) k (by omega) (by omega) (by omega)]
        have e1 : (s.toList[i].toNat != 47) = true := bne_iff_ne.mpr h1
        have e2 : (s.toList[i].toNat != 0) = true := bne_iff_ne.mpr h2
        rw [e1, e2]
        rfl
theorem ref_name_is (s : ByteArray) (k : Nat) (hk : 40 ≤ k) : sextonref10_Name.f k s = some (nameE s) := by
  obtain ⟨k, rfl⟩ : ∃ k', k = k' + 1 := ⟨k - 1, by omega⟩
  unfold sextonref10_Name.f nameE nameOk plainName
  have hz : s.toList.length = s.size := len_eq s
  by_cases h1 : (s.size : Int) < 1
  · rw [if_pos h1]
    have : s.toList = [] := List.eq_nil_of_length_eq_zero (by omega)
    simp [sextonref10_Name.j0, this]
  · rw [if_neg h1]
    have hne : s.toList ≠ [] := fun e => by rw [e] at hz; simp at hz; omega
    have e1 : (s.toList != []) = true := bne_iff_ne.mpr hne
    by_cases h2 : (s.size : Int) > 32
    · rw [if_pos h2]
      have : decide ((s.size : Int) ≤ 32) = false := decide_eq_false (by omega)
      simp [sextonref10_Name.j0, this]
    · rw [if_neg h2]
      have e2 : decide ((s.size : Int) ≤ 32) = true := decide_eq_true (by omega)
      by_cases h3 : s.toList = [46]
      · rw [if_pos h3]
        simp [sextonref10_Name.j0, h3]
      · rw [if_neg h3]
        have e3 : (s.toList != [46]) = true := bne_iff_ne.mpr h3
        by_cases h4 : s.toList = [46, 46]
        · simp [sextonref10_Name.j0, h4]
        · have e4 : (s.toList == [46, 46]) = false := beq_eq_false_iff_ne.mpr h4
          have e5 : (s.toList != [46, 46]) = true := bne_iff_ne.mpr h4
          rw [e1, e2, e3, e4, e5, sextonref10_Name.j0, if_neg (by decide)]
          have := ref_name_l0 s (by omega) s.size 0 k (by omega) (by omega) (by omega)
          rw [show ((0 : Nat) : Int) = 0 from rfl, List.drop_zero] at this
          rw [this]
          unfold clean
          rw [List.take_of_length_le (by omega)]
          rfl
theorem place_is (l : List S30) (nx : Int) (s : ByteArray) (hl : l.length ≤ 1000) : folder_Dir_place.f l nx s = some (idxFrom (isName s) l 0) := by
  rw [folder_Dir_place.f, if_pos (by omega)]
end Go.Proofs.Ytjjjbpgncmfpgaa.FA
end

section
/- Which folders are right: the code and the reference agree. -/
namespace Go.Proofs.Ytjjjbpgncmfpgaa.FA
open Go.RowKit Go.Proofs.YtjjjbpgncmfpgaaW.PrintWords Go.Proofs.Ytjjjbpgncmfpgaa.B Go.Proofs.Ytjjjbpgncmfpgaa.Runes
set_option linter.unusedVariables false
set_option linter.unusedSimpArgs false
def tgt (a b : Int) : Bool := decide (0 ≤ a) && decide (a < 24) && decide (1 ≤ b) && decide (b ≤ 1099511627776)
theorem target_is (a b : Int) : folder_target.f a b = some (tgt a b) := by
  unfold folder_target.f tgt
  by_cases h1 : a ≥ 0 <;> by_cases h2 : a < 24 <;> by_cases h3 : b ≥ 1 <;> simp [h1, h2, h3] <;> omega
def okOne (l : List S30) (nx last : Int) (x : S30) (i : Int) : Bool :=
  decide (last < x.f1) && (decide (x.f1 ≤ nx) && (nameOk x.f0 && ((idxFrom (isName x.f0) l 0 == i) && tgt x.f2.f0 x.f2.f1)))
def okFrom (l : List S30) (nx : Int) : Int → List S30 → Int → Bool
  | _, [], _ => true
  | last, x :: t, i => okOne l nx last x i && okFrom l nx x.f1 t (i + 1)
def dirOk (l : List S30) (nx : Int) : Bool := decide (0 ≤ nx) && (decide (nx ≤ 1099511627776) && okFrom l nx 0 l 0)
theorem nameE_zero (s : ByteArray) : nameE s = 0 ↔ nameOk s = true := by
  unfold nameE
  by_cases h : nameOk s = true
  · simp [h]
  · simp [h]
theorem check_l0 (l : List S30) (nx : Int) (hl : l.length ≤ 1000) (n : Nat) : ∀ (i k : Nat) (last : Int), i ≤ l.length → l.length - i = n → n < k →
    folder_Check.l0 k last l (l.length : Int) (i : Int) l nx = some (if okFrom l nx last (l.drop i) (i : Int) = true then 0 else 4) := by
  induction n with
  | zero =>
    intro i k last hi hn hk
    obtain ⟨k, rfl⟩ : ∃ k', k = k' + 1 := ⟨k - 1, by omega⟩
    have : i = l.length := by omega
    subst this
    rw [folder_Check.l0, if_neg (by omega), List.drop_length]
    rfl
  | succ n ih =>
    intro i k last hi hn hk
    obtain ⟨k, rfl⟩ : ∃ k', k = k' + 1 := ⟨k - 1, by omega⟩
    have hl' : i < l.length := by omega
    have hw : wrap64 ((i : Int) + 1) = ((i + 1 : Nat) : Int) := by rw [wrap64_in (by omega) (by omega)]; omega
    have hx : rd_T30 l (i : Int) = l[i] := by simp [rd_T30, List.getD, hl']
    rw [folder_Check.l0, if_pos (by omega), if_pos (by omega), if_pos (by omega), hx, hw, List.drop_eq_getElem_cons hl']
    rw [show okFrom l nx last (l[i] :: l.drop (i + 1)) (i : Int) = (okOne l nx last l[i] (i : Int) && okFrom l nx l[i].f1 (l.drop (i + 1)) ((i : Int) + 1)) from rfl]
    rw [name_is, place_is l nx _ hl, target_is]
    simp only [Option.bind_some]
    rw [ih (i + 1) k l[i].f1 (by omega) (by omega) (by omega)]
    rw [show (((i + 1 : Nat)) : Int) = (i : Int) + 1 by omega]
    generalize okFrom l nx l[i].f1 (l.drop (i + 1)) ((i : Int) + 1) = B
    unfold okOne
    have hz := nameE_zero l[i].f0
    generalize tgt l[i].f2.f0 l[i].f2.f1 = t
    generalize idxFrom (isName l[i].f0) l 0 = p
    generalize nameE l[i].f0 = e at hz
    generalize nameOk l[i].f0 = q at hz
    generalize l[i].f1 = c
    by_cases h1 : c ≤ last
    · rw [if_pos h1, decide_eq_false (by omega)]; rfl
    · rw [if_neg h1, decide_eq_true (by omega)]
      by_cases h2 : c > nx
      · rw [if_pos h2, decide_eq_false (by omega)]; rfl
      · rw [if_neg h2, decide_eq_true (by omega)]
        by_cases h3 : e = 0
        · rw [if_pos h3, hz.mp h3]
          by_cases h4 : p = (i : Int)
          · rw [if_pos h4, h4]
            cases t <;> simp
          · rw [if_neg h4, beq_eq_false_iff_ne.mpr h4]; rfl
        · rw [if_neg h3, show q = false by rcases q with _ | _; rfl; exact absurd (hz.mpr rfl) h3]; rfl
theorem check_is (l : List S30) (nx : Int) (hl : l.length ≤ 1000) (k : Nat) (hk : 1100 ≤ k) : folder_Check.f k l nx = some (if dirOk l nx = true then 0 else 4) := by
  obtain ⟨k, rfl⟩ : ∃ k', k = k' + 1 := ⟨k - 1, by omega⟩
  unfold folder_Check.f dirOk
  by_cases h1 : nx < 0
  · rw [if_pos h1, decide_eq_false (by omega)]; simp [folder_Check.j0]
  · rw [if_neg h1, decide_eq_true (show 0 ≤ nx by omega)]
    by_cases h2 : nx > 1099511627776
    · rw [decide_eq_true h2, decide_eq_false (by omega)]; simp [folder_Check.j0]
    · rw [decide_eq_false h2, decide_eq_true (by omega), folder_Check.j0, if_neg (by decide)]
      have := check_l0 l nx hl l.length 0 k 0 (by omega) (by omega) (by omega)
      rw [List.drop_zero] at this
      exact this
end Go.Proofs.Ytjjjbpgncmfpgaa.FA
end

section
/- Find, Add, Remove in plain words, and the fixed case `two`. -/
namespace Go.Proofs.Ytjjjbpgncmfpgaa.FA
open Go.RowKit Go.Proofs.YtjjjbpgncmfpgaaW.PrintWords Go.Proofs.Ytjjjbpgncmfpgaa.B Go.Proofs.Ytjjjbpgncmfpgaa.Runes
set_option linter.unusedVariables false
set_option linter.unusedSimpArgs false
def askE (l : List S30) (nx : Int) (s : ByteArray) : Int := if dirOk l nx = true then nameE s else 4
theorem asked_is (l : List S30) (nx : Int) (s : ByteArray) (hl : l.length ≤ 1000) (k : Nat) (hk : 4000 ≤ k) : folder_asked.f k l nx s = some (askE l nx s) := by
  unfold folder_asked.f askE
  rw [check_is l nx hl k (by omega), name_is]
  by_cases h : dirOk l nx = true <;> simp [h]
def findV (l : List S30) (nx : Int) (s : ByteArray) : ByteArray × Int × Int × Int × Int :=
  if askE l nx s = 0 then (if idxFrom (isName s) l 0 < 0 then ((⟨#[]⟩ : ByteArray), 0, 0, 0, 402) else
    ((rd_T30 l (idxFrom (isName s) l 0)).f0, (rd_T30 l (idxFrom (isName s) l 0)).f1, (rd_T30 l (idxFrom (isName s) l 0)).f2.f0, (rd_T30 l (idxFrom (isName s) l 0)).f2.f1, 0))
  else ((⟨#[]⟩ : ByteArray), 0, 0, 0, askE l nx s)
theorem idx_lt (l : List S30) (p : S30 → Bool) (h : ¬ idxFrom p l 0 < 0) : 0 ≤ idxFrom p l 0 ∧ idxFrom p l 0 < (l.length : Int) := by
  have := idxFrom_range p l 0 (by omega)
  omega
theorem find_is (l : List S30) (nx : Int) (s : ByteArray) (hl : l.length ≤ 1000) (k : Nat) (hk : 4000 ≤ k) : folder_Find.f k l nx s = some (findV l nx s) := by
  unfold folder_Find.f findV
  rw [asked_is l nx s hl k hk, place_is l nx s hl]
  simp only [Option.bind_some]
  by_cases h : askE l nx s = 0
  · rw [if_pos h, if_pos h]
    by_cases hp : idxFrom (isName s) l 0 < 0
    · rw [if_pos hp, if_pos hp]
    · have := idx_lt l _ hp
      rw [if_neg hp, if_neg hp, if_pos this.1, if_pos this.2]
  · rw [if_neg h, if_neg h]
/-- Add in plain words. -/
def addV (l : List S30) (nx : Int) (s : ByteArray) (a b : Int) : List S30 × Int × Int :=
  if askE l nx s = 0 then (if tgt a b = true then (if 0 ≤ idxFrom (isName s) l 0 then ([], 0, 403) else (if nx = 1099511627776 then ([], 0, 407) else (l ++ [⟨s, nx + 1, ⟨a, b⟩⟩], nx + 1, 0))) else ([], 0, 1)) else ([], 0, askE l nx s)
theorem ask_nx (l : List S30) (nx : Int) (s : ByteArray) (h : askE l nx s = 0) : 0 ≤ nx ∧ nx ≤ 1099511627776 ∧ dirOk l nx = true ∧ nameOk s = true := by
  unfold askE at h
  by_cases hd : dirOk l nx = true
  · rw [if_pos hd] at h
    have h2 := hd
    unfold dirOk at h2
    simp only [Bool.and_eq_true, decide_eq_true_eq] at h2
    exact ⟨h2.1, h2.2.1, hd, (nameE_zero s).mp h⟩
  · rw [if_neg hd] at h; exact absurd h (by decide)
theorem add_is (l : List S30) (nx : Int) (s : ByteArray) (a b : Int) (hl : l.length ≤ 1000) (k : Nat) (hk : 4000 ≤ k) : folder_Add.f k l nx s a b = some (addV l nx s a b) := by
  unfold folder_Add.f addV
  rw [asked_is l nx s hl k hk, place_is l nx s hl, target_is, api_Entry_33.f, if_pos (show l.length < 3518437208883 by omega)]
  simp only [Option.bind_some]
  by_cases h : askE l nx s = 0
  · rw [if_pos h, if_pos h]
    have hn := ask_nx l nx s h
    by_cases ht : tgt a b = true
    · rw [if_pos ht, if_pos ht]
      by_cases hp : idxFrom (isName s) l 0 ≥ 0
      · rw [if_pos hp, if_pos hp]
      · rw [if_neg hp, if_neg (show ¬ 0 ≤ idxFrom (isName s) l 0 from hp)]
        by_cases hm : nx = 1099511627776
        · rw [if_pos hm, if_pos hm]
        · rw [if_neg hm, if_neg hm, if_pos (by simp; omega), wrap64_in (by omega) (by omega)]
    · rw [if_neg ht, if_neg ht]
  · rw [if_neg h, if_neg h]
/-- Remove in plain words. -/
def removeV (l : List S30) (nx : Int) (s : ByteArray) : List S30 × Int × Int :=
  if askE l nx s = 0 then (if idxFrom (isName s) l 0 < 0 then ([], 0, 402) else (l.take (idxFrom (isName s) l 0).toNat ++ l.drop ((idxFrom (isName s) l 0).toNat + 1), nx, 0)) else ([], 0, askE l nx s)
theorem remove_is (l : List S30) (nx : Int) (s : ByteArray) (hl : l.length ≤ 1000) (k : Nat) (hk : 4000 ≤ k) : folder_Remove.f k l nx s = some (removeV l nx s) := by
  unfold folder_Remove.f removeV
  rw [asked_is l nx s hl k hk, place_is l nx s hl, api_Entry_33.f, if_pos (show l.length < 3518437208883 by omega)]
  simp only [Option.bind_some]
  by_cases h : askE l nx s = 0
  · rw [if_pos h, if_pos h]
    by_cases hp : idxFrom (isName s) l 0 < 0
    · rw [if_pos hp, if_pos hp]
    · have hi := idx_lt l _ hp
      rw [if_neg hp, if_neg hp, wrap64_in (by omega) (by omega), api_Entry_34.f, if_pos ⟨hi.1, hi.2, rfl, by omega⟩]
      rw [show (idxFrom (isName s) l 0 + 1).toNat = (idxFrom (isName s) l 0).toNat + 1 by omega]
      rfl
  · rw [if_neg h, if_neg h]
def sA : ByteArray := ⟨#[97]⟩
def sB : ByteArray := ⟨#[98]⟩
theorem sA_l : sA.toList = [97] := mk_toList [97]
theorem sB_l : sB.toList = [98] := mk_toList [98]
theorem sA_ok : nameOk sA = true := by
  unfold nameOk plainName clean
  rw [sA_l]
  decide
theorem sB_ok : nameOk sB = true := by
  unfold nameOk plainName clean
  rw [sB_l]
  decide
theorem is_AA (x : Int) (y) : isName sA (⟨sA, x, y⟩ : S30) = true := by unfold isName; exact beq_iff_eq.mpr rfl
theorem is_BB (x : Int) (y) : isName sB (⟨sB, x, y⟩ : S30) = true := by unfold isName; exact beq_iff_eq.mpr rfl
theorem is_BA (x : Int) (y) : isName sB (⟨sA, x, y⟩ : S30) = false := by unfold isName; rw [sB_l, show (⟨sA, x, y⟩ : S30).f0 = sA from rfl, sA_l]; decide
theorem is_AB (x : Int) (y) : isName sA (⟨sB, x, y⟩ : S30) = false := by unfold isName; rw [sA_l, show (⟨sB, x, y⟩ : S30).f0 = sB from rfl, sB_l]; decide
def eA : S30 := ⟨sA, 1, ⟨1, 1⟩⟩
def eB : S30 := ⟨sB, 2, ⟨1, 1⟩⟩
theorem dir0 : dirOk [] 0 = true := by decide
theorem dir1 : dirOk [eA] 1 = true := by
  simp [dirOk, okFrom, okOne, eA, sA_ok, idxFrom, is_AA, tgt]
theorem dir2 : dirOk [eA, eB] 2 = true := by
  simp [dirOk, okFrom, okOne, eA, eB, sA_ok, sB_ok, idxFrom, is_AA, is_BA, is_BB, tgt]
theorem dir3 : dirOk [eB] 2 = true := by
  simp [dirOk, okFrom, okOne, eB, sB_ok, idxFrom, is_BB, tgt]
theorem ask_ok {l nx s} (h : dirOk l nx = true) (hs : nameOk s = true) : askE l nx s = 0 := by rw [askE, if_pos h]; exact (nameE_zero s).mpr hs
theorem two_is (k : Nat) (hk : 4000 ≤ k) : sextonlaw10_two.f k = some true := by
  unfold sextonlaw10_two.f
  have h1 : addV [] 0 sA 1 1 = ([eA], 1, 0) := by
    rw [addV, if_pos (ask_ok dir0 sA_ok), if_pos (by decide), if_neg (by simp [idxFrom]), if_neg (by decide)]; rfl
  have h2 : addV [eA] 1 sB 1 1 = ([eA, eB], 2, 0) := by
    rw [addV, if_pos (ask_ok dir1 sB_ok), if_pos (by decide), if_neg (by simp [idxFrom, eA, is_BA]), if_neg (by decide)]; rfl
  have h3 : removeV [eA, eB] 2 sA = ([eB], 2, 0) := by
    have hi : idxFrom (isName sA) [eA, eB] 0 = 0 := by simp [idxFrom, eA, is_AA]
    rw [removeV, if_pos (ask_ok dir2 sA_ok), hi, if_neg (by decide)]; rfl
  have h4 : findV [eB] 2 sB = (sB, 2, 1, 1, 0) := by
    have hi : idxFrom (isName sB) [eB] 0 = 0 := by simp [idxFrom, eB, is_BB]
    rw [findV, if_pos (ask_ok dir3 sB_ok), hi, if_neg (by decide)]; rfl
  have h5 : findV [eB] 2 sA = ((⟨#[]⟩ : ByteArray), 0, 0, 0, 402) := by
    have hi : idxFrom (isName sA) [eB] 0 = -1 := by simp [idxFrom, eB, is_AB]
    rw [findV, if_pos (ask_ok dir3 sA_ok), hi, if_pos (by decide)]
  rw [show (⟨#[97]⟩ : ByteArray) = sA from rfl, show (⟨#[98]⟩ : ByteArray) = sB from rfl]
  rw [add_is [] 0 sA 1 1 (by decide) k hk, h1]
  simp only [Option.bind_some]
  rw [add_is [eA] 1 sB 1 1 (by decide) k hk, h2]
  simp only [Option.bind_some]
  rw [remove_is [eA, eB] 2 sA (by decide) k hk, h3]
  simp only [Option.bind_some]
  rw [find_is [eB] 2 sB (by decide) k hk, h4]
  simp only [Option.bind_some]
  rw [find_is [eB] 2 sA (by decide) k hk, h5]
  rfl
end Go.Proofs.Ytjjjbpgncmfpgaa.FA
end

section
/- All pages of a folder, one behind the other, are its entries. -/
namespace Go.Proofs.Ytjjjbpgncmfpgaa.FA
open Go.RowKit Go.Proofs.YtjjjbpgncmfpgaaW.PrintWords Go.Proofs.Ytjjjbpgncmfpgaa.B Go.Proofs.Ytjjjbpgncmfpgaa.Runes
set_option linter.unusedVariables false
set_option linter.unusedSimpArgs false
theorem rd_at (l : List S30) (i : Nat) (h : i < l.length) : rd_T30 l (i : Int) = l[i] := by simp [rd_T30, List.getD, h]
theorem idx_at {α : Type} (p : α → Bool) : ∀ (l : List α) (n : Nat) (i : Int), (∀ j (h : j < l.length), j < n → p l[j] = false) → (∀ h : n < l.length, p l[n] = true) → idxFrom p l i = if n < l.length then i + n else -1
  | [], n, i, _, _ => by simp [idxFrom]
  | x :: t, 0, i, _, h => by
    have := h (by simp)
    simp only [List.getElem_cons_zero] at this
    simp [idxFrom, this]
  | x :: t, n + 1, i, h0, h => by
    have hx : p x = false := h0 0 (by simp) (by omega)
    rw [idxFrom, hx, if_neg (by decide), idx_at p t n (i + 1) (fun j hj hn => h0 (j + 1) (by simpa using hj) (by omega)) (fun hn => h (by simpa using hn))]
    by_cases hn : n < t.length
    · rw [if_pos hn, if_pos (by simpa using hn)]; omega
    · rw [if_neg hn, if_neg (by simpa using hn)]
/-- The last cookie of the first n. -/
def cookieAt (l : List S30) : Nat → Int
  | 0 => 0
  | n + 1 => (rd_T30 l (n : Int)).f1
end Go.Proofs.Ytjjjbpgncmfpgaa.FA
end

section
/- Add, Remove and Page of the document's answer are those of the program. -/
namespace Go.Proofs.Ytjjjbpgncmfpgaa.FA
open Go.RowKit Go.Proofs.YtjjjbpgncmfpgaaW.PrintWords Go.Proofs.Ytjjjbpgncmfpgaa.B Go.Proofs.Ytjjjbpgncmfpgaa.Runes
set_option linter.unusedVariables false
set_option linter.unusedSimpArgs false
def without (l : List S30) (at_ i : Nat) : List S30 := if i ≤ at_ then (l.drop i).take (at_ - i) ++ l.drop (at_ + 1) else l.drop i
end Go.Proofs.Ytjjjbpgncmfpgaa.FA
end
