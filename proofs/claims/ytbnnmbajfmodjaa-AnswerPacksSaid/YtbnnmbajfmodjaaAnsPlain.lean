/- Joined by merge.py out of: AnsBase, NameFns, AnsCheck, AnsPack, AnsUnp, AnsLaw, AnsRef. -/
import Derived.Test.YtbnnmbajfmodjaaTlvAllFns
import Derived.Test.YtbnnmbajfmodjaaFARef13
import Derived.Test.YtbnnmbajfmodjaaHFolderName
import Derived.Test.YtbnnmbajfmodjaaFAsextonref10Name
import Derived.Test.YtbnnmbajfmodjaaAttrPlain
import Derived.Test.YtbnnmbajfmodjaaFAanswerCheck
import Derived.Test.YtbnnmbajfmodjaaFAsextonref14Right
import Derived.Test.YtbnnmbajfmodjaaHAnswerPack
import Derived.Test.YtbnnmbajfmodjaaHAnswerUnpack
import Derived.Test.YtbnnmbajfmodjaaFAsextonlaw14stale
import Derived.Test.YtbnnmbajfmodjaaFAplain
import Derived.Test.YtbnnmbajfmodjaaFAsextonref14Pack
section
/- Small functions of the reference 13, and words. -/
namespace Go.Proofs.Ytbnnmbajfmodjaa.TlvFns
open Go.RowKit Go.Proofs.Ytbnnmbajfmodjaa.FA Go.Proofs.YtbnnmbajfmodjaaW.PrintWords Go.Proofs.YtbnnmbajfmodjaaW.PrintLast Go.Proofs.YtbnnmbajfmodjaaW.PrintMore Go.Proofs.Ytbnnmbajfmodjaa.B
set_option linter.unusedVariables false
set_option linter.unusedSimpArgs false
theorem upP_true {n m : Int} (h0 : 0 ≤ n) (h1 : n ≤ m) : upP n m = true := decide_eq_true ⟨h0, h1⟩
theorem upP_false0 {n m : Int} (h0 : ¬ 0 ≤ n) : upP n m = false := decide_eq_false (fun h => h0 h.1)
theorem upP_false1 {n m : Int} (h1 : ¬ n ≤ m) : upP n m = false := decide_eq_false (fun h => h1 h.2)
theorem two_small (a b : Int) : (numVal a 1).1.size + (numVal b 6).1.size ≤ 9223372036854775807 := by
  have h1 := numVal_size a 1
  have h2 := numVal_size b 6
  omega
theorem ref_handB_is (a b : Int) (ha : a ≤ 9223372036854775807) (hb : b ≤ 9223372036854775807) (k : Nat) (hk : 13 ≤ k) : sextonref13_Handle.f k a b = some (handB a b) := by
  obtain ⟨k, rfl⟩ : ∃ m, k = m + 1 := ⟨k - 1, by omega⟩
  have hf : sextonref13_Handle.j0 (k + 1) false a b = some ((numVal a 1).1 ++ (numVal b 6).1) := by
    simp only [sextonref13_Handle.j0]
    rw [if_neg (by decide), ref_num_is a 1 ha k (by omega), ref_num_is b 6 hb k (by omega)]
    simp only [Option.bind_some]
    rw [if_pos (two_small a b)]
  unfold sextonref13_Handle.f handB
  by_cases h : a = 0
  · rw [if_pos h]
    by_cases h2 : b = 0
    · rw [if_pos ⟨h, h2⟩, h2]
      simp [sextonref13_Handle.j0]
    · rw [if_neg (fun h3 => h2 h3.2), show (b == 0) = false from beq_eq_false_iff_ne.mpr h2, hf]
  · rw [if_neg h, if_neg (fun h3 => h h3.1), hf]
end Go.Proofs.Ytbnnmbajfmodjaa.TlvFns
end

section
/- What folder.Name and its reference compute. -/
namespace Go.Proofs.Ytbnnmbajfmodjaa.FA
open Go.RowKit Go.Proofs.YtbnnmbajfmodjaaW.PrintWords Go.Proofs.Ytbnnmbajfmodjaa.B Go.Proofs.Ytbnnmbajfmodjaa.Runes
set_option linter.unusedVariables false
set_option linter.unusedSimpArgs false
def nameOk (s : ByteArray) : Bool := plainName s && clean s s.size
def nameE (s : ByteArray) : Int := if nameOk s = true then 0 else 409
theorem name_is (s : ByteArray) : folder_Name.f s = some (nameE s) := rfl
theorem bt_is (s : ByteArray) (i : Nat) (h : i < s.toList.length) : bt s (i : Int) = (s.toList[i].toNat : Int) := bt_get s i h
theorem ref_name_l0 (s : ByteArray) (hs : s.size ≤ 32) (n : Nat) : ∀ (i k : Nat), i ≤ s.size → s.size - i = n → n < k → sextonref10_Name.l0 k s (i : Int) = some (if (s.toList.drop i).all (fun b => b.toNat != 47 && b.toNat != 0) then 0 else 409) := by
  induction n with
  | zero =>
    intro i k hi hn hk
    obtain ⟨k, rfl⟩ : ∃ k', k = k' + 1 := ⟨k - 1, by omega⟩
    have : i = s.size := by omega
    subst this
    rw [sextonref10_Name.l0, if_neg (by omega), ← len_eq, List.drop_length]
    rfl
  | succ n ih =>
    intro i k hi hn hk
    obtain ⟨k, rfl⟩ : ∃ k', k = k' + 1 := ⟨k - 1, by omega⟩
    have hl : i < s.toList.length := by rw [len_eq]; omega
    rw [sextonref10_Name.l0, if_pos (by omega), if_pos (by omega), bt_is s i hl, List.drop_eq_getElem_cons hl, List.all_cons]
    have hw : wrap64 ((i : Int) + 1) = ((i + 1 : Nat) : Int) := by rw [wrap64_in (by omega) (by omega)]; omega
    by_cases h1 : s.toList[i].toNat = 47
    · rw [if_pos (by omega)]
      simp [h1]
    · rw [if_neg (by omega)]
      by_cases h2 : s.toList[i].toNat = 0
      · rw [if_pos (by omega)]
        simp [h2]
      · rw [if_neg (by omega), hw, ih (i + 1) k (by omega) (by omega) (by omega)]
        have e1 : (s.toList[i].toNat != 47) = true := bne_iff_ne.mpr h1
        have e2 : (s.toList[i].toNat != 0) = true := bne_iff_ne.mpr h2
        rw [e1, e2]
        rfl
theorem ref_name_is (s : ByteArray) (k : Nat) (hk : 40 ≤ k) : sextonref10_Name.f k s = some (nameE s) := by
  obtain ⟨k, rfl⟩ : ∃ k', k = k' + 1 := ⟨k - 1, by omega⟩
  unfold sextonref10_Name.f nameE nameOk plainName
  have hz : s.toList.length = s.size := len_eq s
  by_cases h1 : (s.size : Int) < 1
  · rw [if_pos h1]
    have : s.toList = [] := List.eq_nil_of_length_eq_zero (by omega)
    simp [sextonref10_Name.j0, this]
  · rw [if_neg h1]
    have hne : s.toList ≠ [] := fun e => by rw [e] at hz; simp at hz; omega
    have e1 : (s.toList != []) = true := bne_iff_ne.mpr hne
    by_cases h2 : (s.size : Int) > 32
    · rw [if_pos h2]
      have : decide ((s.size : Int) ≤ 32) = false := decide_eq_false (by omega)
      simp [sextonref10_Name.j0, this]
    · rw [if_neg h2]
      have e2 : decide ((s.size : Int) ≤ 32) = true := decide_eq_true (by omega)
      by_cases h3 : s.toList = [46]
      · rw [if_pos h3]
        simp [sextonref10_Name.j0, h3]
      · rw [if_neg h3]
        have e3 : (s.toList != [46]) = true := bne_iff_ne.mpr h3
        by_cases h4 : s.toList = [46, 46]
        · simp [sextonref10_Name.j0, h4]
        · have e4 : (s.toList == [46, 46]) = false := beq_eq_false_iff_ne.mpr h4
          have e5 : (s.toList != [46, 46]) = true := bne_iff_ne.mpr h4
          rw [e1, e2, e3, e4, e5, sextonref10_Name.j0, if_neg (by decide)]
          have := ref_name_l0 s (by omega) s.size 0 k (by omega) (by omega) (by omega)
          rw [show ((0 : Nat) : Int) = 0 from rfl, List.drop_zero] at this
          rw [this]
          unfold clean
          rw [List.take_of_length_le (by omega)]
          rfl
end Go.Proofs.Ytbnnmbajfmodjaa.FA
end

section
/- Which replies are right: answer.Check and the reference's Right tell alike. -/
namespace Go.Proofs.Ytbnnmbajfmodjaa.AnsFns
open Go.RowKit Go.Proofs.Ytbnnmbajfmodjaa.FA Go.Proofs.YtbnnmbajfmodjaaW.PrintWords Go.Proofs.YtbnnmbajfmodjaaW.PrintLast Go.Proofs.YtbnnmbajfmodjaaW.PrintMore Go.Proofs.Ytbnnmbajfmodjaa.B Go.Proofs.Ytbnnmbajfmodjaa.TlvFns
set_option linter.unusedVariables false
set_option linter.unusedSimpArgs false
theorem rd_ent {l : List S52} {i : Nat} (h : i < l.length) : rd_T52 l (i : Int) = l[i] := by
  unfold rd_T52
  rw [Int.toNat_natCast, List.getD_eq_getElem?_getD, List.getElem?_eq_getElem h]
  rfl
/-- The answer to a test. -/
def eOf : Bool → Int
  | true => 0
  | false => 4
/-- Entries that are right behind a cookie. -/
def entsOk : Int → List S52 → Bool
  | _, [] => true
  | p, x :: l => decide (x.f1 > p) && decide (x.f1 ≤ 1099511627776) && nameOk x.f0 && (upP x.f2.f0 255 && upP x.f2.f1 1099511627776) && entsOk x.f1 l
/-- All of a reply but the entries. -/
def headOk (e no gen ki li si st : Int) (d : ByteArray) (m : Nat) (n : Int) : Bool := upP e 65535 && (upP no 255 && upP gen 1099511627776) && decide (AttrFns.Rt ki li si st) && decide ((d.size : Int) ≤ 512) && decide ((m : Int) ≤ 64) && upP n 1099511627776
def rightA (e no gen ki li si st : Int) (d : ByteArray) (xs : List S52) (n : Int) : Bool := headOk e no gen ki li si st d xs.length n && entsOk 0 xs
theorem between_is (a b c : Int) : answer_between.f a b c = some (decide (b ≤ a ∧ a ≤ c)) := by
  unfold answer_between.f
  by_cases h : a ≥ b
  · rw [if_pos h]
    by_cases h2 : a ≤ c
    · simp [h2, h]
    · simp [h2]
  · rw [if_neg h]
    have : ¬ b ≤ a := h
    simp [this]
theorem named_is (a b : Int) : answer_named.f a b = some (upP a 255 && upP b 1099511627776) := by
  unfold answer_named.f
  rw [between_is, Option.bind_some]
  show (if upP a 255 = true then _ else _) = _
  cases h : upP a 255 with
  | true => rw [if_pos rfl, between_is, Option.bind_some]; rfl
  | false => rw [if_neg (by decide)]; rfl
theorem nameE_0 (s : ByteArray) : nameE s = 0 ↔ nameOk s = true := by
  unfold nameE
  by_cases h : nameOk s = true
  · simp [h]
  · simp [h]
theorem check_loop (l : List S52) (hl : l.length ≤ 9223372036854775806) (d : Nat) : ∀ (k i : Nat) (b : Bool) (p : Int), i + d = l.length → d < k →
    answer_Check.l0 k b p l (l.length : Int) (i : Int) = some (eOf (b && entsOk p (l.drop i))) := by
  induction d with
  | zero =>
    intro k i b p hd hk
    obtain ⟨k, rfl⟩ : ∃ m, k = m + 1 := ⟨k - 1, by omega⟩
    simp only [answer_Check.l0]
    rw [if_neg (by omega), List.drop_of_length_le (by omega)]
    cases b <;> rfl
  | succ d ih =>
    intro k i b p hd hk
    obtain ⟨k, rfl⟩ : ∃ m, k = m + 1 := ⟨k - 1, by omega⟩
    have hlt : i < l.length := by omega
    simp only [answer_Check.l0]
    rw [if_pos (by omega), if_pos (by omega), if_pos (by omega), wrap64_in (by omega) (by omega), show (i : Int) + 1 = ((i + 1 : Nat) : Int) by omega, rd_ent hlt, List.drop_eq_getElem_cons hlt]
    generalize l[i] = x
    have ht : ∀ (c : Bool), answer_Check.l0 k c x.f1 l (l.length : Int) ((i + 1 : Nat) : Int) = some (eOf (c && entsOk x.f1 (l.drop (i + 1)))) := fun c => ih k (i + 1) c x.f1 (by omega) (by omega)
    have hF := ht false
    rw [Bool.false_and] at hF
    rw [hF]
    simp only [entsOk]
    cases b with
    | false => rw [if_neg (by decide), Bool.false_and]
    | true =>
      rw [if_pos rfl, Bool.true_and]
      by_cases h1 : x.f1 > p
      · rw [if_pos h1, decide_eq_true h1, Bool.true_and]
        by_cases h2 : x.f1 ≤ 1099511627776
        · rw [if_pos h2, decide_eq_true h2, Bool.true_and, name_is, Option.bind_some]
          by_cases h3 : nameE x.f0 = 0
          · rw [if_pos h3, (nameE_0 _).1 h3, Bool.true_and, named_is, Option.bind_some, ht]
          · rw [if_neg h3, Bool.eq_false_iff.2 (fun h => h3 ((nameE_0 _).2 h)), Bool.false_and, Bool.false_and]
        · rw [if_neg h2, decide_eq_false h2]; rfl
      · rw [if_neg h1, decide_eq_false h1]; rfl
theorem check_is (e no gen ki li si st : Int) (d : ByteArray) (xs : List S52) (n : Int) (hl : xs.length ≤ 9223372036854775806) (k : Nat) (hk : xs.length + 3 ≤ k) : answer_Check.f k e no gen ki li si st d xs n = some (eOf (rightA e no gen ki li si st d xs n)) := by
  have hj : ∀ b : Bool, answer_Check.j0 k b e no gen ki li si st d xs n = some (eOf (b && entsOk 0 xs)) := by
    intro b
    obtain ⟨k, rfl⟩ : ∃ m, k = m + 1 := ⟨k - 1, by omega⟩
    simp only [answer_Check.j0]
    have := check_loop xs hl xs.length k 0 b 0 (by omega) (by omega)
    rw [List.drop_zero] at this
    exact this
  have hF := hj false
  rw [Bool.false_and] at hF
  unfold answer_Check.f
  rw [between_is, Option.bind_some, hF]
  unfold rightA headOk
  rw [show decide (0 ≤ e ∧ e ≤ 65535) = upP e 65535 from rfl]
  cases h1 : upP e 65535 with
  | false => rw [if_neg (by decide)]; rfl
  | true =>
    rw [if_pos rfl, named_is, Option.bind_some, Bool.true_and]
    cases h2 : (upP no 255 && upP gen 1099511627776) with
    | false => rw [if_neg (by decide)]; rfl
    | true =>
      rw [if_pos rfl, AttrFns.check_is k (by omega), Option.bind_some, Bool.true_and]
      by_cases h3 : AttrFns.Rt ki li si st
      · rw [if_pos h3, if_pos rfl, decide_eq_true h3, Bool.true_and]
        by_cases h4 : (d.size : Int) ≤ 512
        · rw [if_pos h4, decide_eq_true h4, Bool.true_and]
          by_cases h5 : (xs.length : Int) ≤ 64
          · rw [if_pos h5, decide_eq_true h5, Bool.true_and, between_is, Option.bind_some, hj]
            rfl
          · rw [if_neg h5, decide_eq_false h5]; rfl
        · rw [if_neg h4, decide_eq_false h4]; rfl
      · rw [if_neg h3, if_neg (by decide), decide_eq_false h3]; rfl
theorem ref_handle14 (a b : Int) : sextonref14_handle.f a b = some (upP a 255 && upP b 1099511627776) := by
  unfold sextonref14_handle.f
  by_cases h1 : a ≥ 0
  · rw [if_pos h1]
    by_cases h2 : a ≤ 255
    · rw [if_pos h2, upP_true h1 h2, Bool.true_and]
      by_cases h3 : b ≥ 0
      · rw [if_pos h3]
        by_cases h4 : b ≤ 1099511627776
        · rw [upP_true h3 h4, decide_eq_true h4]
        · rw [upP_false1 h4, decide_eq_false h4]
      · rw [if_neg h3, upP_false0 h3]
    · rw [if_neg h2, upP_false1 h2]; rfl
  · rw [if_neg h1, upP_false0 h1]; rfl
theorem right_loop (l : List S52) (hl : l.length ≤ 9223372036854775806) (d : Nat) : ∀ (k i : Nat) (p : Int), i + d = l.length → d + 45 < k →
    sextonref14_Right.l0 k p l (l.length : Int) (i : Int) = some (entsOk p (l.drop i)) := by
  induction d with
  | zero =>
    intro k i p hd hk
    obtain ⟨k, rfl⟩ : ∃ m, k = m + 1 := ⟨k - 1, by omega⟩
    simp only [sextonref14_Right.l0]
    rw [if_neg (by omega), List.drop_of_length_le (by omega)]
    rfl
  | succ d ih =>
    intro k i p hd hk
    obtain ⟨k, rfl⟩ : ∃ m, k = m + 1 := ⟨k - 1, by omega⟩
    have hlt : i < l.length := by omega
    simp only [sextonref14_Right.l0]
    rw [if_pos (by omega), if_pos (by omega), if_pos (by omega), wrap64_in (by omega) (by omega), show (i : Int) + 1 = ((i + 1 : Nat) : Int) by omega, rd_ent hlt, List.drop_eq_getElem_cons hlt]
    generalize l[i] = x
    simp only [entsOk]
    by_cases h1 : x.f1 ≤ p
    · rw [if_pos h1, decide_eq_false (show ¬ x.f1 > p by omega)]; rfl
    · rw [if_neg h1, decide_eq_true (show x.f1 > p by omega), Bool.true_and]
      by_cases h2 : x.f1 > 1099511627776
      · rw [if_pos h2, decide_eq_false (show ¬ x.f1 ≤ 1099511627776 by omega)]; rfl
      · rw [if_neg h2, decide_eq_true (show x.f1 ≤ 1099511627776 by omega), Bool.true_and, ref_name_is _ k (by omega), Option.bind_some]
        by_cases h3 : nameE x.f0 = 0
        · rw [if_pos h3, (nameE_0 _).1 h3, Bool.true_and, ref_handle14, Option.bind_some]
          cases h4 : (upP x.f2.f0 255 && upP x.f2.f1 1099511627776) with
          | true => rw [if_pos rfl, Bool.true_and, ih k (i + 1) _ (by omega) (by omega)]
          | false => rw [if_neg (by decide)]; rfl
        · rw [if_neg h3, Bool.eq_false_iff.2 (fun h => h3 ((nameE_0 _).2 h))]; rfl
theorem ref_right_is (e no gen ki li si st : Int) (d : ByteArray) (xs : List S52) (n : Int) (hl : xs.length ≤ 9223372036854775806) (k : Nat) (hk : xs.length + 50 ≤ k) : sextonref14_Right.f k e no gen ki li si st d xs n = some (rightA e no gen ki li si st d xs n) := by
  obtain ⟨k, rfl⟩ : ∃ m, k = m + 1 := ⟨k - 1, by omega⟩
  have hj : ∀ b : Bool, sextonref14_Right.j0 (k + 1) b e no gen ki li si st d xs n = some (!b && entsOk 0 xs) := by
    intro b
    simp only [sextonref14_Right.j0]
    cases b with
    | true => rw [if_pos rfl]; rfl
    | false =>
      rw [if_neg (by decide)]
      have := right_loop xs hl xs.length k 0 0 (by omega) (by omega)
      rw [List.drop_zero] at this
      exact this
  have hT := hj true
  rw [show (!true && entsOk 0 xs) = false from rfl] at hT
  unfold sextonref14_Right.f
  rw [hT]
  unfold rightA headOk
  by_cases h1 : e < 0
  · rw [if_pos h1, upP_false0 (by omega)]; rfl
  rw [if_neg h1]
  by_cases h1b : e > 65535
  · rw [if_pos h1b, upP_false1 (by omega)]; rfl
  rw [if_neg h1b, upP_true (by omega) (by omega), ref_handle14, Option.bind_some, Bool.true_and]
  cases h2 : (upP no 255 && upP gen 1099511627776) with
  | false => rw [if_neg (by decide)]; rfl
  | true =>
    rw [if_pos rfl, AttrFns.right_is, Option.bind_some, Bool.true_and]
    by_cases h3 : AttrFns.Rt ki li si st
    · rw [decide_eq_true h3, if_pos rfl, Bool.true_and]
      by_cases h4 : (d.size : Int) > 512
      · rw [if_pos h4, decide_eq_false (show ¬ (d.size : Int) ≤ 512 by omega)]; rfl
      rw [if_neg h4, decide_eq_true (show (d.size : Int) ≤ 512 by omega), Bool.true_and]
      by_cases h5 : (xs.length : Int) > 64
      · rw [if_pos h5, decide_eq_false (show ¬ (xs.length : Int) ≤ 64 by omega)]; rfl
      rw [if_neg h5, decide_eq_true (show (xs.length : Int) ≤ 64 by omega), Bool.true_and]
      by_cases h6 : n < 0
      · rw [if_pos h6, upP_false0 (by omega)]; rfl
      rw [if_neg h6, hj]
      by_cases h7 : n > 1099511627776
      · rw [decide_eq_true h7, upP_false1 (by omega)]; rfl
      · rw [decide_eq_false h7, upP_true (by omega) (by omega)]; rfl
    · rw [decide_eq_false h3, if_neg (by decide)]; rfl
end Go.Proofs.Ytbnnmbajfmodjaa.AnsFns
end

section
/- A reply's bytes: what answer.Pack comes to. -/
namespace Go.Proofs.Ytbnnmbajfmodjaa.AnsFns
open Go.RowKit Go.Proofs.Ytbnnmbajfmodjaa.FA Go.Proofs.YtbnnmbajfmodjaaW.PrintWords Go.Proofs.YtbnnmbajfmodjaaW.PrintLast Go.Proofs.YtbnnmbajfmodjaaW.PrintMore Go.Proofs.Ytbnnmbajfmodjaa.B Go.Proofs.Ytbnnmbajfmodjaa.TlvFns
set_option linter.unusedVariables false
set_option linter.unusedSimpArgs false
def optF (t : Int) (v : ByteArray) (b : Bool) : List (Int × ByteArray) := if b = true then [(t, v)] else []
def entV (x : S52) : ByteArray := ((numVal x.f1 6).1 ++ ((numVal x.f2.f0 1).1 ++ (numVal x.f2.f1 6).1)) ++ x.f0
def entF (l : List S52) : List (Int × ByteArray) := l.map fun x => ((5 : Int), entV x)
def handV (no gen : Int) : ByteArray := (numVal no 1).1 ++ (numVal gen 6).1
def attrV (ki li si st : Int) : ByteArray := ⟨(AttrFns.bytes12 ki li si st).toArray⟩
def headF (e no gen ki li si st : Int) (d : ByteArray) : List (Int × ByteArray) := ((optF 1 (numVal e 2).1 (e != 0) ++ optF 2 (handV no gen) (neqH no gen)) ++ optF 3 (attrV ki li si st) (neqA ki li si st)) ++ optF 4 d (!d.toList.isEmpty)
def flds (e no gen ki li si st : Int) (d : ByteArray) (xs : List S52) (n : Int) : List (Int × ByteArray) := (headF e no gen ki li si st d ++ entF xs) ++ optF 6 (numVal n 6).1 (n != 0)
def packA (e no gen ki li si st : Int) (d : ByteArray) (xs : List S52) (n : Int) : ByteArray × Int := if rightA e no gen ki li si st d xs n = true then (⟨(packB (flds e no gen ki li si st d xs n)).toArray⟩, 0) else (⟨#[]⟩, 4)
theorem nameOk_size {s : ByteArray} (h : nameOk s = true) : s.size ≤ 32 := by
  unfold nameOk plainName at h
  simp only [Bool.and_eq_true, decide_eq_true_eq] at h
  omega
theorem upP_of {n m : Int} (h : upP n m = true) : 0 ≤ n ∧ n ≤ m := of_decide_eq_true h
/-- An entry that is right. -/
structure EntR (x : S52) : Prop where
  c1 : x.f1 ≤ 1099511627776
  nm : nameOk x.f0 = true
  no0 : 0 ≤ x.f2.f0
  no1 : x.f2.f0 ≤ 255
  g0 : 0 ≤ x.f2.f1
  g1 : x.f2.f1 ≤ 1099511627776
theorem entsOk_mem : ∀ {l : List S52} {p : Int}, entsOk p l = true → ∀ x ∈ l, EntR x ∧ p < x.f1
  | [], p, h, x, hx => by simp at hx
  | y :: l, p, h, x, hx => by
    simp only [entsOk, Bool.and_eq_true, decide_eq_true_eq] at h
    obtain ⟨⟨⟨⟨h1, h2⟩, h3⟩, h4, h5⟩, h6⟩ := h
    rcases List.mem_cons.1 hx with rfl | hx
    · exact ⟨⟨h2, h3, (upP_of h4).1, (upP_of h4).2, (upP_of h5).1, (upP_of h5).2⟩, h1⟩
    · obtain ⟨h7, h8⟩ := entsOk_mem h6 x hx
      exact ⟨h7, by omega⟩
structure RightR (e no gen ki li si st : Int) (d : ByteArray) (xs : List S52) (n : Int) : Prop where
  e0 : 0 ≤ e
  e1 : e ≤ 65535
  no0 : 0 ≤ no
  no1 : no ≤ 255
  g0 : 0 ≤ gen
  g1 : gen ≤ 1099511627776
  rt : AttrFns.Rt ki li si st
  ds : d.size ≤ 512
  len : xs.length ≤ 64
  n0 : 0 ≤ n
  n1 : n ≤ 1099511627776
  ents : entsOk 0 xs = true
theorem right_parts14 {e no gen ki li si st : Int} {d : ByteArray} {xs : List S52} {n : Int} (h : rightA e no gen ki li si st d xs n = true) : RightR e no gen ki li si st d xs n := by
  unfold rightA headOk at h
  simp only [Bool.and_eq_true, decide_eq_true_eq] at h
  obtain ⟨⟨⟨⟨⟨⟨h1, h2, h3⟩, h4⟩, h5⟩, h6⟩, h7⟩, h8⟩ := h
  exact ⟨(upP_of h1).1, (upP_of h1).2, (upP_of h2).1, (upP_of h2).2, (upP_of h3).1, (upP_of h3).2, h4, by omega, by omega, (upP_of h7).1, (upP_of h7).2, h8⟩
theorem entV_size (x : S52) (h : nameOk x.f0 = true) : (entV x).size ≤ 56 := by
  have h1 := numVal_size x.f1 6
  have h2 := numVal_size x.f2.f0 1
  have h3 := numVal_size x.f2.f1 6
  have h4 := nameOk_size h
  unfold entV
  simp only [ByteArray.size_append]
  omega
theorem bytes12_size (a b c d : Int) : (attrV a b c d).size = 12 := by
  unfold attrV
  rw [mk_size]
  simp [AttrFns.bytes12, be_length]
/-- Fields of tags up to c, right behind any tag up to b. -/
def OkF (b c : Int) (l : List (Int × ByteArray)) : Prop := (∀ p ∈ l, p.1 ≤ c) ∧ ∀ a, a ≤ b → packE a l = 0
theorem packE_app {c : Int} {l2 : List (Int × ByteArray)} (h2 : ∀ a, a ≤ c → packE a l2 = 0) : ∀ (l1 : List (Int × ByteArray)) (a : Int), packE a l1 = 0 → (∀ p ∈ l1, p.1 ≤ c) → a ≤ c → packE a (l1 ++ l2) = 0
  | [], a, h, hc, ha => h2 a ha
  | x :: l1, a, h, hc, ha => by
    simp only [packE] at h
    simp only [List.cons_append, packE]
    by_cases g1 : x.1 < 1 ∨ 255 < x.1
    · rw [if_pos g1] at h; exact absurd h (by decide)
    rw [if_neg g1] at h ⊢
    by_cases g2 : 65535 < x.2.size
    · rw [if_pos g2] at h; exact absurd h (by decide)
    rw [if_neg g2] at h ⊢
    by_cases g3 : x.1 < a
    · rw [if_pos g3] at h; exact absurd h (by decide)
    rw [if_neg g3] at h ⊢
    exact packE_app h2 l1 x.1 h (fun p hp => hc p (List.mem_cons_of_mem _ hp)) (hc x List.mem_cons_self)
theorem OkF.app {b c c' d : Int} {l1 l2 : List (Int × ByteArray)} (h1 : OkF b c l1) (h2 : OkF c' d l2) (hb : b ≤ c) (hc : c ≤ c') (hd : c ≤ d) : OkF b d (l1 ++ l2) := by
  refine ⟨fun p hp => ?_, fun a ha => packE_app (fun a ha => h2.2 a (by omega)) l1 a (h1.2 a ha) h1.1 (by omega)⟩
  rcases List.mem_append.1 hp with hp | hp
  · have := h1.1 p hp; omega
  · exact h2.1 p hp
theorem OkF.opt (t : Int) (v : ByteArray) (b : Bool) (h0 : 1 ≤ t) (h1 : t ≤ 255) (hv : v.size ≤ 65535) : OkF t t (optF t v b) := by
  cases b with
  | false => exact ⟨fun p hp => by simp [optF] at hp, fun a _ => rfl⟩
  | true =>
    refine ⟨fun p hp => ?_, fun a ha => ?_⟩
    · simp only [optF, if_true, List.mem_singleton] at hp
      rw [hp]; exact Int.le_refl _
    · simp only [optF, if_true, packE]
      rw [if_neg (by omega), if_neg (by omega), if_neg (by omega)]
theorem OkF.ents : ∀ (l : List S52), (∀ x ∈ l, (entV x).size ≤ 65535) → OkF 5 5 (entF l)
  | [], _ => ⟨fun p hp => by simp [entF] at hp, fun a _ => rfl⟩
  | x :: l, h => by
    obtain ⟨h1, h2⟩ := OkF.ents l (fun y hy => h y (List.mem_cons_of_mem _ hy))
    refine ⟨fun p hp => ?_, fun a ha => ?_⟩
    · rcases List.mem_cons.1 hp with rfl | hp
      · exact Int.le_refl _
      · exact h1 p hp
    · show packE a ((5, entV x) :: entF l) = 0
      have := h x List.mem_cons_self
      simp only [packE]
      rw [if_neg (by omega), if_neg (by omega), if_neg (by omega)]
      exact h2 5 (by omega)
theorem packB_len (m : Nat) : ∀ l : List (Int × ByteArray), (∀ p ∈ l, p.2.size ≤ m) → (packB l).length ≤ (m + 3) * l.length
  | [], _ => Nat.zero_le _
  | x :: l, h => by
    have ih := packB_len m l (fun p hp => h p (List.mem_cons_of_mem _ hp))
    have := h x List.mem_cons_self
    simp only [packB, List.length_append, fieldB_length, List.length_cons]
    rw [Nat.mul_add]
    omega
theorem optF_len (t : Int) (v : ByteArray) (b : Bool) : (optF t v b).length ≤ 1 := by cases b <;> simp [optF]
theorem optF_mem {t : Int} {v : ByteArray} {b : Bool} {p : Int × ByteArray} (h : p ∈ optF t v b) : p = (t, v) := by
  cases b with
  | false => simp [optF] at h
  | true => simpa [optF] using h
section
variable {e no gen ki li si st : Int} {d : ByteArray} {xs : List S52} {n : Int}
theorem headF_ok (h : RightR e no gen ki li si st d xs n) : OkF 1 4 (headF e no gen ki li si st d) := by
  have s1 := numVal_size e 2
  have s2 := numVal_size no 1
  have s3 := numVal_size gen 6
  have s4 := bytes12_size ki li si st
  have s5 := h.ds
  unfold headF
  refine OkF.app (c := 3) (c' := 4) (OkF.app (c := 2) (c' := 3) (OkF.app (c := 1) (c' := 2) (OkF.opt 1 _ _ (by decide) (by decide) (by omega)) (OkF.opt 2 _ _ (by decide) (by decide) ?_) (by decide) (by decide) (by decide)) (OkF.opt 3 _ _ (by decide) (by decide) (by omega)) (by decide) (by decide) (by decide)) (OkF.opt 4 _ _ (by decide) (by decide) (by omega)) (by decide) (by decide) (by decide)
  unfold handV
  rw [ByteArray.size_append]
  omega
theorem flds_ok (h : RightR e no gen ki li si st d xs n) : OkF 1 6 (flds e no gen ki li si st d xs n) := by
  have s1 := numVal_size n 6
  unfold flds
  exact OkF.app (c := 5) (c' := 6) (OkF.app (c := 4) (c' := 5) (headF_ok h) (OkF.ents xs (fun x hx => by have := entV_size x (entsOk_mem h.ents x hx).1.nm; omega)) (by decide) (by decide) (by decide)) (OkF.opt 6 _ _ (by decide) (by decide) (by omega)) (by decide) (by decide) (by decide)
theorem flds_E (h : RightR e no gen ki li si st d xs n) : packE 0 (flds e no gen ki li si st d xs n) = 0 := (flds_ok h).2 0 (by decide)
theorem flds_len : (flds e no gen ki li si st d xs n).length ≤ xs.length + 5 := by
  unfold flds headF
  simp only [List.length_append]
  have h1 := optF_len 1 (numVal e 2).1 (e != 0)
  have h2 := optF_len 2 (handV no gen) (neqH no gen)
  have h3 := optF_len 3 (attrV ki li si st) (neqA ki li si st)
  have h4 := optF_len 4 d (!d.toList.isEmpty)
  have h5 := optF_len 6 (numVal n 6).1 (n != 0)
  have h6 : (entF xs).length = xs.length := by simp [entF]
  omega
theorem flds_small (h : RightR e no gen ki li si st d xs n) : ∀ p ∈ flds e no gen ki li si st d xs n, p.2.size ≤ 512 := by
  have s1 := numVal_size e 2
  have s2 := numVal_size no 1
  have s3 := numVal_size gen 6
  have s4 := bytes12_size ki li si st
  have s5 := h.ds
  have s6 := numVal_size n 6
  intro p hp
  unfold flds headF at hp
  simp only [List.mem_append] at hp
  rcases hp with ((((hp | hp) | hp) | hp) | hp) | hp
  · rw [optF_mem hp]; show (numVal e 2).1.size ≤ 512; omega
  · rw [optF_mem hp]; show (handV no gen).size ≤ 512; unfold handV; rw [ByteArray.size_append]; omega
  · rw [optF_mem hp]; show (attrV ki li si st).size ≤ 512; omega
  · rw [optF_mem hp]; exact s5
  · obtain ⟨x, hx, rfl⟩ := List.mem_map.1 hp
    have := entV_size x (entsOk_mem h.ents x hx).1.nm
    show (entV x).size ≤ 512
    omega
  · rw [optF_mem hp]; show (numVal n 6).1.size ≤ 512; omega
theorem flds_bytes (h : RightR e no gen ki li si st d xs n) : (packB (flds e no gen ki li si st d xs n)).length ≤ 35535 := by
  have h1 := packB_len 512 _ (flds_small h)
  have h2 := flds_len (e := e) (no := no) (gen := gen) (ki := ki) (li := li) (si := si) (st := st) (d := d) (xs := xs) (n := n)
  have h3 := h.len
  have h4 : (512 + 3) * (flds e no gen ki li si st d xs n).length ≤ (512 + 3) * 69 := Nat.mul_le_mul_left _ (by omega)
  omega
end
theorem bytes_is14 (n size : Int) (hn : n ≤ 9223372036854775807) (k : Nat) (hk : 12 ≤ k) : answer_bytes.f k n size = some (numVal n size).1 := by
  unfold answer_bytes.f
  rw [num_is n size hn k hk]
  rfl
theorem to_is14 (a b : Int) (ha : a ≤ 9223372036854775807) (hb : b ≤ 9223372036854775807) (k : Nat) (hk : 12 ≤ k) : answer_to.f k a b = some (handV a b) := by
  unfold answer_to.f
  rw [bytes_is14 a 1 ha k hk, bytes_is14 b 6 hb k hk, Option.bind_some, Option.bind_some, if_pos (two_small a b)]
  rfl
theorem ent_is14 (x : S52) (h : EntR x) (k : Nat) (hk : 12 ≤ k) : answer_ent k x = some (entV x) := by
  have h1 := numVal_size x.f1 6
  have h2 := numVal_size x.f2.f0 1
  have h3 := numVal_size x.f2.f1 6
  have h4 := nameOk_size h.nm
  have c1 := h.c1
  have c2 := h.no1
  have c3 := h.g1
  unfold answer_ent
  rw [bytes_is14 x.f1 6 (by omega) k hk, to_is14 _ _ (by omega) (by omega) k hk, Option.bind_some, Option.bind_some]
  unfold sum2 handV
  rw [if_pos (by simp only [ByteArray.size_append]; omega), Option.bind_some, if_pos (by simp only [ByteArray.size_append]; omega)]
  rfl
theorem ents_is14 (k : Nat) (hk : 12 ≤ k) : ∀ l : List S52, (∀ x ∈ l, EntR x) → answer_ents k l = some (l.map entV)
  | [], _ => rfl
  | x :: l, h => by
    unfold answer_ents
    rw [ent_is14 x (h x List.mem_cons_self) k hk, ents_is14 k hk l (fun y hy => h y (List.mem_cons_of_mem _ hy))]
    rfl
theorem fl_putF (t : Int) (v : ByteArray) (b : Bool) : fl (putF t v b) = optF t v b := by cases b <;> rfl
theorem fl_app (a b : List S46) : fl (a ++ b) = fl a ++ fl b := List.map_append
theorem fl_ents (l : List S52) : fl ((l.map entV).map (fun v => (⟨5, v⟩ : S46))) = entF l := by
  unfold fl entF
  rw [List.map_map, List.map_map]
  rfl
theorem pack_is14 (e no gen ki li si st : Int) (d : ByteArray) (xs : List S52) (n : Int) (hl : xs.length ≤ 9223372036854775806) (k : Nat) (hk : xs.length + 200 ≤ k) : answer_Pack.f k e no gen ki li si st d xs n = some (packA e no gen ki li si st d xs n) := by
  unfold answer_Pack.f packA
  rw [check_is _ _ _ _ _ _ _ _ _ _ hl k (by omega), Option.bind_some]
  by_cases h : rightA e no gen ki li si st d xs n = true
  · have hr := right_parts14 h
    have r1 := hr.e1
    have r2 := hr.no1
    have r3 := hr.g1
    have r4 := hr.n1
    have r5 := hr.len
    rw [h, if_pos rfl, if_pos (show eOf true = 0 from rfl), if_pos (by omega), AttrFns.pack_is, if_pos hr.rt, Option.bind_some]
    show ((answer_bytes.f k e 2).bind fun s1 => _) = _
    rw [bytes_is14 e 2 (by omega) k (by omega), to_is14 no gen (by omega) (by omega) k (by omega), ents_is14 k (by omega) xs (fun x hx => (entsOk_mem hr.ents x hx).1), bytes_is14 n 6 (by omega) k (by omega)]
    simp only [Option.bind_some]
    have hfl : fl ((((([] ++ putF 1 (numVal e 2).1 (e != 0)) ++ putF 2 (handV no gen) (neqH no gen)) ++ putF 3 (attrV ki li si st) (neqA ki li si st)) ++ putF 4 d (!d.toList.isEmpty) ++ (xs.map entV).map (fun v => (⟨5, v⟩ : S46))) ++ putF 6 (numVal n 6).1 (n != 0)) = flds e no gen ki li si st d xs n := by
      simp only [fl_app, fl_putF, fl_ents, List.nil_append]
      rfl
    have hb := flds_bytes hr
    have hll := flds_len (e := e) (no := no) (gen := gen) (ki := ki) (li := li) (si := si) (st := st) (d := d) (xs := xs) (n := n)
    have hp := pack_is ((((([] ++ putF 1 (numVal e 2).1 (e != 0)) ++ putF 2 (handV no gen) (neqH no gen)) ++ putF 3 (attrV ki li si st) (neqA ki li si st)) ++ putF 4 d (!d.toList.isEmpty) ++ (xs.map entV).map (fun v => (⟨5, v⟩ : S46))) ++ putF 6 (numVal n 6).1 (n != 0)) (by rw [hfl]; omega) k (by
      have := congrArg List.length hfl
      rw [show ∀ l, (fl l).length = l.length from fun l => List.length_map _] at this
      omega)
    rw [hfl] at hp
    refine hp.trans ?_
    unfold packVal
    rw [if_pos (flds_E hr)]
  · rw [if_neg h, Bool.eq_false_iff.2 h]
    rfl
end Go.Proofs.Ytbnnmbajfmodjaa.AnsFns
end

section
/- Which bytes are a reply: what answer.Unpack comes to. -/
namespace Go.Proofs.Ytbnnmbajfmodjaa.AnsFns
open Go.RowKit Go.Proofs.Ytbnnmbajfmodjaa.FA Go.Proofs.YtbnnmbajfmodjaaW.PrintWords Go.Proofs.YtbnnmbajfmodjaaW.PrintLast Go.Proofs.YtbnnmbajfmodjaaW.PrintMore Go.Proofs.Ytbnnmbajfmodjaa.B Go.Proofs.Ytbnnmbajfmodjaa.TlvFns
set_option linter.unusedVariables false
set_option linter.unusedSimpArgs false
/-- A number taken from the front. -/
def numV (s : ByteArray) (b : Bool) (n : Nat) : Int × ByteArray × Bool := if s.size < n then (0, s, true) else ((numberOf (s.extract 0 n)).1, s.extract n s.size, b)
theorem cut_num (s : ByteArray) (b : Bool) (n : Nat) (k : Nat) (hk : 12 ≤ k) : answer_cutter_num.f k s b (n : Int) = some (numV s b n) := by
  unfold answer_cutter_num.f numV
  by_cases h : s.size < n
  · rw [if_pos (by omega), if_pos h]
  · rw [if_neg (by omega), if_neg h, if_pos (by omega), if_pos (by omega), number_is _ k hk, Option.bind_some, Int.toNat_natCast]
/-- A handle taken from the front. -/
def hanV (s : ByteArray) (b : Bool) : Int × Int × ByteArray × Bool := ((numV s b 1).1, (numV (numV s b 1).2.1 (numV s b 1).2.2 6).1, (numV (numV s b 1).2.1 (numV s b 1).2.2 6).2.1, (numV (numV s b 1).2.1 (numV s b 1).2.2 6).2.2)
theorem cut_han (s : ByteArray) (b : Bool) (k : Nat) (hk : 12 ≤ k) : answer_cutter_handle.f k s b = some (hanV s b) := by
  unfold answer_cutter_handle.f
  have h1 : answer_cutter_num.f k s b 1 = some (numV s b 1) := cut_num s b 1 k hk
  have h2 : answer_cutter_num.f k (numV s b 1).2.1 (numV s b 1).2.2 6 = some (numV (numV s b 1).2.1 (numV s b 1).2.2 6) := cut_num _ _ 6 k hk
  rw [h1, Option.bind_some, h2, Option.bind_some]
  rfl
/-- One field is read. -/
def stepP (f : S46) (r : Rep) : Rep × Bool :=
  if f.f0 = 1 then ({ r with e := (numV f.f1 false 2).1 }, (numV f.f1 false 2).2.2)
  else if f.f0 = 2 then ({ r with no := (hanV f.f1 false).1, gen := (hanV f.f1 false).2.1 }, (hanV f.f1 false).2.2.2)
  else if f.f0 = 3 then ({ r with ki := (AttrFns.unpackV f.f1).1, li := (AttrFns.unpackV f.f1).2.1, si := (AttrFns.unpackV f.f1).2.2.1, st := (AttrFns.unpackV f.f1).2.2.2.1 }, false)
  else if f.f0 = 4 then ({ r with d := f.f1 }, false)
  else if f.f0 = 5 then ({ r with xs := r.xs ++ [⟨(hanV (numV f.f1 false 6).2.1 (numV f.f1 false 6).2.2).2.2.1, (numV f.f1 false 6).1, ⟨(hanV (numV f.f1 false 6).2.1 (numV f.f1 false 6).2.2).1, (hanV (numV f.f1 false 6).2.1 (numV f.f1 false 6).2.2).2.1⟩⟩] }, (hanV (numV f.f1 false 6).2.1 (numV f.f1 false 6).2.2).2.2.2)
  else if f.f0 = 6 then ({ r with n := (numV f.f1 false 6).1 }, (numV f.f1 false 6).2.2)
  else (r, false)
theorem stepP_1 (v : ByteArray) (r : Rep) : stepP ⟨1, v⟩ r = ({ r with e := (numV v false 2).1 }, (numV v false 2).2.2) := rfl
theorem stepP_2 (v : ByteArray) (r : Rep) : stepP ⟨2, v⟩ r = ({ r with no := (hanV v false).1, gen := (hanV v false).2.1 }, (hanV v false).2.2.2) := rfl
theorem stepP_3 (v : ByteArray) (r : Rep) : stepP ⟨3, v⟩ r = ({ r with ki := (AttrFns.unpackV v).1, li := (AttrFns.unpackV v).2.1, si := (AttrFns.unpackV v).2.2.1, st := (AttrFns.unpackV v).2.2.2.1 }, false) := rfl
theorem stepP_5 (v : ByteArray) (r : Rep) : stepP ⟨5, v⟩ r = ({ r with xs := r.xs ++ [⟨(hanV (numV v false 6).2.1 (numV v false 6).2.2).2.2.1, (numV v false 6).1, ⟨(hanV (numV v false 6).2.1 (numV v false 6).2.2).1, (hanV (numV v false 6).2.1 (numV v false 6).2.2).2.1⟩⟩] }, (hanV (numV v false 6).2.1 (numV v false 6).2.2).2.2.2) := rfl
theorem stepP_6 (v : ByteArray) (r : Rep) : stepP ⟨6, v⟩ r = ({ r with n := (numV v false 6).1 }, (numV v false 6).2.2) := rfl
theorem step_is (f : S46) (r : Rep) (hr : r.xs.length ≤ 1000000000) (k : Nat) (hk : 12 ≤ k) : stepA k f r = some (stepP f r) := by
  have h2 : answer_cutter_num.f k f.f1 false 2 = some (numV f.f1 false 2) := cut_num _ _ 2 k hk
  have h6 : answer_cutter_num.f k f.f1 false 6 = some (numV f.f1 false 6) := cut_num _ _ 6 k hk
  unfold stepA stepP
  rw [h2, h6, cut_han _ _ k hk, AttrFns.unpack_is]
  simp only [Option.bind_some]
  rw [cut_han _ _ k hk, Option.bind_some, if_pos hr]
  by_cases g1 : f.f0 = 1
  · rw [if_pos g1, if_pos g1]
  rw [if_neg g1, if_neg g1]
  by_cases g2 : f.f0 = 2
  · rw [if_pos g2, if_pos g2]
  rw [if_neg g2, if_neg g2]
  by_cases g3 : f.f0 = 3
  · rw [if_pos g3, if_pos g3]
  rw [if_neg g3, if_neg g3]
  by_cases g4 : f.f0 = 4
  · rw [if_pos g4, if_pos g4]
  rw [if_neg g4, if_neg g4]
  by_cases g5 : f.f0 = 5
  · rw [if_pos g5, if_pos g5]
  rw [if_neg g5, if_neg g5]
  by_cases g6 : f.f0 = 6
  · rw [if_pos g6, if_pos g6]
  rw [if_neg g6, if_neg g6]
theorem step_len (f : S46) (r : Rep) : (stepP f r).1.xs.length ≤ r.xs.length + 1 := by
  unfold stepP
  (repeat' split) <;> simp
def loopP : List S46 → Rep → Option Rep
  | [], r => some r
  | f :: l, r => if (stepP f r).2 = true then none else loopP l (stepP f r).1
theorem loop_is (k : Nat) (hk : 12 ≤ k) : ∀ (l : List S46) (r : Rep), r.xs.length + l.length ≤ 1000000000 → loopA k l r = some (loopP l r)
  | [], r, _ => rfl
  | f :: l, r, h => by
    rw [List.length_cons] at h
    unfold loopA loopP
    rw [step_is f r (by omega) k hk, Option.bind_some]
    by_cases h1 : (stepP f r).2 = true
    · rw [if_pos h1, if_pos h1]
    · rw [if_neg h1, if_neg h1]
      have := step_len f r
      exact loop_is k hk l _ (by omega)
theorem loopP_len : ∀ (l : List S46) (r q : Rep), loopP l r = some q → q.xs.length ≤ r.xs.length + l.length
  | [], r, q, h => by cases h; exact Nat.le_add_right _ _
  | f :: l, r, q, h => by
    unfold loopP at h
    by_cases h1 : (stepP f r).2 = true
    · rw [if_pos h1] at h; cases h
    · rw [if_neg h1] at h
      have h2 := loopP_len l _ q h
      have h3 := step_len f r
      rw [List.length_cons]
      omega
theorem loopP_app : ∀ (l m : List S46) (r : Rep), loopP (l ++ m) r = (loopP l r).bind (loopP m)
  | [], m, r => rfl
  | f :: l, m, r => by
    rw [List.cons_append]
    unfold loopP
    by_cases h1 : (stepP f r).2 = true
    · rw [if_pos h1, if_pos h1]; rfl
    · rw [if_neg h1, if_neg h1, loopP_app l m]
theorem extract_list (s : ByteArray) (a b : Nat) : (s.extract a b).toList = (s.toList.drop a).take (b - a) := by rw [Lib.extract_toList, ← Lib.toList_data]
theorem numV_app (n : Int) (s : Nat) (t : ByteArray) (b : Bool) (h0 : 1 ≤ s) (h8 : s ≤ 8) (hn : 0 ≤ n) (hb : n < 256 ^ s) (hm : n < 9223372036854775808) : numV ((numVal n (s : Int)).1 ++ t) b s = (n, t, b) := by
  rw [numVal_ok n s h0 h8 hn hb]
  have hz : (⟨(be s n).toArray⟩ : ByteArray).size = s := by rw [mk_size (be s n), be_length]
  have hl : ((⟨(be s n).toArray⟩ : ByteArray) ++ t).toList = be s n ++ t.toList := by rw [app_list, mk_toList (be s n)]
  have x1 : ((⟨(be s n).toArray⟩ : ByteArray) ++ t).extract 0 s = ⟨(be s n).toArray⟩ := by
    apply ext_list
    rw [extract_list, hl, mk_toList (be s n), List.drop_zero, List.take_left' (by rw [be_length]; omega)]
  have x2 : ((⟨(be s n).toArray⟩ : ByteArray) ++ t).extract s ((⟨(be s n).toArray⟩ : ByteArray) ++ t).size = t := by
    apply ext_list
    rw [extract_list, hl, List.drop_left' (be_length s n), List.take_of_length_le (by rw [ByteArray.size_append, hz, len_eq]; omega)]
  unfold numV
  show (if ((⟨(be s n).toArray⟩ : ByteArray) ++ t).size < s then _ else _) = _
  rw [if_neg (by rw [ByteArray.size_append, hz]; omega)]
  show ((numberOf (((⟨(be s n).toArray⟩ : ByteArray) ++ t).extract 0 s)).1, ((⟨(be s n).toArray⟩ : ByteArray) ++ t).extract s ((⟨(be s n).toArray⟩ : ByteArray) ++ t).size, b) = (n, t, b)
  rw [x1, x2, numberOf_be n s h0 h8 hn hb hm]
theorem app_nil (s : ByteArray) : s ++ (⟨#[]⟩ : ByteArray) = s := by
  apply ext_list
  rw [app_list, show (⟨#[]⟩ : ByteArray).toList = [] from mk_toList [], List.append_nil]
theorem app_assoc3 (a b c : ByteArray) : (a ++ b) ++ c = a ++ (b ++ c) := by
  apply ext_list
  simp only [app_list, List.append_assoc]
theorem numV_one (n : Int) (s : Nat) (b : Bool) (h0 : 1 ≤ s) (h8 : s ≤ 8) (hn : 0 ≤ n) (hb : n < 256 ^ s) (hm : n < 9223372036854775808) : numV (numVal n (s : Int)).1 b s = (n, ⟨#[]⟩, b) := by
  have h := numV_app n s ⟨#[]⟩ b h0 h8 hn hb hm
  rw [app_nil] at h
  exact h
theorem hanV_app (no gen : Int) (t : ByteArray) (b : Bool) (h0 : 0 ≤ no) (h1 : no ≤ 255) (h2 : 0 ≤ gen) (h3 : gen ≤ 1099511627776) : hanV (handV no gen ++ t) b = (no, gen, t, b) := by
  have e1 : numV (handV no gen ++ t) b 1 = (no, (numVal gen 6).1 ++ t, b) := by
    unfold handV
    rw [app_assoc3]
    exact numV_app no 1 _ b (by decide) (by decide) h0 (by omega) (by omega)
  have e2 : numV ((numVal gen 6).1 ++ t) b 6 = (gen, t, b) := numV_app gen 6 t b (by decide) (by decide) h2 (by omega) (by omega)
  unfold hanV
  rw [e1]
  show (no, (numV ((numVal gen 6).1 ++ t) b 6).1, (numV ((numVal gen 6).1 ++ t) b 6).2.1, (numV ((numVal gen 6).1 ++ t) b 6).2.2) = _
  rw [e2]
theorem hanV_one (no gen : Int) (b : Bool) (h0 : 0 ≤ no) (h1 : no ≤ 255) (h2 : 0 ≤ gen) (h3 : gen ≤ 1099511627776) : hanV (handV no gen) b = (no, gen, ⟨#[]⟩, b) := by
  have h := hanV_app no gen ⟨#[]⟩ b h0 h1 h2 h3
  rw [app_nil] at h
  exact h
theorem step_ent (x : S52) (hx : EntR x) (hp : 0 < x.f1) (r : Rep) : stepP ⟨5, entV x⟩ r = ({ r with xs := r.xs ++ [x] }, false) := by
  have c1 := hx.c1
  have e1 : numV (entV x) false 6 = (x.f1, handV x.f2.f0 x.f2.f1 ++ x.f0, false) := by
    unfold entV
    rw [app_assoc3]
    exact numV_app x.f1 6 _ false (by decide) (by decide) (by omega) (by omega) (by omega)
  have e2 := hanV_app x.f2.f0 x.f2.f1 x.f0 false hx.no0 hx.no1 hx.g0 hx.g1
  rw [stepP_5, e1]
  simp only [e2]
theorem loop_ents : ∀ (l : List S52) (r : Rep), (∀ x ∈ l, EntR x ∧ 0 < x.f1) → loopP ((entF l).map toF) r = some { r with xs := r.xs ++ l }
  | [], r, _ => by
    show some r = _
    rw [List.append_nil]
  | x :: l, r, h => by
    obtain ⟨hx, hp⟩ := h x List.mem_cons_self
    show loopP (⟨5, entV x⟩ :: (entF l).map toF) r = _
    unfold loopP
    rw [step_ent x hx hp r]
    show (if false = true then none else loopP ((entF l).map toF) { r with xs := r.xs ++ [x] }) = _
    rw [if_neg (by decide)]
    have ih := loop_ents l { r with xs := r.xs ++ [x] } (fun y hy => h y (List.mem_cons_of_mem _ hy))
    refine ih.trans ?_
    simp
theorem loop_opt (t : Int) (v : ByteArray) (b : Bool) (r q : Rep) (h1 : b = true → stepP ⟨t, v⟩ r = (q, false)) (h2 : b = false → r = q) : loopP ((optF t v b).map toF) r = some q := by
  cases b with
  | false => rw [h2 rfl]; rfl
  | true =>
    show loopP [⟨t, v⟩] r = some q
    unfold loopP
    rw [h1 rfl]
    rfl
def Rep.right (r : Rep) : Bool := rightA r.e r.no r.gen r.ki r.li r.si r.st r.d r.xs r.n
def Rep.flds (r : Rep) : List (Int × ByteArray) := AnsFns.flds r.e r.no r.gen r.ki r.li r.si r.st r.d r.xs r.n
def Rep.pack (r : Rep) : ByteArray × Int := packA r.e r.no r.gen r.ki r.li r.si r.st r.d r.xs r.n
theorem neqH_false {a b : Int} (h : neqH a b = false) : a = 0 ∧ b = 0 := by
  unfold neqH at h
  simpa using h
theorem neqA_false {a b c d : Int} (h : neqA a b c d = false) : a = 0 ∧ b = 0 ∧ c = 0 ∧ d = 0 := by
  unfold neqA at h
  simpa using h
theorem loop_flds (r : Rep) (h : Rep.right r = true) : loopP ((Rep.flds r).map toF) Rep.zero = some r := by
  obtain ⟨e, no, gen, ki, li, si, st, d, xs, n⟩ := r
  have hr : RightR e no gen ki li si st d xs n := right_parts14 h
  have r0 := hr.e0
  have r1 := hr.e1
  have r2 := hr.n0
  have r3 := hr.n1
  show loopP (((headF e no gen ki li si st d ++ entF xs) ++ optF 6 (numVal n 6).1 (n != 0)).map toF) Rep.zero = _
  unfold headF
  simp only [List.map_append, loopP_app]
  have s1 : loopP ((optF 1 (numVal e 2).1 (e != 0)).map toF) Rep.zero = some ⟨e, 0, 0, 0, 0, 0, 0, ⟨#[]⟩, [], 0⟩ := by
    refine loop_opt _ _ _ _ _ (fun _ => ?_) (fun hb => ?_)
    · have := numV_one e 2 false (by decide) (by decide) r0 (by omega) (by omega)
      rw [stepP_1, show numV (numVal e 2).1 false 2 = (e, ⟨#[]⟩, false) from this]
      rfl
    · obtain rfl : e = 0 := by simpa using hb
      rfl
  have s2 : loopP ((optF 2 (handV no gen) (neqH no gen)).map toF) ⟨e, 0, 0, 0, 0, 0, 0, ⟨#[]⟩, [], 0⟩ = some ⟨e, no, gen, 0, 0, 0, 0, ⟨#[]⟩, [], 0⟩ := by
    refine loop_opt _ _ _ _ _ (fun _ => ?_) (fun hb => ?_)
    · rw [stepP_2, hanV_one no gen false hr.no0 hr.no1 hr.g0 hr.g1]
    · obtain ⟨rfl, rfl⟩ := neqH_false hb
      rfl
  have s3 : loopP ((optF 3 (attrV ki li si st) (neqA ki li si st)).map toF) ⟨e, no, gen, 0, 0, 0, 0, ⟨#[]⟩, [], 0⟩ = some ⟨e, no, gen, ki, li, si, st, ⟨#[]⟩, [], 0⟩ := by
    refine loop_opt _ _ _ _ _ (fun _ => ?_) (fun hb => ?_)
    · rw [stepP_3, show AttrFns.unpackV (attrV ki li si st) = _ from AttrFns.unpackV_back ki li si st hr.rt]
    · obtain ⟨rfl, rfl, rfl, rfl⟩ := neqA_false hb
      rfl
  have s4 : loopP ((optF 4 d (!d.toList.isEmpty)).map toF) ⟨e, no, gen, ki, li, si, st, ⟨#[]⟩, [], 0⟩ = some ⟨e, no, gen, ki, li, si, st, d, [], 0⟩ := by
    refine loop_opt _ _ _ _ _ (fun _ => rfl) (fun hb => ?_)
    have : d.toList = [] := by simpa using hb
    rw [empty_eq this]
  have s5 : loopP ((entF xs).map toF) ⟨e, no, gen, ki, li, si, st, d, [], 0⟩ = some ⟨e, no, gen, ki, li, si, st, d, xs, 0⟩ := (loop_ents xs _ (fun x hx => entsOk_mem hr.ents x hx)).trans (by simp)
  have s6 : loopP ((optF 6 (numVal n 6).1 (n != 0)).map toF) ⟨e, no, gen, ki, li, si, st, d, xs, 0⟩ = some ⟨e, no, gen, ki, li, si, st, d, xs, n⟩ := by
    refine loop_opt _ _ _ _ _ (fun _ => ?_) (fun hb => ?_)
    · have := numV_one n 6 false (by decide) (by decide) r2 (by omega) (by omega)
      rw [stepP_6, show numV (numVal n 6).1 false 6 = (n, ⟨#[]⟩, false) from this]
    · obtain rfl : n = 0 := by simpa using hb
      rfl
  rw [s1, Option.bind_some, s2, Option.bind_some, s3, Option.bind_some, s4, Option.bind_some, s5, Option.bind_some, s6]
/-- What bytes are, told by a reader of fields. -/
def unF (q : List (Int × ByteArray) → Option Rep) (s : ByteArray) : RepT :=
  if (unpackVal s.toList).2 = 0 then (q (unpackVal s.toList).1).elim (Rep.zero.out 4) fun r => if (Rep.pack r).2 = 0 ∧ (Rep.pack r).1.toList = s.toList then r.out 0 else Rep.zero.out 4 else Rep.zero.out 4
theorem pack_of_right {r : Rep} (h : Rep.right r = true) : Rep.pack r = (⟨(packB (Rep.flds r)).toArray⟩, 0) := by
  unfold Rep.pack packA
  rw [if_pos (show rightA r.e r.no r.gen r.ki r.li r.si r.st r.d r.xs r.n = true from h)]
  rfl
theorem flds_unpack {r : Rep} (h : Rep.right r = true) : unpackVal (Rep.pack r).1.toList = (Rep.flds r, 0) := by
  rw [pack_of_right h, mk_toList (packB (Rep.flds r))]
  exact unpackVal_pack _ (flds_E (right_parts14 h))
theorem unF_good (q : List (Int × ByteArray) → Option Rep) (hq : ∀ r, Rep.right r = true → q (Rep.flds r) = some r) (r : Rep) (h : Rep.right r = true) : unF q (Rep.pack r).1 = r.out 0 := by
  unfold unF
  rw [flds_unpack h, if_pos rfl, hq r h]
  show (if _ then _ else _) = _
  rw [if_pos ⟨by rw [pack_of_right h], rfl⟩]
/-- The program's reader. -/
def readA (l : List (Int × ByteArray)) : Option Rep := loopP (l.map toF) Rep.zero
theorem unpack_is14 (s : ByteArray) (hs : s.size ≤ 100000000) (k : Nat) (hk : s.size + 300 ≤ k) : answer_Unpack.f k s = some (unF readA s) := by
  unfold answer_Unpack.f unF
  rw [unpack_is s (by omega) k (by omega), Option.bind_some]
  have hn : (unpackVal s.toList).1.length ≤ s.size := by rw [← len_eq]; exact unpackVal_length _
  by_cases h : (unpackVal s.toList).2 = 0
  · rw [if_pos h, if_pos h]
    show (if ((unpackVal s.toList).1.map toF).length ≤ 1000000000 then _ else _) = _
    generalize (unpackVal s.toList).1 = l at hn
    rw [if_pos (by rw [List.length_map]; omega)]
    show ((loopA k (l.map toF) Rep.zero).bind fun o => _) = _
    rw [loop_is k (by omega) _ _ (by rw [List.length_map]; show 0 + l.length ≤ _; omega), Option.bind_some]
    show _ = some ((readA l).elim _ _)
    unfold readA
    cases h2 : loopP (l.map toF) Rep.zero with
    | none => rfl
    | some r =>
      have hx := loopP_len _ _ _ h2
      rw [List.length_map] at hx
      have hx2 : r.xs.length ≤ 0 + l.length := hx
      show ((answer_Pack.f k r.e r.no r.gen r.ki r.li r.si r.st r.d r.xs r.n).bind fun p => _) = some (if _ then _ else _)
      rw [pack_is14 _ _ _ _ _ _ _ _ _ _ (by omega) k (by omega), Option.bind_some]
      show (if (Rep.pack r).2 = 0 then if (Rep.pack r).1.toList = s.toList then _ else _ else _) = some (if _ then _ else _)
      by_cases g1 : (Rep.pack r).2 = 0
      · by_cases g2 : (Rep.pack r).1.toList = s.toList
        · rw [if_pos g1, if_pos g2, if_pos ⟨g1, g2⟩]
        · rw [if_pos g1, if_neg g2, if_neg (fun h3 => g2 h3.2)]
      · rw [if_neg g1, if_neg (fun h3 => g1 h3.1)]
  · rw [if_neg h, if_neg h]
end Go.Proofs.Ytbnnmbajfmodjaa.AnsFns
end

section
/- The reply that a handle is stale; replies that are alike. -/
namespace Go.Proofs.Ytbnnmbajfmodjaa.AnsFns
open Go.RowKit Go.Proofs.Ytbnnmbajfmodjaa.FA Go.Proofs.YtbnnmbajfmodjaaW.PrintWords Go.Proofs.YtbnnmbajfmodjaaW.PrintLast Go.Proofs.YtbnnmbajfmodjaaW.PrintMore Go.Proofs.Ytbnnmbajfmodjaa.B Go.Proofs.Ytbnnmbajfmodjaa.TlvFns
set_option linter.unusedVariables false
set_option linter.unusedSimpArgs false
def staleR : Rep := ⟨401, 0, 0, 0, 0, 0, 0, ⟨#[]⟩, [], 0⟩
theorem stale_right : Rep.right staleR = true := by decide
theorem stale_flds : Rep.flds staleR = [(1, ⟨#[1, 145]⟩)] := by
  have e0 : (⟨#[]⟩ : ByteArray).toList = [] := mk_toList []
  have n1 : (numVal 401 2).1 = ⟨#[1, 145]⟩ := by rfl
  show flds 401 0 0 0 0 0 0 ⟨#[]⟩ [] 0 = _
  unfold flds headF
  rw [n1, e0]
  rfl
theorem stale_pack : (Rep.pack staleR).1 = ⟨#[1, 0, 2, 1, 145]⟩ := by
  rw [pack_of_right stale_right, stale_flds]
  have e1 : (⟨#[1, 145]⟩ : ByteArray).toList = [1, 145] := mk_toList [1, 145]
  have : packB [((1 : Int), (⟨#[1, 145]⟩ : ByteArray))] = [1, 0, 2, 1, 145] := by
    simp only [packB, fieldB, e1]
    decide
  rw [this]
theorem stale_is (k : Nat) (hk : 600 ≤ k) : sextonlaw14_stale.f k = some true := by
  have hp := pack_is14 401 0 0 0 0 0 0 ⟨#[]⟩ [] 0 (by decide) k (by simp only [List.length_nil]; omega)
  have hu := unpack_is14 (Rep.pack staleR).1 (by rw [stale_pack]; decide) k (by rw [stale_pack]; show 5 + 300 ≤ k; omega)
  rw [unF_good readA loop_flds staleR stale_right] at hu
  unfold sextonlaw14_stale.f
  rw [hp, Option.bind_some]
  show ((answer_Unpack.f k (Rep.pack staleR).1).bind fun bt216 => if (Rep.pack staleR).2 = 0 then _ else _) = _
  rw [hu, Option.bind_some, if_pos (by rw [pack_of_right stale_right])]
  show (if (0 : Int) = 0 then if (Rep.pack staleR).1.toList = ([1, 0, 2, 1, 145] : List UInt8) then _ else _ else _) = _
  rw [if_pos rfl, if_pos (by rw [stale_pack]; exact mk_toList [1, 0, 2, 1, 145])]
  rfl
end Go.Proofs.Ytbnnmbajfmodjaa.AnsFns
end

section
/- A reply's bytes: what the reference's Pack comes to. -/
namespace Go.Proofs.Ytbnnmbajfmodjaa.AnsFns
open Go.RowKit Go.Proofs.Ytbnnmbajfmodjaa.FA Go.Proofs.YtbnnmbajfmodjaaW.PrintWords Go.Proofs.YtbnnmbajfmodjaaW.PrintLast Go.Proofs.YtbnnmbajfmodjaaW.PrintMore Go.Proofs.Ytbnnmbajfmodjaa.B Go.Proofs.Ytbnnmbajfmodjaa.TlvFns
set_option linter.unusedVariables false
set_option linter.unusedSimpArgs false
theorem refbytes_is (n size : Int) (hn : n ≤ 9223372036854775807) (k : Nat) (hk : 12 ≤ k) : sextonref14_Bytes.f k n size = some (numVal n size).1 := by
  unfold sextonref14_Bytes.f
  rw [ref_num_is n size hn k hk]
  rfl
/-- The bytes of fields. -/
def bytesV (l : List (Int × ByteArray)) : ByteArray := ⟨(packB l).toArray⟩
theorem bytesV_list (l : List (Int × ByteArray)) : (bytesV l).toList = packB l := mk_toList _
theorem bytesV_size (l : List (Int × ByteArray)) : (bytesV l).size = (packB l).length := mk_size _
theorem bytesV_app (a b : List (Int × ByteArray)) : bytesV a ++ bytesV b = bytesV (a ++ b) := by
  apply ext_list
  rw [app_list, bytesV_list, bytesV_list, bytesV_list, packB_append]
theorem reffield_is (t : Int) (v : ByteArray) (b : Bool) (h0 : 1 ≤ t) (h1 : t ≤ 255) (hv : v.size ≤ 65535) (k : Nat) (hk : 4 ≤ k) : sextonref14_field.f k t v b = some (bytesV (optF t v b)) := by
  unfold sextonref14_field.f
  cases b with
  | false => rw [if_neg (by decide)]; rfl
  | true =>
    rw [if_pos rfl]
    have hfr : fr ([⟨t, v⟩] : List S78) = [(t, v)] := rfl
    have hb : packB [(t, v)] = fieldB t v := by simp [packB]
    have hpv : packVal [(t, v)] = (bytesV [(t, v)], 0) := by
      unfold packVal
      rw [if_pos (by simp only [packE]; rw [if_neg (by omega), if_neg (by omega), if_neg (by omega)])]
      rfl
    rw [ref_pack_is _ (by rw [hfr, hb, fieldB_length]; omega) k (by simp; omega), hfr, hpv]
    rfl
theorem optF_bytes (t : Int) (v : ByteArray) (b : Bool) : (bytesV (optF t v b)).size ≤ v.size + 3 := by
  rw [bytesV_size]
  cases b with
  | false => exact Nat.zero_le _
  | true => simp [optF, packB, fieldB_length]
theorem ref_ents_loop (xs : List S52) (hl : xs.length ≤ 64) (hR : ∀ x ∈ xs, EntR x) (e no gen ki li si st : Int) (d : ByteArray) (ys : List S52) (n : Int) (hn : n ≤ 9223372036854775807) (j : Nat) : ∀ (k i : Nat) (acc : ByteArray), i + j = xs.length → j + 20 < k → acc.size + j * 60 ≤ 100000 →
    sextonref14_Pack.l0 k acc xs (xs.length : Int) (i : Int) e no gen ki li si st d ys n = some ((acc ++ bytesV (entF (xs.drop i))) ++ bytesV (optF 6 (numVal n 6).1 (n != 0)), 0) := by
  induction j with
  | zero =>
    intro k i acc hd hk hs
    obtain ⟨k, rfl⟩ : ∃ m, k = m + 1 := ⟨k - 1, by omega⟩
    have s1 := numVal_size n 6
    have s2 := optF_bytes 6 (numVal n 6).1 (n != 0)
    simp only [sextonref14_Pack.l0]
    rw [if_neg (by omega), refbytes_is n 6 hn k (by omega), Option.bind_some, reffield_is 6 _ _ (by decide) (by decide) (by omega) k (by omega), Option.bind_some, if_pos (by omega), List.drop_of_length_le (by omega)]
    congr 2
    have : acc ++ bytesV (entF []) = acc := by
      apply ext_list
      rw [app_list, bytesV_list]
      simp [entF, packB]
    rw [this]
  | succ j ih =>
    intro k i acc hd hk hs
    obtain ⟨k, rfl⟩ : ∃ m, k = m + 1 := ⟨k - 1, by omega⟩
    have hlt : i < xs.length := by omega
    have hx := hR xs[i] (List.getElem_mem hlt)
    simp only [sextonref14_Pack.l0]
    rw [if_pos (by omega), if_pos (by omega), if_pos (by omega), wrap64_in (by omega) (by omega), show (i : Int) + 1 = ((i + 1 : Nat) : Int) by omega, rd_ent hlt, List.drop_eq_getElem_cons hlt]
    generalize xs[i] = x at hx
    have c1 := hx.c1
    have c2 := hx.no1
    have c3 := hx.g1
    have z1 := numVal_size x.f1 6
    have z2 := numVal_size x.f2.f0 1
    have z3 := numVal_size x.f2.f1 6
    have z4 := nameOk_size hx.nm
    have z5 := entV_size x hx.nm
    rw [refbytes_is _ 6 (by omega) k (by omega), Option.bind_some, refbytes_is _ 1 (by omega) k (by omega), Option.bind_some, if_pos (by omega), refbytes_is _ 6 (by omega) k (by omega), Option.bind_some, if_pos (by simp only [ByteArray.size_append]; omega), if_pos (by simp only [ByteArray.size_append]; omega)]
    have hv : (((numVal x.f1 6).1 ++ (numVal x.f2.f0 1).1) ++ (numVal x.f2.f1 6).1) ++ x.f0 = entV x := by
      unfold entV
      apply ext_list
      simp only [app_list, List.append_assoc]
    have hb := optF_bytes 5 (entV x) true
    rw [hv, reffield_is 5 _ true (by decide) (by decide) (by omega) k (by omega), Option.bind_some, if_pos (by omega), ih k (i + 1) _ (by omega) (by omega) (by simp only [ByteArray.size_append]; omega)]
    congr 2
    congr 1
    apply ext_list
    simp only [app_list, bytesV_list, entF, List.map_cons, packB, List.append_assoc]
    simp [optF, packB]
theorem rt_kind {a b c d : Int} (h : AttrFns.Rt a b c d) : (a != 0) = neqA a b c d := by
  unfold AttrFns.Rt at h
  by_cases h0 : a = 0
  · subst h0
    rcases h with ⟨_, rfl, rfl, rfl⟩ | ⟨_, _, _, _, ⟨h, _⟩ | ⟨h, _⟩⟩
    · rfl
    · exact absurd h (by decide)
    · exact absurd h (by decide)
  · have : (a == 0) = false := beq_eq_false_iff_ne.mpr h0
    unfold neqA
    rw [this, bne, this]
    rfl
theorem ne_empty (d : ByteArray) : (d.toList != ([] : List UInt8)) = !d.toList.isEmpty := by cases d.toList <;> rfl
theorem handB_opt (a b : Int) : optF 2 (handB a b) (neqH a b) = optF 2 (handV a b) (neqH a b) := by
  unfold handB
  by_cases h : a = 0 ∧ b = 0
  · obtain ⟨rfl, rfl⟩ := h
    rfl
  · rw [if_neg h]; rfl
theorem neqH_0 (b : Int) : neqH 0 b = (b != 0) := by unfold neqH; rfl
theorem neqH_1 {a b : Int} (h : a ≠ 0) : neqH a b = true := by
  unfold neqH
  rw [beq_eq_false_iff_ne.mpr h]
  rfl
theorem ref_pack_is14 (e no gen ki li si st : Int) (d : ByteArray) (xs : List S52) (n : Int) (hl : xs.length ≤ 9223372036854775806) (k : Nat) (hk : xs.length + 200 ≤ k) : sextonref14_Pack.f k e no gen ki li si st d xs n = some (packA e no gen ki li si st d xs n) := by
  unfold sextonref14_Pack.f packA
  rw [ref_right_is _ _ _ _ _ _ _ _ _ _ hl k (by omega), Option.bind_some]
  by_cases h : rightA e no gen ki li si st d xs n = true
  · have hr := right_parts14 h
    have r1 := hr.e1
    have r2 := hr.no1
    have r3 := hr.g1
    have r4 := hr.n1
    have r5 := hr.len
    have r6 := hr.ds
    have s1 := numVal_size e 2
    have s2 := handB_size no gen
    have s3 := bytes12_size ki li si st
    have b1 := optF_bytes 1 (numVal e 2).1 (e != 0)
    have b2 := optF_bytes 2 (handB no gen) (neqH no gen)
    have b3 := optF_bytes 3 (attrV ki li si st) (neqA ki li si st)
    have b4 := optF_bytes 4 d (!d.toList.isEmpty)
    have ha : sextonref07_Pack.f k ki li si st = some (attrV ki li si st, 0) := by
      have h12 := AttrFns.ref_pack_is ki li si st
      rw [if_pos hr.rt] at h12
      exact at_rounds (sextonref07_Pack.mono ki li si st) (show 12 ≤ k by omega) h12
    have hj : ∀ acc : ByteArray, acc = ((bytesV (optF 1 (numVal e 2).1 (e != 0)) ++ bytesV (optF 2 (handB no gen) (neqH no gen))) ++ bytesV (optF 3 (attrV ki li si st) (neqA ki li si st))) ++ bytesV (optF 4 d (!d.toList.isEmpty)) → sextonref14_Pack.j0 k acc e no gen ki li si st d xs n = some (⟨(packB (flds e no gen ki li si st d xs n)).toArray⟩, 0) := by
      intro acc hacc
      obtain ⟨k, rfl⟩ : ∃ m, k = m + 1 := ⟨k - 1, by omega⟩
      simp only [sextonref14_Pack.j0]
      have hz : acc.size ≤ 700 := by rw [hacc]; simp only [ByteArray.size_append]; omega
      have := ref_ents_loop xs r5 (fun x hx => (entsOk_mem hr.ents x hx).1) e no gen ki li si st d xs n (by omega) xs.length k 0 acc (by omega) (by omega) (by omega)
      rw [List.drop_zero] at this
      refine this.trans ?_
      congr 2
      rw [hacc, handB_opt]
      simp only [bytesV_app]
      rfl
    rw [h, if_pos rfl, if_pos rfl, ha, Option.bind_some, refbytes_is e 2 (by omega) k (by omega), Option.bind_some, reffield_is 1 _ _ (by decide) (by decide) (by omega) k (by omega), Option.bind_some, ref_handB_is no gen (by omega) (by omega) k (by omega), Option.bind_some]
    simp only [rt_kind hr.rt, ne_empty]
    have F3 := reffield_is 3 (attrV ki li si st) (neqA ki li si st) (by decide) (by decide) (by omega) k (by omega)
    have F4 := reffield_is 4 d (!d.toList.isEmpty) (by decide) (by decide) (by omega) k (by omega)
    have F2 := reffield_is 2 (handB no gen) (neqH no gen) (by decide) (by decide) (by omega) k (by omega)
    by_cases h0 : no = 0
    · subst h0
      rw [neqH_0] at F2 b2 hj
      rw [if_pos rfl, F2, Option.bind_some, if_pos (by omega), F3, Option.bind_some, if_pos (by simp only [ByteArray.size_append]; omega), F4, Option.bind_some, if_pos (by simp only [ByteArray.size_append]; omega)]
      exact hj _ rfl
    · rw [neqH_1 h0] at F2 b2 hj
      rw [if_neg h0, F2, Option.bind_some, if_pos (by omega), F3, Option.bind_some, if_pos (by simp only [ByteArray.size_append]; omega), F4, Option.bind_some, if_pos (by simp only [ByteArray.size_append]; omega)]
      exact hj _ rfl
  · rw [if_neg h, Bool.eq_false_iff.2 h]
    rfl
end Go.Proofs.Ytbnnmbajfmodjaa.AnsFns
end
