/- The first value of each tag, and all of them, in their order. -/
import Derived.Test.YtnpgplgbnmphdaaRdTlvFinds
import Derived.Test.YtnpgplgbnmphdaaFieldFns
import Derived.Test.YtnpgplgbnmphdaaFAtlvFirst
import Derived.Test.YtnpgplgbnmphdaaFAtlvAll
import Derived.Test.YtnpgplgbnmphdaaFAsextonplainTexts
namespace Go.Proofs.Ytnpgplgbnmphdaa.tlvFinds
open Go.RowKit Go.Proofs.Ytnpgplgbnmphdaa.FA Go.Proofs.YtnpgplgbnmphdaaW.PrintWords Go.Proofs.Ytnpgplgbnmphdaa.Rd Go.Proofs.Ytnpgplgbnmphdaa.B Go.Proofs.Ytnpgplgbnmphdaa.TlvFns
set_option linter.unusedVariables false

def filt (l : List S37) (tag : Int) : List ByteArray := (l.filter fun x => x.f0 = tag).map fun x => x.f1
def head1 : List ByteArray → ByteArray × Bool
  | [] => (⟨#[]⟩, false)
  | x :: _ => (x, true)
theorem filt_cons (x : S37) (l : List S37) (tag : Int) : filt (x :: l) tag = if x.f0 = tag then x.f1 :: filt l tag else filt l tag := by
  unfold filt
  by_cases h : x.f0 = tag <;> simp [h]
theorem drop_cons {α : Type} {l : List α} {i : Nat} (h : i < l.length) : l.drop i = l[i] :: l.drop (i + 1) := List.drop_eq_getElem_cons h
theorem filt_len (l : List S37) (tag : Int) : (filt l tag).length ≤ l.length := by
  unfold filt
  rw [List.length_map]
  exact List.length_filter_le _ _

theorem first_loop (l : List S37) (tag : Int) (hl : l.length ≤ 9223372036854775806) (d : Nat) : ∀ (k i : Nat), i + d = l.length → d < k → tlv_First.l0 k tag l (l.length : Int) (i : Int) = some (head1 (filt (l.drop i) tag)) := by
  induction d with
  | zero =>
    intro k i hi hk
    obtain ⟨k, rfl⟩ : ∃ m, k = m + 1 := ⟨k - 1, by omega⟩
    simp only [tlv_First.l0]
    rw [if_neg (by omega), List.drop_of_length_le (by omega)]
    rfl
  | succ d ih =>
    intro k i hi hk
    obtain ⟨k, rfl⟩ : ∃ m, k = m + 1 := ⟨k - 1, by omega⟩
    have h : i < l.length := by omega
    simp only [tlv_First.l0]
    rw [if_pos (by omega), if_pos (by omega), if_pos (by omega), rd_get h, drop_cons h, filt_cons]
    by_cases ht : l[i].f0 = tag
    · rw [if_pos ht, if_pos ht]
      rfl
    · rw [if_neg ht, if_neg ht, wrap64_in (by omega) (by omega)]
      exact ih k (i + 1) (by omega) (by omega)
theorem first_is (l : List S37) (tag : Int) (hl : l.length ≤ 9223372036854775806) (k : Nat) (hk : l.length < k) : tlv_First.f k l tag = some (head1 (filt l tag)) := by
  have := first_loop l tag hl l.length k 0 (by omega) hk
  rwa [List.drop_zero] at this
theorem all_loop (l : List S37) (tag : Int) (hl : l.length < 8796093022208) (d : Nat) : ∀ (k i : Nat) (w : List ByteArray), i + d = l.length → w.length ≤ i → d < k → tlv_All.l0 k tag w l (l.length : Int) (i : Int) = some (w ++ filt (l.drop i) tag) := by
  induction d with
  | zero =>
    intro k i w hi hw hk
    obtain ⟨k, rfl⟩ : ∃ m, k = m + 1 := ⟨k - 1, by omega⟩
    simp only [tlv_All.l0]
    rw [if_neg (by omega), List.drop_of_length_le (by omega)]
    simp [filt]
  | succ d ih =>
    intro k i w hi hw hk
    obtain ⟨k, rfl⟩ : ∃ m, k = m + 1 := ⟨k - 1, by omega⟩
    have h : i < l.length := by omega
    simp only [tlv_All.l0]
    rw [if_pos (by omega), if_pos (by omega), if_pos (by omega), rd_get h, drop_cons h, filt_cons]
    by_cases ht : l[i].f0 = tag
    · rw [if_pos ht, if_pos ht, if_pos (by omega), wrap64_in (by omega) (by omega)]
      have := ih k (i + 1) (w ++ [l[i].f1]) (by omega) (by rw [List.length_append, List.length_singleton]; omega) (by omega)
      rw [List.append_assoc] at this
      exact this
    · rw [if_neg ht, if_neg ht, wrap64_in (by omega) (by omega)]
      exact ih k (i + 1) w (by omega) (by omega) (by omega)
theorem all_is (l : List S37) (tag : Int) (hl : l.length < 8796093022208) (k : Nat) (hk : l.length < k) : tlv_All.f k l tag = some (filt l tag) := by
  have := all_loop l tag hl l.length k 0 [] (by omega) (by simp) hk
  rwa [List.drop_zero] at this
theorem texts_loop (a : List ByteArray) (hl : a.length ≤ 9223372036854775806) (d : Nat) : ∀ (k i : Nat), i + d = a.length → d < k → sextonplain_Texts.l0 k a a (a.length : Int) (i : Int) = some true := by
  induction d with
  | zero =>
    intro k i hi hk
    obtain ⟨k, rfl⟩ : ∃ m, k = m + 1 := ⟨k - 1, by omega⟩
    simp only [sextonplain_Texts.l0]
    rw [if_neg (by omega), beq_self_eq_true]
  | succ d ih =>
    intro k i hi hk
    obtain ⟨k, rfl⟩ : ∃ m, k = m + 1 := ⟨k - 1, by omega⟩
    simp only [sextonplain_Texts.l0]
    rw [if_pos (by omega), if_neg (by omega), if_pos (by omega), if_pos (by omega), if_pos (by omega), if_pos trivial, wrap64_in (by omega) (by omega)]
    exact ih k (i + 1) (by omega) (by omega)
theorem texts_is (a : List ByteArray) (hl : a.length ≤ 9223372036854775806) (k : Nat) (hk : a.length < k) : sextonplain_Texts.f k a a = some true := texts_loop a hl a.length k 0 (by omega) hk

theorem law_loop (l : List S37) (tag : Int) (hl : l.length < 8796093022208) (K : Nat) (hK : l.length + 5 < K) (d : Nat) : ∀ (i : Nat) (w : List ByteArray), i + d = l.length → w.length ≤ i → w ++ filt (l.drop i) tag = filt l tag →
    sextonlaw01_TlvFinds.l0 (K + d + 1) l tag w l (l.length : Int) (i : Int) = some true := by
  induction d with
  | zero =>
    intro i w hi hw hf
    simp only [sextonlaw01_TlvFinds.l0]
    rw [if_neg (by omega)]
    rw [List.drop_of_length_le (by omega)] at hf
    have hf : w = filt l tag := by simpa [filt] using hf
    subst hf
    have hn := filt_len l tag
    rw [first_is l tag (by omega) K (by omega), first_is _ 3 (by simp) K (by simp; omega), all_is l tag hl K (by omega)]
    simp only [Option.bind_some]
    rw [texts_is _ (by omega) K (by omega)]
    have e : head1 (filt [(⟨3, ⟨#[121]⟩⟩ : S37)] 3) = (⟨#[121]⟩, true) := by simp [filt, head1]
    rw [e]
    simp only [Option.bind_some]
    rw [if_pos trivial, if_pos (by rw [Lib.toList_data]), if_pos trivial]
    cases hq : filt l tag with
    | nil =>
      have h1 : ((head1 []).2 != decide ((([] : List ByteArray).length : Int) > 0)) = false := by decide
      rw [h1, if_neg (by decide), if_neg (show ¬ (head1 []).2 = true by decide), if_pos (show (head1 []).1.toList = [] by rw [Lib.toList_data]; rfl)]
    | cons x t =>
      have hd : decide (((x :: t).length : Int) > 0) = true := decide_eq_true (by rw [List.length_cons]; omega)
      rw [hd, if_neg (show ¬ ((head1 (x :: t)).2 != true) = true from fun h => Bool.noConfusion (show false = true from h)), if_pos (show (head1 (x :: t)).2 = true from rfl), if_pos (by rw [List.length_cons]; omega)]
      simp [rdOf, head1]
  | succ d ih =>
    intro i w hi hw hf
    have h : i < l.length := by omega
    rw [show K + (d + 1) + 1 = (K + d + 1) + 1 by omega]
    simp only [sextonlaw01_TlvFinds.l0]
    rw [if_pos (by omega), if_pos (by omega), if_pos (by omega), rd_get h]
    rw [drop_cons h, filt_cons] at hf
    by_cases ht : l[i].f0 = tag
    · rw [if_pos ht] at hf
      rw [if_pos ht, if_pos (by omega), wrap64_in (by omega) (by omega)]
      exact ih (i + 1) (w ++ [l[i].f1]) (by omega) (by rw [List.length_append, List.length_singleton]; omega) (by rw [List.append_assoc]; exact hf)
    · rw [if_neg ht] at hf
      rw [if_neg ht, wrap64_in (by omega) (by omega)]
      exact ih (i + 1) w (by omega) (by omega) hf

theorem bytes37 : Try.prog.bytesOf 37 = 24 := by kernel_rfl
theorem pure_TlvFinds : ∀ (a0 : (List S37)) (o0 : r34.ok a0) (a1 : Int) (o1 : r3.ok a1) (w0 : r34.wt a0) (w1 : r3.wt a1), ∃ k, sextonlaw01_TlvFinds.f k a0 a1 = some true := by
  intro l _ tag _ w0 _
  have hw : l.length * Try.prog.bytesOf 37 ≤ reachBytes := w0.1
  rw [bytes37] at hw
  unfold reachBytes at hw
  refine ⟨(l.length + 6) + l.length + 1, ?_⟩
  unfold sextonlaw01_TlvFinds.f
  exact law_loop l tag (by omega) (l.length + 6) (by omega) l.length 0 [] (by omega) (by simp) (by simp)
end Go.Proofs.Ytnpgplgbnmphdaa.tlvFinds
