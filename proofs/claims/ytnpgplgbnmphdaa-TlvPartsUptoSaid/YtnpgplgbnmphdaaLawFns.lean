/- What the helpers of the laws of layer 1 come to. -/
import Derived.Test.YtnpgplgbnmphdaaFieldFns
import Derived.Test.YtnpgplgbnmphdaaRead
import Derived.Test.YtnpgplgbnmphdaaFAsextonlaw01ref
import Derived.Test.YtnpgplgbnmphdaaFAsextonlaw01same
namespace Go.Proofs.Ytnpgplgbnmphdaa.TlvFns
open Go.RowKit Go.Proofs.Ytnpgplgbnmphdaa.FA Go.Proofs.YtnpgplgbnmphdaaW.PrintWords Go.Proofs.YtnpgplgbnmphdaaW.PrintLast Go.Proofs.YtnpgplgbnmphdaaW.PrintMore Go.Proofs.Ytnpgplgbnmphdaa.B
set_option linter.unusedVariables false
set_option linter.unusedSimpArgs false

def conv (x : S37) : S60 := ⟨x.f0, x.f1⟩
theorem fr_conv (l : List S37) : fr (l.map conv) = fl l := by simp [fr, fl, conv, Function.comp_def]
theorem fl_length (l : List S37) : (fl l).length = l.length := by simp [fl]
theorem ref_loop (l : List S37) (hl : l.length < 5864062014805) (d : Nat) : ∀ (k i : Nat) (x : List S60), i + d = l.length → d < k → x.length = i →
    sextonlaw01_ref.l0 k x l (l.length : Int) (i : Int) = some (x ++ (l.drop i).map conv) := by
  induction d with
  | zero =>
    intro k i x hi hk hx
    obtain ⟨k, rfl⟩ : ∃ m, k = m + 1 := ⟨k - 1, by omega⟩
    simp only [sextonlaw01_ref.l0]
    rw [if_neg (by omega), List.drop_of_length_le (by omega)]
    simp
  | succ d ih =>
    intro k i x hi hk hx
    obtain ⟨k, rfl⟩ : ∃ m, k = m + 1 := ⟨k - 1, by omega⟩
    have h : i < l.length := by omega
    simp only [sextonlaw01_ref.l0]
    rw [if_pos (by omega), if_pos (by omega), if_pos (by omega), if_pos (by omega), rd_get h, wrap64_in (by omega) (by omega)]
    refine Eq.trans (ih k (i + 1) _ (by omega) (by omega) (by rw [List.length_append, List.length_singleton]; omega)) ?_
    rw [List.drop_eq_getElem_cons h, List.append_assoc]
    rfl
theorem ref_is (l : List S37) (hl : l.length < 5864062014805) (k : Nat) (hk : l.length < k) : sextonlaw01_ref.f k l = some (l.map conv) := by
  have := ref_loop l hl l.length k 0 [] (by omega) hk rfl
  rwa [List.drop_zero] at this
theorem same_loop (l : List S37) (m : List S60) (hm : m = l.map conv) (hl : l.length ≤ 9223372036854775806) (d : Nat) : ∀ (k i : Nat), i + d = l.length → d < k →
    sextonlaw01_same.l0 k l m (l.length : Int) (i : Int) = some true := by
  induction d with
  | zero =>
    intro k i hi hk
    obtain ⟨k, rfl⟩ : ∃ m, k = m + 1 := ⟨k - 1, by omega⟩
    simp only [sextonlaw01_same.l0]
    rw [if_neg (by omega)]
  | succ d ih =>
    intro k i hi hk
    obtain ⟨k, rfl⟩ : ∃ m, k = m + 1 := ⟨k - 1, by omega⟩
    have h : i < l.length := by omega
    have hl2 : m.length = l.length := by rw [hm, List.length_map]
    have h2 : i < m.length := by omega
    simp only [sextonlaw01_same.l0]
    have e : m[i] = conv l[i] := by
      subst hm
      rw [List.getElem_map]
    rw [if_pos (by omega), if_pos (by omega), if_pos (by omega), if_pos (by omega), rd_get h, rd_get' h2, e, if_pos (show l[i].f0 = (conv l[i]).f0 from rfl), if_pos (show l[i].f1.toList = (conv l[i]).f1.toList from rfl), wrap64_in (by omega) (by omega)]
    exact ih k (i + 1) (by omega) (by omega)
theorem same_is (l : List S37) (m : List S60) (h : fl l = fr m) (hl : l.length ≤ 9223372036854775806) (k : Nat) (hk : l.length < k) : sextonlaw01_same.f k l m = some true := by
  have hm : m = l.map conv := by
    have : (fr m).map (fun p => (⟨p.1, p.2⟩ : S60)) = m := by simp [fr, Function.comp_def]
    rw [← this, ← h]
    simp [fl, conv, Function.comp_def]
  unfold sextonlaw01_same.f
  rw [if_pos (by rw [hm, List.length_map])]
  exact same_loop l m hm hl l.length k 0 (by omega) hk
/-- What the bound on the bulk gives: how many bytes fields have, packed. -/
theorem packed_le (b : S37 → Nat) (hb : ∀ x, b x = 1 + (x.f1.size + 1) + 1) (l : List S37) : (packB (fl l)).length ≤ Rd.bs b l ∧ l.length ≤ Rd.bs b l := by
  induction l with
  | nil => simp [fl, packB, Rd.bs]
  | cons x l ih =>
    have e : fl (x :: l) = (x.f0, x.f1) :: fl l := rfl
    rw [e]
    simp only [packB, Rd.bs, List.length_append, fieldB_length, List.length_cons, hb]
    omega
end Go.Proofs.Ytnpgplgbnmphdaa.TlvFns
