/- Fields as bytes: what the printed function Pack of the reference comes to. -/
import Derived.Test.YtnpgplgbnmphdaaFieldFns
import Derived.Test.YtnpgplgbnmphdaaByteFns
import Derived.Test.YtnpgplgbnmphdaaFAsextonref01Pack
namespace Go.Proofs.Ytnpgplgbnmphdaa.TlvFns
open Go.RowKit Go.Proofs.Ytnpgplgbnmphdaa.FA Go.Proofs.YtnpgplgbnmphdaaW.PrintWords Go.Proofs.YtnpgplgbnmphdaaW.PrintLast Go.Proofs.YtnpgplgbnmphdaaW.PrintMore Go.Proofs.Ytnpgplgbnmphdaa.B
set_option linter.unusedVariables false
set_option linter.unusedSimpArgs false

theorem ref_pack_loop (l : List S60) (hl : l.length ≤ 9223372036854775806) (d : Nat) : ∀ (k i : Nat) (b : Int) (x : ByteArray), i + d = l.length → 3 * d < k → x.size + (packB (fr (l.drop i))).length ≤ 9223372036854775807 →
    (i = 0 ∧ b = 0 ∨ 0 < i ∧ ∃ h : i - 1 < l.length, b = l[i - 1].f0) →
    sextonref01_Pack.l0 k l x l (l.length : Int) (i : Int) = some (if packE b (fr (l.drop i)) = 0 then (⟨(x.toList ++ packB (fr (l.drop i))).toArray⟩, 0) else (⟨#[]⟩, packE b (fr (l.drop i)))) := by
  induction d with
  | zero =>
    intro k i b x hi hk hs hb
    obtain ⟨k, rfl⟩ : ∃ m, k = m + 1 := ⟨k - 1, by omega⟩
    simp only [sextonref01_Pack.l0]
    rw [if_neg (by omega), List.drop_of_length_le (by omega), if_pos (show packE b (fr []) = 0 from rfl)]
    refine congrArg some (Prod.ext ?_ rfl)
    refine ext_list ?_
    show x.toList = (⟨(x.toList ++ packB (fr [])).toArray⟩ : ByteArray).toList
    rw [mk_toList (x.toList ++ packB (fr [])), show packB (fr []) = [] from rfl, List.append_nil]
  | succ d ih =>
    intro k i b x hi hk hs hb
    obtain ⟨k, rfl⟩ : ∃ m, k = m + 3 := ⟨k - 3, by omega⟩
    have h : i < l.length := by omega
    have hd : fr (l.drop i) = (l[i].f0, l[i].f1) :: fr (l.drop (i + 1)) := by rw [List.drop_eq_getElem_cons h]; rfl
    rw [hd] at hs ⊢
    have hL : (packB ((l[i].f0, l[i].f1) :: fr (l.drop (i + 1)))).length = l[i].f1.size + 3 + (packB (fr (l.drop (i + 1)))).length := by
      simp only [packB, List.length_append, fieldB_length]
    rw [hL] at hs
    simp only [packE]
    simp only [sextonref01_Pack.l0]
    rw [if_pos (by omega), if_pos (by omega), if_pos (by omega), rd_get' h]
    have body : ∀ q : Bool, (q = true ↔ l[i].f0 < b) → 1 ≤ l[i].f0 → l[i].f0 ≤ 255 → l[i].f1.size ≤ 65535 →
        sextonref01_Pack.j2 (k + 1) l x l (l.length : Int) (i : Int) q l[i].f0 l[i].f1 =
        some (if (if l[i].f0 < b then 11 else packE l[i].f0 (fr (l.drop (i + 1)))) = 0 then (⟨(x.toList ++ packB ((l[i].f0, l[i].f1) :: fr (l.drop (i + 1)))).toArray⟩, 0) else (⟨#[]⟩, if l[i].f0 < b then 11 else packE l[i].f0 (fr (l.drop (i + 1))))) := by
      intro q hq h1 h2 h3
      simp only [sextonref01_Pack.j2]
      by_cases hb2 : l[i].f0 < b
      · rw [if_pos (hq.2 hb2), if_pos hb2, if_neg (by decide)]
      · rw [if_neg (fun hx => hb2 (hq.1 hx)), if_neg hb2, byte_is _ (by omega) (by omega)]
        simp only [Option.bind_some]
        have s1 : (⟨#[UInt8.ofNat l[i].f0.toNat]⟩ : ByteArray).size = 1 := rfl
        have s2 : (⟨#[UInt8.ofNat ((l[i].f1.size : Int) / 256).toNat]⟩ : ByteArray).size = 1 := rfl
        have s3 : (⟨#[UInt8.ofNat ((l[i].f1.size : Int) % 256).toNat]⟩ : ByteArray).size = 1 := rfl
        rw [if_pos (by rw [s1]; omega), wrap64_in (by omega) (by omega), byte_is ((l[i].f1.size : Int) / 256) (by omega) (by omega)]
        simp only [Option.bind_some]
        rw [if_pos (by rw [ByteArray.size_append, s1, s2]; omega), byte_is ((l[i].f1.size : Int) % 256) (by omega) (by omega)]
        simp only [Option.bind_some]
        rw [if_pos (by rw [ByteArray.size_append, ByteArray.size_append, s1, s2, s3]; omega), if_pos (by rw [ByteArray.size_append, ByteArray.size_append, ByteArray.size_append, s1, s2, s3]; omega), wrap64_in (by omega) (by omega)]
        have hx := ih k (i + 1) (l[i].f0) (x ++ ⟨#[UInt8.ofNat l[i].f0.toNat]⟩ ++ ⟨#[UInt8.ofNat ((l[i].f1.size : Int) / 256).toNat]⟩ ++ ⟨#[UInt8.ofNat ((l[i].f1.size : Int) % 256).toNat]⟩ ++ l[i].f1) (by omega) (by omega)
          (by simp only [ByteArray.size_append, s1, s2, s3]; omega) (.inr ⟨by omega, by rw [Nat.add_sub_cancel]; exact h, by simp only [Nat.add_sub_cancel]⟩)
        refine Eq.trans hx ?_
        have e : (x ++ ⟨#[UInt8.ofNat l[i].f0.toNat]⟩ ++ ⟨#[UInt8.ofNat ((l[i].f1.size : Int) / 256).toNat]⟩ ++ ⟨#[UInt8.ofNat ((l[i].f1.size : Int) % 256).toNat]⟩ ++ l[i].f1).toList = x.toList ++ fieldB l[i].f0 l[i].f1 := by
          rw [app_list, app_list, app_list, app_list]
          have e1 : (⟨#[UInt8.ofNat l[i].f0.toNat]⟩ : ByteArray).toList = [UInt8.ofNat l[i].f0.toNat] := by rw [Lib.toList_data]
          have e2 : (⟨#[UInt8.ofNat ((l[i].f1.size : Int) / 256).toNat]⟩ : ByteArray).toList = [UInt8.ofNat (l[i].f1.size / 256)] := by
            rw [Lib.toList_data]
            have : ((l[i].f1.size : Int) / 256).toNat = l[i].f1.size / 256 := by omega
            rw [this]
          have e3 : (⟨#[UInt8.ofNat ((l[i].f1.size : Int) % 256).toNat]⟩ : ByteArray).toList = [UInt8.ofNat (l[i].f1.size % 256)] := by
            rw [Lib.toList_data]
            have : ((l[i].f1.size : Int) % 256).toNat = l[i].f1.size % 256 := by omega
            rw [this]
          rw [e1, e2, e3]
          simp [fieldB]
        rw [e]
        simp only [packB, List.append_assoc]
    have j1 : ∀ q : Bool, (q = true ↔ l[i].f0 < 1 ∨ 255 < l[i].f0) →
        sextonref01_Pack.j1 (k + 2) l x (i : Int) l (l.length : Int) (i : Int) q l[i].f0 l[i].f1 =
        some (if (if l[i].f0 < 1 ∨ 255 < l[i].f0 then 1 else if 65535 < l[i].f1.size then 2 else if l[i].f0 < b then 11 else packE l[i].f0 (fr (l.drop (i + 1)))) = 0 then (⟨(x.toList ++ packB ((l[i].f0, l[i].f1) :: fr (l.drop (i + 1)))).toArray⟩, 0) else (⟨#[]⟩, if l[i].f0 < 1 ∨ 255 < l[i].f0 then 1 else if 65535 < l[i].f1.size then 2 else if l[i].f0 < b then 11 else packE l[i].f0 (fr (l.drop (i + 1))))) := by
      intro q hq
      simp only [sextonref01_Pack.j1]
      by_cases h1 : l[i].f0 < 1 ∨ 255 < l[i].f0
      · rw [if_pos (hq.2 h1), if_pos h1, if_neg (by decide)]
      · rw [if_neg (fun hx => h1 (hq.1 hx)), if_neg h1]
        by_cases h2 : 65535 < l[i].f1.size
        · rw [if_pos (show (l[i].f1.size : Int) > 65535 by omega), if_pos h2, if_neg (by decide)]
        · rw [if_neg (show ¬ (l[i].f1.size : Int) > 65535 by omega), if_neg h2]
          rcases hb with ⟨rfl, rfl⟩ | ⟨hi0, hi1, rfl⟩
          · rw [if_neg (show ¬ ((0 : Nat) : Int) > 0 by decide)]
            exact body false ⟨(fun hx => by cases hx), (fun hx => by omega)⟩ (by omega) (by omega) (by omega)
          · have hw : wrap64 ((i : Int) - 1) = ((i - 1 : Nat) : Int) := by rw [wrap64_in (by omega) (by omega)]; omega
            rw [if_pos (show (i : Int) > 0 by omega), hw, if_pos (by omega), if_pos (by omega), rd_get' hi1]
            exact body _ (by simp) (by omega) (by omega) (by omega)
    by_cases h1 : l[i].f0 < 1
    · rw [if_pos h1]
      exact j1 true ⟨fun _ => .inl h1, fun _ => rfl⟩
    · rw [if_neg h1]
      exact j1 _ (by simp [h1])
theorem ref_pack_is (l : List S60) (hs : (packB (fr l)).length ≤ 9223372036854775806) (k : Nat) (hk : 3 * l.length < k) : sextonref01_Pack.f k l = some (packVal (fr l)) := by
  have hl : l.length ≤ 9223372036854775806 := by
    have := pack_length (fr l)
    have e : (fr l).length = l.length := by simp [fr]
    omega
  have h := ref_pack_loop l hl l.length k 0 0 ⟨#[]⟩ (by omega) hk (by rw [List.drop_zero]; show 0 + _ ≤ _; omega) (.inl ⟨rfl, rfl⟩)
  rw [List.drop_zero, Lib.toList_data] at h
  exact h
end Go.Proofs.Ytnpgplgbnmphdaa.TlvFns
