/- Fields as bytes: what the printed function Pack of the program comes to. -/
import Derived.Test.YtnpgplgbnmphdaaFieldFns
import Derived.Test.YtnpgplgbnmphdaaFAtlvPack
namespace Go.Proofs.Ytnpgplgbnmphdaa.TlvFns
open Go.RowKit Go.Proofs.Ytnpgplgbnmphdaa.FA Go.Proofs.YtnpgplgbnmphdaaW.PrintWords Go.Proofs.YtnpgplgbnmphdaaW.PrintLast Go.Proofs.YtnpgplgbnmphdaaW.PrintMore Go.Proofs.Ytnpgplgbnmphdaa.B
set_option linter.unusedVariables false
set_option linter.unusedSimpArgs false
theorem wrong_is (t : Int) (v : ByteArray) (b : Int) (k : Nat) (hk : 1 ≤ k) : tlv_Field_wrong.f k t v b = some (if t < 1 ∨ 255 < t then 1 else if 65535 < v.size then 2 else if t < b then 11 else 0) := by
  obtain ⟨k, rfl⟩ : ∃ m, k = m + 1 := ⟨k - 1, by omega⟩
  unfold tlv_Field_wrong.f
  simp only [tlv_Field_wrong.j0, decide_eq_true_eq]
  by_cases h1 : t < 1
  · rw [if_pos h1, if_pos (show t < 1 ∨ 255 < t from .inl h1), if_pos trivial]
  · rw [if_neg h1]
    by_cases h2 : t > 255
    · rw [if_pos h2, if_pos (.inr h2)]
    · rw [if_neg h2, if_neg (show ¬ (t < 1 ∨ 255 < t) by omega)]
      by_cases h3 : 65535 < v.size
      · rw [if_pos (show (v.size : Int) > 65535 by omega), if_pos h3]
      · rw [if_neg (show ¬ (v.size : Int) > 65535 by omega), if_neg h3]
        by_cases h4 : t < b
        · rw [if_pos h4, if_pos h4]
        · rw [if_neg h4, if_neg h4]


theorem pack_loop (l : List S37) (hl : l.length ≤ 9223372036854775806) (d : Nat) : ∀ (k i : Nat) (b : Int) (x : List Int), i + d = l.length → d + 1 < k → x.length + (packB (fl (l.drop i))).length < 140737488355328 →
    tlv_Pack.l0 k x b l (l.length : Int) (i : Int) = some (if packE b (fl (l.drop i)) = 0 then (⟨((x.map fun n => UInt8.ofNat n.toNat) ++ packB (fl (l.drop i))).toArray⟩, 0) else (⟨#[]⟩, packE b (fl (l.drop i)))) := by
  induction d with
  | zero =>
    intro k i b x hi hk hs
    obtain ⟨k, rfl⟩ : ∃ m, k = m + 1 := ⟨k - 1, by omega⟩
    simp only [tlv_Pack.l0]
    rw [if_neg (by omega), List.drop_of_length_le (by omega), if_pos (show packE b (fl []) = 0 from rfl)]
    refine congrArg some (Prod.ext ?_ rfl)
    refine ext_list ?_
    rw [bytes_str, mk_toList]
    rw [show packB (fl []) = [] from rfl, List.append_nil]
  | succ d ih =>
    intro k i b x hi hk hs
    obtain ⟨k, rfl⟩ : ∃ m, k = m + 1 := ⟨k - 1, by omega⟩
    have h : i < l.length := by omega
    simp only [tlv_Pack.l0]
    rw [if_pos (by omega), if_pos (by omega), if_pos (by omega), rd_get h, wrong_is _ _ _ k (by omega)]
    have hd : fl (l.drop i) = (l[i].f0, l[i].f1) :: fl (l.drop (i + 1)) := by rw [List.drop_eq_getElem_cons h]; rfl
    rw [hd] at hs ⊢
    simp only [Option.bind_some, packE]
    by_cases h1 : l[i].f0 < 1 ∨ 255 < l[i].f0
    · rw [if_pos h1, if_neg (by decide), if_pos h1, if_neg (by decide)]
    · rw [if_neg h1]
      by_cases h2 : 65535 < l[i].f1.size
      · rw [if_pos h2, if_neg (by decide), if_neg h1, if_pos h2, if_neg (by decide)]
      · rw [if_neg h2]
        by_cases h3 : l[i].f0 < b
        · rw [if_pos h3, if_neg (by decide), if_neg h1, if_neg h2, if_pos h3, if_neg (by decide)]
        · rw [if_neg h3, if_pos rfl, if_neg h1, if_neg h2, if_neg h3]
          have hL : (packB ((l[i].f0, l[i].f1) :: fl (l.drop (i + 1)))).length = l[i].f1.size + 3 + (packB (fl (l.drop (i + 1)))).length := by
            simp only [packB, List.length_append, fieldB_length]
          rw [hL] at hs
          rw [if_pos (by simp only [List.length_cons, List.length_nil]; omega), if_pos (by simp only [List.length_append, List.length_cons, List.length_nil]; omega), wrap64_in (by omega) (by omega)]
          have hx := ih k (i + 1) (l[i].f0) ((x ++ [l[i].f0 % 256, (l[i].f1.size : Int) / 256 % 256, (l[i].f1.size : Int) % 256]) ++ bytesOf l[i].f1) (by omega) (by omega)
            (by simp only [List.length_append, List.length_cons, List.length_nil, bytesOf_length]; omega)
          refine Eq.trans hx ?_
          have e : ((x ++ [l[i].f0 % 256, (l[i].f1.size : Int) / 256 % 256, (l[i].f1.size : Int) % 256]) ++ bytesOf l[i].f1).map (fun n => UInt8.ofNat n.toNat) = x.map (fun n => UInt8.ofNat n.toNat) ++ fieldB l[i].f0 l[i].f1 := by
            rw [List.map_append, List.map_append, List.append_assoc]
            congr 1
            have e1 : (l[i].f0 % 256).toNat = l[i].f0.toNat := by omega
            have e2 : ((l[i].f1.size : Int) / 256 % 256).toNat = l[i].f1.size / 256 := by omega
            have e3 : ((l[i].f1.size : Int) % 256).toNat = l[i].f1.size % 256 := by omega
            have e4 : (bytesOf l[i].f1).map (fun n => UInt8.ofNat n.toNat) = l[i].f1.toList := by
              rw [Lib.toList_data]
              simp [bytesOf, Function.comp_def]
            simp only [List.map_cons, List.map_nil, e1, e2, e3, e4, fieldB]
            rfl
          rw [e]
          simp only [packB, List.append_assoc]
theorem pack_is (l : List S37) (hs : (packB (fl l)).length < 140737488355328) (k : Nat) (hk : l.length + 1 < k) : tlv_Pack.f k l = some (packVal (fl l)) := by
  have hl : l.length ≤ 9223372036854775806 := by
    have : l.length ≤ (packB (fl l)).length := by
      have := pack_length (fl l)
      have e : (fl l).length = l.length := by simp [fl]
      omega
    omega
  have h := pack_loop l hl l.length k 0 0 [] (by omega) hk (by rw [List.drop_zero]; simpa using hs)
  rw [List.drop_zero] at h
  exact h
end Go.Proofs.Ytnpgplgbnmphdaa.TlvFns
