/- The fields that bytes are: what the printed function Unpack of the reference comes to. -/
import Derived.Test.YtnpgplgbnmphdaaFieldFns
import Derived.Test.YtnpgplgbnmphdaaFAsextonref01Unpack
namespace Go.Proofs.Ytnpgplgbnmphdaa.TlvFns
open Go.RowKit Go.Proofs.Ytnpgplgbnmphdaa.FA Go.Proofs.YtnpgplgbnmphdaaW.PrintWords Go.Proofs.YtnpgplgbnmphdaaW.PrintLast Go.Proofs.YtnpgplgbnmphdaaW.PrintMore Go.Proofs.Ytnpgplgbnmphdaa.B
set_option linter.unusedVariables false
set_option linter.unusedSimpArgs false

def toR (p : Int × ByteArray) : S60 := ⟨p.1, p.2⟩
theorem fr_toR (l : List (Int × ByteArray)) : fr (l.map toR) = l := by simp [fr, toR, Function.comp_def]
/-- No tag falls behind none, nor behind 1. -/
theorem unpackE_one (k : Nat) (s : List UInt8) : unpackE k 1 s = unpackE k 0 s := by
  match k, s with
  | 0, _ => rfl
  | _ + 1, [] => rfl
  | _ + 1, [_] => rfl
  | _ + 1, [_, _] => rfl
  | k + 1, a :: c :: e :: r =>
    simp only [unpackE]
    by_cases h : a.toNat = 0
    · rw [if_pos h, if_pos h]
    · rw [if_neg h, if_neg h, if_neg (show ¬ (a.toNat : Int) < 1 by omega), if_neg (show ¬ (a.toNat : Int) < 0 by omega)]
theorem w_byte (a : UInt8) : wrap64 (a.toNat : Int) = (a.toNat : Int) := wrap64_in (by omega) (by have := a.toNat_lt; omega)
theorem w_i {n i : Nat} (hn : n < 5864062014805) (hi : i ≤ n) (j : Int) (hj : 0 ≤ j ∧ j ≤ 3) : wrap64 ((i : Int) + j) = (i : Int) + j := wrap64_in (by omega) (by omega)
theorem w_mul (c : UInt8) : wrap64 (256 * (c.toNat : Int)) = 256 * (c.toNat : Int) := wrap64_in (by omega) (by have := c.toNat_lt; omega)
theorem w_sum (c e : UInt8) : wrap64 (256 * (c.toNat : Int) + (e.toNat : Int)) = 256 * (c.toNat : Int) + (e.toNat : Int) := by
  have hc := c.toNat_lt
  have he := e.toNat_lt
  exact wrap64_in (by omega) (by omega)
theorem w_sub {n i : Nat} (hn : n < 5864062014805) (hi : i ≤ n) : wrap64 ((n : Int) - i - 3) = (n : Int) - i - 3 := wrap64_in (by omega) (by omega)
theorem w_at {n i : Nat} (hn : n < 5864062014805) (hi : i ≤ n) (c e : UInt8) : wrap64 ((i : Int) + 3 + (256 * (c.toNat : Int) + (e.toNat : Int))) = ((i + 3 + (256 * c.toNat + e.toNat) : Nat) : Int) := by
  have hc := c.toNat_lt
  have he := e.toNat_lt
  rw [wrap64_in (n := (i : Int) + 3 + (256 * (c.toNat : Int) + (e.toNat : Int))) (by omega) (by omega)]
  omega
theorem w_nat (i : Nat) : ((i : Int) + 3).toNat = i + 3 := by omega
theorem ref_unpack_loop (s : ByteArray) (hs : s.size < 5864062014805) (n : Nat) : ∀ (k i : Nat) (x : List S60) (b : Int), i ≤ s.size → s.size - i ≤ n → n < k → x.length ≤ i →
    sextonref01_Unpack.l0 k s x b (i : Int) = some (if unpackE (s.size - i + 1) b (s.toList.drop i) = 0 then (x ++ (unpackL (s.size - i + 1) (s.toList.drop i)).map toR, 0) else ([], unpackE (s.size - i + 1) b (s.toList.drop i))) := by
  induction n with
  | zero =>
    intro k i x b hi hn hk hx
    obtain ⟨k, rfl⟩ : ∃ m, k = m + 1 := ⟨k - 1, by omega⟩
    simp only [sextonref01_Unpack.l0]
    rw [if_neg (by omega), List.drop_of_length_le (by rw [len_eq]; omega), show s.size - i + 1 = 0 + 1 by omega, if_pos (show unpackE (0 + 1) b [] = 0 from rfl)]
    simp [unpackL]
  | succ n ih =>
    intro k i x b hi hn hk hx
    obtain ⟨k, rfl⟩ : ∃ m, k = m + 1 := ⟨k - 1, by omega⟩
    have hz := len_eq s
    simp only [sextonref01_Unpack.l0]
    by_cases hlt : i < s.size
    · rw [if_pos (by omega), wrap64_in (n := (s.size : Int) - i) (by omega) (by omega)]
      by_cases h3 : s.size - i < 3
      · rw [if_pos (by omega)]
        have e : unpackE (s.size - i + 1) b (s.toList.drop i) = 10 := by
          have hl : (s.toList.drop i).length = s.size - i := by rw [List.length_drop, hz]
          match hd : s.toList.drop i with
          | [] => rw [hd] at hl; simp at hl; omega
          | [_] => rw [show s.size - i + 1 = (s.size - i) + 1 from rfl]; rfl
          | [_, _] => rfl
          | _ :: _ :: _ :: _ => rw [hd] at hl; simp at hl; omega
        rw [e, if_neg (by decide)]
      · rw [if_neg (by omega)]
        have l0 : i < s.toList.length := by omega
        have l1 : i + 1 < s.toList.length := by omega
        have l2 : i + 2 < s.toList.length := by omega
        obtain ⟨a, ha⟩ : ∃ a, s.toList[i] = a := ⟨_, rfl⟩
        obtain ⟨c, hc⟩ : ∃ c, s.toList[i + 1] = c := ⟨_, rfl⟩
        obtain ⟨e, he⟩ : ∃ e, s.toList[i + 2] = e := ⟨_, rfl⟩
        have b0 : bt s (i : Int) = (a.toNat : Int) := by rw [bt_get s i l0, ha]
        have b1 : bt s ((i : Int) + 1) = (c.toNat : Int) := by rw [show (i : Int) + 1 = ((i + 1 : Nat) : Int) by omega, bt_get s (i + 1) l1, hc]
        have b2 : bt s ((i : Int) + 2) = (e.toNat : Int) := by rw [show (i : Int) + 2 = ((i + 2 : Nat) : Int) by omega, bt_get s (i + 2) l2, he]
        have hd : s.toList.drop i = a :: c :: e :: s.toList.drop (i + 3) := by
          rw [List.drop_eq_getElem_cons l0, List.drop_eq_getElem_cons l1, List.drop_eq_getElem_cons l2, ha, hc, he]
        have hat := a.toNat_lt
        have hct := c.toNat_lt
        have het := e.toNat_lt
        rw [w_i hs hi 1 (by decide), w_i hs hi 2 (by decide), w_i hs hi 3 (by decide), b0, b1, b2, w_byte, w_byte, w_byte, w_mul, w_sum, w_sub hs hi, w_at hs hi, w_nat, Int.toNat_natCast]
        clear b0 b1 b2
        have hE : unpackE (s.size - i + 1) b (s.toList.drop i) = if a.toNat = 0 then 4 else if (a.toNat : Int) < b then 11 else if (s.toList.drop (i + 3)).length < 256 * c.toNat + e.toNat then 10 else unpackE (s.size - i) a.toNat ((s.toList.drop (i + 3)).drop (256 * c.toNat + e.toNat)) := by rw [hd]; rfl
        have hL : unpackL (s.size - i + 1) (s.toList.drop i) = ((a.toNat : Int), ⟨((s.toList.drop (i + 3)).take (256 * c.toNat + e.toNat)).toArray⟩) :: unpackL (s.size - i) ((s.toList.drop (i + 3)).drop (256 * c.toNat + e.toNat)) := by rw [hd]; rfl
        rw [hE, hL, List.length_drop, hz, List.drop_drop, if_pos (by omega)]
        by_cases h1 : a.toNat = 0
        · rw [if_pos (show (a.toNat : Int) = 0 by omega), if_pos h1, if_neg (by decide)]
        · rw [if_neg (show ¬ (a.toNat : Int) = 0 by omega), if_neg h1]
          by_cases h2 : (a.toNat : Int) < b
          · rw [if_pos h2, if_pos h2, if_neg (by decide)]
          · rw [if_neg h2, if_neg h2, if_pos (by omega), if_pos (by omega), if_pos (by omega), if_pos (by omega)]
            by_cases h4 : s.size - (i + 3) < 256 * c.toNat + e.toNat
            · rw [if_pos (by omega), if_pos h4, if_neg (by decide)]
            · rw [if_neg (by omega), if_neg h4, if_pos (by omega), if_pos (by omega), if_pos (by omega), if_pos (by omega)]
              have x2 : s.extract (i + 3) (i + 3 + (256 * c.toNat + e.toNat)) = ⟨((s.toList.drop (i + 3)).take (256 * c.toNat + e.toNat)).toArray⟩ := by
                apply ext_list
                rw [mk_toList ((s.toList.drop (i + 3)).take (256 * c.toNat + e.toNat)), Lib.extract_toList, ← Lib.toList_data]
                rw [show i + 3 + (256 * c.toNat + e.toNat) - (i + 3) = 256 * c.toNat + e.toNat by omega]
              have hi2 := ih k (i + 3 + (256 * c.toNat + e.toNat)) (x ++ [⟨(a.toNat : Int), s.extract (i + 3) (i + 3 + (256 * c.toNat + e.toNat))⟩]) a.toNat (by omega) (by omega) (by omega) (by rw [List.length_append, List.length_singleton]; omega)
              refine Eq.trans hi2 ?_
              obtain ⟨m1, m2⟩ := unpackE_more (s.size - (i + 3 + (256 * c.toNat + e.toNat)) + 1) a.toNat (s.toList.drop (i + 3 + (256 * c.toNat + e.toNat))) (s.size - i) (by rw [List.length_drop]; omega) (by omega)
              rw [m1, m2, x2, List.append_assoc]
              rfl
    · rw [if_neg (by omega), List.drop_of_length_le (by rw [len_eq]; omega), show s.size - i + 1 = 0 + 1 by omega, if_pos (show unpackE (0 + 1) b [] = 0 from rfl)]
      simp [unpackL]
theorem ref_unpack_is (s : ByteArray) (hs : s.size < 5864062014805) (k : Nat) (hk : s.size < k) : sextonref01_Unpack.f k s = some ((unpackVal s.toList).1.map toR, (unpackVal s.toList).2) := by
  have h := ref_unpack_loop s hs s.size k 0 [] 1 (by omega) (by omega) hk (by simp)
  refine Eq.trans h ?_
  rw [List.drop_zero, Nat.sub_zero, unpackE_one]
  unfold unpackVal
  rw [len_eq]
  split <;> rfl
end Go.Proofs.Ytnpgplgbnmphdaa.TlvFns
