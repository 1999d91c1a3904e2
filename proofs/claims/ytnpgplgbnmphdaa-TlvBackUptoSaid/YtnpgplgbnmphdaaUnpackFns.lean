/- The fields that bytes are: what the printed function Unpack of the program comes to. -/
import Derived.Test.YtnpgplgbnmphdaaFieldFns
import Derived.Test.YtnpgplgbnmphdaaFAtlvUnpack
namespace Go.Proofs.Ytnpgplgbnmphdaa.TlvFns
open Go.RowKit Go.Proofs.Ytnpgplgbnmphdaa.FA Go.Proofs.YtnpgplgbnmphdaaW.PrintWords Go.Proofs.YtnpgplgbnmphdaaW.PrintLast Go.Proofs.YtnpgplgbnmphdaaW.PrintMore Go.Proofs.Ytnpgplgbnmphdaa.B
set_option linter.unusedVariables false
set_option linter.unusedSimpArgs false

def toF (p : Int × ByteArray) : S37 := ⟨p.1, p.2⟩
theorem fl_toF (l : List (Int × ByteArray)) : fl (l.map toF) = l := by simp [fl, toF, Function.comp_def]
theorem bt_of {s : ByteArray} {l : List UInt8} (h : s.toList = l) (i : Nat) (hi : i < l.length) : bt s (i : Int) = ((l[i]).toNat : Int) := by
  subst h
  exact bt_get s i hi
theorem w_byte (a : UInt8) : wrap64 (a.toNat : Int) = (a.toNat : Int) := wrap64_in (by omega) (by have := a.toNat_lt; omega)
theorem w_or (c e : UInt8) : Go.bits .or .i64 (wrap64 ((c.toNat : Int) * 256)) (e.toNat : Int) = 256 * (c.toNat : Int) + (e.toNat : Int) := by
  have hc := c.toNat_lt
  have he := e.toNat_lt
  rw [wrap64_in (n := (c.toNat : Int) * 256) (by omega) (by omega)]
  exact i64_or8 (by omega) (by omega) (by omega) (by omega)
theorem w_two (c e : UInt8) : wrap64 (3 + (256 * (c.toNat : Int) + (e.toNat : Int))) = ((3 + (256 * c.toNat + e.toNat) : Nat) : Int) := by
  have hc := c.toNat_lt
  have he := e.toNat_lt
  rw [wrap64_in (n := 3 + (256 * (c.toNat : Int) + (e.toNat : Int))) (by omega) (by omega)]
  omega
theorem unpack_loop (n : Nat) : ∀ (k : Nat) (s : ByteArray) (x : List S37) (b : Int), s.toList.length ≤ n → n < k → s.size ≤ 9223372036854770000 → x.length + s.size < 5864062014805 →
    tlv_Unpack.l0 k s x 0 b = some (if unpackE (s.toList.length + 1) b s.toList = 0 then (x ++ (unpackL (s.toList.length + 1) s.toList).map toF, 0) else ([], unpackE (s.toList.length + 1) b s.toList)) := by
  induction n with
  | zero =>
    intro k s x b hn hk hs hx
    obtain ⟨k, rfl⟩ : ∃ m, k = m + 1 := ⟨k - 1, by omega⟩
    have h0 : s.toList = [] := List.length_eq_zero_iff.1 (by omega)
    simp only [tlv_Unpack.l0]
    rw [if_pos h0, if_pos trivial, h0, if_pos (show unpackE (([] : List UInt8).length + 1) b [] = 0 from rfl)]
    simp [unpackL]
  | succ n ih =>
    intro k s x b hn hk hs hx
    obtain ⟨k, rfl⟩ : ∃ m, k = m + 1 := ⟨k - 1, by omega⟩
    have hz := len_eq s
    have short : ∀ l, s.toList = l → l ≠ [] → l.length < 3 → tlv_Unpack.l0 (k + 1) s x 0 b = some (if unpackE (l.length + 1) b l = 0 then (x ++ (unpackL (l.length + 1) l).map toF, 0) else ([], unpackE (l.length + 1) b l)) := by
      intro l hl h1 h2
      have e : unpackE (l.length + 1) b l = 10 := by
        match l, h1, h2 with
        | [_], _, _ => rfl
        | [_, _], _, _ => rfl
        | [], h, _ => exact absurd rfl h
      simp only [tlv_Unpack.l0]
      rw [if_neg (by rw [hl]; exact h1), if_pos (by rw [hl] at hz; omega), if_neg (by decide), e, if_neg (by decide)]
    match hl : s.toList with
    | [] =>
      simp only [tlv_Unpack.l0]
      rw [if_pos hl, if_pos trivial, if_pos (show unpackE (([] : List UInt8).length + 1) b [] = 0 from rfl)]
      simp [unpackL]
    | [a] => exact short _ hl (by simp) (by simp)
    | [a, c] => exact short _ hl (by simp) (by simp)
    | a :: c :: e :: r =>
      have ha := a.toNat_lt
      have hc := c.toNat_lt
      have he := e.toNat_lt
      have b0 : bt s 0 = (a.toNat : Int) := bt_of hl 0 (by simp)
      have b1 : bt s 1 = (c.toNat : Int) := bt_of hl 1 (by simp)
      have b2 : bt s 2 = (e.toNat : Int) := bt_of hl 2 (by simp)
      have hsz : s.size = r.length + 3 := by rw [← hz, hl]; simp
      simp only [tlv_Unpack.l0, b0, b1, b2, w_byte, w_or, w_two c e, List.length_cons, Int.toNat_natCast]
      clear b0 b1 b2
      have hE : unpackE (r.length + 1 + 1 + 1 + 1) b (a :: c :: e :: r) = if a.toNat = 0 then 4 else if (a.toNat : Int) < b then 11 else if r.length < 256 * c.toNat + e.toNat then 10 else unpackE (r.length + 3) a.toNat (r.drop (256 * c.toNat + e.toNat)) := rfl
      have hL : unpackL (r.length + 1 + 1 + 1 + 1) (a :: c :: e :: r) = ((a.toNat : Int), ⟨(r.take (256 * c.toNat + e.toNat)).toArray⟩) :: unpackL (r.length + 3) (r.drop (256 * c.toNat + e.toNat)) := rfl
      rw [hE, hL, if_neg (by rw [hl]; simp), if_neg (by omega), if_pos (by omega), if_pos (by omega), if_pos (by omega)]
      by_cases h1 : a.toNat = 0
      · rw [if_pos (show (a.toNat : Int) = 0 by omega), if_neg (by decide), if_pos h1, if_neg (by decide)]
      · rw [if_neg (show ¬ (a.toNat : Int) = 0 by omega), if_neg h1]
        by_cases h2 : (a.toNat : Int) < b
        · rw [if_pos h2, if_neg (by decide), if_pos h2, if_neg (by decide)]
        · rw [if_neg h2, if_neg h2]
          by_cases h3 : r.length < 256 * c.toNat + e.toNat
          · rw [if_pos (show (s.size : Int) < ((3 + (256 * c.toNat + e.toNat) : Nat) : Int) by omega), if_neg (by decide), if_pos h3, if_neg (by decide)]
          · rw [if_neg (show ¬ (s.size : Int) < ((3 + (256 * c.toNat + e.toNat) : Nat) : Int) by omega), if_neg h3, if_pos (by omega), if_pos (by omega), if_pos (by omega), if_pos (by omega)]
            have x1 : (s.extract (3 + (256 * c.toNat + e.toNat)) s.size).toList = r.drop (256 * c.toNat + e.toNat) := by
              rw [Lib.extract_toList, ← Lib.toList_data, hl]
              have : (a :: c :: e :: r).drop (3 + (256 * c.toNat + e.toNat)) = r.drop (256 * c.toNat + e.toNat) := by
                rw [← List.drop_drop]
                rfl
              rw [this]
              exact List.take_of_length_le (by rw [List.length_drop]; omega)
            have x2 : s.extract 3 (3 + (256 * c.toNat + e.toNat)) = ⟨(r.take (256 * c.toNat + e.toNat)).toArray⟩ := by
              apply ext_list
              rw [mk_toList (r.take (256 * c.toNat + e.toNat)), Lib.extract_toList, ← Lib.toList_data, hl]
              rw [show 3 + (256 * c.toNat + e.toNat) - 3 = 256 * c.toNat + e.toNat by omega]
              rfl
            have hz2 := len_eq (s.extract (3 + (256 * c.toNat + e.toNat)) s.size)
            rw [x1, List.length_drop] at hz2
            have hi := ih k (s.extract (3 + (256 * c.toNat + e.toNat)) s.size) (x ++ [⟨(a.toNat : Int), s.extract 3 (3 + (256 * c.toNat + e.toNat))⟩]) a.toNat
              (by rw [x1, List.length_drop]; rw [hl] at hn; simp only [List.length_cons] at hn; omega) (by omega) (by omega) (by rw [List.length_append, List.length_singleton]; omega)
            refine Eq.trans hi ?_
            obtain ⟨m1, m2⟩ := unpackE_more ((r.drop (256 * c.toNat + e.toNat)).length + 1) a.toNat (r.drop (256 * c.toNat + e.toNat)) (r.length + 3) (by omega) (by rw [List.length_drop]; omega)
            rw [x1, m1, m2, x2, List.append_assoc]
            rfl
theorem unpack_is (s : ByteArray) (hs : s.size < 5864062014805) (k : Nat) (hk : s.size < k) : tlv_Unpack.f k s = some ((unpackVal s.toList).1.map toF, (unpackVal s.toList).2) := by
  have h := unpack_loop s.size k s [] 0 (by rw [len_eq]; omega) hk (by omega) (by simpa using hs)
  refine Eq.trans h ?_
  unfold unpackVal
  split <;> rfl
end Go.Proofs.Ytnpgplgbnmphdaa.TlvFns
