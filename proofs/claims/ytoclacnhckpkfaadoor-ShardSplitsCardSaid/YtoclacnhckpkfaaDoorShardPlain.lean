/- Joined by merge.py out of: ShardFns, ShardTwoFns, HShardTwo. -/
import Derived.Test.YtoclacnhckpkfaaDoorPolyPlain
import Derived.Test.YtoclacnhckpkfaaDoorHShardTwo0
section
/- shard.Split in plain Lean: the shards of a text. -/
namespace Go.Proofs.YtoclacnhckpkfaaDoor.FA
open Go.RowKit Go.Proofs.YtoclacnhckpkfaaDoorW.PrintWords Go.Proofs.YtoclacnhckpkfaaDoorW.PrintLast Go.Proofs.YtoclacnhckpkfaaDoorW.PrintMore Go.Proofs.YtoclacnhckpkfaaDoor.B
set_option linter.unusedVariables false
set_option linter.unusedSimpArgs false
def sumS (s : ByteArray) : Int := ((sumN s.toList : Nat) : Int)
/-- The bytes of a text's shard. -/
def pieceB (t : ByteArray) (i : Nat) : ByteArray := ⟨((t.toList.drop (i * 256)).take 256).toArray⟩
def shardOf (op : Int) (t : ByteArray) (i : Nat) : S36 := ⟨op, (i : Int), pieceB t i, sumS (pieceB t i)⟩
def nPieces (n : Nat) : Nat := (n + 255) / 256
def shardsOf (op : Int) (t : ByteArray) (n : Nat) : List S36 := (List.range n).map (shardOf op t)
theorem extract_list (s : ByteArray) (a b : Nat) : (s.extract a b).toList = (s.toList.drop a).take (b - a) := by rw [Lib.extract_toList, ← Lib.toList_data]
theorem piece_is (t : ByteArray) (i : Nat) (n : Nat) (hn : n = min 256 (t.size - i * 256)) : (t.extract (i * 256) t.size).extract 0 n = pieceB t i := by
  apply ext_list
  unfold pieceB
  rw [mk_toList ((t.toList.drop (i * 256)).take 256), extract_list, extract_list, List.drop_zero, Nat.sub_zero, List.take_of_length_le (show (t.toList.drop (i * 256)).length ≤ t.size - i * 256 by rw [List.length_drop, len_eq]; omega)]
  have hl : (t.toList.drop (i * 256)).length = t.size - i * 256 := by rw [List.length_drop, len_eq]
  by_cases h : 256 ≤ t.size - i * 256
  · rw [show n = 256 by omega]
  · rw [List.take_of_length_le (by omega), List.take_of_length_le (by omega)]
theorem piece_size (t : ByteArray) (i : Nat) : (pieceB t i).size = min 256 (t.size - i * 256) := by
  unfold pieceB
  rw [mk_size ((t.toList.drop (i * 256)).take 256), List.length_take, List.length_drop, len_eq]
theorem split_loop (op sm : Int) (t : ByteArray) (ht : t.size ≤ 65535) (d : Nat) : ∀ (k i : Nat), i + d = nPieces t.size → t.size + d + 10 < k →
    shard_Split.l0 k op t (shardsOf op t i) ((nPieces t.size : Nat) : Int) (i : Int) op (t.size : Int) sm = some (op, (t.size : Int), sm, shardsOf op t (nPieces t.size), 0) := by
  induction d with
  | zero =>
    intro k i hd hk
    obtain ⟨k, rfl⟩ : ∃ m, k = m + 1 := ⟨k - 1, by omega⟩
    simp only [shard_Split.l0]
    rw [if_neg (by omega), show i = nPieces t.size by omega]
  | succ d ih =>
    intro k i hd hk
    obtain ⟨k, rfl⟩ : ∃ m, k = m + 1 := ⟨k - 1, by omega⟩
    have hi : i * 256 < t.size := by unfold nPieces at hd; omega
    have hi2 : i ≤ 255 := by omega
    have hw : wrap64 ((i : Int) * 256) = ((i * 256 : Nat) : Int) := by rw [wrap64_in (by omega) (by omega)]; omega
    simp only [shard_Split.l0]
    rw [hw, if_pos (by omega), if_pos (by omega), if_pos (by omega), length_is _ _ _ _ (by omega) (by omega) (by omega) (by omega), Option.bind_some, Int.toNat_natCast]
    obtain ⟨n, hn⟩ : ∃ n : Nat, n = min 256 (t.size - i * 256) := ⟨_, rfl⟩
    have hmn : mn 256 ((t.size : Int) - (i : Int) * 256) = (n : Int) := by
      unfold mn
      by_cases h : (t.size : Int) - (i : Int) * 256 < 256
      · rw [if_pos h]; omega
      · rw [if_neg h]; omega
    have hes : (t.extract (i * 256) t.size).size = t.size - i * 256 := by rw [ByteArray.size_extract, Nat.min_self]
    rw [hmn, if_pos (by omega), if_pos (by rw [hes]; omega), Int.toNat_natCast, piece_is t i n hn, sum_is _ (by rw [piece_size]; omega) k (by rw [piece_size]; omega), Option.bind_some, if_pos (by unfold shardsOf; rw [List.length_map, List.length_range]; omega), wrap64_in (by omega) (by omega), show (i : Int) + 1 = ((i + 1 : Nat) : Int) by omega]
    have hs : shardsOf op t i ++ [⟨op, (i : Int), pieceB t i, ((sumN (pieceB t i).toList : Nat) : Int)⟩] = shardsOf op t (i + 1) := by
      unfold shardsOf
      rw [List.range_succ, List.map_append]
      rfl
    rw [hs]
    exact ih k (i + 1) (by omega) (by omega)
def splitV (op : Int) (t : ByteArray) : Int × Int × Int × (List S36) × Int :=
  if op < 0 ∨ op > 1099511627776 then (0, 0, 0, [], 1) else if t.toList = [] ∨ t.size > 65535 then (0, 0, 0, [], 2) else (op, (t.size : Int), sumS t, shardsOf op t (nPieces t.size), 0)
theorem split_is (op : Int) (t : ByteArray) (k : Nat) (hk : 70000 ≤ k) : shard_Split.f k op t = some (splitV op t) := by
  obtain ⟨k, rfl⟩ : ∃ m, k = m + 1 := ⟨k - 1, by omega⟩
  have hj : ∀ b, shard_Split.j0 (k + 1) op t b = some (if b = true then (0, 0, 0, [], 1) else if t.toList = [] ∨ t.size > 65535 then (0, 0, 0, [], 2) else (op, (t.size : Int), sumS t, shardsOf op t (nPieces t.size), 0)) := by
    intro b
    simp only [shard_Split.j0]
    cases b with
    | true => rw [if_pos rfl, if_pos rfl]
    | false =>
      rw [if_neg (show ¬ false = true by decide), if_neg (show ¬ false = true by decide)]
      by_cases h1 : t.toList = []
      · rw [if_pos h1, if_pos (.inl h1)]
      rw [if_neg h1]
      by_cases h2 : (t.size : Int) > 65535
      · rw [if_pos h2, if_pos (.inr (by omega))]
      rw [if_neg h2, if_neg (fun h => h.elim h1 (fun h => h2 (by omega))), sum_is _ (by omega) k (by omega), Option.bind_some, pieces_is _ _ _ (by omega) (by omega), Option.bind_some]
      have hp : ((t.size : Int) + 255) / 256 = ((nPieces t.size : Nat) : Int) := by unfold nPieces; omega
      rw [hp]
      exact split_loop op (sumS t) t (by omega) (nPieces t.size) k 0 (by omega) (by unfold nPieces; omega)
  unfold shard_Split.f splitV
  by_cases h0 : op < 0
  · rw [if_pos h0, hj, if_pos rfl, if_pos (.inl h0)]
  · rw [if_neg h0, hj]
    by_cases h1 : op > 1099511627776
    · rw [decide_eq_true h1, if_pos rfl, if_pos (.inr h1)]
    · rw [decide_eq_false h1, if_neg (show ¬ false = true by decide), if_neg (show ¬ (op < 0 ∨ op > 1099511627776) from fun h => h.elim h0 h1)]
end Go.Proofs.YtoclacnhckpkfaaDoor.FA
end

section
/- The sum of shards, joined; the law's function two is true. -/
namespace Go.Proofs.YtoclacnhckpkfaaDoor.FA
open Go.RowKit Go.Proofs.YtoclacnhckpkfaaDoorW.PrintWords Go.Proofs.YtoclacnhckpkfaaDoorW.PrintLast Go.Proofs.YtoclacnhckpkfaaDoorW.PrintMore Go.Proofs.YtoclacnhckpkfaaDoor.B
set_option linter.unusedVariables false
set_option linter.unusedSimpArgs false
theorem piece_list (t : ByteArray) (i : Nat) : (pieceB t i).toList = (t.toList.drop (i * 256)).take 256 := mk_toList _
theorem take_piece (t : ByteArray) (m : Nat) : t.toList.take ((m + 1) * 256) = t.toList.take (m * 256) ++ (pieceB t m).toList := by
  rw [piece_list, show (m + 1) * 256 = m * 256 + 256 by omega, List.take_add]
theorem sumU_is (t : ByteArray) (d : List ByteArray) (n : Nat) (hn : n ≤ 256) (hd : ∀ i, i < n → d.getD i ⟨#[]⟩ = pieceB t i) (k : Nat) (hk : 1000 ≤ k) : ∀ m, m ≤ n → sumU k d m = some ((sumN (t.toList.take (m * 256)) : Nat) : Int)
  | 0, _ => by
    rw [Nat.zero_mul, List.take_zero]
    rfl
  | m + 1, hm => by
    have hz := piece_size t m
    unfold sumU
    rw [sumU_is t d n hn hd k hk m (by omega), Option.bind_some, hd m (by omega), sum_is _ (by omega) k (by omega), Option.bind_some, join_is _ _ _ (sumN_lt _) (sumN_lt _) (by omega) k (by omega), Option.bind_some, take_piece, sum_join, len_eq]
theorem joinTail_flat : ∀ (r : List (List UInt8)), Lib.join r [] = r.flatten
  | [] => rfl
  | [x] => by simp [Lib.join, List.intercalate]
  | x :: y :: r => by
    have h := joinTail_flat (y :: r)
    simp only [Lib.join, List.intercalate, List.intersperse, List.flatten_cons, List.nil_append] at h ⊢
    rw [h]
theorem data_list (s : ByteArray) : s.data.toList = s.toList := (Lib.toList_data s).symm
theorem flat_pieces (t : ByteArray) (d : List ByteArray) (n : Nat) (hn : n ≤ d.length) (hd : ∀ i, i < n → d.getD i ⟨#[]⟩ = pieceB t i) : ∀ m, m ≤ n → ((d.take m).map (·.data.toList)).flatten = t.toList.take (m * 256)
  | 0, _ => by rw [Nat.zero_mul, List.take_zero, List.take_zero]; rfl
  | m + 1, hm => by
    have hlt : m < d.length := by omega
    have hg : d[m] = pieceB t m := by
      have := hd m (by omega)
      rw [List.getD_eq_getElem?_getD, List.getElem?_eq_getElem hlt] at this
      exact this
    rw [take_piece, ← flat_pieces t d n hn hd m (by omega), List.take_succ_eq_append_getElem hlt, List.map_append, List.flatten_append]
    rw [hg]
    simp only [List.map_cons, List.map_nil, List.flatten_cons, List.flatten_nil, List.append_nil, data_list]
theorem join_all (t : ByteArray) (d : List ByteArray) (n : Nat) (hn : n ≤ d.length) (hd : ∀ i, i < n → d.getD i ⟨#[]⟩ = pieceB t i) (ht : t.size ≤ n * 256) : Lib.join ((d.take n).map (·.data.toList)) (⟨#[]⟩ : ByteArray).data.toList = t.toList := by
  show Lib.join ((d.take n).map (·.data.toList)) [] = t.toList
  rw [joinTail_flat, flat_pieces t d n hn hd n (Nat.le_refl _), List.take_of_length_le (by rw [len_eq]; exact ht)]
theorem zText_list : zText.toList = List.replicate 300 0 := by
  unfold zText
  have : (strOfNums (List.replicate 300 0)).toList = (List.replicate 300 (0 : Int)).map fun n => UInt8.ofNat n.toNat := by rw [Lib.toList_data]; rfl
  rw [this, List.map_replicate]
  rfl
theorem zText_size : zText.size = 300 := by rw [← len_eq, zText_list, List.length_replicate]
theorem noData_len : noData.length = 256 := List.length_replicate
theorem d1_len (b : ByteArray) : (d1 b).length = 256 := by unfold d1; rw [List.length_set, noData_len]
theorem two_data (a b : ByteArray) : (d2 a b).getD 0 ⟨#[]⟩ = a ∧ (d2 a b).getD 1 ⟨#[]⟩ = b ∧ (d1 b).getD 0 ⟨#[]⟩ = ⟨#[]⟩ ∧ (d1 b).getD 1 ⟨#[]⟩ = b ∧ (d2 a b).length = 256 := by
  have h1 : (d1 b)[1]? = some b := by unfold d1; rw [List.getElem?_set_self (by rw [noData_len]; decide)]
  refine ⟨?_, ?_, ?_, ?_, ?_⟩
  · rw [List.getD_eq_getElem?_getD]; unfold d2; rw [List.getElem?_set_self (by rw [d1_len]; decide)]; rfl
  · rw [List.getD_eq_getElem?_getD]; unfold d2; rw [List.getElem?_set_ne (by decide), h1]; rfl
  · rw [List.getD_eq_getElem?_getD]; unfold d1; rw [List.getElem?_set_ne (by decide)]; unfold noData; rw [List.getElem?_replicate]; rfl
  · rw [List.getD_eq_getElem?_getD, h1]; rfl
  · unfold d2; rw [List.length_set, d1_len]
theorem ints_loop (l : List Int) (hl : l.length ≤ 1000000) (d : Nat) : ∀ (k i : Nat), i + d = l.length → d < k → sextonplain_Ints.l0 k l l (l.length : Int) (i : Int) = some true := by
  induction d with
  | zero =>
    intro k i hd hk
    obtain ⟨k, rfl⟩ : ∃ m, k = m + 1 := ⟨k - 1, by omega⟩
    simp only [sextonplain_Ints.l0]
    rw [if_neg (by omega)]
    simp
  | succ d ih =>
    intro k i hd hk
    obtain ⟨k, rfl⟩ : ∃ m, k = m + 1 := ⟨k - 1, by omega⟩
    simp only [sextonplain_Ints.l0]
    rw [if_pos (by omega), if_neg (by omega), if_pos (by omega), if_pos (by omega), if_pos (by omega), if_pos trivial, wrap64_in (by omega) (by omega), show (i : Int) + 1 = ((i + 1 : Nat) : Int) by omega]
    exact ih k (i + 1) (by omega) (by omega)
theorem ints_self (l : List Int) (hl : l.length ≤ 1000000) (k : Nat) (hk : l.length < k) : sextonplain_Ints.f k l l = some true := ints_loop l hl l.length k 0 (by omega) hk
theorem two_calls (w : World) (hT : TabW w) : Calls Tryd.prog 8 #[] w fun ev w' => ev = .returned (.bool true) ∧ Below w.heap.size w w' := by
  obtain ⟨g1, g2, g3, g4, g5⟩ := two_data (pieceB zText 0) (pieceB zText 1)
  have z0 := piece_size zText 0
  have z1 := piece_size zText 1
  rw [zText_size] at z0 z1
  have hd : ∀ i, i < 2 → (d2 (pieceB zText 0) (pieceB zText 1)).getD i ⟨#[]⟩ = pieceB zText i := by
    intro i hi
    rcases i with _ | _ | i
    · exact g1
    · exact g2
    · omega
  have hne : ∀ s : ByteArray, 0 < s.size → s.toList ≠ [] := fun s h h2 => by rw [← len_eq, h2] at h; exact absurd h (by decide)
  have hs := sumU_is zText (d2 (pieceB zText 0) (pieceB zText 1)) 2 (by decide) hd 70000 (by decide) 2 (Nat.le_refl _)
  rw [List.take_of_length_le (by rw [len_eq, zText_size]; decide)] at hs
  have hj := join_all zText (d2 (pieceB zText 0) (pieceB zText 1)) 2 (by rw [g5]; decide) hd (by rw [zText_size]; decide)
  have hsp := split_is 5 zText 70000 (Nat.le_refl _)
  have hsv : splitV 5 zText = (5, 300, sumS zText, [⟨5, 0, pieceB zText 0, sumS (pieceB zText 0)⟩, ⟨5, 1, pieceB zText 1, sumS (pieceB zText 1)⟩], 0) := by
    unfold splitV
    rw [if_neg (by decide), if_neg (fun h => h.elim (hne _ (by rw [zText_size]; decide)) (fun h => by rw [zText_size] at h; exact absurd h (by decide))), zText_size]
    rfl
  rw [hsv] at hsp
  have hl := sumN_lt zText.toList
  have hck : shard_Check.f 5 300 (sumS zText) = some 0 := by
    unfold shard_Check.f sumS
    rw [if_neg (by decide), if_neg (by decide), if_neg (by decide), if_neg (by decide), if_neg (by omega), if_neg (by omega)]
  refine two_walk 70000 (sumS zText) (sumS (pieceB zText 0)) (sumS (pieceB zText 1)) (pieceB zText 0) (pieceB zText 1) w hT hsp hck (by omega) (by omega) (sum_is _ (by omega) _ (by omega)) (sum_is _ (by omega) _ (by omega)) hs ?_ ?_ ?_ ?_ ?_ zText_size
  · rw [hj]; exact mk_of_list zText
  · rw [hj, len_eq, zText_size]; decide
  · simp only [missU]
    rw [g3, g4, if_pos e_toList, if_neg (hne _ (by omega))]
    rfl
  · simp only [missU]
    rw [g1, g2, if_neg (hne _ (by omega)), if_neg (hne _ (by omega))]
    rfl
  · exact ints_self [0] (by decide) 70000 (by decide)
end Go.Proofs.YtoclacnhckpkfaaDoor.FA
end

section
/- Written by hand: the law's function two, as the print takes it. -/
namespace Go.Proofs.YtoclacnhckpkfaaDoor.FA
open Go.RowKit Go.Proofs.YtoclacnhckpkfaaDoorW.PrintWords Go.Proofs.YtoclacnhckpkfaaDoorW.PrintLast Go.Proofs.YtoclacnhckpkfaaDoorW.PrintMore Go.Proofs.YtoclacnhckpkfaaDoor.Hand Go.Proofs.YtoclacnhckpkfaaDoor.B
set_option linter.unusedVariables false
def sextonlaw19_two.f : Option Bool := some true
theorem sextonlaw19_two.calls (r : Bool) (w : World) (hT : TabW w) (h : sextonlaw19_two.f = some r) : Calls Tryd.prog 8 #[] w fun e w' => e = .returned (.bool r) ∧ Below w.heap.size w w' := by
  obtain rfl := Option.some.inj h
  exact two_calls w hT
end Go.Proofs.YtoclacnhckpkfaaDoor.FA
end
