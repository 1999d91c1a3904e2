/- shard.Split in plain Lean: the shards of a text. -/
import Derived.Test.YtoclacnhckpkfaaDoorPolyPlain
import Derived.Test.YtoclacnhckpkfaaDoorHShardTwo0
namespace Go.Proofs.YtoclacnhckpkfaaDoor.FA
open Go.RowKit Go.Proofs.YtoclacnhckpkfaaDoorW.PrintWords Go.Proofs.YtoclacnhckpkfaaDoorW.PrintLast Go.Proofs.YtoclacnhckpkfaaDoorW.PrintMore Go.Proofs.YtoclacnhckpkfaaDoor.B
set_option linter.unusedVariables false
set_option linter.unusedSimpArgs false
def sumS (s : ByteArray) : Int := ((sumN s.toList : Nat) : Int)
/-- The bytes of a text's shard. -/
def pieceB (t : ByteArray) (i : Nat) : ByteArray := ⟨((t.toList.drop (i * 256)).take 256).toArray⟩
def shardOf (op : Int) (t : ByteArray) (i : Nat) : S36 := ⟨op, (i : Int), pieceB t i, sumS (pieceB t i)⟩
def nPieces (n : Nat) : Nat := (n + 255) / 256
def shardsOf (op : Int) (t : ByteArray) (n : Nat) : List S36 := (List.range n).map (shardOf op t)
theorem extract_list (s : ByteArray) (a b : Nat) : (s.extract a b).toList = (s.toList.drop a).take (b - a) := by rw [Lib.extract_toList, ← Lib.toList_data]
theorem piece_is (t : ByteArray) (i : Nat) (n : Nat) (hn : n = min 256 (t.size - i * 256)) : (t.extract (i * 256) t.size).extract 0 n = pieceB t i := by
  apply ext_list
  unfold pieceB
  rw [mk_toList ((t.toList.drop (i * 256)).take 256), extract_list, extract_list, List.drop_zero, Nat.sub_zero, List.take_of_length_le (show (t.toList.drop (i * 256)).length ≤ t.size - i * 256 by rw [List.length_drop, len_eq]; omega)]
  have hl : (t.toList.drop (i * 256)).length = t.size - i * 256 := by rw [List.length_drop, len_eq]
  by_cases h : 256 ≤ t.size - i * 256
  · rw [show n = 256 by omega]
  · rw [List.take_of_length_le (by omega), List.take_of_length_le (by omega)]
theorem piece_size (t : ByteArray) (i : Nat) : (pieceB t i).size = min 256 (t.size - i * 256) := by
  unfold pieceB
  rw [mk_size ((t.toList.drop (i * 256)).take 256), List.length_take, List.length_drop, len_eq]
theorem split_loop (op sm : Int) (t : ByteArray) (ht : t.size ≤ 65535) (d : Nat) : ∀ (k i : Nat), i + d = nPieces t.size → t.size + d + 10 < k →
    shard_Split.l0 k op t (shardsOf op t i) ((nPieces t.size : Nat) : Int) (i : Int) op (t.size : Int) sm = some (op, (t.size : Int), sm, shardsOf op t (nPieces t.size), 0) := by
  induction d with
  | zero =>
    intro k i hd hk
    obtain ⟨k, rfl⟩ : ∃ m, k = m + 1 := ⟨k - 1, by omega⟩
    simp only [shard_Split.l0]
    rw [if_neg (by omega), show i = nPieces t.size by omega]
  | succ d ih =>
    intro k i hd hk
    obtain ⟨k, rfl⟩ : ∃ m, k = m + 1 := ⟨k - 1, by omega⟩
    have hi : i * 256 < t.size := by unfold nPieces at hd; omega
    have hi2 : i ≤ 255 := by omega
    have hw : wrap64 ((i : Int) * 256) = ((i * 256 : Nat) : Int) := by rw [wrap64_in (by omega) (by omega)]; omega
    simp only [shard_Split.l0]
    rw [hw, if_pos (by omega), if_pos (by omega), if_pos (by omega), length_is _ _ _ _ (by omega) (by omega) (by omega) (by omega), Option.bind_some, Int.toNat_natCast]
    obtain ⟨n, hn⟩ : ∃ n : Nat, n = min 256 (t.size - i * 256) := ⟨_, rfl⟩
    have hmn : mn 256 ((t.size : Int) - (i : Int) * 256) = (n : Int) := by
      unfold mn
      by_cases h : (t.size : Int) - (i : Int) * 256 < 256
      · rw [if_pos h]; omega
      · rw [if_neg h]; omega
    have hes : (t.extract (i * 256) t.size).size = t.size - i * 256 := by rw [ByteArray.size_extract, Nat.min_self]
    rw [hmn, if_pos (by omega), if_pos (by rw [hes]; omega), Int.toNat_natCast, piece_is t i n hn, sum_is _ (by rw [piece_size]; omega) k (by rw [piece_size]; omega), Option.bind_some, if_pos (by unfold shardsOf; rw [List.length_map, List.length_range]; omega), wrap64_in (by omega) (by omega), show (i : Int) + 1 = ((i + 1 : Nat) : Int) by omega]
    have hs : shardsOf op t i ++ [⟨op, (i : Int), pieceB t i, ((sumN (pieceB t i).toList : Nat) : Int)⟩] = shardsOf op t (i + 1) := by
      unfold shardsOf
      rw [List.range_succ, List.map_append]
      rfl
    rw [hs]
    exact ih k (i + 1) (by omega) (by omega)
def splitV (op : Int) (t : ByteArray) : Int × Int × Int × (List S36) × Int :=
  if op < 0 ∨ op > 1099511627776 then (0, 0, 0, [], 1) else if t.toList = [] ∨ t.size > 65535 then (0, 0, 0, [], 2) else (op, (t.size : Int), sumS t, shardsOf op t (nPieces t.size), 0)
theorem split_is (op : Int) (t : ByteArray) (k : Nat) (hk : 70000 ≤ k) : shard_Split.f k op t = some (splitV op t) := by
  obtain ⟨k, rfl⟩ : ∃ m, k = m + 1 := ⟨k - 1, by omega⟩
  have hj : ∀ b, shard_Split.j0 (k + 1) op t b = some (if b = true then (0, 0, 0, [], 1) else if t.toList = [] ∨ t.size > 65535 then (0, 0, 0, [], 2) else (op, (t.size : Int), sumS t, shardsOf op t (nPieces t.size), 0)) := by
    intro b
    simp only [shard_Split.j0]
    cases b with
    | true => rw [if_pos rfl, if_pos rfl]
    | false =>
      rw [if_neg (show ¬ false = true by decide), if_neg (show ¬ false = true by decide)]
      by_cases h1 : t.toList = []
      · rw [if_pos h1, if_pos (.inl h1)]
      rw [if_neg h1]
      by_cases h2 : (t.size : Int) > 65535
      · rw [if_pos h2, if_pos (.inr (by omega))]
      rw [if_neg h2, if_neg (fun h => h.elim h1 (fun h => h2 (by omega))), sum_is _ (by omega) k (by omega), Option.bind_some, pieces_is _ _ _ (by omega) (by omega), Option.bind_some]
      have hp : ((t.size : Int) + 255) / 256 = ((nPieces t.size : Nat) : Int) := by unfold nPieces; omega
      rw [hp]
      exact split_loop op (sumS t) t (by omega) (nPieces t.size) k 0 (by omega) (by unfold nPieces; omega)
  unfold shard_Split.f splitV
  by_cases h0 : op < 0
  · rw [if_pos h0, hj, if_pos rfl, if_pos (.inl h0)]
  · rw [if_neg h0, hj]
    by_cases h1 : op > 1099511627776
    · rw [decide_eq_true h1, if_pos rfl, if_pos (.inr h1)]
    · rw [decide_eq_false h1, if_neg (show ¬ false = true by decide), if_neg (show ¬ (op < 0 ∨ op > 1099511627776) from fun h => h.elim h0 h1)]
end Go.Proofs.YtoclacnhckpkfaaDoor.FA
