/- The manifest and the shards of each text, and which manifests are right: the program and the document's answer tell alike. -/
import Derived.Test.YtoclacnhckpkfaaDoorRdShardSplits
import Derived.Test.YtoclacnhckpkfaaDoorShardPlain
namespace Go.Proofs.YtoclacnhckpkfaaDoor.shardSplits
open Go.RowKit Go.Proofs.YtoclacnhckpkfaaDoor.FA Go.Proofs.YtoclacnhckpkfaaDoorW.PrintWords Go.Proofs.YtoclacnhckpkfaaDoor.Rd Go.Proofs.YtoclacnhckpkfaaDoor.B
set_option linter.unusedVariables false
set_option linter.unusedSimpArgs false
def refOf (op : Int) (t : ByteArray) (i : Nat) : S34 := ⟨op, (i : Int), pieceB t i, sumS (pieceB t i)⟩
def refsOf (op : Int) (t : ByteArray) (n : Nat) : List S34 := (List.range n).map (refOf op t)
theorem refs_len (op : Int) (t : ByteArray) (n : Nat) : (refsOf op t n).length = n := by unfold refsOf; rw [List.length_map, List.length_range]
theorem refs_succ (op : Int) (t : ByteArray) (i : Nat) : refsOf op t i ++ [⟨op, ((refsOf op t i).length : Int), pieceB t i, ((sumN (pieceB t i).toList : Nat) : Int)⟩] = refsOf op t (i + 1) := by
  rw [refs_len]
  unfold refsOf
  rw [List.range_succ, List.map_append]
  rfl
theorem ref_split_loop (op : Int) (t : ByteArray) (ht : t.size ≤ 65535) (d : Nat) : ∀ (k i : Nat) (x : ByteArray), x.toList = t.toList.drop (i * 256) → i + d = nPieces t.size → t.size + d + 20 < k →
    sextonref19_Split.l0 k op t (refsOf op t i) x = some (op, (t.size : Int), sumS t, refsOf op t (nPieces t.size), 0) := by
  induction d with
  | zero =>
    intro k i x hx hd hk
    obtain ⟨k, rfl⟩ : ∃ m, k = m + 1 := ⟨k - 1, by omega⟩
    have h0 : x.toList = [] := by rw [hx]; exact List.drop_of_length_le (by rw [len_eq]; unfold nPieces at hd; omega)
    simp only [sextonref19_Split.l0]
    rw [if_pos h0, ref_sum_is _ (by omega) k (by omega), Option.bind_some, show i = nPieces t.size by omega]
    rfl
  | succ d ih =>
    intro k i x hx hd hk
    obtain ⟨k, rfl⟩ : ∃ m, k = m + 1 := ⟨k - 1, by omega⟩
    have hi : i * 256 < t.size := by unfold nPieces at hd; omega
    have hxs : x.size = t.size - i * 256 := by rw [← len_eq, hx, List.length_drop, len_eq]
    have h0 : x.toList ≠ [] := fun h => by have := congrArg List.length h; rw [len_eq, List.length_nil] at this; omega
    have hr : (refsOf op t i).length < 3518437208883 := by rw [refs_len]; unfold nPieces at hd; omega
    simp only [sextonref19_Split.l0]
    rw [if_neg h0]
    by_cases h1 : (x.size : Int) < 256
    · have hp : x = pieceB t i := by
        apply ext_list
        unfold pieceB
        rw [mk_toList ((t.toList.drop (i * 256)).take 256), hx, List.take_of_length_le (by rw [List.length_drop, len_eq]; omega)]
      rw [if_pos h1, if_pos (by omega), if_pos (by omega), ref_sum_is _ (by omega) k (by omega), Option.bind_some, if_pos hr]
      have hrest : (x.extract ((x.size : Int) : Int).toNat x.size).toList = t.toList.drop ((i + 1) * 256) := by
        rw [Int.toNat_natCast, extract_list, Nat.sub_self, List.take_zero, List.drop_of_length_le (by rw [len_eq]; omega)]
      have hnext := ih k (i + 1) _ hrest (by omega) (by omega)
      rw [← refs_succ, ← hp] at hnext
      exact hnext
    · have hp : x.extract 0 256 = pieceB t i := by
        apply ext_list
        unfold pieceB
        rw [mk_toList ((t.toList.drop (i * 256)).take 256), extract_list, hx, List.drop_zero, Nat.sub_zero]
      rw [if_neg h1, if_pos (by decide), if_pos (by omega), hp, ref_sum_is _ (by rw [piece_size]; omega) k (by rw [piece_size]; omega), Option.bind_some, if_pos hr, refs_succ]
      refine ih k (i + 1) _ ?_ (by omega) (by omega)
      rw [extract_list, hx, List.drop_drop, List.take_of_length_le (by rw [List.length_drop, len_eq]; omega), show i * 256 + 256 = (i + 1) * 256 by omega]
def refSplitV (op : Int) (t : ByteArray) : Int × Int × Int × (List S34) × Int :=
  if op < 0 ∨ op > 1099511627776 then (0, 0, 0, [], 1) else if t.toList = [] ∨ t.size > 65535 then (0, 0, 0, [], 2) else (op, (t.size : Int), sumS t, refsOf op t (nPieces t.size), 0)
theorem ref_split_is (op : Int) (t : ByteArray) (k : Nat) (hk : 70000 ≤ k) : sextonref19_Split.f k op t = some (refSplitV op t) := by
  obtain ⟨k, rfl⟩ : ∃ m, k = m + 2 := ⟨k - 2, by omega⟩
  have hj1 : ∀ b, sextonref19_Split.j1 (k + 1) op t b = if b = true then some (0, 0, 0, [], 2) else sextonref19_Split.l0 k op t [] t := fun b => by simp only [sextonref19_Split.j1]
  have hj : ∀ b, sextonref19_Split.j0 (k + 2) op t b = some (if b = true then (0, 0, 0, [], 1) else if t.toList = [] ∨ t.size > 65535 then (0, 0, 0, [], 2) else (op, (t.size : Int), sumS t, refsOf op t (nPieces t.size), 0)) := by
    intro b
    simp only [sextonref19_Split.j0]
    cases b with
    | true => rw [if_pos rfl, if_pos rfl]
    | false =>
      rw [if_neg (show ¬ false = true by decide), if_neg (show ¬ false = true by decide), hj1, hj1]
      by_cases h1 : t.toList = []
      · rw [if_pos h1, if_pos rfl, if_pos (.inl h1)]
      rw [if_neg h1]
      by_cases h2 : (t.size : Int) > 65535
      · rw [decide_eq_true h2, if_pos rfl, if_pos (.inr (by omega))]
      rw [decide_eq_false h2, if_neg (show ¬ false = true by decide), if_neg (fun h => h.elim h1 (fun h => h2 (by omega)))]
      exact ref_split_loop op t (by omega) (nPieces t.size) k 0 t (by rw [Nat.zero_mul, List.drop_zero]) (by omega) (by unfold nPieces; omega)
  unfold sextonref19_Split.f refSplitV
  by_cases h0 : op < 0
  · rw [if_pos h0, hj, if_pos rfl, if_pos (.inl h0)]
  · rw [if_neg h0, hj]
    by_cases h1 : op > 1099511627776
    · rw [decide_eq_true h1, if_pos rfl, if_pos (.inr h1)]
    · rw [decide_eq_false h1, if_neg (show ¬ false = true by decide), if_neg (show ¬ (op < 0 ∨ op > 1099511627776) from fun h => h.elim h0 h1)]
def manOk (a b c : Int) : Bool := decide (0 ≤ a ∧ a ≤ 1099511627776 ∧ 1 ≤ b ∧ b ≤ 65535 ∧ 0 ≤ c ∧ c < 4294967296)
theorem check_man (a b c : Int) : shard_Check.f a b c = some (if manOk a b c = true then 0 else 4) := by
  unfold shard_Check.f manOk
  (repeat' split) <;> simp_all <;> omega
theorem right_man (a b c : Int) : sextonref19_Right.f a b c = some (manOk a b c) := by
  unfold sextonref19_Right.f manOk
  (repeat' split) <;> simp_all <;> omega
theorem rd_s {l : List S36} {i : Nat} (h : i < l.length) : rd_T36 l (i : Int) = l[i] := by
  unfold rd_T36
  rw [Int.toNat_natCast, List.getD_eq_getElem?_getD, List.getElem?_eq_getElem h]
  rfl
theorem rd_r {l : List S34} {i : Nat} (h : i < l.length) : rd_T34 l (i : Int) = l[i] := by
  unfold rd_T34
  rw [Int.toNat_natCast, List.getD_eq_getElem?_getD, List.getElem?_eq_getElem h]
  rfl
theorem law_end (a b c : Int) : ((shard_Check.f a b c).bind fun t161 => ((sextonref19_Right.f a b c).bind fun t162 => (if ((t161 == 0) == t162) = true then ((sextonlaw19_two.f).bind fun t163 => (some t163)) else (none)))) = some true := by
  rw [check_man, right_man, Option.bind_some, Option.bind_some]
  cases manOk a b c <;> rfl
theorem law_loop (op : Int) (t : ByteArray) (n : Nat) (hn : n ≤ 256) (a b c : Int) (d : Nat) : ∀ (k i : Nat), i + d = n → d < k → sextonlaw19_ShardSplits.l0 k (shardsOf op t n) (refsOf op t n) ((shardsOf op t n).length : Int) (i : Int) a b c = some true := by
  have hl : (shardsOf op t n).length = n := by unfold shardsOf; rw [List.length_map, List.length_range]
  induction d with
  | zero =>
    intro k i hd hk
    obtain ⟨k, rfl⟩ : ∃ m, k = m + 1 := ⟨k - 1, by omega⟩
    simp only [sextonlaw19_ShardSplits.l0]
    rw [if_neg (by omega)]
    exact law_end a b c
  | succ d ih =>
    intro k i hd hk
    obtain ⟨k, rfl⟩ : ∃ m, k = m + 1 := ⟨k - 1, by omega⟩
    have h1 : i < (shardsOf op t n).length := by omega
    have h2 : i < (refsOf op t n).length := by rw [refs_len]; omega
    have e1 : (shardsOf op t n)[i] = shardOf op t i := by simp [shardsOf]
    have e2 : (refsOf op t n)[i] = refOf op t i := by simp [refsOf]
    simp only [sextonlaw19_ShardSplits.l0]
    rw [if_pos (by omega), if_pos (by omega), if_pos (by omega), rd_s h1, rd_r h2, e1, e2]
    unfold sextonlaw19_ref.f
    rw [Option.bind_some, if_pos (by omega), if_neg (by simp [shardOf, refOf]), wrap64_in (by omega) (by omega), show (i : Int) + 1 = ((i + 1 : Nat) : Int) by omega]
    exact ih k (i + 1) (by omega) (by omega)
theorem law_j0 (op : Int) (t : ByteArray) (n : Nat) (hn : n ≤ 256) (a b c : Int) (k : Nat) (hk : 300 ≤ k) : sextonlaw19_ShardSplits.j0 k (shardsOf op t n) (refsOf op t n) (((shardsOf op t n).length : Int) != ((refsOf op t n).length : Int)) a b c = some true := by
  obtain ⟨k, rfl⟩ : ∃ m, k = m + 1 := ⟨k - 1, by omega⟩
  have hl : (shardsOf op t n).length = n := by unfold shardsOf; rw [List.length_map, List.length_range]
  simp only [sextonlaw19_ShardSplits.j0]
  rw [if_neg (by rw [hl, refs_len]; simp)]
  exact law_loop op t n hn a b c n k 0 (by omega) (by omega)
theorem pure_ShardSplits : ∀ (a0 : Int) (o0 : r3.ok a0) (a1 : ByteArray) (o1 : r9.ok a1) (a2 : S23) (o2 : r23.ok a2) (w0 : r3.wt a0) (w1 : r9.wt a1) (w2 : r23.wt a2), ∃ k, sextonlaw19_ShardSplits.f k a0 a1 a2.f0 a2.f1 a2.f2 = some true := by
  intro op _ t _ m _ _ _ _
  refine ⟨70000, ?_⟩
  unfold sextonlaw19_ShardSplits.f
  by_cases h : (t.size : Int) > 65536
  · rw [if_pos h]; rfl
  rw [if_neg h, split_is _ _ _ (Nat.le_refl _), Option.bind_some, ref_split_is _ _ _ (Nat.le_refl _), Option.bind_some]
  unfold splitV refSplitV
  by_cases h1 : op < 0 ∨ op > 1099511627776
  · rw [if_pos h1, if_pos h1, if_pos rfl, if_pos rfl, if_pos rfl, if_pos rfl]
    exact law_j0 op t 0 (by decide) _ _ _ _ (by decide)
  rw [if_neg h1, if_neg h1]
  by_cases h2 : t.toList = [] ∨ t.size > 65535
  · rw [if_pos h2, if_pos h2, if_pos rfl, if_pos rfl, if_pos rfl, if_pos rfl]
    exact law_j0 op t 0 (by decide) _ _ _ _ (by decide)
  rw [if_neg h2, if_neg h2, if_pos rfl, if_pos rfl, if_pos rfl, if_pos rfl]
  exact law_j0 op t (nPieces t.size) (by unfold nPieces; have : ¬ t.size > 65535 := fun h => h2 (.inr h); omega) _ _ _ _ (by decide)
end Go.Proofs.YtoclacnhckpkfaaDoor.shardSplits
