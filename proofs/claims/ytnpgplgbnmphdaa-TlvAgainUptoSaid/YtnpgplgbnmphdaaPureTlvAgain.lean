/- What is unpacked is packed as the bytes that it was, and a number is what it was made of. -/
import Derived.Test.YtnpgplgbnmphdaaRdTlvAgain
import Derived.Test.YtnpgplgbnmphdaaLawFns
import Derived.Test.YtnpgplgbnmphdaaPackFns
import Derived.Test.YtnpgplgbnmphdaaUnpackFns
import Derived.Test.YtnpgplgbnmphdaaSmall
import Derived.Test.YtnpgplgbnmphdaaNumberFns
namespace Go.Proofs.Ytnpgplgbnmphdaa.tlvAgain
open Go.RowKit Go.Proofs.Ytnpgplgbnmphdaa.FA Go.Proofs.YtnpgplgbnmphdaaW.PrintWords Go.Proofs.Ytnpgplgbnmphdaa.Rd Go.Proofs.Ytnpgplgbnmphdaa.B Go.Proofs.Ytnpgplgbnmphdaa.TlvFns
set_option linter.unusedVariables false
theorem again_j0 (n size : Int) (hn : n ≤ 9223372036854775807) (k : Nat) (hk : 14 ≤ k) : sextonlaw01_TlvAgain.j0 (k + 1) n size = some true := by
  simp only [sextonlaw01_TlvAgain.j0]
  rw [num_is n size hn k (by omega)]
  simp only [Option.bind_some]
  unfold numVal
  by_cases h : size < 1 ∨ 8 < size ∨ n < 0 ∨ (256 : Int) ^ size.toNat ≤ n
  · rw [if_pos h, if_neg (by decide), if_pos (by rw [Lib.toList_data]), small_is k (by omega)]
    rfl
  · rw [if_neg h, if_pos rfl, number_is _ k (by omega)]
    simp only [Option.bind_some]
    have hz : (⟨(be size.toNat n).toArray⟩ : ByteArray).size = size.toNat := by rw [mk_size, be_length]
    have hv : numberOf ⟨(be size.toNat n).toArray⟩ = (n, 0) := by
      unfold numberOf
      rw [hz, if_neg (by omega), mk_toList (be size.toNat n), bval_be _ n (by omega) (by omega), if_neg (by omega)]
    rw [hv, if_pos rfl, if_pos rfl, hz, if_pos (by omega), small_is k (by omega)]
    rfl
theorem pure_TlvAgain : ∀ (a0 : ByteArray) (o0 : r9.ok a0) (a1 : Int) (o1 : r3.ok a1) (a2 : Int) (o2 : r3.ok a2) (bk : r9.b a0 + r3.b a1 + r3.b a2 ≤ 1048576), ∃ k, sextonlaw01_TlvAgain.f k a0 a1 a2 = some true := by
  intro s _ n o1 size _ bk
  have hs : s.size + 1 + 1 + 1 ≤ 1048576 := bk
  have hn := (wf_i64 o1).2
  refine ⟨(s.size + 16) + 1, ?_⟩
  have hj := again_j0 n size hn (s.size + 16) (by omega)
  unfold sextonlaw01_TlvAgain.f
  rw [unpack_is s (by omega) _ (by omega)]
  simp only [Option.bind_some]
  have hz := len_eq s
  unfold unpackVal
  by_cases hE : unpackE (s.toList.length + 1) 0 s.toList = 0
  · rw [if_pos hE, if_pos rfl]
    obtain ⟨p1, p2⟩ := pack_unpacks (s.toList.length + 1) 0 s.toList hE (by omega)
    have hl := unpackL_length (s.toList.length + 1) s.toList
    rw [pack_is _ (by rw [fl_toF, p2]; omega) _ (by rw [List.length_map]; show (unpackL (s.toList.length + 1) s.toList).length + 1 < _; omega), fl_toF]
    simp only [Option.bind_some]
    have hv : packVal (unpackL (s.toList.length + 1) s.toList) = (s, 0) := by
      unfold packVal
      rw [if_pos p1, p2, mk_of_list]
    rw [hv, if_pos rfl, if_pos rfl]
    exact hj
  · rw [if_neg hE, if_neg hE]
    exact hj
end Go.Proofs.Ytnpgplgbnmphdaa.tlvAgain
