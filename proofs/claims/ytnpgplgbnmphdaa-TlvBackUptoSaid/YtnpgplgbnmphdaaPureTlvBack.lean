/- What was packed is unpacked. -/
import Derived.Test.YtnpgplgbnmphdaaRdTlvBack
import Derived.Test.YtnpgplgbnmphdaaLawFns
import Derived.Test.YtnpgplgbnmphdaaPackFns
import Derived.Test.YtnpgplgbnmphdaaUnpackFns
import Derived.Test.YtnpgplgbnmphdaaSmall
namespace Go.Proofs.Ytnpgplgbnmphdaa.tlvBack
open Go.RowKit Go.Proofs.Ytnpgplgbnmphdaa.FA Go.Proofs.YtnpgplgbnmphdaaW.PrintWords Go.Proofs.Ytnpgplgbnmphdaa.Rd Go.Proofs.Ytnpgplgbnmphdaa.B Go.Proofs.Ytnpgplgbnmphdaa.TlvFns
set_option linter.unusedVariables false
theorem bulk_of (l : List S37) (h : r34.b l ≤ 1048576) : (packB (fl l)).length ≤ 1048576 ∧ l.length ≤ 1048576 := by
  have := packed_le r37.b (fun _ => rfl) l
  have h' : bs r37.b l + 1 ≤ 1048576 := h
  omega
theorem pure_TlvBack : ∀ (a0 : (List S37)) (o0 : r34.ok a0) (bk : r34.b a0 ≤ 1048576), ∃ k, sextonlaw01_TlvBack.f k a0 = some true := by
  intro l _ bk
  obtain ⟨h1, h2⟩ := bulk_of l bk
  refine ⟨(packB (fl l)).length + l.length + 14, ?_⟩
  unfold sextonlaw01_TlvBack.f
  rw [pack_is l (by omega) _ (by omega)]
  simp only [Option.bind_some]
  by_cases hE : packE 0 (fl l) = 0
  · have hv : packVal (fl l) = (⟨(packB (fl l)).toArray⟩, 0) := by unfold packVal; rw [if_pos hE]
    have hz : (⟨(packB (fl l)).toArray⟩ : ByteArray).size = (packB (fl l)).length := mk_size _
    rw [hv, if_pos rfl, unpack_is _ (by rw [hz]; omega) _ (by rw [hz]; omega), mk_toList (packB (fl l))]
    have hu : unpackVal (packB (fl l)) = (fl l, 0) := by
      have hp := pack_length (fl l)
      obtain ⟨u1, u2⟩ := unpack_packs (fl l) 0 ((packB (fl l)).length + 1) hE (by omega)
      unfold unpackVal
      rw [u1, u2, if_pos rfl]
    rw [hu]
    simp only [Option.bind_some]
    have hm : (fl l).map toF = l := by simp [fl, toF, Function.comp_def]
    rw [if_pos trivial, hm, ref_is l (by omega) _ (by omega)]
    simp only [Option.bind_some]
    rw [same_is l _ (fr_conv l).symm (by omega) _ (by omega), small_is _ (by omega)]
    rfl
  · have hv : packVal (fl l) = (⟨#[]⟩, packE 0 (fl l)) := by unfold packVal; rw [if_neg hE]
    rw [hv, if_neg hE, if_pos (by rw [Lib.toList_data]), small_is _ (by omega)]
    rfl
end Go.Proofs.Ytnpgplgbnmphdaa.tlvBack
