/- The fields that any bytes are, or why they are none. -/
import Derived.Test.YtnpgplgbnmphdaaRdTlvUnpacks
import Derived.Test.YtnpgplgbnmphdaaLawFns
import Derived.Test.YtnpgplgbnmphdaaUnpackFns
import Derived.Test.YtnpgplgbnmphdaaRefUnpackFns
namespace Go.Proofs.Ytnpgplgbnmphdaa.tlvUnpacks
open Go.RowKit Go.Proofs.Ytnpgplgbnmphdaa.FA Go.Proofs.YtnpgplgbnmphdaaW.PrintWords Go.Proofs.Ytnpgplgbnmphdaa.Rd Go.Proofs.Ytnpgplgbnmphdaa.B Go.Proofs.Ytnpgplgbnmphdaa.TlvFns
set_option linter.unusedVariables false
theorem pure_TlvUnpacks : ∀ (a0 : ByteArray) (o0 : r9.ok a0) (bk : r9.b a0 ≤ 1048576), ∃ k, sextonlaw01_TlvUnpacks.f k a0 = some true := by
  intro s _ bk
  have hs : s.size + 1 ≤ 1048576 := bk
  refine ⟨s.size + 12, ?_⟩
  unfold sextonlaw01_TlvUnpacks.f
  rw [unpack_is s (by omega) _ (by omega), ref_unpack_is s (by omega) _ (by omega), unpack_is ⟨#[1, 0, 1, 97]⟩ (by decide) _ (by show 4 < _; omega)]
  simp only [Option.bind_some]
  have hn : (unpackVal s.toList).1.length ≤ s.size := by
    rw [← len_eq]
    exact unpackVal_length _
  rw [same_is _ _ (by rw [fl_toF, fr_toR]) (by rw [List.length_map]; omega) _ (by rw [List.length_map]; omega)]
  simp only [Option.bind_some]
  have e : unpackVal (⟨#[1, 0, 1, 97]⟩ : ByteArray).toList = ([(1, ⟨#[97]⟩)], 0) := by rw [Lib.toList_data]; rfl
  rw [e, if_pos trivial, if_pos trivial, if_pos rfl]
  rw [if_pos (by simp), if_pos (by simp)]
  have e2 : (rd_T37 ([(1, (⟨#[97]⟩ : ByteArray))].map toF) 0).f1 = ⟨#[97]⟩ := rfl
  rw [e2, Lib.toList_data]
  rfl
end Go.Proofs.Ytnpgplgbnmphdaa.tlvUnpacks
