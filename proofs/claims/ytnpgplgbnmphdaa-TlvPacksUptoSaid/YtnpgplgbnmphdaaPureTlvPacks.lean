/- Fields as bytes, or why they are none. -/
import Derived.Test.YtnpgplgbnmphdaaRdTlvPacks
import Derived.Test.YtnpgplgbnmphdaaLawFns
import Derived.Test.YtnpgplgbnmphdaaPackFns
import Derived.Test.YtnpgplgbnmphdaaRefPackFns
namespace Go.Proofs.Ytnpgplgbnmphdaa.tlvPacks
open Go.RowKit Go.Proofs.Ytnpgplgbnmphdaa.FA Go.Proofs.YtnpgplgbnmphdaaW.PrintWords Go.Proofs.Ytnpgplgbnmphdaa.Rd Go.Proofs.Ytnpgplgbnmphdaa.B Go.Proofs.Ytnpgplgbnmphdaa.TlvFns
set_option linter.unusedVariables false
theorem bulk_of (l : List S37) (h : r34.b l ≤ 1048576) : (packB (fl l)).length ≤ 1048576 ∧ l.length ≤ 1048576 := by
  have := packed_le r37.b (fun _ => rfl) l
  have h' : bs r37.b l + 1 ≤ 1048576 := h
  omega
theorem pure_TlvPacks : ∀ (a0 : (List S37)) (o0 : r34.ok a0) (bk : r34.b a0 ≤ 1048576), ∃ k, sextonlaw01_TlvPacks.f k a0 = some true := by
  intro l _ bk
  obtain ⟨h1, h2⟩ := bulk_of l bk
  refine ⟨3 * l.length + 12, ?_⟩
  unfold sextonlaw01_TlvPacks.f
  have hr := fr_conv l
  rw [pack_is l (by omega) _ (by omega), ref_is l (by omega) _ (by omega)]
  simp only [Option.bind_some]
  rw [ref_pack_is (l.map conv) (by rw [hr]; omega) _ (by rw [List.length_map]; omega), hr, pack_is _ (by simp only [fl, List.map_cons, List.map_nil, packB, List.length_append, fieldB_length, List.length_nil]; decide) _ (by simp only [List.length_cons, List.length_nil]; omega)]
  simp only [Option.bind_some]
  have e : packVal (fl [(⟨1, (⟨#[97, 98]⟩ : ByteArray)⟩ : S37), ⟨1, (⟨#[]⟩ : ByteArray)⟩, ⟨7, (⟨#[120]⟩ : ByteArray)⟩]) = (⟨#[1, 0, 2, 97, 98, 1, 0, 0, 7, 0, 1, 120]⟩, 0) := by
    simp only [packVal, fl, List.map_cons, List.map_nil, packE, packB, fieldB, Lib.toList_data]
    rfl
  rw [e, if_pos trivial, if_pos trivial, if_pos rfl, Lib.toList_data]
  rfl
end Go.Proofs.Ytnpgplgbnmphdaa.tlvPacks
