/- There and back: what was packed is unpacked, and what is unpacked is packed so. -/
import Derived.Test.YtellcdiifpdonaaRdAskBack
import Derived.Test.YtellcdiifpdonaaAskFns
namespace Go.Proofs.Ytellcdiifpdonaa.askBack
open Go.RowKit Go.Proofs.Ytellcdiifpdonaa.FA Go.Proofs.YtellcdiifpdonaaW.PrintWords Go.Proofs.Ytellcdiifpdonaa.Rd Go.Proofs.Ytellcdiifpdonaa.B Go.Proofs.Ytellcdiifpdonaa.TlvFns
set_option linter.unusedVariables false
theorem kd_max (s : ByteArray) : (unpackCl s).1.kd ≤ 9223372036854775807 := by
  unfold unpackCl
  split
  · split
    · exact numberOf_max _
    · decide
  · decide
theorem back_j0 (s : ByteArray) (hs : s.size ≤ 1048576) (k : Nat) (hk : s.size + 30 ≤ k) : sextonlaw13_AskBack.j0 (k + 1) s = some true := by
  have e1 := ask_unpack_is s (by omega) k (by omega)
  have e6 := look_is k (by omega)
  simp only [sextonlaw13_AskBack.j0]
  rw [e1, Option.bind_some]
  by_cases h : (unpackCl s).2 = 0
  · rw [if_pos (show (unT (unpackCl s)).2.2.2.2.2.2.2.2.2.2 = 0 from h)]
    have hp := ask_pack_is (unpackCl s).1 k (by omega) (kd_max s)
    rw [pack_unpackCl s h] at hp
    have hp2 : ask_Pack.f k (unT (unpackCl s)).1 (unT (unpackCl s)).2.1 (unT (unpackCl s)).2.2.1 (unT (unpackCl s)).2.2.2.1 (unT (unpackCl s)).2.2.2.2.1 (unT (unpackCl s)).2.2.2.2.2.1 (unT (unpackCl s)).2.2.2.2.2.2.1 (unT (unpackCl s)).2.2.2.2.2.2.2.1 (unT (unpackCl s)).2.2.2.2.2.2.2.2.1 (unT (unpackCl s)).2.2.2.2.2.2.2.2.2.1 = some (s, 0) := hp
    rw [hp2, Option.bind_some, if_pos rfl, if_pos rfl, e6, Option.bind_some]
  · rw [if_neg (show ¬ (unT (unpackCl s)).2.2.2.2.2.2.2.2.2.2 = 0 from h)]
    have hz := unpackCl_no s h
    have hu : unT (unpackCl s) = unT (zeroCl, (unpackCl s).2) := by unfold unT; rw [hz]
    rw [hu]
    have e0 : (⟨#[]⟩ : ByteArray).toList = [] := mk_toList []
    rw [if_pos (by simp [unT, zeroCl, e0]), e6, Option.bind_some]
theorem pure_AskBack : ∀ (a0 : S25) (o0 : r25.ok a0) (a1 : ByteArray) (o1 : r9.ok a1) (bk : r25.b a0 + r9.b a1 ≤ 1048576), ∃ k, sextonlaw13_AskBack.f k a0.f0 a0.f1.f0 a0.f1.f1 a0.f2.f0 a0.f2.f1 a0.f3 a0.f4 a0.f5 a0.f6 a0.f7 a1 = some true := by
  intro a o0 s _ bk
  have hb : r9.b s ≤ 1048576 := by omega
  have hs : s.size + 1 ≤ 1048576 := hb
  have hk0 := (wf_i64 o0.1).2
  obtain ⟨c, hc⟩ : ∃ c : Cl, c = ⟨a.f0, a.f1.f0, a.f1.f1, a.f2.f0, a.f2.f1, a.f3, a.f4, a.f5, a.f6, a.f7⟩ := ⟨_, rfl⟩
  obtain ⟨k, hk⟩ : ∃ k : Nat, k = s.size + 20000 := ⟨_, rfl⟩
  have e1 : ask_Pack.f (k + 1) a.f0 a.f1.f0 a.f1.f1 a.f2.f0 a.f2.f1 a.f3 a.f4 a.f5 a.f6 a.f7 = some (packCl c) := by rw [hc]; exact ask_pack_is ⟨a.f0, a.f1.f0, a.f1.f1, a.f2.f0, a.f2.f1, a.f3, a.f4, a.f5, a.f6, a.f7⟩ (k + 1) (by omega) hk0
  have e2 := back_j0 s (by omega) k (by omega)
  refine ⟨k + 1, ?_⟩
  unfold sextonlaw13_AskBack.f
  rw [e1, Option.bind_some]
  by_cases h : rightCl c = true
  · have hu := unpack_packCl c h
    have h2 : (packCl c).2 = 0 := by rw [packCl, if_pos h]
    have hl := pieces_len 1024 (partsCl c) 1 (parts_small h)
    have h8 : (partsCl c).length = 8 := rfl
    have hz : (packCl c).1.size ≤ 8216 := by
      rw [packCl, if_pos h]
      show (⟨(pieces 1 (partsCl c)).toArray⟩ : ByteArray).size ≤ 8216
      rw [mk_size (pieces 1 (partsCl c))]; omega
    have e3 := ask_unpack_is (packCl c).1 (by omega) (k + 1) (by omega)
    rw [hu] at e3
    rw [if_pos h2, e3, Option.bind_some, if_pos (show (unT (c, 0)).2.2.2.2.2.2.2.2.2.2 = 0 from rfl), if_neg, e2]
    rw [hc]
    simp [unT]
  · have h2 : (packCl c).2 ≠ 0 := by rw [packCl, if_neg h]; decide
    rw [if_neg h2, e2]
end Go.Proofs.Ytellcdiifpdonaa.askBack
