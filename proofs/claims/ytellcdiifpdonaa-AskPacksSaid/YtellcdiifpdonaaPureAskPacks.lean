/- Which calls are right, and their bytes: the program and the document's answer tell alike. -/
import Derived.Test.YtellcdiifpdonaaRdAskPacks
import Derived.Test.YtellcdiifpdonaaAskFns
namespace Go.Proofs.Ytellcdiifpdonaa.askPacks
open Go.RowKit Go.Proofs.Ytellcdiifpdonaa.FA Go.Proofs.YtellcdiifpdonaaW.PrintWords Go.Proofs.Ytellcdiifpdonaa.Rd Go.Proofs.Ytellcdiifpdonaa.B Go.Proofs.Ytellcdiifpdonaa.TlvFns
set_option linter.unusedVariables false
theorem pure_AskPacks : ∀ (a0 : S25) (o0 : r25.ok a0) (w0 : r25.wt a0), ∃ k, sextonlaw13_AskPacks.f k a0.f0 a0.f1.f0 a0.f1.f1 a0.f2.f0 a0.f2.f1 a0.f3 a0.f4 a0.f5 a0.f6 a0.f7 = some true := by
  intro a o0 _
  have hk0 := (wf_i64 o0.1).2
  obtain ⟨c, hc⟩ : ∃ c : Cl, c = ⟨a.f0, a.f1.f0, a.f1.f1, a.f2.f0, a.f2.f1, a.f3, a.f4, a.f5, a.f6, a.f7⟩ := ⟨_, rfl⟩
  obtain ⟨k, hk⟩ : ∃ k : Nat, k = 20 := ⟨_, rfl⟩
  have e1 : ask_Pack.f k a.f0 a.f1.f0 a.f1.f1 a.f2.f0 a.f2.f1 a.f3 a.f4 a.f5 a.f6 a.f7 = some (packCl c) := by rw [hc]; exact ask_pack_is ⟨a.f0, a.f1.f0, a.f1.f1, a.f2.f0, a.f2.f1, a.f3, a.f4, a.f5, a.f6, a.f7⟩ k (by omega) hk0
  have e2 : sextonref13_Pack.f k a.f0 a.f1.f0 a.f1.f1 a.f2.f0 a.f2.f1 a.f3 a.f4 a.f5 a.f6 a.f7 = some (packCl c) := by rw [hc]; exact ref_pack_is13 ⟨a.f0, a.f1.f0, a.f1.f1, a.f2.f0, a.f2.f1, a.f3, a.f4, a.f5, a.f6, a.f7⟩ k (by omega)
  have e3 : ask_Check.f a.f0 a.f1.f0 a.f1.f1 a.f2.f0 a.f2.f1 a.f3 a.f4 a.f5 a.f6 a.f7 = some (if rightCl c = true then 0 else 413) := by unfold ask_Check.f; rw [show callOk a.f0 a.f1.f0 a.f1.f1 a.f2.f0 a.f2.f1 a.f3 a.f4 a.f5 a.f6 a.f7 = rightCl c from by rw [hc]; exact callOk_is ⟨a.f0, a.f1.f0, a.f1.f1, a.f2.f0, a.f2.f1, a.f3, a.f4, a.f5, a.f6, a.f7⟩]
  have e4 : sextonref13_Right.f a.f0 a.f1.f0 a.f1.f1 a.f2.f0 a.f2.f1 a.f3 a.f4 a.f5 a.f6 a.f7 = some (rightCl c) := by rw [hc]; exact ref_right_is ⟨a.f0, a.f1.f0, a.f1.f1, a.f2.f0, a.f2.f1, a.f3, a.f4, a.f5, a.f6, a.f7⟩
  have e5 := look_is k (by omega)
  refine ⟨k, ?_⟩
  unfold sextonlaw13_AskPacks.f
  rw [e1, Option.bind_some, e2, Option.bind_some, e3, Option.bind_some, e4, Option.bind_some, if_pos, if_pos rfl, if_pos rfl, e5, Option.bind_some]
  by_cases h : rightCl c = true
  · rw [if_pos h, h]; rfl
  · rw [if_neg h, Bool.not_eq_true] at *
    rw [h]; rfl
end Go.Proofs.Ytellcdiifpdonaa.askPacks
