/- Which replies are right, and their bytes: the program and the document's answer tell alike. -/
import Derived.Test.YtbnnmbajfmodjaaRdAnswerPacks
import Derived.Test.YtbnnmbajfmodjaaAnsPlain
namespace Go.Proofs.Ytbnnmbajfmodjaa.answerPacks
open Go.RowKit Go.Proofs.Ytbnnmbajfmodjaa.FA Go.Proofs.YtbnnmbajfmodjaaW.PrintWords Go.Proofs.Ytbnnmbajfmodjaa.Rd Go.Proofs.Ytbnnmbajfmodjaa.B Go.Proofs.Ytbnnmbajfmodjaa.TlvFns Go.Proofs.Ytbnnmbajfmodjaa.AnsFns
set_option linter.unusedVariables false
theorem bytesEnt : Try.prog.bytesOf 52 = 40 := by kernel_rfl
theorem pure_AnswerPacks : ∀ (a0 : S29) (o0 : r29.ok a0) (w0 : r29.wt a0), ∃ k, sextonlaw14_AnswerPacks.f k a0.f0 a0.f1.f0 a0.f1.f1 a0.f2.f0 a0.f2.f1 a0.f2.f2 a0.f2.f3 a0.f3 a0.f4 a0.f5 = some true := by
  intro a _ w0
  have hw : a.f4.length * Try.prog.bytesOf 52 ≤ reachBytes := w0.2.2.2.2.1.1
  rw [bytesEnt] at hw
  have hl : a.f4.length ≤ 9223372036854775806 := by
    have : a.f4.length * 40 ≤ 140737488351232 := hw
    omega
  obtain ⟨k, hk⟩ : ∃ k : Nat, k = a.f4.length + 600 := ⟨_, rfl⟩
  refine ⟨k, ?_⟩
  unfold sextonlaw14_AnswerPacks.f
  rw [pack_is14 _ _ _ _ _ _ _ _ _ _ hl k (by omega), Option.bind_some, ref_pack_is14 _ _ _ _ _ _ _ _ _ _ hl k (by omega), Option.bind_some, AnsFns.check_is _ _ _ _ _ _ _ _ _ _ hl k (by omega), Option.bind_some, AnsFns.ref_right_is _ _ _ _ _ _ _ _ _ _ hl k (by omega), Option.bind_some, if_pos, if_pos rfl, if_pos rfl, stale_is k (by omega), Option.bind_some]
  cases rightA a.f0 a.f1.f0 a.f1.f1 a.f2.f0 a.f2.f1 a.f2.f2 a.f2.f3 a.f3 a.f4 a.f5 <;> rfl
end Go.Proofs.Ytbnnmbajfmodjaa.answerPacks
