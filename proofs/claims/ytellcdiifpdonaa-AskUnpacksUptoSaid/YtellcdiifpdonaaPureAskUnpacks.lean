/- Which bytes are a call, and what each kind needs: the program and the document's answer tell alike. -/
import Derived.Test.YtellcdiifpdonaaRdAskUnpacks
import Derived.Test.YtellcdiifpdonaaAskNeeds
namespace Go.Proofs.Ytellcdiifpdonaa.askUnpacks
open Go.RowKit Go.Proofs.Ytellcdiifpdonaa.FA Go.Proofs.YtellcdiifpdonaaW.PrintWords Go.Proofs.Ytellcdiifpdonaa.Rd Go.Proofs.Ytellcdiifpdonaa.B Go.Proofs.Ytellcdiifpdonaa.TlvFns
set_option linter.unusedVariables false
theorem pure_AskUnpacks : ∀ (a0 : ByteArray) (o0 : r9.ok a0) (a1 : Int) (o1 : r3.ok a1) (bk : r9.b a0 + r3.b a1 ≤ 1048576), ∃ k, sextonlaw13_AskUnpacks.f k a0 a1 = some true := by
  intro s _ a _ bk
  have hs : s.size + 1 + 1 ≤ 1048576 := bk
  obtain ⟨k, hk⟩ : ∃ k : Nat, k = s.size + 30 := ⟨_, rfl⟩
  have hl := needs_len a
  have e1 := ask_unpack_is s (by omega) k (by omega)
  have e2 := ref_unpack_is13 s (by omega) k (by omega)
  have e3 := ask_needs_is a k (by omega)
  have e4 := ref_needs_is a k (by omega)
  have e5 := ints_self (needsV a).1 (by omega) k (by omega)
  have e6 := look_is k (by omega)
  generalize unT (unpackCl s) = u at e1 e2
  refine ⟨k, ?_⟩
  unfold sextonlaw13_AskUnpacks.f
  rw [e1, Option.bind_some, e2, Option.bind_some, e3, Option.bind_some, e4, Option.bind_some, if_pos (by simp), if_pos rfl, e5, Option.bind_some, if_pos rfl, if_pos rfl, e6, Option.bind_some]
end Go.Proofs.Ytellcdiifpdonaa.askUnpacks
