/- Which attributes are right, their bytes, and which bytes are attributes. -/
import Derived.Test.YtfelpemelohggaaRdAttrCodes
import Derived.Test.YtfelpemelohggaaAttrCodec
import Derived.Test.YtfelpemelohggaaFAsextonlaw07AttrCodes
namespace Go.Proofs.Ytfelpemelohggaa.attrCodes
open Go.RowKit Go.Proofs.Ytfelpemelohggaa.FA Go.Proofs.YtfelpemelohggaaW.PrintWords Go.Proofs.YtfelpemelohggaaW.PrintLast Go.Proofs.YtfelpemelohggaaW.PrintMore Go.Proofs.Ytfelpemelohggaa.Rd Go.Proofs.Ytfelpemelohggaa.B Go.Proofs.Ytfelpemelohggaa.TlvFns Go.Proofs.Ytfelpemelohggaa.AttrFns
set_option linter.unusedVariables false
set_option linter.unusedSimpArgs false
theorem pure_AttrCodes : ∀ (a0 : S23) (o0 : r23.ok a0) (a1 : ByteArray) (o1 : r9.ok a1) (w0 : r23.wt a0) (w1 : r9.wt a1), ∃ k, sextonlaw07_AttrCodes.f k a0.f0 a0.f1 a0.f2 a0.f3 a1 = some true := by
  intro a _ s _ _ _
  refine ⟨14, ?_⟩
  unfold sextonlaw07_AttrCodes.f
  have hp : sextonref07_Pack.f 14 a.f0 a.f1 a.f2 a.f3 = some (if Rt a.f0 a.f1 a.f2 a.f3 then (⟨(bytes12 a.f0 a.f1 a.f2 a.f3).toArray⟩, 0) else (⟨#[]⟩, 70)) := at_rounds (sextonref07_Pack.mono a.f0 a.f1 a.f2 a.f3) (by decide) (AttrFns.ref_pack_is a.f0 a.f1 a.f2 a.f3)
  rw [AttrFns.pack_is, hp, AttrFns.unpack_is, AttrFns.ref_unpack_is, check_is 14 (by decide), right_is]
  simp only [Option.bind_some]
  have h1 : (((if Rt a.f0 a.f1 a.f2 a.f3 then (0 : Int) else 70) == 0) == decide (Rt a.f0 a.f1 a.f2 a.f3)) = true := by
    by_cases h : Rt a.f0 a.f1 a.f2 a.f3
    · rw [if_pos h, decide_eq_true h]; rfl
    · rw [if_neg h, decide_eq_false h]; rfl
  rw [one_is, h1, if_pos rfl, if_pos (by trivial), if_pos (by trivial), if_pos (by simp), if_pos (by trivial)]
  rfl
end Go.Proofs.Ytfelpemelohggaa.attrCodes
