/- AnswerBack: for every input the law returns true, and each argument reads behind the call as it read before, where what it reads is of bulk at most 1048576. -/
import Derived.Test.YtbnnmbajfmodjaaRows
import Derived.Test.YtbnnmbajfmodjaaFAsextonlaw14AnswerBack
import Derived.Test.YtbnnmbajfmodjaaRdAnswerBack
import Derived.Test.YtbnnmbajfmodjaaPureAnswerBack
import Derived.WalkKit
import Derived.ProofKit
import Derived.OpenShut
import Derived.ShutString
import Derived.ChangeOld
import Derived.Below
import Derived.SizedLaws
import Derived.JoinedCond
import Derived.Carry
namespace Go.Proofs.Ytbnnmbajfmodjaa.answerBack
open Go.ChangeShapes Go.WideShapes Go.ChangeAt Go.RowKit
open Go.Proofs.Ytbnnmbajfmodjaa.FA Go.Proofs.YtbnnmbajfmodjaaW.PrintWords Go.Proofs.Ytbnnmbajfmodjaa.Rd
set_option linter.unusedVariables false
set_option linter.unusedSimpArgs false
theorem own : ownKnob Try.prog.godebug = none := by kernel_rfl
theorem laidOut : laidOutB Try.prog = true := by kernel_rfl
set_option maxRecDepth 100000 in
theorem contract (H : Type) (enc : TypeId × Value → H) (W : World) (args : Array Value) (ds gs : List (DataW H)) (before : List MemPlace)
    (hval0 : ∀ (j : Nat) t v, Try.f5.params[j]? = some t → args[j]? = some v → Value.okWide Try.prog W .any 0 t v)
    (hW : DataW.Whole enc Try.prog Try.f5.params.toList Rows.answerBackSpec.vars false W args.toList ds gs before)
    (hk0 : Rows.uptoSmall H (ds ++ gs) = true) :
    Calls Try.prog 5 args W fun e W' => ∃ v, e = .returned v ∧ Rows.answerBackSpec.post enc Try.prog Try.f5 false true false false W args v W' := by
  have hW' := hW
  obtain ⟨p, q, hA0, hV, rfl, hfz, hnd⟩ := hW
  have hA : DataW.TrodAll enc Try.prog W 0 (fun _ => true) true Try.f5.params.toList args.toList ds p := hA0
  have hval : ∀ (j : Nat) t v, Try.f5.params[j]? = some t → args[j]? = some v → Value.okWide Try.prog W .any 0 t v := hval0
  have hk : Rows.uptoBulkAll (ds ++ gs) ≤ 1048576 := of_decide_eq_true hk0
  rw [Try.params5] at hA hval
  obtain ⟨v0, vs0, d0, ds0, p0, q0, hargs, rfl, rfl, h0, q_0⟩ := trodAll_cons hA
  obtain ⟨v1, vs1, d1, ds1, p1, q1, rfl, rfl, rfl, h1, q_1⟩ := trodAll_cons q_0
  obtain ⟨rfl, rfl, rfl⟩ := trodAll_nil q_1
  obtain rfl : args = #[v0, v1] := by cases args; simp_all
  obtain ⟨rfl, rfl⟩ := trodVars_none hV
  have k0 := h0
  have lt0 : ∀ x ∈ p0, x.block < W.heap.size := by obtain ⟨m, hm⟩ := k0; exact DataW.trod_lt m _ _ _ hm
  obtain ⟨fu0, hf0⟩ := h0
  obtain ⟨a0, hK0, hG0⟩ := r29.opens H enc W fu0 _ _ _ hf0
  have o0 := r29.ok_of H _ _ hG0
  have b0 := r29.b_of H _ _ hG0
  obtain ⟨A0_8, c0_8, hcs0, hc0_8, hr0_8⟩ := k29_open hK0
  obtain rfl := cell_agg Try.underlying29 (hval 0 29 v0 rfl rfl) hcs0
  have k1 := h1
  have lt1 : ∀ x ∈ p1, x.block < W.heap.size := by obtain ⟨m, hm⟩ := k1; exact DataW.trod_lt m _ _ _ hm
  obtain ⟨fu1, hf1⟩ := h1
  obtain ⟨a1, hK1, hG1⟩ := r9.opens H enc W fu1 _ _ _ hf1
  have o1 := r9.ok_of H _ _ hG1
  have b1 := r9.b_of H _ _ hG1
  obtain ⟨z1, rfl, _, _, _⟩ := Go.ChangeMaps.open_string Try.underlying9 (hval 1 9 v1 rfl rfl) k1
  obtain rfl : a1 = z1 := by have h_ : (Value.string z1).cells.toList = [.string a1] := hK1; simpa [Value.cells, eq_comm] using h_
  have bk : r29.b a0 + r9.b a1 ≤ 1048576 := by simp only [Rows.uptoBulkAll, List.cons_append, List.nil_append, List.append_nil] at hk; omega
  clear hk hk0
  clear hA0 hval0 hval
  obtain ⟨k, h⟩ := pure_AnswerBack a0 o0 a1 o1 bk
  refine (sextonlaw14_AnswerBack.calls k a0.f0 a0.f1.f0 a0.f1.f1 a0.f2.f0 a0.f2.f1 a0.f2.f2 a0.f2.f3 a0.f3 _ _ a0.f4 a0.f5 a1 true W hr0_8 hc0_8 h).mono ?_
  rintro e W' ⟨rfl, bel0⟩
  have bel : Below W.heap.size W W' := bel0
  exact ⟨_, rfl, _, _, _, [], _, [], hW', trodAll_mk1 (shut_bool Try.underlying4 _), (trodAll_cons_mk (Below.trod laidOut (by kernel_rfl) (of_decide_eq_true (by kernel_rfl)) k0 bel lt0) (trodAll_cons_mk (Below.trod laidOut (by kernel_rfl) (of_decide_eq_true (by kernel_rfl)) k1 bel lt1) trodAll_mk0)), rfl, bel.frame _, fun h => by cases h⟩
set_option maxRecDepth 100000 in
theorem lifted (os : Os) (started : os.Started) (H : Type) (enc : TypeId × Value → H) (F : Stop.Interp) :
    ReturnsInHanded {} Try.checked os 5 .any ((Rows.OpenSpec.upto Rows.answerBackSpec).pre6 enc Try.prog Try.f5 Rows.answerBackUptoRow.domain false) (((Rows.OpenSpec.upto Rows.answerBackSpec).at F).post enc Try.prog Try.f5 false true false false) := by
  refine returnsInHanded_of_cond (C := Try.checked) (s := Rows.OpenSpec.upto Rows.answerBackSpec) (k := Rows.uptoSmall) rfl own started (by kernel_rfl) Try.func5
    (OpenSpec.witness (enc := enc) (C := Try.checked) (s := Rows.OpenSpec.upto Rows.answerBackSpec) (k := Rows.uptoSmall) rfl false ⟨#[], #[.agg #[.int .i64 0, .int .i64 0, .int .i64 0, .int .i64 0, .int .i64 0, .int .i64 0, .int .i64 0, .string ByteArray.empty, .slice none 0 0, .int .i64 0], .string ByteArray.empty], []⟩ 8 (by kernel_rfl) (by kernel_rfl) (by kernel_rfl)
      (x := ([.agg [.lit (.int .i64 0), .agg [.lit (.int .i64 0), .lit (.int .i64 0)], .agg [.lit (.int .i64 0), .lit (.int .i64 0), .lit (.int .i64 0), .lit (.int .i64 0)], .lit (.string []), .nil, .lit (.int .i64 0)], .lit (.string [])], [], [])) (by kernel_rfl) rfl (by kernel_rfl)) ?_
  intro W base args ds gs before hval hW _ hk _
  exact contract H enc W args ds gs before hval hW hk
theorem proved : Rows.AnswerBackUptoSaid :=
  OpenClaim.holds_of_cond 5 Try.f5 rfl rfl rfl rfl rfl rfl rfl ⟨rfl, rfl, rfl, rfl, rfl⟩ rfl rfl rfl rfl rfl (by kernel_rfl) Try.func5 (by kernel_rfl)
    (of_decide_eq_true (by kernel_rfl)) (by unfold Func.isWrapper; first | (rw [if_pos (by decide +kernel)]; kernel_rfl) | (rw [if_neg (by decide +kernel)]; exact ⟨rfl, rfl⟩))
    (fun os started H enc _ F => lifted os started H enc F)
end Go.Proofs.Ytbnnmbajfmodjaa.answerBack
namespace Go.Proofs.Ytbnnmbajfmodjaa
theorem answerBack_holds : Rows.AnswerBackUptoSaid := answerBack.proved
#print axioms answerBack_holds
end Go.Proofs.Ytbnnmbajfmodjaa
