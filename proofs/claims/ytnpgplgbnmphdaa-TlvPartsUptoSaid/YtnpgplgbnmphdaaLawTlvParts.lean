/- TlvParts: for every input the law returns true, and each argument reads behind the call as it read before, where what it reads is of bulk at most 1048576. -/
import Derived.Test.YtnpgplgbnmphdaaRows
import Derived.Test.YtnpgplgbnmphdaaFAsextonlaw01TlvParts
import Derived.Test.YtnpgplgbnmphdaaRdTlvParts
import Derived.Test.YtnpgplgbnmphdaaPureTlvParts
import Derived.WalkKit
import Derived.ProofKit
import Derived.OpenShut
import Derived.ShutString
import Derived.ChangeOld
import Derived.Below
import Derived.SizedLaws
import Derived.JoinedCond
import Derived.Carry
namespace Go.Proofs.Ytnpgplgbnmphdaa.tlvParts
open Go.ChangeShapes Go.WideShapes Go.ChangeAt Go.RowKit
open Go.Proofs.Ytnpgplgbnmphdaa.FA Go.Proofs.YtnpgplgbnmphdaaW.PrintWords Go.Proofs.Ytnpgplgbnmphdaa.Rd
set_option linter.unusedVariables false
set_option linter.unusedSimpArgs false
theorem own : ownKnob Try.prog.godebug = none := by kernel_rfl
theorem laidOut : laidOutB Try.prog = true := by kernel_rfl
set_option maxRecDepth 100000 in
theorem contract (H : Type) (enc : TypeId × Value → H) (W : World) (args : Array Value) (ds gs : List (DataW H)) (before : List MemPlace)
    (hval0 : ∀ (j : Nat) t v, Try.f8.params[j]? = some t → args[j]? = some v → Value.okWide Try.prog W .any 0 t v)
    (hW : DataW.Whole enc Try.prog Try.f8.params.toList Rows.tlvPartsSpec.vars false W args.toList ds gs before)
    (hk0 : Rows.uptoSmall H (ds ++ gs) = true) :
    Calls Try.prog 8 args W fun e W' => ∃ v, e = .returned v ∧ Rows.tlvPartsSpec.post enc Try.prog Try.f8 false true false false W args v W' := by
  have hW' := hW
  obtain ⟨p, q, hA0, hV, rfl, hfz, hnd⟩ := hW
  have hA : DataW.TrodAll enc Try.prog W 0 (fun _ => true) true Try.f8.params.toList args.toList ds p := hA0
  have hval : ∀ (j : Nat) t v, Try.f8.params[j]? = some t → args[j]? = some v → Value.okWide Try.prog W .any 0 t v := hval0
  have hk : Rows.uptoBulkAll (ds ++ gs) ≤ 1048576 := of_decide_eq_true hk0
  rw [Try.params8] at hA hval
  obtain ⟨v0, vs0, d0, ds0, p0, q0, hargs, rfl, rfl, h0, q_0⟩ := trodAll_cons hA
  obtain ⟨v1, vs1, d1, ds1, p1, q1, rfl, rfl, rfl, h1, q_1⟩ := trodAll_cons q_0
  obtain ⟨rfl, rfl, rfl⟩ := trodAll_nil q_1
  obtain rfl : args = #[v0, v1] := by cases args; simp_all
  obtain ⟨rfl, rfl⟩ := trodVars_none hV
  have k0 := h0
  have lt0 : ∀ x ∈ p0, x.block < W.heap.size := by obtain ⟨m, hm⟩ := k0; exact DataW.trod_lt m _ _ _ hm
  obtain ⟨fu0, hf0⟩ := h0
  obtain ⟨a0, hK0, hG0⟩ := r34.opens H enc W fu0 _ _ _ hf0
  have o0 := r34.ok_of H _ _ hG0
  have b0 := r34.b_of H _ _ hG0
  obtain ⟨A0, c0, hcs0, hc0, hr0⟩ := hK0
  obtain rfl := cell_slice Try.underlying34 (hval 0 34 v0 rfl rfl) hcs0
  have k1 := h1
  have lt1 : ∀ x ∈ p1, x.block < W.heap.size := by obtain ⟨m, hm⟩ := k1; exact DataW.trod_lt m _ _ _ hm
  obtain ⟨fu1, hf1⟩ := h1
  obtain ⟨a1, hK1, hG1⟩ := r34.opens H enc W fu1 _ _ _ hf1
  have o1 := r34.ok_of H _ _ hG1
  have b1 := r34.b_of H _ _ hG1
  obtain ⟨A1, c1, hcs1, hc1, hr1⟩ := hK1
  obtain rfl := cell_slice Try.underlying34 (hval 1 34 v1 rfl rfl) hcs1
  have bk : r34.b a0 + r34.b a1 ≤ 1048576 := by simp only [Rows.uptoBulkAll, List.cons_append, List.nil_append, List.append_nil] at hk; omega
  clear hk hk0
  clear hA0 hval0 hval
  obtain ⟨k, h⟩ := pure_TlvParts a0 o0 a1 o1 bk
  refine (sextonlaw01_TlvParts.calls k _ _ a0 _ _ a1 true W hr0 hc0 hr1 hc1 h).mono ?_
  rintro e W' ⟨rfl, bel0⟩
  have bel : Below W.heap.size W W' := bel0
  exact ⟨_, rfl, _, _, _, [], _, [], hW', trodAll_mk1 (shut_bool Try.underlying4 _), (trodAll_cons_mk (Below.trod laidOut (by kernel_rfl) (of_decide_eq_true (by kernel_rfl)) k0 bel lt0) (trodAll_cons_mk (Below.trod laidOut (by kernel_rfl) (of_decide_eq_true (by kernel_rfl)) k1 bel lt1) trodAll_mk0)), rfl, bel.frame _, fun h => by cases h⟩
set_option maxRecDepth 100000 in
theorem lifted (os : Os) (started : os.Started) (H : Type) (enc : TypeId × Value → H) (F : Stop.Interp) :
    ReturnsInHanded {} Try.checked os 8 .any ((Rows.OpenSpec.upto Rows.tlvPartsSpec).pre6 enc Try.prog Try.f8 Rows.tlvPartsUptoRow.domain false) (((Rows.OpenSpec.upto Rows.tlvPartsSpec).at F).post enc Try.prog Try.f8 false true false false) := by
  refine returnsInHanded_of_cond (C := Try.checked) (s := Rows.OpenSpec.upto Rows.tlvPartsSpec) (k := Rows.uptoSmall) rfl own started (by kernel_rfl) Try.func8
    (OpenSpec.witness (enc := enc) (C := Try.checked) (s := Rows.OpenSpec.upto Rows.tlvPartsSpec) (k := Rows.uptoSmall) rfl false ⟨#[], #[.slice none 0 0, .slice none 0 0], []⟩ 8 (by kernel_rfl) (by kernel_rfl) (by kernel_rfl)
      (x := ([.nil, .nil], [], [])) (by kernel_rfl) rfl (by kernel_rfl)) ?_
  intro W base args ds gs before hval hW _ hk _
  exact contract H enc W args ds gs before hval hW hk
theorem proved : Rows.TlvPartsUptoSaid :=
  OpenClaim.holds_of_cond 8 Try.f8 rfl rfl rfl rfl rfl rfl rfl ⟨rfl, rfl, rfl, rfl, rfl⟩ rfl rfl rfl rfl rfl (by kernel_rfl) Try.func8 (by kernel_rfl)
    (of_decide_eq_true (by kernel_rfl)) (by unfold Func.isWrapper; first | (rw [if_pos (by decide +kernel)]; kernel_rfl) | (rw [if_neg (by decide +kernel)]; exact ⟨rfl, rfl⟩))
    (fun os started H enc _ F => lifted os started H enc F)
end Go.Proofs.Ytnpgplgbnmphdaa.tlvParts
namespace Go.Proofs.Ytnpgplgbnmphdaa
theorem tlvParts_holds : Rows.TlvPartsUptoSaid := tlvParts.proved
#print axioms tlvParts_holds
end Go.Proofs.Ytnpgplgbnmphdaa
