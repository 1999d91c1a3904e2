/- Written by hand: Drain of an inbox; what stays of rows beside an inbox. -/
import Derived.Test.YthmeagbfoccnlaaHInboxNew
import Derived.Test.YthmeagbfoccnlaaFAx0
namespace Go.Proofs.Ythmeagbfoccnlaa.FA
open Go.Conc Go.RowKit Go.Proofs.YthmeagbfoccnlaaW.PrintWords Go.Proofs.YthmeagbfoccnlaaW.PrintLast Go.Proofs.YthmeagbfoccnlaaW.PrintMore Go.Proofs.Ythmeagbfoccnlaa.Hand Go.Proofs.Ythmeagbfoccnlaa.B
set_option linter.unusedVariables false
set_option linter.unusedSimpArgs false
/-- The world moves on; of what was there only an inbox' blocks turn. -/
structure Moves (g a b : Nat) (w w' : World) : Prop where
  os : w'.os = w.os
  tape : w'.tape = w.tape
  output : w'.output = w.output
  size : w.heap.size ≤ w'.heap.size
  block : ∀ k, k < w.heap.size → k ≠ g → k ≠ a → k ≠ b → w'.heap[k]? = w.heap[k]?
theorem Moves.refl (g a b : Nat) (w : World) : Moves g a b w w := ⟨rfl, rfl, rfl, Nat.le_refl _, fun _ _ _ _ _ => rfl⟩
theorem Keeps.moves {g a b : Nat} {w w' : World} (h : Keeps g a b w w') : Moves g a b w w' := ⟨h.os, h.tape, h.output, Nat.le_of_eq h.size, fun k _ => h.block k⟩
theorem Moves.keeps {g a b : Nat} {w w1 w2 : World} (h : Moves g a b w w1) (h' : Keeps g a b w1 w2) : Moves g a b w w2 :=
  ⟨h'.os.trans h.os, h'.tape.trans h.tape, h'.output.trans h.output, Nat.le_trans h.size (Nat.le_of_eq h'.size), fun k hk h1 h2 h3 => (h'.block k h1 h2 h3).trans (h.block k hk h1 h2 h3)⟩
theorem Moves.step {g a b : Nat} {w w1 w2 : World} (h : Moves g a b w w1) (h' : Below w.heap.size w1 w2) : Moves g a b w w2 :=
  ⟨h'.os.trans h.os, h'.tape.trans h.tape, h'.output.trans h.output, Nat.le_trans h.size h'.size, fun k hk h1 h2 h3 => (h'.block k hk).trans (h.block k hk h1 h2 h3)⟩
theorem Moves.below {g a b B : Nat} {w0 w w' : World} (h : Moves g a b w w') (hb : Below B w0 w) (hB : B ≤ w.heap.size) (hg : B ≤ g) (ha : B ≤ a) (hc : B ≤ b) : Below B w0 w' :=
  ⟨h.os.trans hb.os, h.tape.trans hb.tape, h.output.trans hb.output, Nat.le_trans hb.size h.size, fun k hk => (h.block k (by omega) (by omega) (by omega) (by omega)).trans (hb.block k hk)⟩
theorem Box.apart {w : World} {g a b room cl u v} (h : Box w g a b room cl u v) {k q : Nat} {cells : Array Value} (hk : w.heap[k]? = some (.cells cells q (0, 0))) (hq : q ≠ 49) : k ≠ g ∧ k ≠ a ∧ k ≠ b := by
  obtain ⟨s, r, hu⟩ := h.hu
  obtain ⟨s', r', hv⟩ := h.hv
  have hg := h.hg
  refine ⟨?_, ?_, ?_⟩
  · rintro rfl; rw [hg] at hk; injection hk with hk; injection hk with _ hk; exact hq hk.symm
  · rintro rfl; rw [hu] at hk; cases hk
  · rintro rfl; rw [hv] at hk; cases hk
section
variable {α : Type} {d : Kd α} {e base : Nat} {ok : Nat → Prop} {w w' : World} {v : Value} {xs : List α} {g a b room : Nat} {cl : Bool} {uu vv : List ByteArray}
theorem R_moves (h : d.R e w base ok v xs) (hx : Box w g a b room cl uu vv) (ht : ∀ q, q ∈ e :: d.E → q ≠ 49) (hm : Moves g a b w w') : d.R e w' base ok v xs :=
  Kd.R_mono (Kd.R_move (Kd.R_bound h) (fun k hk => by
    obtain ⟨_, _, hlt, q, hq, cells, hc⟩ := hk
    obtain ⟨h1, h2, h3⟩ := hx.apart hc (ht q hq)
    exact hm.block k hlt h1 h2 h3)) (fun _ hk => hk.1)
theorem Q_moves (h : d.Q e w base ok v xs) (hx : Box w g a b room cl uu vv) (ht : ∀ q, q ∈ e :: d.E → q ≠ 49) (hm : Moves g a b w w') : d.Q e w' base ok v xs :=
  Kd.Q_mono (Kd.Q_move (Kd.Q_bound h) (fun k hk => by
    obtain ⟨_, _, hlt, q, hq, cells, hc⟩ := hk
    obtain ⟨h1, h2, h3⟩ := hx.apart hc (ht q hq)
    exact hm.block k hlt h1 h2 h3)) (fun _ hk => hk.1)
theorem Box.grown (hx : Box w g a b room cl uu vv) (hty : ∀ k, v.ownBlock = some k → ∃ cells, w.heap[k]? = some (.cells cells 9 (0, 0))) (hg : w.grownBy w' v.ownBlock) : Box w' g a b room cl uu vv :=
  hx.move (fun k hk => hg.block k (by have := hx.lt; rcases hk with rfl | rfl | rfl <;> omega) (fun he => by
    obtain ⟨cells, hc⟩ := hty k he.symm
    have := hx.apart hc (by decide)
    rcases hk with rfl | rfl | rfl
    · exact this.1 rfl
    · exact this.2.1 rfl
    · exact this.2.2 rfl))
end
theorem infoStr : (Try.prog.info? 9).map (fun i => (i.zero, i.size, i.bytes)) = some (some (.string ⟨#[]⟩), 1, 16) := by kernel_rfl
def lenOf : Value → Nat
  | .slice _ n _ => n
  | _ => 0
set_option maxHeartbeats 2000000 in
theorem inbox_drain {w : World} {g a b room cl} {u v : List ByteArray} (h : Box w g a b room cl u v) (hl : u.length + v.length ≤ 1000000) : Calls Try.prog 10 #[.pointer (some ⟨g, 0, none⟩)] w fun e w' =>
    ∃ r, e = .returned r ∧ Kd.R Kd.string 9 w' w.heap.size (fun _ => True) r (u ++ v) ∧ Box w' g a b room cl [] [] ∧ Moves g a b w w' := by
  have HX0 := Aside0.mk h
  have HL := Aside0.mk hl
  clear h hl
  go_enter Try.func10, Try.ntmps10
  go_wp2
  go_loopw [3] (fun r w' => ∃ (d u' v' : List ByteArray), Aside0 (d ++ u' ++ v' = u ++ v) ∧ Aside0 (Kd.R Kd.string 9 w' w.heap.size (fun _ => True) r d) ∧ Aside0 (Box w' g a b room cl u' v') ∧ Aside0 (Moves g a b w w')) (fun r _ => (u ++ v).length - lenOf r)
  case atStart => exact ⟨[], u, v, ⟨rfl⟩, ⟨Kd.R_nil _ _ _ _ _⟩, HX0, ⟨Moves.refl _ _ _ _⟩⟩
  case round =>
    obtain ⟨d, u', v', HE, HO, HX, HM⟩ := hrel
    obtain ⟨A, c, hs⟩ := Kd.R_slice HO.out
    subst hs
    have HLe := Aside0.mk (show d.length + u'.length + v'.length = u.length + v.length by have := congrArg List.length HE.out; simp at this; omega)
    by_cases h0 : u' = [] ∧ v' = []
    · obtain ⟨rfl, rfl⟩ := h0
      go_wp2_with (first | (go_at_call 9; refine (inbox_take HX.out).mono ?_; rintro e_ w1_ ⟨he, hx, hk⟩; rw [show takeV [] [] = (⟨#[]⟩, false, 6, [], []) from rfl] at he hx; dsimp only at he hx; subst he; have n1_ := Aside0.mk hx; have n2_ := Aside0.mk (HM.out.keeps hk); have n3_ := Aside0.mk (R_moves HO.out HX.out (by decide) hk.moves); clear HX HM HO; have HX := n1_; have HM := n2_; have HO := n3_; clear n1_ n2_ n3_ hx hk))
      go_ret
      have he := HE.out
      simp only [List.append_nil] at he
      rw [← he]
      exact ⟨_, rfl, HO.out, HX.out, HM.out⟩
    · obtain ⟨s, p, u'', v'', ht, hcons⟩ : ∃ s p u'' v'', takeV u' v' = (s, p, 0, u'', v'') ∧ u' ++ v' = s :: (u'' ++ v'') := by
        cases u' with
        | cons s u' => exact ⟨s, true, u', v', rfl, rfl⟩
        | nil =>
          cases v' with
          | cons s v' => exact ⟨s, false, [], v', rfl, rfl⟩
          | nil => exact absurd ⟨rfl, rfl⟩ h0
      have HT := Aside0.mk ht
      have HCo := Aside0.mk hcons
      clear h0 ht hcons
      go_wp2_with (first
        | (go_at_call 9; refine (inbox_take HX.out).mono ?_; rintro e_ w1_ ⟨he, hx, hk⟩; rw [HT.out] at he hx; dsimp only at he hx; subst he; have n1_ := Aside0.mk hx; have n2_ := Aside0.mk (HM.out.keeps hk); have n3_ := Aside0.mk (R_moves HO.out HX.out (by decide) hk.moves); clear HX HM HO; have HX := n1_; have HM := n2_; have HO := n3_; clear n1_ n2_ n3_ hx hk)
        | ((with_reducible refine gate_builtin (b := .append) (xs := #[.tmp 16, .tmp 18]) rfl ?_); at_builtin; refine Kd.R_append Kd.string (w0 := w1_) w.heap.size rfl (.tmp 16) (.tmp 18) 28 9 (.string ⟨#[]⟩) 16 rfl Try.underlying28 infoStr rfl (by decide) (by omega) (.slice A d.length c) d s [.string s] (fun _ => True) (fun _ => False) rfl rfl ?aP (fun _ hk => hk.elim) ?aF ?aO ?aB ?aS ?aL ?_; (case aP => exact rfl); (case aB => exact Below.refl _ _); (case aF => exact (fun _ _ => trivial)); (case aO => exact HO.out); (case aS => exact HM.out.size); (case aL => have := HL.out; have := HLe.out; omega); intro v3_ w3_ ho hb hg hat; have n1_ := Aside0.mk (HX.out.grown (Kd.R_typed HO.out) hg); have n2_ := Aside0.mk (HM.out.step hb); have n3_ := Aside0.mk ho; clear HX HM HO; have HX := n1_; have HM := n2_; have HO := n3_; clear n1_ n2_ n3_ ho hb hg hat))
      go_roundw
      case rel => exact ⟨d ++ [s], u'', v'', ⟨by rw [← HE.out, List.append_assoc, List.append_assoc, List.append_assoc, HCo.out]; rfl⟩, HO, HX, HM⟩
      case measure =>
        obtain ⟨A', c', hs⟩ := Kd.R_slice HO.out
        subst hs
        have := HLe.out
        have h2 := congrArg List.length HCo.out
        simp [lenOf] at h2 ⊢
        omega
end Go.Proofs.Ythmeagbfoccnlaa.FA
