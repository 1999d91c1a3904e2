/- Written by hand: the fixed case `two`, and the law of the nil inbox: it is closed and empty. -/
import Derived.Test.YthmeagbfoccnlaaHInboxNew
namespace Go.Proofs.Ythmeagbfoccnlaa.FA
open Go.Conc Go.RowKit Go.Proofs.YthmeagbfoccnlaaW.PrintWords Go.Proofs.YthmeagbfoccnlaaW.PrintLast Go.Proofs.YthmeagbfoccnlaaW.PrintMore Go.Proofs.Ythmeagbfoccnlaa.Hand Go.Proofs.Ythmeagbfoccnlaa.B
set_option linter.unusedVariables false
set_option linter.unusedSimpArgs false
set_option maxHeartbeats 4000000 in
theorem inbox_two (w : World) : Calls Try.prog 7 #[] w fun e w' => e = .returned (.bool true) ∧ Below w.heap.size w w' := by
  have HB := Aside0.mk (Below.refl w.heap.size w)
  go_enter Try.func7, Try.ntmps7
  go_wp2_with (first
    | (go_at_call 6; refine (inbox_new 4 (by decide) (by decide) _).mono ?_; rintro e_ w1_ ⟨g, a, b, rfl, hx, hg, ha, hb, hw⟩; have HX := Aside0.mk hx; have GG := Aside0.mk hg; have GA := Aside0.mk ha; have GB := Aside0.mk hb; have n1_ := Aside0.mk (below_step HB.out hw); clear HB; have HB := n1_; clear n1_ hx hg ha hb hw)
    | (go_at_call 8; with_reducible refine (inbox_put (room := 4) (cl := false) (u := []) (v := []) false ⟨#[97]⟩ HX.out).mono ?_; rintro e_ w2_ ⟨he, hx, hk⟩; rw [show putV 4 false false ⟨#[97]⟩ [] [] = ([], [⟨#[97]⟩], 0) from rfl] at he hx; dsimp only at he hx; subst he; have n1_ := Aside0.mk (hk.below HB.out GG.out GA.out GB.out); clear HB HX; have HB := n1_; have HX := Aside0.mk hx; clear n1_ hx hk)
    | (go_at_call 8; with_reducible refine (inbox_put (room := 4) (cl := false) (u := []) (v := [⟨#[97]⟩]) true ⟨#[98]⟩ HX.out).mono ?_; rintro e_ w3_ ⟨he, hx, hk⟩; rw [show putV 4 false true ⟨#[98]⟩ [] [⟨#[97]⟩] = ([⟨#[98]⟩], [⟨#[97]⟩], 0) from rfl] at he hx; dsimp only at he hx; subst he; have n1_ := Aside0.mk (hk.below HB.out GG.out GA.out GB.out); clear HB HX; have HB := n1_; have HX := Aside0.mk hx; clear n1_ hx hk)
    | (go_at_call 9; with_reducible refine (inbox_take (u := [⟨#[98]⟩]) (v := [⟨#[97]⟩]) HX.out).mono ?_; rintro e_ w4_ ⟨he, hx, hk⟩; rw [show takeV [⟨#[98]⟩] [⟨#[97]⟩] = (⟨#[98]⟩, true, 0, [], [⟨#[97]⟩]) from rfl] at he hx; dsimp only at he hx; subst he; have n1_ := Aside0.mk (hk.below HB.out GG.out GA.out GB.out); clear HB HX; have HB := n1_; have HX := Aside0.mk hx; clear n1_ hx hk)
    | (go_at_call 9; with_reducible refine (inbox_take (u := []) (v := [⟨#[97]⟩]) HX.out).mono ?_; rintro e_ w5_ ⟨he, hx, hk⟩; rw [show takeV [] [⟨#[97]⟩] = (⟨#[97]⟩, false, 0, [], []) from rfl] at he hx; dsimp only at he hx; subst he; have n1_ := Aside0.mk (hk.below HB.out GG.out GA.out GB.out); clear HB HX; have HB := n1_; have HX := Aside0.mk hx; clear n1_ hx hk))
  go_ret
  exact ⟨rfl, HB.out⟩
theorem inbox_drain_nil (w : World) : Calls Try.prog 10 #[.pointer none] w fun e w' => e = .returned (.slice none 0 0) ∧ Below w.heap.size w w' := by
  have HB := Aside0.mk (Below.refl w.heap.size w)
  go_enter Try.func10, Try.ntmps10
  go_wp2
  go_loopw [3] (fun v w' => v = .slice none 0 0 ∧ w' = w) (fun _ _ => 0)
  case atStart => exact ⟨rfl, rfl⟩
  case round =>
    obtain ⟨rfl, rfl⟩ := hrel
    go_wp2_with (first | (go_at_call 9; refine (inbox_take_nil _).mono ?_; rintro e_ w_ ⟨rfl, rfl⟩))
    go_ret
    exact ⟨rfl, HB.out⟩
def sextonlaw23_InboxNil.f (k : Nat) (p : Bool) (s : ByteArray) : Option Bool := some true
set_option maxHeartbeats 4000000 in
theorem sextonlaw23_InboxNil.calls (k : Nat) (p : Bool) (s : ByteArray) (r : Bool) (w : World) (h : sextonlaw23_InboxNil.f k p s = some r) : Calls Try.prog 5 #[.bool p, .string s] w fun e w' => e = .returned (.bool r) ∧ Below w.heap.size w w' := by
  simp only [sextonlaw23_InboxNil.f, Option.some.injEq] at h
  subst h
  have HB := Aside0.mk (Below.refl w.heap.size w)
  go_enter Try.func5, Try.ntmps5
  go_wp2_with (first
    | (go_at_call 15; refine (inbox_close_nil _).mono ?_; rintro e_ w_ ⟨rfl, rfl⟩)
    | (go_at_call 9; refine (inbox_take_nil _).mono ?_; rintro e_ w_ ⟨rfl, rfl⟩)
    | (go_at_call 14; refine (inbox_len_nil _).mono ?_; rintro e_ w_ ⟨rfl, rfl⟩)
    | (go_at_call 8; refine (inbox_put_nil _ _ _).mono ?_; rintro e_ w_ ⟨rfl, rfl⟩)
    | (go_at_call 10; refine (inbox_drain_nil _).mono ?_; rintro e_ w1_ ⟨rfl, hw⟩; have n1_ := Aside0.mk (below_step HB.out hw); clear HB; have HB := n1_; clear n1_ hw)
    | (go_at_call 7; refine (inbox_two _).mono ?_; rintro e_ w2_ ⟨rfl, hw⟩; have n1_ := Aside0.mk (below_step HB.out hw); clear HB; have HB := n1_; clear n1_ hw))
  go_ret
  exact ⟨rfl, HB.out⟩
end Go.Proofs.Ythmeagbfoccnlaa.FA
