/- Written by hand: slices.Clone at Item. -/
import Derived.Test.YtmapkneofccboaaHand
import Derived.Test.YtmapkneofccboaaB
import Derived.Test.YtmapkneofccboaaFAx0
import Derived.Outline
import Derived.Lib.LazyBuf
namespace Go.Proofs.Ytmapkneofccboaa.FA
open Go.RowKit Go.Proofs.YtmapkneofccboaaW.PrintWords Go.Proofs.YtmapkneofccboaaW.PrintLast Go.Proofs.YtmapkneofccboaaW.PrintMore
theorem R_empty {α : Type} (d : Kd α) (e base : Nat) (W : World) (hb : base ≤ W.heap.size) : Kd.R d e (W.alloc (.cells #[] e)) base (fun _ => True) (.slice (some ⟨W.heap.size, 0, none⟩) 0 0) [] :=
  ⟨fun _ _ => trivial, [], by simpa using World.ownsRow_lit (base := base) (e := e) (size := d.sz) W #[] 0 hb (by decide) (by simp), by first | exact ⟨rfl, fun i p h => absurd h (by simp)⟩ | simp [Reps]⟩
def api_Item_28.f (l0 : List S30) : Option (List S30) := if l0.length < 3518437208883 then some l0 else none
set_option maxHeartbeats 1000000 in
theorem api_Item_28.calls (A0 : Option Addr) (c0 : Nat) (l0 : List S30) (r : List S30) (w : World) (hr0 : Kd.C k30 w A0 l0.length l0) (hc0 : l0.length ≤ c0) (h : api_Item_28.f l0 = some r) :
    Calls Try.prog 28 #[.slice A0 l0.length c0] w fun e w' => ∃ v0_ : Value, e = .returned v0_ ∧ Kd.R k30 30 w' w.heap.size (fun _ => True) v0_ r ∧ Below w.heap.size w w' := by
  unfold api_Item_28.f at h
  by_cases hL : l0.length < 3518437208883
  case neg => rw [if_neg hL] at h; exact absurd h (by simp)
  rw [if_pos hL] at h
  obtain rfl := Option.some.inj h
  clear h
  have hu := Try.underlying28
  have HR0 := Aside0.mk hr0
  have HL := Aside0.mk hL
  clear hr0 hL
  cases A0 with
  | none =>
    have hl : l0 = [] := by
      rcases l0 with _ | ⟨x, t⟩
      · rfl
      · exact absurd (HR0.out.2.2 (by simp)) (by simp)
    subst hl
    have HB := Aside0.mk (Below.refl w.heap.size w)
    have hn : ∀ (W : World) (n c : Nat), (Go.binOp .eql 28 (.slice none n c) (.slice none 0 0)).run Try.prog W = .ok (.bool true) W := fun W n c => Go.run_eql_slice_nil W 28 30 none n c hu
    go_enter Try.func28, Try.ntmps28
    go_wp2
    go_ret
    exact ⟨_, rfl, Kd.R_nil _ _ _ _ _, HB.out⟩
  | some ad =>
    have HB := Aside0.mk (Below.refl w.heap.size w)
    have hn : ∀ (W : World) (n c : Nat), (Go.binOp .eql 28 (.slice (some ad) n c) (.slice none 0 0)).run Try.prog W = .ok (.bool false) W := fun W n c => Go.run_eql_slice_nil W 28 30 (some ad) n c hu
    go_enter Try.func28, Try.ntmps28
    have HE := Aside0.mk (R_empty k30 30 w.heap.size w (Nat.le_refl _))
    go_wp2_with (first | ((with_reducible refine gate_builtin (b := .append) (xs := #[.tmp 5, .tmp 6]) rfl ?_); at_builtin; refine Kd.R_append_rows k30 (w0 := w) w.heap.size rfl (.tmp 5) (.tmp 6) 28 30 (.agg #[(.int .i64 0), (.int .i64 0), (.int .i64 0), (.string ⟨#[]⟩)]) 40 rfl Try.underlying28 info30 rfl (by decide) (by omega) (.slice (some ⟨w.heap.size, 0, none⟩) 0 0) ([] : List (S30)) l0 _ _ _ (fun _ => True) (fun _ => False) rfl rfl ?aO ?aR (fun _ _ h => h) (fun _ h => h.elim) ?aF ?aB ?aS ?aL ?_; (case aR => exact Kd.C_below HR0.out (below_alloc HB.out _)); (case aB => exact below_alloc HB.out _); (case aF => exact (fun _ _ => trivial)); (case aO => exact HE.out); (case aS => exact below_size (below_alloc HB.out _)); (case aL => have := HL.out; simp; omega); intro v1 w1 ho hb hg hat; have HO := Aside0.mk ho; have HB1 := Aside0.mk hb; clear ho hb hg hat))
    go_ret
    exact ⟨_, rfl, HO.out, HB1.out⟩
end Go.Proofs.Ytmapkneofccboaa.FA
