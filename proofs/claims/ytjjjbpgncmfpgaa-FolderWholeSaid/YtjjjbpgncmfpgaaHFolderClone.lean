/- Written by hand: slices.Clone at Entry. -/
import Derived.Test.YtjjjbpgncmfpgaaHand
import Derived.Test.YtjjjbpgncmfpgaaB
import Derived.Test.YtjjjbpgncmfpgaaFAx0
import Derived.Outline
import Derived.Lib.LazyBuf
namespace Go.Proofs.Ytjjjbpgncmfpgaa.FA
open Go.RowKit Go.Proofs.YtjjjbpgncmfpgaaW.PrintWords Go.Proofs.YtjjjbpgncmfpgaaW.PrintLast Go.Proofs.YtjjjbpgncmfpgaaW.PrintMore
theorem R_empty {α : Type} (d : Kd α) (e base : Nat) (W : World) (hb : base ≤ W.heap.size) : Kd.R d e (W.alloc (.cells #[] e)) base (fun _ => True) (.slice (some ⟨W.heap.size, 0, none⟩) 0 0) [] :=
  ⟨fun _ _ => trivial, [], by simpa using World.ownsRow_lit (base := base) (e := e) (size := d.sz) W #[] 0 hb (by decide) (by simp), by first | exact ⟨rfl, fun i p h => absurd h (by simp)⟩ | simp [Reps]⟩
def api_Entry_33.f (l0 : List S30) : Option (List S30) := if l0.length < 3518437208883 then some l0 else none
set_option maxHeartbeats 1000000 in
theorem api_Entry_33.calls (A0 : Option Addr) (c0 : Nat) (l0 : List S30) (r : List S30) (w : World) (hr0 : Kd.C k30 w A0 l0.length l0) (hc0 : l0.length ≤ c0) (h : api_Entry_33.f l0 = some r) :
    Calls Try.prog 33 #[.slice A0 l0.length c0] w fun e w' => ∃ v0_ : Value, e = .returned v0_ ∧ Kd.R k30 30 w' w.heap.size (fun _ => True) v0_ r ∧ Below w.heap.size w w' := by
  unfold api_Entry_33.f at h
  by_cases hL : l0.length < 3518437208883
  case neg => rw [if_neg hL] at h; exact absurd h (by simp)
  rw [if_pos hL] at h
  obtain rfl := Option.some.inj h
  clear h
  have hu := Try.underlying22
  have HR0 := Aside0.mk hr0
  have HL := Aside0.mk hL
  clear hr0 hL
  cases A0 with
  | none =>
    have hl : l0 = [] := by
      rcases l0 with _ | ⟨x, t⟩
      · rfl
      · exact absurd (HR0.out.2.2 (by simp)) (by simp)
    subst hl
    have HB := Aside0.mk (Below.refl w.heap.size w)
    have hn : ∀ (W : World) (n c : Nat), (Go.binOp .eql 22 (.slice none n c) (.slice none 0 0)).run Try.prog W = .ok (.bool true) W := fun W n c => Go.run_eql_slice_nil W 22 30 none n c hu
    go_enter Try.func33, Try.ntmps33
    go_wp2
    go_ret
    exact ⟨_, rfl, Kd.R_nil _ _ _ _ _, HB.out⟩
  | some ad =>
    have HB := Aside0.mk (Below.refl w.heap.size w)
    have hn : ∀ (W : World) (n c : Nat), (Go.binOp .eql 22 (.slice (some ad) n c) (.slice none 0 0)).run Try.prog W = .ok (.bool false) W := fun W n c => Go.run_eql_slice_nil W 22 30 (some ad) n c hu
    go_enter Try.func33, Try.ntmps33
    have HE := Aside0.mk (R_empty k30 30 w.heap.size w (Nat.le_refl _))
    go_wp2_with (first | ((with_reducible refine gate_builtin (b := .append) (xs := #[.tmp 5, .tmp 6]) rfl ?_); at_builtin; refine Kd.R_append_rows k30 (w0 := w) w.heap.size rfl (.tmp 5) (.tmp 6) 22 30 (.agg #[(.string ⟨#[]⟩), (.int .i64 0), (.int .i64 0), (.int .i64 0)]) 40 rfl Try.underlying22 info30 rfl (by decide) (by omega) (.slice (some ⟨w.heap.size, 0, none⟩) 0 0) ([] : List (S30)) l0 _ _ _ (fun _ => True) (fun _ => False) rfl rfl ?aO ?aR (fun _ _ h => h) (fun _ h => h.elim) ?aF ?aB ?aS ?aL ?_; (case aR => exact Kd.C_below HR0.out (below_alloc HB.out _)); (case aB => exact below_alloc HB.out _); (case aF => exact (fun _ _ => trivial)); (case aO => exact HE.out); (case aS => exact below_size (below_alloc HB.out _)); (case aL => have := HL.out; simp; omega); intro v1 w1 ho hb hg hat; have HO := Aside0.mk ho; have HB1 := Aside0.mk hb; clear ho hb hg hat))
    go_ret
    exact ⟨_, rfl, HO.out, HB1.out⟩
end Go.Proofs.Ytjjjbpgncmfpgaa.FA
