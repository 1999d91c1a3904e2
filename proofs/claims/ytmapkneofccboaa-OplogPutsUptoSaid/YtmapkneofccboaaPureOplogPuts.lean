/- The law OplogPuts, in plain words: what is put is no longer than what came in. -/
import Derived.Test.YtmapkneofccboaaRdOplogPuts
import Derived.Test.YtmapkneofccboaaHOplogPuts
namespace Go.Proofs.Ytmapkneofccboaa.oplogPuts
open Go.RowKit Go.Proofs.Ytmapkneofccboaa.FA Go.Proofs.YtmapkneofccboaaW.PrintWords Go.Proofs.Ytmapkneofccboaa.Rd Go.Proofs.Ytmapkneofccboaa.B
set_option linter.unusedVariables false
theorem len_bs {α : Type} (b : α → Nat) (hb : ∀ a, 2 ≤ b a) : ∀ l : List α, 2 * l.length ≤ bs b l
  | [] => Nat.le_refl _
  | a :: l => by
    have h1 := len_bs b hb l
    have h2 := hb a
    rw [List.length_cons, bs]
    omega
theorem item_b (x : S30) : 2 ≤ r30.b x := by
  have : r30.b x = 1 + (1 + (1 + (x.f3.size + 1))) + 1 := rfl
  omega
theorem pure_OplogPuts : ∀ (a0 : (List S30)) (o0 : r28.ok a0) (a1 : Int) (o1 : r3.ok a1) (a2 : (List S30)) (o2 : r28.ok a2) (bk : r28.b a0 + r3.b a1 + r28.b a2 ≤ 1048576), ∃ k, sextonlaw05_OplogPuts.f k a0 a1 a2 = some true := by
  intro a0 o0 a1 o1 a2 o2 bk
  have h := len_bs r30.b item_b a2
  have h' : r28.b a2 = bs r30.b a2 + 1 := rfl
  exact ⟨0, by rw [sextonlaw05_OplogPuts.f, if_pos (by omega)]⟩
end Go.Proofs.Ytmapkneofccboaa.oplogPuts
