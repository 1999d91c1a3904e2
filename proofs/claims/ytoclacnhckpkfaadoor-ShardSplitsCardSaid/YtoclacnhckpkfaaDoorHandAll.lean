/- Joined by merge.py out of: Hand, HandV. -/
import Derived.Test.YtoclacnhckpkfaaDoorWWords
import Derived.Test.YtoclacnhckpkfaaDoorWMore
import Derived.Handy
import Derived.Deep.Cut
section
/- Small facts for walks by hand. -/
namespace Go.Proofs.YtoclacnhckpkfaaDoor.Hand
open Go.RowKit Go.Proofs.YtoclacnhckpkfaaDoorW.PrintWords Go.Proofs.YtoclacnhckpkfaaDoorW.PrintLast Go.Proofs.YtoclacnhckpkfaaDoorW.PrintMore
theorem results_c1 {P : Program} {fn : Func} {p : Tmp} {ty : TypeId} (h : fn.results = #[.cell p ty]) (tmps : Array Value) (w : World) (g : Nat) (t : TypeId) (cs : Array Value) (fr : Nat × Nat) (d : TypeDesc)
    (hp : tmps.getD p undef = .pointer (some ⟨g, 0, none⟩)) (hg : w.heap[g]? = some (.cells cs t fr))
    (hu : P.underlying ty = some d) (hd : (match d with | .struct _ | .array _ _ => true | _ => false) = true) (hi : (P.info? ty).map (·.size) = some cs.size) :
    (results fn tmps).run P w = .ok (.agg cs) w := by
  have hp' : tmps[p]?.getD undef = .pointer (some ⟨g, 0, none⟩) := by simpa using hp
  simp [results, h, hp', asAddr, run_loadVar_row w g t ty cs fr d hg hu hd hi]
end Go.Proofs.YtoclacnhckpkfaaDoor.Hand
end

section
/- A call through a function value, in a region that draws its order. -/
namespace Go.Proofs.YtoclacnhckpkfaaDoor.Hand
open Go.RowKit Go.Proofs.YtoclacnhckpkfaaDoorW.PrintWords Go.Proofs.YtoclacnhckpkfaaDoorW.PrintLast Go.Proofs.YtoclacnhckpkfaaDoorW.PrintMore
end Go.Proofs.YtoclacnhckpkfaaDoor.Hand
end
