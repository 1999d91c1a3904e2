/- Written by hand: poly.roll (it reads the package's table). -/
import Derived.Test.YtoclacnhckpkfaaDoorHandAll
import Derived.Test.YtoclacnhckpkfaaDoorProg
import Derived.WalkKit
import Derived.Test.YtoclacnhckpkfaaDoorB
import Derived.Lib.LaidTab
import Derived.Outline
namespace Go.Proofs.YtoclacnhckpkfaaDoor.FA
open Go.RowKit Go.Proofs.YtoclacnhckpkfaaDoorW.PrintWords Go.Proofs.YtoclacnhckpkfaaDoorW.PrintLast Go.Proofs.YtoclacnhckpkfaaDoorW.PrintMore Go.Proofs.YtoclacnhckpkfaaDoor.Hand Go.Proofs.YtoclacnhckpkfaaDoor.B
set_option linter.unusedVariables false
set_option linter.unusedSimpArgs false
def tabL : List Int := [0, 498536548, 997073096, 651767980, 1994146192, 1802195444, 1303535960, 1342533948, 3988292384, 4027552580, 3604390888, 3412177804, 2607071920, 2262029012, 2685067896, 3183342108]
def tabAt (i : Int) : Int := tabL.getD i.toNat 0
/-- The table's cells hold its numbers. -/
def TabW (w : World) : Prop := ∀ i : Nat, i < 16 → w.cell? ⟨0, i, none⟩ = some (.int .u32 (tabL.getD i 0))
theorem TabW.below {w w' : World} (h : TabW w) (hb : Below w.heap.size w w') : TabW w' := fun i hi => pw_cell_below hb (h i hi)
theorem TabW.drewN {w : World} (h : TabW w) (n : Nat) : TabW (w.drewN n) := h
theorem TabW.drew {w : World} (h : TabW w) : TabW w.drew := h
theorem and15 (x : Int) : 0 ≤ Go.bits .and .u32 x 15 ∧ Go.bits .and .u32 x 15 < 16 := by
  have h : ((BitVec.ofInt IntKind.u32.bits x) &&& (BitVec.ofInt IntKind.u32.bits 15)).toNat ≤ (BitVec.ofInt IntKind.u32.bits 15).toNat := by rw [BitVec.toNat_and]; exact Nat.and_le_right
  have e : (BitVec.ofInt IntKind.u32.bits 15).toNat = 15 := by decide
  rw [e] at h
  have hb : Go.bits .and .u32 x 15 = IntKind.u32.wrap (((BitVec.ofInt IntKind.u32.bits x) &&& (BitVec.ofInt IntKind.u32.bits 15)).toNat : Int) := rfl
  rw [hb, IntKind.wrap_u32]
  omega
def mixI (x : Int) : Int := Go.bits .xor .u32 (x / 16) (tabAt (Go.bits .and .u32 x 15))
def rollI (r c : Int) : Int := mixI (mixI (Go.bits .xor .u32 r (c % 4294967296)))
def poly_roll.f (a0 a1 : Int) : Option Int := some (rollI a0 a1)
set_option maxHeartbeats 1000000 in
theorem poly_roll.calls (a0 a1 : Int) (r : Int) (w : World) (hT : TabW w) (h : poly_roll.f a0 a1 = some r) :
    Calls Tryd.prog 35 #[.int .u32 a0, .int .u8 a1] w fun e w' => e = .returned (.int .u32 r) ∧ Drawn0 w w' := by
  have h1 := Option.some.inj h
  unfold rollI mixI at h1
  obtain ⟨x1, hx1⟩ : ∃ x1, Go.bits .xor .u32 a0 (a1 % 4294967296) = x1 := ⟨_, rfl⟩
  rw [hx1] at h1
  obtain ⟨m1, hm1⟩ : ∃ m1, Go.bits .and .u32 x1 15 = m1 := ⟨_, rfl⟩
  rw [hm1] at h1
  have b1 := and15 x1
  rw [hm1] at b1
  obtain ⟨b10, b11⟩ := b1
  have c1 : w.cell? ⟨0, m1.toNat, none⟩ = some (.int .u32 (tabAt m1)) := hT m1.toNat (by omega)
  obtain ⟨x2, hx2⟩ : ∃ x2, Go.bits .xor .u32 (x1 / 16) (tabAt m1) = x2 := ⟨_, rfl⟩
  rw [hx2] at h1
  obtain ⟨m2, hm2⟩ : ∃ m2, Go.bits .and .u32 x2 15 = m2 := ⟨_, rfl⟩
  rw [hm2] at h1
  have b2 := and15 x2
  rw [hm2] at b2
  obtain ⟨b20, b21⟩ := b2
  have c2 : w.cell? ⟨0, m2.toNat, none⟩ = some (.int .u32 (tabAt m2)) := hT m2.toNat (by omega)
  have H1 := Aside0.mk h1
  clear h h1 hT
  go_enter Tryd.func35, Tryd.ntmps35
  go_wp2
  go_ret
  have e := H1.out
  subst e
  exact ⟨rfl, Drawn0.refl _⟩
end Go.Proofs.YtoclacnhckpkfaaDoor.FA
