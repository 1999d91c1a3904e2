-- Written by wip/tools/myprint.py (a patched run of the kit's printer) out of the translation.
import Derived.Test.YtjjjbpgncmfpgaaFAx0
import Derived.Test.YtjjjbpgncmfpgaaFAEq1
import Derived.Test.YtjjjbpgncmfpgaaFAfolderFind
import Derived.Test.YtjjjbpgncmfpgaaFARef10a
import Derived.Test.YtjjjbpgncmfpgaaFAsextonlaw10do
import Derived.Test.YtjjjbpgncmfpgaaHFolderTwo
namespace Go.Proofs.Ytjjjbpgncmfpgaa.FA
open Go.RowKit Go.Proofs.YtjjjbpgncmfpgaaW.PrintWords Go.Proofs.YtjjjbpgncmfpgaaW.PrintLast Go.Proofs.YtjjjbpgncmfpgaaW.PrintMore
attribute [local go_sem] max2_int min2_int max_two min_two max_three min_three max_four min_four   -- for this text's walks alone
set_option linter.unusedVariables false
set_option linter.unusedSimpArgs false

attribute [local go_sem high] eqA30
/-! ### sextonlaw10_FolderHas: function 5 -/
mutual
def sextonlaw10_FolderHas.l0 : Nat → List ByteArray → Int → List (S55) → Int → Int → List (S30) → Int → Option (Bool)
  | 0, _, _, _, _, _, _, _ => none
  | k + 1, x4, x5, x22, x23, x24, x209000, x209001 => if x24 < x23 then (if 0 ≤ x24 then (if x24 < (x22.length : Int) then ((sextonlaw10_do.f k x209000 x209001 ((rd_T55 x22 x24).f0) ((rd_T55 x22 x24).f1)).bind fun bt212 => (sextonlaw10_FolderHas.l1 k x4 x5 (-1) x22 x23 x24 x4 (x4.length : Int) 0 bt212.1 bt212.2 ((rd_T55 x22 x24).f0) ((rd_T55 x22 x24).f1))) else (none)) else (none)) else ((sextonlaw10_two.f k).bind fun t209 => (some t209))
def sextonlaw10_FolderHas.l1 : Nat → List ByteArray → Int → Int → List (S55) → Int → Int → List ByteArray → Int → Int → List (S30) → Int → Int → ByteArray → Option (Bool)
  | 0, _, _, _, _, _, _, _, _, _, _, _, _, _ => none
  | k + 1, x4, x5, x8, x22, x23, x24, x31, x32, x33, x209000, x209001, x212000, x212001 => if x33 < x32 then (if 0 ≤ x33 then (if x33 < (x31.length : Int) then (if (rdOf ByteArray.empty x31 x33).toList = x212001.toList then (sextonlaw10_FolderHas.l1 k x4 x5 x33 x22 x23 x24 x31 x32 (wrap64 (x33 + 1)) x209000 x209001 x212000 x212001) else (sextonlaw10_FolderHas.l1 k x4 x5 x8 x22 x23 x24 x31 x32 (wrap64 (x33 + 1)) x209000 x209001 x212000 x212001)) else (none)) else (none)) else (if x212000 = 0 then (sextonlaw10_FolderHas.j2 k x4 x5 x8 true x22 x23 x24 x209000 x209001 x212000 x212001) else (sextonlaw10_FolderHas.j2 k x4 x5 x8 (x212000 == 1) x22 x23 x24 x209000 x209001 x212000 x212001))
def sextonlaw10_FolderHas.j2 : Nat → List ByteArray → Int → Int → Bool → List (S55) → Int → Int → List (S30) → Int → Int → ByteArray → Option (Bool)
  | 0, _, _, _, _, _, _, _, _, _, _, _ => none
  | k + 1, x4, x5, x8, x11, x22, x23, x24, x209000, x209001, x212000, x212001 => if x11 = true then (if x8 < 0 then ((sextonref10_Name.f k x212001).bind fun t217 => (sextonlaw10_FolderHas.j3 k x4 x5 x8 x11 x22 x23 x24 (t217 == 0) x209000 x209001 x212000 x212001)) else (sextonlaw10_FolderHas.j3 k x4 x5 x8 x11 x22 x23 x24 false x209000 x209001 x212000 x212001)) else (sextonlaw10_FolderHas.j3 k x4 x5 x8 x11 x22 x23 x24 false x209000 x209001 x212000 x212001)
def sextonlaw10_FolderHas.j3 : Nat → List ByteArray → Int → Int → Bool → List (S55) → Int → Int → Bool → List (S30) → Int → Int → ByteArray → Option (Bool)
  | 0, _, _, _, _, _, _, _, _, _, _, _, _ => none
  | k + 1, x4, x5, x8, x11, x22, x23, x24, x62, x209000, x209001, x212000, x212001 => if x62 = true then (if x4.length < 8796093022208 then (sextonlaw10_FolderHas.j4 k (x4 ++ [x212001]) (wrap64 (x5 + 1)) x8 x11 x22 x23 x24 x209000 x209001) else (none)) else (sextonlaw10_FolderHas.j4 k x4 x5 x8 x11 x22 x23 x24 x209000 x209001)
def sextonlaw10_FolderHas.j4 : Nat → List ByteArray → Int → Int → Bool → List (S55) → Int → Int → List (S30) → Int → Option (Bool)
  | 0, _, _, _, _, _, _, _, _, _ => none
  | k + 1, x4, x5, x8, x11, x22, x23, x24, x209000, x209001 => if x11 = true then (sextonlaw10_FolderHas.j5 k x4 x5 x8 x22 x23 x24 false x209000 x209001) else (sextonlaw10_FolderHas.j5 k x4 x5 x8 x22 x23 x24 (decide (x8 ≥ 0)) x209000 x209001)
def sextonlaw10_FolderHas.j5 : Nat → List ByteArray → Int → Int → List (S55) → Int → Int → Bool → List (S30) → Int → Option (Bool)
  | 0, _, _, _, _, _, _, _, _, _ => none
  | k + 1, x4, x5, x8, x22, x23, x24, x75, x209000, x209001 => if x75 = true then (if 0 ≤ x8 then (if x8 ≤ (x4.length : Int) then ((some (x4.take (x8 : Int).toNat : List ByteArray)).bind fun y221 => (if ([] : List ByteArray).length + y221.length < 8796093022208 then ((some (([] : List ByteArray) ++ y221 : List ByteArray)).bind fun y225 => (if 0 ≤ (wrap64 (x8 + 1)) then (if (wrap64 (x8 + 1)) ≤ (x4.length : Int) then ((some (x4.drop ((wrap64 (x8 + 1)) : Int).toNat : List ByteArray)).bind fun y228 => (if y225.length + y228.length < 8796093022208 then (sextonlaw10_FolderHas.j6 k (y225 ++ y228) x5 x22 x23 x24 x209000 x209001) else (none))) else (none)) else (none))) else (none))) else (none)) else (none)) else (sextonlaw10_FolderHas.j6 k x4 x5 x22 x23 x24 x209000 x209001)
def sextonlaw10_FolderHas.j6 : Nat → List ByteArray → Int → List (S55) → Int → Int → List (S30) → Int → Option (Bool)
  | 0, _, _, _, _, _, _, _ => none
  | k + 1, x4, x5, x22, x23, x24, x209000, x209001 => if (x209000.length : Int) = (x4.length : Int) then (sextonlaw10_FolderHas.j7 k x4 x5 x22 x23 x24 (x209001 != x5) x209000 x209001) else (sextonlaw10_FolderHas.j7 k x4 x5 x22 x23 x24 true x209000 x209001)
def sextonlaw10_FolderHas.j7 : Nat → List ByteArray → Int → List (S55) → Int → Int → Bool → List (S30) → Int → Option (Bool)
  | 0, _, _, _, _, _, _, _, _ => none
  | k + 1, x4, x5, x22, x23, x24, x99, x209000, x209001 => if x99 = true then (none) else (sextonlaw10_FolderHas.l2 k x4 x5 x22 x23 x24 x4 (x4.length : Int) 0 x209000 x209001)
def sextonlaw10_FolderHas.l2 : Nat → List ByteArray → Int → List (S55) → Int → Int → List ByteArray → Int → Int → List (S30) → Int → Option (Bool)
  | 0, _, _, _, _, _, _, _, _, _, _ => none
  | k + 1, x4, x5, x22, x23, x24, x100, x101, x102, x209000, x209001 => if x102 < x101 then (if 0 ≤ x102 then (if x102 < (x100.length : Int) then ((folder_Find.f k x209000 x209001 (rdOf ByteArray.empty x100 x102)).bind fun bt236 => (if bt236.2.2.2.2 = 0 then (if x102 < (x209000.length : Int) then (if (!(bt236.1.toList == (((rd_T30 x209000 x102).f0).toList)) || (!(bt236.2.1 == ((rd_T30 x209000 x102).f1)) || ((!(bt236.2.2.1 == ((rd_T30 x209000 x102).f2.f0)) || (!(bt236.2.2.2.1 == ((rd_T30 x209000 x102).f2.f1))))))) = true then (none) else (sextonlaw10_FolderHas.l2 k x4 x5 x22 x23 x24 x100 x101 (wrap64 (x102 + 1)) x209000 x209001)) else (none)) else (none))) else (none)) else (none)) else (sextonlaw10_FolderHas.l0 k x4 x5 x22 x23 (wrap64 (x24 + 1)) x209000 x209001)
end
def sextonlaw10_FolderHas.f (k : Nat) (l0 : List (S55)) : Option (Bool) := if (l0.length : Int) > 200 then ((sextonlaw10_two.f k).bind fun t207 => (some t207)) else (sextonlaw10_FolderHas.l0 k ([] : List ByteArray) 0 l0 (l0.length : Int) 0 ([] : List (S30)) 0)
theorem sextonlaw10_FolderHas.mono_l : ∀ k, (∀ y0 y1 y2 y3 y4 y5 y6, LeO (sextonlaw10_FolderHas.l0 k y0 y1 y2 y3 y4 y5 y6) (sextonlaw10_FolderHas.l0 (k + 1) y0 y1 y2 y3 y4 y5 y6)) ∧ (∀ y0 y1 y2 y3 y4 y5 y6 y7 y8 y9 y10 y11 y12, LeO (sextonlaw10_FolderHas.l1 k y0 y1 y2 y3 y4 y5 y6 y7 y8 y9 y10 y11 y12) (sextonlaw10_FolderHas.l1 (k + 1) y0 y1 y2 y3 y4 y5 y6 y7 y8 y9 y10 y11 y12)) ∧ (∀ y0 y1 y2 y3 y4 y5 y6 y7 y8 y9 y10, LeO (sextonlaw10_FolderHas.j2 k y0 y1 y2 y3 y4 y5 y6 y7 y8 y9 y10) (sextonlaw10_FolderHas.j2 (k + 1) y0 y1 y2 y3 y4 y5 y6 y7 y8 y9 y10)) ∧ (∀ y0 y1 y2 y3 y4 y5 y6 y7 y8 y9 y10 y11, LeO (sextonlaw10_FolderHas.j3 k y0 y1 y2 y3 y4 y5 y6 y7 y8 y9 y10 y11) (sextonlaw10_FolderHas.j3 (k + 1) y0 y1 y2 y3 y4 y5 y6 y7 y8 y9 y10 y11)) ∧ (∀ y0 y1 y2 y3 y4 y5 y6 y7 y8, LeO (sextonlaw10_FolderHas.j4 k y0 y1 y2 y3 y4 y5 y6 y7 y8) (sextonlaw10_FolderHas.j4 (k + 1) y0 y1 y2 y3 y4 y5 y6 y7 y8)) ∧ (∀ y0 y1 y2 y3 y4 y5 y6 y7 y8, LeO (sextonlaw10_FolderHas.j5 k y0 y1 y2 y3 y4 y5 y6 y7 y8) (sextonlaw10_FolderHas.j5 (k + 1) y0 y1 y2 y3 y4 y5 y6 y7 y8)) ∧ (∀ y0 y1 y2 y3 y4 y5 y6, LeO (sextonlaw10_FolderHas.j6 k y0 y1 y2 y3 y4 y5 y6) (sextonlaw10_FolderHas.j6 (k + 1) y0 y1 y2 y3 y4 y5 y6)) ∧ (∀ y0 y1 y2 y3 y4 y5 y6 y7, LeO (sextonlaw10_FolderHas.j7 k y0 y1 y2 y3 y4 y5 y6 y7) (sextonlaw10_FolderHas.j7 (k + 1) y0 y1 y2 y3 y4 y5 y6 y7)) ∧ (∀ y0 y1 y2 y3 y4 y5 y6 y7 y8 y9, LeO (sextonlaw10_FolderHas.l2 k y0 y1 y2 y3 y4 y5 y6 y7 y8 y9) (sextonlaw10_FolderHas.l2 (k + 1) y0 y1 y2 y3 y4 y5 y6 y7 y8 y9))
  | 0 => ⟨fun _ _ _ _ _ _ _ r h => by simp [sextonlaw10_FolderHas.l0] at h, fun _ _ _ _ _ _ _ _ _ _ _ _ _ r h => by simp [sextonlaw10_FolderHas.l1] at h, fun _ _ _ _ _ _ _ _ _ _ _ r h => by simp [sextonlaw10_FolderHas.j2] at h, fun _ _ _ _ _ _ _ _ _ _ _ _ r h => by simp [sextonlaw10_FolderHas.j3] at h, fun _ _ _ _ _ _ _ _ _ r h => by simp [sextonlaw10_FolderHas.j4] at h, fun _ _ _ _ _ _ _ _ _ r h => by simp [sextonlaw10_FolderHas.j5] at h, fun _ _ _ _ _ _ _ r h => by simp [sextonlaw10_FolderHas.j6] at h, fun _ _ _ _ _ _ _ _ r h => by simp [sextonlaw10_FolderHas.j7] at h, fun _ _ _ _ _ _ _ _ _ _ r h => by simp [sextonlaw10_FolderHas.l2] at h⟩
  | k + 1 => by
    obtain ⟨ih0, ih1, ih2, ih3, ih4, ih5, ih6, ih7, ih8⟩ := sextonlaw10_FolderHas.mono_l k
    refine ⟨?_, ?_, ?_, ?_, ?_, ?_, ?_, ?_, ?_⟩
    · intro y0 y1 y2 y3 y4 y5 y6
      unfold sextonlaw10_FolderHas.l0
      repeat' first
      | (with_reducible exact ih0 _ _ _ _ _ _ _)
      | (with_reducible exact ih1 _ _ _ _ _ _ _ _ _ _ _ _ _)
      | (with_reducible exact ih2 _ _ _ _ _ _ _ _ _ _ _)
      | (with_reducible exact ih3 _ _ _ _ _ _ _ _ _ _ _ _)
      | (with_reducible exact ih4 _ _ _ _ _ _ _ _ _)
      | (with_reducible exact ih5 _ _ _ _ _ _ _ _ _)
      | (with_reducible exact ih6 _ _ _ _ _ _ _)
      | (with_reducible exact ih7 _ _ _ _ _ _ _ _)
      | (with_reducible exact ih8 _ _ _ _ _ _ _ _ _ _)
      | (with_reducible exact folder_Find.mono _ _ _ _)
      | (with_reducible exact sextonlaw10_do.mono _ _ _ _ _)
      | (with_reducible exact sextonlaw10_two.mono _)
      | (with_reducible exact sextonref10_Name.mono _ _)
      | (with_reducible exact LeO.refl _)
      | (with_reducible exact LeO.none _)
      | (with_reducible refine LeO.ite ?_ ?_)
      | (with_reducible refine LeO.bind ?_ (fun _ => ?_))
      | exact ih0 _ _ _ _ _ _ _
      | exact ih1 _ _ _ _ _ _ _ _ _ _ _ _ _
      | exact ih2 _ _ _ _ _ _ _ _ _ _ _
      | exact ih3 _ _ _ _ _ _ _ _ _ _ _ _
      | exact ih4 _ _ _ _ _ _ _ _ _
      | exact ih5 _ _ _ _ _ _ _ _ _
      | exact ih6 _ _ _ _ _ _ _
      | exact ih7 _ _ _ _ _ _ _ _
      | exact ih8 _ _ _ _ _ _ _ _ _ _
      | exact folder_Find.mono _ _ _ _
      | exact sextonlaw10_do.mono _ _ _ _ _
      | exact sextonlaw10_two.mono _
      | exact sextonref10_Name.mono _ _
      | exact LeO.none _
      | refine LeO.ite ?_ ?_
      | refine LeO.bind ?_ (fun _ => ?_)
    · intro y0 y1 y2 y3 y4 y5 y6 y7 y8 y9 y10 y11 y12
      unfold sextonlaw10_FolderHas.l1
      repeat' first
      | (with_reducible exact ih0 _ _ _ _ _ _ _)
      | (with_reducible exact ih1 _ _ _ _ _ _ _ _ _ _ _ _ _)
      | (with_reducible exact ih2 _ _ _ _ _ _ _ _ _ _ _)
      | (with_reducible exact ih3 _ _ _ _ _ _ _ _ _ _ _ _)
      | (with_reducible exact ih4 _ _ _ _ _ _ _ _ _)
      | (with_reducible exact ih5 _ _ _ _ _ _ _ _ _)
      | (with_reducible exact ih6 _ _ _ _ _ _ _)
      | (with_reducible exact ih7 _ _ _ _ _ _ _ _)
      | (with_reducible exact ih8 _ _ _ _ _ _ _ _ _ _)
      | (with_reducible exact folder_Find.mono _ _ _ _)
      | (with_reducible exact sextonlaw10_do.mono _ _ _ _ _)
      | (with_reducible exact sextonlaw10_two.mono _)
      | (with_reducible exact sextonref10_Name.mono _ _)
      | (with_reducible exact LeO.refl _)
      | (with_reducible exact LeO.none _)
      | (with_reducible refine LeO.ite ?_ ?_)
      | (with_reducible refine LeO.bind ?_ (fun _ => ?_))
      | exact ih0 _ _ _ _ _ _ _
      | exact ih1 _ _ _ _ _ _ _ _ _ _ _ _ _
      | exact ih2 _ _ _ _ _ _ _ _ _ _ _
      | exact ih3 _ _ _ _ _ _ _ _ _ _ _ _
      | exact ih4 _ _ _ _ _ _ _ _ _
      | exact ih5 _ _ _ _ _ _ _ _ _
      | exact ih6 _ _ _ _ _ _ _
      | exact ih7 _ _ _ _ _ _ _ _
      | exact ih8 _ _ _ _ _ _ _ _ _ _
      | exact folder_Find.mono _ _ _ _
      | exact sextonlaw10_do.mono _ _ _ _ _
      | exact sextonlaw10_two.mono _
      | exact sextonref10_Name.mono _ _
      | exact LeO.none _
      | refine LeO.ite ?_ ?_
      | refine LeO.bind ?_ (fun _ => ?_)
    · intro y0 y1 y2 y3 y4 y5 y6 y7 y8 y9 y10
      unfold sextonlaw10_FolderHas.j2
      repeat' first
      | (with_reducible exact ih0 _ _ _ _ _ _ _)
      | (with_reducible exact ih1 _ _ _ _ _ _ _ _ _ _ _ _ _)
      | (with_reducible exact ih2 _ _ _ _ _ _ _ _ _ _ _)
      | (with_reducible exact ih3 _ _ _ _ _ _ _ _ _ _ _ _)
      | (with_reducible exact ih4 _ _ _ _ _ _ _ _ _)
      | (with_reducible exact ih5 _ _ _ _ _ _ _ _ _)
      | (with_reducible exact ih6 _ _ _ _ _ _ _)
      | (with_reducible exact ih7 _ _ _ _ _ _ _ _)
      | (with_reducible exact ih8 _ _ _ _ _ _ _ _ _ _)
      | (with_reducible exact folder_Find.mono _ _ _ _)
      | (with_reducible exact sextonlaw10_do.mono _ _ _ _ _)
      | (with_reducible exact sextonlaw10_two.mono _)
      | (with_reducible exact sextonref10_Name.mono _ _)
      | (with_reducible exact LeO.refl _)
      | (with_reducible exact LeO.none _)
      | (with_reducible refine LeO.ite ?_ ?_)
      | (with_reducible refine LeO.bind ?_ (fun _ => ?_))
      | exact ih0 _ _ _ _ _ _ _
      | exact ih1 _ _ _ _ _ _ _ _ _ _ _ _ _
      | exact ih2 _ _ _ _ _ _ _ _ _ _ _
      | exact ih3 _ _ _ _ _ _ _ _ _ _ _ _
      | exact ih4 _ _ _ _ _ _ _ _ _
      | exact ih5 _ _ _ _ _ _ _ _ _
      | exact ih6 _ _ _ _ _ _ _
      | exact ih7 _ _ _ _ _ _ _ _
      | exact ih8 _ _ _ _ _ _ _ _ _ _
      | exact folder_Find.mono _ _ _ _
      | exact sextonlaw10_do.mono _ _ _ _ _
      | exact sextonlaw10_two.mono _
      | exact sextonref10_Name.mono _ _
      | exact LeO.none _
      | refine LeO.ite ?_ ?_
      | refine LeO.bind ?_ (fun _ => ?_)
    · intro y0 y1 y2 y3 y4 y5 y6 y7 y8 y9 y10 y11
      unfold sextonlaw10_FolderHas.j3
      repeat' first
      | (with_reducible exact ih0 _ _ _ _ _ _ _)
      | (with_reducible exact ih1 _ _ _ _ _ _ _ _ _ _ _ _ _)
      | (with_reducible exact ih2 _ _ _ _ _ _ _ _ _ _ _)
      | (with_reducible exact ih3 _ _ _ _ _ _ _ _ _ _ _ _)
      | (with_reducible exact ih4 _ _ _ _ _ _ _ _ _)
      | (with_reducible exact ih5 _ _ _ _ _ _ _ _ _)
      | (with_reducible exact ih6 _ _ _ _ _ _ _)
      | (with_reducible exact ih7 _ _ _ _ _ _ _ _)
      | (with_reducible exact ih8 _ _ _ _ _ _ _ _ _ _)
      | (with_reducible exact folder_Find.mono _ _ _ _)
      | (with_reducible exact sextonlaw10_do.mono _ _ _ _ _)
      | (with_reducible exact sextonlaw10_two.mono _)
      | (with_reducible exact sextonref10_Name.mono _ _)
      | (with_reducible exact LeO.refl _)
      | (with_reducible exact LeO.none _)
      | (with_reducible refine LeO.ite ?_ ?_)
      | (with_reducible refine LeO.bind ?_ (fun _ => ?_))
      | exact ih0 _ _ _ _ _ _ _
      | exact ih1 _ _ _ _ _ _ _ _ _ _ _ _ _
      | exact ih2 _ _ _ _ _ _ _ _ _ _ _
      | exact ih3 _ _ _ _ _ _ _ _ _ _ _ _
      | exact ih4 _ _ _ _ _ _ _ _ _
      | exact ih5 _ _ _ _ _ _ _ _ _
      | exact ih6 _ _ _ _ _ _ _
      | exact ih7 _ _ _ _ _ _ _ _
      | exact ih8 _ _ _ _ _ _ _ _ _ _
      | exact folder_Find.mono _ _ _ _
      | exact sextonlaw10_do.mono _ _ _ _ _
      | exact sextonlaw10_two.mono _
      | exact sextonref10_Name.mono _ _
      | exact LeO.none _
      | refine LeO.ite ?_ ?_
      | refine LeO.bind ?_ (fun _ => ?_)
    · intro y0 y1 y2 y3 y4 y5 y6 y7 y8
      unfold sextonlaw10_FolderHas.j4
      repeat' first
      | (with_reducible exact ih0 _ _ _ _ _ _ _)
      | (with_reducible exact ih1 _ _ _ _ _ _ _ _ _ _ _ _ _)
      | (with_reducible exact ih2 _ _ _ _ _ _ _ _ _ _ _)
      | (with_reducible exact ih3 _ _ _ _ _ _ _ _ _ _ _ _)
      | (with_reducible exact ih4 _ _ _ _ _ _ _ _ _)
      | (with_reducible exact ih5 _ _ _ _ _ _ _ _ _)
      | (with_reducible exact ih6 _ _ _ _ _ _ _)
      | (with_reducible exact ih7 _ _ _ _ _ _ _ _)
      | (with_reducible exact ih8 _ _ _ _ _ _ _ _ _ _)
      | (with_reducible exact folder_Find.mono _ _ _ _)
      | (with_reducible exact sextonlaw10_do.mono _ _ _ _ _)
      | (with_reducible exact sextonlaw10_two.mono _)
      | (with_reducible exact sextonref10_Name.mono _ _)
      | (with_reducible exact LeO.refl _)
      | (with_reducible exact LeO.none _)
      | (with_reducible refine LeO.ite ?_ ?_)
      | (with_reducible refine LeO.bind ?_ (fun _ => ?_))
      | exact ih0 _ _ _ _ _ _ _
      | exact ih1 _ _ _ _ _ _ _ _ _ _ _ _ _
      | exact ih2 _ _ _ _ _ _ _ _ _ _ _
      | exact ih3 _ _ _ _ _ _ _ _ _ _ _ _
      | exact ih4 _ _ _ _ _ _ _ _ _
      | exact ih5 _ _ _ _ _ _ _ _ _
      | exact ih6 _ _ _ _ _ _ _
      | exact ih7 _ _ _ _ _ _ _ _
      | exact ih8 _ _ _ _ _ _ _ _ _ _
      | exact folder_Find.mono _ _ _ _
      | exact sextonlaw10_do.mono _ _ _ _ _
      | exact sextonlaw10_two.mono _
      | exact sextonref10_Name.mono _ _
      | exact LeO.none _
      | refine LeO.ite ?_ ?_
      | refine LeO.bind ?_ (fun _ => ?_)
    · intro y0 y1 y2 y3 y4 y5 y6 y7 y8
      unfold sextonlaw10_FolderHas.j5
      repeat' first
      | (with_reducible exact ih0 _ _ _ _ _ _ _)
      | (with_reducible exact ih1 _ _ _ _ _ _ _ _ _ _ _ _ _)
      | (with_reducible exact ih2 _ _ _ _ _ _ _ _ _ _ _)
      | (with_reducible exact ih3 _ _ _ _ _ _ _ _ _ _ _ _)
      | (with_reducible exact ih4 _ _ _ _ _ _ _ _ _)
      | (with_reducible exact ih5 _ _ _ _ _ _ _ _ _)
      | (with_reducible exact ih6 _ _ _ _ _ _ _)
      | (with_reducible exact ih7 _ _ _ _ _ _ _ _)
      | (with_reducible exact ih8 _ _ _ _ _ _ _ _ _ _)
      | (with_reducible exact folder_Find.mono _ _ _ _)
      | (with_reducible exact sextonlaw10_do.mono _ _ _ _ _)
      | (with_reducible exact sextonlaw10_two.mono _)
      | (with_reducible exact sextonref10_Name.mono _ _)
      | (with_reducible exact LeO.refl _)
      | (with_reducible exact LeO.none _)
      | (with_reducible refine LeO.ite ?_ ?_)
      | (with_reducible refine LeO.bind ?_ (fun _ => ?_))
      | exact ih0 _ _ _ _ _ _ _
      | exact ih1 _ _ _ _ _ _ _ _ _ _ _ _ _
      | exact ih2 _ _ _ _ _ _ _ _ _ _ _
      | exact ih3 _ _ _ _ _ _ _ _ _ _ _ _
      | exact ih4 _ _ _ _ _ _ _ _ _
      | exact ih5 _ _ _ _ _ _ _ _ _
      | exact ih6 _ _ _ _ _ _ _
      | exact ih7 _ _ _ _ _ _ _ _
      | exact ih8 _ _ _ _ _ _ _ _ _ _
      | exact folder_Find.mono _ _ _ _
      | exact sextonlaw10_do.mono _ _ _ _ _
      | exact sextonlaw10_two.mono _
      | exact sextonref10_Name.mono _ _
      | exact LeO.none _
      | refine LeO.ite ?_ ?_
      | refine LeO.bind ?_ (fun _ => ?_)
    · intro y0 y1 y2 y3 y4 y5 y6
      unfold sextonlaw10_FolderHas.j6
      repeat' first
      | (with_reducible exact ih0 _ _ _ _ _ _ _)
      | (with_reducible exact ih1 _ _ _ _ _ _ _ _ _ _ _ _ _)
      | (with_reducible exact ih2 _ _ _ _ _ _ _ _ _ _ _)
      | (with_reducible exact ih3 _ _ _ _ _ _ _ _ _ _ _ _)
      | (with_reducible exact ih4 _ _ _ _ _ _ _ _ _)
      | (with_reducible exact ih5 _ _ _ _ _ _ _ _ _)
      | (with_reducible exact ih6 _ _ _ _ _ _ _)
      | (with_reducible exact ih7 _ _ _ _ _ _ _ _)
      | (with_reducible exact ih8 _ _ _ _ _ _ _ _ _ _)
      | (with_reducible exact folder_Find.mono _ _ _ _)
      | (with_reducible exact sextonlaw10_do.mono _ _ _ _ _)
      | (with_reducible exact sextonlaw10_two.mono _)
      | (with_reducible exact sextonref10_Name.mono _ _)
      | (with_reducible exact LeO.refl _)
      | (with_reducible exact LeO.none _)
      | (with_reducible refine LeO.ite ?_ ?_)
      | (with_reducible refine LeO.bind ?_ (fun _ => ?_))
      | exact ih0 _ _ _ _ _ _ _
      | exact ih1 _ _ _ _ _ _ _ _ _ _ _ _ _
      | exact ih2 _ _ _ _ _ _ _ _ _ _ _
      | exact ih3 _ _ _ _ _ _ _ _ _ _ _ _
      | exact ih4 _ _ _ _ _ _ _ _ _
      | exact ih5 _ _ _ _ _ _ _ _ _
      | exact ih6 _ _ _ _ _ _ _
      | exact ih7 _ _ _ _ _ _ _ _
      | exact ih8 _ _ _ _ _ _ _ _ _ _
      | exact folder_Find.mono _ _ _ _
      | exact sextonlaw10_do.mono _ _ _ _ _
      | exact sextonlaw10_two.mono _
      | exact sextonref10_Name.mono _ _
      | exact LeO.none _
      | refine LeO.ite ?_ ?_
      | refine LeO.bind ?_ (fun _ => ?_)
    · intro y0 y1 y2 y3 y4 y5 y6 y7
      unfold sextonlaw10_FolderHas.j7
      repeat' first
      | (with_reducible exact ih0 _ _ _ _ _ _ _)
      | (with_reducible exact ih1 _ _ _ _ _ _ _ _ _ _ _ _ _)
      | (with_reducible exact ih2 _ _ _ _ _ _ _ _ _ _ _)
      | (with_reducible exact ih3 _ _ _ _ _ _ _ _ _ _ _ _)
      | (with_reducible exact ih4 _ _ _ _ _ _ _ _ _)
      | (with_reducible exact ih5 _ _ _ _ _ _ _ _ _)
      | (with_reducible exact ih6 _ _ _ _ _ _ _)
      | (with_reducible exact ih7 _ _ _ _ _ _ _ _)
      | (with_reducible exact ih8 _ _ _ _ _ _ _ _ _ _)
      | (with_reducible exact folder_Find.mono _ _ _ _)
      | (with_reducible exact sextonlaw10_do.mono _ _ _ _ _)
      | (with_reducible exact sextonlaw10_two.mono _)
      | (with_reducible exact sextonref10_Name.mono _ _)
      | (with_reducible exact LeO.refl _)
      | (with_reducible exact LeO.none _)
      | (with_reducible refine LeO.ite ?_ ?_)
      | (with_reducible refine LeO.bind ?_ (fun _ => ?_))
      | exact ih0 _ _ _ _ _ _ _
      | exact ih1 _ _ _ _ _ _ _ _ _ _ _ _ _
      | exact ih2 _ _ _ _ _ _ _ _ _ _ _
      | exact ih3 _ _ _ _ _ _ _ _ _ _ _ _
      | exact ih4 _ _ _ _ _ _ _ _ _
      | exact ih5 _ _ _ _ _ _ _ _ _
      | exact ih6 _ _ _ _ _ _ _
      | exact ih7 _ _ _ _ _ _ _ _
      | exact ih8 _ _ _ _ _ _ _ _ _ _
      | exact folder_Find.mono _ _ _ _
      | exact sextonlaw10_do.mono _ _ _ _ _
      | exact sextonlaw10_two.mono _
      | exact sextonref10_Name.mono _ _
      | exact LeO.none _
      | refine LeO.ite ?_ ?_
      | refine LeO.bind ?_ (fun _ => ?_)
    · intro y0 y1 y2 y3 y4 y5 y6 y7 y8 y9
      unfold sextonlaw10_FolderHas.l2
      repeat' first
      | (with_reducible exact ih0 _ _ _ _ _ _ _)
      | (with_reducible exact ih1 _ _ _ _ _ _ _ _ _ _ _ _ _)
      | (with_reducible exact ih2 _ _ _ _ _ _ _ _ _ _ _)
      | (with_reducible exact ih3 _ _ _ _ _ _ _ _ _ _ _ _)
      | (with_reducible exact ih4 _ _ _ _ _ _ _ _ _)
      | (with_reducible exact ih5 _ _ _ _ _ _ _ _ _)
      | (with_reducible exact ih6 _ _ _ _ _ _ _)
      | (with_reducible exact ih7 _ _ _ _ _ _ _ _)
      | (with_reducible exact ih8 _ _ _ _ _ _ _ _ _ _)
      | (with_reducible exact folder_Find.mono _ _ _ _)
      | (with_reducible exact sextonlaw10_do.mono _ _ _ _ _)
      | (with_reducible exact sextonlaw10_two.mono _)
      | (with_reducible exact sextonref10_Name.mono _ _)
      | (with_reducible exact LeO.refl _)
      | (with_reducible exact LeO.none _)
      | (with_reducible refine LeO.ite ?_ ?_)
      | (with_reducible refine LeO.bind ?_ (fun _ => ?_))
      | exact ih0 _ _ _ _ _ _ _
      | exact ih1 _ _ _ _ _ _ _ _ _ _ _ _ _
      | exact ih2 _ _ _ _ _ _ _ _ _ _ _
      | exact ih3 _ _ _ _ _ _ _ _ _ _ _ _
      | exact ih4 _ _ _ _ _ _ _ _ _
      | exact ih5 _ _ _ _ _ _ _ _ _
      | exact ih6 _ _ _ _ _ _ _
      | exact ih7 _ _ _ _ _ _ _ _
      | exact ih8 _ _ _ _ _ _ _ _ _ _
      | exact folder_Find.mono _ _ _ _
      | exact sextonlaw10_do.mono _ _ _ _ _
      | exact sextonlaw10_two.mono _
      | exact sextonref10_Name.mono _ _
      | exact LeO.none _
      | refine LeO.ite ?_ ?_
      | refine LeO.bind ?_ (fun _ => ?_)
theorem sextonlaw10_FolderHas.mono : ∀ a0 k, LeO (sextonlaw10_FolderHas.f k a0) (sextonlaw10_FolderHas.f (k + 1) a0) := by
  intro a0 k
  obtain ⟨ih0, ih1, ih2, ih3, ih4, ih5, ih6, ih7, ih8⟩ := sextonlaw10_FolderHas.mono_l k
  unfold sextonlaw10_FolderHas.f
  repeat' first
      | (with_reducible exact ih0 _ _ _ _ _ _ _)
      | (with_reducible exact ih1 _ _ _ _ _ _ _ _ _ _ _ _ _)
      | (with_reducible exact ih2 _ _ _ _ _ _ _ _ _ _ _)
      | (with_reducible exact ih3 _ _ _ _ _ _ _ _ _ _ _ _)
      | (with_reducible exact ih4 _ _ _ _ _ _ _ _ _)
      | (with_reducible exact ih5 _ _ _ _ _ _ _ _ _)
      | (with_reducible exact ih6 _ _ _ _ _ _ _)
      | (with_reducible exact ih7 _ _ _ _ _ _ _ _)
      | (with_reducible exact ih8 _ _ _ _ _ _ _ _ _ _)
      | (with_reducible exact folder_Find.mono _ _ _ _)
      | (with_reducible exact sextonlaw10_do.mono _ _ _ _ _)
      | (with_reducible exact sextonlaw10_two.mono _)
      | (with_reducible exact sextonref10_Name.mono _ _)
      | (with_reducible exact LeO.refl _)
      | (with_reducible exact LeO.none _)
      | (with_reducible refine LeO.ite ?_ ?_)
      | (with_reducible refine LeO.bind ?_ (fun _ => ?_))
      | exact ih0 _ _ _ _ _ _ _
      | exact ih1 _ _ _ _ _ _ _ _ _ _ _ _ _
      | exact ih2 _ _ _ _ _ _ _ _ _ _ _
      | exact ih3 _ _ _ _ _ _ _ _ _ _ _ _
      | exact ih4 _ _ _ _ _ _ _ _ _
      | exact ih5 _ _ _ _ _ _ _ _ _
      | exact ih6 _ _ _ _ _ _ _
      | exact ih7 _ _ _ _ _ _ _ _
      | exact ih8 _ _ _ _ _ _ _ _ _ _
      | exact folder_Find.mono _ _ _ _
      | exact sextonlaw10_do.mono _ _ _ _ _
      | exact sextonlaw10_two.mono _
      | exact sextonref10_Name.mono _ _
      | exact LeO.none _
      | refine LeO.ite ?_ ?_
      | refine LeO.bind ?_ (fun _ => ?_)
set_option maxHeartbeats 8000000 in
set_option maxRecDepth 100000 in
theorem sextonlaw10_FolderHas.calls (k : Nat) (A0 : Option Addr) (c0 : Nat) (l0 : List (S55)) (r : Bool) (w : World) (hr0 : Kd.C k55 w A0 l0.length l0) (hc0 : l0.length ≤ c0) (h : sextonlaw10_FolderHas.f k l0 = some r) :
    Calls Try.prog 5 #[.slice A0 l0.length c0] w fun e w' => e = .returned (.bool r) ∧ Below w.heap.size w w' := by
  have hu24 := Try.underlying24
  have hu55 := Try.underlying55
  have hu30 := Try.underlying30
  have HR0 := Aside0.mk hr0
  have HC0 := Aside0.mk hc0
  clear hr0 hc0
  have HB := Aside0.mk (Below.refl w.heap.size w)
  have H : (if (l0.length : Int) > 200 then ((sextonlaw10_two.f k).bind fun t207 => (some t207)) else (sextonlaw10_FolderHas.l0 k ([] : List ByteArray) 0 l0 (l0.length : Int) 0 ([] : List (S30)) 0)) = some r := h
  clear h
  by_cases c2 : (l0.length : Int) > 200
  · rw [if_pos c2] at H
    have c2b0 : decide (200 < (l0.length : Int)) = true := decide_eq_true c2
    have c2b1 : decide (200 < l0.length) = true := decide_eq_true (by omega)
    clear c2
    replace H := Option.bind_eq_some_iff.mp H
    obtain ⟨t207, A30, H⟩ := H
    replace H : (some t207) = some r := H
    have A3 := Aside0.mk A30
    clear A30
    obtain rfl := Option.some.inj H
    go_enter Try.func5, Try.ntmps5
    go_wp2_with (first | (go_at_call 10; (with_reducible refine (sextonlaw10_two.calls k  t207 _ A3.out).mono ?_); rintro e w4 ⟨rfl, hb⟩; have n0_ := Aside0.mk (below_step (by repeat (first | (with_reducible first | exact HB.out | apply below_alloc | apply pw_below_drewN | apply below_drew1) | exact HB.out)) hb); clear HB; have HB := n0_; clear n0_; (try clear hb); (try clear hb2); (try clear hk); (try clear hi)))
    repeat (go_quiet (first | (go_at_call 10; (with_reducible refine (sextonlaw10_two.calls k  t207 _ A3.out).mono ?_); rintro e w4 ⟨rfl, hb⟩; have n0_ := Aside0.mk (below_step (by repeat (first | (with_reducible first | exact HB.out | apply below_alloc | apply pw_below_drewN | apply below_drew1) | exact HB.out)) hb); clear HB; have HB := n0_; clear n0_; (try clear hb); (try clear hb2); (try clear hk); (try clear hi))); try go_wp2_with (first | (go_at_call 10; (with_reducible refine (sextonlaw10_two.calls k  t207 _ A3.out).mono ?_); rintro e w4 ⟨rfl, hb⟩; have n0_ := Aside0.mk (below_step (by repeat (first | (with_reducible first | exact HB.out | apply below_alloc | apply pw_below_drewN | apply below_drew1) | exact HB.out)) hb); clear HB; have HB := n0_; clear n0_; (try clear hb); (try clear hb2); (try clear hk); (try clear hi))))
    go_ret
    exact ⟨by first | rfl | (simp [errW_none, errW_some] <;> rfl) | (simp [*, errW_none, errW_some] <;> rfl), by repeat (first | (with_reducible first | exact HB.out | apply below_alloc | apply pw_below_drewN | apply below_drew1) | exact HB.out)⟩
  · rw [if_neg c2] at H
    have c2b0 : decide (200 < (l0.length : Int)) = false := decide_eq_false c2
    have c2b1 : decide (200 < l0.length) = false := decide_eq_false (by omega)
    clear c2
    have H' := Aside0.mk H
    clear H
    go_enter Try.func5, Try.ntmps5
    go_wp2_with (first | ((with_reducible refine gate_dst (N := 3) rfl ?_); refine box_event ?hg (N := 3) ?hd (cs := #[.slice none 0 0, .int .i64 0]) (t := 24) ?hr ?_; (case hd => rfl); (case hg => rfl); (case hr => first | (go_simp; done) | (go_simp; rfl)); intro gb208 hg w5 hbox hb; have n0_ := Aside0.mk (below_step (by repeat (first | (with_reducible first | exact HB.out | apply below_alloc | apply pw_below_drewN | apply below_drew1) | exact HB.out)) hb); have n1_ := Aside0.mk (hbox); have n2_ := Aside0.mk ((by rw [hg]; exact (below_size (by repeat (first | (with_reducible first | exact HB.out | apply below_alloc | apply pw_below_drewN | apply below_drew1) | exact HB.out))) : w.heap.size ≤ gb208)); have n3_ := Aside0.mk ((by rw [hg]; exact (below_size (by repeat (first | (with_reducible first | exact HB.out | apply below_alloc | apply pw_below_drewN | apply below_drew1) | exact HB.out))) : w.heap.size ≤ gb208)); clear HB; have HB := n0_; have BK208 := n1_; have GW208 := n2_; have GE208 := n3_; clear n0_ n1_ n2_ n3_; clear hb hbox hg; have hcz6_0 : w5.cell? ⟨gb208, 0, none⟩ = some (.slice none 0 0) := (blk_cell BK208.out 0).trans rfl; have hcz6_1 : w5.cell? ⟨gb208, 1, none⟩ = some (.int .i64 0) := (blk_cell BK208.out 1).trans rfl; have hfz6_0 := blk_frozen BK208.out 0; have hfz6_1 := blk_frozen BK208.out 1))
    repeat (go_quiet (first | ((with_reducible refine gate_dst (N := 3) rfl ?_); refine box_event ?hg (N := 3) ?hd (cs := #[.slice none 0 0, .int .i64 0]) (t := 24) ?hr ?_; (case hd => rfl); (case hg => rfl); (case hr => first | (go_simp; done) | (go_simp; rfl)); intro gb208 hg w5 hbox hb; have n0_ := Aside0.mk (below_step (by repeat (first | (with_reducible first | exact HB.out | apply below_alloc | apply pw_below_drewN | apply below_drew1) | exact HB.out)) hb); have n1_ := Aside0.mk (hbox); have n2_ := Aside0.mk ((by rw [hg]; exact (below_size (by repeat (first | (with_reducible first | exact HB.out | apply below_alloc | apply pw_below_drewN | apply below_drew1) | exact HB.out))) : w.heap.size ≤ gb208)); have n3_ := Aside0.mk ((by rw [hg]; exact (below_size (by repeat (first | (with_reducible first | exact HB.out | apply below_alloc | apply pw_below_drewN | apply below_drew1) | exact HB.out))) : w.heap.size ≤ gb208)); clear HB; have HB := n0_; have BK208 := n1_; have GW208 := n2_; have GE208 := n3_; clear n0_ n1_ n2_ n3_; clear hb hbox hg; have hcz6_0 : w5.cell? ⟨gb208, 0, none⟩ = some (.slice none 0 0) := (blk_cell BK208.out 0).trans rfl; have hcz6_1 : w5.cell? ⟨gb208, 1, none⟩ = some (.int .i64 0) := (blk_cell BK208.out 1).trans rfl; have hfz6_0 := blk_frozen BK208.out 0; have hfz6_1 := blk_frozen BK208.out 1)); try go_wp2_with (first | ((with_reducible refine gate_dst (N := 3) rfl ?_); refine box_event ?hg (N := 3) ?hd (cs := #[.slice none 0 0, .int .i64 0]) (t := 24) ?hr ?_; (case hd => rfl); (case hg => rfl); (case hr => first | (go_simp; done) | (go_simp; rfl)); intro gb208 hg w5 hbox hb; have n0_ := Aside0.mk (below_step (by repeat (first | (with_reducible first | exact HB.out | apply below_alloc | apply pw_below_drewN | apply below_drew1) | exact HB.out)) hb); have n1_ := Aside0.mk (hbox); have n2_ := Aside0.mk ((by rw [hg]; exact (below_size (by repeat (first | (with_reducible first | exact HB.out | apply below_alloc | apply pw_below_drewN | apply below_drew1) | exact HB.out))) : w.heap.size ≤ gb208)); have n3_ := Aside0.mk ((by rw [hg]; exact (below_size (by repeat (first | (with_reducible first | exact HB.out | apply below_alloc | apply pw_below_drewN | apply below_drew1) | exact HB.out))) : w.heap.size ≤ gb208)); clear HB; have HB := n0_; have BK208 := n1_; have GW208 := n2_; have GE208 := n3_; clear n0_ n1_ n2_ n3_; clear hb hbox hg; have hcz6_0 : w5.cell? ⟨gb208, 0, none⟩ = some (.slice none 0 0) := (blk_cell BK208.out 0).trans rfl; have hcz6_1 : w5.cell? ⟨gb208, 1, none⟩ = some (.int .i64 0) := (blk_cell BK208.out 1).trans rfl; have hfz6_0 := blk_frozen BK208.out 0; have hfz6_1 := blk_frozen BK208.out 1)))
    go_loopg [4, 5, 24] k (fun kq v4 v5 v24 w' => ∃ (x4_1 : List ByteArray) (x5_1 : Int) (x24_1 : Int) (x209000_1 : List (S30)) (x209001_1 : Int) (u209000 : Value), v5 = .int .i64 x5_1 ∧ v24 = .int .i64 x24_1 ∧ Aside0 (sextonlaw10_FolderHas.l0 kq x4_1 x5_1 l0 (l0.length : Int) x24_1 x209000_1 x209001_1 = some r) ∧ Aside0 (kq ≤ k) ∧ Aside0 (Kd.R Kd.string 9 w' w.heap.size (fun _ => True) v4 x4_1) ∧ Aside0 (Kd.R k30 30 w' w.heap.size (fun _ => True) u209000 x209000_1) ∧ Aside0 (w'.heap[gb208]? = some (.cells #[u209000, .int .i64 x209001_1] 24 (0, 0))) ∧ Aside0 (Below w.heap.size w w'))
    case atStart => exact ⟨(([] : List ByteArray)), (0), (0), (([] : List (S30))), (0), (.slice none 0 0), (by first | rfl | (simp; done) | (simp [*]; done)), (by first | rfl | (simp; done) | (simp [*]; done)), H', ⟨Nat.le_refl _⟩, ⟨by first | exact Kd.R_nil _ _ _ _ _ | exact Kd.N_nil _ _ _ _ _ | exact Kd.V_nil _ _ _ _ _ | exact Kd.Q_nil _ _ _ _ _ | exact Kd.S_nil _ _ _ _ _⟩, ⟨by first | exact Kd.R_nil _ _ _ _ _ | exact Kd.N_nil _ _ _ _ _ | exact Kd.V_nil _ _ _ _ _ | exact Kd.Q_nil _ _ _ _ _ | exact Kd.S_nil _ _ _ _ _⟩, ⟨by (with_reducible repeat (first | refine blk_drewN ?_ _ | refine blk_drew ?_ | refine blk_alloc ?_ _)); refine blk_put (cs := #[.slice none 0 0, .int .i64 0]) ?_ 1 _ rfl; (with_reducible repeat (first | refine blk_drewN ?_ _ | refine blk_drew ?_ | refine blk_alloc ?_ _)); refine blk_put (cs := #[.slice none 0 0, .int .i64 0]) ?_ 0 _ rfl; (with_reducible repeat (first | refine blk_drewN ?_ _ | refine blk_drew ?_ | refine blk_alloc ?_ _)); exact BK208.out⟩, ⟨by repeat (first | (with_reducible first | exact HB.out | apply below_alloc | apply pw_below_drewN | apply below_drew1 | refine below_set ?_ GE208.out) | exact HB.out)⟩⟩
    case round =>
      clear H'
      try clear c2
      try clear c2b0
      try clear c2b1
      try clear p2
      try clear c5
      try clear hcz6_0
      try clear hcz6_1
      try clear hfz6_0
      try clear hfz6_1
      obtain ⟨x4_1, x5_1, x24_1, x209000_1, x209001_1, u209000, rfl, rfl, HA, HK1, HO_4, HO_209000, BK208, HB⟩ := hrel
      cases gk with
      | zero => exact absurd HA.out (by simp [sextonlaw10_FolderHas.l0])
      | succ k1 =>
        have H := HA.out
        clear HA
        simp only [sextonlaw10_FolderHas.l0] at H
        by_cases c7 : x24_1 < (l0.length : Int)
        · rw [if_pos c7] at H
          have c7b0 : decide (x24_1 < (l0.length : Int)) = true := decide_eq_true c7
          clear c7
          by_cases c8 : 0 ≤ x24_1
          · rw [if_pos c8] at H
            have c8b0 : decide (0 ≤ x24_1) = true := decide_eq_true c8
            clear c8
            by_cases c9 : x24_1 < (l0.length : Int)
            · rw [if_pos c9] at H
              have c9b0 : decide (x24_1 < (l0.length : Int)) = true := decide_eq_true c9
              clear c9
              replace H := Option.bind_eq_some_iff.mp H
              obtain ⟨⟨t212, t215⟩, A100, H⟩ := H
              replace H : (sextonlaw10_FolderHas.l1 k1 x4_1 x5_1 (-1) l0 (l0.length : Int) x24_1 x4_1 (x4_1.length : Int) 0 t212 t215 ((rd_T55 l0 x24_1).f0) ((rd_T55 l0 x24_1).f1)) = some r := H
              have A10 := Aside0.mk A100
              clear A100
              have H' := Aside0.mk H
              clear H
              have p210 : 0 ≤ (x24_1 : Int) := of_decide_eq_true (by first | (with_reducible assumption) | assumption)
              have q210 : x24_1 < (l0.length : Int) := of_decide_eq_true (by first | (with_reducible assumption) | assumption)
              obtain ⟨ad210, e210, hx210_0, hx210_1⟩ := at_T55 HR0.out x24_1 p210 q210
              cases e210
              replace hx210_0 := (HB.out.cell (World.block_lt_of_cell? w _ hx210_0)).trans hx210_0
              replace hx210_1 := (HB.out.cell (World.block_lt_of_cell? w _ hx210_1)).trans hx210_1
              replace p210 := eq_true p210
              replace q210 := eq_true q210
              go_wp2_with (first | ((with_reducible refine gate_dst (N := 7) rfl ?_); refine box_event ?hg (N := 7) ?hd (cs := #[.int .i64 0, .string (⟨#[]⟩ : ByteArray)]) (t := 55) ?hr ?_; (case hd => rfl); (case hg => rfl); (case hr => first | (go_simp; done) | (go_simp; rfl)); intro gb211 hg w11 hbox hb; have n0_ := Aside0.mk (Kd.R_below (by (with_reducible repeat (first | apply Kd.R_alloc | apply Kd.R_drewN | apply Kd.R_drew)); exact HO_4.out) hb); have n1_ := Aside0.mk (Kd.R_below (by (with_reducible repeat (first | apply Kd.R_alloc | apply Kd.R_drewN | apply Kd.R_drew)); exact HO_209000.out) hb); have n2_ := Aside0.mk (blk_below (g := gb208) (o := .cells #[u209000, .int .i64 x209001_1] 24 (0, 0)) (by (with_reducible repeat (first | refine blk_drewN ?_ _ | refine blk_drew ?_ | refine blk_alloc ?_ _)); exact BK208.out) hb); have n3_ := Aside0.mk (below_step (by repeat (first | (with_reducible first | exact HB.out | apply below_alloc | apply pw_below_drewN | apply below_drew1 | refine below_set ?_ GE208.out) | exact HB.out)) hb); have n4_ := Aside0.mk (hbox); have n5_ := Aside0.mk ((by rw [hg]; exact (below_size (by repeat (first | (with_reducible first | exact HB.out | apply below_alloc | apply pw_below_drewN | apply below_drew1 | refine below_set ?_ GE208.out) | exact HB.out))) : w.heap.size ≤ gb211)); have n6_ := Aside0.mk ((by rw [hg]; exact (below_size (by repeat (first | (with_reducible first | exact HB.out | apply below_alloc | apply pw_below_drewN | apply below_drew1 | refine below_set ?_ GE208.out) | exact HB.out))) : w.heap.size ≤ gb211)); have n7_ := Aside0.mk ((by rw [hg]; exact Nat.ne_of_lt (blk_lt (g := gb208) (o := .cells #[u209000, .int .i64 x209001_1] 24 (0, 0)) (by (with_reducible repeat (first | refine blk_drewN ?_ _ | refine blk_drew ?_ | refine blk_alloc ?_ _)); exact BK208.out)) : gb208 ≠ gb211)); have n8_ := Aside0.mk ((by rw [hg]; exact Nat.ne_of_gt (blk_lt (g := gb208) (o := .cells #[u209000, .int .i64 x209001_1] 24 (0, 0)) (by (with_reducible repeat (first | refine blk_drewN ?_ _ | refine blk_drew ?_ | refine blk_alloc ?_ _)); exact BK208.out)) : gb211 ≠ gb208)); clear HO_4; clear HO_209000; clear BK208; clear HB; have HO_4 := n0_; have HO_209000 := n1_; have BK208 := n2_; have HB := n3_; have BK211 := n4_; have GW211 := n5_; have GE211 := n6_; have NB208_211 := n7_; have NB211_208 := n8_; clear n0_ n1_ n2_ n3_ n4_ n5_ n6_ n7_ n8_; clear hb hbox hg; have hnb12 := NB211_208.out; have hnc12 := NB208_211.out; have hcz13_0 : w11.cell? ⟨gb211, 0, none⟩ = some (.int .i64 0) := (blk_cell BK211.out 0).trans rfl; have hcz13_1 : w11.cell? ⟨gb211, 1, none⟩ = some (.string (⟨#[]⟩ : ByteArray)) := (blk_cell BK211.out 1).trans rfl; have hfz13_0 := blk_frozen BK211.out 0; have hfz13_1 := blk_frozen BK211.out 1) | ((with_reducible refine gate_store (t := 55) (p := 7) rfl ?_); (try (rw [drewN_self w11]; generalize hq_ : World.drewN w11 _ = w11; have n0_ := Aside0.mk (Kd.R_at hq_ HO_4.out); have n1_ := Aside0.mk (Kd.R_at hq_ HO_209000.out); have n2_ := Aside0.mk (blk_at hq_ BK208.out); have n3_ := Aside0.mk (blk_at hq_ BK211.out); have n4_ := Aside0.mk (below_at hq_ HB.out); clear hq_ HO_4 HO_209000 BK208 BK211 HB; have HO_4 := n0_; have HO_209000 := n1_; have BK208 := n2_; have BK211 := n3_; have HB := n4_; clear n0_ n1_ n2_ n3_ n4_)); refine store_event (t := 55) (p := 7) (v := ?vo_w14) (w1 := ((w11.setCell ⟨gb211, 0, none⟩ (.int .i64 ((rd_T55 l0 x24_1).f0))).setCell ⟨gb211, 1, none⟩ (.string ((rd_T55 l0 x24_1).f1)))) ?hg ?ho ?hn ?hr ?_; (case ho => rfl); (case hg => rfl); (case hn => rfl); (case hr => first | (go_simp; done) | (go_simp; rfl)); intro w14 hw; have n0_ : Aside0 (Kd.R Kd.string 9 w14 w.heap.size (fun _ => True) u4 x4_1) := ⟨(by rw [hw]; exact (by (with_reducible repeat (first | apply Kd.R_alloc | apply Kd.R_drewN | apply Kd.R_drew)); exact Kd.R_mono (Kd.R_far (p := ⟨gb211, 1, none⟩) (Kd.R_far (p := ⟨gb211, 0, none⟩) (Kd.R_types HO_4.out BK211.out (by decide)) (fun _ hk => hk.2) (.int .i64 ((rd_T55 l0 x24_1).f0))) (fun _ hk => hk.2) (.string ((rd_T55 l0 x24_1).f1))) (fun _ hk => trivial)))⟩; have n1_ : Aside0 (Kd.R k30 30 w14 w.heap.size (fun _ => True) u209000 x209000_1) := ⟨(by rw [hw]; exact (by (with_reducible repeat (first | apply Kd.R_alloc | apply Kd.R_drewN | apply Kd.R_drew)); exact Kd.R_mono (Kd.R_far (p := ⟨gb211, 1, none⟩) (Kd.R_far (p := ⟨gb211, 0, none⟩) (Kd.R_types HO_209000.out BK211.out (by decide)) (fun _ hk => hk.2) (.int .i64 ((rd_T55 l0 x24_1).f0))) (fun _ hk => hk.2) (.string ((rd_T55 l0 x24_1).f1))) (fun _ hk => trivial)))⟩; have n2_ : Aside0 (w14.heap[gb208]? = some (.cells #[u209000, .int .i64 x209001_1] 24 (0, 0))) := ⟨(by rw [hw]; exact (by (with_reducible repeat (first | refine blk_drewN ?_ _ | refine blk_drew ?_ | refine blk_alloc ?_ _)); refine blk_far ?_ NB208_211.out _; (with_reducible repeat (first | refine blk_drewN ?_ _ | refine blk_drew ?_ | refine blk_alloc ?_ _)); refine blk_far ?_ NB208_211.out _; (with_reducible repeat (first | refine blk_drewN ?_ _ | refine blk_drew ?_ | refine blk_alloc ?_ _)); exact BK208.out))⟩; have n3_ : Aside0 (w14.heap[gb211]? = some (.cells #[.int .i64 ((rd_T55 l0 x24_1).f0), .string ((rd_T55 l0 x24_1).f1)] 55 (0, 0))) := ⟨(by rw [hw]; exact (by (with_reducible repeat (first | refine blk_drewN ?_ _ | refine blk_drew ?_ | refine blk_alloc ?_ _)); refine blk_put (cs := #[.int .i64 ((rd_T55 l0 x24_1).f0), .string (⟨#[]⟩ : ByteArray)]) ?_ 1 _ rfl; (with_reducible repeat (first | refine blk_drewN ?_ _ | refine blk_drew ?_ | refine blk_alloc ?_ _)); refine blk_put (cs := #[.int .i64 0, .string (⟨#[]⟩ : ByteArray)]) ?_ 0 _ rfl; (with_reducible repeat (first | refine blk_drewN ?_ _ | refine blk_drew ?_ | refine blk_alloc ?_ _)); exact BK211.out))⟩; have n4_ : Aside0 (Below w.heap.size w w14) := ⟨(by rw [hw]; exact (by repeat (first | (with_reducible first | exact HB.out | apply below_alloc | apply pw_below_drewN | apply below_drew1 | refine below_set ?_ GE208.out | refine below_set ?_ GE211.out) | exact HB.out)))⟩; clear hw; clear HO_4; clear HO_209000; clear BK208; clear BK211; clear HB; have HO_4 := n0_; have HO_209000 := n1_; have BK208 := n2_; have BK211 := n3_; have HB := n4_; clear n0_ n1_ n2_ n3_ n4_; have hcz15_0 : w14.cell? ⟨gb208, 0, none⟩ = some (u209000) := (blk_cell BK208.out 0).trans rfl; have hcz15_1 : w14.cell? ⟨gb208, 1, none⟩ = some (.int .i64 x209001_1) := (blk_cell BK208.out 1).trans rfl; have hfz15_0 := blk_frozen BK208.out 0; have hfz15_1 := blk_frozen BK208.out 1; have hcz16_0 : w14.cell? ⟨gb211, 0, none⟩ = some (.int .i64 ((rd_T55 l0 x24_1).f0)) := (blk_cell BK211.out 0).trans rfl; have hcz16_1 : w14.cell? ⟨gb211, 1, none⟩ = some (.string ((rd_T55 l0 x24_1).f1)) := (blk_cell BK211.out 1).trans rfl; have hfz16_0 := blk_frozen BK211.out 0; have hfz16_1 := blk_frozen BK211.out 1; obtain ⟨Ao17, co17, eo17⟩ := Kd.R_slice HO_209000.out; subst eo17) | (go_at_call 23; (with_reducible refine (sextonlaw10_do.calls k1 (fun k_ => some k_ = (.slice Ao17 x209000_1.length co17 : Value).ownBlock) (.slice Ao17 x209000_1.length co17) x209000_1 x209001_1 ((rd_T55 l0 x24_1).f0) ((rd_T55 l0 x24_1).f1) t212 t215 w _ ?side1 ?side2 A10.out).mono ?_); (case side1 => repeat (first | (with_reducible first | exact HB.out | apply below_alloc | apply pw_below_drewN | apply below_drew1 | refine below_set ?_ GE208.out | refine below_set ?_ GE211.out) | exact HB.out)); (case side2 => exact Kd.R_tight rfl HO_209000.out); rintro e w18 ⟨v213, rfl, ho0, hb, hkp⟩; have n0_ := Aside0.mk (Kd.R_mono (ok' := fun k_ => True) (Kd.R_keptB ((Kd.R_apart' HO_4.out (Kd.R_typed HO_209000.out) (by decide))) hkp (fun k_ hk_ hs_ => (hk_.2) hs_)) (fun k_ hk_ => trivial)); have n1_ := Aside0.mk (blk_kept (by (with_reducible repeat (first | refine blk_drewN ?_ _ | refine blk_drew ?_ | refine blk_alloc ?_ _)); exact BK208.out) hkp (fun hs_ => (fun e_ => (Kd.R_ne HO_209000.out BK208.out (by decide)) e_) hs_)); have n2_ := Aside0.mk (blk_kept (by (with_reducible repeat (first | refine blk_drewN ?_ _ | refine blk_drew ?_ | refine blk_alloc ?_ _)); exact BK211.out) hkp (fun hs_ => (fun e_ => (Kd.R_ne HO_209000.out BK211.out (by decide)) e_) hs_)); have n3_ := Aside0.mk (Kd.R_mono (ok' := fun k_ => True) ho0 (fun k_ hk_ => trivial)); have n4_ := Aside0.mk (hb); clear HO_4; clear BK208; clear BK211; clear HB; clear HO_209000; have HO_4 := n0_; have BK208 := n1_; have BK211 := n2_; have HO214 := n3_; have HB := n4_; clear n0_ n1_ n2_ n3_ n4_; (try clear hb); (try clear hkp); (try clear ho0); obtain ⟨Ao19, co19, eo19⟩ := Kd.R_slice HO214.out; subst eo19; have hcz20_0 : w18.cell? ⟨gb208, 0, none⟩ = some (.slice Ao17 x209000_1.length co17) := (blk_cell BK208.out 0).trans rfl; have hcz20_1 : w18.cell? ⟨gb208, 1, none⟩ = some (.int .i64 x209001_1) := (blk_cell BK208.out 1).trans rfl; have hfz20_0 := blk_frozen BK208.out 0; have hfz20_1 := blk_frozen BK208.out 1; obtain ⟨Ao21, co21, eo21⟩ := Kd.R_slice HO_4.out; subst eo21))
              repeat (go_quiet (first | ((with_reducible refine gate_dst (N := 7) rfl ?_); refine box_event ?hg (N := 7) ?hd (cs := #[.int .i64 0, .string (⟨#[]⟩ : ByteArray)]) (t := 55) ?hr ?_; (case hd => rfl); (case hg => rfl); (case hr => first | (go_simp; done) | (go_simp; rfl)); intro gb211 hg w11 hbox hb; have n0_ := Aside0.mk (Kd.R_below (by (with_reducible repeat (first | apply Kd.R_alloc | apply Kd.R_drewN | apply Kd.R_drew)); exact HO_4.out) hb); have n1_ := Aside0.mk (Kd.R_below (by (with_reducible repeat (first | apply Kd.R_alloc | apply Kd.R_drewN | apply Kd.R_drew)); exact HO_209000.out) hb); have n2_ := Aside0.mk (blk_below (g := gb208) (o := .cells #[u209000, .int .i64 x209001_1] 24 (0, 0)) (by (with_reducible repeat (first | refine blk_drewN ?_ _ | refine blk_drew ?_ | refine blk_alloc ?_ _)); exact BK208.out) hb); have n3_ := Aside0.mk (below_step (by repeat (first | (with_reducible first | exact HB.out | apply below_alloc | apply pw_below_drewN | apply below_drew1 | refine below_set ?_ GE208.out) | exact HB.out)) hb); have n4_ := Aside0.mk (hbox); have n5_ := Aside0.mk ((by rw [hg]; exact (below_size (by repeat (first | (with_reducible first | exact HB.out | apply below_alloc | apply pw_below_drewN | apply below_drew1 | refine below_set ?_ GE208.out) | exact HB.out))) : w.heap.size ≤ gb211)); have n6_ := Aside0.mk ((by rw [hg]; exact (below_size (by repeat (first | (with_reducible first | exact HB.out | apply below_alloc | apply pw_below_drewN | apply below_drew1 | refine below_set ?_ GE208.out) | exact HB.out))) : w.heap.size ≤ gb211)); have n7_ := Aside0.mk ((by rw [hg]; exact Nat.ne_of_lt (blk_lt (g := gb208) (o := .cells #[u209000, .int .i64 x209001_1] 24 (0, 0)) (by (with_reducible repeat (first | refine blk_drewN ?_ _ | refine blk_drew ?_ | refine blk_alloc ?_ _)); exact BK208.out)) : gb208 ≠ gb211)); have n8_ := Aside0.mk ((by rw [hg]; exact Nat.ne_of_gt (blk_lt (g := gb208) (o := .cells #[u209000, .int .i64 x209001_1] 24 (0, 0)) (by (with_reducible repeat (first | refine blk_drewN ?_ _ | refine blk_drew ?_ | refine blk_alloc ?_ _)); exact BK208.out)) : gb211 ≠ gb208)); clear HO_4; clear HO_209000; clear BK208; clear HB; have HO_4 := n0_; have HO_209000 := n1_; have BK208 := n2_; have HB := n3_; have BK211 := n4_; have GW211 := n5_; have GE211 := n6_; have NB208_211 := n7_; have NB211_208 := n8_; clear n0_ n1_ n2_ n3_ n4_ n5_ n6_ n7_ n8_; clear hb hbox hg; have hnb12 := NB211_208.out; have hnc12 := NB208_211.out; have hcz13_0 : w11.cell? ⟨gb211, 0, none⟩ = some (.int .i64 0) := (blk_cell BK211.out 0).trans rfl; have hcz13_1 : w11.cell? ⟨gb211, 1, none⟩ = some (.string (⟨#[]⟩ : ByteArray)) := (blk_cell BK211.out 1).trans rfl; have hfz13_0 := blk_frozen BK211.out 0; have hfz13_1 := blk_frozen BK211.out 1) | ((with_reducible refine gate_store (t := 55) (p := 7) rfl ?_); (try (rw [drewN_self w11]; generalize hq_ : World.drewN w11 _ = w11; have n0_ := Aside0.mk (Kd.R_at hq_ HO_4.out); have n1_ := Aside0.mk (Kd.R_at hq_ HO_209000.out); have n2_ := Aside0.mk (blk_at hq_ BK208.out); have n3_ := Aside0.mk (blk_at hq_ BK211.out); have n4_ := Aside0.mk (below_at hq_ HB.out); clear hq_ HO_4 HO_209000 BK208 BK211 HB; have HO_4 := n0_; have HO_209000 := n1_; have BK208 := n2_; have BK211 := n3_; have HB := n4_; clear n0_ n1_ n2_ n3_ n4_)); refine store_event (t := 55) (p := 7) (v := ?vo_w14) (w1 := ((w11.setCell ⟨gb211, 0, none⟩ (.int .i64 ((rd_T55 l0 x24_1).f0))).setCell ⟨gb211, 1, none⟩ (.string ((rd_T55 l0 x24_1).f1)))) ?hg ?ho ?hn ?hr ?_; (case ho => rfl); (case hg => rfl); (case hn => rfl); (case hr => first | (go_simp; done) | (go_simp; rfl)); intro w14 hw; have n0_ : Aside0 (Kd.R Kd.string 9 w14 w.heap.size (fun _ => True) u4 x4_1) := ⟨(by rw [hw]; exact (by (with_reducible repeat (first | apply Kd.R_alloc | apply Kd.R_drewN | apply Kd.R_drew)); exact Kd.R_mono (Kd.R_far (p := ⟨gb211, 1, none⟩) (Kd.R_far (p := ⟨gb211, 0, none⟩) (Kd.R_types HO_4.out BK211.out (by decide)) (fun _ hk => hk.2) (.int .i64 ((rd_T55 l0 x24_1).f0))) (fun _ hk => hk.2) (.string ((rd_T55 l0 x24_1).f1))) (fun _ hk => trivial)))⟩; have n1_ : Aside0 (Kd.R k30 30 w14 w.heap.size (fun _ => True) u209000 x209000_1) := ⟨(by rw [hw]; exact (by (with_reducible repeat (first | apply Kd.R_alloc | apply Kd.R_drewN | apply Kd.R_drew)); exact Kd.R_mono (Kd.R_far (p := ⟨gb211, 1, none⟩) (Kd.R_far (p := ⟨gb211, 0, none⟩) (Kd.R_types HO_209000.out BK211.out (by decide)) (fun _ hk => hk.2) (.int .i64 ((rd_T55 l0 x24_1).f0))) (fun _ hk => hk.2) (.string ((rd_T55 l0 x24_1).f1))) (fun _ hk => trivial)))⟩; have n2_ : Aside0 (w14.heap[gb208]? = some (.cells #[u209000, .int .i64 x209001_1] 24 (0, 0))) := ⟨(by rw [hw]; exact (by (with_reducible repeat (first | refine blk_drewN ?_ _ | refine blk_drew ?_ | refine blk_alloc ?_ _)); refine blk_far ?_ NB208_211.out _; (with_reducible repeat (first | refine blk_drewN ?_ _ | refine blk_drew ?_ | refine blk_alloc ?_ _)); refine blk_far ?_ NB208_211.out _; (with_reducible repeat (first | refine blk_drewN ?_ _ | refine blk_drew ?_ | refine blk_alloc ?_ _)); exact BK208.out))⟩; have n3_ : Aside0 (w14.heap[gb211]? = some (.cells #[.int .i64 ((rd_T55 l0 x24_1).f0), .string ((rd_T55 l0 x24_1).f1)] 55 (0, 0))) := ⟨(by rw [hw]; exact (by (with_reducible repeat (first | refine blk_drewN ?_ _ | refine blk_drew ?_ | refine blk_alloc ?_ _)); refine blk_put (cs := #[.int .i64 ((rd_T55 l0 x24_1).f0), .string (⟨#[]⟩ : ByteArray)]) ?_ 1 _ rfl; (with_reducible repeat (first | refine blk_drewN ?_ _ | refine blk_drew ?_ | refine blk_alloc ?_ _)); refine blk_put (cs := #[.int .i64 0, .string (⟨#[]⟩ : ByteArray)]) ?_ 0 _ rfl; (with_reducible repeat (first | refine blk_drewN ?_ _ | refine blk_drew ?_ | refine blk_alloc ?_ _)); exact BK211.out))⟩; have n4_ : Aside0 (Below w.heap.size w w14) := ⟨(by rw [hw]; exact (by repeat (first | (with_reducible first | exact HB.out | apply below_alloc | apply pw_below_drewN | apply below_drew1 | refine below_set ?_ GE208.out | refine below_set ?_ GE211.out) | exact HB.out)))⟩; clear hw; clear HO_4; clear HO_209000; clear BK208; clear BK211; clear HB; have HO_4 := n0_; have HO_209000 := n1_; have BK208 := n2_; have BK211 := n3_; have HB := n4_; clear n0_ n1_ n2_ n3_ n4_; have hcz15_0 : w14.cell? ⟨gb208, 0, none⟩ = some (u209000) := (blk_cell BK208.out 0).trans rfl; have hcz15_1 : w14.cell? ⟨gb208, 1, none⟩ = some (.int .i64 x209001_1) := (blk_cell BK208.out 1).trans rfl; have hfz15_0 := blk_frozen BK208.out 0; have hfz15_1 := blk_frozen BK208.out 1; have hcz16_0 : w14.cell? ⟨gb211, 0, none⟩ = some (.int .i64 ((rd_T55 l0 x24_1).f0)) := (blk_cell BK211.out 0).trans rfl; have hcz16_1 : w14.cell? ⟨gb211, 1, none⟩ = some (.string ((rd_T55 l0 x24_1).f1)) := (blk_cell BK211.out 1).trans rfl; have hfz16_0 := blk_frozen BK211.out 0; have hfz16_1 := blk_frozen BK211.out 1; obtain ⟨Ao17, co17, eo17⟩ := Kd.R_slice HO_209000.out; subst eo17) | (go_at_call 23; (with_reducible refine (sextonlaw10_do.calls k1 (fun k_ => some k_ = (.slice Ao17 x209000_1.length co17 : Value).ownBlock) (.slice Ao17 x209000_1.length co17) x209000_1 x209001_1 ((rd_T55 l0 x24_1).f0) ((rd_T55 l0 x24_1).f1) t212 t215 w _ ?side1 ?side2 A10.out).mono ?_); (case side1 => repeat (first | (with_reducible first | exact HB.out | apply below_alloc | apply pw_below_drewN | apply below_drew1 | refine below_set ?_ GE208.out | refine below_set ?_ GE211.out) | exact HB.out)); (case side2 => exact Kd.R_tight rfl HO_209000.out); rintro e w18 ⟨v213, rfl, ho0, hb, hkp⟩; have n0_ := Aside0.mk (Kd.R_mono (ok' := fun k_ => True) (Kd.R_keptB ((Kd.R_apart' HO_4.out (Kd.R_typed HO_209000.out) (by decide))) hkp (fun k_ hk_ hs_ => (hk_.2) hs_)) (fun k_ hk_ => trivial)); have n1_ := Aside0.mk (blk_kept (by (with_reducible repeat (first | refine blk_drewN ?_ _ | refine blk_drew ?_ | refine blk_alloc ?_ _)); exact BK208.out) hkp (fun hs_ => (fun e_ => (Kd.R_ne HO_209000.out BK208.out (by decide)) e_) hs_)); have n2_ := Aside0.mk (blk_kept (by (with_reducible repeat (first | refine blk_drewN ?_ _ | refine blk_drew ?_ | refine blk_alloc ?_ _)); exact BK211.out) hkp (fun hs_ => (fun e_ => (Kd.R_ne HO_209000.out BK211.out (by decide)) e_) hs_)); have n3_ := Aside0.mk (Kd.R_mono (ok' := fun k_ => True) ho0 (fun k_ hk_ => trivial)); have n4_ := Aside0.mk (hb); clear HO_4; clear BK208; clear BK211; clear HB; clear HO_209000; have HO_4 := n0_; have BK208 := n1_; have BK211 := n2_; have HO214 := n3_; have HB := n4_; clear n0_ n1_ n2_ n3_ n4_; (try clear hb); (try clear hkp); (try clear ho0); obtain ⟨Ao19, co19, eo19⟩ := Kd.R_slice HO214.out; subst eo19; have hcz20_0 : w18.cell? ⟨gb208, 0, none⟩ = some (.slice Ao17 x209000_1.length co17) := (blk_cell BK208.out 0).trans rfl; have hcz20_1 : w18.cell? ⟨gb208, 1, none⟩ = some (.int .i64 x209001_1) := (blk_cell BK208.out 1).trans rfl; have hfz20_0 := blk_frozen BK208.out 0; have hfz20_1 := blk_frozen BK208.out 1; obtain ⟨Ao21, co21, eo21⟩ := Kd.R_slice HO_4.out; subst eo21)); try go_wp2_with (first | ((with_reducible refine gate_dst (N := 7) rfl ?_); refine box_event ?hg (N := 7) ?hd (cs := #[.int .i64 0, .string (⟨#[]⟩ : ByteArray)]) (t := 55) ?hr ?_; (case hd => rfl); (case hg => rfl); (case hr => first | (go_simp; done) | (go_simp; rfl)); intro gb211 hg w11 hbox hb; have n0_ := Aside0.mk (Kd.R_below (by (with_reducible repeat (first | apply Kd.R_alloc | apply Kd.R_drewN | apply Kd.R_drew)); exact HO_4.out) hb); have n1_ := Aside0.mk (Kd.R_below (by (with_reducible repeat (first | apply Kd.R_alloc | apply Kd.R_drewN | apply Kd.R_drew)); exact HO_209000.out) hb); have n2_ := Aside0.mk (blk_below (g := gb208) (o := .cells #[u209000, .int .i64 x209001_1] 24 (0, 0)) (by (with_reducible repeat (first | refine blk_drewN ?_ _ | refine blk_drew ?_ | refine blk_alloc ?_ _)); exact BK208.out) hb); have n3_ := Aside0.mk (below_step (by repeat (first | (with_reducible first | exact HB.out | apply below_alloc | apply pw_below_drewN | apply below_drew1 | refine below_set ?_ GE208.out) | exact HB.out)) hb); have n4_ := Aside0.mk (hbox); have n5_ := Aside0.mk ((by rw [hg]; exact (below_size (by repeat (first | (with_reducible first | exact HB.out | apply below_alloc | apply pw_below_drewN | apply below_drew1 | refine below_set ?_ GE208.out) | exact HB.out))) : w.heap.size ≤ gb211)); have n6_ := Aside0.mk ((by rw [hg]; exact (below_size (by repeat (first | (with_reducible first | exact HB.out | apply below_alloc | apply pw_below_drewN | apply below_drew1 | refine below_set ?_ GE208.out) | exact HB.out))) : w.heap.size ≤ gb211)); have n7_ := Aside0.mk ((by rw [hg]; exact Nat.ne_of_lt (blk_lt (g := gb208) (o := .cells #[u209000, .int .i64 x209001_1] 24 (0, 0)) (by (with_reducible repeat (first | refine blk_drewN ?_ _ | refine blk_drew ?_ | refine blk_alloc ?_ _)); exact BK208.out)) : gb208 ≠ gb211)); have n8_ := Aside0.mk ((by rw [hg]; exact Nat.ne_of_gt (blk_lt (g := gb208) (o := .cells #[u209000, .int .i64 x209001_1] 24 (0, 0)) (by (with_reducible repeat (first | refine blk_drewN ?_ _ | refine blk_drew ?_ | refine blk_alloc ?_ _)); exact BK208.out)) : gb211 ≠ gb208)); clear HO_4; clear HO_209000; clear BK208; clear HB; have HO_4 := n0_; have HO_209000 := n1_; have BK208 := n2_; have HB := n3_; have BK211 := n4_; have GW211 := n5_; have GE211 := n6_; have NB208_211 := n7_; have NB211_208 := n8_; clear n0_ n1_ n2_ n3_ n4_ n5_ n6_ n7_ n8_; clear hb hbox hg; have hnb12 := NB211_208.out; have hnc12 := NB208_211.out; have hcz13_0 : w11.cell? ⟨gb211, 0, none⟩ = some (.int .i64 0) := (blk_cell BK211.out 0).trans rfl; have hcz13_1 : w11.cell? ⟨gb211, 1, none⟩ = some (.string (⟨#[]⟩ : ByteArray)) := (blk_cell BK211.out 1).trans rfl; have hfz13_0 := blk_frozen BK211.out 0; have hfz13_1 := blk_frozen BK211.out 1) | ((with_reducible refine gate_store (t := 55) (p := 7) rfl ?_); (try (rw [drewN_self w11]; generalize hq_ : World.drewN w11 _ = w11; have n0_ := Aside0.mk (Kd.R_at hq_ HO_4.out); have n1_ := Aside0.mk (Kd.R_at hq_ HO_209000.out); have n2_ := Aside0.mk (blk_at hq_ BK208.out); have n3_ := Aside0.mk (blk_at hq_ BK211.out); have n4_ := Aside0.mk (below_at hq_ HB.out); clear hq_ HO_4 HO_209000 BK208 BK211 HB; have HO_4 := n0_; have HO_209000 := n1_; have BK208 := n2_; have BK211 := n3_; have HB := n4_; clear n0_ n1_ n2_ n3_ n4_)); refine store_event (t := 55) (p := 7) (v := ?vo_w14) (w1 := ((w11.setCell ⟨gb211, 0, none⟩ (.int .i64 ((rd_T55 l0 x24_1).f0))).setCell ⟨gb211, 1, none⟩ (.string ((rd_T55 l0 x24_1).f1)))) ?hg ?ho ?hn ?hr ?_; (case ho => rfl); (case hg => rfl); (case hn => rfl); (case hr => first | (go_simp; done) | (go_simp; rfl)); intro w14 hw; have n0_ : Aside0 (Kd.R Kd.string 9 w14 w.heap.size (fun _ => True) u4 x4_1) := ⟨(by rw [hw]; exact (by (with_reducible repeat (first | apply Kd.R_alloc | apply Kd.R_drewN | apply Kd.R_drew)); exact Kd.R_mono (Kd.R_far (p := ⟨gb211, 1, none⟩) (Kd.R_far (p := ⟨gb211, 0, none⟩) (Kd.R_types HO_4.out BK211.out (by decide)) (fun _ hk => hk.2) (.int .i64 ((rd_T55 l0 x24_1).f0))) (fun _ hk => hk.2) (.string ((rd_T55 l0 x24_1).f1))) (fun _ hk => trivial)))⟩; have n1_ : Aside0 (Kd.R k30 30 w14 w.heap.size (fun _ => True) u209000 x209000_1) := ⟨(by rw [hw]; exact (by (with_reducible repeat (first | apply Kd.R_alloc | apply Kd.R_drewN | apply Kd.R_drew)); exact Kd.R_mono (Kd.R_far (p := ⟨gb211, 1, none⟩) (Kd.R_far (p := ⟨gb211, 0, none⟩) (Kd.R_types HO_209000.out BK211.out (by decide)) (fun _ hk => hk.2) (.int .i64 ((rd_T55 l0 x24_1).f0))) (fun _ hk => hk.2) (.string ((rd_T55 l0 x24_1).f1))) (fun _ hk => trivial)))⟩; have n2_ : Aside0 (w14.heap[gb208]? = some (.cells #[u209000, .int .i64 x209001_1] 24 (0, 0))) := ⟨(by rw [hw]; exact (by (with_reducible repeat (first | refine blk_drewN ?_ _ | refine blk_drew ?_ | refine blk_alloc ?_ _)); refine blk_far ?_ NB208_211.out _; (with_reducible repeat (first | refine blk_drewN ?_ _ | refine blk_drew ?_ | refine blk_alloc ?_ _)); refine blk_far ?_ NB208_211.out _; (with_reducible repeat (first | refine blk_drewN ?_ _ | refine blk_drew ?_ | refine blk_alloc ?_ _)); exact BK208.out))⟩; have n3_ : Aside0 (w14.heap[gb211]? = some (.cells #[.int .i64 ((rd_T55 l0 x24_1).f0), .string ((rd_T55 l0 x24_1).f1)] 55 (0, 0))) := ⟨(by rw [hw]; exact (by (with_reducible repeat (first | refine blk_drewN ?_ _ | refine blk_drew ?_ | refine blk_alloc ?_ _)); refine blk_put (cs := #[.int .i64 ((rd_T55 l0 x24_1).f0), .string (⟨#[]⟩ : ByteArray)]) ?_ 1 _ rfl; (with_reducible repeat (first | refine blk_drewN ?_ _ | refine blk_drew ?_ | refine blk_alloc ?_ _)); refine blk_put (cs := #[.int .i64 0, .string (⟨#[]⟩ : ByteArray)]) ?_ 0 _ rfl; (with_reducible repeat (first | refine blk_drewN ?_ _ | refine blk_drew ?_ | refine blk_alloc ?_ _)); exact BK211.out))⟩; have n4_ : Aside0 (Below w.heap.size w w14) := ⟨(by rw [hw]; exact (by repeat (first | (with_reducible first | exact HB.out | apply below_alloc | apply pw_below_drewN | apply below_drew1 | refine below_set ?_ GE208.out | refine below_set ?_ GE211.out) | exact HB.out)))⟩; clear hw; clear HO_4; clear HO_209000; clear BK208; clear BK211; clear HB; have HO_4 := n0_; have HO_209000 := n1_; have BK208 := n2_; have BK211 := n3_; have HB := n4_; clear n0_ n1_ n2_ n3_ n4_; have hcz15_0 : w14.cell? ⟨gb208, 0, none⟩ = some (u209000) := (blk_cell BK208.out 0).trans rfl; have hcz15_1 : w14.cell? ⟨gb208, 1, none⟩ = some (.int .i64 x209001_1) := (blk_cell BK208.out 1).trans rfl; have hfz15_0 := blk_frozen BK208.out 0; have hfz15_1 := blk_frozen BK208.out 1; have hcz16_0 : w14.cell? ⟨gb211, 0, none⟩ = some (.int .i64 ((rd_T55 l0 x24_1).f0)) := (blk_cell BK211.out 0).trans rfl; have hcz16_1 : w14.cell? ⟨gb211, 1, none⟩ = some (.string ((rd_T55 l0 x24_1).f1)) := (blk_cell BK211.out 1).trans rfl; have hfz16_0 := blk_frozen BK211.out 0; have hfz16_1 := blk_frozen BK211.out 1; obtain ⟨Ao17, co17, eo17⟩ := Kd.R_slice HO_209000.out; subst eo17) | (go_at_call 23; (with_reducible refine (sextonlaw10_do.calls k1 (fun k_ => some k_ = (.slice Ao17 x209000_1.length co17 : Value).ownBlock) (.slice Ao17 x209000_1.length co17) x209000_1 x209001_1 ((rd_T55 l0 x24_1).f0) ((rd_T55 l0 x24_1).f1) t212 t215 w _ ?side1 ?side2 A10.out).mono ?_); (case side1 => repeat (first | (with_reducible first | exact HB.out | apply below_alloc | apply pw_below_drewN | apply below_drew1 | refine below_set ?_ GE208.out | refine below_set ?_ GE211.out) | exact HB.out)); (case side2 => exact Kd.R_tight rfl HO_209000.out); rintro e w18 ⟨v213, rfl, ho0, hb, hkp⟩; have n0_ := Aside0.mk (Kd.R_mono (ok' := fun k_ => True) (Kd.R_keptB ((Kd.R_apart' HO_4.out (Kd.R_typed HO_209000.out) (by decide))) hkp (fun k_ hk_ hs_ => (hk_.2) hs_)) (fun k_ hk_ => trivial)); have n1_ := Aside0.mk (blk_kept (by (with_reducible repeat (first | refine blk_drewN ?_ _ | refine blk_drew ?_ | refine blk_alloc ?_ _)); exact BK208.out) hkp (fun hs_ => (fun e_ => (Kd.R_ne HO_209000.out BK208.out (by decide)) e_) hs_)); have n2_ := Aside0.mk (blk_kept (by (with_reducible repeat (first | refine blk_drewN ?_ _ | refine blk_drew ?_ | refine blk_alloc ?_ _)); exact BK211.out) hkp (fun hs_ => (fun e_ => (Kd.R_ne HO_209000.out BK211.out (by decide)) e_) hs_)); have n3_ := Aside0.mk (Kd.R_mono (ok' := fun k_ => True) ho0 (fun k_ hk_ => trivial)); have n4_ := Aside0.mk (hb); clear HO_4; clear BK208; clear BK211; clear HB; clear HO_209000; have HO_4 := n0_; have BK208 := n1_; have BK211 := n2_; have HO214 := n3_; have HB := n4_; clear n0_ n1_ n2_ n3_ n4_; (try clear hb); (try clear hkp); (try clear ho0); obtain ⟨Ao19, co19, eo19⟩ := Kd.R_slice HO214.out; subst eo19; have hcz20_0 : w18.cell? ⟨gb208, 0, none⟩ = some (.slice Ao17 x209000_1.length co17) := (blk_cell BK208.out 0).trans rfl; have hcz20_1 : w18.cell? ⟨gb208, 1, none⟩ = some (.int .i64 x209001_1) := (blk_cell BK208.out 1).trans rfl; have hfz20_0 := blk_frozen BK208.out 0; have hfz20_1 := blk_frozen BK208.out 1; obtain ⟨Ao21, co21, eo21⟩ := Kd.R_slice HO_4.out; subst eo21)))
              go_loopg [8, 33] k1 (fun kq v8 v33 w' => ∃ (x8_2 : Int) (x33_2 : Int), v8 = .int .i64 x8_2 ∧ v33 = .int .i64 x33_2 ∧ Aside0 (sextonlaw10_FolderHas.l1 kq x4_1 x5_1 x8_2 l0 (l0.length : Int) x24_1 x4_1 (x4_1.length : Int) x33_2 t212 t215 ((rd_T55 l0 x24_1).f0) ((rd_T55 l0 x24_1).f1) = some r) ∧ Aside0 (kq ≤ k1) ∧ Aside0 (Kd.R Kd.string 9 w' w.heap.size (fun _ => True) (.slice Ao21 x4_1.length co21) x4_1) ∧ Aside0 (Kd.R Kd.string 9 w' w.heap.size (fun _ => True) (.slice Ao21 x4_1.length co21) x4_1) ∧ Aside0 (Kd.R k30 30 w' w.heap.size (fun _ => True) (.slice Ao19 t212.length co19) t212) ∧ Aside0 (w'.heap[gb208]? = some (.cells #[(.slice Ao19 t212.length co19), .int .i64 t215] 24 (0, 0))) ∧ Aside0 (w'.heap[gb211]? = some (.cells #[.int .i64 ((rd_T55 l0 x24_1).f0), .string ((rd_T55 l0 x24_1).f1)] 55 (0, 0))) ∧ Aside0 (Below w.heap.size w w'))
              case atStart => exact ⟨((-1)), (0), (by first | rfl | (simp; done) | (simp [*]; done)), (by first | rfl | (simp; done) | (simp [*]; done)), H', ⟨Nat.le_refl _⟩, ⟨by (with_reducible repeat (first | apply Kd.R_alloc | apply Kd.R_drewN | apply Kd.R_drew)); exact Kd.R_mono (Kd.R_far (p := ⟨gb208, 1, none⟩) (Kd.R_far (p := ⟨gb208, 0, none⟩) (Kd.R_types HO_4.out BK208.out (by decide)) (fun _ hk => hk.2) (.slice Ao19 t212.length co19)) (fun _ hk => hk.2) (.int .i64 t215)) (fun _ hk => trivial)⟩, ⟨by (with_reducible repeat (first | apply Kd.R_alloc | apply Kd.R_drewN | apply Kd.R_drew)); exact Kd.R_mono (Kd.R_far (p := ⟨gb208, 1, none⟩) (Kd.R_far (p := ⟨gb208, 0, none⟩) (Kd.R_types HO_4.out BK208.out (by decide)) (fun _ hk => hk.2) (.slice Ao19 t212.length co19)) (fun _ hk => hk.2) (.int .i64 t215)) (fun _ hk => trivial)⟩, ⟨by (with_reducible repeat (first | apply Kd.R_alloc | apply Kd.R_drewN | apply Kd.R_drew)); exact Kd.R_mono (Kd.R_far (p := ⟨gb208, 1, none⟩) (Kd.R_far (p := ⟨gb208, 0, none⟩) (Kd.R_types HO214.out BK208.out (by decide)) (fun _ hk => hk.2) (.slice Ao19 t212.length co19)) (fun _ hk => hk.2) (.int .i64 t215)) (fun _ hk => trivial)⟩, ⟨by (with_reducible repeat (first | refine blk_drewN ?_ _ | refine blk_drew ?_ | refine blk_alloc ?_ _)); refine blk_put (cs := #[.slice Ao19 t212.length co19, .int .i64 x209001_1]) ?_ 1 _ rfl; (with_reducible repeat (first | refine blk_drewN ?_ _ | refine blk_drew ?_ | refine blk_alloc ?_ _)); refine blk_put (cs := #[.slice Ao17 x209000_1.length co17, .int .i64 x209001_1]) ?_ 0 _ rfl; (with_reducible repeat (first | refine blk_drewN ?_ _ | refine blk_drew ?_ | refine blk_alloc ?_ _)); exact BK208.out⟩, ⟨by (with_reducible repeat (first | refine blk_drewN ?_ _ | refine blk_drew ?_ | refine blk_alloc ?_ _)); refine blk_far ?_ NB211_208.out _; (with_reducible repeat (first | refine blk_drewN ?_ _ | refine blk_drew ?_ | refine blk_alloc ?_ _)); refine blk_far ?_ NB211_208.out _; (with_reducible repeat (first | refine blk_drewN ?_ _ | refine blk_drew ?_ | refine blk_alloc ?_ _)); exact BK211.out⟩, ⟨by repeat (first | (with_reducible first | exact HB.out | apply below_alloc | apply pw_below_drewN | apply below_drew1 | refine below_set ?_ GE208.out | refine below_set ?_ GE211.out) | exact HB.out)⟩⟩
              case round =>
                clear H'
                try clear c1
                try clear c2
                try clear c2b0
                try clear c2b1
                try clear p2
                try clear q2
                try clear hx2
                try clear c5
                try clear c7
                try clear c7b0
                try clear c8
                try clear c8b0
                try clear c9
                try clear c9b0
                try clear c12
                try clear p21
                try clear q21
                try clear hx21
                try clear hcz13_0
                try clear hcz13_1
                try clear hcz15_0
                try clear hcz15_1
                try clear hcz16_0
                try clear hcz16_1
                try clear hcz20_0
                try clear hcz20_1
                try clear hcz6_0
                try clear hcz6_1
                try clear hfz13_0
                try clear hfz13_1
                try clear hfz15_0
                try clear hfz15_1
                try clear hfz16_0
                try clear hfz16_1
                try clear hfz20_0
                try clear hfz20_1
                try clear hfz6_0
                try clear hfz6_1
                try clear hx210_0
                try clear hx210_1
                try clear p2
                try clear p210
                try clear q210
                obtain ⟨x8_2, x33_2, rfl, rfl, HA, HK2, HO_4, HO_31, HO_209000, BK208, BK211, HB⟩ := hrel
                cases gk with
                | zero => exact absurd HA.out (by simp [sextonlaw10_FolderHas.l1])
                | succ k2 =>
                  have H := HA.out
                  clear HA
                  simp only [sextonlaw10_FolderHas.l1] at H
                  by_cases c22 : x33_2 < (x4_1.length : Int)
                  · rw [if_pos c22] at H
                    have c22b0 : decide (x33_2 < (x4_1.length : Int)) = true := decide_eq_true c22
                    clear c22
                    by_cases c23 : 0 ≤ x33_2
                    · rw [if_pos c23] at H
                      have c23b0 : decide (0 ≤ x33_2) = true := decide_eq_true c23
                      clear c23
                      by_cases c24 : x33_2 < (x4_1.length : Int)
                      · rw [if_pos c24] at H
                        have c24b0 : decide (x33_2 < (x4_1.length : Int)) = true := decide_eq_true c24
                        clear c24
                        by_cases c25 : (rdOf ByteArray.empty x4_1 x33_2).toList = ((rd_T55 l0 x24_1).f1).toList
                        · rw [if_pos c25] at H
                          have c25b0 : ((rdOf ByteArray.empty x4_1 x33_2).toList == ((rd_T55 l0 x24_1).f1).toList) = true := beq_iff_eq.mpr c25
                          have c25b1 : ((rdOf ByteArray.empty x4_1 x33_2).toList != ((rd_T55 l0 x24_1).f1).toList) = false := bne_eq_false_iff_eq.mpr c25
                          clear c25
                          have H' := Aside0.mk H
                          clear H
                          have p216 : 0 ≤ (x33_2 : Int) := of_decide_eq_true (by first | (with_reducible assumption) | assumption)
                          have q216 : x33_2 < (x4_1.length : Int) := of_decide_eq_true (by first | (with_reducible assumption) | assumption)
                          obtain ⟨ad216, e216, hx216_0⟩ := Kd.at_string (Kd.R_reads' HO_31.out).2.2 x33_2 p216 q216
                          cases e216
                          replace p216 := eq_true p216
                          replace q216 := eq_true q216
                          have hnb26 := NB211_208.out
                          have hnc26 := NB208_211.out
                          have hcz27_0 : wr.cell? ⟨gb211, 0, none⟩ = some (.int .i64 ((rd_T55 l0 x24_1).f0)) := (blk_cell BK211.out 0).trans rfl
                          have hcz27_1 : wr.cell? ⟨gb211, 1, none⟩ = some (.string ((rd_T55 l0 x24_1).f1)) := (blk_cell BK211.out 1).trans rfl
                          have hfz27_0 := blk_frozen BK211.out 0
                          have hfz27_1 := blk_frozen BK211.out 1
                          go_wp2
                          repeat (go_quiet (fail); try go_wp2)
                          go_roundg k2
                          case measure => have := HK1.out; have := HK2.out; omega
                          case rel => exact ⟨(x33_2), (wrap64 (x33_2 + 1)), (by first | rfl | (simp; done) | (simp [*]; done)), (by first | rfl | (simp; done) | (simp [*]; done)), H', ⟨by have := HK1.out; have := HK2.out; omega⟩, ⟨by (with_reducible repeat (first | apply Kd.R_alloc | apply Kd.R_drewN | apply Kd.R_drew)); exact HO_4.out⟩, ⟨by (with_reducible repeat (first | apply Kd.R_alloc | apply Kd.R_drewN | apply Kd.R_drew)); exact HO_31.out⟩, ⟨by (with_reducible repeat (first | apply Kd.R_alloc | apply Kd.R_drewN | apply Kd.R_drew)); exact HO_209000.out⟩, ⟨by (with_reducible repeat (first | refine blk_drewN ?_ _ | refine blk_drew ?_ | refine blk_alloc ?_ _)); exact BK208.out⟩, ⟨by (with_reducible repeat (first | refine blk_drewN ?_ _ | refine blk_drew ?_ | refine blk_alloc ?_ _)); exact BK211.out⟩, ⟨by repeat (first | (with_reducible first | exact HB.out | apply below_alloc | apply pw_below_drewN | apply below_drew1 | refine below_set ?_ GE208.out | refine below_set ?_ GE211.out) | exact HB.out)⟩⟩
                        · rw [if_neg c25] at H
                          have c25b0 : ((rdOf ByteArray.empty x4_1 x33_2).toList == ((rd_T55 l0 x24_1).f1).toList) = false := beq_eq_false_iff_ne.mpr c25
                          have c25b1 : ((rdOf ByteArray.empty x4_1 x33_2).toList != ((rd_T55 l0 x24_1).f1).toList) = true := bne_iff_ne.mpr c25
                          have H' := Aside0.mk H
                          clear H
                          have p216 : 0 ≤ (x33_2 : Int) := of_decide_eq_true (by first | (with_reducible assumption) | assumption)
                          have q216 : x33_2 < (x4_1.length : Int) := of_decide_eq_true (by first | (with_reducible assumption) | assumption)
                          obtain ⟨ad216, e216, hx216_0⟩ := Kd.at_string (Kd.R_reads' HO_31.out).2.2 x33_2 p216 q216
                          cases e216
                          replace p216 := eq_true p216
                          replace q216 := eq_true q216
                          have hnb28 := NB211_208.out
                          have hnc28 := NB208_211.out
                          have hcz29_0 : wr.cell? ⟨gb211, 0, none⟩ = some (.int .i64 ((rd_T55 l0 x24_1).f0)) := (blk_cell BK211.out 0).trans rfl
                          have hcz29_1 : wr.cell? ⟨gb211, 1, none⟩ = some (.string ((rd_T55 l0 x24_1).f1)) := (blk_cell BK211.out 1).trans rfl
                          have hfz29_0 := blk_frozen BK211.out 0
                          have hfz29_1 := blk_frozen BK211.out 1
                          go_wp2
                          repeat (go_quiet (fail); try go_wp2)
                          go_roundg k2
                          case measure => have := HK1.out; have := HK2.out; omega
                          case rel => exact ⟨(x8_2), (wrap64 (x33_2 + 1)), (by first | rfl | (simp; done) | (simp [*]; done)), (by first | rfl | (simp; done) | (simp [*]; done)), H', ⟨by have := HK1.out; have := HK2.out; omega⟩, ⟨by (with_reducible repeat (first | apply Kd.R_alloc | apply Kd.R_drewN | apply Kd.R_drew)); exact HO_4.out⟩, ⟨by (with_reducible repeat (first | apply Kd.R_alloc | apply Kd.R_drewN | apply Kd.R_drew)); exact HO_31.out⟩, ⟨by (with_reducible repeat (first | apply Kd.R_alloc | apply Kd.R_drewN | apply Kd.R_drew)); exact HO_209000.out⟩, ⟨by (with_reducible repeat (first | refine blk_drewN ?_ _ | refine blk_drew ?_ | refine blk_alloc ?_ _)); exact BK208.out⟩, ⟨by (with_reducible repeat (first | refine blk_drewN ?_ _ | refine blk_drew ?_ | refine blk_alloc ?_ _)); exact BK211.out⟩, ⟨by repeat (first | (with_reducible first | exact HB.out | apply below_alloc | apply pw_below_drewN | apply below_drew1 | refine below_set ?_ GE208.out | refine below_set ?_ GE211.out) | exact HB.out)⟩⟩
                      · rw [if_neg c24] at H
                        exact absurd H (by simp)
                    · rw [if_neg c23] at H
                      exact absurd H (by simp)
                  · rw [if_neg c22] at H
                    have c22b0 : decide (x33_2 < (x4_1.length : Int)) = false := decide_eq_false c22
                    clear c22
                    have HC30 := Aside0.mk H
                    clear H
                    go_upto_region 17 with (fail)
                    repeat (go_quiet (fail); go_upto_region 17 with (fail))
                    go_cut [11] (fun v11 wc => ∃ (kq : Nat) (x11_29 : Bool), v11 = .bool x11_29 ∧ Aside0 (sextonlaw10_FolderHas.j2 kq x4_1 x5_1 x8_2 x11_29 l0 (l0.length : Int) x24_1 t212 t215 ((rd_T55 l0 x24_1).f0) ((rd_T55 l0 x24_1).f1) = some r) ∧ Aside0 (kq ≤ k2) ∧ Aside0 (Kd.R Kd.string 9 wc w.heap.size (fun _ => True) (.slice Ao21 x4_1.length co21) x4_1) ∧ Aside0 (Kd.R k30 30 wc w.heap.size (fun _ => True) (.slice Ao19 t212.length co19) t212) ∧ Aside0 (wc.heap[gb208]? = some (.cells #[(.slice Ao19 t212.length co19), .int .i64 t215] 24 (0, 0))) ∧ Aside0 (wc.heap[gb211]? = some (.cells #[.int .i64 ((rd_T55 l0 x24_1).f0), .string ((rd_T55 l0 x24_1).f1)] 55 (0, 0))) ∧ Aside0 (Below w.heap.size w wc))
                    case first =>
                      have H := HC30.out
                      clear HC30
                      by_cases c31 : ((rd_T55 l0 x24_1).f0) = 0
                      · rw [if_pos c31] at H
                        have c31b0 : (((rd_T55 l0 x24_1).f0) == 0) = true := beq_iff_eq.mpr c31
                        have c31b1 : (((rd_T55 l0 x24_1).f0) != 0) = false := bne_eq_false_iff_eq.mpr c31
                        clear c31
                        (first | rw [c31b0] | (simp only [i64_w, i32_w]; rw [c31b0]) | skip)
                        (try rw [c31b1])
                        have H' := Aside0.mk H
                        clear H
                        have hnb32 := NB211_208.out
                        have hnc32 := NB208_211.out
                        have hcz33_0 : wr.cell? ⟨gb211, 0, none⟩ = some (.int .i64 ((rd_T55 l0 x24_1).f0)) := (blk_cell BK211.out 0).trans rfl
                        have hcz33_1 : wr.cell? ⟨gb211, 1, none⟩ = some (.string ((rd_T55 l0 x24_1).f1)) := (blk_cell BK211.out 1).trans rfl
                        have hfz33_0 := blk_frozen BK211.out 0
                        have hfz33_1 := blk_frozen BK211.out 1
                        go_wp2
                        repeat (go_quiet (fail); try go_wp2)
                        go_meet
                        case rel => exact ⟨_, (true), (by first | rfl | (simp; done) | (simp [*]; done)), H', ⟨by have := HK1.out; have := HK2.out; first | omega | exact Nat.le_refl _⟩, ⟨by (with_reducible repeat (first | apply Kd.R_alloc | apply Kd.R_drewN | apply Kd.R_drew)); exact HO_4.out⟩, ⟨by (with_reducible repeat (first | apply Kd.R_alloc | apply Kd.R_drewN | apply Kd.R_drew)); exact HO_209000.out⟩, ⟨by (with_reducible repeat (first | refine blk_drewN ?_ _ | refine blk_drew ?_ | refine blk_alloc ?_ _)); exact BK208.out⟩, ⟨by (with_reducible repeat (first | refine blk_drewN ?_ _ | refine blk_drew ?_ | refine blk_alloc ?_ _)); exact BK211.out⟩, ⟨by repeat (first | (with_reducible first | exact HB.out | apply below_alloc | apply pw_below_drewN | apply below_drew1 | refine below_set ?_ GE208.out | refine below_set ?_ GE211.out) | exact HB.out)⟩⟩
                      · rw [if_neg c31] at H
                        have c31b0 : (((rd_T55 l0 x24_1).f0) == 0) = false := beq_eq_false_iff_ne.mpr c31
                        have c31b1 : (((rd_T55 l0 x24_1).f0) != 0) = true := bne_iff_ne.mpr c31
                        (first | rw [c31b0] | (simp only [i64_w, i32_w]; rw [c31b0]) | skip)
                        (try rw [c31b1])
                        have H' := Aside0.mk H
                        clear H
                        have hnb34 := NB211_208.out
                        have hnc34 := NB208_211.out
                        have hcz35_0 : wr.cell? ⟨gb211, 0, none⟩ = some (.int .i64 ((rd_T55 l0 x24_1).f0)) := (blk_cell BK211.out 0).trans rfl
                        have hcz35_1 : wr.cell? ⟨gb211, 1, none⟩ = some (.string ((rd_T55 l0 x24_1).f1)) := (blk_cell BK211.out 1).trans rfl
                        have hfz35_0 := blk_frozen BK211.out 0
                        have hfz35_1 := blk_frozen BK211.out 1
                        go_wp2
                        repeat (go_quiet (fail); try go_wp2)
                        go_meet
                        case rel => exact ⟨_, ((((rd_T55 l0 x24_1).f0) == 1)), (by first | rfl | (simp; done) | (simp [*]; done)), H', ⟨by have := HK1.out; have := HK2.out; first | omega | exact Nat.le_refl _⟩, ⟨by (with_reducible repeat (first | apply Kd.R_alloc | apply Kd.R_drewN | apply Kd.R_drew)); exact HO_4.out⟩, ⟨by (with_reducible repeat (first | apply Kd.R_alloc | apply Kd.R_drewN | apply Kd.R_drew)); exact HO_209000.out⟩, ⟨by (with_reducible repeat (first | refine blk_drewN ?_ _ | refine blk_drew ?_ | refine blk_alloc ?_ _)); exact BK208.out⟩, ⟨by (with_reducible repeat (first | refine blk_drewN ?_ _ | refine blk_drew ?_ | refine blk_alloc ?_ _)); exact BK211.out⟩, ⟨by repeat (first | (with_reducible first | exact HB.out | apply below_alloc | apply pw_below_drewN | apply below_drew1 | refine below_set ?_ GE208.out | refine below_set ?_ GE211.out) | exact HB.out)⟩⟩
                    case rest =>
                      clear HC30
                      try clear c1
                      try clear c2
                      try clear c2b0
                      try clear c2b1
                      try clear p2
                      try clear q2
                      try clear hx2
                      try clear c3
                      try clear c5
                      try clear p6
                      try clear c7
                      try clear c7b0
                      try clear c8
                      try clear c8b0
                      try clear c9
                      try clear c9b0
                      try clear c12
                      try clear p21
                      try clear q21
                      try clear hx21
                      try clear c22
                      try clear c22b0
                      try clear c23
                      try clear c23b0
                      try clear c24
                      try clear c24b0
                      try clear c25
                      try clear c25b0
                      try clear c25b1
                      try clear c26
                      try clear c28
                      try clear c31
                      try clear c31b0
                      try clear c31b1
                      try clear c32
                      try clear c34
                      try clear hcz13_0
                      try clear hcz13_1
                      try clear hcz15_0
                      try clear hcz15_1
                      try clear hcz16_0
                      try clear hcz16_1
                      try clear hcz20_0
                      try clear hcz20_1
                      try clear hcz27_0
                      try clear hcz27_1
                      try clear hcz29_0
                      try clear hcz29_1
                      try clear hcz33_0
                      try clear hcz33_1
                      try clear hcz35_0
                      try clear hcz35_1
                      try clear hcz6_0
                      try clear hcz6_1
                      try clear hfz13_0
                      try clear hfz13_1
                      try clear hfz15_0
                      try clear hfz15_1
                      try clear hfz16_0
                      try clear hfz16_1
                      try clear hfz20_0
                      try clear hfz20_1
                      try clear hfz27_0
                      try clear hfz27_1
                      try clear hfz29_0
                      try clear hfz29_1
                      try clear hfz33_0
                      try clear hfz33_1
                      try clear hfz35_0
                      try clear hfz35_1
                      try clear hfz6_0
                      try clear hfz6_1
                      try clear hx210_0
                      try clear hx210_1
                      try clear hx216_0
                      try clear p2
                      try clear p21
                      try clear p210
                      try clear p216
                      try clear q2
                      try clear q21
                      try clear q210
                      try clear q216
                      obtain ⟨kq, x11_29, rfl, HA, HJ29, HO_4, HO_209000, BK208, BK211, HB⟩ := hcut
                      cases kq with
                      | zero => exact absurd HA.out (by simp [sextonlaw10_FolderHas.j2])
                      | succ kj29 =>
                        have H := HA.out
                        clear HA
                        simp only [sextonlaw10_FolderHas.j2] at H
                        have HC36 := Aside0.mk H
                        clear H
                        go_upto_region 18 with (fail)
                        repeat (go_quiet (fail); go_upto_region 18 with (fail))
                        go_cut [62] (fun v62 wc => ∃ (kq : Nat) (x62_35 : Bool), v62 = .bool x62_35 ∧ Aside0 (sextonlaw10_FolderHas.j3 kq x4_1 x5_1 x8_2 x11_29 l0 (l0.length : Int) x24_1 x62_35 t212 t215 ((rd_T55 l0 x24_1).f0) ((rd_T55 l0 x24_1).f1) = some r) ∧ Aside0 (kq ≤ kj29) ∧ Aside0 (Kd.R Kd.string 9 wc w.heap.size (fun _ => True) (.slice Ao21 x4_1.length co21) x4_1) ∧ Aside0 (Kd.R k30 30 wc w.heap.size (fun _ => True) (.slice Ao19 t212.length co19) t212) ∧ Aside0 (wc.heap[gb208]? = some (.cells #[(.slice Ao19 t212.length co19), .int .i64 t215] 24 (0, 0))) ∧ Aside0 (wc.heap[gb211]? = some (.cells #[.int .i64 ((rd_T55 l0 x24_1).f0), .string ((rd_T55 l0 x24_1).f1)] 55 (0, 0))) ∧ Aside0 (Below w.heap.size w wc))
                        case first =>
                          have H := HC36.out
                          clear HC36
                          by_cases c37 : x11_29 = true
                          · subst c37
                            have H1 : (if x8_2 < 0 then ((sextonref10_Name.f kj29 ((rd_T55 l0 x24_1).f1)).bind fun t217 => (sextonlaw10_FolderHas.j3 kj29 x4_1 x5_1 x8_2 true l0 (l0.length : Int) x24_1 (t217 == 0) t212 t215 ((rd_T55 l0 x24_1).f0) ((rd_T55 l0 x24_1).f1))) else (sextonlaw10_FolderHas.j3 kj29 x4_1 x5_1 x8_2 true l0 (l0.length : Int) x24_1 false t212 t215 ((rd_T55 l0 x24_1).f0) ((rd_T55 l0 x24_1).f1))) = some r := by rw [if_pos rfl] at H; exact H
                            clear H
                            have H := H1
                            clear H1
                            by_cases c38 : x8_2 < 0
                            · rw [if_pos c38] at H
                              have c38b0 : decide (x8_2 < 0) = true := decide_eq_true c38
                              clear c38
                              (first | rw [c38b0] | (simp only [i64_w, i32_w]; rw [c38b0]) | skip)
                              (try rw [c38b1])
                              replace H := Option.bind_eq_some_iff.mp H
                              obtain ⟨t217, A390, H⟩ := H
                              replace H : (sextonlaw10_FolderHas.j3 kj29 x4_1 x5_1 x8_2 true l0 (l0.length : Int) x24_1 (t217 == 0) t212 t215 ((rd_T55 l0 x24_1).f0) ((rd_T55 l0 x24_1).f1)) = some r := H
                              have A39 := Aside0.mk A390
                              clear A390
                              have H' := Aside0.mk H
                              clear H
                              have hnb40 := NB211_208.out
                              have hnc40 := NB208_211.out
                              have hcz41_0 : wc.cell? ⟨gb211, 0, none⟩ = some (.int .i64 ((rd_T55 l0 x24_1).f0)) := (blk_cell BK211.out 0).trans rfl
                              have hcz41_1 : wc.cell? ⟨gb211, 1, none⟩ = some (.string ((rd_T55 l0 x24_1).f1)) := (blk_cell BK211.out 1).trans rfl
                              have hfz41_0 := blk_frozen BK211.out 0
                              have hfz41_1 := blk_frozen BK211.out 1
                              go_wp2_with (first | (go_at_call 14; (with_reducible refine (sextonref10_Name.calls kj29 ((rd_T55 l0 x24_1).f1) t217 _ A39.out).mono ?_); rintro e w' ⟨rfl, ⟨nd, rfl⟩⟩; (try first | exact ⟨rfl, _, World.drewN_drewN _ _ _⟩ | exact ⟨rfl, _, Eq.trans (World.drewN_drewN _ _ _) (congrArg (World.drewN _) (Nat.add_assoc _ _ _))⟩)))
                              repeat (go_quiet (first | (go_at_call 14; (with_reducible refine (sextonref10_Name.calls kj29 ((rd_T55 l0 x24_1).f1) t217 _ A39.out).mono ?_); rintro e w' ⟨rfl, ⟨nd, rfl⟩⟩; (try first | exact ⟨rfl, _, World.drewN_drewN _ _ _⟩ | exact ⟨rfl, _, Eq.trans (World.drewN_drewN _ _ _) (congrArg (World.drewN _) (Nat.add_assoc _ _ _))⟩))); try go_wp2_with (first | (go_at_call 14; (with_reducible refine (sextonref10_Name.calls kj29 ((rd_T55 l0 x24_1).f1) t217 _ A39.out).mono ?_); rintro e w' ⟨rfl, ⟨nd, rfl⟩⟩; (try first | exact ⟨rfl, _, World.drewN_drewN _ _ _⟩ | exact ⟨rfl, _, Eq.trans (World.drewN_drewN _ _ _) (congrArg (World.drewN _) (Nat.add_assoc _ _ _))⟩))))
                              go_meet
                              case rel => exact ⟨_, ((t217 == 0)), (by first | rfl | (simp; done) | (simp [*]; done)), H', ⟨by have := HK1.out; have := HK2.out; have := HJ29.out; first | omega | exact Nat.le_refl _⟩, ⟨by (with_reducible repeat (first | apply Kd.R_alloc | apply Kd.R_drewN | apply Kd.R_drew)); exact HO_4.out⟩, ⟨by (with_reducible repeat (first | apply Kd.R_alloc | apply Kd.R_drewN | apply Kd.R_drew)); exact HO_209000.out⟩, ⟨by (with_reducible repeat (first | refine blk_drewN ?_ _ | refine blk_drew ?_ | refine blk_alloc ?_ _)); exact BK208.out⟩, ⟨by (with_reducible repeat (first | refine blk_drewN ?_ _ | refine blk_drew ?_ | refine blk_alloc ?_ _)); exact BK211.out⟩, ⟨by repeat (first | (with_reducible first | exact HB.out | apply below_alloc | apply pw_below_drewN | apply below_drew1 | refine below_set ?_ GE208.out | refine below_set ?_ GE211.out) | exact HB.out)⟩⟩
                            · rw [if_neg c38] at H
                              have c38b0 : decide (x8_2 < 0) = false := decide_eq_false c38
                              clear c38
                              (first | rw [c38b0] | (simp only [i64_w, i32_w]; rw [c38b0]) | skip)
                              (try rw [c38b1])
                              have H' := Aside0.mk H
                              clear H
                              go_wp2
                              repeat (go_quiet (fail); try go_wp2)
                              go_meet
                              case rel => exact ⟨_, (false), (by first | rfl | (simp; done) | (simp [*]; done)), H', ⟨by have := HK1.out; have := HK2.out; have := HJ29.out; first | omega | exact Nat.le_refl _⟩, ⟨by (with_reducible repeat (first | apply Kd.R_alloc | apply Kd.R_drewN | apply Kd.R_drew)); exact HO_4.out⟩, ⟨by (with_reducible repeat (first | apply Kd.R_alloc | apply Kd.R_drewN | apply Kd.R_drew)); exact HO_209000.out⟩, ⟨by (with_reducible repeat (first | refine blk_drewN ?_ _ | refine blk_drew ?_ | refine blk_alloc ?_ _)); exact BK208.out⟩, ⟨by (with_reducible repeat (first | refine blk_drewN ?_ _ | refine blk_drew ?_ | refine blk_alloc ?_ _)); exact BK211.out⟩, ⟨by repeat (first | (with_reducible first | exact HB.out | apply below_alloc | apply pw_below_drewN | apply below_drew1 | refine below_set ?_ GE208.out | refine below_set ?_ GE211.out) | exact HB.out)⟩⟩
                          · replace c37 := Bool.eq_false_iff.mpr c37
                            subst c37
                            have H1 : (sextonlaw10_FolderHas.j3 kj29 x4_1 x5_1 x8_2 false l0 (l0.length : Int) x24_1 false t212 t215 ((rd_T55 l0 x24_1).f0) ((rd_T55 l0 x24_1).f1)) = some r := by rw [if_neg (show ¬ (false = true) by decide)] at H; exact H
                            clear H
                            have H := H1
                            clear H1
                            have H' := Aside0.mk H
                            clear H
                            go_wp2
                            repeat (go_quiet (fail); try go_wp2)
                            go_meet
                            case rel => exact ⟨_, (false), (by first | rfl | (simp; done) | (simp [*]; done)), H', ⟨by have := HK1.out; have := HK2.out; have := HJ29.out; first | omega | exact Nat.le_refl _⟩, ⟨by (with_reducible repeat (first | apply Kd.R_alloc | apply Kd.R_drewN | apply Kd.R_drew)); exact HO_4.out⟩, ⟨by (with_reducible repeat (first | apply Kd.R_alloc | apply Kd.R_drewN | apply Kd.R_drew)); exact HO_209000.out⟩, ⟨by (with_reducible repeat (first | refine blk_drewN ?_ _ | refine blk_drew ?_ | refine blk_alloc ?_ _)); exact BK208.out⟩, ⟨by (with_reducible repeat (first | refine blk_drewN ?_ _ | refine blk_drew ?_ | refine blk_alloc ?_ _)); exact BK211.out⟩, ⟨by repeat (first | (with_reducible first | exact HB.out | apply below_alloc | apply pw_below_drewN | apply below_drew1 | refine below_set ?_ GE208.out | refine below_set ?_ GE211.out) | exact HB.out)⟩⟩
                        case rest =>
                          clear HC36
                          try clear c1
                          try clear c2
                          try clear c2b0
                          try clear c2b1
                          try clear p2
                          try clear q2
                          try clear hx2
                          try clear c3
                          try clear c4
                          try clear c5
                          try clear p6
                          try clear c7
                          try clear c7b0
                          try clear c8
                          try clear c8b0
                          try clear c9
                          try clear c9b0
                          try clear c12
                          try clear p21
                          try clear q21
                          try clear hx21
                          try clear c22
                          try clear c22b0
                          try clear c23
                          try clear c23b0
                          try clear c24
                          try clear c24b0
                          try clear c25
                          try clear c25b0
                          try clear c25b1
                          try clear c26
                          try clear c28
                          try clear c31
                          try clear c31b0
                          try clear c31b1
                          try clear c32
                          try clear c34
                          try clear c37
                          try clear c38
                          try clear c38b0
                          try clear c40
                          try clear hcz13_0
                          try clear hcz13_1
                          try clear hcz15_0
                          try clear hcz15_1
                          try clear hcz16_0
                          try clear hcz16_1
                          try clear hcz20_0
                          try clear hcz20_1
                          try clear hcz27_0
                          try clear hcz27_1
                          try clear hcz29_0
                          try clear hcz29_1
                          try clear hcz33_0
                          try clear hcz33_1
                          try clear hcz35_0
                          try clear hcz35_1
                          try clear hcz41_0
                          try clear hcz41_1
                          try clear hcz6_0
                          try clear hcz6_1
                          try clear hfz13_0
                          try clear hfz13_1
                          try clear hfz15_0
                          try clear hfz15_1
                          try clear hfz16_0
                          try clear hfz16_1
                          try clear hfz20_0
                          try clear hfz20_1
                          try clear hfz27_0
                          try clear hfz27_1
                          try clear hfz29_0
                          try clear hfz29_1
                          try clear hfz33_0
                          try clear hfz33_1
                          try clear hfz35_0
                          try clear hfz35_1
                          try clear hfz41_0
                          try clear hfz41_1
                          try clear hfz6_0
                          try clear hfz6_1
                          try clear hx210_0
                          try clear hx210_1
                          try clear hx216_0
                          try clear p2
                          try clear p21
                          try clear p210
                          try clear p216
                          try clear p6
                          try clear q2
                          try clear q21
                          try clear q210
                          try clear q216
                          obtain ⟨kq, x62_35, rfl, HA, HJ35, HO_4, HO_209000, BK208, BK211, HB⟩ := hcut
                          cases kq with
                          | zero => exact absurd HA.out (by simp [sextonlaw10_FolderHas.j3])
                          | succ kj35 =>
                            have H := HA.out
                            clear HA
                            simp only [sextonlaw10_FolderHas.j3] at H
                            have HC42 := Aside0.mk H
                            clear H
                            go_upto_if 62 with (fail)
                            repeat (go_quiet (fail); go_upto_if 62 with (fail))
                            go_cut [4, 5] (fun v4 v5 wc => ∃ (kq : Nat) (x4_41 : List ByteArray) (x5_41 : Int), v5 = .int .i64 x5_41 ∧ Aside0 (sextonlaw10_FolderHas.j4 kq x4_41 x5_41 x8_2 x11_29 l0 (l0.length : Int) x24_1 t212 t215 = some r) ∧ Aside0 (kq ≤ kj35) ∧ Aside0 (Kd.R Kd.string 9 wc w.heap.size (fun _ => True) v4 x4_41) ∧ Aside0 (Kd.R k30 30 wc w.heap.size (fun _ => True) (.slice Ao19 t212.length co19) t212) ∧ Aside0 (wc.heap[gb208]? = some (.cells #[(.slice Ao19 t212.length co19), .int .i64 t215] 24 (0, 0))) ∧ Aside0 (wc.heap[gb211]? = some (.cells #[.int .i64 ((rd_T55 l0 x24_1).f0), .string ((rd_T55 l0 x24_1).f1)] 55 (0, 0))) ∧ Aside0 (Below w.heap.size w wc))
                            case first =>
                              have H := HC42.out
                              clear HC42
                              by_cases c43 : x62_35 = true
                              · subst c43
                                have H1 : (if x4_1.length < 8796093022208 then (sextonlaw10_FolderHas.j4 kj35 (x4_1 ++ [((rd_T55 l0 x24_1).f1)]) (wrap64 (x5_1 + 1)) x8_2 x11_29 l0 (l0.length : Int) x24_1 t212 t215) else (none)) = some r := by rw [if_pos rfl] at H; exact H
                                clear H
                                have H := H1
                                clear H1
                                by_cases c44 : x4_1.length < 8796093022208
                                · rw [if_pos c44] at H
                                  have LMc44 := Aside0.mk c44
                                  clear c44
                                  obtain ⟨y218, hy218⟩ : ∃ y_ : List ByteArray, y_ = (x4_1 ++ [((rd_T55 l0 x24_1).f1)]) := ⟨_, rfl⟩
                                  replace H : (sextonlaw10_FolderHas.j4 kj35 y218 (wrap64 (x5_1 + 1)) x8_2 x11_29 l0 (l0.length : Int) x24_1 t212 t215) = some r := by first | (rw [hy218]; with_reducible exact H) | (have H2_ := (Option.bind_some _ _).symm.trans H; rw [hy218]; with_reducible exact H2_) | (have H2_ := (Option.bind_some _ _).symm.trans H; with_reducible exact H2_) | with_reducible exact H | (rw [hy218]; exact H) | exact H
                                  have Ny218 := Aside0.mk hy218
                                  clear hy218
                                  have H' := Aside0.mk H
                                  clear H
                                  have hnb45 := NB211_208.out
                                  have hnc45 := NB208_211.out
                                  have hcz46_0 : wc.cell? ⟨gb211, 0, none⟩ = some (.int .i64 ((rd_T55 l0 x24_1).f0)) := (blk_cell BK211.out 0).trans rfl
                                  have hcz46_1 : wc.cell? ⟨gb211, 1, none⟩ = some (.string ((rd_T55 l0 x24_1).f1)) := (blk_cell BK211.out 1).trans rfl
                                  have hfz46_0 := blk_frozen BK211.out 0
                                  have hfz46_1 := blk_frozen BK211.out 1
                                  go_wp2_with (first | ((with_reducible refine gate_builtin (b := .append) (xs := #[.tmp 63, .tmp 66]) rfl ?_); at_builtin; refine Kd.R_append Kd.string (w0 := w) w.heap.size rfl (.tmp 63) (.tmp 66) 53 9 (.string ⟨#[]⟩) 16 rfl Try.underlying53 info9 rfl (by decide) (by omega) (.slice Ao21 x4_1.length co21) x4_1 ((rd_T55 l0 x24_1).f1) [.string ((rd_T55 l0 x24_1).f1)] (fun _ => True) (fun _ => False) rfl rfl ?aP (fun _ hk => hk.elim) ?aF ?aO ?aB ?aS ?aL ?_; (case aP => exact rfl); (case aB => exact (by repeat (first | (with_reducible first | exact HB.out | apply below_alloc | apply pw_below_drewN | apply below_drew1 | refine below_set ?_ GE208.out | refine below_set ?_ GE211.out) | exact HB.out))); (case aF => exact (fun _ _ => trivial)); (case aO => exact (by (with_reducible repeat (first | apply Kd.R_alloc | apply Kd.R_drewN | apply Kd.R_drew)); exact HO_4.out)); (case aS => exact (below_size (by repeat (first | (with_reducible first | exact HB.out | apply below_alloc | apply pw_below_drewN | apply below_drew1 | refine below_set ?_ GE208.out | refine below_set ?_ GE211.out) | exact HB.out)))); (case aL => have := LMc44.out; omega); intro v219 w47 ho hb hg hat; rw [← Ny218.out] at ho; have n0_ := Aside0.mk (Kd.R_over' (by (with_reducible repeat (first | apply Kd.R_alloc | apply Kd.R_drewN | apply Kd.R_drew)); exact HO_209000.out) (Kd.R_typed (by (with_reducible repeat (first | apply Kd.R_alloc | apply Kd.R_drewN | apply Kd.R_drew)); exact HO_4.out)) (by decide) hg); have n1_ := Aside0.mk (blk_grown (g := gb208) (o := .cells #[.slice Ao19 t212.length co19, .int .i64 t215] 24 (0, 0)) (by (with_reducible repeat (first | refine blk_drewN ?_ _ | refine blk_drew ?_ | refine blk_alloc ?_ _)); exact BK208.out) hg (Kd.R_ne HO_4.out BK208.out (by decide))); have n2_ := Aside0.mk (blk_grown (g := gb211) (o := .cells #[.int .i64 ((rd_T55 l0 x24_1).f0), .string ((rd_T55 l0 x24_1).f1)] 55 (0, 0)) (by (with_reducible repeat (first | refine blk_drewN ?_ _ | refine blk_drew ?_ | refine blk_alloc ?_ _)); exact BK211.out) hg (Kd.R_ne HO_4.out BK211.out (by decide))); have n3_ := Aside0.mk (hb); have n4_ := Aside0.mk (ho); clear HO_209000; clear BK208; clear BK211; clear HB; clear HO_4; have HO_209000 := n0_; have BK208 := n1_; have BK211 := n2_; have HB := n3_; have HO220 := n4_; clear n0_ n1_ n2_ n3_ n4_; clear ho hb hg hat))
                                  repeat (go_quiet (first | ((with_reducible refine gate_builtin (b := .append) (xs := #[.tmp 63, .tmp 66]) rfl ?_); at_builtin; refine Kd.R_append Kd.string (w0 := w) w.heap.size rfl (.tmp 63) (.tmp 66) 53 9 (.string ⟨#[]⟩) 16 rfl Try.underlying53 info9 rfl (by decide) (by omega) (.slice Ao21 x4_1.length co21) x4_1 ((rd_T55 l0 x24_1).f1) [.string ((rd_T55 l0 x24_1).f1)] (fun _ => True) (fun _ => False) rfl rfl ?aP (fun _ hk => hk.elim) ?aF ?aO ?aB ?aS ?aL ?_; (case aP => exact rfl); (case aB => exact (by repeat (first | (with_reducible first | exact HB.out | apply below_alloc | apply pw_below_drewN | apply below_drew1 | refine below_set ?_ GE208.out | refine below_set ?_ GE211.out) | exact HB.out))); (case aF => exact (fun _ _ => trivial)); (case aO => exact (by (with_reducible repeat (first | apply Kd.R_alloc | apply Kd.R_drewN | apply Kd.R_drew)); exact HO_4.out)); (case aS => exact (below_size (by repeat (first | (with_reducible first | exact HB.out | apply below_alloc | apply pw_below_drewN | apply below_drew1 | refine below_set ?_ GE208.out | refine below_set ?_ GE211.out) | exact HB.out)))); (case aL => have := LMc44.out; omega); intro v219 w47 ho hb hg hat; rw [← Ny218.out] at ho; have n0_ := Aside0.mk (Kd.R_over' (by (with_reducible repeat (first | apply Kd.R_alloc | apply Kd.R_drewN | apply Kd.R_drew)); exact HO_209000.out) (Kd.R_typed (by (with_reducible repeat (first | apply Kd.R_alloc | apply Kd.R_drewN | apply Kd.R_drew)); exact HO_4.out)) (by decide) hg); have n1_ := Aside0.mk (blk_grown (g := gb208) (o := .cells #[.slice Ao19 t212.length co19, .int .i64 t215] 24 (0, 0)) (by (with_reducible repeat (first | refine blk_drewN ?_ _ | refine blk_drew ?_ | refine blk_alloc ?_ _)); exact BK208.out) hg (Kd.R_ne HO_4.out BK208.out (by decide))); have n2_ := Aside0.mk (blk_grown (g := gb211) (o := .cells #[.int .i64 ((rd_T55 l0 x24_1).f0), .string ((rd_T55 l0 x24_1).f1)] 55 (0, 0)) (by (with_reducible repeat (first | refine blk_drewN ?_ _ | refine blk_drew ?_ | refine blk_alloc ?_ _)); exact BK211.out) hg (Kd.R_ne HO_4.out BK211.out (by decide))); have n3_ := Aside0.mk (hb); have n4_ := Aside0.mk (ho); clear HO_209000; clear BK208; clear BK211; clear HB; clear HO_4; have HO_209000 := n0_; have BK208 := n1_; have BK211 := n2_; have HB := n3_; have HO220 := n4_; clear n0_ n1_ n2_ n3_ n4_; clear ho hb hg hat)); try go_wp2_with (first | ((with_reducible refine gate_builtin (b := .append) (xs := #[.tmp 63, .tmp 66]) rfl ?_); at_builtin; refine Kd.R_append Kd.string (w0 := w) w.heap.size rfl (.tmp 63) (.tmp 66) 53 9 (.string ⟨#[]⟩) 16 rfl Try.underlying53 info9 rfl (by decide) (by omega) (.slice Ao21 x4_1.length co21) x4_1 ((rd_T55 l0 x24_1).f1) [.string ((rd_T55 l0 x24_1).f1)] (fun _ => True) (fun _ => False) rfl rfl ?aP (fun _ hk => hk.elim) ?aF ?aO ?aB ?aS ?aL ?_; (case aP => exact rfl); (case aB => exact (by repeat (first | (with_reducible first | exact HB.out | apply below_alloc | apply pw_below_drewN | apply below_drew1 | refine below_set ?_ GE208.out | refine below_set ?_ GE211.out) | exact HB.out))); (case aF => exact (fun _ _ => trivial)); (case aO => exact (by (with_reducible repeat (first | apply Kd.R_alloc | apply Kd.R_drewN | apply Kd.R_drew)); exact HO_4.out)); (case aS => exact (below_size (by repeat (first | (with_reducible first | exact HB.out | apply below_alloc | apply pw_below_drewN | apply below_drew1 | refine below_set ?_ GE208.out | refine below_set ?_ GE211.out) | exact HB.out)))); (case aL => have := LMc44.out; omega); intro v219 w47 ho hb hg hat; rw [← Ny218.out] at ho; have n0_ := Aside0.mk (Kd.R_over' (by (with_reducible repeat (first | apply Kd.R_alloc | apply Kd.R_drewN | apply Kd.R_drew)); exact HO_209000.out) (Kd.R_typed (by (with_reducible repeat (first | apply Kd.R_alloc | apply Kd.R_drewN | apply Kd.R_drew)); exact HO_4.out)) (by decide) hg); have n1_ := Aside0.mk (blk_grown (g := gb208) (o := .cells #[.slice Ao19 t212.length co19, .int .i64 t215] 24 (0, 0)) (by (with_reducible repeat (first | refine blk_drewN ?_ _ | refine blk_drew ?_ | refine blk_alloc ?_ _)); exact BK208.out) hg (Kd.R_ne HO_4.out BK208.out (by decide))); have n2_ := Aside0.mk (blk_grown (g := gb211) (o := .cells #[.int .i64 ((rd_T55 l0 x24_1).f0), .string ((rd_T55 l0 x24_1).f1)] 55 (0, 0)) (by (with_reducible repeat (first | refine blk_drewN ?_ _ | refine blk_drew ?_ | refine blk_alloc ?_ _)); exact BK211.out) hg (Kd.R_ne HO_4.out BK211.out (by decide))); have n3_ := Aside0.mk (hb); have n4_ := Aside0.mk (ho); clear HO_209000; clear BK208; clear BK211; clear HB; clear HO_4; have HO_209000 := n0_; have BK208 := n1_; have BK211 := n2_; have HB := n3_; have HO220 := n4_; clear n0_ n1_ n2_ n3_ n4_; clear ho hb hg hat)))
                                  go_meet
                                  case rel => exact ⟨_, (y218), (wrap64 (x5_1 + 1)), (by first | rfl | (simp; done) | (simp [*]; done)), H', ⟨by have := HK1.out; have := HK2.out; have := HJ29.out; have := HJ35.out; first | omega | exact Nat.le_refl _⟩, ⟨by (with_reducible repeat (first | apply Kd.R_alloc | apply Kd.R_drewN | apply Kd.R_drew)); exact HO220.out⟩, ⟨by (with_reducible repeat (first | apply Kd.R_alloc | apply Kd.R_drewN | apply Kd.R_drew)); exact HO_209000.out⟩, ⟨by (with_reducible repeat (first | refine blk_drewN ?_ _ | refine blk_drew ?_ | refine blk_alloc ?_ _)); exact BK208.out⟩, ⟨by (with_reducible repeat (first | refine blk_drewN ?_ _ | refine blk_drew ?_ | refine blk_alloc ?_ _)); exact BK211.out⟩, ⟨by repeat (first | (with_reducible first | exact HB.out | apply below_alloc | apply pw_below_drewN | apply below_drew1 | refine below_set ?_ GE208.out | refine below_set ?_ GE211.out) | exact HB.out)⟩⟩
                                · rw [if_neg c44] at H
                                  exact absurd H (by simp)
                              · replace c43 := Bool.eq_false_iff.mpr c43
                                subst c43
                                have H1 : (sextonlaw10_FolderHas.j4 kj35 x4_1 x5_1 x8_2 x11_29 l0 (l0.length : Int) x24_1 t212 t215) = some r := by rw [if_neg (show ¬ (false = true) by decide)] at H; exact H
                                clear H
                                have H := H1
                                clear H1
                                have H' := Aside0.mk H
                                clear H
                                go_wp2
                                repeat (go_quiet (fail); try go_wp2)
                                go_meet
                                case rel => exact ⟨_, (x4_1), (x5_1), (by first | rfl | (simp; done) | (simp [*]; done)), H', ⟨by have := HK1.out; have := HK2.out; have := HJ29.out; have := HJ35.out; first | omega | exact Nat.le_refl _⟩, ⟨by (with_reducible repeat (first | apply Kd.R_alloc | apply Kd.R_drewN | apply Kd.R_drew)); exact HO_4.out⟩, ⟨by (with_reducible repeat (first | apply Kd.R_alloc | apply Kd.R_drewN | apply Kd.R_drew)); exact HO_209000.out⟩, ⟨by (with_reducible repeat (first | refine blk_drewN ?_ _ | refine blk_drew ?_ | refine blk_alloc ?_ _)); exact BK208.out⟩, ⟨by (with_reducible repeat (first | refine blk_drewN ?_ _ | refine blk_drew ?_ | refine blk_alloc ?_ _)); exact BK211.out⟩, ⟨by repeat (first | (with_reducible first | exact HB.out | apply below_alloc | apply pw_below_drewN | apply below_drew1 | refine below_set ?_ GE208.out | refine below_set ?_ GE211.out) | exact HB.out)⟩⟩
                            case rest =>
                              clear HC42
                              try clear c1
                              try clear c2
                              try clear c2b0
                              try clear c2b1
                              try clear p2
                              try clear q2
                              try clear hx2
                              try clear c3
                              try clear c4
                              try clear c5
                              try clear p6
                              try clear c7
                              try clear c7b0
                              try clear c8
                              try clear c8b0
                              try clear c9
                              try clear c9b0
                              try clear c12
                              try clear p21
                              try clear q21
                              try clear hx21
                              try clear c22
                              try clear c22b0
                              try clear c23
                              try clear c23b0
                              try clear c24
                              try clear c24b0
                              try clear c25
                              try clear c25b0
                              try clear c25b1
                              try clear c26
                              try clear c28
                              try clear c31
                              try clear c31b0
                              try clear c31b1
                              try clear c32
                              try clear c34
                              try clear c37
                              try clear c38
                              try clear c38b0
                              try clear c40
                              try clear c43
                              try clear c44
                              try clear c45
                              try clear hcz13_0
                              try clear hcz13_1
                              try clear hcz15_0
                              try clear hcz15_1
                              try clear hcz16_0
                              try clear hcz16_1
                              try clear hcz20_0
                              try clear hcz20_1
                              try clear hcz27_0
                              try clear hcz27_1
                              try clear hcz29_0
                              try clear hcz29_1
                              try clear hcz33_0
                              try clear hcz33_1
                              try clear hcz35_0
                              try clear hcz35_1
                              try clear hcz41_0
                              try clear hcz41_1
                              try clear hcz46_0
                              try clear hcz46_1
                              try clear hcz6_0
                              try clear hcz6_1
                              try clear hfz13_0
                              try clear hfz13_1
                              try clear hfz15_0
                              try clear hfz15_1
                              try clear hfz16_0
                              try clear hfz16_1
                              try clear hfz20_0
                              try clear hfz20_1
                              try clear hfz27_0
                              try clear hfz27_1
                              try clear hfz29_0
                              try clear hfz29_1
                              try clear hfz33_0
                              try clear hfz33_1
                              try clear hfz35_0
                              try clear hfz35_1
                              try clear hfz41_0
                              try clear hfz41_1
                              try clear hfz46_0
                              try clear hfz46_1
                              try clear hfz6_0
                              try clear hfz6_1
                              try clear hx210_0
                              try clear hx210_1
                              try clear hx216_0
                              try clear p2
                              try clear p21
                              try clear p210
                              try clear p216
                              try clear p6
                              try clear q2
                              try clear q21
                              try clear q210
                              try clear q216
                              obtain ⟨kq, x4_41, x5_41, rfl, HA, HJ41, HO_4, HO_209000, BK208, BK211, HB⟩ := hcut
                              cases kq with
                              | zero => exact absurd HA.out (by simp [sextonlaw10_FolderHas.j4])
                              | succ kj41 =>
                                have H := HA.out
                                clear HA
                                simp only [sextonlaw10_FolderHas.j4] at H
                                have HC48 := Aside0.mk H
                                clear H
                                go_upto_region 21 with (fail)
                                repeat (go_quiet (fail); go_upto_region 21 with (fail))
                                go_cut [75] (fun v75 wc => ∃ (kq : Nat) (x75_47 : Bool), v75 = .bool x75_47 ∧ Aside0 (sextonlaw10_FolderHas.j5 kq x4_41 x5_41 x8_2 l0 (l0.length : Int) x24_1 x75_47 t212 t215 = some r) ∧ Aside0 (kq ≤ kj41) ∧ Aside0 (Kd.R Kd.string 9 wc w.heap.size (fun _ => True) u4 x4_41) ∧ Aside0 (Kd.R k30 30 wc w.heap.size (fun _ => True) (.slice Ao19 t212.length co19) t212) ∧ Aside0 (wc.heap[gb208]? = some (.cells #[(.slice Ao19 t212.length co19), .int .i64 t215] 24 (0, 0))) ∧ Aside0 (wc.heap[gb211]? = some (.cells #[.int .i64 ((rd_T55 l0 x24_1).f0), .string ((rd_T55 l0 x24_1).f1)] 55 (0, 0))) ∧ Aside0 (Below w.heap.size w wc))
                                case first =>
                                  have H := HC48.out
                                  clear HC48
                                  by_cases c49 : x11_29 = true
                                  · subst c49
                                    have H1 : (sextonlaw10_FolderHas.j5 kj41 x4_41 x5_41 x8_2 l0 (l0.length : Int) x24_1 false t212 t215) = some r := by rw [if_pos rfl] at H; exact H
                                    clear H
                                    have H := H1
                                    clear H1
                                    have H' := Aside0.mk H
                                    clear H
                                    go_wp2
                                    repeat (go_quiet (fail); try go_wp2)
                                    go_meet
                                    case rel => exact ⟨_, (false), (by first | rfl | (simp; done) | (simp [*]; done)), H', ⟨by have := HK1.out; have := HK2.out; have := HJ29.out; have := HJ35.out; have := HJ41.out; first | omega | exact Nat.le_refl _⟩, ⟨by (with_reducible repeat (first | apply Kd.R_alloc | apply Kd.R_drewN | apply Kd.R_drew)); exact HO_4.out⟩, ⟨by (with_reducible repeat (first | apply Kd.R_alloc | apply Kd.R_drewN | apply Kd.R_drew)); exact HO_209000.out⟩, ⟨by (with_reducible repeat (first | refine blk_drewN ?_ _ | refine blk_drew ?_ | refine blk_alloc ?_ _)); exact BK208.out⟩, ⟨by (with_reducible repeat (first | refine blk_drewN ?_ _ | refine blk_drew ?_ | refine blk_alloc ?_ _)); exact BK211.out⟩, ⟨by repeat (first | (with_reducible first | exact HB.out | apply below_alloc | apply pw_below_drewN | apply below_drew1 | refine below_set ?_ GE208.out | refine below_set ?_ GE211.out) | exact HB.out)⟩⟩
                                  · replace c49 := Bool.eq_false_iff.mpr c49
                                    subst c49
                                    have H1 : (sextonlaw10_FolderHas.j5 kj41 x4_41 x5_41 x8_2 l0 (l0.length : Int) x24_1 (decide (x8_2 ≥ 0)) t212 t215) = some r := by rw [if_neg (show ¬ (false = true) by decide)] at H; exact H
                                    clear H
                                    have H := H1
                                    clear H1
                                    have H' := Aside0.mk H
                                    clear H
                                    go_wp2
                                    repeat (go_quiet (fail); try go_wp2)
                                    go_meet
                                    case rel => exact ⟨_, (decide (x8_2 ≥ 0)), (by first | rfl | (simp; done) | (simp [*]; done)), H', ⟨by have := HK1.out; have := HK2.out; have := HJ29.out; have := HJ35.out; have := HJ41.out; first | omega | exact Nat.le_refl _⟩, ⟨by (with_reducible repeat (first | apply Kd.R_alloc | apply Kd.R_drewN | apply Kd.R_drew)); exact HO_4.out⟩, ⟨by (with_reducible repeat (first | apply Kd.R_alloc | apply Kd.R_drewN | apply Kd.R_drew)); exact HO_209000.out⟩, ⟨by (with_reducible repeat (first | refine blk_drewN ?_ _ | refine blk_drew ?_ | refine blk_alloc ?_ _)); exact BK208.out⟩, ⟨by (with_reducible repeat (first | refine blk_drewN ?_ _ | refine blk_drew ?_ | refine blk_alloc ?_ _)); exact BK211.out⟩, ⟨by repeat (first | (with_reducible first | exact HB.out | apply below_alloc | apply pw_below_drewN | apply below_drew1 | refine below_set ?_ GE208.out | refine below_set ?_ GE211.out) | exact HB.out)⟩⟩
                                case rest =>
                                  clear HC48
                                  try clear c1
                                  try clear c2
                                  try clear c2b0
                                  try clear c2b1
                                  try clear p2
                                  try clear q2
                                  try clear hx2
                                  try clear c3
                                  try clear c4
                                  try clear c5
                                  try clear p6
                                  try clear c7
                                  try clear c7b0
                                  try clear c8
                                  try clear c8b0
                                  try clear c9
                                  try clear c9b0
                                  try clear c12
                                  try clear p21
                                  try clear q21
                                  try clear hx21
                                  try clear c22
                                  try clear c22b0
                                  try clear c23
                                  try clear c23b0
                                  try clear c24
                                  try clear c24b0
                                  try clear c25
                                  try clear c25b0
                                  try clear c25b1
                                  try clear c26
                                  try clear c28
                                  try clear c31
                                  try clear c31b0
                                  try clear c31b1
                                  try clear c32
                                  try clear c34
                                  try clear c37
                                  try clear c38
                                  try clear c38b0
                                  try clear c40
                                  try clear c43
                                  try clear c44
                                  try clear c45
                                  try clear c49
                                  try clear hcz13_0
                                  try clear hcz13_1
                                  try clear hcz15_0
                                  try clear hcz15_1
                                  try clear hcz16_0
                                  try clear hcz16_1
                                  try clear hcz20_0
                                  try clear hcz20_1
                                  try clear hcz27_0
                                  try clear hcz27_1
                                  try clear hcz29_0
                                  try clear hcz29_1
                                  try clear hcz33_0
                                  try clear hcz33_1
                                  try clear hcz35_0
                                  try clear hcz35_1
                                  try clear hcz41_0
                                  try clear hcz41_1
                                  try clear hcz46_0
                                  try clear hcz46_1
                                  try clear hcz6_0
                                  try clear hcz6_1
                                  try clear hfz13_0
                                  try clear hfz13_1
                                  try clear hfz15_0
                                  try clear hfz15_1
                                  try clear hfz16_0
                                  try clear hfz16_1
                                  try clear hfz20_0
                                  try clear hfz20_1
                                  try clear hfz27_0
                                  try clear hfz27_1
                                  try clear hfz29_0
                                  try clear hfz29_1
                                  try clear hfz33_0
                                  try clear hfz33_1
                                  try clear hfz35_0
                                  try clear hfz35_1
                                  try clear hfz41_0
                                  try clear hfz41_1
                                  try clear hfz46_0
                                  try clear hfz46_1
                                  try clear hfz6_0
                                  try clear hfz6_1
                                  try clear hx210_0
                                  try clear hx210_1
                                  try clear hx216_0
                                  try clear p2
                                  try clear p21
                                  try clear p210
                                  try clear p216
                                  try clear p6
                                  try clear q2
                                  try clear q21
                                  try clear q210
                                  try clear q216
                                  obtain ⟨kq, x75_47, rfl, HA, HJ47, HO_4, HO_209000, BK208, BK211, HB⟩ := hcut
                                  cases kq with
                                  | zero => exact absurd HA.out (by simp [sextonlaw10_FolderHas.j5])
                                  | succ kj47 =>
                                    have H := HA.out
                                    clear HA
                                    simp only [sextonlaw10_FolderHas.j5] at H
                                    have HC50 := Aside0.mk H
                                    clear H
                                    go_upto_if 75 with (fail)
                                    repeat (go_quiet (fail); go_upto_if 75 with (fail))
                                    go_cut [4] (fun v4 wc => ∃ (kq : Nat) (x4_49 : List ByteArray), Aside0 (sextonlaw10_FolderHas.j6 kq x4_49 x5_41 l0 (l0.length : Int) x24_1 t212 t215 = some r) ∧ Aside0 (kq ≤ kj47) ∧ Aside0 (Kd.R Kd.string 9 wc w.heap.size (fun _ => True) v4 x4_49) ∧ Aside0 (Kd.R k30 30 wc w.heap.size (fun _ => True) (.slice Ao19 t212.length co19) t212) ∧ Aside0 (wc.heap[gb208]? = some (.cells #[(.slice Ao19 t212.length co19), .int .i64 t215] 24 (0, 0))) ∧ Aside0 (wc.heap[gb211]? = some (.cells #[.int .i64 ((rd_T55 l0 x24_1).f0), .string ((rd_T55 l0 x24_1).f1)] 55 (0, 0))) ∧ Aside0 (Below w.heap.size w wc))
                                    case first =>
                                      have H := HC50.out
                                      clear HC50
                                      by_cases c51 : x75_47 = true
                                      · subst c51
                                        have H1 : (if 0 ≤ x8_2 then (if x8_2 ≤ (x4_41.length : Int) then ((some (x4_41.take (x8_2 : Int).toNat : List ByteArray)).bind fun y221 => (if ([] : List ByteArray).length + y221.length < 8796093022208 then ((some (([] : List ByteArray) ++ y221 : List ByteArray)).bind fun y225 => (if 0 ≤ (wrap64 (x8_2 + 1)) then (if (wrap64 (x8_2 + 1)) ≤ (x4_41.length : Int) then ((some (x4_41.drop ((wrap64 (x8_2 + 1)) : Int).toNat : List ByteArray)).bind fun y228 => (if y225.length + y228.length < 8796093022208 then (sextonlaw10_FolderHas.j6 kj47 (y225 ++ y228) x5_41 l0 (l0.length : Int) x24_1 t212 t215) else (none))) else (none)) else (none))) else (none))) else (none)) else (none)) = some r := by rw [if_pos rfl] at H; exact H
                                        clear H
                                        have H := H1
                                        clear H1
                                        by_cases c52 : 0 ≤ x8_2
                                        · rw [if_pos c52] at H
                                          have c52b0 := eq_true c52
                                          have c52b1 : decide (0 ≤ x8_2) = true := decide_eq_true c52
                                          clear c52
                                          by_cases c53 : x8_2 ≤ (x4_41.length : Int)
                                          · rw [if_pos c53] at H
                                            have c53b0 := eq_true c53
                                            have c53b1 : decide (x8_2 ≤ (x4_41.length : Int)) = true := decide_eq_true c53
                                            clear c53
                                            obtain ⟨y221, hy221⟩ : ∃ y_ : List ByteArray, y_ = (x4_41.take (x8_2 : Int).toNat) := ⟨_, rfl⟩
                                            replace H : (if ([] : List ByteArray).length + y221.length < 8796093022208 then ((some (([] : List ByteArray) ++ y221 : List ByteArray)).bind fun y225 => (if 0 ≤ (wrap64 (x8_2 + 1)) then (if (wrap64 (x8_2 + 1)) ≤ (x4_41.length : Int) then ((some (x4_41.drop ((wrap64 (x8_2 + 1)) : Int).toNat : List ByteArray)).bind fun y228 => (if y225.length + y228.length < 8796093022208 then (sextonlaw10_FolderHas.j6 kj47 (y225 ++ y228) x5_41 l0 (l0.length : Int) x24_1 t212 t215) else (none))) else (none)) else (none))) else (none)) = some r := by first | (rw [hy221]; with_reducible exact H) | (have H2_ := (Option.bind_some _ _).symm.trans H; rw [hy221]; with_reducible exact H2_) | (have H2_ := (Option.bind_some _ _).symm.trans H; with_reducible exact H2_) | with_reducible exact H | (rw [hy221]; exact H) | exact H
                                            have Ny221 := Aside0.mk hy221
                                            clear hy221
                                            by_cases c54 : ([] : List ByteArray).length + y221.length < 8796093022208
                                            · rw [if_pos c54] at H
                                              have LMc54 := Aside0.mk c54
                                              clear c54
                                              obtain ⟨y225, hy225⟩ : ∃ y_ : List ByteArray, y_ = (([] : List ByteArray) ++ y221) := ⟨_, rfl⟩
                                              replace H : (if 0 ≤ (wrap64 (x8_2 + 1)) then (if (wrap64 (x8_2 + 1)) ≤ (x4_41.length : Int) then ((some (x4_41.drop ((wrap64 (x8_2 + 1)) : Int).toNat : List ByteArray)).bind fun y228 => (if y225.length + y228.length < 8796093022208 then (sextonlaw10_FolderHas.j6 kj47 (y225 ++ y228) x5_41 l0 (l0.length : Int) x24_1 t212 t215) else (none))) else (none)) else (none)) = some r := by first | (rw [hy225]; with_reducible exact H) | (have H2_ := (Option.bind_some _ _).symm.trans H; rw [hy225]; with_reducible exact H2_) | (have H2_ := (Option.bind_some _ _).symm.trans H; with_reducible exact H2_) | with_reducible exact H | (rw [hy225]; exact H) | exact H
                                              have Ny225 := Aside0.mk hy225
                                              clear hy225
                                              obtain ⟨ji55, hji55⟩ : ∃ j_ : Int, (wrap64 (x8_2 + 1)) = j_ := ⟨_, rfl⟩
                                              replace H : (if 0 ≤ (ji55) then (if (ji55) ≤ (x4_41.length : Int) then ((some (x4_41.drop ((ji55) : Int).toNat : List ByteArray)).bind fun y228 => (if y225.length + y228.length < 8796093022208 then (sextonlaw10_FolderHas.j6 kj47 (y225 ++ y228) x5_41 l0 (l0.length : Int) x24_1 t212 t215) else (none))) else (none)) else (none)) = some r := by first | (rw [hji55] at H; exact H) | (simp only [hji55] at H ⊢; exact H)
                                              have hji55w : (IntKind.i64.wrap (x8_2 + 1)) = ji55 := (i64_w _).trans hji55
                                              by_cases c56 : 0 ≤ (ji55)
                                              · rw [if_pos c56] at H
                                                have c56b0 := eq_true c56
                                                have c56b1 : decide (0 ≤ (ji55)) = true := decide_eq_true c56
                                                clear c56
                                                by_cases c57 : (ji55) ≤ (x4_41.length : Int)
                                                · rw [if_pos c57] at H
                                                  have c57b0 := eq_true c57
                                                  have c57b1 : decide ((ji55) ≤ (x4_41.length : Int)) = true := decide_eq_true c57
                                                  clear c57
                                                  obtain ⟨y228, hy228⟩ : ∃ y_ : List ByteArray, y_ = (x4_41.drop ((ji55) : Int).toNat) := ⟨_, rfl⟩
                                                  replace H : (if y225.length + y228.length < 8796093022208 then (sextonlaw10_FolderHas.j6 kj47 (y225 ++ y228) x5_41 l0 (l0.length : Int) x24_1 t212 t215) else (none)) = some r := by first | (rw [hy228]; with_reducible exact H) | (have H2_ := (Option.bind_some _ _).symm.trans H; rw [hy228]; with_reducible exact H2_) | (have H2_ := (Option.bind_some _ _).symm.trans H; with_reducible exact H2_) | with_reducible exact H | (rw [hy228]; exact H) | exact H
                                                  have Ny228 := Aside0.mk hy228
                                                  clear hy228
                                                  by_cases c58 : y225.length + y228.length < 8796093022208
                                                  · rw [if_pos c58] at H
                                                    have LMc58 := Aside0.mk c58
                                                    clear c58
                                                    obtain ⟨y232, hy232⟩ : ∃ y_ : List ByteArray, y_ = (y225 ++ y228) := ⟨_, rfl⟩
                                                    replace H : (sextonlaw10_FolderHas.j6 kj47 y232 x5_41 l0 (l0.length : Int) x24_1 t212 t215) = some r := by first | (rw [hy232]; with_reducible exact H) | (have H2_ := (Option.bind_some _ _).symm.trans H; rw [hy232]; with_reducible exact H2_) | (have H2_ := (Option.bind_some _ _).symm.trans H; with_reducible exact H2_) | with_reducible exact H | (rw [hy232]; exact H) | exact H
                                                    have Ny232 := Aside0.mk hy232
                                                    clear hy232
                                                    have H' := Aside0.mk H
                                                    clear H
                                                    obtain ⟨Ao60, co60, eo60⟩ := Kd.R_slice HO_4.out
                                                    subst eo60
                                                    have q59 : (x8_2 : Int) ≤ ((x4_41.length : Int) : Int) := of_decide_eq_true (by first | (with_reducible assumption) | assumption)
                                                    obtain ⟨i059, hi059, _, hsz59, _⟩ := info_parts info9
                                                    have hroom59 : x4_41.length ≤ co60 := (Kd.R_reads' HO_4.out).2.1
                                                    have hC59 : Kd.C Kd.string _ Ao60 x4_41.length x4_41 := (Kd.R_reads' HO_4.out).2.2
                                                    have hcut59 := cut_to (P := Try.prog) 53 9 .i64 Try.underlying53 hi059 Ao60 x4_41.length co60 x8_2 (of_decide_eq_true (by first | (with_reducible assumption) | assumption)) q59 hroom59
                                                    have hr59 := Kd.C_take (m := (x8_2 : Int).toNat) hC59 (by omega)
                                                    have hy59 : y221.length = (x8_2 : Int).toNat := (by rw [Ny221.out, List.length_take]; omega)
                                                    rw [← Ny221.out] at hr59
                                                    rw [← hy59] at hcut59
                                                    have HR224 := Aside0.mk hr59
                                                    have HC224 := Aside0.mk (show y221.length ≤ co60 from by omega)
                                                    clear hr59 hC59 hroom59 hi059 hsz59
                                                    have KY59 := Aside0.mk hy59
                                                    clear hy59
                                                    have KL59 := Aside0.mk (show (x8_2 : Int).toNat ≤ x4_41.length from by omega)
                                                    replace q59 := eq_true q59
                                                    go_wp2_with (first | ((with_reducible refine gate_builtin (b := .append) (xs := #[.tmp 76, .tmp 79]) rfl ?_); at_builtin; refine Kd.R_append_rows Kd.string (w0 := w) w.heap.size rfl (.tmp 76) (.tmp 79) 53 9 (.string ⟨#[]⟩) 16 rfl Try.underlying53 info9 rfl (by decide) (by omega) (.slice none 0 0) ([] : List ByteArray) y221 _ _ _ (fun k_ => some k_ ≠ (.slice Ao60 x4_41.length co60 : Value).ownBlock) (fun _ => False) rfl rfl ?aO ?aR (fun _ _ h => h) (fun _ h => h.elim) ?aF ?aB ?aS ?aL ?_; (case aR => repeat (first | exact (by repeat (first | (with_reducible exact HR224.out) | (with_reducible refine Kd.C_alloc ?_ _) | (with_reducible refine Kd.C_drewN ?_ _) | (with_reducible refine Kd.C_drew ?_) | exact HR224.out)) | (with_reducible refine Kd.C_alloc ?_ _) | (with_reducible refine Kd.C_drewN ?_ _) | (with_reducible refine Kd.C_drew ?_))); (case aB => exact (by repeat (first | (with_reducible first | exact HB.out | apply below_alloc | apply pw_below_drewN | apply below_drew1 | refine below_set ?_ GE208.out | refine below_set ?_ GE211.out) | exact HB.out))); (case aF => exact (fun k_ hk => Kd.fresh' (Kd.R_lt (by (with_reducible repeat (first | apply Kd.R_alloc | apply Kd.R_drewN | apply Kd.R_drew)); exact HO_4.out)) k_ hk)); (case aO => exact ((Kd.R_nil _ _ _ _ (fun k_ => some k_ ≠ (.slice Ao60 x4_41.length co60 : Value).ownBlock)))); (case aS => exact (below_size (by repeat (first | (with_reducible first | exact HB.out | apply below_alloc | apply pw_below_drewN | apply below_drew1 | refine below_set ?_ GE208.out | refine below_set ?_ GE211.out) | exact HB.out)))); (case aL => have := LMc54.out; omega); intro v226 w61 ho hb hg hat; rw [← Ny225.out] at ho; have n0_ := Aside0.mk (Kd.R_after (Kd.R_apart_nil (by (with_reducible repeat (first | apply Kd.R_alloc | apply Kd.R_drewN | apply Kd.R_drew)); exact HO_4.out)) hg hat); have n1_ := Aside0.mk (Kd.R_grown (by (with_reducible repeat (first | apply Kd.R_alloc | apply Kd.R_drewN | apply Kd.R_drew)); exact HO_209000.out) hg (fun _ _ => by simp [Value.ownBlock])); have n2_ := Aside0.mk (blk_grown (g := gb208) (o := .cells #[.slice Ao19 t212.length co19, .int .i64 t215] 24 (0, 0)) (by (with_reducible repeat (first | refine blk_drewN ?_ _ | refine blk_drew ?_ | refine blk_alloc ?_ _)); exact BK208.out) hg (by simp [Value.ownBlock])); have n3_ := Aside0.mk (blk_grown (g := gb211) (o := .cells #[.int .i64 ((rd_T55 l0 x24_1).f0), .string ((rd_T55 l0 x24_1).f1)] 55 (0, 0)) (by (with_reducible repeat (first | refine blk_drewN ?_ _ | refine blk_drew ?_ | refine blk_alloc ?_ _)); exact BK211.out) hg (by simp [Value.ownBlock])); have n4_ := Aside0.mk (hb); have n5_ := Aside0.mk ((show Kd.C Kd.string w61 Ao60 y221.length y221 from by rw [Ny221.out]; exact Kd.C_take (m := (x8_2 : Int).toNat) ((Kd.R_reads' (Kd.R_after (Kd.R_apart_nil (by (with_reducible repeat (first | apply Kd.R_alloc | apply Kd.R_drewN | apply Kd.R_drew)); exact HO_4.out)) hg hat)).2.2) KL59.out)); have n6_ := Aside0.mk (ho); clear HO_4; clear HO_209000; clear BK208; clear BK211; clear HB; clear HR224; have HO_4 := n0_; have HO_209000 := n1_; have BK208 := n2_; have BK211 := n3_; have HB := n4_; have HR224 := n5_; have HO227 := n6_; clear n0_ n1_ n2_ n3_ n4_ n5_ n6_; clear ho hb hg hat; have q62 : ((ji55) : Int) ≤ ((x4_41.length : Int) : Int) := of_decide_eq_true (by first | (with_reducible assumption) | assumption); obtain ⟨i062, hi062, _, hsz62, _⟩ := info_parts info9; have hroom62 : x4_41.length ≤ co60 := (Kd.R_reads' HO_4.out).2.1; have hC62 : Kd.C Kd.string _ Ao60 x4_41.length x4_41 := (Kd.R_reads' HO_4.out).2.2; have q062 : (0 : Int) ≤ ((ji55) : Int) := of_decide_eq_true (by first | (with_reducible assumption) | assumption); have hcut62 := cut_from (P := Try.prog) 53 9 .i64 Try.underlying53 hi062 1 hsz62 Ao60 x4_41.length co60 (ji55) q062 q62; have hr62 := Kd.C_drop (m := ((ji55) : Int).toNat) (c := co60) hC62 (by omega) hroom62; obtain ⟨A62, hA62⟩ : ∃ A1, A1 = (if co60 = ((ji55) : Int).toNat then Ao60 else (Ao60 : Option Addr).map (·.add (((ji55) : Int).toNat * 1))) := ⟨_, rfl⟩; obtain ⟨c62, hc62⟩ : ∃ c1, c1 = co60 - ((ji55) : Int).toNat := ⟨_, rfl⟩; have hy62 : y228.length = x4_41.length - ((ji55) : Int).toNat := (by rw [Ny228.out, List.length_drop] <;> omega); rw [show (x4_41).drop ((ji55) : Int).toNat = y228 from Ny228.out.symm] at hr62; replace hr62 : Kd.C Kd.string _ A62 y228.length y228 := (by rw [hA62]; exact hr62); rw [← hy62, ← hA62, ← hc62] at hcut62; have HR231 := Aside0.mk hr62; have HC231 := Aside0.mk (show y228.length ≤ c62 from by rw [hy62, hc62]; exact Nat.sub_le_sub_right hroom62 _); clear hr62 hC62 hroom62 hi062 hsz62 hc62; have KY62 := Aside0.mk hy62; have KA62 := Aside0.mk hA62; clear hy62 hA62; have KL62 := Aside0.mk (show ((ji55) : Int).toNat ≤ x4_41.length from by omega); replace q62 := eq_true q62) | ((with_reducible refine gate_builtin (b := .append) (xs := #[.tmp 81, .tmp 85]) rfl ?_); at_builtin; refine Kd.R_append_rows Kd.string (w0 := w) w.heap.size rfl (.tmp 81) (.tmp 85) 53 9 (.string ⟨#[]⟩) 16 rfl Try.underlying53 info9 rfl (by decide) (by omega) v226 y225 y228 _ _ _ (fun k_ => some k_ ≠ (.slice Ao60 x4_41.length co60 : Value).ownBlock) (fun _ => False) rfl rfl ?aO ?aR (fun _ _ h => h) (fun _ h => h.elim) ?aF ?aB ?aS ?aL ?_; (case aR => repeat (first | exact (by repeat (first | (with_reducible exact HR231.out) | (with_reducible refine Kd.C_alloc ?_ _) | (with_reducible refine Kd.C_drewN ?_ _) | (with_reducible refine Kd.C_drew ?_) | exact HR231.out)) | (with_reducible refine Kd.C_alloc ?_ _) | (with_reducible refine Kd.C_drewN ?_ _) | (with_reducible refine Kd.C_drew ?_))); (case aB => exact (by repeat (first | (with_reducible first | exact HB.out | apply below_alloc | apply pw_below_drewN | apply below_drew1 | refine below_set ?_ GE208.out | refine below_set ?_ GE211.out) | exact HB.out))); (case aF => exact (fun k_ hk => Kd.fresh' (Kd.R_lt (by (with_reducible repeat (first | apply Kd.R_alloc | apply Kd.R_drewN | apply Kd.R_drew)); exact HO_4.out)) k_ hk)); (case aO => exact (by (with_reducible repeat (first | apply Kd.R_alloc | apply Kd.R_drewN | apply Kd.R_drew)); exact HO227.out)); (case aS => exact (below_size (by repeat (first | (with_reducible first | exact HB.out | apply below_alloc | apply pw_below_drewN | apply below_drew1 | refine below_set ?_ GE208.out | refine below_set ?_ GE211.out) | exact HB.out)))); (case aL => have := LMc58.out; omega); intro v233 w63 ho hb hg hat; rw [← Ny232.out] at ho; have n0_ := Aside0.mk (Kd.R_after (ok := (fun _ => True)) (by (with_reducible repeat (first | apply Kd.R_alloc | apply Kd.R_drewN | apply Kd.R_drew)); exact HO_4.out) hg hat); have n1_ := Aside0.mk (Kd.R_over' (by (with_reducible repeat (first | apply Kd.R_alloc | apply Kd.R_drewN | apply Kd.R_drew)); exact HO_209000.out) (Kd.R_typed (by (with_reducible repeat (first | apply Kd.R_alloc | apply Kd.R_drewN | apply Kd.R_drew)); exact HO227.out)) (by decide) hg); have n2_ := Aside0.mk (blk_grown (g := gb208) (o := .cells #[.slice Ao19 t212.length co19, .int .i64 t215] 24 (0, 0)) (by (with_reducible repeat (first | refine blk_drewN ?_ _ | refine blk_drew ?_ | refine blk_alloc ?_ _)); exact BK208.out) hg (Kd.R_ne HO227.out BK208.out (by decide))); have n3_ := Aside0.mk (blk_grown (g := gb211) (o := .cells #[.int .i64 ((rd_T55 l0 x24_1).f0), .string ((rd_T55 l0 x24_1).f1)] 55 (0, 0)) (by (with_reducible repeat (first | refine blk_drewN ?_ _ | refine blk_drew ?_ | refine blk_alloc ?_ _)); exact BK211.out) hg (Kd.R_ne HO227.out BK211.out (by decide))); have n4_ := Aside0.mk (hb); have n5_ := Aside0.mk ((show Kd.C Kd.string w63 Ao60 y221.length y221 from by rw [Ny221.out]; exact Kd.C_take (m := (x8_2 : Int).toNat) ((Kd.R_reads' (Kd.R_after (ok := (fun _ => True)) (by (with_reducible repeat (first | apply Kd.R_alloc | apply Kd.R_drewN | apply Kd.R_drew)); exact HO_4.out) hg hat)).2.2) KL59.out)); have n6_ := Aside0.mk ((show Kd.C Kd.string w63 A62 y228.length y228 from by rw [Ny228.out, KA62.out]; exact Kd.C_drop (m := ((ji55) : Int).toNat) (c := co60) ((Kd.R_reads' (Kd.R_after (ok := (fun _ => True)) (by (with_reducible repeat (first | apply Kd.R_alloc | apply Kd.R_drewN | apply Kd.R_drew)); exact HO_4.out) hg hat)).2.2) KL62.out ((Kd.R_reads' (Kd.R_after (ok := (fun _ => True)) (by (with_reducible repeat (first | apply Kd.R_alloc | apply Kd.R_drewN | apply Kd.R_drew)); exact HO_4.out) hg hat)).2.1))); have n7_ := Aside0.mk (ho); clear HO_4; clear HO_209000; clear BK208; clear BK211; clear HB; clear HR224; clear HR231; clear HO227; have HO_4 := n0_; have HO_209000 := n1_; have BK208 := n2_; have BK211 := n3_; have HB := n4_; have HR224 := n5_; have HR231 := n6_; have HO234 := n7_; clear n0_ n1_ n2_ n3_ n4_ n5_ n6_ n7_; clear ho hb hg hat))
                                                    repeat (go_quiet (first | ((with_reducible refine gate_builtin (b := .append) (xs := #[.tmp 76, .tmp 79]) rfl ?_); at_builtin; refine Kd.R_append_rows Kd.string (w0 := w) w.heap.size rfl (.tmp 76) (.tmp 79) 53 9 (.string ⟨#[]⟩) 16 rfl Try.underlying53 info9 rfl (by decide) (by omega) (.slice none 0 0) ([] : List ByteArray) y221 _ _ _ (fun k_ => some k_ ≠ (.slice Ao60 x4_41.length co60 : Value).ownBlock) (fun _ => False) rfl rfl ?aO ?aR (fun _ _ h => h) (fun _ h => h.elim) ?aF ?aB ?aS ?aL ?_; (case aR => repeat (first | exact (by repeat (first | (with_reducible exact HR224.out) | (with_reducible refine Kd.C_alloc ?_ _) | (with_reducible refine Kd.C_drewN ?_ _) | (with_reducible refine Kd.C_drew ?_) | exact HR224.out)) | (with_reducible refine Kd.C_alloc ?_ _) | (with_reducible refine Kd.C_drewN ?_ _) | (with_reducible refine Kd.C_drew ?_))); (case aB => exact (by repeat (first | (with_reducible first | exact HB.out | apply below_alloc | apply pw_below_drewN | apply below_drew1 | refine below_set ?_ GE208.out | refine below_set ?_ GE211.out) | exact HB.out))); (case aF => exact (fun k_ hk => Kd.fresh' (Kd.R_lt (by (with_reducible repeat (first | apply Kd.R_alloc | apply Kd.R_drewN | apply Kd.R_drew)); exact HO_4.out)) k_ hk)); (case aO => exact ((Kd.R_nil _ _ _ _ (fun k_ => some k_ ≠ (.slice Ao60 x4_41.length co60 : Value).ownBlock)))); (case aS => exact (below_size (by repeat (first | (with_reducible first | exact HB.out | apply below_alloc | apply pw_below_drewN | apply below_drew1 | refine below_set ?_ GE208.out | refine below_set ?_ GE211.out) | exact HB.out)))); (case aL => have := LMc54.out; omega); intro v226 w61 ho hb hg hat; rw [← Ny225.out] at ho; have n0_ := Aside0.mk (Kd.R_after (Kd.R_apart_nil (by (with_reducible repeat (first | apply Kd.R_alloc | apply Kd.R_drewN | apply Kd.R_drew)); exact HO_4.out)) hg hat); have n1_ := Aside0.mk (Kd.R_grown (by (with_reducible repeat (first | apply Kd.R_alloc | apply Kd.R_drewN | apply Kd.R_drew)); exact HO_209000.out) hg (fun _ _ => by simp [Value.ownBlock])); have n2_ := Aside0.mk (blk_grown (g := gb208) (o := .cells #[.slice Ao19 t212.length co19, .int .i64 t215] 24 (0, 0)) (by (with_reducible repeat (first | refine blk_drewN ?_ _ | refine blk_drew ?_ | refine blk_alloc ?_ _)); exact BK208.out) hg (by simp [Value.ownBlock])); have n3_ := Aside0.mk (blk_grown (g := gb211) (o := .cells #[.int .i64 ((rd_T55 l0 x24_1).f0), .string ((rd_T55 l0 x24_1).f1)] 55 (0, 0)) (by (with_reducible repeat (first | refine blk_drewN ?_ _ | refine blk_drew ?_ | refine blk_alloc ?_ _)); exact BK211.out) hg (by simp [Value.ownBlock])); have n4_ := Aside0.mk (hb); have n5_ := Aside0.mk ((show Kd.C Kd.string w61 Ao60 y221.length y221 from by rw [Ny221.out]; exact Kd.C_take (m := (x8_2 : Int).toNat) ((Kd.R_reads' (Kd.R_after (Kd.R_apart_nil (by (with_reducible repeat (first | apply Kd.R_alloc | apply Kd.R_drewN | apply Kd.R_drew)); exact HO_4.out)) hg hat)).2.2) KL59.out)); have n6_ := Aside0.mk (ho); clear HO_4; clear HO_209000; clear BK208; clear BK211; clear HB; clear HR224; have HO_4 := n0_; have HO_209000 := n1_; have BK208 := n2_; have BK211 := n3_; have HB := n4_; have HR224 := n5_; have HO227 := n6_; clear n0_ n1_ n2_ n3_ n4_ n5_ n6_; clear ho hb hg hat; have q62 : ((ji55) : Int) ≤ ((x4_41.length : Int) : Int) := of_decide_eq_true (by first | (with_reducible assumption) | assumption); obtain ⟨i062, hi062, _, hsz62, _⟩ := info_parts info9; have hroom62 : x4_41.length ≤ co60 := (Kd.R_reads' HO_4.out).2.1; have hC62 : Kd.C Kd.string _ Ao60 x4_41.length x4_41 := (Kd.R_reads' HO_4.out).2.2; have q062 : (0 : Int) ≤ ((ji55) : Int) := of_decide_eq_true (by first | (with_reducible assumption) | assumption); have hcut62 := cut_from (P := Try.prog) 53 9 .i64 Try.underlying53 hi062 1 hsz62 Ao60 x4_41.length co60 (ji55) q062 q62; have hr62 := Kd.C_drop (m := ((ji55) : Int).toNat) (c := co60) hC62 (by omega) hroom62; obtain ⟨A62, hA62⟩ : ∃ A1, A1 = (if co60 = ((ji55) : Int).toNat then Ao60 else (Ao60 : Option Addr).map (·.add (((ji55) : Int).toNat * 1))) := ⟨_, rfl⟩; obtain ⟨c62, hc62⟩ : ∃ c1, c1 = co60 - ((ji55) : Int).toNat := ⟨_, rfl⟩; have hy62 : y228.length = x4_41.length - ((ji55) : Int).toNat := (by rw [Ny228.out, List.length_drop] <;> omega); rw [show (x4_41).drop ((ji55) : Int).toNat = y228 from Ny228.out.symm] at hr62; replace hr62 : Kd.C Kd.string _ A62 y228.length y228 := (by rw [hA62]; exact hr62); rw [← hy62, ← hA62, ← hc62] at hcut62; have HR231 := Aside0.mk hr62; have HC231 := Aside0.mk (show y228.length ≤ c62 from by rw [hy62, hc62]; exact Nat.sub_le_sub_right hroom62 _); clear hr62 hC62 hroom62 hi062 hsz62 hc62; have KY62 := Aside0.mk hy62; have KA62 := Aside0.mk hA62; clear hy62 hA62; have KL62 := Aside0.mk (show ((ji55) : Int).toNat ≤ x4_41.length from by omega); replace q62 := eq_true q62) | ((with_reducible refine gate_builtin (b := .append) (xs := #[.tmp 81, .tmp 85]) rfl ?_); at_builtin; refine Kd.R_append_rows Kd.string (w0 := w) w.heap.size rfl (.tmp 81) (.tmp 85) 53 9 (.string ⟨#[]⟩) 16 rfl Try.underlying53 info9 rfl (by decide) (by omega) v226 y225 y228 _ _ _ (fun k_ => some k_ ≠ (.slice Ao60 x4_41.length co60 : Value).ownBlock) (fun _ => False) rfl rfl ?aO ?aR (fun _ _ h => h) (fun _ h => h.elim) ?aF ?aB ?aS ?aL ?_; (case aR => repeat (first | exact (by repeat (first | (with_reducible exact HR231.out) | (with_reducible refine Kd.C_alloc ?_ _) | (with_reducible refine Kd.C_drewN ?_ _) | (with_reducible refine Kd.C_drew ?_) | exact HR231.out)) | (with_reducible refine Kd.C_alloc ?_ _) | (with_reducible refine Kd.C_drewN ?_ _) | (with_reducible refine Kd.C_drew ?_))); (case aB => exact (by repeat (first | (with_reducible first | exact HB.out | apply below_alloc | apply pw_below_drewN | apply below_drew1 | refine below_set ?_ GE208.out | refine below_set ?_ GE211.out) | exact HB.out))); (case aF => exact (fun k_ hk => Kd.fresh' (Kd.R_lt (by (with_reducible repeat (first | apply Kd.R_alloc | apply Kd.R_drewN | apply Kd.R_drew)); exact HO_4.out)) k_ hk)); (case aO => exact (by (with_reducible repeat (first | apply Kd.R_alloc | apply Kd.R_drewN | apply Kd.R_drew)); exact HO227.out)); (case aS => exact (below_size (by repeat (first | (with_reducible first | exact HB.out | apply below_alloc | apply pw_below_drewN | apply below_drew1 | refine below_set ?_ GE208.out | refine below_set ?_ GE211.out) | exact HB.out)))); (case aL => have := LMc58.out; omega); intro v233 w63 ho hb hg hat; rw [← Ny232.out] at ho; have n0_ := Aside0.mk (Kd.R_after (ok := (fun _ => True)) (by (with_reducible repeat (first | apply Kd.R_alloc | apply Kd.R_drewN | apply Kd.R_drew)); exact HO_4.out) hg hat); have n1_ := Aside0.mk (Kd.R_over' (by (with_reducible repeat (first | apply Kd.R_alloc | apply Kd.R_drewN | apply Kd.R_drew)); exact HO_209000.out) (Kd.R_typed (by (with_reducible repeat (first | apply Kd.R_alloc | apply Kd.R_drewN | apply Kd.R_drew)); exact HO227.out)) (by decide) hg); have n2_ := Aside0.mk (blk_grown (g := gb208) (o := .cells #[.slice Ao19 t212.length co19, .int .i64 t215] 24 (0, 0)) (by (with_reducible repeat (first | refine blk_drewN ?_ _ | refine blk_drew ?_ | refine blk_alloc ?_ _)); exact BK208.out) hg (Kd.R_ne HO227.out BK208.out (by decide))); have n3_ := Aside0.mk (blk_grown (g := gb211) (o := .cells #[.int .i64 ((rd_T55 l0 x24_1).f0), .string ((rd_T55 l0 x24_1).f1)] 55 (0, 0)) (by (with_reducible repeat (first | refine blk_drewN ?_ _ | refine blk_drew ?_ | refine blk_alloc ?_ _)); exact BK211.out) hg (Kd.R_ne HO227.out BK211.out (by decide))); have n4_ := Aside0.mk (hb); have n5_ := Aside0.mk ((show Kd.C Kd.string w63 Ao60 y221.length y221 from by rw [Ny221.out]; exact Kd.C_take (m := (x8_2 : Int).toNat) ((Kd.R_reads' (Kd.R_after (ok := (fun _ => True)) (by (with_reducible repeat (first | apply Kd.R_alloc | apply Kd.R_drewN | apply Kd.R_drew)); exact HO_4.out) hg hat)).2.2) KL59.out)); have n6_ := Aside0.mk ((show Kd.C Kd.string w63 A62 y228.length y228 from by rw [Ny228.out, KA62.out]; exact Kd.C_drop (m := ((ji55) : Int).toNat) (c := co60) ((Kd.R_reads' (Kd.R_after (ok := (fun _ => True)) (by (with_reducible repeat (first | apply Kd.R_alloc | apply Kd.R_drewN | apply Kd.R_drew)); exact HO_4.out) hg hat)).2.2) KL62.out ((Kd.R_reads' (Kd.R_after (ok := (fun _ => True)) (by (with_reducible repeat (first | apply Kd.R_alloc | apply Kd.R_drewN | apply Kd.R_drew)); exact HO_4.out) hg hat)).2.1))); have n7_ := Aside0.mk (ho); clear HO_4; clear HO_209000; clear BK208; clear BK211; clear HB; clear HR224; clear HR231; clear HO227; have HO_4 := n0_; have HO_209000 := n1_; have BK208 := n2_; have BK211 := n3_; have HB := n4_; have HR224 := n5_; have HR231 := n6_; have HO234 := n7_; clear n0_ n1_ n2_ n3_ n4_ n5_ n6_ n7_; clear ho hb hg hat)); try go_wp2_with (first | ((with_reducible refine gate_builtin (b := .append) (xs := #[.tmp 76, .tmp 79]) rfl ?_); at_builtin; refine Kd.R_append_rows Kd.string (w0 := w) w.heap.size rfl (.tmp 76) (.tmp 79) 53 9 (.string ⟨#[]⟩) 16 rfl Try.underlying53 info9 rfl (by decide) (by omega) (.slice none 0 0) ([] : List ByteArray) y221 _ _ _ (fun k_ => some k_ ≠ (.slice Ao60 x4_41.length co60 : Value).ownBlock) (fun _ => False) rfl rfl ?aO ?aR (fun _ _ h => h) (fun _ h => h.elim) ?aF ?aB ?aS ?aL ?_; (case aR => repeat (first | exact (by repeat (first | (with_reducible exact HR224.out) | (with_reducible refine Kd.C_alloc ?_ _) | (with_reducible refine Kd.C_drewN ?_ _) | (with_reducible refine Kd.C_drew ?_) | exact HR224.out)) | (with_reducible refine Kd.C_alloc ?_ _) | (with_reducible refine Kd.C_drewN ?_ _) | (with_reducible refine Kd.C_drew ?_))); (case aB => exact (by repeat (first | (with_reducible first | exact HB.out | apply below_alloc | apply pw_below_drewN | apply below_drew1 | refine below_set ?_ GE208.out | refine below_set ?_ GE211.out) | exact HB.out))); (case aF => exact (fun k_ hk => Kd.fresh' (Kd.R_lt (by (with_reducible repeat (first | apply Kd.R_alloc | apply Kd.R_drewN | apply Kd.R_drew)); exact HO_4.out)) k_ hk)); (case aO => exact ((Kd.R_nil _ _ _ _ (fun k_ => some k_ ≠ (.slice Ao60 x4_41.length co60 : Value).ownBlock)))); (case aS => exact (below_size (by repeat (first | (with_reducible first | exact HB.out | apply below_alloc | apply pw_below_drewN | apply below_drew1 | refine below_set ?_ GE208.out | refine below_set ?_ GE211.out) | exact HB.out)))); (case aL => have := LMc54.out; omega); intro v226 w61 ho hb hg hat; rw [← Ny225.out] at ho; have n0_ := Aside0.mk (Kd.R_after (Kd.R_apart_nil (by (with_reducible repeat (first | apply Kd.R_alloc | apply Kd.R_drewN | apply Kd.R_drew)); exact HO_4.out)) hg hat); have n1_ := Aside0.mk (Kd.R_grown (by (with_reducible repeat (first | apply Kd.R_alloc | apply Kd.R_drewN | apply Kd.R_drew)); exact HO_209000.out) hg (fun _ _ => by simp [Value.ownBlock])); have n2_ := Aside0.mk (blk_grown (g := gb208) (o := .cells #[.slice Ao19 t212.length co19, .int .i64 t215] 24 (0, 0)) (by (with_reducible repeat (first | refine blk_drewN ?_ _ | refine blk_drew ?_ | refine blk_alloc ?_ _)); exact BK208.out) hg (by simp [Value.ownBlock])); have n3_ := Aside0.mk (blk_grown (g := gb211) (o := .cells #[.int .i64 ((rd_T55 l0 x24_1).f0), .string ((rd_T55 l0 x24_1).f1)] 55 (0, 0)) (by (with_reducible repeat (first | refine blk_drewN ?_ _ | refine blk_drew ?_ | refine blk_alloc ?_ _)); exact BK211.out) hg (by simp [Value.ownBlock])); have n4_ := Aside0.mk (hb); have n5_ := Aside0.mk ((show Kd.C Kd.string w61 Ao60 y221.length y221 from by rw [Ny221.out]; exact Kd.C_take (m := (x8_2 : Int).toNat) ((Kd.R_reads' (Kd.R_after (Kd.R_apart_nil (by (with_reducible repeat (first | apply Kd.R_alloc | apply Kd.R_drewN | apply Kd.R_drew)); exact HO_4.out)) hg hat)).2.2) KL59.out)); have n6_ := Aside0.mk (ho); clear HO_4; clear HO_209000; clear BK208; clear BK211; clear HB; clear HR224; have HO_4 := n0_; have HO_209000 := n1_; have BK208 := n2_; have BK211 := n3_; have HB := n4_; have HR224 := n5_; have HO227 := n6_; clear n0_ n1_ n2_ n3_ n4_ n5_ n6_; clear ho hb hg hat; have q62 : ((ji55) : Int) ≤ ((x4_41.length : Int) : Int) := of_decide_eq_true (by first | (with_reducible assumption) | assumption); obtain ⟨i062, hi062, _, hsz62, _⟩ := info_parts info9; have hroom62 : x4_41.length ≤ co60 := (Kd.R_reads' HO_4.out).2.1; have hC62 : Kd.C Kd.string _ Ao60 x4_41.length x4_41 := (Kd.R_reads' HO_4.out).2.2; have q062 : (0 : Int) ≤ ((ji55) : Int) := of_decide_eq_true (by first | (with_reducible assumption) | assumption); have hcut62 := cut_from (P := Try.prog) 53 9 .i64 Try.underlying53 hi062 1 hsz62 Ao60 x4_41.length co60 (ji55) q062 q62; have hr62 := Kd.C_drop (m := ((ji55) : Int).toNat) (c := co60) hC62 (by omega) hroom62; obtain ⟨A62, hA62⟩ : ∃ A1, A1 = (if co60 = ((ji55) : Int).toNat then Ao60 else (Ao60 : Option Addr).map (·.add (((ji55) : Int).toNat * 1))) := ⟨_, rfl⟩; obtain ⟨c62, hc62⟩ : ∃ c1, c1 = co60 - ((ji55) : Int).toNat := ⟨_, rfl⟩; have hy62 : y228.length = x4_41.length - ((ji55) : Int).toNat := (by rw [Ny228.out, List.length_drop] <;> omega); rw [show (x4_41).drop ((ji55) : Int).toNat = y228 from Ny228.out.symm] at hr62; replace hr62 : Kd.C Kd.string _ A62 y228.length y228 := (by rw [hA62]; exact hr62); rw [← hy62, ← hA62, ← hc62] at hcut62; have HR231 := Aside0.mk hr62; have HC231 := Aside0.mk (show y228.length ≤ c62 from by rw [hy62, hc62]; exact Nat.sub_le_sub_right hroom62 _); clear hr62 hC62 hroom62 hi062 hsz62 hc62; have KY62 := Aside0.mk hy62; have KA62 := Aside0.mk hA62; clear hy62 hA62; have KL62 := Aside0.mk (show ((ji55) : Int).toNat ≤ x4_41.length from by omega); replace q62 := eq_true q62) | ((with_reducible refine gate_builtin (b := .append) (xs := #[.tmp 81, .tmp 85]) rfl ?_); at_builtin; refine Kd.R_append_rows Kd.string (w0 := w) w.heap.size rfl (.tmp 81) (.tmp 85) 53 9 (.string ⟨#[]⟩) 16 rfl Try.underlying53 info9 rfl (by decide) (by omega) v226 y225 y228 _ _ _ (fun k_ => some k_ ≠ (.slice Ao60 x4_41.length co60 : Value).ownBlock) (fun _ => False) rfl rfl ?aO ?aR (fun _ _ h => h) (fun _ h => h.elim) ?aF ?aB ?aS ?aL ?_; (case aR => repeat (first | exact (by repeat (first | (with_reducible exact HR231.out) | (with_reducible refine Kd.C_alloc ?_ _) | (with_reducible refine Kd.C_drewN ?_ _) | (with_reducible refine Kd.C_drew ?_) | exact HR231.out)) | (with_reducible refine Kd.C_alloc ?_ _) | (with_reducible refine Kd.C_drewN ?_ _) | (with_reducible refine Kd.C_drew ?_))); (case aB => exact (by repeat (first | (with_reducible first | exact HB.out | apply below_alloc | apply pw_below_drewN | apply below_drew1 | refine below_set ?_ GE208.out | refine below_set ?_ GE211.out) | exact HB.out))); (case aF => exact (fun k_ hk => Kd.fresh' (Kd.R_lt (by (with_reducible repeat (first | apply Kd.R_alloc | apply Kd.R_drewN | apply Kd.R_drew)); exact HO_4.out)) k_ hk)); (case aO => exact (by (with_reducible repeat (first | apply Kd.R_alloc | apply Kd.R_drewN | apply Kd.R_drew)); exact HO227.out)); (case aS => exact (below_size (by repeat (first | (with_reducible first | exact HB.out | apply below_alloc | apply pw_below_drewN | apply below_drew1 | refine below_set ?_ GE208.out | refine below_set ?_ GE211.out) | exact HB.out)))); (case aL => have := LMc58.out; omega); intro v233 w63 ho hb hg hat; rw [← Ny232.out] at ho; have n0_ := Aside0.mk (Kd.R_after (ok := (fun _ => True)) (by (with_reducible repeat (first | apply Kd.R_alloc | apply Kd.R_drewN | apply Kd.R_drew)); exact HO_4.out) hg hat); have n1_ := Aside0.mk (Kd.R_over' (by (with_reducible repeat (first | apply Kd.R_alloc | apply Kd.R_drewN | apply Kd.R_drew)); exact HO_209000.out) (Kd.R_typed (by (with_reducible repeat (first | apply Kd.R_alloc | apply Kd.R_drewN | apply Kd.R_drew)); exact HO227.out)) (by decide) hg); have n2_ := Aside0.mk (blk_grown (g := gb208) (o := .cells #[.slice Ao19 t212.length co19, .int .i64 t215] 24 (0, 0)) (by (with_reducible repeat (first | refine blk_drewN ?_ _ | refine blk_drew ?_ | refine blk_alloc ?_ _)); exact BK208.out) hg (Kd.R_ne HO227.out BK208.out (by decide))); have n3_ := Aside0.mk (blk_grown (g := gb211) (o := .cells #[.int .i64 ((rd_T55 l0 x24_1).f0), .string ((rd_T55 l0 x24_1).f1)] 55 (0, 0)) (by (with_reducible repeat (first | refine blk_drewN ?_ _ | refine blk_drew ?_ | refine blk_alloc ?_ _)); exact BK211.out) hg (Kd.R_ne HO227.out BK211.out (by decide))); have n4_ := Aside0.mk (hb); have n5_ := Aside0.mk ((show Kd.C Kd.string w63 Ao60 y221.length y221 from by rw [Ny221.out]; exact Kd.C_take (m := (x8_2 : Int).toNat) ((Kd.R_reads' (Kd.R_after (ok := (fun _ => True)) (by (with_reducible repeat (first | apply Kd.R_alloc | apply Kd.R_drewN | apply Kd.R_drew)); exact HO_4.out) hg hat)).2.2) KL59.out)); have n6_ := Aside0.mk ((show Kd.C Kd.string w63 A62 y228.length y228 from by rw [Ny228.out, KA62.out]; exact Kd.C_drop (m := ((ji55) : Int).toNat) (c := co60) ((Kd.R_reads' (Kd.R_after (ok := (fun _ => True)) (by (with_reducible repeat (first | apply Kd.R_alloc | apply Kd.R_drewN | apply Kd.R_drew)); exact HO_4.out) hg hat)).2.2) KL62.out ((Kd.R_reads' (Kd.R_after (ok := (fun _ => True)) (by (with_reducible repeat (first | apply Kd.R_alloc | apply Kd.R_drewN | apply Kd.R_drew)); exact HO_4.out) hg hat)).2.1))); have n7_ := Aside0.mk (ho); clear HO_4; clear HO_209000; clear BK208; clear BK211; clear HB; clear HR224; clear HR231; clear HO227; have HO_4 := n0_; have HO_209000 := n1_; have BK208 := n2_; have BK211 := n3_; have HB := n4_; have HR224 := n5_; have HR231 := n6_; have HO234 := n7_; clear n0_ n1_ n2_ n3_ n4_ n5_ n6_ n7_; clear ho hb hg hat)))
                                                    go_meet
                                                    case rel => exact ⟨_, (y232), H', ⟨by have := HK1.out; have := HK2.out; have := HJ29.out; have := HJ35.out; have := HJ41.out; have := HJ47.out; first | omega | exact Nat.le_refl _⟩, ⟨by (with_reducible repeat (first | apply Kd.R_alloc | apply Kd.R_drewN | apply Kd.R_drew)); exact Kd.R_mono HO234.out (fun _ hk => trivial)⟩, ⟨by (with_reducible repeat (first | apply Kd.R_alloc | apply Kd.R_drewN | apply Kd.R_drew)); exact HO_209000.out⟩, ⟨by (with_reducible repeat (first | refine blk_drewN ?_ _ | refine blk_drew ?_ | refine blk_alloc ?_ _)); exact BK208.out⟩, ⟨by (with_reducible repeat (first | refine blk_drewN ?_ _ | refine blk_drew ?_ | refine blk_alloc ?_ _)); exact BK211.out⟩, ⟨by repeat (first | (with_reducible first | exact HB.out | apply below_alloc | apply pw_below_drewN | apply below_drew1 | refine below_set ?_ GE208.out | refine below_set ?_ GE211.out) | exact HB.out)⟩⟩
                                                  · rw [if_neg c58] at H
                                                    exact absurd H (by simp)
                                                · rw [if_neg c57] at H
                                                  exact absurd H (by simp)
                                              · rw [if_neg c56] at H
                                                exact absurd H (by simp)
                                            · rw [if_neg c54] at H
                                              exact absurd H (by simp)
                                          · rw [if_neg c53] at H
                                            exact absurd H (by simp)
                                        · rw [if_neg c52] at H
                                          exact absurd H (by simp)
                                      · replace c51 := Bool.eq_false_iff.mpr c51
                                        subst c51
                                        have H1 : (sextonlaw10_FolderHas.j6 kj47 x4_41 x5_41 l0 (l0.length : Int) x24_1 t212 t215) = some r := by rw [if_neg (show ¬ (false = true) by decide)] at H; exact H
                                        clear H
                                        have H := H1
                                        clear H1
                                        have H' := Aside0.mk H
                                        clear H
                                        go_wp2
                                        repeat (go_quiet (fail); try go_wp2)
                                        go_meet
                                        case rel => exact ⟨_, (x4_41), H', ⟨by have := HK1.out; have := HK2.out; have := HJ29.out; have := HJ35.out; have := HJ41.out; have := HJ47.out; first | omega | exact Nat.le_refl _⟩, ⟨by (with_reducible repeat (first | apply Kd.R_alloc | apply Kd.R_drewN | apply Kd.R_drew)); exact HO_4.out⟩, ⟨by (with_reducible repeat (first | apply Kd.R_alloc | apply Kd.R_drewN | apply Kd.R_drew)); exact HO_209000.out⟩, ⟨by (with_reducible repeat (first | refine blk_drewN ?_ _ | refine blk_drew ?_ | refine blk_alloc ?_ _)); exact BK208.out⟩, ⟨by (with_reducible repeat (first | refine blk_drewN ?_ _ | refine blk_drew ?_ | refine blk_alloc ?_ _)); exact BK211.out⟩, ⟨by repeat (first | (with_reducible first | exact HB.out | apply below_alloc | apply pw_below_drewN | apply below_drew1 | refine below_set ?_ GE208.out | refine below_set ?_ GE211.out) | exact HB.out)⟩⟩
                                    case rest =>
                                      clear HC50
                                      try clear c1
                                      try clear c2
                                      try clear c2b0
                                      try clear c2b1
                                      try clear p2
                                      try clear q2
                                      try clear hx2
                                      try clear c3
                                      try clear c4
                                      try clear c5
                                      try clear q5
                                      try clear c6
                                      try clear p6
                                      try clear q6
                                      try clear c7
                                      try clear c7b0
                                      try clear c8
                                      try clear c8b0
                                      try clear c9
                                      try clear c9b0
                                      try clear c12
                                      try clear p21
                                      try clear q21
                                      try clear hx21
                                      try clear c22
                                      try clear c22b0
                                      try clear c23
                                      try clear c23b0
                                      try clear c24
                                      try clear c24b0
                                      try clear c25
                                      try clear c25b0
                                      try clear c25b1
                                      try clear c26
                                      try clear c28
                                      try clear c31
                                      try clear c31b0
                                      try clear c31b1
                                      try clear c32
                                      try clear c34
                                      try clear c37
                                      try clear c38
                                      try clear c38b0
                                      try clear c40
                                      try clear c43
                                      try clear c44
                                      try clear c45
                                      try clear c49
                                      try clear c51
                                      try clear c52
                                      try clear c52b0
                                      try clear c52b1
                                      try clear c53
                                      try clear c53b0
                                      try clear c53b1
                                      try clear c54
                                      try clear c56
                                      try clear c56b0
                                      try clear c56b1
                                      try clear c57
                                      try clear c57b0
                                      try clear c57b1
                                      try clear c58
                                      try clear q59
                                      try clear c62
                                      try clear q62
                                      try clear hcz13_0
                                      try clear hcz13_1
                                      try clear hcz15_0
                                      try clear hcz15_1
                                      try clear hcz16_0
                                      try clear hcz16_1
                                      try clear hcz20_0
                                      try clear hcz20_1
                                      try clear hcz27_0
                                      try clear hcz27_1
                                      try clear hcz29_0
                                      try clear hcz29_1
                                      try clear hcz33_0
                                      try clear hcz33_1
                                      try clear hcz35_0
                                      try clear hcz35_1
                                      try clear hcz41_0
                                      try clear hcz41_1
                                      try clear hcz46_0
                                      try clear hcz46_1
                                      try clear hcz6_0
                                      try clear hcz6_1
                                      try clear hfz13_0
                                      try clear hfz13_1
                                      try clear hfz15_0
                                      try clear hfz15_1
                                      try clear hfz16_0
                                      try clear hfz16_1
                                      try clear hfz20_0
                                      try clear hfz20_1
                                      try clear hfz27_0
                                      try clear hfz27_1
                                      try clear hfz29_0
                                      try clear hfz29_1
                                      try clear hfz33_0
                                      try clear hfz33_1
                                      try clear hfz35_0
                                      try clear hfz35_1
                                      try clear hfz41_0
                                      try clear hfz41_1
                                      try clear hfz46_0
                                      try clear hfz46_1
                                      try clear hfz6_0
                                      try clear hfz6_1
                                      try clear hx210_0
                                      try clear hx210_1
                                      try clear hx216_0
                                      try clear p2
                                      try clear p21
                                      try clear p210
                                      try clear p216
                                      try clear p6
                                      try clear q062
                                      try clear q2
                                      try clear q21
                                      try clear q210
                                      try clear q216
                                      try clear q59
                                      try clear q62
                                      obtain ⟨kq, x4_49, HA, HJ49, HO_4, HO_209000, BK208, BK211, HB⟩ := hcut
                                      cases kq with
                                      | zero => exact absurd HA.out (by simp [sextonlaw10_FolderHas.j6])
                                      | succ kj49 =>
                                        have H := HA.out
                                        clear HA
                                        simp only [sextonlaw10_FolderHas.j6] at H
                                        have HC64 := Aside0.mk H
                                        clear H
                                        go_upto_region 26 with (fail)
                                        repeat (go_quiet (fail); go_upto_region 26 with (fail))
                                        go_cut [99] (fun v99 wc => ∃ (kq : Nat) (x99_63 : Bool), v99 = .bool x99_63 ∧ Aside0 (sextonlaw10_FolderHas.j7 kq x4_49 x5_41 l0 (l0.length : Int) x24_1 x99_63 t212 t215 = some r) ∧ Aside0 (kq ≤ kj49) ∧ Aside0 (Kd.R Kd.string 9 wc w.heap.size (fun _ => True) u4 x4_49) ∧ Aside0 (Kd.R k30 30 wc w.heap.size (fun _ => True) (.slice Ao19 t212.length co19) t212) ∧ Aside0 (wc.heap[gb208]? = some (.cells #[(.slice Ao19 t212.length co19), .int .i64 t215] 24 (0, 0))) ∧ Aside0 (wc.heap[gb211]? = some (.cells #[.int .i64 ((rd_T55 l0 x24_1).f0), .string ((rd_T55 l0 x24_1).f1)] 55 (0, 0))) ∧ Aside0 (Below w.heap.size w wc))
                                        case first =>
                                          have H := HC64.out
                                          clear HC64
                                          by_cases c65 : (t212.length : Int) = (x4_49.length : Int)
                                          · rw [if_pos c65] at H
                                            have c65b0 : ((t212.length : Int) == (x4_49.length : Int)) = true := beq_iff_eq.mpr c65
                                            have c65b1 : ((t212.length : Int) != (x4_49.length : Int)) = false := bne_eq_false_iff_eq.mpr c65
                                            have c65b2 : (t212.length == x4_49.length) = true := by first | simpa using c65 | (simp at c65 ⊢; omega)
                                            clear c65
                                            (first | rw [c65b0] | (simp only [i64_w, i32_w]; rw [c65b0]) | skip)
                                            (try rw [c65b1])
                                            have H' := Aside0.mk H
                                            clear H
                                            have hnb66 := NB208_211.out
                                            have hnc66 := NB211_208.out
                                            have hcz67_0 : wc.cell? ⟨gb208, 0, none⟩ = some (.slice Ao19 t212.length co19) := (blk_cell BK208.out 0).trans rfl
                                            have hcz67_1 : wc.cell? ⟨gb208, 1, none⟩ = some (.int .i64 t215) := (blk_cell BK208.out 1).trans rfl
                                            have hfz67_0 := blk_frozen BK208.out 0
                                            have hfz67_1 := blk_frozen BK208.out 1
                                            obtain ⟨Ao68, co68, eo68⟩ := Kd.R_slice HO_4.out
                                            subst eo68
                                            go_wp2
                                            repeat (go_quiet (fail); try go_wp2)
                                            go_meet
                                            case rel => exact ⟨_, ((t215 != x5_41)), (by first | rfl | (simp; done) | (simp [*]; done)), H', ⟨by have := HK1.out; have := HK2.out; have := HJ29.out; have := HJ35.out; have := HJ41.out; have := HJ47.out; have := HJ49.out; first | omega | exact Nat.le_refl _⟩, ⟨by (with_reducible repeat (first | apply Kd.R_alloc | apply Kd.R_drewN | apply Kd.R_drew)); exact HO_4.out⟩, ⟨by (with_reducible repeat (first | apply Kd.R_alloc | apply Kd.R_drewN | apply Kd.R_drew)); exact HO_209000.out⟩, ⟨by (with_reducible repeat (first | refine blk_drewN ?_ _ | refine blk_drew ?_ | refine blk_alloc ?_ _)); exact BK208.out⟩, ⟨by (with_reducible repeat (first | refine blk_drewN ?_ _ | refine blk_drew ?_ | refine blk_alloc ?_ _)); exact BK211.out⟩, ⟨by repeat (first | (with_reducible first | exact HB.out | apply below_alloc | apply pw_below_drewN | apply below_drew1 | refine below_set ?_ GE208.out | refine below_set ?_ GE211.out) | exact HB.out)⟩⟩
                                          · rw [if_neg c65] at H
                                            have c65b0 : ((t212.length : Int) == (x4_49.length : Int)) = false := beq_eq_false_iff_ne.mpr c65
                                            have c65b1 : ((t212.length : Int) != (x4_49.length : Int)) = true := bne_iff_ne.mpr c65
                                            have c65b2 : (t212.length == x4_49.length) = false := by first | simpa using c65 | (simp at c65 ⊢; omega)
                                            (first | rw [c65b0] | (simp only [i64_w, i32_w]; rw [c65b0]) | skip)
                                            (try rw [c65b1])
                                            have H' := Aside0.mk H
                                            clear H
                                            have hnb69 := NB208_211.out
                                            have hnc69 := NB211_208.out
                                            have hcz70_0 : wc.cell? ⟨gb208, 0, none⟩ = some (.slice Ao19 t212.length co19) := (blk_cell BK208.out 0).trans rfl
                                            have hcz70_1 : wc.cell? ⟨gb208, 1, none⟩ = some (.int .i64 t215) := (blk_cell BK208.out 1).trans rfl
                                            have hfz70_0 := blk_frozen BK208.out 0
                                            have hfz70_1 := blk_frozen BK208.out 1
                                            obtain ⟨Ao71, co71, eo71⟩ := Kd.R_slice HO_4.out
                                            subst eo71
                                            go_wp2
                                            repeat (go_quiet (fail); try go_wp2)
                                            go_meet
                                            case rel => exact ⟨_, (true), (by first | rfl | (simp; done) | (simp [*]; done)), H', ⟨by have := HK1.out; have := HK2.out; have := HJ29.out; have := HJ35.out; have := HJ41.out; have := HJ47.out; have := HJ49.out; first | omega | exact Nat.le_refl _⟩, ⟨by (with_reducible repeat (first | apply Kd.R_alloc | apply Kd.R_drewN | apply Kd.R_drew)); exact HO_4.out⟩, ⟨by (with_reducible repeat (first | apply Kd.R_alloc | apply Kd.R_drewN | apply Kd.R_drew)); exact HO_209000.out⟩, ⟨by (with_reducible repeat (first | refine blk_drewN ?_ _ | refine blk_drew ?_ | refine blk_alloc ?_ _)); exact BK208.out⟩, ⟨by (with_reducible repeat (first | refine blk_drewN ?_ _ | refine blk_drew ?_ | refine blk_alloc ?_ _)); exact BK211.out⟩, ⟨by repeat (first | (with_reducible first | exact HB.out | apply below_alloc | apply pw_below_drewN | apply below_drew1 | refine below_set ?_ GE208.out | refine below_set ?_ GE211.out) | exact HB.out)⟩⟩
                                        case rest =>
                                          clear HC64
                                          try clear c1
                                          try clear c2
                                          try clear c2b0
                                          try clear c2b1
                                          try clear p2
                                          try clear q2
                                          try clear hx2
                                          try clear c3
                                          try clear c4
                                          try clear c5
                                          try clear q5
                                          try clear c6
                                          try clear p6
                                          try clear q6
                                          try clear c7
                                          try clear c7b0
                                          try clear c8
                                          try clear c8b0
                                          try clear c9
                                          try clear c9b0
                                          try clear c12
                                          try clear p21
                                          try clear q21
                                          try clear hx21
                                          try clear c22
                                          try clear c22b0
                                          try clear c23
                                          try clear c23b0
                                          try clear c24
                                          try clear c24b0
                                          try clear c25
                                          try clear c25b0
                                          try clear c25b1
                                          try clear c26
                                          try clear c28
                                          try clear c31
                                          try clear c31b0
                                          try clear c31b1
                                          try clear c32
                                          try clear c34
                                          try clear c37
                                          try clear c38
                                          try clear c38b0
                                          try clear c40
                                          try clear c43
                                          try clear c44
                                          try clear c45
                                          try clear c49
                                          try clear c51
                                          try clear c52
                                          try clear c52b0
                                          try clear c52b1
                                          try clear c53
                                          try clear c53b0
                                          try clear c53b1
                                          try clear c54
                                          try clear c56
                                          try clear c56b0
                                          try clear c56b1
                                          try clear c57
                                          try clear c57b0
                                          try clear c57b1
                                          try clear c58
                                          try clear q59
                                          try clear c62
                                          try clear q62
                                          try clear p64
                                          try clear c65
                                          try clear c65b0
                                          try clear c65b1
                                          try clear c65b2
                                          try clear c66
                                          try clear c69
                                          try clear hcz13_0
                                          try clear hcz13_1
                                          try clear hcz15_0
                                          try clear hcz15_1
                                          try clear hcz16_0
                                          try clear hcz16_1
                                          try clear hcz20_0
                                          try clear hcz20_1
                                          try clear hcz27_0
                                          try clear hcz27_1
                                          try clear hcz29_0
                                          try clear hcz29_1
                                          try clear hcz33_0
                                          try clear hcz33_1
                                          try clear hcz35_0
                                          try clear hcz35_1
                                          try clear hcz41_0
                                          try clear hcz41_1
                                          try clear hcz46_0
                                          try clear hcz46_1
                                          try clear hcz67_0
                                          try clear hcz67_1
                                          try clear hcz6_0
                                          try clear hcz6_1
                                          try clear hcz70_0
                                          try clear hcz70_1
                                          try clear hfz13_0
                                          try clear hfz13_1
                                          try clear hfz15_0
                                          try clear hfz15_1
                                          try clear hfz16_0
                                          try clear hfz16_1
                                          try clear hfz20_0
                                          try clear hfz20_1
                                          try clear hfz27_0
                                          try clear hfz27_1
                                          try clear hfz29_0
                                          try clear hfz29_1
                                          try clear hfz33_0
                                          try clear hfz33_1
                                          try clear hfz35_0
                                          try clear hfz35_1
                                          try clear hfz41_0
                                          try clear hfz41_1
                                          try clear hfz46_0
                                          try clear hfz46_1
                                          try clear hfz67_0
                                          try clear hfz67_1
                                          try clear hfz6_0
                                          try clear hfz6_1
                                          try clear hfz70_0
                                          try clear hfz70_1
                                          try clear hx210_0
                                          try clear hx210_1
                                          try clear hx216_0
                                          try clear p2
                                          try clear p21
                                          try clear p210
                                          try clear p216
                                          try clear p6
                                          try clear q062
                                          try clear q2
                                          try clear q21
                                          try clear q210
                                          try clear q216
                                          try clear q5
                                          try clear q59
                                          try clear q6
                                          try clear q62
                                          obtain ⟨kq, x99_63, rfl, HA, HJ63, HO_4, HO_209000, BK208, BK211, HB⟩ := hcut
                                          cases kq with
                                          | zero => exact absurd HA.out (by simp [sextonlaw10_FolderHas.j7])
                                          | succ kj63 =>
                                            have H := HA.out
                                            clear HA
                                            simp only [sextonlaw10_FolderHas.j7] at H
                                            by_cases c72 : x99_63 = true
                                            · subst c72
                                              have H1 : (none) = some r := by rw [if_pos rfl] at H; exact H
                                              clear H
                                              have H := H1
                                              clear H1
                                              exact absurd H (by simp)
                                            · replace c72 := Bool.eq_false_iff.mpr c72
                                              subst c72
                                              have H1 : (sextonlaw10_FolderHas.l2 kj63 x4_49 x5_41 l0 (l0.length : Int) x24_1 x4_49 (x4_49.length : Int) 0 t212 t215) = some r := by rw [if_neg (show ¬ (false = true) by decide)] at H; exact H
                                              clear H
                                              have H := H1
                                              clear H1
                                              have H' := Aside0.mk H
                                              clear H
                                              obtain ⟨Ao73, co73, eo73⟩ := Kd.R_slice HO_4.out
                                              subst eo73
                                              go_wp2
                                              repeat (go_quiet (fail); try go_wp2)
                                              go_loopg [102] kj63 (fun kq v102 w' => ∃ (x102_9 : Int), v102 = .int .i64 x102_9 ∧ Aside0 (sextonlaw10_FolderHas.l2 kq x4_49 x5_41 l0 (l0.length : Int) x24_1 x4_49 (x4_49.length : Int) x102_9 t212 t215 = some r) ∧ Aside0 (kq ≤ kj63) ∧ Aside0 (Kd.R Kd.string 9 w' w.heap.size (fun _ => True) (.slice Ao73 x4_49.length co73) x4_49) ∧ Aside0 (Kd.R Kd.string 9 w' w.heap.size (fun _ => True) (.slice Ao73 x4_49.length co73) x4_49) ∧ Aside0 (Kd.R k30 30 w' w.heap.size (fun _ => True) (.slice Ao19 t212.length co19) t212) ∧ Aside0 (w'.heap[gb208]? = some (.cells #[(.slice Ao19 t212.length co19), .int .i64 t215] 24 (0, 0))) ∧ Aside0 (w'.heap[gb211]? = some (.cells #[.int .i64 ((rd_T55 l0 x24_1).f0), .string ((rd_T55 l0 x24_1).f1)] 55 (0, 0))) ∧ Aside0 (Below w.heap.size w w'))
                                              case atStart => exact ⟨(0), (by first | rfl | (simp; done) | (simp [*]; done)), H', ⟨Nat.le_refl _⟩, ⟨by (with_reducible repeat (first | apply Kd.R_alloc | apply Kd.R_drewN | apply Kd.R_drew)); exact HO_4.out⟩, ⟨by (with_reducible repeat (first | apply Kd.R_alloc | apply Kd.R_drewN | apply Kd.R_drew)); exact HO_4.out⟩, ⟨by (with_reducible repeat (first | apply Kd.R_alloc | apply Kd.R_drewN | apply Kd.R_drew)); exact HO_209000.out⟩, ⟨by (with_reducible repeat (first | refine blk_drewN ?_ _ | refine blk_drew ?_ | refine blk_alloc ?_ _)); exact BK208.out⟩, ⟨by (with_reducible repeat (first | refine blk_drewN ?_ _ | refine blk_drew ?_ | refine blk_alloc ?_ _)); exact BK211.out⟩, ⟨by repeat (first | (with_reducible first | exact HB.out | apply below_alloc | apply pw_below_drewN | apply below_drew1 | refine below_set ?_ GE208.out | refine below_set ?_ GE211.out) | exact HB.out)⟩⟩
                                              case round =>
                                                clear H'
                                                try clear c1
                                                try clear c2
                                                try clear c2b0
                                                try clear c2b1
                                                try clear p2
                                                try clear q2
                                                try clear hx2
                                                try clear c3
                                                try clear c4
                                                try clear c5
                                                try clear q5
                                                try clear c6
                                                try clear p6
                                                try clear q6
                                                try clear c7
                                                try clear c7b0
                                                try clear c8
                                                try clear c8b0
                                                try clear c9
                                                try clear c9b0
                                                try clear c12
                                                try clear p21
                                                try clear q21
                                                try clear hx21
                                                try clear c22
                                                try clear c22b0
                                                try clear c23
                                                try clear c23b0
                                                try clear c24
                                                try clear c24b0
                                                try clear c25
                                                try clear c25b0
                                                try clear c25b1
                                                try clear c26
                                                try clear c28
                                                try clear c31
                                                try clear c31b0
                                                try clear c31b1
                                                try clear c32
                                                try clear c34
                                                try clear c37
                                                try clear c38
                                                try clear c38b0
                                                try clear c40
                                                try clear c43
                                                try clear c44
                                                try clear c45
                                                try clear c49
                                                try clear c51
                                                try clear c52
                                                try clear c52b0
                                                try clear c52b1
                                                try clear c53
                                                try clear c53b0
                                                try clear c53b1
                                                try clear c54
                                                try clear c56
                                                try clear c56b0
                                                try clear c56b1
                                                try clear c57
                                                try clear c57b0
                                                try clear c57b1
                                                try clear c58
                                                try clear q59
                                                try clear c62
                                                try clear q62
                                                try clear p64
                                                try clear c65
                                                try clear c65b0
                                                try clear c65b1
                                                try clear c65b2
                                                try clear c66
                                                try clear c69
                                                try clear c72
                                                try clear hcz13_0
                                                try clear hcz13_1
                                                try clear hcz15_0
                                                try clear hcz15_1
                                                try clear hcz16_0
                                                try clear hcz16_1
                                                try clear hcz20_0
                                                try clear hcz20_1
                                                try clear hcz27_0
                                                try clear hcz27_1
                                                try clear hcz29_0
                                                try clear hcz29_1
                                                try clear hcz33_0
                                                try clear hcz33_1
                                                try clear hcz35_0
                                                try clear hcz35_1
                                                try clear hcz41_0
                                                try clear hcz41_1
                                                try clear hcz46_0
                                                try clear hcz46_1
                                                try clear hcz67_0
                                                try clear hcz67_1
                                                try clear hcz6_0
                                                try clear hcz6_1
                                                try clear hcz70_0
                                                try clear hcz70_1
                                                try clear hfz13_0
                                                try clear hfz13_1
                                                try clear hfz15_0
                                                try clear hfz15_1
                                                try clear hfz16_0
                                                try clear hfz16_1
                                                try clear hfz20_0
                                                try clear hfz20_1
                                                try clear hfz27_0
                                                try clear hfz27_1
                                                try clear hfz29_0
                                                try clear hfz29_1
                                                try clear hfz33_0
                                                try clear hfz33_1
                                                try clear hfz35_0
                                                try clear hfz35_1
                                                try clear hfz41_0
                                                try clear hfz41_1
                                                try clear hfz46_0
                                                try clear hfz46_1
                                                try clear hfz67_0
                                                try clear hfz67_1
                                                try clear hfz6_0
                                                try clear hfz6_1
                                                try clear hfz70_0
                                                try clear hfz70_1
                                                try clear hx210_0
                                                try clear hx210_1
                                                try clear hx216_0
                                                try clear p2
                                                try clear p21
                                                try clear p210
                                                try clear p216
                                                try clear p6
                                                try clear p64
                                                try clear q062
                                                try clear q2
                                                try clear q21
                                                try clear q210
                                                try clear q216
                                                try clear q5
                                                try clear q59
                                                try clear q6
                                                try clear q62
                                                obtain ⟨x102_9, rfl, HA, HK9, HO_4, HO_100, HO_209000, BK208, BK211, HB⟩ := hrel
                                                cases gk with
                                                | zero => exact absurd HA.out (by simp [sextonlaw10_FolderHas.l2])
                                                | succ k9 =>
                                                  have H := HA.out
                                                  clear HA
                                                  simp only [sextonlaw10_FolderHas.l2] at H
                                                  by_cases c74 : x102_9 < (x4_49.length : Int)
                                                  · rw [if_pos c74] at H
                                                    have c74b0 : decide (x102_9 < (x4_49.length : Int)) = true := decide_eq_true c74
                                                    clear c74
                                                    by_cases c75 : 0 ≤ x102_9
                                                    · rw [if_pos c75] at H
                                                      have c75b0 : decide (0 ≤ x102_9) = true := decide_eq_true c75
                                                      clear c75
                                                      by_cases c76 : x102_9 < (x4_49.length : Int)
                                                      · rw [if_pos c76] at H
                                                        have c76b0 : decide (x102_9 < (x4_49.length : Int)) = true := decide_eq_true c76
                                                        clear c76
                                                        replace H := Option.bind_eq_some_iff.mp H
                                                        obtain ⟨⟨t236, t237, t238, t239, t240⟩, A770, H⟩ := H
                                                        replace H : (if t240 = 0 then (if x102_9 < (t212.length : Int) then (if (!(t236.toList == (((rd_T30 t212 x102_9).f0).toList)) || (!(t237 == ((rd_T30 t212 x102_9).f1)) || ((!(t238 == ((rd_T30 t212 x102_9).f2.f0)) || (!(t239 == ((rd_T30 t212 x102_9).f2.f1))))))) = true then (none) else (sextonlaw10_FolderHas.l2 k9 x4_49 x5_41 l0 (l0.length : Int) x24_1 x4_49 (x4_49.length : Int) (wrap64 (x102_9 + 1)) t212 t215)) else (none)) else (none)) = some r := H
                                                        have A77 := Aside0.mk A770
                                                        clear A770
                                                        by_cases c78 : t240 = 0
                                                        · rw [if_pos c78] at H
                                                          have c78b0 : (t240 == 0) = true := beq_iff_eq.mpr c78
                                                          have c78b1 : (t240 != 0) = false := bne_eq_false_iff_eq.mpr c78
                                                          clear c78
                                                          by_cases c79 : x102_9 < (t212.length : Int)
                                                          · rw [if_pos c79] at H
                                                            have c79b0 : decide (x102_9 < (t212.length : Int)) = true := decide_eq_true c79
                                                            clear c79
                                                            by_cases c80 : (!(t236.toList == (((rd_T30 t212 x102_9).f0).toList)) || (!(t237 == ((rd_T30 t212 x102_9).f1)) || ((!(t238 == ((rd_T30 t212 x102_9).f2.f0)) || (!(t239 == ((rd_T30 t212 x102_9).f2.f1))))))) = true
                                                            · rw [if_pos c80] at H
                                                              exact absurd H (by simp)
                                                            · rw [if_neg c80] at H
                                                              have c80b0 : (!(t236.toList == (((rd_T30 t212 x102_9).f0).toList)) || (!(t237 == ((rd_T30 t212 x102_9).f1)) || ((!(t238 == ((rd_T30 t212 x102_9).f2.f0)) || (!(t239 == ((rd_T30 t212 x102_9).f2.f1))))))) = false := by simpa using c80
                                                              clear c80
                                                              have H' := Aside0.mk H
                                                              clear H
                                                              have p235 : 0 ≤ (x102_9 : Int) := of_decide_eq_true (by first | (with_reducible assumption) | assumption)
                                                              have q235 : x102_9 < (x4_49.length : Int) := of_decide_eq_true (by first | (with_reducible assumption) | assumption)
                                                              obtain ⟨ad235, e235, hx235_0⟩ := Kd.at_string (Kd.R_reads' HO_100.out).2.2 x102_9 p235 q235
                                                              cases e235
                                                              replace p235 := eq_true p235
                                                              replace q235 := eq_true q235
                                                              have hnb81 := NB208_211.out
                                                              have hnc81 := NB211_208.out
                                                              have hcz82_0 : wr.cell? ⟨gb208, 0, none⟩ = some (.slice Ao19 t212.length co19) := (blk_cell BK208.out 0).trans rfl
                                                              have hcz82_1 : wr.cell? ⟨gb208, 1, none⟩ = some (.int .i64 t215) := (blk_cell BK208.out 1).trans rfl
                                                              have hfz82_0 := blk_frozen BK208.out 0
                                                              have hfz82_1 := blk_frozen BK208.out 1
                                                              go_wp2_with (first | (go_at_call 11; (with_reducible refine (folder_Find.calls k9 _ _ t212 t215 (rdOf ByteArray.empty x4_49 x102_9) t236 t237 t238 t239 t240 _ ?side1 ?side2 A77.out).mono ?_); (case side1 => repeat (first | exact (Kd.R_reads' HO_209000.out).2.2 | (with_reducible refine Kd.C_alloc ?_ _) | (with_reducible refine Kd.C_drewN ?_ _) | (with_reducible refine Kd.C_drew ?_))); (case side2 => exact (Kd.R_reads' HO_209000.out).2.1); rintro e w83 ⟨rfl, hb⟩; have n0_ := Aside0.mk (Kd.R_below (by (with_reducible repeat (first | apply Kd.R_alloc | apply Kd.R_drewN | apply Kd.R_drew)); exact HO_4.out) hb); have n1_ := Aside0.mk (Kd.R_below (by (with_reducible repeat (first | apply Kd.R_alloc | apply Kd.R_drewN | apply Kd.R_drew)); exact HO_100.out) hb); have n2_ := Aside0.mk (Kd.R_below (by (with_reducible repeat (first | apply Kd.R_alloc | apply Kd.R_drewN | apply Kd.R_drew)); exact HO_209000.out) hb); have n3_ := Aside0.mk (blk_below (g := gb208) (o := .cells #[.slice Ao19 t212.length co19, .int .i64 t215] 24 (0, 0)) (by (with_reducible repeat (first | refine blk_drewN ?_ _ | refine blk_drew ?_ | refine blk_alloc ?_ _)); exact BK208.out) hb); have n4_ := Aside0.mk (blk_below (g := gb211) (o := .cells #[.int .i64 ((rd_T55 l0 x24_1).f0), .string ((rd_T55 l0 x24_1).f1)] 55 (0, 0)) (by (with_reducible repeat (first | refine blk_drewN ?_ _ | refine blk_drew ?_ | refine blk_alloc ?_ _)); exact BK211.out) hb); have n5_ := Aside0.mk (below_step (by repeat (first | (with_reducible first | exact HB.out | apply below_alloc | apply pw_below_drewN | apply below_drew1 | refine below_set ?_ GE208.out | refine below_set ?_ GE211.out) | exact HB.out)) hb); clear HO_4; clear HO_100; clear HO_209000; clear BK208; clear BK211; clear HB; have HO_4 := n0_; have HO_100 := n1_; have HO_209000 := n2_; have BK208 := n3_; have BK211 := n4_; have HB := n5_; clear n0_ n1_ n2_ n3_ n4_ n5_; (try clear hb); (try clear hb2); (try clear hk); (try clear hi)) | ((with_reducible refine gate_dst (N := 15) rfl ?_); refine box_event ?hg (N := 15) ?hd (cs := #[.string (⟨#[]⟩ : ByteArray), .int .i64 0, .int .i64 0, .int .i64 0]) (t := 30) ?hr ?_; (case hd => rfl); (case hg => rfl); (case hr => first | (go_simp; done) | (go_simp; rfl)); intro gb241 hg w84 hbox hb; have n0_ := Aside0.mk (Kd.R_below (by (with_reducible repeat (first | apply Kd.R_alloc | apply Kd.R_drewN | apply Kd.R_drew)); exact HO_4.out) hb); have n1_ := Aside0.mk (Kd.R_below (by (with_reducible repeat (first | apply Kd.R_alloc | apply Kd.R_drewN | apply Kd.R_drew)); exact HO_100.out) hb); have n2_ := Aside0.mk (Kd.R_below (Kd.R_elderB (by (with_reducible repeat (first | apply Kd.R_alloc | apply Kd.R_drewN | apply Kd.R_drew)); exact HO_209000.out) gb241 (Nat.le_of_eq hg.symm)) hb); have n3_ := Aside0.mk (blk_below (g := gb208) (o := .cells #[.slice Ao19 t212.length co19, .int .i64 t215] 24 (0, 0)) (by (with_reducible repeat (first | refine blk_drewN ?_ _ | refine blk_drew ?_ | refine blk_alloc ?_ _)); exact BK208.out) hb); have n4_ := Aside0.mk (blk_below (g := gb211) (o := .cells #[.int .i64 ((rd_T55 l0 x24_1).f0), .string ((rd_T55 l0 x24_1).f1)] 55 (0, 0)) (by (with_reducible repeat (first | refine blk_drewN ?_ _ | refine blk_drew ?_ | refine blk_alloc ?_ _)); exact BK211.out) hb); have n5_ := Aside0.mk (below_step (by repeat (first | (with_reducible first | exact HB.out | apply below_alloc | apply pw_below_drewN | apply below_drew1 | refine below_set ?_ GE208.out | refine below_set ?_ GE211.out) | exact HB.out)) hb); have n6_ := Aside0.mk (hbox); have n7_ := Aside0.mk ((by rw [hg]; exact (below_size (by repeat (first | (with_reducible first | exact HB.out | apply below_alloc | apply pw_below_drewN | apply below_drew1 | refine below_set ?_ GE208.out | refine below_set ?_ GE211.out) | exact HB.out))) : w.heap.size ≤ gb241)); have n8_ := Aside0.mk ((by rw [hg]; exact (below_size (by repeat (first | (with_reducible first | exact HB.out | apply below_alloc | apply pw_below_drewN | apply below_drew1 | refine below_set ?_ GE208.out | refine below_set ?_ GE211.out) | exact HB.out))) : w.heap.size ≤ gb241)); have n9_ := Aside0.mk ((by rw [hg]; exact Nat.ne_of_lt (blk_lt (g := gb208) (o := .cells #[.slice Ao19 t212.length co19, .int .i64 t215] 24 (0, 0)) (by (with_reducible repeat (first | refine blk_drewN ?_ _ | refine blk_drew ?_ | refine blk_alloc ?_ _)); exact BK208.out)) : gb208 ≠ gb241)); have n10_ := Aside0.mk ((by rw [hg]; exact Nat.ne_of_gt (blk_lt (g := gb208) (o := .cells #[.slice Ao19 t212.length co19, .int .i64 t215] 24 (0, 0)) (by (with_reducible repeat (first | refine blk_drewN ?_ _ | refine blk_drew ?_ | refine blk_alloc ?_ _)); exact BK208.out)) : gb241 ≠ gb208)); have n11_ := Aside0.mk ((by rw [hg]; exact Nat.ne_of_lt (blk_lt (g := gb211) (o := .cells #[.int .i64 ((rd_T55 l0 x24_1).f0), .string ((rd_T55 l0 x24_1).f1)] 55 (0, 0)) (by (with_reducible repeat (first | refine blk_drewN ?_ _ | refine blk_drew ?_ | refine blk_alloc ?_ _)); exact BK211.out)) : gb211 ≠ gb241)); have n12_ := Aside0.mk ((by rw [hg]; exact Nat.ne_of_gt (blk_lt (g := gb211) (o := .cells #[.int .i64 ((rd_T55 l0 x24_1).f0), .string ((rd_T55 l0 x24_1).f1)] 55 (0, 0)) (by (with_reducible repeat (first | refine blk_drewN ?_ _ | refine blk_drew ?_ | refine blk_alloc ?_ _)); exact BK211.out)) : gb241 ≠ gb211)); clear HO_4; clear HO_100; clear HO_209000; clear BK208; clear BK211; clear HB; have HO_4 := n0_; have HO_100 := n1_; have HO_209000 := n2_; have BK208 := n3_; have BK211 := n4_; have HB := n5_; have BK241 := n6_; have GW241 := n7_; have GE241 := n8_; have NB208_241 := n9_; have NB241_208 := n10_; have NB211_241 := n11_; have NB241_211 := n12_; clear n0_ n1_ n2_ n3_ n4_ n5_ n6_ n7_ n8_ n9_ n10_ n11_ n12_; clear hb hbox hg; have hnb85 := NB241_208.out; have hnc85 := NB208_241.out; have hnb86 := NB241_211.out; have hnc86 := NB211_241.out; have hcz87_0 : w84.cell? ⟨gb241, 0, none⟩ = some (.string (⟨#[]⟩ : ByteArray)) := (blk_cell BK241.out 0).trans rfl; have hcz87_1 : w84.cell? ⟨gb241, 1, none⟩ = some (.int .i64 0) := (blk_cell BK241.out 1).trans rfl; have hcz87_2 : w84.cell? ⟨gb241, 2, none⟩ = some (.int .i64 0) := (blk_cell BK241.out 2).trans rfl; have hcz87_3 : w84.cell? ⟨gb241, 3, none⟩ = some (.int .i64 0) := (blk_cell BK241.out 3).trans rfl; have hfz87_0 := blk_frozen BK241.out 0; have hfz87_1 := blk_frozen BK241.out 1; have hfz87_2 := blk_frozen BK241.out 2; have hfz87_3 := blk_frozen BK241.out 3; have hcz88_0 : w84.cell? ⟨gb208, 0, none⟩ = some (.slice Ao19 t212.length co19) := (blk_cell BK208.out 0).trans rfl; have hcz88_1 : w84.cell? ⟨gb208, 1, none⟩ = some (.int .i64 t215) := (blk_cell BK208.out 1).trans rfl; have hfz88_0 := blk_frozen BK208.out 0; have hfz88_1 := blk_frozen BK208.out 1; have p242 : 0 ≤ (x102_9 : Int) := of_decide_eq_true (by first | (with_reducible assumption) | assumption); have q242 : x102_9 < (t212.length : Int) := of_decide_eq_true (by first | (with_reducible assumption) | assumption); obtain ⟨ad242, e242, hx242_0, hx242_1, hx242_2, hx242_3⟩ := at_T30 (Kd.R_reads' HO_209000.out).2.2 x102_9 p242 q242; cases e242; have hn242_0 : ad242.block ≠ gb241 := Kd.own_blk (Kd.R_away HO_209000.out (fun k hk => hk.2)); have hn242_1 : ad242.block ≠ gb241 := Kd.own_blk (Kd.R_away HO_209000.out (fun k hk => hk.2)); have hn242_2 : ad242.block ≠ gb241 := Kd.own_blk (Kd.R_away HO_209000.out (fun k hk => hk.2)); have hn242_3 : ad242.block ≠ gb241 := Kd.own_blk (Kd.R_away HO_209000.out (fun k hk => hk.2)); replace hx242_0 := (cell_far (p := ⟨gb241, 0, none⟩) (by first | (rw [add_block]; exact hn242_0) | (show (Addr.add _ _).block ≠ _; rw [add_block]; exact hn242_0) | exact hn242_0) (.string t236)).trans hx242_0; replace hx242_1 := (cell_far (p := ⟨gb241, 0, none⟩) (by first | (rw [add_block]; exact hn242_0) | (show (Addr.add _ _).block ≠ _; rw [add_block]; exact hn242_0) | exact hn242_0) (.string t236)).trans hx242_1; replace hx242_2 := (cell_far (p := ⟨gb241, 0, none⟩) (by first | (rw [add_block]; exact hn242_0) | (show (Addr.add _ _).block ≠ _; rw [add_block]; exact hn242_0) | exact hn242_0) (.string t236)).trans hx242_2; replace hx242_3 := (cell_far (p := ⟨gb241, 0, none⟩) (by first | (rw [add_block]; exact hn242_0) | (show (Addr.add _ _).block ≠ _; rw [add_block]; exact hn242_0) | exact hn242_0) (.string t236)).trans hx242_3; replace hx242_0 := (cell_far (p := ⟨gb241, 1, none⟩) (by first | (rw [add_block]; exact hn242_1) | (show (Addr.add _ _).block ≠ _; rw [add_block]; exact hn242_1) | exact hn242_1) (.int .i64 t237)).trans hx242_0; replace hx242_1 := (cell_far (p := ⟨gb241, 1, none⟩) (by first | (rw [add_block]; exact hn242_1) | (show (Addr.add _ _).block ≠ _; rw [add_block]; exact hn242_1) | exact hn242_1) (.int .i64 t237)).trans hx242_1; replace hx242_2 := (cell_far (p := ⟨gb241, 1, none⟩) (by first | (rw [add_block]; exact hn242_1) | (show (Addr.add _ _).block ≠ _; rw [add_block]; exact hn242_1) | exact hn242_1) (.int .i64 t237)).trans hx242_2; replace hx242_3 := (cell_far (p := ⟨gb241, 1, none⟩) (by first | (rw [add_block]; exact hn242_1) | (show (Addr.add _ _).block ≠ _; rw [add_block]; exact hn242_1) | exact hn242_1) (.int .i64 t237)).trans hx242_3; replace hx242_0 := (cell_far (p := ⟨gb241, 2, none⟩) (by first | (rw [add_block]; exact hn242_2) | (show (Addr.add _ _).block ≠ _; rw [add_block]; exact hn242_2) | exact hn242_2) (.int .i64 t238)).trans hx242_0; replace hx242_1 := (cell_far (p := ⟨gb241, 2, none⟩) (by first | (rw [add_block]; exact hn242_2) | (show (Addr.add _ _).block ≠ _; rw [add_block]; exact hn242_2) | exact hn242_2) (.int .i64 t238)).trans hx242_1; replace hx242_2 := (cell_far (p := ⟨gb241, 2, none⟩) (by first | (rw [add_block]; exact hn242_2) | (show (Addr.add _ _).block ≠ _; rw [add_block]; exact hn242_2) | exact hn242_2) (.int .i64 t238)).trans hx242_2; replace hx242_3 := (cell_far (p := ⟨gb241, 2, none⟩) (by first | (rw [add_block]; exact hn242_2) | (show (Addr.add _ _).block ≠ _; rw [add_block]; exact hn242_2) | exact hn242_2) (.int .i64 t238)).trans hx242_3; replace hx242_0 := (cell_far (p := ⟨gb241, 3, none⟩) (by first | (rw [add_block]; exact hn242_3) | (show (Addr.add _ _).block ≠ _; rw [add_block]; exact hn242_3) | exact hn242_3) (.int .i64 t239)).trans hx242_0; replace hx242_1 := (cell_far (p := ⟨gb241, 3, none⟩) (by first | (rw [add_block]; exact hn242_3) | (show (Addr.add _ _).block ≠ _; rw [add_block]; exact hn242_3) | exact hn242_3) (.int .i64 t239)).trans hx242_1; replace hx242_2 := (cell_far (p := ⟨gb241, 3, none⟩) (by first | (rw [add_block]; exact hn242_3) | (show (Addr.add _ _).block ≠ _; rw [add_block]; exact hn242_3) | exact hn242_3) (.int .i64 t239)).trans hx242_2; replace hx242_3 := (cell_far (p := ⟨gb241, 3, none⟩) (by first | (rw [add_block]; exact hn242_3) | (show (Addr.add _ _).block ≠ _; rw [add_block]; exact hn242_3) | exact hn242_3) (.int .i64 t239)).trans hx242_3; (try have hy242_0 := fun (n_ : Nat) => (show ((((((w84.drewN n_).setCell ⟨gb241, 0, none⟩ (.string t236)).setCell ⟨gb241, 1, none⟩ (.int .i64 t237)).setCell ⟨gb241, 2, none⟩ (.int .i64 t238)).setCell ⟨gb241, 3, none⟩ (.int .i64 t239))).cell? _ = some _ from hx242_0)); (try have hy242_1 := fun (n_ : Nat) => (show ((((((w84.drewN n_).setCell ⟨gb241, 0, none⟩ (.string t236)).setCell ⟨gb241, 1, none⟩ (.int .i64 t237)).setCell ⟨gb241, 2, none⟩ (.int .i64 t238)).setCell ⟨gb241, 3, none⟩ (.int .i64 t239))).cell? _ = some _ from hx242_1)); (try have hy242_2 := fun (n_ : Nat) => (show ((((((w84.drewN n_).setCell ⟨gb241, 0, none⟩ (.string t236)).setCell ⟨gb241, 1, none⟩ (.int .i64 t237)).setCell ⟨gb241, 2, none⟩ (.int .i64 t238)).setCell ⟨gb241, 3, none⟩ (.int .i64 t239))).cell? _ = some _ from hx242_2)); (try have hy242_3 := fun (n_ : Nat) => (show ((((((w84.drewN n_).setCell ⟨gb241, 0, none⟩ (.string t236)).setCell ⟨gb241, 1, none⟩ (.int .i64 t237)).setCell ⟨gb241, 2, none⟩ (.int .i64 t238)).setCell ⟨gb241, 3, none⟩ (.int .i64 t239))).cell? _ = some _ from hx242_3)); clear hn242_0; clear hn242_1; clear hn242_2; clear hn242_3; replace p242 := eq_true p242; replace q242 := eq_true q242))
                                                              repeat (go_quiet (first | (go_at_call 11; (with_reducible refine (folder_Find.calls k9 _ _ t212 t215 (rdOf ByteArray.empty x4_49 x102_9) t236 t237 t238 t239 t240 _ ?side1 ?side2 A77.out).mono ?_); (case side1 => repeat (first | exact (Kd.R_reads' HO_209000.out).2.2 | (with_reducible refine Kd.C_alloc ?_ _) | (with_reducible refine Kd.C_drewN ?_ _) | (with_reducible refine Kd.C_drew ?_))); (case side2 => exact (Kd.R_reads' HO_209000.out).2.1); rintro e w83 ⟨rfl, hb⟩; have n0_ := Aside0.mk (Kd.R_below (by (with_reducible repeat (first | apply Kd.R_alloc | apply Kd.R_drewN | apply Kd.R_drew)); exact HO_4.out) hb); have n1_ := Aside0.mk (Kd.R_below (by (with_reducible repeat (first | apply Kd.R_alloc | apply Kd.R_drewN | apply Kd.R_drew)); exact HO_100.out) hb); have n2_ := Aside0.mk (Kd.R_below (by (with_reducible repeat (first | apply Kd.R_alloc | apply Kd.R_drewN | apply Kd.R_drew)); exact HO_209000.out) hb); have n3_ := Aside0.mk (blk_below (g := gb208) (o := .cells #[.slice Ao19 t212.length co19, .int .i64 t215] 24 (0, 0)) (by (with_reducible repeat (first | refine blk_drewN ?_ _ | refine blk_drew ?_ | refine blk_alloc ?_ _)); exact BK208.out) hb); have n4_ := Aside0.mk (blk_below (g := gb211) (o := .cells #[.int .i64 ((rd_T55 l0 x24_1).f0), .string ((rd_T55 l0 x24_1).f1)] 55 (0, 0)) (by (with_reducible repeat (first | refine blk_drewN ?_ _ | refine blk_drew ?_ | refine blk_alloc ?_ _)); exact BK211.out) hb); have n5_ := Aside0.mk (below_step (by repeat (first | (with_reducible first | exact HB.out | apply below_alloc | apply pw_below_drewN | apply below_drew1 | refine below_set ?_ GE208.out | refine below_set ?_ GE211.out) | exact HB.out)) hb); clear HO_4; clear HO_100; clear HO_209000; clear BK208; clear BK211; clear HB; have HO_4 := n0_; have HO_100 := n1_; have HO_209000 := n2_; have BK208 := n3_; have BK211 := n4_; have HB := n5_; clear n0_ n1_ n2_ n3_ n4_ n5_; (try clear hb); (try clear hb2); (try clear hk); (try clear hi)) | ((with_reducible refine gate_dst (N := 15) rfl ?_); refine box_event ?hg (N := 15) ?hd (cs := #[.string (⟨#[]⟩ : ByteArray), .int .i64 0, .int .i64 0, .int .i64 0]) (t := 30) ?hr ?_; (case hd => rfl); (case hg => rfl); (case hr => first | (go_simp; done) | (go_simp; rfl)); intro gb241 hg w84 hbox hb; have n0_ := Aside0.mk (Kd.R_below (by (with_reducible repeat (first | apply Kd.R_alloc | apply Kd.R_drewN | apply Kd.R_drew)); exact HO_4.out) hb); have n1_ := Aside0.mk (Kd.R_below (by (with_reducible repeat (first | apply Kd.R_alloc | apply Kd.R_drewN | apply Kd.R_drew)); exact HO_100.out) hb); have n2_ := Aside0.mk (Kd.R_below (Kd.R_elderB (by (with_reducible repeat (first | apply Kd.R_alloc | apply Kd.R_drewN | apply Kd.R_drew)); exact HO_209000.out) gb241 (Nat.le_of_eq hg.symm)) hb); have n3_ := Aside0.mk (blk_below (g := gb208) (o := .cells #[.slice Ao19 t212.length co19, .int .i64 t215] 24 (0, 0)) (by (with_reducible repeat (first | refine blk_drewN ?_ _ | refine blk_drew ?_ | refine blk_alloc ?_ _)); exact BK208.out) hb); have n4_ := Aside0.mk (blk_below (g := gb211) (o := .cells #[.int .i64 ((rd_T55 l0 x24_1).f0), .string ((rd_T55 l0 x24_1).f1)] 55 (0, 0)) (by (with_reducible repeat (first | refine blk_drewN ?_ _ | refine blk_drew ?_ | refine blk_alloc ?_ _)); exact BK211.out) hb); have n5_ := Aside0.mk (below_step (by repeat (first | (with_reducible first | exact HB.out | apply below_alloc | apply pw_below_drewN | apply below_drew1 | refine below_set ?_ GE208.out | refine below_set ?_ GE211.out) | exact HB.out)) hb); have n6_ := Aside0.mk (hbox); have n7_ := Aside0.mk ((by rw [hg]; exact (below_size (by repeat (first | (with_reducible first | exact HB.out | apply below_alloc | apply pw_below_drewN | apply below_drew1 | refine below_set ?_ GE208.out | refine below_set ?_ GE211.out) | exact HB.out))) : w.heap.size ≤ gb241)); have n8_ := Aside0.mk ((by rw [hg]; exact (below_size (by repeat (first | (with_reducible first | exact HB.out | apply below_alloc | apply pw_below_drewN | apply below_drew1 | refine below_set ?_ GE208.out | refine below_set ?_ GE211.out) | exact HB.out))) : w.heap.size ≤ gb241)); have n9_ := Aside0.mk ((by rw [hg]; exact Nat.ne_of_lt (blk_lt (g := gb208) (o := .cells #[.slice Ao19 t212.length co19, .int .i64 t215] 24 (0, 0)) (by (with_reducible repeat (first | refine blk_drewN ?_ _ | refine blk_drew ?_ | refine blk_alloc ?_ _)); exact BK208.out)) : gb208 ≠ gb241)); have n10_ := Aside0.mk ((by rw [hg]; exact Nat.ne_of_gt (blk_lt (g := gb208) (o := .cells #[.slice Ao19 t212.length co19, .int .i64 t215] 24 (0, 0)) (by (with_reducible repeat (first | refine blk_drewN ?_ _ | refine blk_drew ?_ | refine blk_alloc ?_ _)); exact BK208.out)) : gb241 ≠ gb208)); have n11_ := Aside0.mk ((by rw [hg]; exact Nat.ne_of_lt (blk_lt (g := gb211) (o := .cells #[.int .i64 ((rd_T55 l0 x24_1).f0), .string ((rd_T55 l0 x24_1).f1)] 55 (0, 0)) (by (with_reducible repeat (first | refine blk_drewN ?_ _ | refine blk_drew ?_ | refine blk_alloc ?_ _)); exact BK211.out)) : gb211 ≠ gb241)); have n12_ := Aside0.mk ((by rw [hg]; exact Nat.ne_of_gt (blk_lt (g := gb211) (o := .cells #[.int .i64 ((rd_T55 l0 x24_1).f0), .string ((rd_T55 l0 x24_1).f1)] 55 (0, 0)) (by (with_reducible repeat (first | refine blk_drewN ?_ _ | refine blk_drew ?_ | refine blk_alloc ?_ _)); exact BK211.out)) : gb241 ≠ gb211)); clear HO_4; clear HO_100; clear HO_209000; clear BK208; clear BK211; clear HB; have HO_4 := n0_; have HO_100 := n1_; have HO_209000 := n2_; have BK208 := n3_; have BK211 := n4_; have HB := n5_; have BK241 := n6_; have GW241 := n7_; have GE241 := n8_; have NB208_241 := n9_; have NB241_208 := n10_; have NB211_241 := n11_; have NB241_211 := n12_; clear n0_ n1_ n2_ n3_ n4_ n5_ n6_ n7_ n8_ n9_ n10_ n11_ n12_; clear hb hbox hg; have hnb85 := NB241_208.out; have hnc85 := NB208_241.out; have hnb86 := NB241_211.out; have hnc86 := NB211_241.out; have hcz87_0 : w84.cell? ⟨gb241, 0, none⟩ = some (.string (⟨#[]⟩ : ByteArray)) := (blk_cell BK241.out 0).trans rfl; have hcz87_1 : w84.cell? ⟨gb241, 1, none⟩ = some (.int .i64 0) := (blk_cell BK241.out 1).trans rfl; have hcz87_2 : w84.cell? ⟨gb241, 2, none⟩ = some (.int .i64 0) := (blk_cell BK241.out 2).trans rfl; have hcz87_3 : w84.cell? ⟨gb241, 3, none⟩ = some (.int .i64 0) := (blk_cell BK241.out 3).trans rfl; have hfz87_0 := blk_frozen BK241.out 0; have hfz87_1 := blk_frozen BK241.out 1; have hfz87_2 := blk_frozen BK241.out 2; have hfz87_3 := blk_frozen BK241.out 3; have hcz88_0 : w84.cell? ⟨gb208, 0, none⟩ = some (.slice Ao19 t212.length co19) := (blk_cell BK208.out 0).trans rfl; have hcz88_1 : w84.cell? ⟨gb208, 1, none⟩ = some (.int .i64 t215) := (blk_cell BK208.out 1).trans rfl; have hfz88_0 := blk_frozen BK208.out 0; have hfz88_1 := blk_frozen BK208.out 1; have p242 : 0 ≤ (x102_9 : Int) := of_decide_eq_true (by first | (with_reducible assumption) | assumption); have q242 : x102_9 < (t212.length : Int) := of_decide_eq_true (by first | (with_reducible assumption) | assumption); obtain ⟨ad242, e242, hx242_0, hx242_1, hx242_2, hx242_3⟩ := at_T30 (Kd.R_reads' HO_209000.out).2.2 x102_9 p242 q242; cases e242; have hn242_0 : ad242.block ≠ gb241 := Kd.own_blk (Kd.R_away HO_209000.out (fun k hk => hk.2)); have hn242_1 : ad242.block ≠ gb241 := Kd.own_blk (Kd.R_away HO_209000.out (fun k hk => hk.2)); have hn242_2 : ad242.block ≠ gb241 := Kd.own_blk (Kd.R_away HO_209000.out (fun k hk => hk.2)); have hn242_3 : ad242.block ≠ gb241 := Kd.own_blk (Kd.R_away HO_209000.out (fun k hk => hk.2)); replace hx242_0 := (cell_far (p := ⟨gb241, 0, none⟩) (by first | (rw [add_block]; exact hn242_0) | (show (Addr.add _ _).block ≠ _; rw [add_block]; exact hn242_0) | exact hn242_0) (.string t236)).trans hx242_0; replace hx242_1 := (cell_far (p := ⟨gb241, 0, none⟩) (by first | (rw [add_block]; exact hn242_0) | (show (Addr.add _ _).block ≠ _; rw [add_block]; exact hn242_0) | exact hn242_0) (.string t236)).trans hx242_1; replace hx242_2 := (cell_far (p := ⟨gb241, 0, none⟩) (by first | (rw [add_block]; exact hn242_0) | (show (Addr.add _ _).block ≠ _; rw [add_block]; exact hn242_0) | exact hn242_0) (.string t236)).trans hx242_2; replace hx242_3 := (cell_far (p := ⟨gb241, 0, none⟩) (by first | (rw [add_block]; exact hn242_0) | (show (Addr.add _ _).block ≠ _; rw [add_block]; exact hn242_0) | exact hn242_0) (.string t236)).trans hx242_3; replace hx242_0 := (cell_far (p := ⟨gb241, 1, none⟩) (by first | (rw [add_block]; exact hn242_1) | (show (Addr.add _ _).block ≠ _; rw [add_block]; exact hn242_1) | exact hn242_1) (.int .i64 t237)).trans hx242_0; replace hx242_1 := (cell_far (p := ⟨gb241, 1, none⟩) (by first | (rw [add_block]; exact hn242_1) | (show (Addr.add _ _).block ≠ _; rw [add_block]; exact hn242_1) | exact hn242_1) (.int .i64 t237)).trans hx242_1; replace hx242_2 := (cell_far (p := ⟨gb241, 1, none⟩) (by first | (rw [add_block]; exact hn242_1) | (show (Addr.add _ _).block ≠ _; rw [add_block]; exact hn242_1) | exact hn242_1) (.int .i64 t237)).trans hx242_2; replace hx242_3 := (cell_far (p := ⟨gb241, 1, none⟩) (by first | (rw [add_block]; exact hn242_1) | (show (Addr.add _ _).block ≠ _; rw [add_block]; exact hn242_1) | exact hn242_1) (.int .i64 t237)).trans hx242_3; replace hx242_0 := (cell_far (p := ⟨gb241, 2, none⟩) (by first | (rw [add_block]; exact hn242_2) | (show (Addr.add _ _).block ≠ _; rw [add_block]; exact hn242_2) | exact hn242_2) (.int .i64 t238)).trans hx242_0; replace hx242_1 := (cell_far (p := ⟨gb241, 2, none⟩) (by first | (rw [add_block]; exact hn242_2) | (show (Addr.add _ _).block ≠ _; rw [add_block]; exact hn242_2) | exact hn242_2) (.int .i64 t238)).trans hx242_1; replace hx242_2 := (cell_far (p := ⟨gb241, 2, none⟩) (by first | (rw [add_block]; exact hn242_2) | (show (Addr.add _ _).block ≠ _; rw [add_block]; exact hn242_2) | exact hn242_2) (.int .i64 t238)).trans hx242_2; replace hx242_3 := (cell_far (p := ⟨gb241, 2, none⟩) (by first | (rw [add_block]; exact hn242_2) | (show (Addr.add _ _).block ≠ _; rw [add_block]; exact hn242_2) | exact hn242_2) (.int .i64 t238)).trans hx242_3; replace hx242_0 := (cell_far (p := ⟨gb241, 3, none⟩) (by first | (rw [add_block]; exact hn242_3) | (show (Addr.add _ _).block ≠ _; rw [add_block]; exact hn242_3) | exact hn242_3) (.int .i64 t239)).trans hx242_0; replace hx242_1 := (cell_far (p := ⟨gb241, 3, none⟩) (by first | (rw [add_block]; exact hn242_3) | (show (Addr.add _ _).block ≠ _; rw [add_block]; exact hn242_3) | exact hn242_3) (.int .i64 t239)).trans hx242_1; replace hx242_2 := (cell_far (p := ⟨gb241, 3, none⟩) (by first | (rw [add_block]; exact hn242_3) | (show (Addr.add _ _).block ≠ _; rw [add_block]; exact hn242_3) | exact hn242_3) (.int .i64 t239)).trans hx242_2; replace hx242_3 := (cell_far (p := ⟨gb241, 3, none⟩) (by first | (rw [add_block]; exact hn242_3) | (show (Addr.add _ _).block ≠ _; rw [add_block]; exact hn242_3) | exact hn242_3) (.int .i64 t239)).trans hx242_3; (try have hy242_0 := fun (n_ : Nat) => (show ((((((w84.drewN n_).setCell ⟨gb241, 0, none⟩ (.string t236)).setCell ⟨gb241, 1, none⟩ (.int .i64 t237)).setCell ⟨gb241, 2, none⟩ (.int .i64 t238)).setCell ⟨gb241, 3, none⟩ (.int .i64 t239))).cell? _ = some _ from hx242_0)); (try have hy242_1 := fun (n_ : Nat) => (show ((((((w84.drewN n_).setCell ⟨gb241, 0, none⟩ (.string t236)).setCell ⟨gb241, 1, none⟩ (.int .i64 t237)).setCell ⟨gb241, 2, none⟩ (.int .i64 t238)).setCell ⟨gb241, 3, none⟩ (.int .i64 t239))).cell? _ = some _ from hx242_1)); (try have hy242_2 := fun (n_ : Nat) => (show ((((((w84.drewN n_).setCell ⟨gb241, 0, none⟩ (.string t236)).setCell ⟨gb241, 1, none⟩ (.int .i64 t237)).setCell ⟨gb241, 2, none⟩ (.int .i64 t238)).setCell ⟨gb241, 3, none⟩ (.int .i64 t239))).cell? _ = some _ from hx242_2)); (try have hy242_3 := fun (n_ : Nat) => (show ((((((w84.drewN n_).setCell ⟨gb241, 0, none⟩ (.string t236)).setCell ⟨gb241, 1, none⟩ (.int .i64 t237)).setCell ⟨gb241, 2, none⟩ (.int .i64 t238)).setCell ⟨gb241, 3, none⟩ (.int .i64 t239))).cell? _ = some _ from hx242_3)); clear hn242_0; clear hn242_1; clear hn242_2; clear hn242_3; replace p242 := eq_true p242; replace q242 := eq_true q242)); try go_wp2_with (first | (go_at_call 11; (with_reducible refine (folder_Find.calls k9 _ _ t212 t215 (rdOf ByteArray.empty x4_49 x102_9) t236 t237 t238 t239 t240 _ ?side1 ?side2 A77.out).mono ?_); (case side1 => repeat (first | exact (Kd.R_reads' HO_209000.out).2.2 | (with_reducible refine Kd.C_alloc ?_ _) | (with_reducible refine Kd.C_drewN ?_ _) | (with_reducible refine Kd.C_drew ?_))); (case side2 => exact (Kd.R_reads' HO_209000.out).2.1); rintro e w83 ⟨rfl, hb⟩; have n0_ := Aside0.mk (Kd.R_below (by (with_reducible repeat (first | apply Kd.R_alloc | apply Kd.R_drewN | apply Kd.R_drew)); exact HO_4.out) hb); have n1_ := Aside0.mk (Kd.R_below (by (with_reducible repeat (first | apply Kd.R_alloc | apply Kd.R_drewN | apply Kd.R_drew)); exact HO_100.out) hb); have n2_ := Aside0.mk (Kd.R_below (by (with_reducible repeat (first | apply Kd.R_alloc | apply Kd.R_drewN | apply Kd.R_drew)); exact HO_209000.out) hb); have n3_ := Aside0.mk (blk_below (g := gb208) (o := .cells #[.slice Ao19 t212.length co19, .int .i64 t215] 24 (0, 0)) (by (with_reducible repeat (first | refine blk_drewN ?_ _ | refine blk_drew ?_ | refine blk_alloc ?_ _)); exact BK208.out) hb); have n4_ := Aside0.mk (blk_below (g := gb211) (o := .cells #[.int .i64 ((rd_T55 l0 x24_1).f0), .string ((rd_T55 l0 x24_1).f1)] 55 (0, 0)) (by (with_reducible repeat (first | refine blk_drewN ?_ _ | refine blk_drew ?_ | refine blk_alloc ?_ _)); exact BK211.out) hb); have n5_ := Aside0.mk (below_step (by repeat (first | (with_reducible first | exact HB.out | apply below_alloc | apply pw_below_drewN | apply below_drew1 | refine below_set ?_ GE208.out | refine below_set ?_ GE211.out) | exact HB.out)) hb); clear HO_4; clear HO_100; clear HO_209000; clear BK208; clear BK211; clear HB; have HO_4 := n0_; have HO_100 := n1_; have HO_209000 := n2_; have BK208 := n3_; have BK211 := n4_; have HB := n5_; clear n0_ n1_ n2_ n3_ n4_ n5_; (try clear hb); (try clear hb2); (try clear hk); (try clear hi)) | ((with_reducible refine gate_dst (N := 15) rfl ?_); refine box_event ?hg (N := 15) ?hd (cs := #[.string (⟨#[]⟩ : ByteArray), .int .i64 0, .int .i64 0, .int .i64 0]) (t := 30) ?hr ?_; (case hd => rfl); (case hg => rfl); (case hr => first | (go_simp; done) | (go_simp; rfl)); intro gb241 hg w84 hbox hb; have n0_ := Aside0.mk (Kd.R_below (by (with_reducible repeat (first | apply Kd.R_alloc | apply Kd.R_drewN | apply Kd.R_drew)); exact HO_4.out) hb); have n1_ := Aside0.mk (Kd.R_below (by (with_reducible repeat (first | apply Kd.R_alloc | apply Kd.R_drewN | apply Kd.R_drew)); exact HO_100.out) hb); have n2_ := Aside0.mk (Kd.R_below (Kd.R_elderB (by (with_reducible repeat (first | apply Kd.R_alloc | apply Kd.R_drewN | apply Kd.R_drew)); exact HO_209000.out) gb241 (Nat.le_of_eq hg.symm)) hb); have n3_ := Aside0.mk (blk_below (g := gb208) (o := .cells #[.slice Ao19 t212.length co19, .int .i64 t215] 24 (0, 0)) (by (with_reducible repeat (first | refine blk_drewN ?_ _ | refine blk_drew ?_ | refine blk_alloc ?_ _)); exact BK208.out) hb); have n4_ := Aside0.mk (blk_below (g := gb211) (o := .cells #[.int .i64 ((rd_T55 l0 x24_1).f0), .string ((rd_T55 l0 x24_1).f1)] 55 (0, 0)) (by (with_reducible repeat (first | refine blk_drewN ?_ _ | refine blk_drew ?_ | refine blk_alloc ?_ _)); exact BK211.out) hb); have n5_ := Aside0.mk (below_step (by repeat (first | (with_reducible first | exact HB.out | apply below_alloc | apply pw_below_drewN | apply below_drew1 | refine below_set ?_ GE208.out | refine below_set ?_ GE211.out) | exact HB.out)) hb); have n6_ := Aside0.mk (hbox); have n7_ := Aside0.mk ((by rw [hg]; exact (below_size (by repeat (first | (with_reducible first | exact HB.out | apply below_alloc | apply pw_below_drewN | apply below_drew1 | refine below_set ?_ GE208.out | refine below_set ?_ GE211.out) | exact HB.out))) : w.heap.size ≤ gb241)); have n8_ := Aside0.mk ((by rw [hg]; exact (below_size (by repeat (first | (with_reducible first | exact HB.out | apply below_alloc | apply pw_below_drewN | apply below_drew1 | refine below_set ?_ GE208.out | refine below_set ?_ GE211.out) | exact HB.out))) : w.heap.size ≤ gb241)); have n9_ := Aside0.mk ((by rw [hg]; exact Nat.ne_of_lt (blk_lt (g := gb208) (o := .cells #[.slice Ao19 t212.length co19, .int .i64 t215] 24 (0, 0)) (by (with_reducible repeat (first | refine blk_drewN ?_ _ | refine blk_drew ?_ | refine blk_alloc ?_ _)); exact BK208.out)) : gb208 ≠ gb241)); have n10_ := Aside0.mk ((by rw [hg]; exact Nat.ne_of_gt (blk_lt (g := gb208) (o := .cells #[.slice Ao19 t212.length co19, .int .i64 t215] 24 (0, 0)) (by (with_reducible repeat (first | refine blk_drewN ?_ _ | refine blk_drew ?_ | refine blk_alloc ?_ _)); exact BK208.out)) : gb241 ≠ gb208)); have n11_ := Aside0.mk ((by rw [hg]; exact Nat.ne_of_lt (blk_lt (g := gb211) (o := .cells #[.int .i64 ((rd_T55 l0 x24_1).f0), .string ((rd_T55 l0 x24_1).f1)] 55 (0, 0)) (by (with_reducible repeat (first | refine blk_drewN ?_ _ | refine blk_drew ?_ | refine blk_alloc ?_ _)); exact BK211.out)) : gb211 ≠ gb241)); have n12_ := Aside0.mk ((by rw [hg]; exact Nat.ne_of_gt (blk_lt (g := gb211) (o := .cells #[.int .i64 ((rd_T55 l0 x24_1).f0), .string ((rd_T55 l0 x24_1).f1)] 55 (0, 0)) (by (with_reducible repeat (first | refine blk_drewN ?_ _ | refine blk_drew ?_ | refine blk_alloc ?_ _)); exact BK211.out)) : gb241 ≠ gb211)); clear HO_4; clear HO_100; clear HO_209000; clear BK208; clear BK211; clear HB; have HO_4 := n0_; have HO_100 := n1_; have HO_209000 := n2_; have BK208 := n3_; have BK211 := n4_; have HB := n5_; have BK241 := n6_; have GW241 := n7_; have GE241 := n8_; have NB208_241 := n9_; have NB241_208 := n10_; have NB211_241 := n11_; have NB241_211 := n12_; clear n0_ n1_ n2_ n3_ n4_ n5_ n6_ n7_ n8_ n9_ n10_ n11_ n12_; clear hb hbox hg; have hnb85 := NB241_208.out; have hnc85 := NB208_241.out; have hnb86 := NB241_211.out; have hnc86 := NB211_241.out; have hcz87_0 : w84.cell? ⟨gb241, 0, none⟩ = some (.string (⟨#[]⟩ : ByteArray)) := (blk_cell BK241.out 0).trans rfl; have hcz87_1 : w84.cell? ⟨gb241, 1, none⟩ = some (.int .i64 0) := (blk_cell BK241.out 1).trans rfl; have hcz87_2 : w84.cell? ⟨gb241, 2, none⟩ = some (.int .i64 0) := (blk_cell BK241.out 2).trans rfl; have hcz87_3 : w84.cell? ⟨gb241, 3, none⟩ = some (.int .i64 0) := (blk_cell BK241.out 3).trans rfl; have hfz87_0 := blk_frozen BK241.out 0; have hfz87_1 := blk_frozen BK241.out 1; have hfz87_2 := blk_frozen BK241.out 2; have hfz87_3 := blk_frozen BK241.out 3; have hcz88_0 : w84.cell? ⟨gb208, 0, none⟩ = some (.slice Ao19 t212.length co19) := (blk_cell BK208.out 0).trans rfl; have hcz88_1 : w84.cell? ⟨gb208, 1, none⟩ = some (.int .i64 t215) := (blk_cell BK208.out 1).trans rfl; have hfz88_0 := blk_frozen BK208.out 0; have hfz88_1 := blk_frozen BK208.out 1; have p242 : 0 ≤ (x102_9 : Int) := of_decide_eq_true (by first | (with_reducible assumption) | assumption); have q242 : x102_9 < (t212.length : Int) := of_decide_eq_true (by first | (with_reducible assumption) | assumption); obtain ⟨ad242, e242, hx242_0, hx242_1, hx242_2, hx242_3⟩ := at_T30 (Kd.R_reads' HO_209000.out).2.2 x102_9 p242 q242; cases e242; have hn242_0 : ad242.block ≠ gb241 := Kd.own_blk (Kd.R_away HO_209000.out (fun k hk => hk.2)); have hn242_1 : ad242.block ≠ gb241 := Kd.own_blk (Kd.R_away HO_209000.out (fun k hk => hk.2)); have hn242_2 : ad242.block ≠ gb241 := Kd.own_blk (Kd.R_away HO_209000.out (fun k hk => hk.2)); have hn242_3 : ad242.block ≠ gb241 := Kd.own_blk (Kd.R_away HO_209000.out (fun k hk => hk.2)); replace hx242_0 := (cell_far (p := ⟨gb241, 0, none⟩) (by first | (rw [add_block]; exact hn242_0) | (show (Addr.add _ _).block ≠ _; rw [add_block]; exact hn242_0) | exact hn242_0) (.string t236)).trans hx242_0; replace hx242_1 := (cell_far (p := ⟨gb241, 0, none⟩) (by first | (rw [add_block]; exact hn242_0) | (show (Addr.add _ _).block ≠ _; rw [add_block]; exact hn242_0) | exact hn242_0) (.string t236)).trans hx242_1; replace hx242_2 := (cell_far (p := ⟨gb241, 0, none⟩) (by first | (rw [add_block]; exact hn242_0) | (show (Addr.add _ _).block ≠ _; rw [add_block]; exact hn242_0) | exact hn242_0) (.string t236)).trans hx242_2; replace hx242_3 := (cell_far (p := ⟨gb241, 0, none⟩) (by first | (rw [add_block]; exact hn242_0) | (show (Addr.add _ _).block ≠ _; rw [add_block]; exact hn242_0) | exact hn242_0) (.string t236)).trans hx242_3; replace hx242_0 := (cell_far (p := ⟨gb241, 1, none⟩) (by first | (rw [add_block]; exact hn242_1) | (show (Addr.add _ _).block ≠ _; rw [add_block]; exact hn242_1) | exact hn242_1) (.int .i64 t237)).trans hx242_0; replace hx242_1 := (cell_far (p := ⟨gb241, 1, none⟩) (by first | (rw [add_block]; exact hn242_1) | (show (Addr.add _ _).block ≠ _; rw [add_block]; exact hn242_1) | exact hn242_1) (.int .i64 t237)).trans hx242_1; replace hx242_2 := (cell_far (p := ⟨gb241, 1, none⟩) (by first | (rw [add_block]; exact hn242_1) | (show (Addr.add _ _).block ≠ _; rw [add_block]; exact hn242_1) | exact hn242_1) (.int .i64 t237)).trans hx242_2; replace hx242_3 := (cell_far (p := ⟨gb241, 1, none⟩) (by first | (rw [add_block]; exact hn242_1) | (show (Addr.add _ _).block ≠ _; rw [add_block]; exact hn242_1) | exact hn242_1) (.int .i64 t237)).trans hx242_3; replace hx242_0 := (cell_far (p := ⟨gb241, 2, none⟩) (by first | (rw [add_block]; exact hn242_2) | (show (Addr.add _ _).block ≠ _; rw [add_block]; exact hn242_2) | exact hn242_2) (.int .i64 t238)).trans hx242_0; replace hx242_1 := (cell_far (p := ⟨gb241, 2, none⟩) (by first | (rw [add_block]; exact hn242_2) | (show (Addr.add _ _).block ≠ _; rw [add_block]; exact hn242_2) | exact hn242_2) (.int .i64 t238)).trans hx242_1; replace hx242_2 := (cell_far (p := ⟨gb241, 2, none⟩) (by first | (rw [add_block]; exact hn242_2) | (show (Addr.add _ _).block ≠ _; rw [add_block]; exact hn242_2) | exact hn242_2) (.int .i64 t238)).trans hx242_2; replace hx242_3 := (cell_far (p := ⟨gb241, 2, none⟩) (by first | (rw [add_block]; exact hn242_2) | (show (Addr.add _ _).block ≠ _; rw [add_block]; exact hn242_2) | exact hn242_2) (.int .i64 t238)).trans hx242_3; replace hx242_0 := (cell_far (p := ⟨gb241, 3, none⟩) (by first | (rw [add_block]; exact hn242_3) | (show (Addr.add _ _).block ≠ _; rw [add_block]; exact hn242_3) | exact hn242_3) (.int .i64 t239)).trans hx242_0; replace hx242_1 := (cell_far (p := ⟨gb241, 3, none⟩) (by first | (rw [add_block]; exact hn242_3) | (show (Addr.add _ _).block ≠ _; rw [add_block]; exact hn242_3) | exact hn242_3) (.int .i64 t239)).trans hx242_1; replace hx242_2 := (cell_far (p := ⟨gb241, 3, none⟩) (by first | (rw [add_block]; exact hn242_3) | (show (Addr.add _ _).block ≠ _; rw [add_block]; exact hn242_3) | exact hn242_3) (.int .i64 t239)).trans hx242_2; replace hx242_3 := (cell_far (p := ⟨gb241, 3, none⟩) (by first | (rw [add_block]; exact hn242_3) | (show (Addr.add _ _).block ≠ _; rw [add_block]; exact hn242_3) | exact hn242_3) (.int .i64 t239)).trans hx242_3; (try have hy242_0 := fun (n_ : Nat) => (show ((((((w84.drewN n_).setCell ⟨gb241, 0, none⟩ (.string t236)).setCell ⟨gb241, 1, none⟩ (.int .i64 t237)).setCell ⟨gb241, 2, none⟩ (.int .i64 t238)).setCell ⟨gb241, 3, none⟩ (.int .i64 t239))).cell? _ = some _ from hx242_0)); (try have hy242_1 := fun (n_ : Nat) => (show ((((((w84.drewN n_).setCell ⟨gb241, 0, none⟩ (.string t236)).setCell ⟨gb241, 1, none⟩ (.int .i64 t237)).setCell ⟨gb241, 2, none⟩ (.int .i64 t238)).setCell ⟨gb241, 3, none⟩ (.int .i64 t239))).cell? _ = some _ from hx242_1)); (try have hy242_2 := fun (n_ : Nat) => (show ((((((w84.drewN n_).setCell ⟨gb241, 0, none⟩ (.string t236)).setCell ⟨gb241, 1, none⟩ (.int .i64 t237)).setCell ⟨gb241, 2, none⟩ (.int .i64 t238)).setCell ⟨gb241, 3, none⟩ (.int .i64 t239))).cell? _ = some _ from hx242_2)); (try have hy242_3 := fun (n_ : Nat) => (show ((((((w84.drewN n_).setCell ⟨gb241, 0, none⟩ (.string t236)).setCell ⟨gb241, 1, none⟩ (.int .i64 t237)).setCell ⟨gb241, 2, none⟩ (.int .i64 t238)).setCell ⟨gb241, 3, none⟩ (.int .i64 t239))).cell? _ = some _ from hx242_3)); clear hn242_0; clear hn242_1; clear hn242_2; clear hn242_3; replace p242 := eq_true p242; replace q242 := eq_true q242)))
                                                              go_roundg k9
                                                              case measure => have := HK1.out; have := HK2.out; have := HJ29.out; have := HJ35.out; have := HJ41.out; have := HJ47.out; have := HJ49.out; have := HJ63.out; have := HK9.out; omega
                                                              case rel => exact ⟨(wrap64 (x102_9 + 1)), (by first | rfl | (simp; done) | (simp [*]; done)), H', ⟨by have := HK1.out; have := HK2.out; have := HJ29.out; have := HJ35.out; have := HJ41.out; have := HJ47.out; have := HJ49.out; have := HJ63.out; have := HK9.out; omega⟩, ⟨by (with_reducible repeat (first | apply Kd.R_alloc | apply Kd.R_drewN | apply Kd.R_drew)); exact Kd.R_mono (Kd.R_far (p := ⟨gb241, 3, none⟩) (Kd.R_far (p := ⟨gb241, 2, none⟩) (Kd.R_far (p := ⟨gb241, 1, none⟩) (Kd.R_far (p := ⟨gb241, 0, none⟩) (Kd.R_types HO_4.out BK241.out (by decide)) (fun _ hk => hk.2) (.string t236)) (fun _ hk => hk.2) (.int .i64 t237)) (fun _ hk => hk.2) (.int .i64 t238)) (fun _ hk => hk.2) (.int .i64 t239)) (fun _ hk => trivial)⟩, ⟨by (with_reducible repeat (first | apply Kd.R_alloc | apply Kd.R_drewN | apply Kd.R_drew)); exact Kd.R_mono (Kd.R_far (p := ⟨gb241, 3, none⟩) (Kd.R_far (p := ⟨gb241, 2, none⟩) (Kd.R_far (p := ⟨gb241, 1, none⟩) (Kd.R_far (p := ⟨gb241, 0, none⟩) (Kd.R_types HO_100.out BK241.out (by decide)) (fun _ hk => hk.2) (.string t236)) (fun _ hk => hk.2) (.int .i64 t237)) (fun _ hk => hk.2) (.int .i64 t238)) (fun _ hk => hk.2) (.int .i64 t239)) (fun _ hk => trivial)⟩, ⟨by (with_reducible repeat (first | apply Kd.R_alloc | apply Kd.R_drewN | apply Kd.R_drew)); exact Kd.R_mono (Kd.R_far (p := ⟨gb241, 3, none⟩) (Kd.R_far (p := ⟨gb241, 2, none⟩) (Kd.R_far (p := ⟨gb241, 1, none⟩) (Kd.R_far (p := ⟨gb241, 0, none⟩) (Kd.R_mono HO_209000.out (fun k_ hk => (⟨hk, hk.2⟩ : _ ∧ k_ ≠ gb241))) (fun _ hk => hk.2) (.string t236)) (fun _ hk => hk.2) (.int .i64 t237)) (fun _ hk => hk.2) (.int .i64 t238)) (fun _ hk => hk.2) (.int .i64 t239)) (fun _ hk => trivial)⟩, ⟨by (with_reducible repeat (first | refine blk_drewN ?_ _ | refine blk_drew ?_ | refine blk_alloc ?_ _)); refine blk_far ?_ NB208_241.out _; (with_reducible repeat (first | refine blk_drewN ?_ _ | refine blk_drew ?_ | refine blk_alloc ?_ _)); refine blk_far ?_ NB208_241.out _; (with_reducible repeat (first | refine blk_drewN ?_ _ | refine blk_drew ?_ | refine blk_alloc ?_ _)); refine blk_far ?_ NB208_241.out _; (with_reducible repeat (first | refine blk_drewN ?_ _ | refine blk_drew ?_ | refine blk_alloc ?_ _)); refine blk_far ?_ NB208_241.out _; (with_reducible repeat (first | refine blk_drewN ?_ _ | refine blk_drew ?_ | refine blk_alloc ?_ _)); exact BK208.out⟩, ⟨by (with_reducible repeat (first | refine blk_drewN ?_ _ | refine blk_drew ?_ | refine blk_alloc ?_ _)); refine blk_far ?_ NB211_241.out _; (with_reducible repeat (first | refine blk_drewN ?_ _ | refine blk_drew ?_ | refine blk_alloc ?_ _)); refine blk_far ?_ NB211_241.out _; (with_reducible repeat (first | refine blk_drewN ?_ _ | refine blk_drew ?_ | refine blk_alloc ?_ _)); refine blk_far ?_ NB211_241.out _; (with_reducible repeat (first | refine blk_drewN ?_ _ | refine blk_drew ?_ | refine blk_alloc ?_ _)); refine blk_far ?_ NB211_241.out _; (with_reducible repeat (first | refine blk_drewN ?_ _ | refine blk_drew ?_ | refine blk_alloc ?_ _)); exact BK211.out⟩, ⟨by repeat (first | (with_reducible first | exact HB.out | apply below_alloc | apply pw_below_drewN | apply below_drew1 | refine below_set ?_ GE208.out | refine below_set ?_ GE211.out | refine below_set ?_ GE241.out) | exact HB.out)⟩⟩
                                                          · rw [if_neg c79] at H
                                                            exact absurd H (by simp)
                                                        · rw [if_neg c78] at H
                                                          exact absurd H (by simp)
                                                      · rw [if_neg c76] at H
                                                        exact absurd H (by simp)
                                                    · rw [if_neg c75] at H
                                                      exact absurd H (by simp)
                                                  · rw [if_neg c74] at H
                                                    have c74b0 : decide (x102_9 < (x4_49.length : Int)) = false := decide_eq_false c74
                                                    clear c74
                                                    have H' := Aside0.mk H
                                                    clear H
                                                    go_wp2
                                                    repeat (go_quiet (fail); try go_wp2)
                                                    go_roundg k9
                                                    case measure => have := HK1.out; have := HK2.out; have := HJ29.out; have := HJ35.out; have := HJ41.out; have := HJ47.out; have := HJ49.out; have := HJ63.out; have := HK9.out; omega
                                                    case rel => exact ⟨(x4_49), (x5_41), (wrap64 (x24_1 + 1)), (t212), (t215), (.slice Ao19 t212.length co19), (by first | rfl | (simp; done) | (simp [*]; done)), (by first | rfl | (simp; done) | (simp [*]; done)), H', ⟨by have := HK1.out; have := HK2.out; have := HJ29.out; have := HJ35.out; have := HJ41.out; have := HJ47.out; have := HJ49.out; have := HJ63.out; have := HK9.out; omega⟩, ⟨by (with_reducible repeat (first | apply Kd.R_alloc | apply Kd.R_drewN | apply Kd.R_drew)); exact HO_4.out⟩, ⟨by (with_reducible repeat (first | apply Kd.R_alloc | apply Kd.R_drewN | apply Kd.R_drew)); exact HO_209000.out⟩, ⟨by (with_reducible repeat (first | refine blk_drewN ?_ _ | refine blk_drew ?_ | refine blk_alloc ?_ _)); exact BK208.out⟩, ⟨by repeat (first | (with_reducible first | exact HB.out | apply below_alloc | apply pw_below_drewN | apply below_drew1 | refine below_set ?_ GE208.out | refine below_set ?_ GE211.out) | exact HB.out)⟩⟩
            · rw [if_neg c9] at H
              exact absurd H (by simp)
          · rw [if_neg c8] at H
            exact absurd H (by simp)
        · rw [if_neg c7] at H
          have c7b0 : decide (x24_1 < (l0.length : Int)) = false := decide_eq_false c7
          clear c7
          replace H := Option.bind_eq_some_iff.mp H
          obtain ⟨t209, A890, H⟩ := H
          replace H : (some t209) = some r := H
          have A89 := Aside0.mk A890
          clear A890
          obtain rfl := Option.some.inj H
          go_wp2_with (first | (go_at_call 10; (with_reducible refine (sextonlaw10_two.calls k1  t209 _ A89.out).mono ?_); rintro e w90 ⟨rfl, hb⟩; have n0_ := Aside0.mk (Kd.R_below (by (with_reducible repeat (first | apply Kd.R_alloc | apply Kd.R_drewN | apply Kd.R_drew)); exact HO_4.out) hb); have n1_ := Aside0.mk (Kd.R_below (by (with_reducible repeat (first | apply Kd.R_alloc | apply Kd.R_drewN | apply Kd.R_drew)); exact HO_209000.out) hb); have n2_ := Aside0.mk (blk_below (g := gb208) (o := .cells #[u209000, .int .i64 x209001_1] 24 (0, 0)) (by (with_reducible repeat (first | refine blk_drewN ?_ _ | refine blk_drew ?_ | refine blk_alloc ?_ _)); exact BK208.out) hb); have n3_ := Aside0.mk (below_step (by repeat (first | (with_reducible first | exact HB.out | apply below_alloc | apply pw_below_drewN | apply below_drew1 | refine below_set ?_ GE208.out) | exact HB.out)) hb); clear HO_4; clear HO_209000; clear BK208; clear HB; have HO_4 := n0_; have HO_209000 := n1_; have BK208 := n2_; have HB := n3_; clear n0_ n1_ n2_ n3_; (try clear hb); (try clear hb2); (try clear hk); (try clear hi)))
          repeat (go_quiet (first | (go_at_call 10; (with_reducible refine (sextonlaw10_two.calls k1  t209 _ A89.out).mono ?_); rintro e w90 ⟨rfl, hb⟩; have n0_ := Aside0.mk (Kd.R_below (by (with_reducible repeat (first | apply Kd.R_alloc | apply Kd.R_drewN | apply Kd.R_drew)); exact HO_4.out) hb); have n1_ := Aside0.mk (Kd.R_below (by (with_reducible repeat (first | apply Kd.R_alloc | apply Kd.R_drewN | apply Kd.R_drew)); exact HO_209000.out) hb); have n2_ := Aside0.mk (blk_below (g := gb208) (o := .cells #[u209000, .int .i64 x209001_1] 24 (0, 0)) (by (with_reducible repeat (first | refine blk_drewN ?_ _ | refine blk_drew ?_ | refine blk_alloc ?_ _)); exact BK208.out) hb); have n3_ := Aside0.mk (below_step (by repeat (first | (with_reducible first | exact HB.out | apply below_alloc | apply pw_below_drewN | apply below_drew1 | refine below_set ?_ GE208.out) | exact HB.out)) hb); clear HO_4; clear HO_209000; clear BK208; clear HB; have HO_4 := n0_; have HO_209000 := n1_; have BK208 := n2_; have HB := n3_; clear n0_ n1_ n2_ n3_; (try clear hb); (try clear hb2); (try clear hk); (try clear hi))); try go_wp2_with (first | (go_at_call 10; (with_reducible refine (sextonlaw10_two.calls k1  t209 _ A89.out).mono ?_); rintro e w90 ⟨rfl, hb⟩; have n0_ := Aside0.mk (Kd.R_below (by (with_reducible repeat (first | apply Kd.R_alloc | apply Kd.R_drewN | apply Kd.R_drew)); exact HO_4.out) hb); have n1_ := Aside0.mk (Kd.R_below (by (with_reducible repeat (first | apply Kd.R_alloc | apply Kd.R_drewN | apply Kd.R_drew)); exact HO_209000.out) hb); have n2_ := Aside0.mk (blk_below (g := gb208) (o := .cells #[u209000, .int .i64 x209001_1] 24 (0, 0)) (by (with_reducible repeat (first | refine blk_drewN ?_ _ | refine blk_drew ?_ | refine blk_alloc ?_ _)); exact BK208.out) hb); have n3_ := Aside0.mk (below_step (by repeat (first | (with_reducible first | exact HB.out | apply below_alloc | apply pw_below_drewN | apply below_drew1 | refine below_set ?_ GE208.out) | exact HB.out)) hb); clear HO_4; clear HO_209000; clear BK208; clear HB; have HO_4 := n0_; have HO_209000 := n1_; have BK208 := n2_; have HB := n3_; clear n0_ n1_ n2_ n3_; (try clear hb); (try clear hb2); (try clear hk); (try clear hi))))
          go_ret
          exact ⟨by first | rfl | (simp [errW_none, errW_some] <;> rfl) | (simp [*, errW_none, errW_some] <;> rfl), by repeat (first | (with_reducible first | exact HB.out | apply below_alloc | apply pw_below_drewN | apply below_drew1 | refine below_set ?_ GE208.out) | exact HB.out)⟩

end Go.Proofs.Ytjjjbpgncmfpgaa.FA
