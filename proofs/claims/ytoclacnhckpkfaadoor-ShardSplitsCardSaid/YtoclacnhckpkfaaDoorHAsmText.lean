/- Written by hand (wip/tools/gen_shard_text.py): Assembler.Text. -/
import Derived.Test.YtoclacnhckpkfaaDoorHAsmMissing
import Derived.Test.YtoclacnhckpkfaaDoorFAPolyAll
import Derived.Test.YtoclacnhckpkfaaDoorShelf
namespace Go.Proofs.YtoclacnhckpkfaaDoor.FA
open Go.RowKit Go.Proofs.YtoclacnhckpkfaaDoorW.PrintWords Go.Proofs.YtoclacnhckpkfaaDoorW.PrintLast Go.Proofs.YtoclacnhckpkfaaDoorW.PrintMore Go.Proofs.YtoclacnhckpkfaaDoor.Hand Go.Proofs.YtoclacnhckpkfaaDoor.B
set_option linter.unusedVariables false
set_option linter.unusedSimpArgs false
/-- The sum of the first n shards, joined. -/
def sumU (k : Nat) (d : List ByteArray) : Nat → Option Int
  | 0 => some 0
  | n + 1 => (sumU k d n).bind fun a => (poly_Sum.f k (d.getD n ⟨#[]⟩)).bind fun b => (poly_Join.f k a b ((d.getD n ⟨#[]⟩).size : Int)).bind fun c => some c.1
theorem sumU_le {k : Nat} {d : List ByteArray} : ∀ {n m : Nat} {s : Int}, sumU k d n = some s → m ≤ n → ∃ a, sumU k d m = some a
  | 0, m, s, h, hm => ⟨s, by rw [show m = 0 by omega]; exact h⟩
  | n + 1, m, s, h, hm => by
    by_cases e : m = n + 1
    · exact ⟨s, by rw [e]; exact h⟩
    · unfold sumU at h
      obtain ⟨a, ha, _⟩ := Option.bind_eq_some_iff.1 h
      exact sumU_le ha (by omega)
def shardText.T4 : Bool × List (List Nat × List Nat) := (true, [([], []), ([0], [0]), ([1], [1]), ([], []), ([3], [3]), ([4], [4]), ([5], [5]), ([6], [6]), ([2, 7], [2, 7]), ([8], [8]), ([], [])])
def shardText.B4 : List Nat := [0, 1, 3, 0, 8, 24, 56, 120, 255, 511, 0]
theorem shardText.tab4 : rtab .any (opsOf Tryd.f17 4) = shardText.T4 := by kernel_rfl
theorem shardText.bits4 : waitsOk shardText.T4.2 shardText.B4 = true := by kernel_rfl
def shardText.T11 : Bool × List (List Nat × List Nat) := (true, [([], []), ([0], [0]), ([1], [1]), ([], []), ([3], [3]), ([4], [4]), ([5], [5]), ([6], [6]), ([2, 7], [2, 7]), ([8, 7], [8]), ([9, 9, 0, 1, 2, 3, 4, 5, 6, 7, 8, 9], [9]), ([10, 0, 1, 2, 3, 4, 5, 6, 7, 8, 9, 10], [])])
def shardText.B11 : List Nat := [0, 1, 3, 0, 8, 24, 56, 120, 255, 511, 1023, 2047]
theorem shardText.tab11 : rtab .any (opsOf Tryd.f17 11) = shardText.T11 := by kernel_rfl
theorem shardText.bits11 : waitsOk shardText.T11.2 shardText.B11 = true := by kernel_rfl
set_option maxHeartbeats 8000000 in
set_option maxRecDepth 100000 in
theorem shard_Text.nil (w : World) : Calls Tryd.prog 17 #[.pointer none] w fun ev w' => ev = .returned (.tuple #[.string ⟨#[]⟩, .int .i64 7]) ∧ w' = w := by
  go_enter Tryd.func17, Tryd.ntmps17
  go_wp2
  go_ret2
  exact ⟨rfl, rfl⟩
set_option maxHeartbeats 8000000 in
set_option maxRecDepth 100000 in
theorem shard_Text.cut (op sz sm : Int) (d : List ByteArray) (n : Nat) (N g : Nat) (w : World) (hA : ABox N w g op sz sm d) (hp : shard_Manifest_pieces.f op sz sm = some (n : Int)) (hn : n ≤ 256) (hm : missU d n ≠ []) : Calls Tryd.prog 17 #[.pointer (some ⟨g, 0, none⟩)] w fun ev w' => ev = .returned (.tuple #[.string ⟨#[]⟩, .int .i64 7]) ∧ Below w.heap.size w w' := by
  have HB := Aside0.mk (Below.refl w.heap.size w)
  have AB := Aside0.mk hA
  have HP := Aside0.mk hp
  have HN := Aside0.mk hn
  have HD := Aside0.mk hA.1
  clear hA hp
  have hl : 0 < (missU d n).length := List.length_pos_iff.2 hm
  have b0 : decide (((missU d n).length : Int) > 0) = true := decide_eq_true (by omega)
  have b1 : decide ((0 : Int) < ((missU d n).length : Int)) = true := decide_eq_true (by omega)
  have b2 : (0 < (missU d n).length) = True := eq_true hl
  clear hm hn hl
  go_enter Tryd.func17, Tryd.ntmps17
  go_wp2_with (first | (go_at_call 18; (with_reducible refine (shard_Missing.ok op sz sm d n N g _ AB.out HP.out HN.out).mono ?_); rintro e_ w1_ ⟨V, rfl, ho, hb⟩; obtain ⟨A1, c1, e1⟩ := Kd.R_slice ho; subst e1; clear ho; have n1_ := Aside0.mk (AB.out.below hb); have n2_ := Aside0.mk (below_step HB.out hb); clear AB HB; have AB := n1_; have HB := n2_; clear n1_ n2_ hb))
  go_ret2
  exact ⟨rfl, HB.out⟩
set_option maxHeartbeats 8000000 in
set_option maxRecDepth 100000 in
theorem shard_Text.sum (op sz sm : Int) (d : List ByteArray) (n : Nat) (N g : Nat) (w : World) (hA : ABox N w g op sz sm d) (hp : shard_Manifest_pieces.f op sz sm = some (n : Int)) (hn : n ≤ 256) (k : Nat) (sf : Int) (hm : missU d n = []) (hT : TabW w) (hs : sumU k d n = some sf) (hne : sf ≠ sm) : Calls Tryd.prog 17 #[.pointer (some ⟨g, 0, none⟩)] w fun ev w' => ev = .returned (.tuple #[.string ⟨#[]⟩, .int .i64 20]) ∧ Below w.heap.size w w' := by
  have HB := Aside0.mk (Below.refl w.heap.size w)
  have AB := Aside0.mk hA
  have HP := Aside0.mk hp
  have HN := Aside0.mk hn
  have HD := Aside0.mk hA.1
  clear hA hp
  have b0 : decide (((missU d n).length : Int) > 0) = false := decide_eq_false (by rw [hm]; decide)
  have b1 : decide ((0 : Int) < ((missU d n).length : Int)) = false := decide_eq_false (by rw [hm]; decide)
  have b2 : (0 < (missU d n).length) = False := eq_false (by rw [hm]; decide)
  clear hm
  have HT := Aside0.mk hT
  have HS := Aside0.mk hs
  clear hT hs
  have f0 : (sf == sm) = false := beq_eq_false_iff_ne.mpr hne
  have f1 : (sf != sm) = true := bne_iff_ne.mpr hne
  clear hne
  go_enter Tryd.func17, Tryd.ntmps17
  go_upto_region 4 with (first | (go_at_call 18; (with_reducible refine (shard_Missing.ok op sz sm d n N g _ AB.out HP.out HN.out).mono ?_); rintro e_ w1_ ⟨V, rfl, ho, hb⟩; obtain ⟨A1, c1, e1⟩ := Kd.R_slice ho; subst e1; clear ho; have n1_ := Aside0.mk (AB.out.below hb); have n2_ := Aside0.mk (below_step HB.out hb); clear AB HB; have AB := n1_; have HB := n2_; clear n1_ n2_ hb))
  have n1_ := Aside0.mk AB.out.drew
  have n2_ := Aside0.mk (below_drew1 HB.out)
  clear AB HB
  have AB := n1_
  have HB := n2_
  clear n1_ n2_
  have k0 : (n ≤ 256) = True := eq_true hn
  have k1 : ((n : Int) ≤ 256) = True := eq_true (by omega)
  have k2 : (0 ≤ (n : Int)) = True := eq_true (by omega)
  clear hn
  refine start_ (n := 11) (S := fun w' => w'.cell? ⟨g, 0, none⟩ = some (.int .i64 op) ∧ w'.cell? ⟨g, 1, none⟩ = some (.int .i64 sz) ∧ w'.cell? ⟨g, 2, none⟩ = some (.int .i64 sm)) (ds := []) #[false, false, false, false, false, false, false, false, false, false, false] (by kernel_rfl) rfl rfl ⟨AB.out.c0, AB.out.c1, AB.out.c2⟩ (fun hHeld => ?_); refine with_tabW shardText.tab4 shardText.bits4 (fun HT_ HW_ => ?_)
  generalize w1_.drew = w2_ at AB HB hHeld ⊢
  refine pure_ (i := 0) (N := some 15) (v := ?_) (a' := ?_) #[true, false, false, false, false, false, false, false, false, false, false] rfl rfl (any_of HT_.out (by kernel_rfl)) (fun _ _ _ h => h) (Or.inl ⟨by rfl, ?_⟩) ?_ ?_
  rotate_left
  · intro w'
    go_simp
    with_reducible rfl
  rotate_left
  · simp only [Act.put, List.setIfInBounds_toArray, List.set_cons_zero, List.set_cons_succ, i64_w, i32_w]
    rfl
  refine pure_ (i := 1) (N := some 16) (v := ?_) (a' := ?_) #[true, true, false, false, false, false, false, false, false, false, false] rfl rfl (any_of HT_.out (by kernel_rfl)) (fun _ _ _ h => h) (Or.inl ⟨by rfl, ?_⟩) ?_ ?_
  rotate_left
  · intro w'
    go_simp
    with_reducible rfl
  rotate_left
  · simp only [Act.put, List.setIfInBounds_toArray, List.set_cons_zero, List.set_cons_succ, i64_w, i32_w]
    rfl
  refine pure_ (i := 2) (N := some 17) (v := ?_) (a' := ?_) #[true, true, true, false, false, false, false, false, false, false, false] rfl rfl (any_of HT_.out (by kernel_rfl)) (fun _ _ _ h => h) (Or.inl ⟨by rfl, ?_⟩) ?_ ?_
  rotate_left
  · intro w'
    go_simp
    with_reducible rfl
  rotate_left
  · simp only [Act.put, List.setIfInBounds_toArray, List.set_cons_zero, List.set_cons_succ, i64_w, i32_w]
    rfl
  refine pure_ (i := 3) (N := some 18) (v := ?_) (a' := ?_) #[true, true, true, true, false, false, false, false, false, false, false] rfl rfl (any_of HT_.out (by kernel_rfl)) (fun _ _ _ h => h) (Or.inl ⟨by rfl, ?_⟩) ?_ ?_
  rotate_left
  · intro w'
    go_simp
    with_reducible rfl
  rotate_left
  · simp only [Act.put, List.setIfInBounds_toArray, List.set_cons_zero, List.set_cons_succ, i64_w, i32_w]
    rfl
  refine pure_ (i := 4) (N := some 19) (v := ?_) (a' := ?_) #[true, true, true, true, true, false, false, false, false, false, false] rfl rfl (any_of HT_.out (by kernel_rfl)) (fun _ _ _ h => h) (Or.inl ⟨by rfl, ?_⟩) ?_ ?_
  rotate_left
  · intro w'
    go_simp
    with_reducible rfl
  rotate_left
  · simp only [Act.put, List.setIfInBounds_toArray, List.set_cons_zero, List.set_cons_succ, i64_w, i32_w]
    rfl
  refine pure_ (i := 5) (N := some 20) (v := ?_) (a' := ?_) #[true, true, true, true, true, true, false, false, false, false, false] rfl rfl (any_of HT_.out (by kernel_rfl)) (fun _ _ _ h => h) (Or.inl ⟨by rfl, ?_⟩) ?_ ?_
  rotate_left
  · intro w'
    go_simp
    with_reducible rfl
  rotate_left
  · simp only [Act.put, List.setIfInBounds_toArray, List.set_cons_zero, List.set_cons_succ, i64_w, i32_w]
    rfl
  refine pure_ (i := 10) (N := some 25) (v := ?_) (a' := ?_) #[true, true, true, true, true, true, false, false, false, false, true] rfl rfl (any_of HT_.out (by kernel_rfl)) (fun _ _ _ h => h) (Or.inl ⟨by rfl, ?_⟩) ?_ ?_
  rotate_left
  · intro w'
    go_simp
    with_reducible rfl
  rotate_left
  · simp only [Act.put, List.setIfInBounds_toArray, List.set_cons_zero, List.set_cons_succ, i64_w, i32_w]
    rfl
  refine take_ (i := 6) (N := some 21) (v := ?_) (a' := ?_) #[true, true, true, true, true, true, true, false, false, false, true] rfl rfl (take_ofW HT_.out HW_.out (by kernel_rfl)) (fun _ _ _ h => h) (Or.inl ⟨by rfl, ?_⟩) hHeld ?_ ?_
  rotate_left
  · rintro w' ⟨s0, s1, s2⟩
    go_simp
    with_reducible rfl
  rotate_left
  · simp only [Act.put, List.setIfInBounds_toArray, List.set_cons_zero, List.set_cons_succ, i64_w, i32_w]
    rfl
  refine one_ (i := 7) (N := some 22) #[true, true, true, true, true, true, true, true, false, false, true] rfl rfl (one_of HT_.out (by kernel_rfl)) (by decide) (fun K hK => ?_)
  refine goes_ Tryd.func25 (by kernel_rfl) rfl #[.agg #[.int .i64 op, .int .i64 sz, .int .i64 sm]] (by rfl) rfl rfl (by (try simp only [List.map_toArray, List.map_cons, List.map_nil]); first | done | rfl) ?_
  refine (shard_Manifest_pieces.calls op sz sm (n : Int) _ HP.out).mono ?_
  rintro e w5_ ⟨rfl, hb⟩
  refine ⟨_, rfl, ?_⟩
  have n1_ := Aside0.mk (AB.out.below hb)
  have n2_ := Aside0.mk (below_step HB.out hb)
  clear AB HB
  have AB := n1_
  have HB := n2_
  clear n1_ n2_ hb
  refine hK.out _ _ ⟨AB.out.c0, AB.out.c1, AB.out.c2⟩ (fun hHeld => ?_)
  clear hK K
  refine norm_ (a' := ?_) ?_ ?_
  rotate_left
  · show Act.put _ (some 22) _ = _
    simp only [Act.put, List.setIfInBounds_toArray, List.set_cons_zero, List.set_cons_succ, i64_w, i32_w]
    rfl
  refine pure_ (i := 8) (N := some 23) (v := ?_) (a' := ?_) #[true, true, true, true, true, true, true, true, true, false, true] rfl rfl (any_of HT_.out (by kernel_rfl)) (fun _ _ _ h => h) (Or.inl ⟨by rfl, ?_⟩) ?_ ?_
  rotate_left
  · intro w'
    go_simp
    with_reducible rfl
  rotate_left
  · simp only [Act.put, List.setIfInBounds_toArray, List.set_cons_zero, List.set_cons_succ, i64_w, i32_w]
    rfl
  refine pure_ (i := 9) (N := some 24) (v := ?_) (a' := ?_) #[true, true, true, true, true, true, true, true, true, true, true] rfl rfl (any_of HT_.out (by kernel_rfl)) (fun _ _ _ h => h) (Or.inl ⟨by rfl, ?_⟩) ?_ ?_
  rotate_left
  · intro w'
    go_simp
    with_reducible rfl
  rotate_left
  · simp only [Act.put, List.setIfInBounds_toArray, List.set_cons_zero, List.set_cons_succ, i64_w, i32_w]
    rfl
  refine done_ (done_of HT_.out (by kernel_rfl)) ?_
  go_wp2
  go_loopw [4, 25] (fun v i w' => ∃ (m : Nat) (s : Int), m ≤ n ∧ i = .int .i64 (m : Int) ∧ v = .int .i64 s ∧ Aside0 (sumU k d m = some s) ∧ Aside0 (ABox N w' g op sz sm d) ∧ Aside0 (Below w.heap.size w w')) (fun _ i _ => ((n : Int) - intOf i).toNat)
  case atStart => exact ⟨0, 0, by omega, rfl, rfl, ⟨rfl⟩, AB, HB⟩
  case round =>
    clear AB HB
    obtain ⟨m, s, hm1, rfl, rfl, HSM, AB, HB⟩ := hrel
    by_cases hlt : m < n
    case pos =>
      have HLT := Aside0.mk hlt
      have d0 : decide ((m : Int) < (n : Int)) = true := decide_eq_true (by omega)
      have d1 : decide ((0 : Int) ≤ (m : Int)) = true := decide_eq_true (by omega)
      have d2 : ((m : Int) < (n : Int)) = True := eq_true (by omega)
      have HW1 := Aside0.mk (show wrap64 ((m : Int) + 1) = ((m + 1 : Nat) : Int) by have := HN.out; rw [wrap64_in (by omega) (by omega)]; omega)
      have hmd : m < d.length := by rw [HD.out]; have := HN.out; omega
      have hd := AB.out.cd m hmd
      obtain ⟨s3, hs3⟩ := sumU_le HS.out (show m + 1 ≤ n by omega)
      have HS3 := Aside0.mk hs3
      have hgd : d.getD m ⟨#[]⟩ = d[m] := by rw [List.getD_eq_getElem?_getD, List.getElem?_eq_getElem hmd]; rfl
      unfold sumU at hs3
      rw [HSM.out, Option.bind_some, hgd] at hs3
      obtain ⟨s1, hs1, hs3⟩ := Option.bind_eq_some_iff.1 hs3
      obtain ⟨⟨s2, e2⟩, hs2, hs3⟩ := Option.bind_eq_some_iff.1 hs3
      obtain rfl : s2 = s3 := Option.some.inj hs3
      have HS1 := Aside0.mk hs1
      have HS2 := Aside0.mk hs2
      clear hs1 hs2 hs3 hgd
      go_wp2_with (first | (go_at_call 24; (with_reducible refine (poly_Sum.calls k d[m] s1 _ (TabW.below HT.out HB.out) HS1.out).mono ?_); rintro e_ w7_ ⟨rfl, ⟨nd, rfl⟩⟩; have hb := below_dN wr nd; generalize wr.drewN nd = w7_ at hb ⊢; have n1_ := Aside0.mk (AB.out.below hb); have n2_ := Aside0.mk (below_step HB.out hb); clear AB HB; have AB := n1_; have HB := n2_; clear n1_ n2_ hb) | (go_at_call 28; (with_reducible refine (poly_Join.calls k s s1 (d[m].size : Int) s2 e2 _ (TabW.below HT.out HB.out) HS2.out).mono ?_); rintro e_ w8_ ⟨rfl, ⟨nd, rfl⟩⟩; have hb := below_dN w7_ nd; generalize w7_.drewN nd = w8_ at hb ⊢; have n1_ := Aside0.mk (AB.out.below hb); have n2_ := Aside0.mk (below_step HB.out hb); clear AB HB; have AB := n1_; have HB := n2_; clear n1_ n2_ hb))
      go_roundw
      case rel => exact ⟨m + 1, s2, by have := HLT.out; omega, by rw [HW1.out], rfl, HS3, AB, HB⟩
      case measure => rw [HW1.out]; exact meas_m _ _ HLT.out
    case neg =>
      obtain rfl : m = n := by omega
      have d0 : decide ((m : Int) < (m : Int)) = false := decide_eq_false (by omega)
      obtain rfl : s = sf := Option.some.inj (HSM.out.symm.trans HS.out)
      have ha2 := AB.out.c2
      go_wp2
      go_ret2
      exact ⟨rfl, HB.out⟩
set_option maxHeartbeats 8000000 in
set_option maxRecDepth 100000 in
theorem shard_Text.all (op sz sm : Int) (d : List ByteArray) (n : Nat) (N g : Nat) (w : World) (hA : ABox N w g op sz sm d) (hp : shard_Manifest_pieces.f op sz sm = some (n : Int)) (hn : n ≤ 256) (k : Nat) (hm : missU d n = []) (hT : TabW w) (hs : sumU k d n = some sm) (hj : (Lib.join ((d.take n).map (·.data.toList)) (⟨#[]⟩ : ByteArray).data.toList).length ≤ 140737488355328) : Calls Tryd.prog 17 #[.pointer (some ⟨g, 0, none⟩)] w fun ev w' => ev = .returned (.tuple #[.string ⟨(Lib.join ((d.take n).map (·.data.toList)) (⟨#[]⟩ : ByteArray).data.toList).toArray⟩, .int .i64 0]) ∧ Below w.heap.size w w' := by
  have HB := Aside0.mk (Below.refl w.heap.size w)
  have AB := Aside0.mk hA
  have HP := Aside0.mk hp
  have HN := Aside0.mk hn
  have HD := Aside0.mk hA.1
  clear hA hp
  have b0 : decide (((missU d n).length : Int) > 0) = false := decide_eq_false (by rw [hm]; decide)
  have b1 : decide ((0 : Int) < ((missU d n).length : Int)) = false := decide_eq_false (by rw [hm]; decide)
  have b2 : (0 < (missU d n).length) = False := eq_false (by rw [hm]; decide)
  clear hm
  have HT := Aside0.mk hT
  have HS := Aside0.mk hs
  clear hT hs
  have HJ := Aside0.mk hj
  clear hj
  obtain ⟨sf, hsf⟩ : ∃ sf, sm = sf := ⟨_, rfl⟩
  rw [hsf] at HS
  have f0 : (sf == sm) = true := beq_iff_eq.mpr hsf.symm
  have f1 : (sf != sm) = false := bne_eq_false_iff_eq.mpr hsf.symm
  clear hsf
  go_enter Tryd.func17, Tryd.ntmps17
  go_upto_region 4 with (first | (go_at_call 18; (with_reducible refine (shard_Missing.ok op sz sm d n N g _ AB.out HP.out HN.out).mono ?_); rintro e_ w1_ ⟨V, rfl, ho, hb⟩; obtain ⟨A1, c1, e1⟩ := Kd.R_slice ho; subst e1; clear ho; have n1_ := Aside0.mk (AB.out.below hb); have n2_ := Aside0.mk (below_step HB.out hb); clear AB HB; have AB := n1_; have HB := n2_; clear n1_ n2_ hb))
  have n1_ := Aside0.mk AB.out.drew
  have n2_ := Aside0.mk (below_drew1 HB.out)
  clear AB HB
  have AB := n1_
  have HB := n2_
  clear n1_ n2_
  have k0 : (n ≤ 256) = True := eq_true hn
  have k1 : ((n : Int) ≤ 256) = True := eq_true (by omega)
  have k2 : (0 ≤ (n : Int)) = True := eq_true (by omega)
  clear hn
  refine start_ (n := 11) (S := fun w' => w'.cell? ⟨g, 0, none⟩ = some (.int .i64 op) ∧ w'.cell? ⟨g, 1, none⟩ = some (.int .i64 sz) ∧ w'.cell? ⟨g, 2, none⟩ = some (.int .i64 sm)) (ds := []) #[false, false, false, false, false, false, false, false, false, false, false] (by kernel_rfl) rfl rfl ⟨AB.out.c0, AB.out.c1, AB.out.c2⟩ (fun hHeld => ?_); refine with_tabW shardText.tab4 shardText.bits4 (fun HT_ HW_ => ?_)
  generalize w1_.drew = w2_ at AB HB hHeld ⊢
  refine pure_ (i := 0) (N := some 15) (v := ?_) (a' := ?_) #[true, false, false, false, false, false, false, false, false, false, false] rfl rfl (any_of HT_.out (by kernel_rfl)) (fun _ _ _ h => h) (Or.inl ⟨by rfl, ?_⟩) ?_ ?_
  rotate_left
  · intro w'
    go_simp
    with_reducible rfl
  rotate_left
  · simp only [Act.put, List.setIfInBounds_toArray, List.set_cons_zero, List.set_cons_succ, i64_w, i32_w]
    rfl
  refine pure_ (i := 1) (N := some 16) (v := ?_) (a' := ?_) #[true, true, false, false, false, false, false, false, false, false, false] rfl rfl (any_of HT_.out (by kernel_rfl)) (fun _ _ _ h => h) (Or.inl ⟨by rfl, ?_⟩) ?_ ?_
  rotate_left
  · intro w'
    go_simp
    with_reducible rfl
  rotate_left
  · simp only [Act.put, List.setIfInBounds_toArray, List.set_cons_zero, List.set_cons_succ, i64_w, i32_w]
    rfl
  refine pure_ (i := 2) (N := some 17) (v := ?_) (a' := ?_) #[true, true, true, false, false, false, false, false, false, false, false] rfl rfl (any_of HT_.out (by kernel_rfl)) (fun _ _ _ h => h) (Or.inl ⟨by rfl, ?_⟩) ?_ ?_
  rotate_left
  · intro w'
    go_simp
    with_reducible rfl
  rotate_left
  · simp only [Act.put, List.setIfInBounds_toArray, List.set_cons_zero, List.set_cons_succ, i64_w, i32_w]
    rfl
  refine pure_ (i := 3) (N := some 18) (v := ?_) (a' := ?_) #[true, true, true, true, false, false, false, false, false, false, false] rfl rfl (any_of HT_.out (by kernel_rfl)) (fun _ _ _ h => h) (Or.inl ⟨by rfl, ?_⟩) ?_ ?_
  rotate_left
  · intro w'
    go_simp
    with_reducible rfl
  rotate_left
  · simp only [Act.put, List.setIfInBounds_toArray, List.set_cons_zero, List.set_cons_succ, i64_w, i32_w]
    rfl
  refine pure_ (i := 4) (N := some 19) (v := ?_) (a' := ?_) #[true, true, true, true, true, false, false, false, false, false, false] rfl rfl (any_of HT_.out (by kernel_rfl)) (fun _ _ _ h => h) (Or.inl ⟨by rfl, ?_⟩) ?_ ?_
  rotate_left
  · intro w'
    go_simp
    with_reducible rfl
  rotate_left
  · simp only [Act.put, List.setIfInBounds_toArray, List.set_cons_zero, List.set_cons_succ, i64_w, i32_w]
    rfl
  refine pure_ (i := 5) (N := some 20) (v := ?_) (a' := ?_) #[true, true, true, true, true, true, false, false, false, false, false] rfl rfl (any_of HT_.out (by kernel_rfl)) (fun _ _ _ h => h) (Or.inl ⟨by rfl, ?_⟩) ?_ ?_
  rotate_left
  · intro w'
    go_simp
    with_reducible rfl
  rotate_left
  · simp only [Act.put, List.setIfInBounds_toArray, List.set_cons_zero, List.set_cons_succ, i64_w, i32_w]
    rfl
  refine pure_ (i := 10) (N := some 25) (v := ?_) (a' := ?_) #[true, true, true, true, true, true, false, false, false, false, true] rfl rfl (any_of HT_.out (by kernel_rfl)) (fun _ _ _ h => h) (Or.inl ⟨by rfl, ?_⟩) ?_ ?_
  rotate_left
  · intro w'
    go_simp
    with_reducible rfl
  rotate_left
  · simp only [Act.put, List.setIfInBounds_toArray, List.set_cons_zero, List.set_cons_succ, i64_w, i32_w]
    rfl
  refine take_ (i := 6) (N := some 21) (v := ?_) (a' := ?_) #[true, true, true, true, true, true, true, false, false, false, true] rfl rfl (take_ofW HT_.out HW_.out (by kernel_rfl)) (fun _ _ _ h => h) (Or.inl ⟨by rfl, ?_⟩) hHeld ?_ ?_
  rotate_left
  · rintro w' ⟨s0, s1, s2⟩
    go_simp
    with_reducible rfl
  rotate_left
  · simp only [Act.put, List.setIfInBounds_toArray, List.set_cons_zero, List.set_cons_succ, i64_w, i32_w]
    rfl
  refine one_ (i := 7) (N := some 22) #[true, true, true, true, true, true, true, true, false, false, true] rfl rfl (one_of HT_.out (by kernel_rfl)) (by decide) (fun K hK => ?_)
  refine goes_ Tryd.func25 (by kernel_rfl) rfl #[.agg #[.int .i64 op, .int .i64 sz, .int .i64 sm]] (by rfl) rfl rfl (by (try simp only [List.map_toArray, List.map_cons, List.map_nil]); first | done | rfl) ?_
  refine (shard_Manifest_pieces.calls op sz sm (n : Int) _ HP.out).mono ?_
  rintro e w5_ ⟨rfl, hb⟩
  refine ⟨_, rfl, ?_⟩
  have n1_ := Aside0.mk (AB.out.below hb)
  have n2_ := Aside0.mk (below_step HB.out hb)
  clear AB HB
  have AB := n1_
  have HB := n2_
  clear n1_ n2_ hb
  refine hK.out _ _ ⟨AB.out.c0, AB.out.c1, AB.out.c2⟩ (fun hHeld => ?_)
  clear hK K
  refine norm_ (a' := ?_) ?_ ?_
  rotate_left
  · show Act.put _ (some 22) _ = _
    simp only [Act.put, List.setIfInBounds_toArray, List.set_cons_zero, List.set_cons_succ, i64_w, i32_w]
    rfl
  refine pure_ (i := 8) (N := some 23) (v := ?_) (a' := ?_) #[true, true, true, true, true, true, true, true, true, false, true] rfl rfl (any_of HT_.out (by kernel_rfl)) (fun _ _ _ h => h) (Or.inl ⟨by rfl, ?_⟩) ?_ ?_
  rotate_left
  · intro w'
    go_simp
    with_reducible rfl
  rotate_left
  · simp only [Act.put, List.setIfInBounds_toArray, List.set_cons_zero, List.set_cons_succ, i64_w, i32_w]
    rfl
  refine pure_ (i := 9) (N := some 24) (v := ?_) (a' := ?_) #[true, true, true, true, true, true, true, true, true, true, true] rfl rfl (any_of HT_.out (by kernel_rfl)) (fun _ _ _ h => h) (Or.inl ⟨by rfl, ?_⟩) ?_ ?_
  rotate_left
  · intro w'
    go_simp
    with_reducible rfl
  rotate_left
  · simp only [Act.put, List.setIfInBounds_toArray, List.set_cons_zero, List.set_cons_succ, i64_w, i32_w]
    rfl
  refine done_ (done_of HT_.out (by kernel_rfl)) ?_
  go_wp2
  go_loopw [4, 25] (fun v i w' => ∃ (m : Nat) (s : Int), m ≤ n ∧ i = .int .i64 (m : Int) ∧ v = .int .i64 s ∧ Aside0 (sumU k d m = some s) ∧ Aside0 (ABox N w' g op sz sm d) ∧ Aside0 (Below w.heap.size w w')) (fun _ i _ => ((n : Int) - intOf i).toNat)
  case atStart => exact ⟨0, 0, by omega, rfl, rfl, ⟨rfl⟩, AB, HB⟩
  case round =>
    clear AB HB
    obtain ⟨m, s, hm1, rfl, rfl, HSM, AB, HB⟩ := hrel
    by_cases hlt : m < n
    case pos =>
      have HLT := Aside0.mk hlt
      have d0 : decide ((m : Int) < (n : Int)) = true := decide_eq_true (by omega)
      have d1 : decide ((0 : Int) ≤ (m : Int)) = true := decide_eq_true (by omega)
      have d2 : ((m : Int) < (n : Int)) = True := eq_true (by omega)
      have HW1 := Aside0.mk (show wrap64 ((m : Int) + 1) = ((m + 1 : Nat) : Int) by have := HN.out; rw [wrap64_in (by omega) (by omega)]; omega)
      have hmd : m < d.length := by rw [HD.out]; have := HN.out; omega
      have hd := AB.out.cd m hmd
      obtain ⟨s3, hs3⟩ := sumU_le HS.out (show m + 1 ≤ n by omega)
      have HS3 := Aside0.mk hs3
      have hgd : d.getD m ⟨#[]⟩ = d[m] := by rw [List.getD_eq_getElem?_getD, List.getElem?_eq_getElem hmd]; rfl
      unfold sumU at hs3
      rw [HSM.out, Option.bind_some, hgd] at hs3
      obtain ⟨s1, hs1, hs3⟩ := Option.bind_eq_some_iff.1 hs3
      obtain ⟨⟨s2, e2⟩, hs2, hs3⟩ := Option.bind_eq_some_iff.1 hs3
      obtain rfl : s2 = s3 := Option.some.inj hs3
      have HS1 := Aside0.mk hs1
      have HS2 := Aside0.mk hs2
      clear hs1 hs2 hs3 hgd
      go_wp2_with (first | (go_at_call 24; (with_reducible refine (poly_Sum.calls k d[m] s1 _ (TabW.below HT.out HB.out) HS1.out).mono ?_); rintro e_ w7_ ⟨rfl, ⟨nd, rfl⟩⟩; have hb := below_dN wr nd; generalize wr.drewN nd = w7_ at hb ⊢; have n1_ := Aside0.mk (AB.out.below hb); have n2_ := Aside0.mk (below_step HB.out hb); clear AB HB; have AB := n1_; have HB := n2_; clear n1_ n2_ hb) | (go_at_call 28; (with_reducible refine (poly_Join.calls k s s1 (d[m].size : Int) s2 e2 _ (TabW.below HT.out HB.out) HS2.out).mono ?_); rintro e_ w8_ ⟨rfl, ⟨nd, rfl⟩⟩; have hb := below_dN w7_ nd; generalize w7_.drewN nd = w8_ at hb ⊢; have n1_ := Aside0.mk (AB.out.below hb); have n2_ := Aside0.mk (below_step HB.out hb); clear AB HB; have AB := n1_; have HB := n2_; clear n1_ n2_ hb))
      go_roundw
      case rel => exact ⟨m + 1, s2, by have := HLT.out; omega, by rw [HW1.out], rfl, HS3, AB, HB⟩
      case measure => rw [HW1.out]; exact meas_m _ _ HLT.out
    case neg =>
      obtain rfl : m = n := by omega
      have d0 : decide ((m : Int) < (m : Int)) = false := decide_eq_false (by omega)
      obtain rfl : s = sf := Option.some.inj (HSM.out.symm.trans HS.out)
      have ha2 := AB.out.c2
      go_upto_region 11 with (fail)
      (try clear ha2)
      have n1_ := Aside0.mk AB.out.drew
      have n2_ := Aside0.mk (below_drew1 HB.out)
      clear AB HB
      have AB := n1_
      have HB := n2_
      clear n1_ n2_ d0
      refine start_ (n := 12) (S := fun w' => w'.cell? ⟨g, 0, none⟩ = some (.int .i64 op) ∧ w'.cell? ⟨g, 1, none⟩ = some (.int .i64 sz) ∧ w'.cell? ⟨g, 2, none⟩ = some (.int .i64 sm)) (ds := []) #[false, false, false, false, false, false, false, false, false, false, false, false] (by kernel_rfl) rfl rfl ⟨AB.out.c0, AB.out.c1, AB.out.c2⟩ (fun hHeld => ?_); refine with_tabW shardText.tab11 shardText.bits11 (fun HT_ HW_ => ?_)
      generalize wr.drew = w14_ at AB HB hHeld ⊢
      refine pure_ (i := 0) (N := some 46) (v := ?_) (a' := ?_) #[true, false, false, false, false, false, false, false, false, false, false, false] rfl rfl (any_of HT_.out (by kernel_rfl)) (fun _ _ _ h => h) (Or.inl ⟨by rfl, ?_⟩) ?_ ?_
      rotate_left
      · intro w'
        go_simp
        with_reducible rfl
      rotate_left
      · simp only [Act.put, List.setIfInBounds_toArray, List.set_cons_zero, List.set_cons_succ, i64_w, i32_w]
        rfl
      refine pure_ (i := 1) (N := some 47) (v := ?_) (a' := ?_) #[true, true, false, false, false, false, false, false, false, false, false, false] rfl rfl (any_of HT_.out (by kernel_rfl)) (fun _ _ _ h => h) (Or.inl ⟨by rfl, ?_⟩) ?_ ?_
      rotate_left
      · intro w'
        go_simp
        with_reducible rfl
      rotate_left
      · simp only [Act.put, List.setIfInBounds_toArray, List.set_cons_zero, List.set_cons_succ, i64_w, i32_w]
        rfl
      refine pure_ (i := 2) (N := some 48) (v := ?_) (a' := ?_) #[true, true, true, false, false, false, false, false, false, false, false, false] rfl rfl (any_of HT_.out (by kernel_rfl)) (fun _ _ _ h => h) (Or.inl ⟨by rfl, ?_⟩) ?_ ?_
      rotate_left
      · intro w'
        go_simp
        with_reducible rfl
      rotate_left
      · simp only [Act.put, List.setIfInBounds_toArray, List.set_cons_zero, List.set_cons_succ, i64_w, i32_w]
        rfl
      refine pure_ (i := 3) (N := some 49) (v := ?_) (a' := ?_) #[true, true, true, true, false, false, false, false, false, false, false, false] rfl rfl (any_of HT_.out (by kernel_rfl)) (fun _ _ _ h => h) (Or.inl ⟨by rfl, ?_⟩) ?_ ?_
      rotate_left
      · intro w'
        go_simp
        with_reducible rfl
      rotate_left
      · simp only [Act.put, List.setIfInBounds_toArray, List.set_cons_zero, List.set_cons_succ, i64_w, i32_w]
        rfl
      refine pure_ (i := 4) (N := some 50) (v := ?_) (a' := ?_) #[true, true, true, true, true, false, false, false, false, false, false, false] rfl rfl (any_of HT_.out (by kernel_rfl)) (fun _ _ _ h => h) (Or.inl ⟨by rfl, ?_⟩) ?_ ?_
      rotate_left
      · intro w'
        go_simp
        with_reducible rfl
      rotate_left
      · simp only [Act.put, List.setIfInBounds_toArray, List.set_cons_zero, List.set_cons_succ, i64_w, i32_w]
        rfl
      refine pure_ (i := 5) (N := some 51) (v := ?_) (a' := ?_) #[true, true, true, true, true, true, false, false, false, false, false, false] rfl rfl (any_of HT_.out (by kernel_rfl)) (fun _ _ _ h => h) (Or.inl ⟨by rfl, ?_⟩) ?_ ?_
      rotate_left
      · intro w'
        go_simp
        with_reducible rfl
      rotate_left
      · simp only [Act.put, List.setIfInBounds_toArray, List.set_cons_zero, List.set_cons_succ, i64_w, i32_w]
        rfl
      refine take_ (i := 6) (N := some 52) (v := ?_) (a' := ?_) #[true, true, true, true, true, true, true, false, false, false, false, false] rfl rfl (take_ofW HT_.out HW_.out (by kernel_rfl)) (fun _ _ _ h => h) (Or.inl ⟨by rfl, ?_⟩) hHeld ?_ ?_
      rotate_left
      · rintro w' ⟨s0, s1, s2⟩
        go_simp
        with_reducible rfl
      rotate_left
      · simp only [Act.put, List.setIfInBounds_toArray, List.set_cons_zero, List.set_cons_succ, i64_w, i32_w]
        rfl
      refine one_ (i := 7) (N := some 53) #[true, true, true, true, true, true, true, true, false, false, false, false] rfl rfl (one_of HT_.out (by kernel_rfl)) (by decide) (fun K hK => ?_)
      refine goes_ Tryd.func25 (by kernel_rfl) rfl #[.agg #[.int .i64 op, .int .i64 sz, .int .i64 sm]] (by rfl) rfl rfl (by (try simp only [List.map_toArray, List.map_cons, List.map_nil]); first | done | rfl) ?_
      refine (shard_Manifest_pieces.calls op sz sm (m : Int) _ HP.out).mono ?_
      rintro e w15_ ⟨rfl, hb⟩
      refine ⟨_, rfl, ?_⟩
      have n1_ := Aside0.mk (AB.out.below hb)
      have n2_ := Aside0.mk (below_step HB.out hb)
      clear AB HB
      have AB := n1_
      have HB := n2_
      clear n1_ n2_ hb
      refine hK.out _ _ ⟨AB.out.c0, AB.out.c1, AB.out.c2⟩ (fun hHeld => ?_)
      clear hK K
      refine norm_ (a' := ?_) ?_ ?_
      rotate_left
      · show Act.put _ (some 53) _ = _
        simp only [Act.put, List.setIfInBounds_toArray, List.set_cons_zero, List.set_cons_succ, i64_w, i32_w]
        rfl
      refine pure_ (i := 8) (N := some 54) (v := ?_) (a' := ?_) #[true, true, true, true, true, true, true, true, true, false, false, false] rfl rfl (any_of HT_.out (by kernel_rfl)) (fun _ _ _ h => h) (Or.inl ⟨by rfl, ?_⟩) ?_ ?_
      rotate_left
      · intro w'
        go_simp
        with_reducible rfl
      rotate_left
      · simp only [Act.put, List.setIfInBounds_toArray, List.set_cons_zero, List.set_cons_succ, i64_w, i32_w]
        rfl
      refine one_ (i := 9) (N := some 55) #[true, true, true, true, true, true, true, true, true, true, false, false] rfl rfl (one_of HT_.out (by kernel_rfl)) (by decide) (fun K hK => ?_)
      refine goes_ Tryd.func29 (by kernel_rfl) rfl #[.slice (some ⟨g, 3, none⟩) m 256, .string ⟨#[]⟩] (by rfl) rfl rfl (by (try simp only [List.map_toArray, List.map_cons, List.map_nil]); first | done | rfl) ?_
      obtain ⟨xs, hxs⟩ : ∃ xs, xs = d.take m := ⟨_, rfl⟩
      have hxl : xs.length = m := by rw [hxs, List.length_take, HD.out]; have := HN.out; omega
      rw [← hxs] at HJ
      have hcel : ∀ (j : Nat) x, xs[j]? = some x → w15_.cell? ⟨g, 3 + j, none⟩ = some (.string x) := by
        intro j x hj
        rw [hxs, List.getElem?_take] at hj
        split at hj
        · rename_i hjm
          obtain ⟨hj2, rfl⟩ := List.getElem?_eq_some_iff.1 hj
          exact AB.out.cd j hj2
        · cases hj
      have hgo := Tryd.strings_Join g 3 256 xs ⟨#[]⟩ w15_ hcel (blk_lt AB.out.2.1) (by have := HN.out; omega) (by rw [hxl]; exact HN.out) HJ.out
      rw [hxl] at hgo
      refine hgo.mono ?_
      clear hgo hcel
      rintro e w16_ ⟨rfl, hb⟩
      refine ⟨_, rfl, ?_⟩
      have n1_ := Aside0.mk (AB.out.below hb)
      have n2_ := Aside0.mk (below_step HB.out hb)
      clear AB HB
      have AB := n1_
      have HB := n2_
      clear n1_ n2_ hb
      refine hK.out _ _ ⟨AB.out.c0, AB.out.c1, AB.out.c2⟩ (fun hHeld => ?_)
      clear hK K
      refine norm_ (a' := ?_) ?_ ?_
      rotate_left
      · show Act.put _ (some 55) _ = _
        simp only [Act.put, List.setIfInBounds_toArray, List.set_cons_zero, List.set_cons_succ, i64_w, i32_w]
        rfl
      refine pure_ (i := 10) (N := some 2) (v := ?_) (a' := ?_) #[true, true, true, true, true, true, true, true, true, true, true, false] rfl rfl (any_of HT_.out (by kernel_rfl)) (fun _ _ _ h => h) (Or.inl ⟨by rfl, ?_⟩) ?_ ?_
      rotate_left
      · intro w'
        go_simp
        with_reducible rfl
      rotate_left
      · simp only [Act.put, List.setIfInBounds_toArray, List.set_cons_zero, List.set_cons_succ, i64_w, i32_w]
        rfl
      refine pure_ (i := 11) (N := some 3) (v := ?_) (a' := ?_) #[true, true, true, true, true, true, true, true, true, true, true, true] rfl rfl (any_of HT_.out (by kernel_rfl)) (fun _ _ _ h => h) (Or.inl ⟨by rfl, ?_⟩) ?_ ?_
      rotate_left
      · intro w'
        go_simp
        with_reducible rfl
      rotate_left
      · simp only [Act.put, List.setIfInBounds_toArray, List.set_cons_zero, List.set_cons_succ, i64_w, i32_w]
        rfl
      refine done_ (done_of HT_.out (by kernel_rfl)) ?_
      go_wp2
      go_ret2
      exact ⟨by rw [List.map_take]; rfl, HB.out⟩
end Go.Proofs.YtoclacnhckpkfaaDoor.FA
