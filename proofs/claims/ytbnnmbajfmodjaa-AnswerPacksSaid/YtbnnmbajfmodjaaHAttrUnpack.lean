/- Written by hand: attr.Unpack (a loop over an array of widths, numbers stored into an array). -/
import Derived.Test.YtbnnmbajfmodjaaHAttrPack
import Derived.Test.YtbnnmbajfmodjaaFATlvAll
namespace Go.Proofs.Ytbnnmbajfmodjaa.FA
open Go.RowKit Go.Proofs.YtbnnmbajfmodjaaW.PrintWords Go.Proofs.YtbnnmbajfmodjaaW.PrintLast Go.Proofs.YtbnnmbajfmodjaaW.PrintMore Go.Proofs.Ytbnnmbajfmodjaa.Hand
set_option linter.unusedVariables false
set_option linter.unusedSimpArgs false

def attr_Unpack.f (s : ByteArray) : Option (Int × Int × Int × Int × Int) :=
  if s.size = 12 then
    (tlv_Number.f 12 (s.extract 0 1)).bind fun n0 => (tlv_Number.f 12 ((s.extract 1 12).extract 0 1)).bind fun n1 =>
    (tlv_Number.f 12 (((s.extract 1 12).extract 1 11).extract 0 4)).bind fun n2 => (tlv_Number.f 12 ((((s.extract 1 12).extract 1 11).extract 4 10).extract 0 6)).bind fun n3 =>
    (attr_Check.f 2 n0.1 n1.1 n2.1 n3.1).bind fun e => if e = 0 then some (n0.1, n1.1, n2.1, n3.1, 0) else some (0, 0, 0, 0, e)
  else some (0, 0, 0, 0, 4)

theorem sx1 (s : ByteArray) (h : s.size = 12) : (s.extract 1 12).size = 11 := by rw [ByteArray.size_extract, h]; rfl
theorem sx2 (s : ByteArray) (h : s.size = 12) : ((s.extract 1 12).extract 1 11).size = 10 := by rw [ByteArray.size_extract, sx1 s h]; rfl
theorem sx3 (s : ByteArray) (h : s.size = 12) : (((s.extract 1 12).extract 1 11).extract 4 10).size = 6 := by rw [ByteArray.size_extract, sx2 s h]; rfl
theorem sx4 (s : ByteArray) (h : s.size = 12) : ((((s.extract 1 12).extract 1 11).extract 4 10).extract 6 6).size = 0 := by rw [ByteArray.size_extract, sx3 s h]; rfl

set_option maxHeartbeats 8000000 in
set_option maxRecDepth 100000 in
theorem attr_Unpack.calls (s : ByteArray) (r1 r2 r3 r4 r5 : Int) (w : World) (h : attr_Unpack.f s = some (r1, r2, r3, r4, r5)) :
    Calls Try.prog 33 #[.string s] w fun e w' => e = .returned (.tuple #[.agg #[.int .i64 r1, .int .i64 r2, .int .i64 r3, .int .i64 r4], .int .i64 r5]) ∧ Below w.heap.size w w' := by
  unfold attr_Unpack.f at h
  have HB := Aside0.mk (Below.refl w.heap.size w)
  have hu23 := Try.underlying26
  have hu42 := Try.underlying80
  by_cases hs : s.size = 12
  case neg =>
    rw [if_neg hs] at h
    simp only [Option.some.injEq, Prod.mk.injEq] at h
    obtain ⟨rfl, rfl, rfl, rfl, rfl⟩ := h
    have b0 : ((s.size : Int) == 12) = false := beq_eq_false_iff_ne.mpr (by omega)
    have b1 : ((s.size : Int) != 12) = true := bne_iff_ne.mpr (by omega)
    clear hs
    go_enter Try.func33, Try.ntmps33
    go_wp2_with (first | ((with_reducible refine gate_dst (N := 2) rfl ?_); refine box_event ?hg (N := 2) ?hd (cs := #[.int .i64 0, .int .i64 0, .int .i64 0, .int .i64 0]) (t := 26) ?hr ?_; (case hd => rfl); (case hg => rfl); (case hr => first | (go_simp; done) | (go_simp; rfl)); intro gb2 hg w1 hbox hb; have n1_ := Aside0.mk (below_step HB.out hb); have n2_ := Aside0.mk hbox; have n3_ := Aside0.mk (show w.heap.size ≤ gb2 from by rw [hg]; exact below_size HB.out); clear HB; have HB := n1_; have BK2 := n2_; have GE2 := n3_; clear n1_ n2_ n3_ hb hbox hg; have haz0 : w1.cell? ⟨gb2, 0, none⟩ = some (.int .i64 0) := (blk_cell BK2.out 0).trans rfl; have haf0 := blk_frozen BK2.out 0; have haz1 : w1.cell? ⟨gb2, 1, none⟩ = some (.int .i64 0) := (blk_cell BK2.out 1).trans rfl; have haf1 := blk_frozen BK2.out 1; have haz2 : w1.cell? ⟨gb2, 2, none⟩ = some (.int .i64 0) := (blk_cell BK2.out 2).trans rfl; have haf2 := blk_frozen BK2.out 2; have haz3 : w1.cell? ⟨gb2, 3, none⟩ = some (.int .i64 0) := (blk_cell BK2.out 3).trans rfl; have haf3 := blk_frozen BK2.out 3))
    refine bodyPost_ret (results_ct rfl _ _ gb2 26 #[.int .i64 0, .int .i64 0, .int .i64 0, .int .i64 0] (0, 0) _ rfl (by refine blk_put (cs := #[.int .i64 0, .int .i64 0, .int .i64 0, .int .i64 0]) ?_ 3 _ rfl; refine blk_put (cs := #[.int .i64 0, .int .i64 0, .int .i64 0, .int .i64 0]) ?_ 2 _ rfl; refine blk_put (cs := #[.int .i64 0, .int .i64 0, .int .i64 0, .int .i64 0]) ?_ 1 _ rfl; refine blk_put (cs := #[.int .i64 0, .int .i64 0, .int .i64 0, .int .i64 0]) ?_ 0 _ rfl; exact BK2.out) hu23 rfl (by kernel_rfl)) rfl ?_
    exact ⟨rfl, by repeat (first | exact HB.out | refine below_set ?_ GE2.out)⟩
  case pos =>
  rw [if_pos hs] at h
  obtain ⟨⟨n0, e0⟩, hn0, h⟩ := Option.bind_eq_some_iff.1 h
  obtain ⟨⟨n1, e1⟩, hn1, h⟩ := Option.bind_eq_some_iff.1 h
  obtain ⟨⟨n2, e2⟩, hn2, h⟩ := Option.bind_eq_some_iff.1 h
  obtain ⟨⟨n3, e3⟩, hn3, h⟩ := Option.bind_eq_some_iff.1 h
  obtain ⟨e, he, h⟩ := Option.bind_eq_some_iff.1 h
  have H0 := Aside0.mk hn0
  have H1 := Aside0.mk hn1
  have H2 := Aside0.mk hn2
  have H3 := Aside0.mk hn3
  have HE := Aside0.mk he
  clear hn0 hn1 hn2 hn3 he
  have HH := Aside0.mk h
  clear h
  have q1 := sx1 s hs
  have q2 := sx2 s hs
  have q3 := sx3 s hs
  have q4 := sx4 s hs
  have i0 : ∀ (x0 x1 x2 x3 : Value) (w : World), (Instr.index 80 (.agg #[x0, x1, x2, x3]) (.int .i64 0)).run Try.prog w = .ok x0 w := fun _ _ _ _ _ => by kernel_rfl
  have i1 : ∀ (x0 x1 x2 x3 : Value) (w : World), (Instr.index 80 (.agg #[x0, x1, x2, x3]) (.int .i64 1)).run Try.prog w = .ok x1 w := fun _ _ _ _ _ => by kernel_rfl
  have i2 : ∀ (x0 x1 x2 x3 : Value) (w : World), (Instr.index 80 (.agg #[x0, x1, x2, x3]) (.int .i64 2)).run Try.prog w = .ok x2 w := fun _ _ _ _ _ => by kernel_rfl
  have i3 : ∀ (x0 x1 x2 x3 : Value) (w : World), (Instr.index 80 (.agg #[x0, x1, x2, x3]) (.int .i64 3)).run Try.prog w = .ok x3 w := fun _ _ _ _ _ => by kernel_rfl
  go_enter Try.func33, Try.ntmps33
  go_wp2_with (first | ((with_reducible refine gate_dst (N := 2) rfl ?_); refine box_event ?hg (N := 2) ?hd (cs := #[.int .i64 0, .int .i64 0, .int .i64 0, .int .i64 0]) (t := 26) ?hr ?_; (case hd => rfl); (case hg => rfl); (case hr => first | (go_simp; done) | (go_simp; rfl)); intro gb2 hg w1 hbox hb; have n1_ := Aside0.mk (below_step HB.out hb); have n2_ := Aside0.mk hbox; have n3_ := Aside0.mk (show w.heap.size ≤ gb2 from by rw [hg]; exact below_size HB.out); clear HB; have HB := n1_; have BK2 := n2_; have GE2 := n3_; clear n1_ n2_ n3_ hb hbox hg) | ((with_reducible refine gate_dst (N := 4) rfl ?_); refine box_event ?hg (N := 4) ?hd (cs := #[.int .i64 0, .int .i64 0, .int .i64 0, .int .i64 0]) (t := 80) ?hr ?_; (case hd => rfl); (case hg => rfl); (case hr => first | (go_simp; done) | (go_simp; rfl)); intro gb4 hg w2 hbox hb; have m1_ := Aside0.mk (below_step HB.out hb); have m2_ := Aside0.mk hbox; have m3_ := Aside0.mk (show w.heap.size ≤ gb4 from by rw [hg]; exact below_size HB.out); have m4_ := Aside0.mk (show gb2 ≠ gb4 from by have := blk_lt BK2.out; rw [hg]; omega); have m5_ := Aside0.mk (blk_below BK2.out hb); clear HB BK2; have HB := m1_; have BK4 := m2_; have GE4 := m3_; have NE := m4_; have BK2 := m5_; clear m1_ m2_ m3_ m4_ m5_ hb hbox hg) | (go_at_call 41; refine (attr_widths_calls _).mono ?_; rintro e w3 ⟨rfl, hb⟩; have n1_ := Aside0.mk (below_step HB.out hb); have n2_ := Aside0.mk (blk_below BK2.out hb); have n3_ := Aside0.mk (blk_below BK4.out hb); clear HB BK2 BK4; have HB := n1_; have BK2 := n2_; have BK4 := n3_; clear n1_ n2_ n3_ hb; have hbz0 : w3.cell? ⟨gb4, 0, none⟩ = some (.int .i64 0) := (blk_cell BK4.out 0).trans rfl; have hbf0 := blk_frozen BK4.out 0; have hbz1 : w3.cell? ⟨gb4, 1, none⟩ = some (.int .i64 0) := (blk_cell BK4.out 1).trans rfl; have hbf1 := blk_frozen BK4.out 1; have hbz2 : w3.cell? ⟨gb4, 2, none⟩ = some (.int .i64 0) := (blk_cell BK4.out 2).trans rfl; have hbf2 := blk_frozen BK4.out 2; have hbz3 : w3.cell? ⟨gb4, 3, none⟩ = some (.int .i64 0) := (blk_cell BK4.out 3).trans rfl; have hbf3 := blk_frozen BK4.out 3))
  refine wp_loop_rounds 5 ?_
  rw [rounds_succ]
  go_wp2_with (first | (go_at_call 46; refine (tlv_Number.calls 12 (s.extract 0 1) n0 e0 _ H0.out).mono ?_; rintro e_ u0 ⟨rfl, hd⟩; have hb := hd.below; have n1_ := Aside0.mk (below_step HB.out hb); have n2_ := Aside0.mk (blk_below BK2.out hb); have n3_ := Aside0.mk (blk_below BK4.out hb); clear HB BK2 BK4; have HB := n1_; have BK2 := n2_; have BK4 := n3_; clear n1_ n2_ n3_ hb hd; have hc0z0 : u0.cell? ⟨gb4, 0, none⟩ = some (.int .i64 0) := (blk_cell BK4.out 0).trans rfl; have hc0f0 := blk_frozen BK4.out 0; have hc0z1 : u0.cell? ⟨gb4, 1, none⟩ = some (.int .i64 0) := (blk_cell BK4.out 1).trans rfl; have hc0f1 := blk_frozen BK4.out 1; have hc0z2 : u0.cell? ⟨gb4, 2, none⟩ = some (.int .i64 0) := (blk_cell BK4.out 2).trans rfl; have hc0f2 := blk_frozen BK4.out 2; have hc0z3 : u0.cell? ⟨gb4, 3, none⟩ = some (.int .i64 0) := (blk_cell BK4.out 3).trans rfl; have hc0f3 := blk_frozen BK4.out 3))
  rw [rounds_succ]
  go_wp2_with (first | (go_at_call 46; refine (tlv_Number.calls 12 ((s.extract 1 12).extract 0 1) n1 e1 _ H1.out).mono ?_; rintro e_ u1 ⟨rfl, hd⟩; have hb := hd.below; have n1_ := Aside0.mk (below_step (below_set HB.out GE4.out) hb); have n2_ := Aside0.mk (blk_below (blk_far BK2.out NE.out _) hb); have n3_ := Aside0.mk (blk_below (blk_put (cs := #[.int .i64 0, .int .i64 0, .int .i64 0, .int .i64 0]) BK4.out 0 (.int .i64 n0) (cs' := #[.int .i64 n0, .int .i64 0, .int .i64 0, .int .i64 0]) rfl) hb); clear HB BK2 BK4; have HB := n1_; have BK2 := n2_; have BK4 := n3_; clear n1_ n2_ n3_ hb hd; have hc1z0 : u1.cell? ⟨gb4, 0, none⟩ = some (.int .i64 n0) := (blk_cell BK4.out 0).trans rfl; have hc1f0 := blk_frozen BK4.out 0; have hc1z1 : u1.cell? ⟨gb4, 1, none⟩ = some (.int .i64 0) := (blk_cell BK4.out 1).trans rfl; have hc1f1 := blk_frozen BK4.out 1; have hc1z2 : u1.cell? ⟨gb4, 2, none⟩ = some (.int .i64 0) := (blk_cell BK4.out 2).trans rfl; have hc1f2 := blk_frozen BK4.out 2; have hc1z3 : u1.cell? ⟨gb4, 3, none⟩ = some (.int .i64 0) := (blk_cell BK4.out 3).trans rfl; have hc1f3 := blk_frozen BK4.out 3))
  rw [rounds_succ]
  go_wp2_with (first | (go_at_call 46; refine (tlv_Number.calls 12 (((s.extract 1 12).extract 1 11).extract 0 4) n2 e2 _ H2.out).mono ?_; rintro e_ u2 ⟨rfl, hd⟩; have hb := hd.below; have n1_ := Aside0.mk (below_step (below_set HB.out GE4.out) hb); have n2_ := Aside0.mk (blk_below (blk_far BK2.out NE.out _) hb); have n3_ := Aside0.mk (blk_below (blk_put (cs := #[.int .i64 n0, .int .i64 0, .int .i64 0, .int .i64 0]) BK4.out 1 (.int .i64 n1) (cs' := #[.int .i64 n0, .int .i64 n1, .int .i64 0, .int .i64 0]) rfl) hb); clear HB BK2 BK4; have HB := n1_; have BK2 := n2_; have BK4 := n3_; clear n1_ n2_ n3_ hb hd; have hc2z0 : u2.cell? ⟨gb4, 0, none⟩ = some (.int .i64 n0) := (blk_cell BK4.out 0).trans rfl; have hc2f0 := blk_frozen BK4.out 0; have hc2z1 : u2.cell? ⟨gb4, 1, none⟩ = some (.int .i64 n1) := (blk_cell BK4.out 1).trans rfl; have hc2f1 := blk_frozen BK4.out 1; have hc2z2 : u2.cell? ⟨gb4, 2, none⟩ = some (.int .i64 0) := (blk_cell BK4.out 2).trans rfl; have hc2f2 := blk_frozen BK4.out 2; have hc2z3 : u2.cell? ⟨gb4, 3, none⟩ = some (.int .i64 0) := (blk_cell BK4.out 3).trans rfl; have hc2f3 := blk_frozen BK4.out 3))
  rw [rounds_succ]
  go_wp2_with (first | (go_at_call 46; refine (tlv_Number.calls 12 ((((s.extract 1 12).extract 1 11).extract 4 10).extract 0 6) n3 e3 _ H3.out).mono ?_; rintro e_ u3 ⟨rfl, hd⟩; have hb := hd.below; have n1_ := Aside0.mk (below_step (below_set HB.out GE4.out) hb); have n2_ := Aside0.mk (blk_below (blk_far BK2.out NE.out _) hb); have n3_ := Aside0.mk (blk_below (blk_put (cs := #[.int .i64 n0, .int .i64 n1, .int .i64 0, .int .i64 0]) BK4.out 2 (.int .i64 n2) (cs' := #[.int .i64 n0, .int .i64 n1, .int .i64 n2, .int .i64 0]) rfl) hb); clear HB BK2 BK4; have HB := n1_; have BK2 := n2_; have BK4 := n3_; clear n1_ n2_ n3_ hb hd; have hc3z0 : u3.cell? ⟨gb4, 0, none⟩ = some (.int .i64 n0) := (blk_cell BK4.out 0).trans rfl; have hc3f0 := blk_frozen BK4.out 0; have hc3z1 : u3.cell? ⟨gb4, 1, none⟩ = some (.int .i64 n1) := (blk_cell BK4.out 1).trans rfl; have hc3f1 := blk_frozen BK4.out 1; have hc3z2 : u3.cell? ⟨gb4, 2, none⟩ = some (.int .i64 n2) := (blk_cell BK4.out 2).trans rfl; have hc3f2 := blk_frozen BK4.out 2; have hc3z3 : u3.cell? ⟨gb4, 3, none⟩ = some (.int .i64 0) := (blk_cell BK4.out 3).trans rfl; have hc3f3 := blk_frozen BK4.out 3))
  rw [rounds_succ]
  have h := HH.out
  clear HH
  by_cases hE : e = 0
  · rw [if_pos hE] at h
    simp only [Option.some.injEq, Prod.mk.injEq] at h
    obtain ⟨rfl, rfl, rfl, rfl, rfl⟩ := h
    subst hE
    go_wp2_with (first | (go_at_call 25; refine (attr_Check.calls 2 n0 n1 n2 n3 0 _ HE.out).mono ?_; rintro e_ w4 ⟨rfl, hb⟩; have n1_ := Aside0.mk (below_step (below_alloc (below_set (j := 3) (v := .int .i64 n3) HB.out GE4.out) (.cells #[.int .i64 n0, .int .i64 n1, .int .i64 n2, .int .i64 n3] 26)) hb); have n2_ := Aside0.mk (blk_below (blk_alloc (blk_far (p := ⟨gb4, 3, none⟩) BK2.out NE.out (.int .i64 n3)) (.cells #[.int .i64 n0, .int .i64 n1, .int .i64 n2, .int .i64 n3] 26)) hb); have n3_ := Aside0.mk (blk_below (g := u3.heap.size) (by have h_ := blk_new (u3.setCell ⟨gb4, 3, none⟩ (.int .i64 n3)) (.cells #[.int .i64 n0, .int .i64 n1, .int .i64 n2, .int .i64 n3] 26); simpa using h_) hb); clear HB BK2 BK4; have HB := n1_; have BK2 := n2_; have BK7 := n3_; clear n1_ n2_ n3_ hb; have hdz0 : w4.cell? ⟨gb2, 0, none⟩ = some (.int .i64 0) := (blk_cell BK2.out 0).trans rfl; have hdf0 := blk_frozen BK2.out 0; have hdz1 : w4.cell? ⟨gb2, 1, none⟩ = some (.int .i64 0) := (blk_cell BK2.out 1).trans rfl; have hdf1 := blk_frozen BK2.out 1; have hdz2 : w4.cell? ⟨gb2, 2, none⟩ = some (.int .i64 0) := (blk_cell BK2.out 2).trans rfl; have hdf2 := blk_frozen BK2.out 2; have hdz3 : w4.cell? ⟨gb2, 3, none⟩ = some (.int .i64 0) := (blk_cell BK2.out 3).trans rfl; have hdf3 := blk_frozen BK2.out 3; have hgz0 : w4.cell? ⟨u3.heap.size, 0, none⟩ = some (.int .i64 n0) := (blk_cell BK7.out 0).trans rfl; have hgf0 := blk_frozen BK7.out 0; have hgz1 : w4.cell? ⟨u3.heap.size, 1, none⟩ = some (.int .i64 n1) := (blk_cell BK7.out 1).trans rfl; have hgf1 := blk_frozen BK7.out 1; have hgz2 : w4.cell? ⟨u3.heap.size, 2, none⟩ = some (.int .i64 n2) := (blk_cell BK7.out 2).trans rfl; have hgf2 := blk_frozen BK7.out 2; have hgz3 : w4.cell? ⟨u3.heap.size, 3, none⟩ = some (.int .i64 n3) := (blk_cell BK7.out 3).trans rfl; have hgf3 := blk_frozen BK7.out 3))
    refine bodyPost_ret (results_ct rfl _ _ gb2 26 #[.int .i64 n0, .int .i64 n1, .int .i64 n2, .int .i64 n3] (0, 0) _ rfl (by refine blk_put (cs := #[.int .i64 n0, .int .i64 n1, .int .i64 n2, .int .i64 0]) ?_ 3 _ rfl; refine blk_put (cs := #[.int .i64 n0, .int .i64 n1, .int .i64 0, .int .i64 0]) ?_ 2 _ rfl; refine blk_put (cs := #[.int .i64 n0, .int .i64 0, .int .i64 0, .int .i64 0]) ?_ 1 _ rfl; refine blk_put (cs := #[.int .i64 0, .int .i64 0, .int .i64 0, .int .i64 0]) ?_ 0 _ rfl; exact BK2.out) hu23 rfl (by kernel_rfl)) rfl ?_
    exact ⟨rfl, by repeat (first | exact HB.out | refine below_set ?_ GE2.out)⟩
  · rw [if_neg hE] at h
    simp only [Option.some.injEq, Prod.mk.injEq] at h
    obtain ⟨rfl, rfl, rfl, rfl, rfl⟩ := h
    have b0 : (e == 0) = false := beq_eq_false_iff_ne.mpr hE
    have b1 : (e != 0) = true := bne_iff_ne.mpr hE
    clear hE
    go_wp2_with (first | (go_at_call 25; refine (attr_Check.calls 2 n0 n1 n2 n3 e _ HE.out).mono ?_; rintro e_ w4 ⟨rfl, hb⟩; have n1_ := Aside0.mk (below_step (below_alloc (below_set (j := 3) (v := .int .i64 n3) HB.out GE4.out) (.cells #[.int .i64 n0, .int .i64 n1, .int .i64 n2, .int .i64 n3] 26)) hb); have n2_ := Aside0.mk (blk_below (blk_alloc (blk_far (p := ⟨gb4, 3, none⟩) BK2.out NE.out (.int .i64 n3)) (.cells #[.int .i64 n0, .int .i64 n1, .int .i64 n2, .int .i64 n3] 26)) hb); have n3_ := Aside0.mk (blk_below (g := u3.heap.size) (by have h_ := blk_new (u3.setCell ⟨gb4, 3, none⟩ (.int .i64 n3)) (.cells #[.int .i64 n0, .int .i64 n1, .int .i64 n2, .int .i64 n3] 26); simpa using h_) hb); clear HB BK2 BK4; have HB := n1_; have BK2 := n2_; have BK7 := n3_; clear n1_ n2_ n3_ hb; have hdz0 : w4.cell? ⟨gb2, 0, none⟩ = some (.int .i64 0) := (blk_cell BK2.out 0).trans rfl; have hdf0 := blk_frozen BK2.out 0; have hdz1 : w4.cell? ⟨gb2, 1, none⟩ = some (.int .i64 0) := (blk_cell BK2.out 1).trans rfl; have hdf1 := blk_frozen BK2.out 1; have hdz2 : w4.cell? ⟨gb2, 2, none⟩ = some (.int .i64 0) := (blk_cell BK2.out 2).trans rfl; have hdf2 := blk_frozen BK2.out 2; have hdz3 : w4.cell? ⟨gb2, 3, none⟩ = some (.int .i64 0) := (blk_cell BK2.out 3).trans rfl; have hdf3 := blk_frozen BK2.out 3; have hgz0 : w4.cell? ⟨u3.heap.size, 0, none⟩ = some (.int .i64 n0) := (blk_cell BK7.out 0).trans rfl; have hgf0 := blk_frozen BK7.out 0; have hgz1 : w4.cell? ⟨u3.heap.size, 1, none⟩ = some (.int .i64 n1) := (blk_cell BK7.out 1).trans rfl; have hgf1 := blk_frozen BK7.out 1; have hgz2 : w4.cell? ⟨u3.heap.size, 2, none⟩ = some (.int .i64 n2) := (blk_cell BK7.out 2).trans rfl; have hgf2 := blk_frozen BK7.out 2; have hgz3 : w4.cell? ⟨u3.heap.size, 3, none⟩ = some (.int .i64 n3) := (blk_cell BK7.out 3).trans rfl; have hgf3 := blk_frozen BK7.out 3))
    refine bodyPost_ret (results_ct rfl _ _ gb2 26 #[.int .i64 0, .int .i64 0, .int .i64 0, .int .i64 0] (0, 0) _ rfl (by refine blk_put (cs := #[.int .i64 0, .int .i64 0, .int .i64 0, .int .i64 0]) ?_ 3 _ rfl; refine blk_put (cs := #[.int .i64 0, .int .i64 0, .int .i64 0, .int .i64 0]) ?_ 2 _ rfl; refine blk_put (cs := #[.int .i64 0, .int .i64 0, .int .i64 0, .int .i64 0]) ?_ 1 _ rfl; refine blk_put (cs := #[.int .i64 0, .int .i64 0, .int .i64 0, .int .i64 0]) ?_ 0 _ rfl; exact BK2.out) hu23 rfl (by kernel_rfl)) rfl ?_
    exact ⟨rfl, by repeat (first | exact HB.out | refine below_set ?_ GE2.out)⟩
end Go.Proofs.Ytbnnmbajfmodjaa.FA
