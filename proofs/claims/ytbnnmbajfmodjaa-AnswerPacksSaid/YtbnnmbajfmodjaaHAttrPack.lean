/- Written by hand: attr.Pack (a loop over an array of four numbers), and attr.widths. -/
import Derived.Test.YtbnnmbajfmodjaaFAAttrAll
import Derived.Test.YtbnnmbajfmodjaaFATlvAll
import Derived.Test.YtbnnmbajfmodjaaHandAll
namespace Go.Proofs.Ytbnnmbajfmodjaa.FA
open Go.RowKit Go.Proofs.YtbnnmbajfmodjaaW.PrintWords Go.Proofs.YtbnnmbajfmodjaaW.PrintLast Go.Proofs.YtbnnmbajfmodjaaW.PrintMore Go.Proofs.Ytbnnmbajfmodjaa.Hand
set_option linter.unusedVariables false
set_option linter.unusedSimpArgs false

def attr_Pack.f (a0_0 a0_1 a0_2 a0_3 : Int) : Option (ByteArray × Int) :=
  (attr_Check.f 2 a0_0 a0_1 a0_2 a0_3).bind fun e => if e = 0 then
    (tlv_Num.f 12 a0_0 1).bind fun s0 => (tlv_Num.f 12 a0_1 1).bind fun s1 => (tlv_Num.f 12 a0_2 4).bind fun s2 => (tlv_Num.f 12 a0_3 6).bind fun s3 =>
      if s0.1.size ≤ 100 ∧ s1.1.size ≤ 100 ∧ s2.1.size ≤ 100 ∧ s3.1.size ≤ 100 then some (((((⟨#[]⟩ : ByteArray) ++ s0.1) ++ s1.1) ++ s2.1) ++ s3.1, 0) else none
  else some (⟨#[]⟩, e)

set_option maxHeartbeats 800000 in
theorem attr_widths_calls (w : World) : Calls Try.prog 41 #[] w fun e w' => e = .returned (.agg #[.int .i64 1, .int .i64 1, .int .i64 4, .int .i64 6]) ∧ Below w.heap.size w w' := by
  have HB := Aside0.mk (Below.refl w.heap.size w)
  have hu42 := Try.underlying80
  go_enter Try.func41, Try.ntmps41
  go_wp2_with (first | ((with_reducible refine gate_dst (N := 0) rfl ?_); refine box_event ?hg (N := 0) ?hd (cs := #[.int .i64 0, .int .i64 0, .int .i64 0, .int .i64 0]) (t := 80) ?hr ?_; (case hd => rfl); (case hg => rfl); (case hr => first | (go_simp; done) | (go_simp; rfl)); intro gb hg w1 hbox hb; have n1_ := Aside0.mk (below_step HB.out hb); have n2_ := Aside0.mk hbox; have n3_ := Aside0.mk (show w.heap.size ≤ gb from by rw [hg]; exact below_size HB.out); clear HB; have HB := n1_; have BK := n2_; have GE := n3_; clear n1_ n2_ n3_ hb hbox hg; have hf0 := blk_frozen BK.out 0; have hf1 := blk_frozen BK.out 1; have hf2 := blk_frozen BK.out 2; have hf3 := blk_frozen BK.out 3; have hz0 := (blk_cell BK.out 0).trans rfl; have hz1 := (blk_cell BK.out 1).trans rfl; have hz2 := (blk_cell BK.out 2).trans rfl; have hz3 := (blk_cell BK.out 3).trans rfl))
  refine bodyPost_ret (results_c1 rfl _ _ gb 80 #[.int .i64 1, .int .i64 1, .int .i64 4, .int .i64 6] (0, 0) _ rfl (by refine blk_put (cs := #[.int .i64 1, .int .i64 1, .int .i64 4, .int .i64 0]) ?_ 3 _ rfl; refine blk_put (cs := #[.int .i64 1, .int .i64 1, .int .i64 0, .int .i64 0]) ?_ 2 _ rfl; refine blk_put (cs := #[.int .i64 1, .int .i64 0, .int .i64 0, .int .i64 0]) ?_ 1 _ rfl; refine blk_put (cs := #[.int .i64 0, .int .i64 0, .int .i64 0, .int .i64 0]) ?_ 0 _ rfl; exact BK.out) hu42 rfl (by kernel_rfl)) rfl ?_
  exact ⟨rfl, by repeat (first | exact HB.out | refine below_set ?_ GE.out)⟩

set_option maxHeartbeats 8000000 in
set_option maxRecDepth 100000 in
theorem attr_Pack.calls (a0_0 a0_1 a0_2 a0_3 : Int) (r1 : ByteArray) (r2 : Int) (w : World) (h : attr_Pack.f a0_0 a0_1 a0_2 a0_3 = some (r1, r2)) :
    Calls Try.prog 15 #[.agg #[.int .i64 a0_0, .int .i64 a0_1, .int .i64 a0_2, .int .i64 a0_3]] w fun e w' => e = .returned (.tuple #[.string r1, .int .i64 r2]) ∧ Below w.heap.size w w' := by
  unfold attr_Pack.f at h
  obtain ⟨e, he, h⟩ := Option.bind_eq_some_iff.1 h
  have HE := Aside0.mk he
  clear he
  have HB := Aside0.mk (Below.refl w.heap.size w)
  have hu23 := Try.underlying26
  by_cases h0 : e = 0
  · rw [if_pos h0] at h
    subst h0
    obtain ⟨⟨s0, e0⟩, hs0, h⟩ := Option.bind_eq_some_iff.1 h
    obtain ⟨⟨s1, e1⟩, hs1, h⟩ := Option.bind_eq_some_iff.1 h
    obtain ⟨⟨s2, e2⟩, hs2, h⟩ := Option.bind_eq_some_iff.1 h
    obtain ⟨⟨s3, e3⟩, hs3, h⟩ := Option.bind_eq_some_iff.1 h
    have H0 := Aside0.mk hs0
    have H1 := Aside0.mk hs1
    have H2 := Aside0.mk hs2
    have H3 := Aside0.mk hs3
    clear hs0 hs1 hs2 hs3
    by_cases hz : s0.size ≤ 100 ∧ s1.size ≤ 100 ∧ s2.size ≤ 100 ∧ s3.size ≤ 100
    case neg => rw [if_neg hz] at h; cases h
    rw [if_pos hz] at h
    obtain ⟨z0, z1, z2, z3⟩ := hz
    simp only [Option.some.injEq, Prod.mk.injEq] at h
    obtain ⟨rfl, rfl⟩ := h
    have c0 : (9223372036854775807 < s0.size + s1.size) = False := by apply eq_false; omega
    have c1 : (9223372036854775807 < s0.size + s1.size + s2.size) = False := by apply eq_false; omega
    have c2 : (9223372036854775807 < s0.size + s1.size + s2.size + s3.size) = False := by apply eq_false; omega
    have c3 : (9223372036854775807 < s0.size) = False := by apply eq_false; omega
    clear z0 z1 z2 z3
    have i0 : ∀ (x0 x1 x2 x3 : Value) (w : World), (Instr.index 80 (.agg #[x0, x1, x2, x3]) (.int .i64 0)).run Try.prog w = .ok x0 w := fun _ _ _ _ _ => by kernel_rfl
    have i1 : ∀ (x0 x1 x2 x3 : Value) (w : World), (Instr.index 80 (.agg #[x0, x1, x2, x3]) (.int .i64 1)).run Try.prog w = .ok x1 w := fun _ _ _ _ _ => by kernel_rfl
    have i2 : ∀ (x0 x1 x2 x3 : Value) (w : World), (Instr.index 80 (.agg #[x0, x1, x2, x3]) (.int .i64 2)).run Try.prog w = .ok x2 w := fun _ _ _ _ _ => by kernel_rfl
    have i3 : ∀ (x0 x1 x2 x3 : Value) (w : World), (Instr.index 80 (.agg #[x0, x1, x2, x3]) (.int .i64 3)).run Try.prog w = .ok x3 w := fun _ _ _ _ _ => by kernel_rfl
    go_enter Try.func15, Try.ntmps15
    go_wp2_with (first | ((with_reducible refine gate_dst (N := 1) rfl ?_); refine box_event ?hg (N := 1) ?hd (cs := #[.int .i64 a0_0, .int .i64 a0_1, .int .i64 a0_2, .int .i64 a0_3]) (t := 26) ?hr ?_; (case hd => rfl); (case hg => rfl); (case hr => first | (go_simp; done) | (go_simp; rfl)); intro gb hg w1 hbox hb; have n1_ := Aside0.mk (below_step HB.out hb); have n2_ := Aside0.mk hbox; clear HB; have HB := n1_; have BK := n2_; clear n1_ n2_ hb hbox hg; have hz0 : w1.cell? ⟨gb, 0, none⟩ = some (.int .i64 a0_0) := (blk_cell BK.out 0).trans rfl; have hz1 : w1.cell? ⟨gb, 1, none⟩ = some (.int .i64 a0_1) := (blk_cell BK.out 1).trans rfl; have hz2 : w1.cell? ⟨gb, 2, none⟩ = some (.int .i64 a0_2) := (blk_cell BK.out 2).trans rfl; have hz3 : w1.cell? ⟨gb, 3, none⟩ = some (.int .i64 a0_3) := (blk_cell BK.out 3).trans rfl) | (go_at_call 25; refine (attr_Check.calls 2 a0_0 a0_1 a0_2 a0_3 0 _ HE.out).mono ?_; rintro e w2 ⟨rfl, hb⟩; have n1_ := Aside0.mk (below_step HB.out hb); have n2_ := Aside0.mk (blk_below BK.out hb); clear HB BK; have HB := n1_; have BK := n2_; clear n1_ n2_ hb; have hy0 : w2.cell? ⟨gb, 0, none⟩ = some (.int .i64 a0_0) := (blk_cell BK.out 0).trans rfl; have hy1 : w2.cell? ⟨gb, 1, none⟩ = some (.int .i64 a0_1) := (blk_cell BK.out 1).trans rfl; have hy2 : w2.cell? ⟨gb, 2, none⟩ = some (.int .i64 a0_2) := (blk_cell BK.out 2).trans rfl; have hy3 : w2.cell? ⟨gb, 3, none⟩ = some (.int .i64 a0_3) := (blk_cell BK.out 3).trans rfl))
    clear hy0 hy1 hy2 hy3 hz0 hz1 hz2 hz3
    refine wp_loop_rounds 5 ?_
    rw [rounds_succ]
    go_wp2_with (first | (go_at_call 41; refine (attr_widths_calls _).mono ?_; rintro e v0 ⟨rfl, hb⟩; have n1_ := Aside0.mk (below_step HB.out hb); clear HB; have HB := n1_; clear n1_ hb) | (go_at_call 40; refine (tlv_Num.calls 12 a0_0 1 s0 e0 _ H0.out).mono ?_; rintro e u0 ⟨rfl, hb⟩; have n1_ := Aside0.mk (below_step HB.out hb); clear HB; have HB := n1_; clear n1_ hb))
    rw [rounds_succ]
    go_wp2_with (first | (go_at_call 41; refine (attr_widths_calls _).mono ?_; rintro e v1 ⟨rfl, hb⟩; have n1_ := Aside0.mk (below_step HB.out hb); clear HB; have HB := n1_; clear n1_ hb) | (go_at_call 40; refine (tlv_Num.calls 12 a0_1 1 s1 e1 _ H1.out).mono ?_; rintro e u1 ⟨rfl, hb⟩; have n1_ := Aside0.mk (below_step HB.out hb); clear HB; have HB := n1_; clear n1_ hb))
    rw [rounds_succ]
    go_wp2_with (first | (go_at_call 41; refine (attr_widths_calls _).mono ?_; rintro e v2 ⟨rfl, hb⟩; have n1_ := Aside0.mk (below_step HB.out hb); clear HB; have HB := n1_; clear n1_ hb) | (go_at_call 40; refine (tlv_Num.calls 12 a0_2 4 s2 e2 _ H2.out).mono ?_; rintro e u2 ⟨rfl, hb⟩; have n1_ := Aside0.mk (below_step HB.out hb); clear HB; have HB := n1_; clear n1_ hb))
    rw [rounds_succ]
    go_wp2_with (first | (go_at_call 41; refine (attr_widths_calls _).mono ?_; rintro e v3 ⟨rfl, hb⟩; have n1_ := Aside0.mk (below_step HB.out hb); clear HB; have HB := n1_; clear n1_ hb) | (go_at_call 40; refine (tlv_Num.calls 12 a0_3 6 s3 e3 _ H3.out).mono ?_; rintro e u3 ⟨rfl, hb⟩; have n1_ := Aside0.mk (below_step HB.out hb); clear HB; have HB := n1_; clear n1_ hb))
    rw [rounds_succ]
    go_wp2
    go_ret2
    exact ⟨rfl, HB.out⟩
  · rw [if_neg h0] at h
    simp only [Option.some.injEq, Prod.mk.injEq] at h
    obtain ⟨rfl, rfl⟩ := h
    have b0 : (e == 0) = false := beq_eq_false_iff_ne.mpr h0
    have b1 : (e != 0) = true := bne_iff_ne.mpr h0
    clear h0
    go_enter Try.func15, Try.ntmps15
    go_wp2_with (first | ((with_reducible refine gate_dst (N := 1) rfl ?_); refine box_event ?hg (N := 1) ?hd (cs := #[.int .i64 a0_0, .int .i64 a0_1, .int .i64 a0_2, .int .i64 a0_3]) (t := 26) ?hr ?_; (case hd => rfl); (case hg => rfl); (case hr => first | (go_simp; done) | (go_simp; rfl)); intro gb hg w1 hbox hb; have n1_ := Aside0.mk (below_step HB.out hb); have n2_ := Aside0.mk hbox; clear HB; have HB := n1_; have BK := n2_; clear n1_ n2_ hb hbox hg; have hz0 : w1.cell? ⟨gb, 0, none⟩ = some (.int .i64 a0_0) := (blk_cell BK.out 0).trans rfl; have hz1 : w1.cell? ⟨gb, 1, none⟩ = some (.int .i64 a0_1) := (blk_cell BK.out 1).trans rfl; have hz2 : w1.cell? ⟨gb, 2, none⟩ = some (.int .i64 a0_2) := (blk_cell BK.out 2).trans rfl; have hz3 : w1.cell? ⟨gb, 3, none⟩ = some (.int .i64 a0_3) := (blk_cell BK.out 3).trans rfl) | (go_at_call 25; refine (attr_Check.calls 2 a0_0 a0_1 a0_2 a0_3 e _ HE.out).mono ?_; rintro e_ w2 ⟨rfl, hb⟩; have n1_ := Aside0.mk (below_step HB.out hb); clear HB BK; have HB := n1_; clear n1_ hb))
    go_ret2
    exact ⟨rfl, HB.out⟩
end Go.Proofs.Ytbnnmbajfmodjaa.FA
