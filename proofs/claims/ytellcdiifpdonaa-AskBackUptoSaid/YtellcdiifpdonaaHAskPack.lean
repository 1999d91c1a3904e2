/- Written by hand (wip/tools/gen_ask_pack.py): ask.Pack (a loop over an array of eight texts). -/
import Derived.Test.YtellcdiifpdonaaHAskCheck
import Derived.Test.YtellcdiifpdonaaFAAskSmall
import Derived.Test.YtellcdiifpdonaaFATlvAll
namespace Go.Proofs.Ytellcdiifpdonaa.FA
open Go.RowKit Go.Proofs.YtellcdiifpdonaaW.PrintWords Go.Proofs.YtellcdiifpdonaaW.PrintLast Go.Proofs.YtellcdiifpdonaaW.PrintMore Go.Proofs.Ytellcdiifpdonaa.Hand Go.Proofs.Ytellcdiifpdonaa.B
set_option linter.unusedVariables false
set_option linter.unusedSimpArgs false
/-- The texts that are not empty, tagged by their places. -/
def tagged : Int → List ByteArray → List S51
 | _, [] => []
 | t, s :: l => if s.toList = [] then tagged (t + 1) l else ⟨t, s⟩ :: tagged (t + 1) l
theorem tagged_snoc (s : ByteArray) : ∀ (l : List ByteArray) (t : Int), tagged t (l ++ [s]) = tagged t l ++ (if s.toList = [] then [] else [⟨t + l.length, s⟩])
 | [], t => by by_cases h : s.toList = [] <;> simp [tagged, h]
 | x :: l, t => by
  have ih := tagged_snoc s l (t + 1)
  have e : t + 1 + (l.length : Int) = t + ((x :: l).length : Int) := by simp only [List.length_cons]; omega
  by_cases h : x.toList = [] <;> simp only [List.cons_append, tagged, h, if_true, if_false, ih, e]
theorem tagged_len : ∀ (l : List ByteArray) (t : Int), (tagged t l).length ≤ l.length
 | [], t => by simp [tagged]
 | x :: l, t => by
  have ih := tagged_len l (t + 1)
  simp only [tagged]
  split <;> simp <;> omega
def ask_Pack.f (k : Nat) (a0_0 : Int) (a0_1 : Int) (a0_2 : Int) (a0_3 : Int) (a0_4 : Int) (a0_5 : ByteArray) (a0_6 : ByteArray) (a0_7 : Int) (a0_8 : Int) (a0_9 : ByteArray) : Option (ByteArray × Int) :=
 (ask_Check.f a0_0 a0_1 a0_2 a0_3 a0_4 a0_5 a0_6 a0_7 a0_8 a0_9).bind fun e => if e = 0 then (ask_num.f k a0_0 1).bind fun s0 => (ask_handle.f k a0_1 a0_2).bind fun s1 => (ask_handle.f k a0_3 a0_4).bind fun s2 => (ask_num.f k a0_7 4).bind fun s5 => (ask_num.f k a0_8 2).bind fun s6 => tlv_Pack.f k (tagged 1 [s0, s1, s2, a0_5, a0_6, s5, s6, a0_9]) else some (⟨#[]⟩, e)
theorem ask_Pack.mono : ∀ a0_0 a0_1 a0_2 a0_3 a0_4 a0_5 a0_6 a0_7 a0_8 a0_9 k, LeO (ask_Pack.f k a0_0 a0_1 a0_2 a0_3 a0_4 a0_5 a0_6 a0_7 a0_8 a0_9) (ask_Pack.f (k + 1) a0_0 a0_1 a0_2 a0_3 a0_4 a0_5 a0_6 a0_7 a0_8 a0_9) := by
 intro a0_0 a0_1 a0_2 a0_3 a0_4 a0_5 a0_6 a0_7 a0_8 a0_9 k
 unfold ask_Pack.f
 refine LeO.bind (LeO.refl _) (fun _ => LeO.ite ?_ (LeO.refl _))
 refine LeO.bind (ask_num.mono _ _ _) (fun _ => LeO.bind (ask_handle.mono _ _ _) (fun _ => LeO.bind (ask_handle.mono _ _ _) (fun _ => LeO.bind (ask_num.mono _ _ _) (fun _ => LeO.bind (ask_num.mono _ _ _) (fun _ => tlv_Pack.mono _ _)))))
def ask_Pack.T5 : Bool × List (List Nat × List Nat) := (true, [([], []), ([0], [0]), ([1], [1]), ([], []), ([3], [3]), ([4, 2], [4]), ([], []), ([6], [6]), ([7, 5], [7]), ([], []), ([9], [9]), ([], []), ([11], [11]), ([], []), ([13], [13]), ([14, 8], [14]), ([], []), ([16], [16]), ([17, 15], [17]), ([], []), ([19], [19]), ([2, 5, 8, 10, 12, 15, 18, 20], [2, 5, 8, 10, 12, 15, 18, 20]), ([], [])])
def ask_Pack.B5 : List Nat := [0, 1, 3, 0, 8, 31, 0, 64, 255, 0, 512, 0, 2048, 0, 8192, 25087, 0, 65536, 254463, 0, 524288, 2097151, 0]
theorem ask_Pack.tab5 : rtab .any (opsOf Try.f6 5) = ask_Pack.T5 := by kernel_rfl
theorem ask_Pack.bits5 : waitsOk ask_Pack.T5.2 ask_Pack.B5 = true := by kernel_rfl
attribute [local go_sem] max2_int min2_int max_two min_two max_three min_three max_four min_four
set_option maxHeartbeats 8000000 in
set_option maxRecDepth 100000 in
theorem ask_Pack.bad (k : Nat) (a0_0 : Int) (a0_1 : Int) (a0_2 : Int) (a0_3 : Int) (a0_4 : Int) (a0_5 : ByteArray) (a0_6 : ByteArray) (a0_7 : Int) (a0_8 : Int) (a0_9 : ByteArray) (e : Int) (w : World) (he : ask_Check.f a0_0 a0_1 a0_2 a0_3 a0_4 a0_5 a0_6 a0_7 a0_8 a0_9 = some e) (h0 : e ≠ 0) :
  Calls Try.prog 6 #[.agg #[.int .i64 a0_0, .int .i64 a0_1, .int .i64 a0_2, .int .i64 a0_3, .int .i64 a0_4, .string a0_5, .string a0_6, .int .i64 a0_7, .int .i64 a0_8, .string a0_9]] w fun e_ w' => e_ = .returned (.tuple #[.string ⟨#[]⟩, .int .i64 e]) ∧ Below w.heap.size w w' := by
 have HB := Aside0.mk (Below.refl w.heap.size w)
 have hu25 := Try.underlying25
 have HE := Aside0.mk he
 have b0 : (e == 0) = false := beq_eq_false_iff_ne.mpr h0
 have b1 : (e != 0) = true := bne_iff_ne.mpr h0
 clear h0 he
 go_enter Try.func6, Try.ntmps6
 go_wp2_with (first | ((with_reducible refine gate_dst (N := 1) rfl ?_); refine box_event ?hg (N := 1) ?hd (cs := #[.int .i64 a0_0, .int .i64 a0_1, .int .i64 a0_2, .int .i64 a0_3, .int .i64 a0_4, .string a0_5, .string a0_6, .int .i64 a0_7, .int .i64 a0_8, .string a0_9]) (t := 25) ?hr ?_; (case hd => rfl); (case hg => rfl); (case hr => first | (go_simp; done) | (go_simp; rfl)); intro gb1 hg w1_ hbox hb; have nx_ := Aside0.mk hbox; have ny_ := Aside0.mk (show w.heap.size ≤ gb1 from by rw [hg]; exact below_size (by repeat (first | (with_reducible first | exact HB.out | apply below_alloc | apply pw_below_drewN | apply below_drew1) | exact HB.out))); have n0_ := Aside0.mk (below_step (by repeat (first | (with_reducible first | exact HB.out | apply below_alloc | apply pw_below_drewN | apply below_drew1) | exact HB.out)) hb); clear HB; have HB := n0_; clear n0_; have BK1 := nx_; have GE1 := ny_; clear hb hbox hg nx_ ny_ ; have hz1_0 := (blk_cell BK1.out 0).trans rfl; have hf1_0 := blk_frozen BK1.out 0; have hz1_1 := (blk_cell BK1.out 1).trans rfl; have hf1_1 := blk_frozen BK1.out 1; have hz1_2 := (blk_cell BK1.out 2).trans rfl; have hf1_2 := blk_frozen BK1.out 2; have hz1_3 := (blk_cell BK1.out 3).trans rfl; have hf1_3 := blk_frozen BK1.out 3; have hz1_4 := (blk_cell BK1.out 4).trans rfl; have hf1_4 := blk_frozen BK1.out 4; have hz1_5 := (blk_cell BK1.out 5).trans rfl; have hf1_5 := blk_frozen BK1.out 5; have hz1_6 := (blk_cell BK1.out 6).trans rfl; have hf1_6 := blk_frozen BK1.out 6; have hz1_7 := (blk_cell BK1.out 7).trans rfl; have hf1_7 := blk_frozen BK1.out 7; have hz1_8 := (blk_cell BK1.out 8).trans rfl; have hf1_8 := blk_frozen BK1.out 8; have hz1_9 := (blk_cell BK1.out 9).trans rfl; have hf1_9 := blk_frozen BK1.out 9) | (go_at_call 8; (refine (ask_Check.calls a0_0 a0_1 a0_2 a0_3 a0_4 a0_5 a0_6 a0_7 a0_8 a0_9 e _ HE.out).mono ?_); rintro e_ w2_ ⟨rfl, hb⟩; have n0_ := Aside0.mk (blk_below (g := gb1) (o := .cells #[.int .i64 a0_0, .int .i64 a0_1, .int .i64 a0_2, .int .i64 a0_3, .int .i64 a0_4, .string a0_5, .string a0_6, .int .i64 a0_7, .int .i64 a0_8, .string a0_9] 25 (0, 0)) (by (with_reducible repeat (first | refine blk_drewN ?_ _ | refine blk_drew ?_ | refine blk_alloc ?_ _)); exact BK1.out) hb); have n1_ := Aside0.mk (below_step (by repeat (first | (with_reducible first | exact HB.out | apply below_alloc | apply pw_below_drewN | apply below_drew1 | refine below_set ?_ GE1.out) | exact HB.out)) hb); clear BK1 HB; have BK1 := n0_; have HB := n1_; clear n0_ n1_; (try clear hb); (try clear hz1_0 hf1_0 hz1_1 hf1_1 hz1_2 hf1_2 hz1_3 hf1_3 hz1_4 hf1_4 hz1_5 hf1_5 hz1_6 hf1_6 hz1_7 hf1_7 hz1_8 hf1_8 hz1_9 hf1_9); have hz1_0 := (blk_cell BK1.out 0).trans rfl; have hf1_0 := blk_frozen BK1.out 0; have hz1_1 := (blk_cell BK1.out 1).trans rfl; have hf1_1 := blk_frozen BK1.out 1; have hz1_2 := (blk_cell BK1.out 2).trans rfl; have hf1_2 := blk_frozen BK1.out 2; have hz1_3 := (blk_cell BK1.out 3).trans rfl; have hf1_3 := blk_frozen BK1.out 3; have hz1_4 := (blk_cell BK1.out 4).trans rfl; have hf1_4 := blk_frozen BK1.out 4; have hz1_5 := (blk_cell BK1.out 5).trans rfl; have hf1_5 := blk_frozen BK1.out 5; have hz1_6 := (blk_cell BK1.out 6).trans rfl; have hf1_6 := blk_frozen BK1.out 6; have hz1_7 := (blk_cell BK1.out 7).trans rfl; have hf1_7 := blk_frozen BK1.out 7; have hz1_8 := (blk_cell BK1.out 8).trans rfl; have hf1_8 := blk_frozen BK1.out 8; have hz1_9 := (blk_cell BK1.out 9).trans rfl; have hf1_9 := blk_frozen BK1.out 9))
 go_ret2
 exact ⟨rfl, (by repeat (first | (with_reducible first | exact HB.out | apply below_alloc | apply pw_below_drewN | apply below_drew1 | refine below_set ?_ GE1.out) | exact HB.out))⟩
set_option maxHeartbeats 16000000 in
set_option maxRecDepth 100000 in
theorem ask_Pack.good (k : Nat) (a0_0 : Int) (a0_1 : Int) (a0_2 : Int) (a0_3 : Int) (a0_4 : Int) (a0_5 : ByteArray) (a0_6 : ByteArray) (a0_7 : Int) (a0_8 : Int) (a0_9 : ByteArray) (s0 s1 s2 s5 s6 : ByteArray) (r1 : ByteArray) (r2 : Int) (w : World) (he : ask_Check.f a0_0 a0_1 a0_2 a0_3 a0_4 a0_5 a0_6 a0_7 a0_8 a0_9 = some 0) (h0 : ask_num.f k a0_0 1 = some s0) (h1 : ask_handle.f k a0_1 a0_2 = some s1) (h2 : ask_handle.f k a0_3 a0_4 = some s2) (h5 : ask_num.f k a0_7 4 = some s5) (h6 : ask_num.f k a0_8 2 = some s6) (hp : tlv_Pack.f k (tagged 1 [s0, s1, s2, a0_5, a0_6, s5, s6, a0_9]) = some (r1, r2)) :
  Calls Try.prog 6 #[.agg #[.int .i64 a0_0, .int .i64 a0_1, .int .i64 a0_2, .int .i64 a0_3, .int .i64 a0_4, .string a0_5, .string a0_6, .int .i64 a0_7, .int .i64 a0_8, .string a0_9]] w fun e_ w' => e_ = .returned (.tuple #[.string r1, .int .i64 r2]) ∧ Below w.heap.size w w' := by
 have HB := Aside0.mk (Below.refl w.heap.size w)
 have hu25 := Try.underlying25
 have HE := Aside0.mk he
 have H0 := Aside0.mk h0
 have H1 := Aside0.mk h1
 have H2 := Aside0.mk h2
 have H5 := Aside0.mk h5
 have H6 := Aside0.mk h6
 have HP := Aside0.mk hp
 clear he h0 h1 h2 h5 h6 hp
 have i0 : ∀ (x0 x1 x2 x3 x4 x5 x6 x7 : Value) (w : World), (Instr.index 49 (.agg #[x0, x1, x2, x3, x4, x5, x6, x7]) (.int .i64 0)).run Try.prog w = .ok x0 w := fun _ _ _ _ _ _ _ _ _ => by kernel_rfl
 have i1 : ∀ (x0 x1 x2 x3 x4 x5 x6 x7 : Value) (w : World), (Instr.index 49 (.agg #[x0, x1, x2, x3, x4, x5, x6, x7]) (.int .i64 1)).run Try.prog w = .ok x1 w := fun _ _ _ _ _ _ _ _ _ => by kernel_rfl
 have i2 : ∀ (x0 x1 x2 x3 x4 x5 x6 x7 : Value) (w : World), (Instr.index 49 (.agg #[x0, x1, x2, x3, x4, x5, x6, x7]) (.int .i64 2)).run Try.prog w = .ok x2 w := fun _ _ _ _ _ _ _ _ _ => by kernel_rfl
 have i3 : ∀ (x0 x1 x2 x3 x4 x5 x6 x7 : Value) (w : World), (Instr.index 49 (.agg #[x0, x1, x2, x3, x4, x5, x6, x7]) (.int .i64 3)).run Try.prog w = .ok x3 w := fun _ _ _ _ _ _ _ _ _ => by kernel_rfl
 have i4 : ∀ (x0 x1 x2 x3 x4 x5 x6 x7 : Value) (w : World), (Instr.index 49 (.agg #[x0, x1, x2, x3, x4, x5, x6, x7]) (.int .i64 4)).run Try.prog w = .ok x4 w := fun _ _ _ _ _ _ _ _ _ => by kernel_rfl
 have i5 : ∀ (x0 x1 x2 x3 x4 x5 x6 x7 : Value) (w : World), (Instr.index 49 (.agg #[x0, x1, x2, x3, x4, x5, x6, x7]) (.int .i64 5)).run Try.prog w = .ok x5 w := fun _ _ _ _ _ _ _ _ _ => by kernel_rfl
 have i6 : ∀ (x0 x1 x2 x3 x4 x5 x6 x7 : Value) (w : World), (Instr.index 49 (.agg #[x0, x1, x2, x3, x4, x5, x6, x7]) (.int .i64 6)).run Try.prog w = .ok x6 w := fun _ _ _ _ _ _ _ _ _ => by kernel_rfl
 have i7 : ∀ (x0 x1 x2 x3 x4 x5 x6 x7 : Value) (w : World), (Instr.index 49 (.agg #[x0, x1, x2, x3, x4, x5, x6, x7]) (.int .i64 7)).run Try.prog w = .ok x7 w := fun _ _ _ _ _ _ _ _ _ => by kernel_rfl
 go_enter Try.func6, Try.ntmps6
 go_wp2_with (first | ((with_reducible refine gate_dst (N := 1) rfl ?_); refine box_event ?hg (N := 1) ?hd (cs := #[.int .i64 a0_0, .int .i64 a0_1, .int .i64 a0_2, .int .i64 a0_3, .int .i64 a0_4, .string a0_5, .string a0_6, .int .i64 a0_7, .int .i64 a0_8, .string a0_9]) (t := 25) ?hr ?_; (case hd => rfl); (case hg => rfl); (case hr => first | (go_simp; done) | (go_simp; rfl)); intro gb1 hg w1_ hbox hb; have nx_ := Aside0.mk hbox; have ny_ := Aside0.mk (show w.heap.size ≤ gb1 from by rw [hg]; exact below_size (by repeat (first | (with_reducible first | exact HB.out | apply below_alloc | apply pw_below_drewN | apply below_drew1) | exact HB.out))); have n0_ := Aside0.mk (below_step (by repeat (first | (with_reducible first | exact HB.out | apply below_alloc | apply pw_below_drewN | apply below_drew1) | exact HB.out)) hb); clear HB; have HB := n0_; clear n0_; have BK1 := nx_; have GE1 := ny_; clear hb hbox hg nx_ ny_ ; have hz1_0 := (blk_cell BK1.out 0).trans rfl; have hf1_0 := blk_frozen BK1.out 0; have hz1_1 := (blk_cell BK1.out 1).trans rfl; have hf1_1 := blk_frozen BK1.out 1; have hz1_2 := (blk_cell BK1.out 2).trans rfl; have hf1_2 := blk_frozen BK1.out 2; have hz1_3 := (blk_cell BK1.out 3).trans rfl; have hf1_3 := blk_frozen BK1.out 3; have hz1_4 := (blk_cell BK1.out 4).trans rfl; have hf1_4 := blk_frozen BK1.out 4; have hz1_5 := (blk_cell BK1.out 5).trans rfl; have hf1_5 := blk_frozen BK1.out 5; have hz1_6 := (blk_cell BK1.out 6).trans rfl; have hf1_6 := blk_frozen BK1.out 6; have hz1_7 := (blk_cell BK1.out 7).trans rfl; have hf1_7 := blk_frozen BK1.out 7; have hz1_8 := (blk_cell BK1.out 8).trans rfl; have hf1_8 := blk_frozen BK1.out 8; have hz1_9 := (blk_cell BK1.out 9).trans rfl; have hf1_9 := blk_frozen BK1.out 9) | (go_at_call 8; (refine (ask_Check.calls a0_0 a0_1 a0_2 a0_3 a0_4 a0_5 a0_6 a0_7 a0_8 a0_9 0 _ HE.out).mono ?_); rintro e_ w2_ ⟨rfl, hb⟩; have n0_ := Aside0.mk (blk_below (g := gb1) (o := .cells #[.int .i64 a0_0, .int .i64 a0_1, .int .i64 a0_2, .int .i64 a0_3, .int .i64 a0_4, .string a0_5, .string a0_6, .int .i64 a0_7, .int .i64 a0_8, .string a0_9] 25 (0, 0)) (by (with_reducible repeat (first | refine blk_drewN ?_ _ | refine blk_drew ?_ | refine blk_alloc ?_ _)); exact BK1.out) hb); have n1_ := Aside0.mk (below_step (by repeat (first | (with_reducible first | exact HB.out | apply below_alloc | apply pw_below_drewN | apply below_drew1 | refine below_set ?_ GE1.out) | exact HB.out)) hb); clear BK1 HB; have BK1 := n0_; have HB := n1_; clear n0_ n1_; (try clear hb); (try clear hz1_0 hf1_0 hz1_1 hf1_1 hz1_2 hf1_2 hz1_3 hf1_3 hz1_4 hf1_4 hz1_5 hf1_5 hz1_6 hf1_6 hz1_7 hf1_7 hz1_8 hf1_8 hz1_9 hf1_9); have hz1_0 := (blk_cell BK1.out 0).trans rfl; have hf1_0 := blk_frozen BK1.out 0; have hz1_1 := (blk_cell BK1.out 1).trans rfl; have hf1_1 := blk_frozen BK1.out 1; have hz1_2 := (blk_cell BK1.out 2).trans rfl; have hf1_2 := blk_frozen BK1.out 2; have hz1_3 := (blk_cell BK1.out 3).trans rfl; have hf1_3 := blk_frozen BK1.out 3; have hz1_4 := (blk_cell BK1.out 4).trans rfl; have hf1_4 := blk_frozen BK1.out 4; have hz1_5 := (blk_cell BK1.out 5).trans rfl; have hf1_5 := blk_frozen BK1.out 5; have hz1_6 := (blk_cell BK1.out 6).trans rfl; have hf1_6 := blk_frozen BK1.out 6; have hz1_7 := (blk_cell BK1.out 7).trans rfl; have hf1_7 := blk_frozen BK1.out 7; have hz1_8 := (blk_cell BK1.out 8).trans rfl; have hf1_8 := blk_frozen BK1.out 8; have hz1_9 := (blk_cell BK1.out 9).trans rfl; have hf1_9 := blk_frozen BK1.out 9))
 have n0_ := Aside0.mk (show _ = some (.cells #[.int .i64 a0_0, .int .i64 a0_1, .int .i64 a0_2, .int .i64 a0_3, .int .i64 a0_4, .string a0_5, .string a0_6, .int .i64 a0_7, .int .i64 a0_8, .string a0_9] 25 (0, 0)) from blk_drew (by (with_reducible repeat (first | refine blk_drewN ?_ _ | refine blk_drew ?_ | refine blk_alloc ?_ _)); exact BK1.out))
 have n1_ := Aside0.mk (below_drew1 (by repeat (first | (with_reducible first | exact HB.out | apply below_alloc | apply pw_below_drewN | apply below_drew1 | refine below_set ?_ GE1.out) | exact HB.out)))
 clear BK1 HB
 have BK1 := n0_
 have HB := n1_
 clear n0_ n1_
 (try clear hz1_0 hf1_0 hz1_1 hf1_1 hz1_2 hf1_2 hz1_3 hf1_3 hz1_4 hf1_4 hz1_5 hf1_5 hz1_6 hf1_6 hz1_7 hf1_7 hz1_8 hf1_8 hz1_9 hf1_9)
 refine start_ (n := 23) (S := fun w' => w'.cell? ⟨gb1, 0, none⟩ = some (.int .i64 a0_0) ∧ w'.cell? ⟨gb1, 1, none⟩ = some (.int .i64 a0_1) ∧ w'.cell? ⟨gb1, 2, none⟩ = some (.int .i64 a0_2) ∧ w'.cell? ⟨gb1, 3, none⟩ = some (.int .i64 a0_3) ∧ w'.cell? ⟨gb1, 4, none⟩ = some (.int .i64 a0_4) ∧ w'.cell? ⟨gb1, 5, none⟩ = some (.string a0_5) ∧ w'.cell? ⟨gb1, 6, none⟩ = some (.string a0_6) ∧ w'.cell? ⟨gb1, 7, none⟩ = some (.int .i64 a0_7) ∧ w'.cell? ⟨gb1, 8, none⟩ = some (.int .i64 a0_8) ∧ w'.cell? ⟨gb1, 9, none⟩ = some (.string a0_9)) (ds := []) #[false, false, false, false, false, false, false, false, false, false, false, false, false, false, false, false, false, false, false, false, false, false, false] (by kernel_rfl) rfl rfl ⟨(blk_cell BK1.out 0).trans rfl, (blk_cell BK1.out 1).trans rfl, (blk_cell BK1.out 2).trans rfl, (blk_cell BK1.out 3).trans rfl, (blk_cell BK1.out 4).trans rfl, (blk_cell BK1.out 5).trans rfl, (blk_cell BK1.out 6).trans rfl, (blk_cell BK1.out 7).trans rfl, (blk_cell BK1.out 8).trans rfl, (blk_cell BK1.out 9).trans rfl⟩ (fun hHeld => ?_); refine with_tabW ask_Pack.tab5 ask_Pack.bits5 (fun HT_ HW_ => ?_)
 refine pure_ (i := 0) (N := some 13) (v := ?_) (a' := ?_) #[true, false, false, false, false, false, false, false, false, false, false, false, false, false, false, false, false, false, false, false, false, false, false] rfl rfl (any_of HT_.out (by kernel_rfl)) (fun _ _ _ h => h) (Or.inl ⟨by rfl, ?_⟩) ?_ ?_
 rotate_left
 ·intro w'
  go_simp
  with_reducible rfl
 rotate_left
 ·simp only [Act.put, List.setIfInBounds_toArray, List.set_cons_zero, List.set_cons_succ, i64_w, i32_w]
  rfl
 refine pure_ (i := 3) (N := some 16) (v := ?_) (a' := ?_) #[true, false, false, true, false, false, false, false, false, false, false, false, false, false, false, false, false, false, false, false, false, false, false] rfl rfl (any_of HT_.out (by kernel_rfl)) (fun _ _ _ h => h) (Or.inl ⟨by rfl, ?_⟩) ?_ ?_
 rotate_left
 ·intro w'
  go_simp
  with_reducible rfl
 rotate_left
 ·simp only [Act.put, List.setIfInBounds_toArray, List.set_cons_zero, List.set_cons_succ, i64_w, i32_w]
  rfl
 refine pure_ (i := 6) (N := some 19) (v := ?_) (a' := ?_) #[true, false, false, true, false, false, true, false, false, false, false, false, false, false, false, false, false, false, false, false, false, false, false] rfl rfl (any_of HT_.out (by kernel_rfl)) (fun _ _ _ h => h) (Or.inl ⟨by rfl, ?_⟩) ?_ ?_
 rotate_left
 ·intro w'
  go_simp
  with_reducible rfl
 rotate_left
 ·simp only [Act.put, List.setIfInBounds_toArray, List.set_cons_zero, List.set_cons_succ, i64_w, i32_w]
  rfl
 refine pure_ (i := 9) (N := some 22) (v := ?_) (a' := ?_) #[true, false, false, true, false, false, true, false, false, true, false, false, false, false, false, false, false, false, false, false, false, false, false] rfl rfl (any_of HT_.out (by kernel_rfl)) (fun _ _ _ h => h) (Or.inl ⟨by rfl, ?_⟩) ?_ ?_
 rotate_left
 ·intro w'
  go_simp
  with_reducible rfl
 rotate_left
 ·simp only [Act.put, List.setIfInBounds_toArray, List.set_cons_zero, List.set_cons_succ, i64_w, i32_w]
  rfl
 refine pure_ (i := 11) (N := some 24) (v := ?_) (a' := ?_) #[true, false, false, true, false, false, true, false, false, true, false, true, false, false, false, false, false, false, false, false, false, false, false] rfl rfl (any_of HT_.out (by kernel_rfl)) (fun _ _ _ h => h) (Or.inl ⟨by rfl, ?_⟩) ?_ ?_
 rotate_left
 ·intro w'
  go_simp
  with_reducible rfl
 rotate_left
 ·simp only [Act.put, List.setIfInBounds_toArray, List.set_cons_zero, List.set_cons_succ, i64_w, i32_w]
  rfl
 refine pure_ (i := 13) (N := some 26) (v := ?_) (a' := ?_) #[true, false, false, true, false, false, true, false, false, true, false, true, false, true, false, false, false, false, false, false, false, false, false] rfl rfl (any_of HT_.out (by kernel_rfl)) (fun _ _ _ h => h) (Or.inl ⟨by rfl, ?_⟩) ?_ ?_
 rotate_left
 ·intro w'
  go_simp
  with_reducible rfl
 rotate_left
 ·simp only [Act.put, List.setIfInBounds_toArray, List.set_cons_zero, List.set_cons_succ, i64_w, i32_w]
  rfl
 refine pure_ (i := 16) (N := some 29) (v := ?_) (a' := ?_) #[true, false, false, true, false, false, true, false, false, true, false, true, false, true, false, false, true, false, false, false, false, false, false] rfl rfl (any_of HT_.out (by kernel_rfl)) (fun _ _ _ h => h) (Or.inl ⟨by rfl, ?_⟩) ?_ ?_
 rotate_left
 ·intro w'
  go_simp
  with_reducible rfl
 rotate_left
 ·simp only [Act.put, List.setIfInBounds_toArray, List.set_cons_zero, List.set_cons_succ, i64_w, i32_w]
  rfl
 refine pure_ (i := 19) (N := some 32) (v := ?_) (a' := ?_) #[true, false, false, true, false, false, true, false, false, true, false, true, false, true, false, false, true, false, false, true, false, false, false] rfl rfl (any_of HT_.out (by kernel_rfl)) (fun _ _ _ h => h) (Or.inl ⟨by rfl, ?_⟩) ?_ ?_
 rotate_left
 ·intro w'
  go_simp
  with_reducible rfl
 rotate_left
 ·simp only [Act.put, List.setIfInBounds_toArray, List.set_cons_zero, List.set_cons_succ, i64_w, i32_w]
  rfl
 refine pure_ (i := 22) (N := some 35) (v := ?_) (a' := ?_) #[true, false, false, true, false, false, true, false, false, true, false, true, false, true, false, false, true, false, false, true, false, false, true] rfl rfl (any_of HT_.out (by kernel_rfl)) (fun _ _ _ h => h) (Or.inl ⟨by rfl, ?_⟩) ?_ ?_
 rotate_left
 ·intro w'
  go_simp
  with_reducible rfl
 rotate_left
 ·simp only [Act.put, List.setIfInBounds_toArray, List.set_cons_zero, List.set_cons_succ, i64_w, i32_w]
  rfl
 refine take_ (i := 1) (N := some 14) (v := ?_) (a' := ?_) #[true, true, false, true, false, false, true, false, false, true, false, true, false, true, false, false, true, false, false, true, false, false, true] rfl rfl (take_ofW HT_.out HW_.out (by kernel_rfl)) (fun _ _ _ h => h) (Or.inl ⟨by rfl, ?_⟩) hHeld ?_ ?_
 rotate_left
 ·rintro w' ⟨s0, s1, s2, s3, s4, s5, s6, s7, s8, s9⟩
  go_simp
  with_reducible rfl
 rotate_left
 ·simp only [Act.put, List.setIfInBounds_toArray, List.set_cons_zero, List.set_cons_succ, i64_w, i32_w]
  rfl
 refine take_ (i := 4) (N := some 17) (v := ?_) (a' := ?_) #[true, true, false, true, true, false, true, false, false, true, false, true, false, true, false, false, true, false, false, true, false, false, true] rfl rfl (take_ofW HT_.out HW_.out (by kernel_rfl)) (fun _ _ _ h => h) (Or.inl ⟨by rfl, ?_⟩) hHeld ?_ ?_
 rotate_left
 ·rintro w' ⟨s0, s1, s2, s3, s4, s5, s6, s7, s8, s9⟩
  go_simp
  with_reducible rfl
 rotate_left
 ·simp only [Act.put, List.setIfInBounds_toArray, List.set_cons_zero, List.set_cons_succ, i64_w, i32_w]
  rfl
 refine take_ (i := 7) (N := some 20) (v := ?_) (a' := ?_) #[true, true, false, true, true, false, true, true, false, true, false, true, false, true, false, false, true, false, false, true, false, false, true] rfl rfl (take_ofW HT_.out HW_.out (by kernel_rfl)) (fun _ _ _ h => h) (Or.inl ⟨by rfl, ?_⟩) hHeld ?_ ?_
 rotate_left
 ·rintro w' ⟨s0, s1, s2, s3, s4, s5, s6, s7, s8, s9⟩
  go_simp
  with_reducible rfl
 rotate_left
 ·simp only [Act.put, List.setIfInBounds_toArray, List.set_cons_zero, List.set_cons_succ, i64_w, i32_w]
  rfl
 refine take_ (i := 10) (N := some 23) (v := ?_) (a' := ?_) #[true, true, false, true, true, false, true, true, false, true, true, true, false, true, false, false, true, false, false, true, false, false, true] rfl rfl (take_ofW HT_.out HW_.out (by kernel_rfl)) (fun _ _ _ h => h) (Or.inl ⟨by rfl, ?_⟩) hHeld ?_ ?_
 rotate_left
 ·rintro w' ⟨s0, s1, s2, s3, s4, s5, s6, s7, s8, s9⟩
  go_simp
  with_reducible rfl
 rotate_left
 ·simp only [Act.put, List.setIfInBounds_toArray, List.set_cons_zero, List.set_cons_succ, i64_w, i32_w]
  rfl
 refine take_ (i := 12) (N := some 25) (v := ?_) (a' := ?_) #[true, true, false, true, true, false, true, true, false, true, true, true, true, true, false, false, true, false, false, true, false, false, true] rfl rfl (take_ofW HT_.out HW_.out (by kernel_rfl)) (fun _ _ _ h => h) (Or.inl ⟨by rfl, ?_⟩) hHeld ?_ ?_
 rotate_left
 ·rintro w' ⟨s0, s1, s2, s3, s4, s5, s6, s7, s8, s9⟩
  go_simp
  with_reducible rfl
 rotate_left
 ·simp only [Act.put, List.setIfInBounds_toArray, List.set_cons_zero, List.set_cons_succ, i64_w, i32_w]
  rfl
 refine take_ (i := 14) (N := some 27) (v := ?_) (a' := ?_) #[true, true, false, true, true, false, true, true, false, true, true, true, true, true, true, false, true, false, false, true, false, false, true] rfl rfl (take_ofW HT_.out HW_.out (by kernel_rfl)) (fun _ _ _ h => h) (Or.inl ⟨by rfl, ?_⟩) hHeld ?_ ?_
 rotate_left
 ·rintro w' ⟨s0, s1, s2, s3, s4, s5, s6, s7, s8, s9⟩
  go_simp
  with_reducible rfl
 rotate_left
 ·simp only [Act.put, List.setIfInBounds_toArray, List.set_cons_zero, List.set_cons_succ, i64_w, i32_w]
  rfl
 refine take_ (i := 17) (N := some 30) (v := ?_) (a' := ?_) #[true, true, false, true, true, false, true, true, false, true, true, true, true, true, true, false, true, true, false, true, false, false, true] rfl rfl (take_ofW HT_.out HW_.out (by kernel_rfl)) (fun _ _ _ h => h) (Or.inl ⟨by rfl, ?_⟩) hHeld ?_ ?_
 rotate_left
 ·rintro w' ⟨s0, s1, s2, s3, s4, s5, s6, s7, s8, s9⟩
  go_simp
  with_reducible rfl
 rotate_left
 ·simp only [Act.put, List.setIfInBounds_toArray, List.set_cons_zero, List.set_cons_succ, i64_w, i32_w]
  rfl
 refine take_ (i := 20) (N := some 33) (v := ?_) (a' := ?_) #[true, true, false, true, true, false, true, true, false, true, true, true, true, true, true, false, true, true, false, true, true, false, true] rfl rfl (take_ofW HT_.out HW_.out (by kernel_rfl)) (fun _ _ _ h => h) (Or.inl ⟨by rfl, ?_⟩) hHeld ?_ ?_
 rotate_left
 ·rintro w' ⟨s0, s1, s2, s3, s4, s5, s6, s7, s8, s9⟩
  go_simp
  with_reducible rfl
 rotate_left
 ·simp only [Act.put, List.setIfInBounds_toArray, List.set_cons_zero, List.set_cons_succ, i64_w, i32_w]
  rfl
 refine one_ (i := 2) (N := some 15) #[true, true, true, true, true, false, true, true, false, true, true, true, true, true, true, false, true, true, false, true, true, false, true] rfl rfl (one_of HT_.out (by kernel_rfl)) (by decide) (fun K hK => ?_)
 refine goes_ Try.func16 (by kernel_rfl) rfl #[.int .i64 a0_0, .int .i64 1] (by rfl) rfl rfl (by (try simp only [List.map_toArray, List.map_cons, List.map_nil]); first | done | rfl) ?_
 refine (ask_num.calls k a0_0 1 s0 _ H0.out).mono ?_
 rintro e w3_ ⟨rfl, hb⟩
 refine ⟨_, rfl, ?_⟩
 have n0_ := Aside0.mk (blk_below (g := gb1) (o := .cells #[.int .i64 a0_0, .int .i64 a0_1, .int .i64 a0_2, .int .i64 a0_3, .int .i64 a0_4, .string a0_5, .string a0_6, .int .i64 a0_7, .int .i64 a0_8, .string a0_9] 25 (0, 0)) (by (with_reducible repeat (first | refine blk_drewN ?_ _ | refine blk_drew ?_ | refine blk_alloc ?_ _)); exact BK1.out) hb)
 have n1_ := Aside0.mk (below_step (by repeat (first | (with_reducible first | exact HB.out | apply below_alloc | apply pw_below_drewN | apply below_drew1 | refine below_set ?_ GE1.out) | exact HB.out)) hb)
 clear BK1 HB
 have BK1 := n0_
 have HB := n1_
 clear n0_ n1_
 (try clear hb)
 refine hK.out _ _ ⟨(blk_cell BK1.out 0).trans rfl, (blk_cell BK1.out 1).trans rfl, (blk_cell BK1.out 2).trans rfl, (blk_cell BK1.out 3).trans rfl, (blk_cell BK1.out 4).trans rfl, (blk_cell BK1.out 5).trans rfl, (blk_cell BK1.out 6).trans rfl, (blk_cell BK1.out 7).trans rfl, (blk_cell BK1.out 8).trans rfl, (blk_cell BK1.out 9).trans rfl⟩ (fun hHeld => ?_)
 clear hK K
 refine norm_ (a' := ?_) ?_ ?_
 rotate_left
 ·show Act.put _ (some 15) _ = _
  simp only [Act.put, List.setIfInBounds_toArray, List.set_cons_zero, List.set_cons_succ, i64_w, i32_w]
  rfl
 refine one_ (i := 5) (N := some 18) #[true, true, true, true, true, true, true, true, false, true, true, true, true, true, true, false, true, true, false, true, true, false, true] rfl rfl (one_of HT_.out (by kernel_rfl)) (by decide) (fun K hK => ?_)
 refine goes_ Try.func17 (by kernel_rfl) rfl #[.agg #[.int .i64 a0_1, .int .i64 a0_2]] (by rfl) rfl rfl (by (try simp only [List.map_toArray, List.map_cons, List.map_nil]); first | done | rfl) ?_
 refine (ask_handle.calls k a0_1 a0_2 s1 _ H1.out).mono ?_
 rintro e w4_ ⟨rfl, hb⟩
 refine ⟨_, rfl, ?_⟩
 have n0_ := Aside0.mk (blk_below (g := gb1) (o := .cells #[.int .i64 a0_0, .int .i64 a0_1, .int .i64 a0_2, .int .i64 a0_3, .int .i64 a0_4, .string a0_5, .string a0_6, .int .i64 a0_7, .int .i64 a0_8, .string a0_9] 25 (0, 0)) (by (with_reducible repeat (first | refine blk_drewN ?_ _ | refine blk_drew ?_ | refine blk_alloc ?_ _)); exact BK1.out) hb)
 have n1_ := Aside0.mk (below_step (by repeat (first | (with_reducible first | exact HB.out | apply below_alloc | apply pw_below_drewN | apply below_drew1 | refine below_set ?_ GE1.out) | exact HB.out)) hb)
 clear BK1 HB
 have BK1 := n0_
 have HB := n1_
 clear n0_ n1_
 (try clear hb)
 refine hK.out _ _ ⟨(blk_cell BK1.out 0).trans rfl, (blk_cell BK1.out 1).trans rfl, (blk_cell BK1.out 2).trans rfl, (blk_cell BK1.out 3).trans rfl, (blk_cell BK1.out 4).trans rfl, (blk_cell BK1.out 5).trans rfl, (blk_cell BK1.out 6).trans rfl, (blk_cell BK1.out 7).trans rfl, (blk_cell BK1.out 8).trans rfl, (blk_cell BK1.out 9).trans rfl⟩ (fun hHeld => ?_)
 clear hK K
 refine norm_ (a' := ?_) ?_ ?_
 rotate_left
 ·show Act.put _ (some 18) _ = _
  simp only [Act.put, List.setIfInBounds_toArray, List.set_cons_zero, List.set_cons_succ, i64_w, i32_w]
  rfl
 refine one_ (i := 8) (N := some 21) #[true, true, true, true, true, true, true, true, true, true, true, true, true, true, true, false, true, true, false, true, true, false, true] rfl rfl (one_of HT_.out (by kernel_rfl)) (by decide) (fun K hK => ?_)
 refine goes_ Try.func17 (by kernel_rfl) rfl #[.agg #[.int .i64 a0_3, .int .i64 a0_4]] (by rfl) rfl rfl (by (try simp only [List.map_toArray, List.map_cons, List.map_nil]); first | done | rfl) ?_
 refine (ask_handle.calls k a0_3 a0_4 s2 _ H2.out).mono ?_
 rintro e w5_ ⟨rfl, hb⟩
 refine ⟨_, rfl, ?_⟩
 have n0_ := Aside0.mk (blk_below (g := gb1) (o := .cells #[.int .i64 a0_0, .int .i64 a0_1, .int .i64 a0_2, .int .i64 a0_3, .int .i64 a0_4, .string a0_5, .string a0_6, .int .i64 a0_7, .int .i64 a0_8, .string a0_9] 25 (0, 0)) (by (with_reducible repeat (first | refine blk_drewN ?_ _ | refine blk_drew ?_ | refine blk_alloc ?_ _)); exact BK1.out) hb)
 have n1_ := Aside0.mk (below_step (by repeat (first | (with_reducible first | exact HB.out | apply below_alloc | apply pw_below_drewN | apply below_drew1 | refine below_set ?_ GE1.out) | exact HB.out)) hb)
 clear BK1 HB
 have BK1 := n0_
 have HB := n1_
 clear n0_ n1_
 (try clear hb)
 refine hK.out _ _ ⟨(blk_cell BK1.out 0).trans rfl, (blk_cell BK1.out 1).trans rfl, (blk_cell BK1.out 2).trans rfl, (blk_cell BK1.out 3).trans rfl, (blk_cell BK1.out 4).trans rfl, (blk_cell BK1.out 5).trans rfl, (blk_cell BK1.out 6).trans rfl, (blk_cell BK1.out 7).trans rfl, (blk_cell BK1.out 8).trans rfl, (blk_cell BK1.out 9).trans rfl⟩ (fun hHeld => ?_)
 clear hK K
 refine norm_ (a' := ?_) ?_ ?_
 rotate_left
 ·show Act.put _ (some 21) _ = _
  simp only [Act.put, List.setIfInBounds_toArray, List.set_cons_zero, List.set_cons_succ, i64_w, i32_w]
  rfl
 refine one_ (i := 15) (N := some 28) #[true, true, true, true, true, true, true, true, true, true, true, true, true, true, true, true, true, true, false, true, true, false, true] rfl rfl (one_of HT_.out (by kernel_rfl)) (by decide) (fun K hK => ?_)
 refine goes_ Try.func16 (by kernel_rfl) rfl #[.int .i64 a0_7, .int .i64 4] (by rfl) rfl rfl (by (try simp only [List.map_toArray, List.map_cons, List.map_nil]); first | done | rfl) ?_
 refine (ask_num.calls k a0_7 4 s5 _ H5.out).mono ?_
 rintro e w6_ ⟨rfl, hb⟩
 refine ⟨_, rfl, ?_⟩
 have n0_ := Aside0.mk (blk_below (g := gb1) (o := .cells #[.int .i64 a0_0, .int .i64 a0_1, .int .i64 a0_2, .int .i64 a0_3, .int .i64 a0_4, .string a0_5, .string a0_6, .int .i64 a0_7, .int .i64 a0_8, .string a0_9] 25 (0, 0)) (by (with_reducible repeat (first | refine blk_drewN ?_ _ | refine blk_drew ?_ | refine blk_alloc ?_ _)); exact BK1.out) hb)
 have n1_ := Aside0.mk (below_step (by repeat (first | (with_reducible first | exact HB.out | apply below_alloc | apply pw_below_drewN | apply below_drew1 | refine below_set ?_ GE1.out) | exact HB.out)) hb)
 clear BK1 HB
 have BK1 := n0_
 have HB := n1_
 clear n0_ n1_
 (try clear hb)
 refine hK.out _ _ ⟨(blk_cell BK1.out 0).trans rfl, (blk_cell BK1.out 1).trans rfl, (blk_cell BK1.out 2).trans rfl, (blk_cell BK1.out 3).trans rfl, (blk_cell BK1.out 4).trans rfl, (blk_cell BK1.out 5).trans rfl, (blk_cell BK1.out 6).trans rfl, (blk_cell BK1.out 7).trans rfl, (blk_cell BK1.out 8).trans rfl, (blk_cell BK1.out 9).trans rfl⟩ (fun hHeld => ?_)
 clear hK K
 refine norm_ (a' := ?_) ?_ ?_
 rotate_left
 ·show Act.put _ (some 28) _ = _
  simp only [Act.put, List.setIfInBounds_toArray, List.set_cons_zero, List.set_cons_succ, i64_w, i32_w]
  rfl
 refine one_ (i := 18) (N := some 31) #[true, true, true, true, true, true, true, true, true, true, true, true, true, true, true, true, true, true, true, true, true, false, true] rfl rfl (one_of HT_.out (by kernel_rfl)) (by decide) (fun K hK => ?_)
 refine goes_ Try.func16 (by kernel_rfl) rfl #[.int .i64 a0_8, .int .i64 2] (by rfl) rfl rfl (by (try simp only [List.map_toArray, List.map_cons, List.map_nil]); first | done | rfl) ?_
 refine (ask_num.calls k a0_8 2 s6 _ H6.out).mono ?_
 rintro e w7_ ⟨rfl, hb⟩
 refine ⟨_, rfl, ?_⟩
 have n0_ := Aside0.mk (blk_below (g := gb1) (o := .cells #[.int .i64 a0_0, .int .i64 a0_1, .int .i64 a0_2, .int .i64 a0_3, .int .i64 a0_4, .string a0_5, .string a0_6, .int .i64 a0_7, .int .i64 a0_8, .string a0_9] 25 (0, 0)) (by (with_reducible repeat (first | refine blk_drewN ?_ _ | refine blk_drew ?_ | refine blk_alloc ?_ _)); exact BK1.out) hb)
 have n1_ := Aside0.mk (below_step (by repeat (first | (with_reducible first | exact HB.out | apply below_alloc | apply pw_below_drewN | apply below_drew1 | refine below_set ?_ GE1.out) | exact HB.out)) hb)
 clear BK1 HB
 have BK1 := n0_
 have HB := n1_
 clear n0_ n1_
 (try clear hb)
 refine hK.out _ _ ⟨(blk_cell BK1.out 0).trans rfl, (blk_cell BK1.out 1).trans rfl, (blk_cell BK1.out 2).trans rfl, (blk_cell BK1.out 3).trans rfl, (blk_cell BK1.out 4).trans rfl, (blk_cell BK1.out 5).trans rfl, (blk_cell BK1.out 6).trans rfl, (blk_cell BK1.out 7).trans rfl, (blk_cell BK1.out 8).trans rfl, (blk_cell BK1.out 9).trans rfl⟩ (fun hHeld => ?_)
 clear hK K
 refine norm_ (a' := ?_) ?_ ?_
 rotate_left
 ·show Act.put _ (some 31) _ = _
  simp only [Act.put, List.setIfInBounds_toArray, List.set_cons_zero, List.set_cons_succ, i64_w, i32_w]
  rfl
 refine pure_ (i := 21) (N := some 34) (v := ?_) (a' := ?_) #[true, true, true, true, true, true, true, true, true, true, true, true, true, true, true, true, true, true, true, true, true, true, true] rfl rfl (any_of HT_.out (by kernel_rfl)) (fun _ _ _ h => h) (Or.inl ⟨by rfl, ?_⟩) ?_ ?_
 rotate_left
 ·intro w'
  go_simp
  with_reducible rfl
 rotate_left
 ·simp only [Act.put, List.setIfInBounds_toArray, List.set_cons_zero, List.set_cons_succ, i64_w, i32_w]
  rfl
 refine done_ (done_of HT_.out (by kernel_rfl)) ?_
 have hz1_0 := (blk_cell BK1.out 0).trans rfl
 have hf1_0 := blk_frozen BK1.out 0
 have hz1_1 := (blk_cell BK1.out 1).trans rfl
 have hf1_1 := blk_frozen BK1.out 1
 have hz1_2 := (blk_cell BK1.out 2).trans rfl
 have hf1_2 := blk_frozen BK1.out 2
 have hz1_3 := (blk_cell BK1.out 3).trans rfl
 have hf1_3 := blk_frozen BK1.out 3
 have hz1_4 := (blk_cell BK1.out 4).trans rfl
 have hf1_4 := blk_frozen BK1.out 4
 have hz1_5 := (blk_cell BK1.out 5).trans rfl
 have hf1_5 := blk_frozen BK1.out 5
 have hz1_6 := (blk_cell BK1.out 6).trans rfl
 have hf1_6 := blk_frozen BK1.out 6
 have hz1_7 := (blk_cell BK1.out 7).trans rfl
 have hf1_7 := blk_frozen BK1.out 7
 have hz1_8 := (blk_cell BK1.out 8).trans rfl
 have hf1_8 := blk_frozen BK1.out 8
 have hz1_9 := (blk_cell BK1.out 9).trans rfl
 have hf1_9 := blk_frozen BK1.out 9
 go_wp2
 obtain ⟨L, hL⟩ : ∃ L : List ByteArray, L = [s0, s1, s2, a0_5, a0_6, s5, s6, a0_9] := ⟨_, rfl⟩
 have HLL := Aside0.mk hL
 have HPL := Aside0.mk (show tlv_Pack.f k (tagged 1 L) = some (r1, r2) by rw [hL]; exact HP.out)
 have hz8 : L.length = 8 := by rw [hL]; rfl
 have HZ := Aside0.mk hz8
 clear hL hz8 HP
 (try clear hz1_0 hf1_0 hz1_1 hf1_1 hz1_2 hf1_2 hz1_3 hf1_3 hz1_4 hf1_4 hz1_5 hf1_5 hz1_6 hf1_6 hz1_7 hf1_7 hz1_8 hf1_8 hz1_9 hf1_9)
 go_loopw [5, 35] (fun v i w' => ∃ n : Nat, n ≤ 8 ∧ i = .int .i64 n ∧ Aside0 (Kd.R k51 51 w' w.heap.size (fun _ => True) v (tagged 1 (L.take n))) ∧ Aside0 (Below w.heap.size w w')) (fun _ i _ => 8 - (intOf i).toNat)
 case atStart => exact ⟨0, by omega, rfl, ⟨Kd.R_nil _ _ _ _ _⟩, HB⟩
 case round =>
  obtain ⟨n, hn, rfl, HO, HBr⟩ := hrel
  clear HB BK1
  have HB := HBr
  clear HBr
  by_cases hn8 : n < 8
  case pos =>
   have hsn : ∀ s : ByteArray, L[n]? = some s → tagged 1 (L.take (n + 1)) = tagged 1 (L.take n) ++ (if s.toList = [] then [] else [⟨(n : Int) + 1, s⟩]) := by
    intro s hs
    obtain ⟨hlt, hg⟩ := List.getElem?_eq_some_iff.1 hs
    rw [take_snoc hlt, tagged_snoc, hg, List.length_take, Nat.min_eq_left (by omega), Int.add_comm]
   have HS := Aside0.mk hsn
   clear hsn
   have hll : (tagged 1 (L.take n)).length ≤ 8 := by have := tagged_len (L.take n) 1; have h2 := List.length_take_le n L; omega
   have HLN := Aside0.mk hll
   clear hll
   obtain rfl | rfl | rfl | rfl | rfl | rfl | rfl | rfl : n = 0 ∨ n = 1 ∨ n = 2 ∨ n = 3 ∨ n = 4 ∨ n = 5 ∨ n = 6 ∨ n = 7 := by omega
   ·have hs := HS.out s0 (by rw [HLL.out]; rfl)
    clear HS
    by_cases c : s0.toList = []
    ·have cb0 : (s0.toList == ([] : List UInt8)) = true := beq_iff_eq.mpr c
     have cb1 : (s0.toList != ([] : List UInt8)) = false := bne_eq_false_iff_eq.mpr c
     rw [if_pos c, List.append_nil] at hs
     rw [← hs] at HO
     clear c hs hn8
     go_wp2
     go_roundw
     case rel => exact ⟨1, by omega, rfl, HO, HB⟩
     case measure => simp [intOf]
    ·have cb0 : (s0.toList == ([] : List UInt8)) = false := beq_eq_false_iff_ne.mpr c
     have cb1 : (s0.toList != ([] : List UInt8)) = true := bne_iff_ne.mpr c
     rw [if_neg c] at hs
     have HSS := Aside0.mk hs
     clear c hs hn8
     go_wp2_with (first | ((with_reducible refine gate_builtin (b := .append) (xs := #[.tmp 41, .tmp 46]) rfl ?_); at_builtin; refine Kd.R_append k51 (w0 := w) w.heap.size rfl (.tmp 41) (.tmp 46) 46 51 (.agg #[(.int .i64 0), (.string ⟨#[]⟩)]) 24 rfl Try.underlying46 info51 rfl (by decide) (by omega) _ (tagged 1 (L.take 0)) (⟨1, s0⟩ : S51) [.int .i64 1, .string s0] (fun _ => True) (fun _ => False) rfl rfl ?aP (fun _ hk => hk.elim) ?aF ?aO ?aB ?aS ?aL ?_; (case aP => exact k51_mkM _ _ _ (⟨1, s0⟩ : S51)); (case aB => exact (by repeat (first | (with_reducible first | exact HB.out | apply below_alloc | apply pw_below_drewN | apply below_drew1) | exact HB.out))); (case aF => exact (fun _ _ => trivial)); (case aO => exact (by (with_reducible repeat (first | apply Kd.R_alloc | apply Kd.R_drewN | apply Kd.R_drew)); exact HO.out)); (case aS => exact (below_size (by repeat (first | (with_reducible first | exact HB.out | apply below_alloc | apply pw_below_drewN | apply below_drew1) | exact HB.out)))); (case aL => have := HLN.out; omega); intro v1_ w1_ ho hb hg hat; have n0_ := Aside0.mk hb; have n1_ := Aside0.mk ho; clear HB HO; have HB := n0_; have HO := n1_; clear n0_ n1_ ho hb hg hat))
     go_roundw
     case rel => exact ⟨1, by omega, rfl, ⟨by rw [HSS.out]; exact HO.out⟩, HB⟩
     case measure => simp [intOf]
   ·have hs := HS.out s1 (by rw [HLL.out]; rfl)
    clear HS
    by_cases c : s1.toList = []
    ·have cb0 : (s1.toList == ([] : List UInt8)) = true := beq_iff_eq.mpr c
     have cb1 : (s1.toList != ([] : List UInt8)) = false := bne_eq_false_iff_eq.mpr c
     rw [if_pos c, List.append_nil] at hs
     rw [← hs] at HO
     clear c hs hn8
     go_wp2
     go_roundw
     case rel => exact ⟨2, by omega, rfl, HO, HB⟩
     case measure => simp [intOf]
    ·have cb0 : (s1.toList == ([] : List UInt8)) = false := beq_eq_false_iff_ne.mpr c
     have cb1 : (s1.toList != ([] : List UInt8)) = true := bne_iff_ne.mpr c
     rw [if_neg c] at hs
     have HSS := Aside0.mk hs
     clear c hs hn8
     go_wp2_with (first | ((with_reducible refine gate_builtin (b := .append) (xs := #[.tmp 41, .tmp 46]) rfl ?_); at_builtin; refine Kd.R_append k51 (w0 := w) w.heap.size rfl (.tmp 41) (.tmp 46) 46 51 (.agg #[(.int .i64 0), (.string ⟨#[]⟩)]) 24 rfl Try.underlying46 info51 rfl (by decide) (by omega) _ (tagged 1 (L.take 1)) (⟨2, s1⟩ : S51) [.int .i64 2, .string s1] (fun _ => True) (fun _ => False) rfl rfl ?aP (fun _ hk => hk.elim) ?aF ?aO ?aB ?aS ?aL ?_; (case aP => exact k51_mkM _ _ _ (⟨2, s1⟩ : S51)); (case aB => exact (by repeat (first | (with_reducible first | exact HB.out | apply below_alloc | apply pw_below_drewN | apply below_drew1) | exact HB.out))); (case aF => exact (fun _ _ => trivial)); (case aO => exact (by (with_reducible repeat (first | apply Kd.R_alloc | apply Kd.R_drewN | apply Kd.R_drew)); exact HO.out)); (case aS => exact (below_size (by repeat (first | (with_reducible first | exact HB.out | apply below_alloc | apply pw_below_drewN | apply below_drew1) | exact HB.out)))); (case aL => have := HLN.out; omega); intro v1_ w1_ ho hb hg hat; have n0_ := Aside0.mk hb; have n1_ := Aside0.mk ho; clear HB HO; have HB := n0_; have HO := n1_; clear n0_ n1_ ho hb hg hat))
     go_roundw
     case rel => exact ⟨2, by omega, rfl, ⟨by rw [HSS.out]; exact HO.out⟩, HB⟩
     case measure => simp [intOf]
   ·have hs := HS.out s2 (by rw [HLL.out]; rfl)
    clear HS
    by_cases c : s2.toList = []
    ·have cb0 : (s2.toList == ([] : List UInt8)) = true := beq_iff_eq.mpr c
     have cb1 : (s2.toList != ([] : List UInt8)) = false := bne_eq_false_iff_eq.mpr c
     rw [if_pos c, List.append_nil] at hs
     rw [← hs] at HO
     clear c hs hn8
     go_wp2
     go_roundw
     case rel => exact ⟨3, by omega, rfl, HO, HB⟩
     case measure => simp [intOf]
    ·have cb0 : (s2.toList == ([] : List UInt8)) = false := beq_eq_false_iff_ne.mpr c
     have cb1 : (s2.toList != ([] : List UInt8)) = true := bne_iff_ne.mpr c
     rw [if_neg c] at hs
     have HSS := Aside0.mk hs
     clear c hs hn8
     go_wp2_with (first | ((with_reducible refine gate_builtin (b := .append) (xs := #[.tmp 41, .tmp 46]) rfl ?_); at_builtin; refine Kd.R_append k51 (w0 := w) w.heap.size rfl (.tmp 41) (.tmp 46) 46 51 (.agg #[(.int .i64 0), (.string ⟨#[]⟩)]) 24 rfl Try.underlying46 info51 rfl (by decide) (by omega) _ (tagged 1 (L.take 2)) (⟨3, s2⟩ : S51) [.int .i64 3, .string s2] (fun _ => True) (fun _ => False) rfl rfl ?aP (fun _ hk => hk.elim) ?aF ?aO ?aB ?aS ?aL ?_; (case aP => exact k51_mkM _ _ _ (⟨3, s2⟩ : S51)); (case aB => exact (by repeat (first | (with_reducible first | exact HB.out | apply below_alloc | apply pw_below_drewN | apply below_drew1) | exact HB.out))); (case aF => exact (fun _ _ => trivial)); (case aO => exact (by (with_reducible repeat (first | apply Kd.R_alloc | apply Kd.R_drewN | apply Kd.R_drew)); exact HO.out)); (case aS => exact (below_size (by repeat (first | (with_reducible first | exact HB.out | apply below_alloc | apply pw_below_drewN | apply below_drew1) | exact HB.out)))); (case aL => have := HLN.out; omega); intro v1_ w1_ ho hb hg hat; have n0_ := Aside0.mk hb; have n1_ := Aside0.mk ho; clear HB HO; have HB := n0_; have HO := n1_; clear n0_ n1_ ho hb hg hat))
     go_roundw
     case rel => exact ⟨3, by omega, rfl, ⟨by rw [HSS.out]; exact HO.out⟩, HB⟩
     case measure => simp [intOf]
   ·have hs := HS.out a0_5 (by rw [HLL.out]; rfl)
    clear HS
    by_cases c : a0_5.toList = []
    ·have cb0 : (a0_5.toList == ([] : List UInt8)) = true := beq_iff_eq.mpr c
     have cb1 : (a0_5.toList != ([] : List UInt8)) = false := bne_eq_false_iff_eq.mpr c
     rw [if_pos c, List.append_nil] at hs
     rw [← hs] at HO
     clear c hs hn8
     go_wp2
     go_roundw
     case rel => exact ⟨4, by omega, rfl, HO, HB⟩
     case measure => simp [intOf]
    ·have cb0 : (a0_5.toList == ([] : List UInt8)) = false := beq_eq_false_iff_ne.mpr c
     have cb1 : (a0_5.toList != ([] : List UInt8)) = true := bne_iff_ne.mpr c
     rw [if_neg c] at hs
     have HSS := Aside0.mk hs
     clear c hs hn8
     go_wp2_with (first | ((with_reducible refine gate_builtin (b := .append) (xs := #[.tmp 41, .tmp 46]) rfl ?_); at_builtin; refine Kd.R_append k51 (w0 := w) w.heap.size rfl (.tmp 41) (.tmp 46) 46 51 (.agg #[(.int .i64 0), (.string ⟨#[]⟩)]) 24 rfl Try.underlying46 info51 rfl (by decide) (by omega) _ (tagged 1 (L.take 3)) (⟨4, a0_5⟩ : S51) [.int .i64 4, .string a0_5] (fun _ => True) (fun _ => False) rfl rfl ?aP (fun _ hk => hk.elim) ?aF ?aO ?aB ?aS ?aL ?_; (case aP => exact k51_mkM _ _ _ (⟨4, a0_5⟩ : S51)); (case aB => exact (by repeat (first | (with_reducible first | exact HB.out | apply below_alloc | apply pw_below_drewN | apply below_drew1) | exact HB.out))); (case aF => exact (fun _ _ => trivial)); (case aO => exact (by (with_reducible repeat (first | apply Kd.R_alloc | apply Kd.R_drewN | apply Kd.R_drew)); exact HO.out)); (case aS => exact (below_size (by repeat (first | (with_reducible first | exact HB.out | apply below_alloc | apply pw_below_drewN | apply below_drew1) | exact HB.out)))); (case aL => have := HLN.out; omega); intro v1_ w1_ ho hb hg hat; have n0_ := Aside0.mk hb; have n1_ := Aside0.mk ho; clear HB HO; have HB := n0_; have HO := n1_; clear n0_ n1_ ho hb hg hat))
     go_roundw
     case rel => exact ⟨4, by omega, rfl, ⟨by rw [HSS.out]; exact HO.out⟩, HB⟩
     case measure => simp [intOf]
   ·have hs := HS.out a0_6 (by rw [HLL.out]; rfl)
    clear HS
    by_cases c : a0_6.toList = []
    ·have cb0 : (a0_6.toList == ([] : List UInt8)) = true := beq_iff_eq.mpr c
     have cb1 : (a0_6.toList != ([] : List UInt8)) = false := bne_eq_false_iff_eq.mpr c
     rw [if_pos c, List.append_nil] at hs
     rw [← hs] at HO
     clear c hs hn8
     go_wp2
     go_roundw
     case rel => exact ⟨5, by omega, rfl, HO, HB⟩
     case measure => simp [intOf]
    ·have cb0 : (a0_6.toList == ([] : List UInt8)) = false := beq_eq_false_iff_ne.mpr c
     have cb1 : (a0_6.toList != ([] : List UInt8)) = true := bne_iff_ne.mpr c
     rw [if_neg c] at hs
     have HSS := Aside0.mk hs
     clear c hs hn8
     go_wp2_with (first | ((with_reducible refine gate_builtin (b := .append) (xs := #[.tmp 41, .tmp 46]) rfl ?_); at_builtin; refine Kd.R_append k51 (w0 := w) w.heap.size rfl (.tmp 41) (.tmp 46) 46 51 (.agg #[(.int .i64 0), (.string ⟨#[]⟩)]) 24 rfl Try.underlying46 info51 rfl (by decide) (by omega) _ (tagged 1 (L.take 4)) (⟨5, a0_6⟩ : S51) [.int .i64 5, .string a0_6] (fun _ => True) (fun _ => False) rfl rfl ?aP (fun _ hk => hk.elim) ?aF ?aO ?aB ?aS ?aL ?_; (case aP => exact k51_mkM _ _ _ (⟨5, a0_6⟩ : S51)); (case aB => exact (by repeat (first | (with_reducible first | exact HB.out | apply below_alloc | apply pw_below_drewN | apply below_drew1) | exact HB.out))); (case aF => exact (fun _ _ => trivial)); (case aO => exact (by (with_reducible repeat (first | apply Kd.R_alloc | apply Kd.R_drewN | apply Kd.R_drew)); exact HO.out)); (case aS => exact (below_size (by repeat (first | (with_reducible first | exact HB.out | apply below_alloc | apply pw_below_drewN | apply below_drew1) | exact HB.out)))); (case aL => have := HLN.out; omega); intro v1_ w1_ ho hb hg hat; have n0_ := Aside0.mk hb; have n1_ := Aside0.mk ho; clear HB HO; have HB := n0_; have HO := n1_; clear n0_ n1_ ho hb hg hat))
     go_roundw
     case rel => exact ⟨5, by omega, rfl, ⟨by rw [HSS.out]; exact HO.out⟩, HB⟩
     case measure => simp [intOf]
   ·have hs := HS.out s5 (by rw [HLL.out]; rfl)
    clear HS
    by_cases c : s5.toList = []
    ·have cb0 : (s5.toList == ([] : List UInt8)) = true := beq_iff_eq.mpr c
     have cb1 : (s5.toList != ([] : List UInt8)) = false := bne_eq_false_iff_eq.mpr c
     rw [if_pos c, List.append_nil] at hs
     rw [← hs] at HO
     clear c hs hn8
     go_wp2
     go_roundw
     case rel => exact ⟨6, by omega, rfl, HO, HB⟩
     case measure => simp [intOf]
    ·have cb0 : (s5.toList == ([] : List UInt8)) = false := beq_eq_false_iff_ne.mpr c
     have cb1 : (s5.toList != ([] : List UInt8)) = true := bne_iff_ne.mpr c
     rw [if_neg c] at hs
     have HSS := Aside0.mk hs
     clear c hs hn8
     go_wp2_with (first | ((with_reducible refine gate_builtin (b := .append) (xs := #[.tmp 41, .tmp 46]) rfl ?_); at_builtin; refine Kd.R_append k51 (w0 := w) w.heap.size rfl (.tmp 41) (.tmp 46) 46 51 (.agg #[(.int .i64 0), (.string ⟨#[]⟩)]) 24 rfl Try.underlying46 info51 rfl (by decide) (by omega) _ (tagged 1 (L.take 5)) (⟨6, s5⟩ : S51) [.int .i64 6, .string s5] (fun _ => True) (fun _ => False) rfl rfl ?aP (fun _ hk => hk.elim) ?aF ?aO ?aB ?aS ?aL ?_; (case aP => exact k51_mkM _ _ _ (⟨6, s5⟩ : S51)); (case aB => exact (by repeat (first | (with_reducible first | exact HB.out | apply below_alloc | apply pw_below_drewN | apply below_drew1) | exact HB.out))); (case aF => exact (fun _ _ => trivial)); (case aO => exact (by (with_reducible repeat (first | apply Kd.R_alloc | apply Kd.R_drewN | apply Kd.R_drew)); exact HO.out)); (case aS => exact (below_size (by repeat (first | (with_reducible first | exact HB.out | apply below_alloc | apply pw_below_drewN | apply below_drew1) | exact HB.out)))); (case aL => have := HLN.out; omega); intro v1_ w1_ ho hb hg hat; have n0_ := Aside0.mk hb; have n1_ := Aside0.mk ho; clear HB HO; have HB := n0_; have HO := n1_; clear n0_ n1_ ho hb hg hat))
     go_roundw
     case rel => exact ⟨6, by omega, rfl, ⟨by rw [HSS.out]; exact HO.out⟩, HB⟩
     case measure => simp [intOf]
   ·have hs := HS.out s6 (by rw [HLL.out]; rfl)
    clear HS
    by_cases c : s6.toList = []
    ·have cb0 : (s6.toList == ([] : List UInt8)) = true := beq_iff_eq.mpr c
     have cb1 : (s6.toList != ([] : List UInt8)) = false := bne_eq_false_iff_eq.mpr c
     rw [if_pos c, List.append_nil] at hs
     rw [← hs] at HO
     clear c hs hn8
     go_wp2
     go_roundw
     case rel => exact ⟨7, by omega, rfl, HO, HB⟩
     case measure => simp [intOf]
    ·have cb0 : (s6.toList == ([] : List UInt8)) = false := beq_eq_false_iff_ne.mpr c
     have cb1 : (s6.toList != ([] : List UInt8)) = true := bne_iff_ne.mpr c
     rw [if_neg c] at hs
     have HSS := Aside0.mk hs
     clear c hs hn8
     go_wp2_with (first | ((with_reducible refine gate_builtin (b := .append) (xs := #[.tmp 41, .tmp 46]) rfl ?_); at_builtin; refine Kd.R_append k51 (w0 := w) w.heap.size rfl (.tmp 41) (.tmp 46) 46 51 (.agg #[(.int .i64 0), (.string ⟨#[]⟩)]) 24 rfl Try.underlying46 info51 rfl (by decide) (by omega) _ (tagged 1 (L.take 6)) (⟨7, s6⟩ : S51) [.int .i64 7, .string s6] (fun _ => True) (fun _ => False) rfl rfl ?aP (fun _ hk => hk.elim) ?aF ?aO ?aB ?aS ?aL ?_; (case aP => exact k51_mkM _ _ _ (⟨7, s6⟩ : S51)); (case aB => exact (by repeat (first | (with_reducible first | exact HB.out | apply below_alloc | apply pw_below_drewN | apply below_drew1) | exact HB.out))); (case aF => exact (fun _ _ => trivial)); (case aO => exact (by (with_reducible repeat (first | apply Kd.R_alloc | apply Kd.R_drewN | apply Kd.R_drew)); exact HO.out)); (case aS => exact (below_size (by repeat (first | (with_reducible first | exact HB.out | apply below_alloc | apply pw_below_drewN | apply below_drew1) | exact HB.out)))); (case aL => have := HLN.out; omega); intro v1_ w1_ ho hb hg hat; have n0_ := Aside0.mk hb; have n1_ := Aside0.mk ho; clear HB HO; have HB := n0_; have HO := n1_; clear n0_ n1_ ho hb hg hat))
     go_roundw
     case rel => exact ⟨7, by omega, rfl, ⟨by rw [HSS.out]; exact HO.out⟩, HB⟩
     case measure => simp [intOf]
   ·have hs := HS.out a0_9 (by rw [HLL.out]; rfl)
    clear HS
    by_cases c : a0_9.toList = []
    ·have cb0 : (a0_9.toList == ([] : List UInt8)) = true := beq_iff_eq.mpr c
     have cb1 : (a0_9.toList != ([] : List UInt8)) = false := bne_eq_false_iff_eq.mpr c
     rw [if_pos c, List.append_nil] at hs
     rw [← hs] at HO
     clear c hs hn8
     go_wp2
     go_roundw
     case rel => exact ⟨8, by omega, rfl, HO, HB⟩
     case measure => simp [intOf]
    ·have cb0 : (a0_9.toList == ([] : List UInt8)) = false := beq_eq_false_iff_ne.mpr c
     have cb1 : (a0_9.toList != ([] : List UInt8)) = true := bne_iff_ne.mpr c
     rw [if_neg c] at hs
     have HSS := Aside0.mk hs
     clear c hs hn8
     go_wp2_with (first | ((with_reducible refine gate_builtin (b := .append) (xs := #[.tmp 41, .tmp 46]) rfl ?_); at_builtin; refine Kd.R_append k51 (w0 := w) w.heap.size rfl (.tmp 41) (.tmp 46) 46 51 (.agg #[(.int .i64 0), (.string ⟨#[]⟩)]) 24 rfl Try.underlying46 info51 rfl (by decide) (by omega) _ (tagged 1 (L.take 7)) (⟨8, a0_9⟩ : S51) [.int .i64 8, .string a0_9] (fun _ => True) (fun _ => False) rfl rfl ?aP (fun _ hk => hk.elim) ?aF ?aO ?aB ?aS ?aL ?_; (case aP => exact k51_mkM _ _ _ (⟨8, a0_9⟩ : S51)); (case aB => exact (by repeat (first | (with_reducible first | exact HB.out | apply below_alloc | apply pw_below_drewN | apply below_drew1) | exact HB.out))); (case aF => exact (fun _ _ => trivial)); (case aO => exact (by (with_reducible repeat (first | apply Kd.R_alloc | apply Kd.R_drewN | apply Kd.R_drew)); exact HO.out)); (case aS => exact (below_size (by repeat (first | (with_reducible first | exact HB.out | apply below_alloc | apply pw_below_drewN | apply below_drew1) | exact HB.out)))); (case aL => have := HLN.out; omega); intro v1_ w1_ ho hb hg hat; have n0_ := Aside0.mk hb; have n1_ := Aside0.mk ho; clear HB HO; have HB := n0_; have HO := n1_; clear n0_ n1_ ho hb hg hat))
     go_roundw
     case rel => exact ⟨8, by omega, rfl, ⟨by rw [HSS.out]; exact HO.out⟩, HB⟩
     case measure => simp [intOf]
  case neg =>
   obtain rfl : n = 8 := by omega
   have hfull : L.take 8 = L := List.take_of_length_le (by have := HZ.out; omega)
   rw [hfull] at HO
   have hll : (tagged 1 L).length ≤ 8 := by have := tagged_len L 1; have h2 := HZ.out; omega
   clear hn hn8 hfull
   obtain ⟨Ao, co, eo⟩ := Kd.R_slice HO.out
   subst eo
   have hC := (Kd.R_reads' HO.out).2
   have HC := Aside0.mk hC
   clear hC hll
   go_wp2_with (first | (go_at_call 18; (with_reducible refine (tlv_Pack.calls k Ao co (tagged 1 L) r1 r2 _ HC.out.2 HC.out.1 HPL.out).mono ?_); rintro e_ w9_ ⟨rfl, hb⟩; have n0_ := Aside0.mk (below_step (by repeat (first | (with_reducible first | exact HB.out | apply below_alloc | apply pw_below_drewN | apply below_drew1) | exact HB.out)) hb); clear HB; have HB := n0_; clear n0_ hb))
   go_ret2
   exact ⟨rfl, HB.out⟩
theorem ask_Pack.calls (k : Nat) (a0_0 : Int) (a0_1 : Int) (a0_2 : Int) (a0_3 : Int) (a0_4 : Int) (a0_5 : ByteArray) (a0_6 : ByteArray) (a0_7 : Int) (a0_8 : Int) (a0_9 : ByteArray) (r1 : ByteArray) (r2 : Int) (w : World) (h : ask_Pack.f k a0_0 a0_1 a0_2 a0_3 a0_4 a0_5 a0_6 a0_7 a0_8 a0_9 = some (r1, r2)) :
  Calls Try.prog 6 #[.agg #[.int .i64 a0_0, .int .i64 a0_1, .int .i64 a0_2, .int .i64 a0_3, .int .i64 a0_4, .string a0_5, .string a0_6, .int .i64 a0_7, .int .i64 a0_8, .string a0_9]] w fun e_ w' => e_ = .returned (.tuple #[.string r1, .int .i64 r2]) ∧ Below w.heap.size w w' := by
 unfold ask_Pack.f at h
 obtain ⟨e, he, h⟩ := Option.bind_eq_some_iff.1 h
 by_cases h0 : e = 0
 ·rw [if_pos h0] at h
  subst h0
  obtain ⟨s0, hs0, h⟩ := Option.bind_eq_some_iff.1 h
  obtain ⟨s1, hs1, h⟩ := Option.bind_eq_some_iff.1 h
  obtain ⟨s2, hs2, h⟩ := Option.bind_eq_some_iff.1 h
  obtain ⟨s5, hs5, h⟩ := Option.bind_eq_some_iff.1 h
  obtain ⟨s6, hs6, h⟩ := Option.bind_eq_some_iff.1 h
  exact ask_Pack.good k a0_0 a0_1 a0_2 a0_3 a0_4 a0_5 a0_6 a0_7 a0_8 a0_9 s0 s1 s2 s5 s6 r1 r2 w he hs0 hs1 hs2 hs5 hs6 h
 ·rw [if_neg h0] at h
  simp only [Option.some.injEq, Prod.mk.injEq] at h
  obtain ⟨rfl, rfl⟩ := h
  exact ask_Pack.bad k a0_0 a0_1 a0_2 a0_3 a0_4 a0_5 a0_6 a0_7 a0_8 a0_9 e w he h0
end Go.Proofs.Ytellcdiifpdonaa.FA
