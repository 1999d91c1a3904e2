/- Written by hand (wip/tools/gen_ask_unpack.py): ask.Unpack. -/
import Derived.Test.YtellcdiifpdonaaHAskNamed
import Derived.Laws.EntriesVeiled
import Derived.Outline
namespace Go.Proofs.Ytellcdiifpdonaa.FA
open Go.RowKit Go.Proofs.YtellcdiifpdonaaW.PrintWords Go.Proofs.YtellcdiifpdonaaW.PrintLast Go.Proofs.YtellcdiifpdonaaW.PrintMore Go.Proofs.Ytellcdiifpdonaa.Hand Go.Proofs.Ytellcdiifpdonaa.B
set_option linter.unusedVariables false
set_option linter.unusedSimpArgs false
/-- The value of a tag; the last one, if there are several. -/
def slotV (l : List S51) (t : Nat) : ByteArray := l.foldl (fun acc x => if x.f0 = (t : Int) then x.f1 else acc) ⟨#[]⟩
theorem slotV_snoc (l : List S51) (x : S51) (t : Nat) : slotV (l ++ [x]) t = if x.f0 = (t : Int) then x.f1 else slotV l t := by simp [slotV]
def arr9 (v : Nat → ByteArray) : Array Value := #[.string (v 0), .string (v 1), .string (v 2), .string (v 3), .string (v 4), .string (v 5), .string (v 6), .string (v 7), .string (v 8)]
theorem arr9_at (v : Nat → ByteArray) (i : Nat) (h : i < 9) : (arr9 v)[i]? = some (.string (v i)) := by
 obtain rfl | rfl | rfl | rfl | rfl | rfl | rfl | rfl | rfl : i = 0 ∨ i = 1 ∨ i = 2 ∨ i = 3 ∨ i = 4 ∨ i = 5 ∨ i = 6 ∨ i = 7 ∨ i = 8 := by omega
 all_goals rfl
theorem arr9_set (v : Nat → ByteArray) (i : Nat) (x : ByteArray) (h : i < 9) : (arr9 v).setIfInBounds i (.string x) = arr9 (fun j => if (i : Int) = (j : Int) then x else v j) := by
 obtain rfl | rfl | rfl | rfl | rfl | rfl | rfl | rfl | rfl : i = 0 ∨ i = 1 ∨ i = 2 ∨ i = 3 ∨ i = 4 ∨ i = 5 ∨ i = 6 ∨ i = 7 ∨ i = 8 := by omega
 all_goals rfl
theorem arr9_same (v u : Nat → ByteArray) (h : ∀ j, j < 9 → v j = u j) : arr9 v = arr9 u := by
 unfold arr9
 rw [h 0 (by decide), h 1 (by decide), h 2 (by decide), h 3 (by decide), h 4 (by decide), h 5 (by decide), h 6 (by decide), h 7 (by decide), h 8 (by decide)]
def ask_Unpack.f (k : Nat) (s : ByteArray) : Option (Int × Int × Int × Int × Int × ByteArray × ByteArray × Int × Int × ByteArray × Int) :=
 (tlv_Unpack.f k s).bind fun u => if u.2 = 0 then (if ∀ x ∈ u.1, 0 ≤ x.f0 then ((tlv_Number.f k (slotV u.1 1)).bind fun a => (namedV k (slotV u.1 2)).bind fun b => (namedV k (slotV u.1 3)).bind fun c => (tlv_Number.f k (slotV u.1 6)).bind fun d => (tlv_Number.f k (slotV u.1 7)).bind fun e => (ask_Pack.f k a.1 b.1 b.2 c.1 c.2 (slotV u.1 4) (slotV u.1 5) d.1 e.1 (slotV u.1 8)).bind fun g => if g.2 = 0 ∧ g.1.toList = s.toList then some (a.1, b.1, b.2, c.1, c.2, slotV u.1 4, slotV u.1 5, d.1, e.1, slotV u.1 8, 0) else some (0, 0, 0, 0, 0, ⟨#[]⟩, ⟨#[]⟩, 0, 0, ⟨#[]⟩, 413)) else none) else some (0, 0, 0, 0, 0, ⟨#[]⟩, ⟨#[]⟩, 0, 0, ⟨#[]⟩, 413)
theorem ask_Unpack.mono : ∀ a0 k, LeO (ask_Unpack.f k a0) (ask_Unpack.f (k + 1) a0) := by
 intro s k
 unfold ask_Unpack.f
 refine LeO.bind (tlv_Unpack.mono _ _) (fun u => LeO.ite (LeO.ite ?_ (LeO.refl _)) (LeO.refl _))
 refine LeO.bind (tlv_Number.mono _ _) (fun _ => LeO.bind (namedV_mono _ _) (fun _ => LeO.bind (namedV_mono _ _) (fun _ => LeO.bind (tlv_Number.mono _ _) (fun _ => LeO.bind (tlv_Number.mono _ _) (fun _ => LeO.bind (ask_Pack.mono _ _ _ _ _ _ _ _ _ _ _) (fun _ => LeO.refl _))))))
def ask_Unpack.T13 : Bool × List (List Nat × List Nat) := (true, [([], []), ([], []), ([1], [1]), ([0, 2], [0, 2]), ([], []), ([], []), ([5], [5]), ([4, 6, 3], [4, 6]), ([], []), ([], []), ([9], [9]), ([8, 10, 7], [8, 10]), ([], []), ([12], [12]), ([], []), ([14], [14]), ([], []), ([], []), ([17], [17]), ([16, 18, 11], [16, 18]), ([], []), ([], []), ([21], [21]), ([20, 22, 19], [20, 22]), ([], []), ([24], [24]), ([3, 7, 11, 13, 15, 19, 23, 25], [3, 7, 11, 13, 15, 19, 23, 25]), ([], []), ([27, 26, 23, 0, 1, 2, 3, 4, 5, 6, 7, 8, 9, 10, 11, 12, 13, 14, 15, 16, 17, 18, 19, 20, 21, 22, 23, 24, 25, 26, 27], [26, 27])])
def ask_Unpack.B13 : List Nat := [0, 0, 2, 7, 0, 0, 32, 127, 0, 0, 512, 2047, 0, 4096, 0, 16384, 0, 0, 131072, 462847, 0, 0, 2097152, 8327167, 0, 16777216, 67108863, 0, 268435455]
theorem ask_Unpack.tab13 : rtab .any (opsOf Try.f11 13) = ask_Unpack.T13 := by kernel_rfl
theorem ask_Unpack.bits13 : waitsOk ask_Unpack.T13.2 ask_Unpack.B13 = true := by kernel_rfl
set_option maxHeartbeats 16000000 in
set_option maxRecDepth 100000 in
theorem ask_Unpack.none_ (k : Nat) (s : ByteArray) (l : List S51) (e : Int) (w : World) (h : tlv_Unpack.f k s = some (l, e)) (h0 : e ≠ 0) : Calls Try.prog 11 #[.string s] w fun ev w' => ev = .returned (.tuple #[.agg #[.int .i64 0, .int .i64 0, .int .i64 0, .int .i64 0, .int .i64 0, .string ⟨#[]⟩, .string ⟨#[]⟩, .int .i64 0, .int .i64 0, .string ⟨#[]⟩], .int .i64 413]) ∧ Below w.heap.size w w' := by
 have HB := Aside0.mk (Below.refl w.heap.size w)
 have hu25 := Try.underlying25
 have HU := Aside0.mk h
 have b0 : (e == 0) = false := beq_eq_false_iff_ne.mpr h0
 have b1 : (e != 0) = true := bne_iff_ne.mpr h0
 clear h h0
 go_enter Try.func11, Try.ntmps11
 go_wp2_with (first | ((with_reducible refine gate_dst (N := 2) rfl ?_); refine box_event ?hg (N := 2) ?hd (cs := #[.int .i64 0, .int .i64 0, .int .i64 0, .int .i64 0, .int .i64 0, .string ⟨#[]⟩, .string ⟨#[]⟩, .int .i64 0, .int .i64 0, .string ⟨#[]⟩]) (t := 25) ?hr ?_; (case hd => rfl); (case hg => rfl); (case hr => first | (go_simp; done) | (go_simp; rfl)); intro gb2 hg w1_ hbox hb; have nx_ := Aside0.mk hbox; have ny_ := Aside0.mk (show w.heap.size ≤ gb2 from by rw [hg]; exact below_size (by repeat (first | (with_reducible first | exact HB.out | apply below_alloc | apply pw_below_drewN | apply below_drew1) | exact HB.out))); have n0_ := Aside0.mk (below_step (by repeat (first | (with_reducible first | exact HB.out | apply below_alloc | apply pw_below_drewN | apply below_drew1) | exact HB.out)) hb); clear HB; have HB := n0_; clear n0_; have BK2 := nx_; have GE2 := ny_; clear hb hbox hg nx_ ny_ ; have hz2_0 := (blk_cell BK2.out 0).trans rfl; have hf2_0 := blk_frozen BK2.out 0; have hz2_1 := (blk_cell BK2.out 1).trans rfl; have hf2_1 := blk_frozen BK2.out 1; have hz2_2 := (blk_cell BK2.out 2).trans rfl; have hf2_2 := blk_frozen BK2.out 2; have hz2_3 := (blk_cell BK2.out 3).trans rfl; have hf2_3 := blk_frozen BK2.out 3; have hz2_4 := (blk_cell BK2.out 4).trans rfl; have hf2_4 := blk_frozen BK2.out 4; have hz2_5 := (blk_cell BK2.out 5).trans rfl; have hf2_5 := blk_frozen BK2.out 5; have hz2_6 := (blk_cell BK2.out 6).trans rfl; have hf2_6 := blk_frozen BK2.out 6; have hz2_7 := (blk_cell BK2.out 7).trans rfl; have hf2_7 := blk_frozen BK2.out 7; have hz2_8 := (blk_cell BK2.out 8).trans rfl; have hf2_8 := blk_frozen BK2.out 8; have hz2_9 := (blk_cell BK2.out 9).trans rfl; have hf2_9 := blk_frozen BK2.out 9) | (go_at_call 24; (refine (tlv_Unpack.calls k s l e _ HU.out).mono ?_); rintro e_ w2_ ⟨v0_, rfl, ho0, hb⟩; clear ho0; have n0_ := Aside0.mk (blk_below (g := gb2) (o := .cells #[.int .i64 0, .int .i64 0, .int .i64 0, .int .i64 0, .int .i64 0, .string ⟨#[]⟩, .string ⟨#[]⟩, .int .i64 0, .int .i64 0, .string ⟨#[]⟩] 25 (0, 0)) (by first | with_reducible exact BK2.out | ((with_reducible repeat (first | refine blk_drewN ?_ _ | refine blk_drew ?_ | refine blk_alloc ?_ _)); exact BK2.out)) hb); have n1_ := Aside0.mk (below_step (by repeat (first | (with_reducible first | exact HB.out | apply below_alloc | apply pw_below_drewN | apply below_drew1 | refine below_set ?_ GE2.out) | exact HB.out)) hb); clear BK2 HB; have BK2 := n0_; have HB := n1_; clear n0_ n1_; (try clear hb); (try clear hz2_0 hf2_0 hz2_1 hf2_1 hz2_2 hf2_2 hz2_3 hf2_3 hz2_4 hf2_4 hz2_5 hf2_5 hz2_6 hf2_6 hz2_7 hf2_7 hz2_8 hf2_8 hz2_9 hf2_9); have hz2_0 := (blk_cell BK2.out 0).trans rfl; have hf2_0 := blk_frozen BK2.out 0; have hz2_1 := (blk_cell BK2.out 1).trans rfl; have hf2_1 := blk_frozen BK2.out 1; have hz2_2 := (blk_cell BK2.out 2).trans rfl; have hf2_2 := blk_frozen BK2.out 2; have hz2_3 := (blk_cell BK2.out 3).trans rfl; have hf2_3 := blk_frozen BK2.out 3; have hz2_4 := (blk_cell BK2.out 4).trans rfl; have hf2_4 := blk_frozen BK2.out 4; have hz2_5 := (blk_cell BK2.out 5).trans rfl; have hf2_5 := blk_frozen BK2.out 5; have hz2_6 := (blk_cell BK2.out 6).trans rfl; have hf2_6 := blk_frozen BK2.out 6; have hz2_7 := (blk_cell BK2.out 7).trans rfl; have hf2_7 := blk_frozen BK2.out 7; have hz2_8 := (blk_cell BK2.out 8).trans rfl; have hf2_8 := blk_frozen BK2.out 8; have hz2_9 := (blk_cell BK2.out 9).trans rfl; have hf2_9 := blk_frozen BK2.out 9))
 refine bodyPost_ret (results_ct rfl _ _ gb2 25 #[.int .i64 0, .int .i64 0, .int .i64 0, .int .i64 0, .int .i64 0, .string ⟨#[]⟩, .string ⟨#[]⟩, .int .i64 0, .int .i64 0, .string ⟨#[]⟩] (0, 0) _ rfl (by (with_reducible repeat (first | refine blk_drewN ?_ _ | refine blk_drew ?_ | refine blk_alloc ?_ _)); refine blk_put (cs := #[.int .i64 0, .int .i64 0, .int .i64 0, .int .i64 0, .int .i64 0, .string ⟨#[]⟩, .string ⟨#[]⟩, .int .i64 0, .int .i64 0, .string ⟨#[]⟩]) ?_ 9 _ rfl; (with_reducible repeat (first | refine blk_drewN ?_ _ | refine blk_drew ?_ | refine blk_alloc ?_ _)); refine blk_put (cs := #[.int .i64 0, .int .i64 0, .int .i64 0, .int .i64 0, .int .i64 0, .string ⟨#[]⟩, .string ⟨#[]⟩, .int .i64 0, .int .i64 0, .string ⟨#[]⟩]) ?_ 8 _ rfl; (with_reducible repeat (first | refine blk_drewN ?_ _ | refine blk_drew ?_ | refine blk_alloc ?_ _)); refine blk_put (cs := #[.int .i64 0, .int .i64 0, .int .i64 0, .int .i64 0, .int .i64 0, .string ⟨#[]⟩, .string ⟨#[]⟩, .int .i64 0, .int .i64 0, .string ⟨#[]⟩]) ?_ 7 _ rfl; (with_reducible repeat (first | refine blk_drewN ?_ _ | refine blk_drew ?_ | refine blk_alloc ?_ _)); refine blk_put (cs := #[.int .i64 0, .int .i64 0, .int .i64 0, .int .i64 0, .int .i64 0, .string ⟨#[]⟩, .string ⟨#[]⟩, .int .i64 0, .int .i64 0, .string ⟨#[]⟩]) ?_ 6 _ rfl; (with_reducible repeat (first | refine blk_drewN ?_ _ | refine blk_drew ?_ | refine blk_alloc ?_ _)); refine blk_put (cs := #[.int .i64 0, .int .i64 0, .int .i64 0, .int .i64 0, .int .i64 0, .string ⟨#[]⟩, .string ⟨#[]⟩, .int .i64 0, .int .i64 0, .string ⟨#[]⟩]) ?_ 5 _ rfl; (with_reducible repeat (first | refine blk_drewN ?_ _ | refine blk_drew ?_ | refine blk_alloc ?_ _)); refine blk_put (cs := #[.int .i64 0, .int .i64 0, .int .i64 0, .int .i64 0, .int .i64 0, .string ⟨#[]⟩, .string ⟨#[]⟩, .int .i64 0, .int .i64 0, .string ⟨#[]⟩]) ?_ 4 _ rfl; (with_reducible repeat (first | refine blk_drewN ?_ _ | refine blk_drew ?_ | refine blk_alloc ?_ _)); refine blk_put (cs := #[.int .i64 0, .int .i64 0, .int .i64 0, .int .i64 0, .int .i64 0, .string ⟨#[]⟩, .string ⟨#[]⟩, .int .i64 0, .int .i64 0, .string ⟨#[]⟩]) ?_ 3 _ rfl; (with_reducible repeat (first | refine blk_drewN ?_ _ | refine blk_drew ?_ | refine blk_alloc ?_ _)); refine blk_put (cs := #[.int .i64 0, .int .i64 0, .int .i64 0, .int .i64 0, .int .i64 0, .string ⟨#[]⟩, .string ⟨#[]⟩, .int .i64 0, .int .i64 0, .string ⟨#[]⟩]) ?_ 2 _ rfl; (with_reducible repeat (first | refine blk_drewN ?_ _ | refine blk_drew ?_ | refine blk_alloc ?_ _)); refine blk_put (cs := #[.int .i64 0, .int .i64 0, .int .i64 0, .int .i64 0, .int .i64 0, .string ⟨#[]⟩, .string ⟨#[]⟩, .int .i64 0, .int .i64 0, .string ⟨#[]⟩]) ?_ 1 _ rfl; (with_reducible repeat (first | refine blk_drewN ?_ _ | refine blk_drew ?_ | refine blk_alloc ?_ _)); refine blk_put (cs := #[.int .i64 0, .int .i64 0, .int .i64 0, .int .i64 0, .int .i64 0, .string ⟨#[]⟩, .string ⟨#[]⟩, .int .i64 0, .int .i64 0, .string ⟨#[]⟩]) ?_ 0 _ rfl; (with_reducible repeat (first | refine blk_drewN ?_ _ | refine blk_drew ?_ | refine blk_alloc ?_ _)); exact BK2.out) hu25 rfl (by kernel_rfl)) rfl ?_
 exact ⟨rfl, (by repeat (first | (with_reducible first | exact HB.out | apply below_alloc | apply pw_below_drewN | apply below_drew1 | refine below_set ?_ GE2.out) | exact HB.out))⟩
set_option maxHeartbeats 16000000 in
set_option maxRecDepth 100000 in
theorem ask_Unpack.some_ (k : Nat) (s : ByteArray) (u : List S51) (a ea b1 b2 c1 c2 d ed q eq : Int) (g1 : ByteArray) (g2 : Int) (w : World) (h : tlv_Unpack.f k s = some (u, 0)) (hp : ∀ x ∈ u, 0 ≤ x.f0) (h1 : tlv_Number.f k (slotV u 1) = some (a, ea)) (h2 : namedV k (slotV u 2) = some (b1, b2)) (h3 : namedV k (slotV u 3) = some (c1, c2)) (h6 : tlv_Number.f k (slotV u 6) = some (d, ed)) (h7 : tlv_Number.f k (slotV u 7) = some (q, eq)) (hg : ask_Pack.f k a b1 b2 c1 c2 (slotV u 4) (slotV u 5) d q (slotV u 8) = some (g1, g2)) :
  Calls Try.prog 11 #[.string s] w fun ev w' => ev = .returned (if g2 = 0 ∧ g1.toList = s.toList then .tuple #[.agg #[.int .i64 a, .int .i64 b1, .int .i64 b2, .int .i64 c1, .int .i64 c2, .string (slotV u 4), .string (slotV u 5), .int .i64 d, .int .i64 q, .string (slotV u 8)], .int .i64 0] else .tuple #[.agg #[.int .i64 0, .int .i64 0, .int .i64 0, .int .i64 0, .int .i64 0, .string ⟨#[]⟩, .string ⟨#[]⟩, .int .i64 0, .int .i64 0, .string ⟨#[]⟩], .int .i64 413]) ∧ Below w.heap.size w w' := by
 have HB := Aside0.mk (Below.refl w.heap.size w)
 have hu25 := Try.underlying25
 have hu51 := Try.underlying51
 have hu60 := Try.underlying60
 have HU := Aside0.mk h
 have HPOS := Aside0.mk hp
 have HG := Aside0.mk hg
 have H1 := Aside0.mk h1
 have H2 := Aside0.mk h2
 have H3 := Aside0.mk h3
 have H6 := Aside0.mk h6
 have H7 := Aside0.mk h7
 clear h hp hg h1 h2 h3 h6 h7
 go_enter Try.func11, Try.ntmps11
 go_wp2_with (first | ((with_reducible refine gate_dst (N := 2) rfl ?_); refine box_event ?hg (N := 2) ?hd (cs := #[.int .i64 0, .int .i64 0, .int .i64 0, .int .i64 0, .int .i64 0, .string ⟨#[]⟩, .string ⟨#[]⟩, .int .i64 0, .int .i64 0, .string ⟨#[]⟩]) (t := 25) ?hr ?_; (case hd => rfl); (case hg => rfl); (case hr => first | (go_simp; done) | (go_simp; rfl)); intro gb2 hg w1_ hbox hb; have nx_ := Aside0.mk hbox; have ny_ := Aside0.mk (show w.heap.size ≤ gb2 from by rw [hg]; exact below_size (by repeat (first | (with_reducible first | exact HB.out | apply below_alloc | apply pw_below_drewN | apply below_drew1) | exact HB.out))); have n0_ := Aside0.mk (below_step (by repeat (first | (with_reducible first | exact HB.out | apply below_alloc | apply pw_below_drewN | apply below_drew1) | exact HB.out)) hb); clear HB; have HB := n0_; clear n0_; have BK2 := nx_; have GE2 := ny_; clear hb hbox hg nx_ ny_ ; have hz2_0 := (blk_cell BK2.out 0).trans rfl; have hf2_0 := blk_frozen BK2.out 0; have hz2_1 := (blk_cell BK2.out 1).trans rfl; have hf2_1 := blk_frozen BK2.out 1; have hz2_2 := (blk_cell BK2.out 2).trans rfl; have hf2_2 := blk_frozen BK2.out 2; have hz2_3 := (blk_cell BK2.out 3).trans rfl; have hf2_3 := blk_frozen BK2.out 3; have hz2_4 := (blk_cell BK2.out 4).trans rfl; have hf2_4 := blk_frozen BK2.out 4; have hz2_5 := (blk_cell BK2.out 5).trans rfl; have hf2_5 := blk_frozen BK2.out 5; have hz2_6 := (blk_cell BK2.out 6).trans rfl; have hf2_6 := blk_frozen BK2.out 6; have hz2_7 := (blk_cell BK2.out 7).trans rfl; have hf2_7 := blk_frozen BK2.out 7; have hz2_8 := (blk_cell BK2.out 8).trans rfl; have hf2_8 := blk_frozen BK2.out 8; have hz2_9 := (blk_cell BK2.out 9).trans rfl; have hf2_9 := blk_frozen BK2.out 9) | (go_at_call 24; (refine (tlv_Unpack.calls k s u 0 _ HU.out).mono ?_); rintro e_ w2_ ⟨v0_, rfl, ho0, hb⟩; obtain ⟨Ao, co, eo⟩ := Kd.R_slice ho0; subst eo; have n0_ := Aside0.mk (blk_below (g := gb2) (o := .cells #[.int .i64 0, .int .i64 0, .int .i64 0, .int .i64 0, .int .i64 0, .string ⟨#[]⟩, .string ⟨#[]⟩, .int .i64 0, .int .i64 0, .string ⟨#[]⟩] 25 (0, 0)) (by first | with_reducible exact BK2.out | ((with_reducible repeat (first | refine blk_drewN ?_ _ | refine blk_drew ?_ | refine blk_alloc ?_ _)); exact BK2.out)) hb); have n1_ := Aside0.mk (below_step (by repeat (first | (with_reducible first | exact HB.out | apply below_alloc | apply pw_below_drewN | apply below_drew1 | refine below_set ?_ GE2.out) | exact HB.out)) hb); have n2_ := Aside0.mk (Kd.R_lower ho0 (below_size HB.out)); clear BK2 HB; have BK2 := n0_; have HB := n1_; have HOl := n2_; clear n0_ n1_ n2_; (try clear hb); (try clear hz2_0 hf2_0 hz2_1 hf2_1 hz2_2 hf2_2 hz2_3 hf2_3 hz2_4 hf2_4 hz2_5 hf2_5 hz2_6 hf2_6 hz2_7 hf2_7 hz2_8 hf2_8 hz2_9 hf2_9); have hz2_0 := (blk_cell BK2.out 0).trans rfl; have hf2_0 := blk_frozen BK2.out 0; have hz2_1 := (blk_cell BK2.out 1).trans rfl; have hf2_1 := blk_frozen BK2.out 1; have hz2_2 := (blk_cell BK2.out 2).trans rfl; have hf2_2 := blk_frozen BK2.out 2; have hz2_3 := (blk_cell BK2.out 3).trans rfl; have hf2_3 := blk_frozen BK2.out 3; have hz2_4 := (blk_cell BK2.out 4).trans rfl; have hf2_4 := blk_frozen BK2.out 4; have hz2_5 := (blk_cell BK2.out 5).trans rfl; have hf2_5 := blk_frozen BK2.out 5; have hz2_6 := (blk_cell BK2.out 6).trans rfl; have hf2_6 := blk_frozen BK2.out 6; have hz2_7 := (blk_cell BK2.out 7).trans rfl; have hf2_7 := blk_frozen BK2.out 7; have hz2_8 := (blk_cell BK2.out 8).trans rfl; have hf2_8 := blk_frozen BK2.out 8; have hz2_9 := (blk_cell BK2.out 9).trans rfl; have hf2_9 := blk_frozen BK2.out 9) | ((with_reducible refine gate_dst (N := 6) rfl ?_); refine box_event ?hg (N := 6) ?hd (cs := #[.string ⟨#[]⟩, .string ⟨#[]⟩, .string ⟨#[]⟩, .string ⟨#[]⟩, .string ⟨#[]⟩, .string ⟨#[]⟩, .string ⟨#[]⟩, .string ⟨#[]⟩, .string ⟨#[]⟩]) (t := 60) ?hr ?_; (case hd => rfl); (case hg => rfl); (case hr => first | (go_simp; done) | (go_simp; rfl)); intro gb6 hg w3_ hbox hb; have nx_ := Aside0.mk hbox; have ny_ := Aside0.mk (show w.heap.size ≤ gb6 from by rw [hg]; exact below_size (by repeat (first | (with_reducible first | exact HB.out | apply below_alloc | apply pw_below_drewN | apply below_drew1 | refine below_set ?_ GE2.out) | exact HB.out))); have x0_ := Aside0.mk (show gb2 ≠ gb6 from by rw [hg]; exact Nat.ne_of_lt (blk_lt (g := gb2) (o := .cells #[.int .i64 0, .int .i64 0, .int .i64 0, .int .i64 0, .int .i64 0, .string ⟨#[]⟩, .string ⟨#[]⟩, .int .i64 0, .int .i64 0, .string ⟨#[]⟩] 25 (0, 0)) (by first | with_reducible exact BK2.out | ((with_reducible repeat (first | refine blk_drewN ?_ _ | refine blk_drew ?_ | refine blk_alloc ?_ _)); exact BK2.out)))); have n0_ := Aside0.mk (blk_below (g := gb2) (o := .cells #[.int .i64 0, .int .i64 0, .int .i64 0, .int .i64 0, .int .i64 0, .string ⟨#[]⟩, .string ⟨#[]⟩, .int .i64 0, .int .i64 0, .string ⟨#[]⟩] 25 (0, 0)) (by first | with_reducible exact BK2.out | ((with_reducible repeat (first | refine blk_drewN ?_ _ | refine blk_drew ?_ | refine blk_alloc ?_ _)); exact BK2.out)) hb); have n1_ := Aside0.mk (Kd.R_below (Kd.R_elderB (by first | with_reducible exact HOl.out | ((with_reducible repeat (first | apply Kd.R_alloc | apply Kd.R_drewN | apply Kd.R_drew)); exact HOl.out)) gb6 (by rw [hg]; exact Nat.le_refl _)) hb); have n2_ := Aside0.mk (below_step (by repeat (first | (with_reducible first | exact HB.out | apply below_alloc | apply pw_below_drewN | apply below_drew1 | refine below_set ?_ GE2.out) | exact HB.out)) hb); clear BK2 HOl HB; have BK2 := n0_; have HOl := n1_; have HB := n2_; clear n0_ n1_ n2_; have BK6 := nx_; have GE6 := ny_; have NB2_6 := x0_; have NB6_2 := Aside0.mk (Ne.symm x0_.out); have hn2_6 := x0_.out; have hn6_2 := Ne.symm x0_.out; clear hb hbox hg nx_ ny_ x0_; (try clear hz2_0 hf2_0 hz2_1 hf2_1 hz2_2 hf2_2 hz2_3 hf2_3 hz2_4 hf2_4 hz2_5 hf2_5 hz2_6 hf2_6 hz2_7 hf2_7 hz2_8 hf2_8 hz2_9 hf2_9); have hz2_0 := (blk_cell BK2.out 0).trans rfl; have hf2_0 := blk_frozen BK2.out 0; have hz2_1 := (blk_cell BK2.out 1).trans rfl; have hf2_1 := blk_frozen BK2.out 1; have hz2_2 := (blk_cell BK2.out 2).trans rfl; have hf2_2 := blk_frozen BK2.out 2; have hz2_3 := (blk_cell BK2.out 3).trans rfl; have hf2_3 := blk_frozen BK2.out 3; have hz2_4 := (blk_cell BK2.out 4).trans rfl; have hf2_4 := blk_frozen BK2.out 4; have hz2_5 := (blk_cell BK2.out 5).trans rfl; have hf2_5 := blk_frozen BK2.out 5; have hz2_6 := (blk_cell BK2.out 6).trans rfl; have hf2_6 := blk_frozen BK2.out 6; have hz2_7 := (blk_cell BK2.out 7).trans rfl; have hf2_7 := blk_frozen BK2.out 7; have hz2_8 := (blk_cell BK2.out 8).trans rfl; have hf2_8 := blk_frozen BK2.out 8; have hz2_9 := (blk_cell BK2.out 9).trans rfl; have hf2_9 := blk_frozen BK2.out 9; have hz6_0 := (blk_cell BK6.out 0).trans rfl; have hf6_0 := blk_frozen BK6.out 0; have hz6_1 := (blk_cell BK6.out 1).trans rfl; have hf6_1 := blk_frozen BK6.out 1; have hz6_2 := (blk_cell BK6.out 2).trans rfl; have hf6_2 := blk_frozen BK6.out 2; have hz6_3 := (blk_cell BK6.out 3).trans rfl; have hf6_3 := blk_frozen BK6.out 3; have hz6_4 := (blk_cell BK6.out 4).trans rfl; have hf6_4 := blk_frozen BK6.out 4; have hz6_5 := (blk_cell BK6.out 5).trans rfl; have hf6_5 := blk_frozen BK6.out 5; have hz6_6 := (blk_cell BK6.out 6).trans rfl; have hf6_6 := blk_frozen BK6.out 6; have hz6_7 := (blk_cell BK6.out 7).trans rfl; have hf6_7 := blk_frozen BK6.out 7; have hz6_8 := (blk_cell BK6.out 8).trans rfl; have hf6_8 := blk_frozen BK6.out 8))
 (try clear hz2_0 hf2_0 hz2_1 hf2_1 hz2_2 hf2_2 hz2_3 hf2_3 hz2_4 hf2_4 hz2_5 hf2_5 hz2_6 hf2_6 hz2_7 hf2_7 hz2_8 hf2_8 hz2_9 hf2_9 hz6_0 hf6_0 hz6_1 hf6_1 hz6_2 hf6_2 hz6_3 hf6_3 hz6_4 hf6_4 hz6_5 hf6_5 hz6_6 hf6_6 hz6_7 hf6_7 hz6_8 hf6_8)
 have hmx := Kd.C_max (Kd.R_reads' HOl.out).2.2
 go_loopw [24] (fun i w' => ∃ n : Int, 0 ≤ n ∧ n ≤ (u.length : Int) ∧ i = .int .i64 n ∧ Aside0 (w'.heap[gb2]? = some (.cells #[.int .i64 0, .int .i64 0, .int .i64 0, .int .i64 0, .int .i64 0, .string ⟨#[]⟩, .string ⟨#[]⟩, .int .i64 0, .int .i64 0, .string ⟨#[]⟩] 25 (0, 0))) ∧ Aside0 (w'.heap[gb6]? = some (.cells (arr9 (slotV (u.take n.toNat))) 60 (0, 0))) ∧ Aside0 (Kd.R k51 51 w' w.heap.size (fun k_ => (fun _ => True) k_ ∧ k_ ≠ gb6) (.slice Ao u.length co) u) ∧ Aside0 (Below w.heap.size w w')) (fun i _ => ((u.length : Int) - intOf i).toNat)
 case atStart => exact ⟨0, by omega, by omega, rfl, BK2, BK6, HOl, HB⟩
 case round =>
  clear BK2 BK6 HOl HB
  obtain ⟨n, hn0, hn1, rfl, BK2, BK6, HOl, HB⟩ := hrel
  by_cases hlt : n < (u.length : Int)
  case pos =>
   have d0 : decide (n < (u.length : Int)) = true := decide_eq_true hlt
   have d1 : decide (0 ≤ n) = true := decide_eq_true hn0
   have hw1 : wrap64 (n + 1) = n + 1 := wrap64_in (by omega) (by omega)
   obtain ⟨ad, eA, hx0, hx1⟩ := at_T51 (Kd.R_reads' HOl.out).2.2 n hn0 hlt
   subst eA
   have hget : rd_T51 u n = u[n.toNat]'(by omega) := by unfold rd_T51; rw [List.getD_eq_getElem?_getD, List.getElem?_eq_getElem (by omega)]; rfl
   have hsn : u.take (n.toNat + 1) = u.take n.toNat ++ [rd_T51 u n] := by rw [hget]; exact take_snoc (by omega)
   have ht0 : 0 ≤ (rd_T51 u n).f0 := HPOS.out _ (by rw [hget]; exact List.getElem_mem _)
   obtain ⟨t, ht⟩ : ∃ t, (rd_T51 u n).f0 = t := ⟨_, rfl⟩
   obtain ⟨x, hx⟩ : ∃ x, (rd_T51 u n).f1 = x := ⟨_, rfl⟩
   rw [ht] at hx0 ht0
   rw [hx] at hx1
   have HSN := Aside0.mk hsn
   have HT1 := Aside0.mk ht
   have HX1 := Aside0.mk hx
   have HN := Aside0.mk (show (n + 1).toNat = n.toNat + 1 by omega)
   clear hsn hget ht hx
   by_cases hs : t < 9
   case pos =>
    have s0 : decide (t < 9) = true := decide_eq_true hs
    go_wp2_with (first | ((with_reducible refine gate_dst (N := 8) rfl ?_); refine box_event ?hg (N := 8) ?hd (cs := #[.int .i64 0, .string ⟨#[]⟩]) (t := 51) ?hr ?_; (case hd => rfl); (case hg => rfl); (case hr => first | (go_simp; done) | (go_simp; rfl)); intro gb8 hg w8_ hbox hb; have BK8 := Aside0.mk hbox; have GE8 := Aside0.mk (show w.heap.size ≤ gb8 from by rw [hg]; exact below_size HB.out); have NB2_8 := Aside0.mk (show gb2 ≠ gb8 from by rw [hg]; exact Nat.ne_of_lt (blk_lt BK2.out)); have NB6_8 := Aside0.mk (show gb6 ≠ gb8 from by rw [hg]; exact Nat.ne_of_lt (blk_lt BK6.out)); have n0_ := Aside0.mk (blk_below BK2.out hb); have n1_ := Aside0.mk (blk_below BK6.out hb); have n2_ := Aside0.mk (Kd.R_below (Kd.R_elderB HOl.out gb8 (by rw [hg]; exact Nat.le_refl _)) hb); have n3_ := Aside0.mk (below_step HB.out hb); have hy0 := pw_cell_below hb hx0; have hy1 := pw_cell_below hb hx1; clear BK2 BK6 HOl HB; have BK2 := n0_; have BK6 := n1_; have HOl := n2_; have HB := n3_; clear n0_ n1_ n2_ n3_ hb hbox hg; have hn68 := NB6_8.out; have hn86 := Ne.symm NB6_8.out; have hz8_0 := (blk_cell BK8.out 0).trans rfl; have hz8_1 := (blk_cell BK8.out 1).trans rfl; have hf8_0 := blk_frozen BK8.out 0; have hf8_1 := blk_frozen BK8.out 1; have hz6 : w8_.cell? ⟨gb6, t.toNat, none⟩ = some (.string (slotV (u.take n.toNat) t.toNat)) := (blk_cell BK6.out t.toNat).trans (arr9_at _ _ (by omega)); have hf6 := blk_frozen BK6.out t.toNat))
    go_roundw
    case rel => exact ⟨n + 1, by omega, by omega, by first | rfl | (simp; done) | (simp [*]; done), ⟨(by (with_reducible repeat (first | refine blk_drewN ?_ _ | refine blk_drew ?_ | refine blk_alloc ?_ _)); refine blk_far ?_ NB2_6.out _; (with_reducible repeat (first | refine blk_drewN ?_ _ | refine blk_drew ?_ | refine blk_alloc ?_ _)); refine blk_far ?_ NB2_8.out _; (with_reducible repeat (first | refine blk_drewN ?_ _ | refine blk_drew ?_ | refine blk_alloc ?_ _)); refine blk_far ?_ NB2_8.out _; (with_reducible repeat (first | refine blk_drewN ?_ _ | refine blk_drew ?_ | refine blk_alloc ?_ _)); exact BK2.out)⟩, ⟨(by rw [HN.out, HSN.out]; refine Eq.trans ?_ (congrArg (fun c_ => some (Obj.cells c_ 60 (0, 0))) ((arr9_set (slotV (u.take n.toNat)) t.toNat x (by omega)).trans (arr9_same _ _ (fun j hj => by rw [slotV_snoc, HT1.out, HX1.out]; rw [show ((t.toNat : Nat) : Int) = t by omega])))); (with_reducible repeat (first | refine blk_drewN ?_ _ | refine blk_drew ?_ | refine blk_alloc ?_ _)); refine blk_set ?_ t.toNat (.string x); (with_reducible repeat (first | refine blk_drewN ?_ _ | refine blk_drew ?_ | refine blk_alloc ?_ _)); refine blk_far ?_ NB6_8.out _; (with_reducible repeat (first | refine blk_drewN ?_ _ | refine blk_drew ?_ | refine blk_alloc ?_ _)); refine blk_far ?_ NB6_8.out _; (with_reducible repeat (first | refine blk_drewN ?_ _ | refine blk_drew ?_ | refine blk_alloc ?_ _)); exact BK6.out)⟩, ⟨(by (with_reducible repeat (first | apply Kd.R_alloc | apply Kd.R_drewN | apply Kd.R_drew)); refine Kd.R_far ?_ (fun _ hk_ => hk_.2) _; (with_reducible repeat (first | apply Kd.R_alloc | apply Kd.R_drewN | apply Kd.R_drew)); refine Kd.R_mono (ok := fun k_ => ((fun k_ => (fun _ => True) k_ ∧ k_ ≠ gb6) k_ ∧ k_ ≠ gb8)) ?_ (fun _ h_ => h_.1); refine Kd.R_far ?_ (fun _ hk_ => hk_.2) _; (with_reducible repeat (first | apply Kd.R_alloc | apply Kd.R_drewN | apply Kd.R_drew)); refine Kd.R_far ?_ (fun _ hk_ => hk_.2) _; (with_reducible repeat (first | apply Kd.R_alloc | apply Kd.R_drewN | apply Kd.R_drew)); exact HOl.out)⟩, ⟨(by repeat (first | (with_reducible first | exact HB.out | apply below_alloc | apply pw_below_drewN | apply below_drew1 | refine below_set ?_ GE6.out | refine below_set ?_ GE8.out) | exact HB.out))⟩⟩
    case measure => simp [intOf]; omega
   case neg =>
    have s0 : decide (t < 9) = false := decide_eq_false hs
    go_wp2_with (first | ((with_reducible refine gate_dst (N := 8) rfl ?_); refine box_event ?hg (N := 8) ?hd (cs := #[.int .i64 0, .string ⟨#[]⟩]) (t := 51) ?hr ?_; (case hd => rfl); (case hg => rfl); (case hr => first | (go_simp; done) | (go_simp; rfl)); intro gb8 hg w8_ hbox hb; have BK8 := Aside0.mk hbox; have GE8 := Aside0.mk (show w.heap.size ≤ gb8 from by rw [hg]; exact below_size HB.out); have NB2_8 := Aside0.mk (show gb2 ≠ gb8 from by rw [hg]; exact Nat.ne_of_lt (blk_lt BK2.out)); have NB6_8 := Aside0.mk (show gb6 ≠ gb8 from by rw [hg]; exact Nat.ne_of_lt (blk_lt BK6.out)); have n0_ := Aside0.mk (blk_below BK2.out hb); have n1_ := Aside0.mk (blk_below BK6.out hb); have n2_ := Aside0.mk (Kd.R_below (Kd.R_elderB HOl.out gb8 (by rw [hg]; exact Nat.le_refl _)) hb); have n3_ := Aside0.mk (below_step HB.out hb); have hy0 := pw_cell_below hb hx0; have hy1 := pw_cell_below hb hx1; clear BK2 BK6 HOl HB; have BK2 := n0_; have BK6 := n1_; have HOl := n2_; have HB := n3_; clear n0_ n1_ n2_ n3_ hb hbox hg; have hn68 := NB6_8.out; have hn86 := Ne.symm NB6_8.out; have hz8_0 := (blk_cell BK8.out 0).trans rfl; have hz8_1 := (blk_cell BK8.out 1).trans rfl; have hf8_0 := blk_frozen BK8.out 0; have hf8_1 := blk_frozen BK8.out 1))
    go_roundw
    case rel => exact ⟨n + 1, by omega, by omega, by first | rfl | (simp; done) | (simp [*]; done), ⟨(by (with_reducible repeat (first | refine blk_drewN ?_ _ | refine blk_drew ?_ | refine blk_alloc ?_ _)); refine blk_far ?_ NB2_8.out _; (with_reducible repeat (first | refine blk_drewN ?_ _ | refine blk_drew ?_ | refine blk_alloc ?_ _)); refine blk_far ?_ NB2_8.out _; (with_reducible repeat (first | refine blk_drewN ?_ _ | refine blk_drew ?_ | refine blk_alloc ?_ _)); exact BK2.out)⟩, ⟨(by rw [HN.out, HSN.out, show slotV (u.take n.toNat ++ [rd_T51 u n]) = slotV (u.take n.toNat ++ [rd_T51 u n]) from rfl]; refine Eq.trans ?_ (congrArg (fun c_ => some (Obj.cells c_ 60 (0, 0))) (arr9_same (slotV (u.take n.toNat)) _ (fun j hj => by rw [slotV_snoc, HT1.out, if_neg (by omega)]))); (with_reducible repeat (first | refine blk_drewN ?_ _ | refine blk_drew ?_ | refine blk_alloc ?_ _)); refine blk_far ?_ NB6_8.out _; (with_reducible repeat (first | refine blk_drewN ?_ _ | refine blk_drew ?_ | refine blk_alloc ?_ _)); refine blk_far ?_ NB6_8.out _; (with_reducible repeat (first | refine blk_drewN ?_ _ | refine blk_drew ?_ | refine blk_alloc ?_ _)); exact BK6.out)⟩, ⟨(by (with_reducible repeat (first | apply Kd.R_alloc | apply Kd.R_drewN | apply Kd.R_drew)); refine Kd.R_mono (ok := fun k_ => ((fun k_ => (fun _ => True) k_ ∧ k_ ≠ gb6) k_ ∧ k_ ≠ gb8)) ?_ (fun _ h_ => h_.1); refine Kd.R_far ?_ (fun _ hk_ => hk_.2) _; (with_reducible repeat (first | apply Kd.R_alloc | apply Kd.R_drewN | apply Kd.R_drew)); refine Kd.R_far ?_ (fun _ hk_ => hk_.2) _; (with_reducible repeat (first | apply Kd.R_alloc | apply Kd.R_drewN | apply Kd.R_drew)); exact HOl.out)⟩, ⟨(by repeat (first | (with_reducible first | exact HB.out | apply below_alloc | apply pw_below_drewN | apply below_drew1 | refine below_set ?_ GE8.out) | exact HB.out))⟩⟩
    case measure => simp [intOf]; omega
  case neg =>
   have d0 : decide (n < (u.length : Int)) = false := decide_eq_false hlt
   obtain rfl : n = (u.length : Int) := by omega
   rw [Int.toNat_natCast, List.take_of_length_le (Nat.le_refl _)] at BK6
   clear hlt hn0 hn1
   have n0_ := Aside0.mk (show _ = some (Obj.cells #[.string (slotV u 0), .string (slotV u 1), .string (slotV u 2), .string (slotV u 3), .string (slotV u 4), .string (slotV u 5), .string (slotV u 6), .string (slotV u 7), .string (slotV u 8)] 60 (0, 0)) from BK6.out)
   clear BK6 HOl
   have BK6 := n0_
   clear n0_
   go_wp2_with (first | ((with_reducible refine gate_dst (N := 9) rfl ?_); refine box_event ?hg (N := 9) ?hd (cs := #[.nilFunc]) (t := 63) ?hr ?_; (case hd => rfl); (case hg => rfl); (case hr => first | (go_simp; done) | (go_simp; rfl)); intro gb9 hg w4_ hbox hb; have nx_ := Aside0.mk hbox; have ny_ := Aside0.mk (show w.heap.size ≤ gb9 from by rw [hg]; exact below_size (by repeat (first | (with_reducible first | exact HB.out | apply below_alloc | apply pw_below_drewN | apply below_drew1 | refine below_set ?_ GE2.out | refine below_set ?_ GE6.out) | exact HB.out))); have x0_ := Aside0.mk (show gb2 ≠ gb9 from by rw [hg]; exact Nat.ne_of_lt (blk_lt (g := gb2) (o := .cells #[.int .i64 0, .int .i64 0, .int .i64 0, .int .i64 0, .int .i64 0, .string ⟨#[]⟩, .string ⟨#[]⟩, .int .i64 0, .int .i64 0, .string ⟨#[]⟩] 25 (0, 0)) (by first | with_reducible exact BK2.out | ((with_reducible repeat (first | refine blk_drewN ?_ _ | refine blk_drew ?_ | refine blk_alloc ?_ _)); exact BK2.out)))); have x1_ := Aside0.mk (show gb6 ≠ gb9 from by rw [hg]; exact Nat.ne_of_lt (blk_lt (g := gb6) (o := .cells #[.string (slotV u 0), .string (slotV u 1), .string (slotV u 2), .string (slotV u 3), .string (slotV u 4), .string (slotV u 5), .string (slotV u 6), .string (slotV u 7), .string (slotV u 8)] 60 (0, 0)) (by first | with_reducible exact BK6.out | ((with_reducible repeat (first | refine blk_drewN ?_ _ | refine blk_drew ?_ | refine blk_alloc ?_ _)); exact BK6.out)))); have n0_ := Aside0.mk (blk_below (g := gb2) (o := .cells #[.int .i64 0, .int .i64 0, .int .i64 0, .int .i64 0, .int .i64 0, .string ⟨#[]⟩, .string ⟨#[]⟩, .int .i64 0, .int .i64 0, .string ⟨#[]⟩] 25 (0, 0)) (by first | with_reducible exact BK2.out | ((with_reducible repeat (first | refine blk_drewN ?_ _ | refine blk_drew ?_ | refine blk_alloc ?_ _)); exact BK2.out)) hb); have n1_ := Aside0.mk (blk_below (g := gb6) (o := .cells #[.string (slotV u 0), .string (slotV u 1), .string (slotV u 2), .string (slotV u 3), .string (slotV u 4), .string (slotV u 5), .string (slotV u 6), .string (slotV u 7), .string (slotV u 8)] 60 (0, 0)) (by first | with_reducible exact BK6.out | ((with_reducible repeat (first | refine blk_drewN ?_ _ | refine blk_drew ?_ | refine blk_alloc ?_ _)); exact BK6.out)) hb); have n2_ := Aside0.mk (below_step (by repeat (first | (with_reducible first | exact HB.out | apply below_alloc | apply pw_below_drewN | apply below_drew1 | refine below_set ?_ GE2.out | refine below_set ?_ GE6.out) | exact HB.out)) hb); clear BK2 BK6 HB; have BK2 := n0_; have BK6 := n1_; have HB := n2_; clear n0_ n1_ n2_; have BK9 := nx_; have GE9 := ny_; have NB2_9 := x0_; have NB9_2 := Aside0.mk (Ne.symm x0_.out); have hn2_9 := x0_.out; have hn9_2 := Ne.symm x0_.out; have NB6_9 := x1_; have NB9_6 := Aside0.mk (Ne.symm x1_.out); have hn6_9 := x1_.out; have hn9_6 := Ne.symm x1_.out; clear hb hbox hg nx_ ny_ x0_ x1_; have hz2_0 := (blk_cell BK2.out 0).trans rfl; have hf2_0 := blk_frozen BK2.out 0; have hz2_1 := (blk_cell BK2.out 1).trans rfl; have hf2_1 := blk_frozen BK2.out 1; have hz2_2 := (blk_cell BK2.out 2).trans rfl; have hf2_2 := blk_frozen BK2.out 2; have hz2_3 := (blk_cell BK2.out 3).trans rfl; have hf2_3 := blk_frozen BK2.out 3; have hz2_4 := (blk_cell BK2.out 4).trans rfl; have hf2_4 := blk_frozen BK2.out 4; have hz2_5 := (blk_cell BK2.out 5).trans rfl; have hf2_5 := blk_frozen BK2.out 5; have hz2_6 := (blk_cell BK2.out 6).trans rfl; have hf2_6 := blk_frozen BK2.out 6; have hz2_7 := (blk_cell BK2.out 7).trans rfl; have hf2_7 := blk_frozen BK2.out 7; have hz2_8 := (blk_cell BK2.out 8).trans rfl; have hf2_8 := blk_frozen BK2.out 8; have hz2_9 := (blk_cell BK2.out 9).trans rfl; have hf2_9 := blk_frozen BK2.out 9; have hz6_0 := (blk_cell BK6.out 0).trans rfl; have hf6_0 := blk_frozen BK6.out 0; have hz6_1 := (blk_cell BK6.out 1).trans rfl; have hf6_1 := blk_frozen BK6.out 1; have hz6_2 := (blk_cell BK6.out 2).trans rfl; have hf6_2 := blk_frozen BK6.out 2; have hz6_3 := (blk_cell BK6.out 3).trans rfl; have hf6_3 := blk_frozen BK6.out 3; have hz6_4 := (blk_cell BK6.out 4).trans rfl; have hf6_4 := blk_frozen BK6.out 4; have hz6_5 := (blk_cell BK6.out 5).trans rfl; have hf6_5 := blk_frozen BK6.out 5; have hz6_6 := (blk_cell BK6.out 6).trans rfl; have hf6_6 := blk_frozen BK6.out 6; have hz6_7 := (blk_cell BK6.out 7).trans rfl; have hf6_7 := blk_frozen BK6.out 7; have hz6_8 := (blk_cell BK6.out 8).trans rfl; have hf6_8 := blk_frozen BK6.out 8; have hz9_0 := (blk_cell BK9.out 0).trans rfl; have hf9_0 := blk_frozen BK9.out 0))
   have n0_ := Aside0.mk (show (w4_.setCell ⟨gb9, 0, none⟩ (.func (.func 25) #[] #[])).heap[gb2]? = some (.cells #[.int .i64 0, .int .i64 0, .int .i64 0, .int .i64 0, .int .i64 0, .string ⟨#[]⟩, .string ⟨#[]⟩, .int .i64 0, .int .i64 0, .string ⟨#[]⟩] 25 (0, 0)) from (by (with_reducible repeat (first | refine blk_drewN ?_ _ | refine blk_drew ?_ | refine blk_alloc ?_ _)); refine blk_far ?_ NB2_9.out _; (with_reducible repeat (first | refine blk_drewN ?_ _ | refine blk_drew ?_ | refine blk_alloc ?_ _)); exact BK2.out))
   have n1_ := Aside0.mk (show (w4_.setCell ⟨gb9, 0, none⟩ (.func (.func 25) #[] #[])).heap[gb6]? = some (.cells #[.string (slotV u 0), .string (slotV u 1), .string (slotV u 2), .string (slotV u 3), .string (slotV u 4), .string (slotV u 5), .string (slotV u 6), .string (slotV u 7), .string (slotV u 8)] 60 (0, 0)) from (by (with_reducible repeat (first | refine blk_drewN ?_ _ | refine blk_drew ?_ | refine blk_alloc ?_ _)); refine blk_far ?_ NB6_9.out _; (with_reducible repeat (first | refine blk_drewN ?_ _ | refine blk_drew ?_ | refine blk_alloc ?_ _)); exact BK6.out))
   have n2_ := Aside0.mk (show (w4_.setCell ⟨gb9, 0, none⟩ (.func (.func 25) #[] #[])).heap[gb9]? = some (.cells #[.func (.func 25) #[] #[]] 63 (0, 0)) from (by (with_reducible repeat (first | refine blk_drewN ?_ _ | refine blk_drew ?_ | refine blk_alloc ?_ _)); refine blk_put (cs := #[.nilFunc]) ?_ 0 _ rfl; (with_reducible repeat (first | refine blk_drewN ?_ _ | refine blk_drew ?_ | refine blk_alloc ?_ _)); exact BK9.out))
   have n3_ := Aside0.mk (show Below w.heap.size w (w4_.setCell ⟨gb9, 0, none⟩ (.func (.func 25) #[] #[])) from (by repeat (first | (with_reducible first | exact HB.out | apply below_alloc | apply pw_below_drewN | apply below_drew1 | refine below_set ?_ GE2.out | refine below_set ?_ GE6.out | refine below_set ?_ GE9.out) | exact HB.out)))
   (try clear hz2_0 hf2_0 hz2_1 hf2_1 hz2_2 hf2_2 hz2_3 hf2_3 hz2_4 hf2_4 hz2_5 hf2_5 hz2_6 hf2_6 hz2_7 hf2_7 hz2_8 hf2_8 hz2_9 hf2_9 hz6_0 hf6_0 hz6_1 hf6_1 hz6_2 hf6_2 hz6_3 hf6_3 hz6_4 hf6_4 hz6_5 hf6_5 hz6_6 hf6_6 hz6_7 hf6_7 hz6_8 hf6_8 hz9_0 hf9_0)
   clear BK2 BK6 BK9 HB
   have BK2 := n0_
   have BK6 := n1_
   have BK9 := n2_
   have HB := n3_
   clear n0_ n1_ n2_ n3_
   generalize (w4_.setCell ⟨gb9, 0, none⟩ (.func (.func 25) #[] #[])) = w5_ at BK2 BK6 BK9 HB ⊢
   have n0_ := Aside0.mk (show _ = some (.cells #[.int .i64 0, .int .i64 0, .int .i64 0, .int .i64 0, .int .i64 0, .string ⟨#[]⟩, .string ⟨#[]⟩, .int .i64 0, .int .i64 0, .string ⟨#[]⟩] 25 (0, 0)) from blk_drew (by first | with_reducible exact BK2.out | ((with_reducible repeat (first | refine blk_drewN ?_ _ | refine blk_drew ?_ | refine blk_alloc ?_ _)); exact BK2.out)))
   have n1_ := Aside0.mk (show _ = some (.cells #[.string (slotV u 0), .string (slotV u 1), .string (slotV u 2), .string (slotV u 3), .string (slotV u 4), .string (slotV u 5), .string (slotV u 6), .string (slotV u 7), .string (slotV u 8)] 60 (0, 0)) from blk_drew (by first | with_reducible exact BK6.out | ((with_reducible repeat (first | refine blk_drewN ?_ _ | refine blk_drew ?_ | refine blk_alloc ?_ _)); exact BK6.out)))
   have n2_ := Aside0.mk (show _ = some (.cells #[.func (.func 25) #[] #[]] 63 (0, 0)) from blk_drew (by first | with_reducible exact BK9.out | ((with_reducible repeat (first | refine blk_drewN ?_ _ | refine blk_drew ?_ | refine blk_alloc ?_ _)); exact BK9.out)))
   have n3_ := Aside0.mk (below_drew1 (by repeat (first | (with_reducible first | exact HB.out | apply below_alloc | apply pw_below_drewN | apply below_drew1 | refine below_set ?_ GE2.out | refine below_set ?_ GE6.out | refine below_set ?_ GE9.out) | exact HB.out)))
   clear BK2 BK6 BK9 HB
   have BK2 := n0_
   have BK6 := n1_
   have BK9 := n2_
   have HB := n3_
   clear n0_ n1_ n2_ n3_
   refine start_ (n := 29) (S := fun w' => w'.cell? ⟨gb6, 0, none⟩ = some (.string (slotV u 0)) ∧ w'.cell? ⟨gb6, 1, none⟩ = some (.string (slotV u 1)) ∧ w'.cell? ⟨gb6, 2, none⟩ = some (.string (slotV u 2)) ∧ w'.cell? ⟨gb6, 3, none⟩ = some (.string (slotV u 3)) ∧ w'.cell? ⟨gb6, 4, none⟩ = some (.string (slotV u 4)) ∧ w'.cell? ⟨gb6, 5, none⟩ = some (.string (slotV u 5)) ∧ w'.cell? ⟨gb6, 6, none⟩ = some (.string (slotV u 6)) ∧ w'.cell? ⟨gb6, 7, none⟩ = some (.string (slotV u 7)) ∧ w'.cell? ⟨gb6, 8, none⟩ = some (.string (slotV u 8)) ∧ w'.cell? ⟨gb9, 0, none⟩ = some (.func (.func 25) #[] #[])) (ds := []) #[false, false, false, false, false, false, false, false, false, false, false, false, false, false, false, false, false, false, false, false, false, false, false, false, false, false, false, false, false] (by kernel_rfl) rfl rfl ⟨(blk_cell BK6.out 0).trans rfl, (blk_cell BK6.out 1).trans rfl, (blk_cell BK6.out 2).trans rfl, (blk_cell BK6.out 3).trans rfl, (blk_cell BK6.out 4).trans rfl, (blk_cell BK6.out 5).trans rfl, (blk_cell BK6.out 6).trans rfl, (blk_cell BK6.out 7).trans rfl, (blk_cell BK6.out 8).trans rfl, (blk_cell BK9.out 0).trans rfl⟩ (fun hHeld => ?_); refine with_tabW ask_Unpack.tab13 ask_Unpack.bits13 (fun HT_ HW_ => ?_)
   refine pure_ (i := 1) (N := some 39) (v := ?_) (a' := ?_) #[false, true, false, false, false, false, false, false, false, false, false, false, false, false, false, false, false, false, false, false, false, false, false, false, false, false, false, false, false] rfl rfl (any_of HT_.out (by kernel_rfl)) (fun _ _ _ h => h) (Or.inl ⟨by rfl, ?_⟩) ?_ ?_
   rotate_left
   ·intro w'
    go_simp
    with_reducible rfl
   rotate_left
   ·simp only [Act.put, List.setIfInBounds_toArray, List.set_cons_zero, List.set_cons_succ, i64_w, i32_w]
    rfl
   refine pure_ (i := 4) (N := some 42) (v := ?_) (a' := ?_) #[false, true, false, false, true, false, false, false, false, false, false, false, false, false, false, false, false, false, false, false, false, false, false, false, false, false, false, false, false] rfl rfl (any_of HT_.out (by kernel_rfl)) (fun _ _ _ h => h) (Or.inl ⟨by rfl, ?_⟩) ?_ ?_
   rotate_left
   ·intro w'
    go_simp
    with_reducible rfl
   rotate_left
   ·simp only [Act.put, List.setIfInBounds_toArray, List.set_cons_zero, List.set_cons_succ, i64_w, i32_w]
    rfl
   refine pure_ (i := 5) (N := some 43) (v := ?_) (a' := ?_) #[false, true, false, false, true, true, false, false, false, false, false, false, false, false, false, false, false, false, false, false, false, false, false, false, false, false, false, false, false] rfl rfl (any_of HT_.out (by kernel_rfl)) (fun _ _ _ h => h) (Or.inl ⟨by rfl, ?_⟩) ?_ ?_
   rotate_left
   ·intro w'
    go_simp
    with_reducible rfl
   rotate_left
   ·simp only [Act.put, List.setIfInBounds_toArray, List.set_cons_zero, List.set_cons_succ, i64_w, i32_w]
    rfl
   refine pure_ (i := 8) (N := some 46) (v := ?_) (a' := ?_) #[false, true, false, false, true, true, false, false, true, false, false, false, false, false, false, false, false, false, false, false, false, false, false, false, false, false, false, false, false] rfl rfl (any_of HT_.out (by kernel_rfl)) (fun _ _ _ h => h) (Or.inl ⟨by rfl, ?_⟩) ?_ ?_
   rotate_left
   ·intro w'
    go_simp
    with_reducible rfl
   rotate_left
   ·simp only [Act.put, List.setIfInBounds_toArray, List.set_cons_zero, List.set_cons_succ, i64_w, i32_w]
    rfl
   refine pure_ (i := 9) (N := some 47) (v := ?_) (a' := ?_) #[false, true, false, false, true, true, false, false, true, true, false, false, false, false, false, false, false, false, false, false, false, false, false, false, false, false, false, false, false] rfl rfl (any_of HT_.out (by kernel_rfl)) (fun _ _ _ h => h) (Or.inl ⟨by rfl, ?_⟩) ?_ ?_
   rotate_left
   ·intro w'
    go_simp
    with_reducible rfl
   rotate_left
   ·simp only [Act.put, List.setIfInBounds_toArray, List.set_cons_zero, List.set_cons_succ, i64_w, i32_w]
    rfl
   refine pure_ (i := 12) (N := some 50) (v := ?_) (a' := ?_) #[false, true, false, false, true, true, false, false, true, true, false, false, true, false, false, false, false, false, false, false, false, false, false, false, false, false, false, false, false] rfl rfl (any_of HT_.out (by kernel_rfl)) (fun _ _ _ h => h) (Or.inl ⟨by rfl, ?_⟩) ?_ ?_
   rotate_left
   ·intro w'
    go_simp
    with_reducible rfl
   rotate_left
   ·simp only [Act.put, List.setIfInBounds_toArray, List.set_cons_zero, List.set_cons_succ, i64_w, i32_w]
    rfl
   refine pure_ (i := 14) (N := some 52) (v := ?_) (a' := ?_) #[false, true, false, false, true, true, false, false, true, true, false, false, true, false, true, false, false, false, false, false, false, false, false, false, false, false, false, false, false] rfl rfl (any_of HT_.out (by kernel_rfl)) (fun _ _ _ h => h) (Or.inl ⟨by rfl, ?_⟩) ?_ ?_
   rotate_left
   ·intro w'
    go_simp
    with_reducible rfl
   rotate_left
   ·simp only [Act.put, List.setIfInBounds_toArray, List.set_cons_zero, List.set_cons_succ, i64_w, i32_w]
    rfl
   refine pure_ (i := 17) (N := some 55) (v := ?_) (a' := ?_) #[false, true, false, false, true, true, false, false, true, true, false, false, true, false, true, false, false, true, false, false, false, false, false, false, false, false, false, false, false] rfl rfl (any_of HT_.out (by kernel_rfl)) (fun _ _ _ h => h) (Or.inl ⟨by rfl, ?_⟩) ?_ ?_
   rotate_left
   ·intro w'
    go_simp
    with_reducible rfl
   rotate_left
   ·simp only [Act.put, List.setIfInBounds_toArray, List.set_cons_zero, List.set_cons_succ, i64_w, i32_w]
    rfl
   refine pure_ (i := 21) (N := some 59) (v := ?_) (a' := ?_) #[false, true, false, false, true, true, false, false, true, true, false, false, true, false, true, false, false, true, false, false, false, true, false, false, false, false, false, false, false] rfl rfl (any_of HT_.out (by kernel_rfl)) (fun _ _ _ h => h) (Or.inl ⟨by rfl, ?_⟩) ?_ ?_
   rotate_left
   ·intro w'
    go_simp
    with_reducible rfl
   rotate_left
   ·simp only [Act.put, List.setIfInBounds_toArray, List.set_cons_zero, List.set_cons_succ, i64_w, i32_w]
    rfl
   refine pure_ (i := 24) (N := some 62) (v := ?_) (a' := ?_) #[false, true, false, false, true, true, false, false, true, true, false, false, true, false, true, false, false, true, false, false, false, true, false, false, true, false, false, false, false] rfl rfl (any_of HT_.out (by kernel_rfl)) (fun _ _ _ h => h) (Or.inl ⟨by rfl, ?_⟩) ?_ ?_
   rotate_left
   ·intro w'
    go_simp
    with_reducible rfl
   rotate_left
   ·simp only [Act.put, List.setIfInBounds_toArray, List.set_cons_zero, List.set_cons_succ, i64_w, i32_w]
    rfl
   refine take_ (i := 0) (N := some 38) (v := ?_) (a' := ?_) #[true, true, false, false, true, true, false, false, true, true, false, false, true, false, true, false, false, true, false, false, false, true, false, false, true, false, false, false, false] rfl rfl (take_ofW HT_.out HW_.out (by kernel_rfl)) (fun _ _ _ h => h) (Or.inl ⟨by rfl, ?_⟩) hHeld ?_ ?_
   rotate_left
   ·rintro w' ⟨s0, s1, s2, s3, s4, s5, s6, s7, s8, s9⟩
    go_simp
    with_reducible rfl
   rotate_left
   ·simp only [Act.put, List.setIfInBounds_toArray, List.set_cons_zero, List.set_cons_succ, i64_w, i32_w]
    rfl
   refine take_ (i := 2) (N := some 40) (v := ?_) (a' := ?_) #[true, true, true, false, true, true, false, false, true, true, false, false, true, false, true, false, false, true, false, false, false, true, false, false, true, false, false, false, false] rfl rfl (take_ofW HT_.out HW_.out (by kernel_rfl)) (fun _ _ _ h => h) (Or.inl ⟨by rfl, ?_⟩) hHeld ?_ ?_
   rotate_left
   ·rintro w' ⟨s0, s1, s2, s3, s4, s5, s6, s7, s8, s9⟩
    go_simp
    with_reducible rfl
   rotate_left
   ·simp only [Act.put, List.setIfInBounds_toArray, List.set_cons_zero, List.set_cons_succ, i64_w, i32_w]
    rfl
   refine take_ (i := 6) (N := some 44) (v := ?_) (a' := ?_) #[true, true, true, false, true, true, true, false, true, true, false, false, true, false, true, false, false, true, false, false, false, true, false, false, true, false, false, false, false] rfl rfl (take_ofW HT_.out HW_.out (by kernel_rfl)) (fun _ _ _ h => h) (Or.inl ⟨by rfl, ?_⟩) hHeld ?_ ?_
   rotate_left
   ·rintro w' ⟨s0, s1, s2, s3, s4, s5, s6, s7, s8, s9⟩
    go_simp
    with_reducible rfl
   rotate_left
   ·simp only [Act.put, List.setIfInBounds_toArray, List.set_cons_zero, List.set_cons_succ, i64_w, i32_w]
    rfl
   refine take_ (i := 10) (N := some 48) (v := ?_) (a' := ?_) #[true, true, true, false, true, true, true, false, true, true, true, false, true, false, true, false, false, true, false, false, false, true, false, false, true, false, false, false, false] rfl rfl (take_ofW HT_.out HW_.out (by kernel_rfl)) (fun _ _ _ h => h) (Or.inl ⟨by rfl, ?_⟩) hHeld ?_ ?_
   rotate_left
   ·rintro w' ⟨s0, s1, s2, s3, s4, s5, s6, s7, s8, s9⟩
    go_simp
    with_reducible rfl
   rotate_left
   ·simp only [Act.put, List.setIfInBounds_toArray, List.set_cons_zero, List.set_cons_succ, i64_w, i32_w]
    rfl
   refine take_ (i := 13) (N := some 51) (v := ?_) (a' := ?_) #[true, true, true, false, true, true, true, false, true, true, true, false, true, true, true, false, false, true, false, false, false, true, false, false, true, false, false, false, false] rfl rfl (take_ofW HT_.out HW_.out (by kernel_rfl)) (fun _ _ _ h => h) (Or.inl ⟨by rfl, ?_⟩) hHeld ?_ ?_
   rotate_left
   ·rintro w' ⟨s0, s1, s2, s3, s4, s5, s6, s7, s8, s9⟩
    go_simp
    with_reducible rfl
   rotate_left
   ·simp only [Act.put, List.setIfInBounds_toArray, List.set_cons_zero, List.set_cons_succ, i64_w, i32_w]
    rfl
   refine take_ (i := 15) (N := some 53) (v := ?_) (a' := ?_) #[true, true, true, false, true, true, true, false, true, true, true, false, true, true, true, true, false, true, false, false, false, true, false, false, true, false, false, false, false] rfl rfl (take_ofW HT_.out HW_.out (by kernel_rfl)) (fun _ _ _ h => h) (Or.inl ⟨by rfl, ?_⟩) hHeld ?_ ?_
   rotate_left
   ·rintro w' ⟨s0, s1, s2, s3, s4, s5, s6, s7, s8, s9⟩
    go_simp
    with_reducible rfl
   rotate_left
   ·simp only [Act.put, List.setIfInBounds_toArray, List.set_cons_zero, List.set_cons_succ, i64_w, i32_w]
    rfl
   refine take_ (i := 16) (N := some 54) (v := ?_) (a' := ?_) #[true, true, true, false, true, true, true, false, true, true, true, false, true, true, true, true, true, true, false, false, false, true, false, false, true, false, false, false, false] rfl rfl (take_ofW HT_.out HW_.out (by kernel_rfl)) (fun _ _ _ h => h) (Or.inl ⟨by rfl, ?_⟩) hHeld ?_ ?_
   rotate_left
   ·rintro w' ⟨s0, s1, s2, s3, s4, s5, s6, s7, s8, s9⟩
    go_simp
    with_reducible rfl
   rotate_left
   ·simp only [Act.put, List.setIfInBounds_toArray, List.set_cons_zero, List.set_cons_succ, i64_w, i32_w]
    rfl
   refine take_ (i := 18) (N := some 56) (v := ?_) (a' := ?_) #[true, true, true, false, true, true, true, false, true, true, true, false, true, true, true, true, true, true, true, false, false, true, false, false, true, false, false, false, false] rfl rfl (take_ofW HT_.out HW_.out (by kernel_rfl)) (fun _ _ _ h => h) (Or.inl ⟨by rfl, ?_⟩) hHeld ?_ ?_
   rotate_left
   ·rintro w' ⟨s0, s1, s2, s3, s4, s5, s6, s7, s8, s9⟩
    go_simp
    with_reducible rfl
   rotate_left
   ·simp only [Act.put, List.setIfInBounds_toArray, List.set_cons_zero, List.set_cons_succ, i64_w, i32_w]
    rfl
   refine take_ (i := 20) (N := some 58) (v := ?_) (a' := ?_) #[true, true, true, false, true, true, true, false, true, true, true, false, true, true, true, true, true, true, true, false, true, true, false, false, true, false, false, false, false] rfl rfl (take_ofW HT_.out HW_.out (by kernel_rfl)) (fun _ _ _ h => h) (Or.inl ⟨by rfl, ?_⟩) hHeld ?_ ?_
   rotate_left
   ·rintro w' ⟨s0, s1, s2, s3, s4, s5, s6, s7, s8, s9⟩
    go_simp
    with_reducible rfl
   rotate_left
   ·simp only [Act.put, List.setIfInBounds_toArray, List.set_cons_zero, List.set_cons_succ, i64_w, i32_w]
    rfl
   refine take_ (i := 22) (N := some 60) (v := ?_) (a' := ?_) #[true, true, true, false, true, true, true, false, true, true, true, false, true, true, true, true, true, true, true, false, true, true, true, false, true, false, false, false, false] rfl rfl (take_ofW HT_.out HW_.out (by kernel_rfl)) (fun _ _ _ h => h) (Or.inl ⟨by rfl, ?_⟩) hHeld ?_ ?_
   rotate_left
   ·rintro w' ⟨s0, s1, s2, s3, s4, s5, s6, s7, s8, s9⟩
    go_simp
    with_reducible rfl
   rotate_left
   ·simp only [Act.put, List.setIfInBounds_toArray, List.set_cons_zero, List.set_cons_succ, i64_w, i32_w]
    rfl
   refine take_ (i := 25) (N := some 63) (v := ?_) (a' := ?_) #[true, true, true, false, true, true, true, false, true, true, true, false, true, true, true, true, true, true, true, false, true, true, true, false, true, true, false, false, false] rfl rfl (take_ofW HT_.out HW_.out (by kernel_rfl)) (fun _ _ _ h => h) (Or.inl ⟨by rfl, ?_⟩) hHeld ?_ ?_
   rotate_left
   ·rintro w' ⟨s0, s1, s2, s3, s4, s5, s6, s7, s8, s9⟩
    go_simp
    with_reducible rfl
   rotate_left
   ·simp only [Act.put, List.setIfInBounds_toArray, List.set_cons_zero, List.set_cons_succ, i64_w, i32_w]
    rfl
   refine join_ (σ := Nat) 1 #[true, true, true, true, true, true, true, true, true, true, true, true, true, true, true, true, true, true, true, true, true, true, true, true, true, true, true, true, false] (fun gb11 => [(41, .int .i64 a), (45, .agg #[.int .i64 b1, .int .i64 b2]), (49, .agg #[.int .i64 c1, .int .i64 c2]), (57, .int .i64 d), (61, .int .i64 q), (64, .agg #[.int .i64 a, .int .i64 b1, .int .i64 b2, .int .i64 c1, .int .i64 c2, .string (slotV u 4), .string (slotV u 5), .int .i64 d, .int .i64 q, .string (slotV u 8)]), (11, .pointer (some ⟨gb11, 0, none⟩))]) (fun gb11 w' => (w'.cell? ⟨gb6, 0, none⟩ = some (.string (slotV u 0)) ∧ w'.cell? ⟨gb6, 1, none⟩ = some (.string (slotV u 1)) ∧ w'.cell? ⟨gb6, 2, none⟩ = some (.string (slotV u 2)) ∧ w'.cell? ⟨gb6, 3, none⟩ = some (.string (slotV u 3)) ∧ w'.cell? ⟨gb6, 4, none⟩ = some (.string (slotV u 4)) ∧ w'.cell? ⟨gb6, 5, none⟩ = some (.string (slotV u 5)) ∧ w'.cell? ⟨gb6, 6, none⟩ = some (.string (slotV u 6)) ∧ w'.cell? ⟨gb6, 7, none⟩ = some (.string (slotV u 7)) ∧ w'.cell? ⟨gb6, 8, none⟩ = some (.string (slotV u 8)) ∧ w'.cell? ⟨gb9, 0, none⟩ = some (.func (.func 25) #[] #[])) ∧ Aside0 (w'.heap[gb2]? = some (.cells #[.int .i64 0, .int .i64 0, .int .i64 0, .int .i64 0, .int .i64 0, .string ⟨#[]⟩, .string ⟨#[]⟩, .int .i64 0, .int .i64 0, .string ⟨#[]⟩] 25 (0, 0))) ∧ Aside0 (w'.heap[gb6]? = some (.cells #[.string (slotV u 0), .string (slotV u 1), .string (slotV u 2), .string (slotV u 3), .string (slotV u 4), .string (slotV u 5), .string (slotV u 6), .string (slotV u 7), .string (slotV u 8)] 60 (0, 0))) ∧ Aside0 (w'.heap[gb9]? = some (.cells #[.func (.func 25) #[] #[]] 63 (0, 0))) ∧ Aside0 (w'.heap[gb11]? = some (.cells #[.int .i64 0, .int .i64 0, .int .i64 0, .int .i64 0, .int .i64 0, .string ⟨#[]⟩, .string ⟨#[]⟩, .int .i64 0, .int .i64 0, .string ⟨#[]⟩] 25 (0, 0))) ∧ Aside0 (w.heap.size ≤ gb11) ∧ Aside0 (gb2 ≠ gb11) ∧ Aside0 (gb11 ≠ gb2) ∧ Aside0 (gb6 ≠ gb11) ∧ Aside0 (gb11 ≠ gb6) ∧ Aside0 (gb9 ≠ gb11) ∧ Aside0 (gb11 ≠ gb9) ∧ Aside0 (Below w.heap.size w w')) ?_ ?_
   rotate_left
   ·intro hJ3_7_11_19_23_27
    refine join_ (σ := Unit) 2 #[true, true, true, true, true, true, true, true, true, true, true, true, true, true, true, true, true, true, true, true, true, true, true, true, true, true, true, false, false] (fun _ => [(41, .int .i64 a), (45, .agg #[.int .i64 b1, .int .i64 b2]), (49, .agg #[.int .i64 c1, .int .i64 c2]), (57, .int .i64 d), (61, .int .i64 q), (64, .agg #[.int .i64 a, .int .i64 b1, .int .i64 b2, .int .i64 c1, .int .i64 c2, .string (slotV u 4), .string (slotV u 5), .int .i64 d, .int .i64 q, .string (slotV u 8)])]) (fun _ w' => (w'.cell? ⟨gb6, 0, none⟩ = some (.string (slotV u 0)) ∧ w'.cell? ⟨gb6, 1, none⟩ = some (.string (slotV u 1)) ∧ w'.cell? ⟨gb6, 2, none⟩ = some (.string (slotV u 2)) ∧ w'.cell? ⟨gb6, 3, none⟩ = some (.string (slotV u 3)) ∧ w'.cell? ⟨gb6, 4, none⟩ = some (.string (slotV u 4)) ∧ w'.cell? ⟨gb6, 5, none⟩ = some (.string (slotV u 5)) ∧ w'.cell? ⟨gb6, 6, none⟩ = some (.string (slotV u 6)) ∧ w'.cell? ⟨gb6, 7, none⟩ = some (.string (slotV u 7)) ∧ w'.cell? ⟨gb6, 8, none⟩ = some (.string (slotV u 8)) ∧ w'.cell? ⟨gb9, 0, none⟩ = some (.func (.func 25) #[] #[])) ∧ Aside0 (w'.heap[gb2]? = some (.cells #[.int .i64 0, .int .i64 0, .int .i64 0, .int .i64 0, .int .i64 0, .string ⟨#[]⟩, .string ⟨#[]⟩, .int .i64 0, .int .i64 0, .string ⟨#[]⟩] 25 (0, 0))) ∧ Aside0 (w'.heap[gb6]? = some (.cells #[.string (slotV u 0), .string (slotV u 1), .string (slotV u 2), .string (slotV u 3), .string (slotV u 4), .string (slotV u 5), .string (slotV u 6), .string (slotV u 7), .string (slotV u 8)] 60 (0, 0))) ∧ Aside0 (w'.heap[gb9]? = some (.cells #[.func (.func 25) #[] #[]] 63 (0, 0))) ∧ Aside0 (Below w.heap.size w w')) ?_ ?_
    rotate_left
    ·intro hJ3_7_11_19_23
     refine join_ (σ := Nat) 3 #[true, true, true, true, true, true, true, true, true, true, true, true, true, true, true, true, true, true, true, true, true, true, true, false, true, true, false, true, false] (fun gb11 => [(41, .int .i64 a), (45, .agg #[.int .i64 b1, .int .i64 b2]), (49, .agg #[.int .i64 c1, .int .i64 c2]), (57, .int .i64 d), (11, .pointer (some ⟨gb11, 0, none⟩))]) (fun gb11 w' => (w'.cell? ⟨gb6, 0, none⟩ = some (.string (slotV u 0)) ∧ w'.cell? ⟨gb6, 1, none⟩ = some (.string (slotV u 1)) ∧ w'.cell? ⟨gb6, 2, none⟩ = some (.string (slotV u 2)) ∧ w'.cell? ⟨gb6, 3, none⟩ = some (.string (slotV u 3)) ∧ w'.cell? ⟨gb6, 4, none⟩ = some (.string (slotV u 4)) ∧ w'.cell? ⟨gb6, 5, none⟩ = some (.string (slotV u 5)) ∧ w'.cell? ⟨gb6, 6, none⟩ = some (.string (slotV u 6)) ∧ w'.cell? ⟨gb6, 7, none⟩ = some (.string (slotV u 7)) ∧ w'.cell? ⟨gb6, 8, none⟩ = some (.string (slotV u 8)) ∧ w'.cell? ⟨gb9, 0, none⟩ = some (.func (.func 25) #[] #[])) ∧ Aside0 (w'.heap[gb2]? = some (.cells #[.int .i64 0, .int .i64 0, .int .i64 0, .int .i64 0, .int .i64 0, .string ⟨#[]⟩, .string ⟨#[]⟩, .int .i64 0, .int .i64 0, .string ⟨#[]⟩] 25 (0, 0))) ∧ Aside0 (w'.heap[gb6]? = some (.cells #[.string (slotV u 0), .string (slotV u 1), .string (slotV u 2), .string (slotV u 3), .string (slotV u 4), .string (slotV u 5), .string (slotV u 6), .string (slotV u 7), .string (slotV u 8)] 60 (0, 0))) ∧ Aside0 (w'.heap[gb9]? = some (.cells #[.func (.func 25) #[] #[]] 63 (0, 0))) ∧ Aside0 (w'.heap[gb11]? = some (.cells #[.int .i64 0, .int .i64 0, .int .i64 0, .int .i64 0, .int .i64 0, .string ⟨#[]⟩, .string ⟨#[]⟩, .int .i64 0, .int .i64 0, .string ⟨#[]⟩] 25 (0, 0))) ∧ Aside0 (w.heap.size ≤ gb11) ∧ Aside0 (gb2 ≠ gb11) ∧ Aside0 (gb11 ≠ gb2) ∧ Aside0 (gb6 ≠ gb11) ∧ Aside0 (gb11 ≠ gb6) ∧ Aside0 (gb9 ≠ gb11) ∧ Aside0 (gb11 ≠ gb9) ∧ Aside0 (Below w.heap.size w w')) ?_ ?_
     rotate_left
     ·intro hJ3_7_11_19_27
      refine join_ (σ := Unit) 4 #[true, true, true, true, true, true, true, true, true, true, true, true, true, true, true, true, true, true, true, true, true, true, true, false, true, true, false, false, false] (fun _ => [(41, .int .i64 a), (45, .agg #[.int .i64 b1, .int .i64 b2]), (49, .agg #[.int .i64 c1, .int .i64 c2]), (57, .int .i64 d)]) (fun _ w' => (w'.cell? ⟨gb6, 0, none⟩ = some (.string (slotV u 0)) ∧ w'.cell? ⟨gb6, 1, none⟩ = some (.string (slotV u 1)) ∧ w'.cell? ⟨gb6, 2, none⟩ = some (.string (slotV u 2)) ∧ w'.cell? ⟨gb6, 3, none⟩ = some (.string (slotV u 3)) ∧ w'.cell? ⟨gb6, 4, none⟩ = some (.string (slotV u 4)) ∧ w'.cell? ⟨gb6, 5, none⟩ = some (.string (slotV u 5)) ∧ w'.cell? ⟨gb6, 6, none⟩ = some (.string (slotV u 6)) ∧ w'.cell? ⟨gb6, 7, none⟩ = some (.string (slotV u 7)) ∧ w'.cell? ⟨gb6, 8, none⟩ = some (.string (slotV u 8)) ∧ w'.cell? ⟨gb9, 0, none⟩ = some (.func (.func 25) #[] #[])) ∧ Aside0 (w'.heap[gb2]? = some (.cells #[.int .i64 0, .int .i64 0, .int .i64 0, .int .i64 0, .int .i64 0, .string ⟨#[]⟩, .string ⟨#[]⟩, .int .i64 0, .int .i64 0, .string ⟨#[]⟩] 25 (0, 0))) ∧ Aside0 (w'.heap[gb6]? = some (.cells #[.string (slotV u 0), .string (slotV u 1), .string (slotV u 2), .string (slotV u 3), .string (slotV u 4), .string (slotV u 5), .string (slotV u 6), .string (slotV u 7), .string (slotV u 8)] 60 (0, 0))) ∧ Aside0 (w'.heap[gb9]? = some (.cells #[.func (.func 25) #[] #[]] 63 (0, 0))) ∧ Aside0 (Below w.heap.size w w')) ?_ ?_
      rotate_left
      ·intro hJ3_7_11_19
       refine join_ (σ := Nat) 4 #[true, true, true, true, true, true, true, true, true, true, true, true, true, true, true, true, true, true, true, false, true, true, true, false, true, true, false, true, false] (fun gb11 => [(41, .int .i64 a), (45, .agg #[.int .i64 b1, .int .i64 b2]), (49, .agg #[.int .i64 c1, .int .i64 c2]), (11, .pointer (some ⟨gb11, 0, none⟩))]) (fun gb11 w' => (w'.cell? ⟨gb6, 0, none⟩ = some (.string (slotV u 0)) ∧ w'.cell? ⟨gb6, 1, none⟩ = some (.string (slotV u 1)) ∧ w'.cell? ⟨gb6, 2, none⟩ = some (.string (slotV u 2)) ∧ w'.cell? ⟨gb6, 3, none⟩ = some (.string (slotV u 3)) ∧ w'.cell? ⟨gb6, 4, none⟩ = some (.string (slotV u 4)) ∧ w'.cell? ⟨gb6, 5, none⟩ = some (.string (slotV u 5)) ∧ w'.cell? ⟨gb6, 6, none⟩ = some (.string (slotV u 6)) ∧ w'.cell? ⟨gb6, 7, none⟩ = some (.string (slotV u 7)) ∧ w'.cell? ⟨gb6, 8, none⟩ = some (.string (slotV u 8)) ∧ w'.cell? ⟨gb9, 0, none⟩ = some (.func (.func 25) #[] #[])) ∧ Aside0 (w'.heap[gb2]? = some (.cells #[.int .i64 0, .int .i64 0, .int .i64 0, .int .i64 0, .int .i64 0, .string ⟨#[]⟩, .string ⟨#[]⟩, .int .i64 0, .int .i64 0, .string ⟨#[]⟩] 25 (0, 0))) ∧ Aside0 (w'.heap[gb6]? = some (.cells #[.string (slotV u 0), .string (slotV u 1), .string (slotV u 2), .string (slotV u 3), .string (slotV u 4), .string (slotV u 5), .string (slotV u 6), .string (slotV u 7), .string (slotV u 8)] 60 (0, 0))) ∧ Aside0 (w'.heap[gb9]? = some (.cells #[.func (.func 25) #[] #[]] 63 (0, 0))) ∧ Aside0 (w'.heap[gb11]? = some (.cells #[.int .i64 0, .int .i64 0, .int .i64 0, .int .i64 0, .int .i64 0, .string ⟨#[]⟩, .string ⟨#[]⟩, .int .i64 0, .int .i64 0, .string ⟨#[]⟩] 25 (0, 0))) ∧ Aside0 (w.heap.size ≤ gb11) ∧ Aside0 (gb2 ≠ gb11) ∧ Aside0 (gb11 ≠ gb2) ∧ Aside0 (gb6 ≠ gb11) ∧ Aside0 (gb11 ≠ gb6) ∧ Aside0 (gb9 ≠ gb11) ∧ Aside0 (gb11 ≠ gb9) ∧ Aside0 (Below w.heap.size w w')) ?_ ?_
       rotate_left
       ·intro hJ3_7_11_27
        refine join_ (σ := Unit) 5 #[true, true, true, true, true, true, true, true, true, true, true, true, true, true, true, true, true, true, true, false, true, true, true, false, true, true, false, false, false] (fun _ => [(41, .int .i64 a), (45, .agg #[.int .i64 b1, .int .i64 b2]), (49, .agg #[.int .i64 c1, .int .i64 c2])]) (fun _ w' => (w'.cell? ⟨gb6, 0, none⟩ = some (.string (slotV u 0)) ∧ w'.cell? ⟨gb6, 1, none⟩ = some (.string (slotV u 1)) ∧ w'.cell? ⟨gb6, 2, none⟩ = some (.string (slotV u 2)) ∧ w'.cell? ⟨gb6, 3, none⟩ = some (.string (slotV u 3)) ∧ w'.cell? ⟨gb6, 4, none⟩ = some (.string (slotV u 4)) ∧ w'.cell? ⟨gb6, 5, none⟩ = some (.string (slotV u 5)) ∧ w'.cell? ⟨gb6, 6, none⟩ = some (.string (slotV u 6)) ∧ w'.cell? ⟨gb6, 7, none⟩ = some (.string (slotV u 7)) ∧ w'.cell? ⟨gb6, 8, none⟩ = some (.string (slotV u 8)) ∧ w'.cell? ⟨gb9, 0, none⟩ = some (.func (.func 25) #[] #[])) ∧ Aside0 (w'.heap[gb2]? = some (.cells #[.int .i64 0, .int .i64 0, .int .i64 0, .int .i64 0, .int .i64 0, .string ⟨#[]⟩, .string ⟨#[]⟩, .int .i64 0, .int .i64 0, .string ⟨#[]⟩] 25 (0, 0))) ∧ Aside0 (w'.heap[gb6]? = some (.cells #[.string (slotV u 0), .string (slotV u 1), .string (slotV u 2), .string (slotV u 3), .string (slotV u 4), .string (slotV u 5), .string (slotV u 6), .string (slotV u 7), .string (slotV u 8)] 60 (0, 0))) ∧ Aside0 (w'.heap[gb9]? = some (.cells #[.func (.func 25) #[] #[]] 63 (0, 0))) ∧ Aside0 (Below w.heap.size w w')) ?_ ?_
        rotate_left
        ·intro hJ3_7_11
         refine join_ (σ := Nat) 5 #[true, true, true, true, true, true, true, true, true, true, true, false, true, true, true, true, true, true, true, false, true, true, true, false, true, true, false, true, false] (fun gb11 => [(41, .int .i64 a), (45, .agg #[.int .i64 b1, .int .i64 b2]), (11, .pointer (some ⟨gb11, 0, none⟩))]) (fun gb11 w' => (w'.cell? ⟨gb6, 0, none⟩ = some (.string (slotV u 0)) ∧ w'.cell? ⟨gb6, 1, none⟩ = some (.string (slotV u 1)) ∧ w'.cell? ⟨gb6, 2, none⟩ = some (.string (slotV u 2)) ∧ w'.cell? ⟨gb6, 3, none⟩ = some (.string (slotV u 3)) ∧ w'.cell? ⟨gb6, 4, none⟩ = some (.string (slotV u 4)) ∧ w'.cell? ⟨gb6, 5, none⟩ = some (.string (slotV u 5)) ∧ w'.cell? ⟨gb6, 6, none⟩ = some (.string (slotV u 6)) ∧ w'.cell? ⟨gb6, 7, none⟩ = some (.string (slotV u 7)) ∧ w'.cell? ⟨gb6, 8, none⟩ = some (.string (slotV u 8)) ∧ w'.cell? ⟨gb9, 0, none⟩ = some (.func (.func 25) #[] #[])) ∧ Aside0 (w'.heap[gb2]? = some (.cells #[.int .i64 0, .int .i64 0, .int .i64 0, .int .i64 0, .int .i64 0, .string ⟨#[]⟩, .string ⟨#[]⟩, .int .i64 0, .int .i64 0, .string ⟨#[]⟩] 25 (0, 0))) ∧ Aside0 (w'.heap[gb6]? = some (.cells #[.string (slotV u 0), .string (slotV u 1), .string (slotV u 2), .string (slotV u 3), .string (slotV u 4), .string (slotV u 5), .string (slotV u 6), .string (slotV u 7), .string (slotV u 8)] 60 (0, 0))) ∧ Aside0 (w'.heap[gb9]? = some (.cells #[.func (.func 25) #[] #[]] 63 (0, 0))) ∧ Aside0 (w'.heap[gb11]? = some (.cells #[.int .i64 0, .int .i64 0, .int .i64 0, .int .i64 0, .int .i64 0, .string ⟨#[]⟩, .string ⟨#[]⟩, .int .i64 0, .int .i64 0, .string ⟨#[]⟩] 25 (0, 0))) ∧ Aside0 (w.heap.size ≤ gb11) ∧ Aside0 (gb2 ≠ gb11) ∧ Aside0 (gb11 ≠ gb2) ∧ Aside0 (gb6 ≠ gb11) ∧ Aside0 (gb11 ≠ gb6) ∧ Aside0 (gb9 ≠ gb11) ∧ Aside0 (gb11 ≠ gb9) ∧ Aside0 (Below w.heap.size w w')) ?_ ?_
         rotate_left
         ·intro hJ3_7_27
          refine join_ (σ := Unit) 6 #[true, true, true, true, true, true, true, true, true, true, true, false, true, true, true, true, true, true, true, false, true, true, true, false, true, true, false, false, false] (fun _ => [(41, .int .i64 a), (45, .agg #[.int .i64 b1, .int .i64 b2])]) (fun _ w' => (w'.cell? ⟨gb6, 0, none⟩ = some (.string (slotV u 0)) ∧ w'.cell? ⟨gb6, 1, none⟩ = some (.string (slotV u 1)) ∧ w'.cell? ⟨gb6, 2, none⟩ = some (.string (slotV u 2)) ∧ w'.cell? ⟨gb6, 3, none⟩ = some (.string (slotV u 3)) ∧ w'.cell? ⟨gb6, 4, none⟩ = some (.string (slotV u 4)) ∧ w'.cell? ⟨gb6, 5, none⟩ = some (.string (slotV u 5)) ∧ w'.cell? ⟨gb6, 6, none⟩ = some (.string (slotV u 6)) ∧ w'.cell? ⟨gb6, 7, none⟩ = some (.string (slotV u 7)) ∧ w'.cell? ⟨gb6, 8, none⟩ = some (.string (slotV u 8)) ∧ w'.cell? ⟨gb9, 0, none⟩ = some (.func (.func 25) #[] #[])) ∧ Aside0 (w'.heap[gb2]? = some (.cells #[.int .i64 0, .int .i64 0, .int .i64 0, .int .i64 0, .int .i64 0, .string ⟨#[]⟩, .string ⟨#[]⟩, .int .i64 0, .int .i64 0, .string ⟨#[]⟩] 25 (0, 0))) ∧ Aside0 (w'.heap[gb6]? = some (.cells #[.string (slotV u 0), .string (slotV u 1), .string (slotV u 2), .string (slotV u 3), .string (slotV u 4), .string (slotV u 5), .string (slotV u 6), .string (slotV u 7), .string (slotV u 8)] 60 (0, 0))) ∧ Aside0 (w'.heap[gb9]? = some (.cells #[.func (.func 25) #[] #[]] 63 (0, 0))) ∧ Aside0 (Below w.heap.size w w')) ?_ ?_
          rotate_left
          ·intro hJ3_7
           refine join_ (σ := Nat) 6 #[true, true, true, true, true, true, true, false, true, true, true, false, true, true, true, true, true, true, true, false, true, true, true, false, true, true, false, true, false] (fun gb11 => [(41, .int .i64 a), (11, .pointer (some ⟨gb11, 0, none⟩))]) (fun gb11 w' => (w'.cell? ⟨gb6, 0, none⟩ = some (.string (slotV u 0)) ∧ w'.cell? ⟨gb6, 1, none⟩ = some (.string (slotV u 1)) ∧ w'.cell? ⟨gb6, 2, none⟩ = some (.string (slotV u 2)) ∧ w'.cell? ⟨gb6, 3, none⟩ = some (.string (slotV u 3)) ∧ w'.cell? ⟨gb6, 4, none⟩ = some (.string (slotV u 4)) ∧ w'.cell? ⟨gb6, 5, none⟩ = some (.string (slotV u 5)) ∧ w'.cell? ⟨gb6, 6, none⟩ = some (.string (slotV u 6)) ∧ w'.cell? ⟨gb6, 7, none⟩ = some (.string (slotV u 7)) ∧ w'.cell? ⟨gb6, 8, none⟩ = some (.string (slotV u 8)) ∧ w'.cell? ⟨gb9, 0, none⟩ = some (.func (.func 25) #[] #[])) ∧ Aside0 (w'.heap[gb2]? = some (.cells #[.int .i64 0, .int .i64 0, .int .i64 0, .int .i64 0, .int .i64 0, .string ⟨#[]⟩, .string ⟨#[]⟩, .int .i64 0, .int .i64 0, .string ⟨#[]⟩] 25 (0, 0))) ∧ Aside0 (w'.heap[gb6]? = some (.cells #[.string (slotV u 0), .string (slotV u 1), .string (slotV u 2), .string (slotV u 3), .string (slotV u 4), .string (slotV u 5), .string (slotV u 6), .string (slotV u 7), .string (slotV u 8)] 60 (0, 0))) ∧ Aside0 (w'.heap[gb9]? = some (.cells #[.func (.func 25) #[] #[]] 63 (0, 0))) ∧ Aside0 (w'.heap[gb11]? = some (.cells #[.int .i64 0, .int .i64 0, .int .i64 0, .int .i64 0, .int .i64 0, .string ⟨#[]⟩, .string ⟨#[]⟩, .int .i64 0, .int .i64 0, .string ⟨#[]⟩] 25 (0, 0))) ∧ Aside0 (w.heap.size ≤ gb11) ∧ Aside0 (gb2 ≠ gb11) ∧ Aside0 (gb11 ≠ gb2) ∧ Aside0 (gb6 ≠ gb11) ∧ Aside0 (gb11 ≠ gb6) ∧ Aside0 (gb9 ≠ gb11) ∧ Aside0 (gb11 ≠ gb9) ∧ Aside0 (Below w.heap.size w w')) ?_ ?_
           rotate_left
           ·intro hJ3_27
            refine join_ (σ := Unit) 7 #[true, true, true, true, true, true, true, false, true, true, true, false, true, true, true, true, true, true, true, false, true, true, true, false, true, true, false, false, false] (fun _ => [(41, .int .i64 a)]) (fun _ w' => (w'.cell? ⟨gb6, 0, none⟩ = some (.string (slotV u 0)) ∧ w'.cell? ⟨gb6, 1, none⟩ = some (.string (slotV u 1)) ∧ w'.cell? ⟨gb6, 2, none⟩ = some (.string (slotV u 2)) ∧ w'.cell? ⟨gb6, 3, none⟩ = some (.string (slotV u 3)) ∧ w'.cell? ⟨gb6, 4, none⟩ = some (.string (slotV u 4)) ∧ w'.cell? ⟨gb6, 5, none⟩ = some (.string (slotV u 5)) ∧ w'.cell? ⟨gb6, 6, none⟩ = some (.string (slotV u 6)) ∧ w'.cell? ⟨gb6, 7, none⟩ = some (.string (slotV u 7)) ∧ w'.cell? ⟨gb6, 8, none⟩ = some (.string (slotV u 8)) ∧ w'.cell? ⟨gb9, 0, none⟩ = some (.func (.func 25) #[] #[])) ∧ Aside0 (w'.heap[gb2]? = some (.cells #[.int .i64 0, .int .i64 0, .int .i64 0, .int .i64 0, .int .i64 0, .string ⟨#[]⟩, .string ⟨#[]⟩, .int .i64 0, .int .i64 0, .string ⟨#[]⟩] 25 (0, 0))) ∧ Aside0 (w'.heap[gb6]? = some (.cells #[.string (slotV u 0), .string (slotV u 1), .string (slotV u 2), .string (slotV u 3), .string (slotV u 4), .string (slotV u 5), .string (slotV u 6), .string (slotV u 7), .string (slotV u 8)] 60 (0, 0))) ∧ Aside0 (w'.heap[gb9]? = some (.cells #[.func (.func 25) #[] #[]] 63 (0, 0))) ∧ Aside0 (Below w.heap.size w w')) ?_ ?_
            rotate_left
            ·intro hJ3
             refine join_ (σ := Nat) 7 #[true, true, true, false, true, true, true, false, true, true, true, false, true, true, true, true, true, true, true, false, true, true, true, false, true, true, false, true, false] (fun gb11 => [(11, .pointer (some ⟨gb11, 0, none⟩))]) (fun gb11 w' => (w'.cell? ⟨gb6, 0, none⟩ = some (.string (slotV u 0)) ∧ w'.cell? ⟨gb6, 1, none⟩ = some (.string (slotV u 1)) ∧ w'.cell? ⟨gb6, 2, none⟩ = some (.string (slotV u 2)) ∧ w'.cell? ⟨gb6, 3, none⟩ = some (.string (slotV u 3)) ∧ w'.cell? ⟨gb6, 4, none⟩ = some (.string (slotV u 4)) ∧ w'.cell? ⟨gb6, 5, none⟩ = some (.string (slotV u 5)) ∧ w'.cell? ⟨gb6, 6, none⟩ = some (.string (slotV u 6)) ∧ w'.cell? ⟨gb6, 7, none⟩ = some (.string (slotV u 7)) ∧ w'.cell? ⟨gb6, 8, none⟩ = some (.string (slotV u 8)) ∧ w'.cell? ⟨gb9, 0, none⟩ = some (.func (.func 25) #[] #[])) ∧ Aside0 (w'.heap[gb2]? = some (.cells #[.int .i64 0, .int .i64 0, .int .i64 0, .int .i64 0, .int .i64 0, .string ⟨#[]⟩, .string ⟨#[]⟩, .int .i64 0, .int .i64 0, .string ⟨#[]⟩] 25 (0, 0))) ∧ Aside0 (w'.heap[gb6]? = some (.cells #[.string (slotV u 0), .string (slotV u 1), .string (slotV u 2), .string (slotV u 3), .string (slotV u 4), .string (slotV u 5), .string (slotV u 6), .string (slotV u 7), .string (slotV u 8)] 60 (0, 0))) ∧ Aside0 (w'.heap[gb9]? = some (.cells #[.func (.func 25) #[] #[]] 63 (0, 0))) ∧ Aside0 (w'.heap[gb11]? = some (.cells #[.int .i64 0, .int .i64 0, .int .i64 0, .int .i64 0, .int .i64 0, .string ⟨#[]⟩, .string ⟨#[]⟩, .int .i64 0, .int .i64 0, .string ⟨#[]⟩] 25 (0, 0))) ∧ Aside0 (w.heap.size ≤ gb11) ∧ Aside0 (gb2 ≠ gb11) ∧ Aside0 (gb11 ≠ gb2) ∧ Aside0 (gb6 ≠ gb11) ∧ Aside0 (gb11 ≠ gb6) ∧ Aside0 (gb9 ≠ gb11) ∧ Aside0 (gb11 ≠ gb9) ∧ Aside0 (Below w.heap.size w w')) ?_ ?_
             rotate_left
             ·intro hJ27
              refine two_ (i := 3) (j := 27) (Ni := some 41) (Nj := some 11) #[true, true, true, true, true, true, true, false, true, true, true, false, true, true, true, true, true, true, true, false, true, true, true, false, true, true, false, false, false] #[true, true, true, false, true, true, true, false, true, true, true, false, true, true, true, true, true, true, true, false, true, true, true, false, true, true, false, true, false] rfl rfl rfl rfl (two_of HT_.out (by kernel_rfl)) (by decide) (by decide) (fun K hK => ?_) (fun K hK => ?_)
              ·skip
               refine goesV_ Try.func25 (by kernel_rfl) rfl #[] #[.string (slotV u 1)] #[.string (slotV u 1)] (by rfl) rfl rfl (by rfl) (by (try simp only [List.map_toArray, List.map_cons, List.map_nil]); first | done | rfl) (by rfl) ?_
               refine (askNumber_calls k (slotV u 1) a ea _ H1.out).mono ?_
               rintro e w903_ ⟨rfl, hd⟩
               refine ⟨_, rfl, ?_⟩
               have hb := hd.below
               clear hd
               have n0_ := Aside0.mk (blk_below (g := gb2) (o := .cells #[.int .i64 0, .int .i64 0, .int .i64 0, .int .i64 0, .int .i64 0, .string ⟨#[]⟩, .string ⟨#[]⟩, .int .i64 0, .int .i64 0, .string ⟨#[]⟩] 25 (0, 0)) (by first | with_reducible exact BK2.out | ((with_reducible repeat (first | refine blk_drewN ?_ _ | refine blk_drew ?_ | refine blk_alloc ?_ _)); exact BK2.out)) hb)
               have n1_ := Aside0.mk (blk_below (g := gb6) (o := .cells #[.string (slotV u 0), .string (slotV u 1), .string (slotV u 2), .string (slotV u 3), .string (slotV u 4), .string (slotV u 5), .string (slotV u 6), .string (slotV u 7), .string (slotV u 8)] 60 (0, 0)) (by first | with_reducible exact BK6.out | ((with_reducible repeat (first | refine blk_drewN ?_ _ | refine blk_drew ?_ | refine blk_alloc ?_ _)); exact BK6.out)) hb)
               have n2_ := Aside0.mk (blk_below (g := gb9) (o := .cells #[.func (.func 25) #[] #[]] 63 (0, 0)) (by first | with_reducible exact BK9.out | ((with_reducible repeat (first | refine blk_drewN ?_ _ | refine blk_drew ?_ | refine blk_alloc ?_ _)); exact BK9.out)) hb)
               have n3_ := Aside0.mk (below_step (by repeat (first | (with_reducible first | exact HB.out | apply below_alloc | apply pw_below_drewN | apply below_drew1 | refine below_set ?_ GE2.out | refine below_set ?_ GE6.out | refine below_set ?_ GE9.out) | exact HB.out)) hb)
               clear BK2 BK6 BK9 HB
               have BK2 := n0_
               have BK6 := n1_
               have BK9 := n2_
               have HB := n3_
               clear n0_ n1_ n2_ n3_
               (try clear hb)
               refine hK.out _ _ ⟨(blk_cell BK6.out 0).trans rfl, (blk_cell BK6.out 1).trans rfl, (blk_cell BK6.out 2).trans rfl, (blk_cell BK6.out 3).trans rfl, (blk_cell BK6.out 4).trans rfl, (blk_cell BK6.out 5).trans rfl, (blk_cell BK6.out 6).trans rfl, (blk_cell BK6.out 7).trans rfl, (blk_cell BK6.out 8).trans rfl, (blk_cell BK9.out 0).trans rfl⟩ (fun hHeld => ?_)
               clear hK K
               refine norm_ (a' := ?_) ?_ ?_
               rotate_left
               ·show Act.put _ (some 41) _ = _
                simp only [Act.put, List.setIfInBounds_toArray, List.set_cons_zero, List.set_cons_succ, i64_w, i32_w]
                rfl
               exact norm_ (by first | (simp only [putAll, Act.put, List.setIfInBounds_toArray, List.set_cons_zero, List.set_cons_succ]; done) | (simp only [putAll, Act.put, List.setIfInBounds_toArray, List.set_cons_zero, List.set_cons_succ]; rfl)) (hJ3 () _ ⟨hHeld, BK2, BK6, BK9, HB⟩)
              ·skip
               refine box_step ?hg (N := 11) ?hd (cs := #[.int .i64 0, .int .i64 0, .int .i64 0, .int .i64 0, .int .i64 0, .string ⟨#[]⟩, .string ⟨#[]⟩, .int .i64 0, .int .i64 0, .string ⟨#[]⟩]) (t := 25) ?hr ?_
               (case hd => rfl)
               (case hg => rfl)
               (case hr => first | (go_simp; done) | (go_simp; rfl))
               intro gb11 hg w6_ hbox hb
               have nx_ := Aside0.mk hbox
               have ny_ := Aside0.mk (show w.heap.size ≤ gb11 from by rw [hg]; exact below_size (by repeat (first | (with_reducible first | exact HB.out | apply below_alloc | apply pw_below_drewN | apply below_drew1 | refine below_set ?_ GE2.out | refine below_set ?_ GE6.out | refine below_set ?_ GE9.out) | exact HB.out)))
               have x0_ := Aside0.mk (show gb2 ≠ gb11 from by rw [hg]; exact Nat.ne_of_lt (blk_lt (g := gb2) (o := .cells #[.int .i64 0, .int .i64 0, .int .i64 0, .int .i64 0, .int .i64 0, .string ⟨#[]⟩, .string ⟨#[]⟩, .int .i64 0, .int .i64 0, .string ⟨#[]⟩] 25 (0, 0)) (by first | with_reducible exact BK2.out | ((with_reducible repeat (first | refine blk_drewN ?_ _ | refine blk_drew ?_ | refine blk_alloc ?_ _)); exact BK2.out))))
               have x1_ := Aside0.mk (show gb6 ≠ gb11 from by rw [hg]; exact Nat.ne_of_lt (blk_lt (g := gb6) (o := .cells #[.string (slotV u 0), .string (slotV u 1), .string (slotV u 2), .string (slotV u 3), .string (slotV u 4), .string (slotV u 5), .string (slotV u 6), .string (slotV u 7), .string (slotV u 8)] 60 (0, 0)) (by first | with_reducible exact BK6.out | ((with_reducible repeat (first | refine blk_drewN ?_ _ | refine blk_drew ?_ | refine blk_alloc ?_ _)); exact BK6.out))))
               have x2_ := Aside0.mk (show gb9 ≠ gb11 from by rw [hg]; exact Nat.ne_of_lt (blk_lt (g := gb9) (o := .cells #[.func (.func 25) #[] #[]] 63 (0, 0)) (by first | with_reducible exact BK9.out | ((with_reducible repeat (first | refine blk_drewN ?_ _ | refine blk_drew ?_ | refine blk_alloc ?_ _)); exact BK9.out))))
               have n0_ := Aside0.mk (blk_below (g := gb2) (o := .cells #[.int .i64 0, .int .i64 0, .int .i64 0, .int .i64 0, .int .i64 0, .string ⟨#[]⟩, .string ⟨#[]⟩, .int .i64 0, .int .i64 0, .string ⟨#[]⟩] 25 (0, 0)) (by first | with_reducible exact BK2.out | ((with_reducible repeat (first | refine blk_drewN ?_ _ | refine blk_drew ?_ | refine blk_alloc ?_ _)); exact BK2.out)) hb)
               have n1_ := Aside0.mk (blk_below (g := gb6) (o := .cells #[.string (slotV u 0), .string (slotV u 1), .string (slotV u 2), .string (slotV u 3), .string (slotV u 4), .string (slotV u 5), .string (slotV u 6), .string (slotV u 7), .string (slotV u 8)] 60 (0, 0)) (by first | with_reducible exact BK6.out | ((with_reducible repeat (first | refine blk_drewN ?_ _ | refine blk_drew ?_ | refine blk_alloc ?_ _)); exact BK6.out)) hb)
               have n2_ := Aside0.mk (blk_below (g := gb9) (o := .cells #[.func (.func 25) #[] #[]] 63 (0, 0)) (by first | with_reducible exact BK9.out | ((with_reducible repeat (first | refine blk_drewN ?_ _ | refine blk_drew ?_ | refine blk_alloc ?_ _)); exact BK9.out)) hb)
               have n3_ := Aside0.mk (below_step (by repeat (first | (with_reducible first | exact HB.out | apply below_alloc | apply pw_below_drewN | apply below_drew1 | refine below_set ?_ GE2.out | refine below_set ?_ GE6.out | refine below_set ?_ GE9.out) | exact HB.out)) hb)
               clear BK2 BK6 BK9 HB
               have BK2 := n0_
               have BK6 := n1_
               have BK9 := n2_
               have HB := n3_
               clear n0_ n1_ n2_ n3_
               have BK11 := nx_
               have GE11 := ny_
               have NB2_11 := x0_
               have NB11_2 := Aside0.mk (Ne.symm x0_.out)
               have hn2_11 := x0_.out
               have hn11_2 := Ne.symm x0_.out
               have NB6_11 := x1_
               have NB11_6 := Aside0.mk (Ne.symm x1_.out)
               have hn6_11 := x1_.out
               have hn11_6 := Ne.symm x1_.out
               have NB9_11 := x2_
               have NB11_9 := Aside0.mk (Ne.symm x2_.out)
               have hn9_11 := x2_.out
               have hn11_9 := Ne.symm x2_.out
               clear hb hbox hg nx_ ny_ x0_ x1_ x2_
               refine hK.out _ _ ⟨(blk_cell BK6.out 0).trans rfl, (blk_cell BK6.out 1).trans rfl, (blk_cell BK6.out 2).trans rfl, (blk_cell BK6.out 3).trans rfl, (blk_cell BK6.out 4).trans rfl, (blk_cell BK6.out 5).trans rfl, (blk_cell BK6.out 6).trans rfl, (blk_cell BK6.out 7).trans rfl, (blk_cell BK6.out 8).trans rfl, (blk_cell BK9.out 0).trans rfl⟩ (fun hHeld => ?_)
               clear hK K
               refine norm_ (a' := ?_) ?_ ?_
               rotate_left
               ·show Act.put _ (some 11) _ = _
                simp only [Act.put, List.setIfInBounds_toArray, List.set_cons_zero, List.set_cons_succ, i64_w, i32_w]
                rfl
               exact norm_ (by first | (simp only [putAll, Act.put, List.setIfInBounds_toArray, List.set_cons_zero, List.set_cons_succ]; done) | (simp only [putAll, Act.put, List.setIfInBounds_toArray, List.set_cons_zero, List.set_cons_succ]; rfl)) (hJ27 gb11 _ ⟨hHeld, BK2, BK6, BK9, BK11, GE11, NB2_11, NB11_2, NB6_11, NB11_6, NB9_11, NB11_9, HB⟩)
             ·skip
              rintro gb11 w' ⟨hHeld, BK2, BK6, BK9, BK11, GE11, NB2_11, NB11_2, NB6_11, NB11_6, NB9_11, NB11_9, HB⟩
              have hn2_11 := NB2_11.out
              have hn11_2 := NB11_2.out
              have hn6_11 := NB6_11.out
              have hn11_6 := NB11_6.out
              have hn9_11 := NB9_11.out
              have hn11_9 := NB11_9.out
              refine norm_ (a' := ?_) ?_ ?_
              rotate_left
              ·simp only [putAll, Act.put, List.setIfInBounds_toArray, List.set_cons_zero, List.set_cons_succ]
               rfl
              refine one_ (i := 3) (N := some 41) #[true, true, true, true, true, true, true, false, true, true, true, false, true, true, true, true, true, true, true, false, true, true, true, false, true, true, false, true, false] rfl rfl (one_of HT_.out (by kernel_rfl)) (by decide) (fun K hK => ?_)
              refine goesV_ Try.func25 (by kernel_rfl) rfl #[] #[.string (slotV u 1)] #[.string (slotV u 1)] (by rfl) rfl rfl (by rfl) (by (try simp only [List.map_toArray, List.map_cons, List.map_nil]); first | done | rfl) (by rfl) ?_
              refine (askNumber_calls k (slotV u 1) a ea _ H1.out).mono ?_
              rintro e w903_ ⟨rfl, hd⟩
              refine ⟨_, rfl, ?_⟩
              have hb := hd.below
              clear hd
              have n0_ := Aside0.mk (blk_below (g := gb2) (o := .cells #[.int .i64 0, .int .i64 0, .int .i64 0, .int .i64 0, .int .i64 0, .string ⟨#[]⟩, .string ⟨#[]⟩, .int .i64 0, .int .i64 0, .string ⟨#[]⟩] 25 (0, 0)) (by first | with_reducible exact BK2.out | ((with_reducible repeat (first | refine blk_drewN ?_ _ | refine blk_drew ?_ | refine blk_alloc ?_ _)); exact BK2.out)) hb)
              have n1_ := Aside0.mk (blk_below (g := gb6) (o := .cells #[.string (slotV u 0), .string (slotV u 1), .string (slotV u 2), .string (slotV u 3), .string (slotV u 4), .string (slotV u 5), .string (slotV u 6), .string (slotV u 7), .string (slotV u 8)] 60 (0, 0)) (by first | with_reducible exact BK6.out | ((with_reducible repeat (first | refine blk_drewN ?_ _ | refine blk_drew ?_ | refine blk_alloc ?_ _)); exact BK6.out)) hb)
              have n2_ := Aside0.mk (blk_below (g := gb9) (o := .cells #[.func (.func 25) #[] #[]] 63 (0, 0)) (by first | with_reducible exact BK9.out | ((with_reducible repeat (first | refine blk_drewN ?_ _ | refine blk_drew ?_ | refine blk_alloc ?_ _)); exact BK9.out)) hb)
              have n3_ := Aside0.mk (blk_below (g := gb11) (o := .cells #[.int .i64 0, .int .i64 0, .int .i64 0, .int .i64 0, .int .i64 0, .string ⟨#[]⟩, .string ⟨#[]⟩, .int .i64 0, .int .i64 0, .string ⟨#[]⟩] 25 (0, 0)) (by first | with_reducible exact BK11.out | ((with_reducible repeat (first | refine blk_drewN ?_ _ | refine blk_drew ?_ | refine blk_alloc ?_ _)); exact BK11.out)) hb)
              have n4_ := Aside0.mk (below_step (by repeat (first | (with_reducible first | exact HB.out | apply below_alloc | apply pw_below_drewN | apply below_drew1 | refine below_set ?_ GE2.out | refine below_set ?_ GE6.out | refine below_set ?_ GE9.out | refine below_set ?_ GE11.out) | exact HB.out)) hb)
              clear BK2 BK6 BK9 BK11 HB
              have BK2 := n0_
              have BK6 := n1_
              have BK9 := n2_
              have BK11 := n3_
              have HB := n4_
              clear n0_ n1_ n2_ n3_ n4_
              (try clear hb)
              refine hK.out _ _ ⟨(blk_cell BK6.out 0).trans rfl, (blk_cell BK6.out 1).trans rfl, (blk_cell BK6.out 2).trans rfl, (blk_cell BK6.out 3).trans rfl, (blk_cell BK6.out 4).trans rfl, (blk_cell BK6.out 5).trans rfl, (blk_cell BK6.out 6).trans rfl, (blk_cell BK6.out 7).trans rfl, (blk_cell BK6.out 8).trans rfl, (blk_cell BK9.out 0).trans rfl⟩ (fun hHeld => ?_)
              clear hK K
              refine norm_ (a' := ?_) ?_ ?_
              rotate_left
              ·show Act.put _ (some 41) _ = _
               simp only [Act.put, List.setIfInBounds_toArray, List.set_cons_zero, List.set_cons_succ, i64_w, i32_w]
               rfl
              exact norm_ (by first | (simp only [putAll, Act.put, List.setIfInBounds_toArray, List.set_cons_zero, List.set_cons_succ]; done) | (simp only [putAll, Act.put, List.setIfInBounds_toArray, List.set_cons_zero, List.set_cons_succ]; rfl)) (hJ3_27 gb11 _ ⟨hHeld, BK2, BK6, BK9, BK11, GE11, NB2_11, NB11_2, NB6_11, NB11_6, NB9_11, NB11_9, HB⟩)
            ·skip
             rintro ⟨⟩ w' ⟨hHeld, BK2, BK6, BK9, HB⟩
             refine norm_ (a' := ?_) ?_ ?_
             rotate_left
             ·simp only [putAll, Act.put, List.setIfInBounds_toArray, List.set_cons_zero, List.set_cons_succ]
              rfl
             refine two_ (i := 7) (j := 27) (Ni := some 45) (Nj := some 11) #[true, true, true, true, true, true, true, true, true, true, true, false, true, true, true, true, true, true, true, false, true, true, true, false, true, true, false, false, false] #[true, true, true, true, true, true, true, false, true, true, true, false, true, true, true, true, true, true, true, false, true, true, true, false, true, true, false, true, false] rfl rfl rfl rfl (two_of HT_.out (by kernel_rfl)) (by decide) (by decide) (fun K hK => ?_) (fun K hK => ?_)
             ·skip
              refine goesV_ Try.func27 (by kernel_rfl) rfl #[.pointer (some ⟨gb9, 0, none⟩)] #[.string (slotV u 2)] #[.string (slotV u 2), .pointer (some ⟨gb9, 0, none⟩)] (by rfl) rfl rfl (by rfl) (by (try simp only [List.map_toArray, List.map_cons, List.map_nil]); first | done | rfl) (by rfl) ?_
              refine (askNamed_calls k (slotV u 2) b1 b2 gb9 _ BK9.out H2.out).mono ?_
              rintro e w907_ ⟨rfl, hb⟩
              refine ⟨_, rfl, ?_⟩
              have n0_ := Aside0.mk (blk_below (g := gb2) (o := .cells #[.int .i64 0, .int .i64 0, .int .i64 0, .int .i64 0, .int .i64 0, .string ⟨#[]⟩, .string ⟨#[]⟩, .int .i64 0, .int .i64 0, .string ⟨#[]⟩] 25 (0, 0)) (by first | with_reducible exact BK2.out | ((with_reducible repeat (first | refine blk_drewN ?_ _ | refine blk_drew ?_ | refine blk_alloc ?_ _)); exact BK2.out)) hb)
              have n1_ := Aside0.mk (blk_below (g := gb6) (o := .cells #[.string (slotV u 0), .string (slotV u 1), .string (slotV u 2), .string (slotV u 3), .string (slotV u 4), .string (slotV u 5), .string (slotV u 6), .string (slotV u 7), .string (slotV u 8)] 60 (0, 0)) (by first | with_reducible exact BK6.out | ((with_reducible repeat (first | refine blk_drewN ?_ _ | refine blk_drew ?_ | refine blk_alloc ?_ _)); exact BK6.out)) hb)
              have n2_ := Aside0.mk (blk_below (g := gb9) (o := .cells #[.func (.func 25) #[] #[]] 63 (0, 0)) (by first | with_reducible exact BK9.out | ((with_reducible repeat (first | refine blk_drewN ?_ _ | refine blk_drew ?_ | refine blk_alloc ?_ _)); exact BK9.out)) hb)
              have n3_ := Aside0.mk (below_step (by repeat (first | (with_reducible first | exact HB.out | apply below_alloc | apply pw_below_drewN | apply below_drew1 | refine below_set ?_ GE2.out | refine below_set ?_ GE6.out | refine below_set ?_ GE9.out) | exact HB.out)) hb)
              clear BK2 BK6 BK9 HB
              have BK2 := n0_
              have BK6 := n1_
              have BK9 := n2_
              have HB := n3_
              clear n0_ n1_ n2_ n3_
              (try clear hb)
              refine hK.out _ _ ⟨(blk_cell BK6.out 0).trans rfl, (blk_cell BK6.out 1).trans rfl, (blk_cell BK6.out 2).trans rfl, (blk_cell BK6.out 3).trans rfl, (blk_cell BK6.out 4).trans rfl, (blk_cell BK6.out 5).trans rfl, (blk_cell BK6.out 6).trans rfl, (blk_cell BK6.out 7).trans rfl, (blk_cell BK6.out 8).trans rfl, (blk_cell BK9.out 0).trans rfl⟩ (fun hHeld => ?_)
              clear hK K
              refine norm_ (a' := ?_) ?_ ?_
              rotate_left
              ·show Act.put _ (some 45) _ = _
               simp only [Act.put, List.setIfInBounds_toArray, List.set_cons_zero, List.set_cons_succ, i64_w, i32_w]
               rfl
              exact norm_ (by first | (simp only [putAll, Act.put, List.setIfInBounds_toArray, List.set_cons_zero, List.set_cons_succ]; done) | (simp only [putAll, Act.put, List.setIfInBounds_toArray, List.set_cons_zero, List.set_cons_succ]; rfl)) (hJ3_7 () _ ⟨hHeld, BK2, BK6, BK9, HB⟩)
             ·skip
              refine box_step ?hg (N := 11) ?hd (cs := #[.int .i64 0, .int .i64 0, .int .i64 0, .int .i64 0, .int .i64 0, .string ⟨#[]⟩, .string ⟨#[]⟩, .int .i64 0, .int .i64 0, .string ⟨#[]⟩]) (t := 25) ?hr ?_
              (case hd => rfl)
              (case hg => rfl)
              (case hr => first | (go_simp; done) | (go_simp; rfl))
              intro gb11 hg w6_ hbox hb
              have nx_ := Aside0.mk hbox
              have ny_ := Aside0.mk (show w.heap.size ≤ gb11 from by rw [hg]; exact below_size (by repeat (first | (with_reducible first | exact HB.out | apply below_alloc | apply pw_below_drewN | apply below_drew1 | refine below_set ?_ GE2.out | refine below_set ?_ GE6.out | refine below_set ?_ GE9.out) | exact HB.out)))
              have x0_ := Aside0.mk (show gb2 ≠ gb11 from by rw [hg]; exact Nat.ne_of_lt (blk_lt (g := gb2) (o := .cells #[.int .i64 0, .int .i64 0, .int .i64 0, .int .i64 0, .int .i64 0, .string ⟨#[]⟩, .string ⟨#[]⟩, .int .i64 0, .int .i64 0, .string ⟨#[]⟩] 25 (0, 0)) (by first | with_reducible exact BK2.out | ((with_reducible repeat (first | refine blk_drewN ?_ _ | refine blk_drew ?_ | refine blk_alloc ?_ _)); exact BK2.out))))
              have x1_ := Aside0.mk (show gb6 ≠ gb11 from by rw [hg]; exact Nat.ne_of_lt (blk_lt (g := gb6) (o := .cells #[.string (slotV u 0), .string (slotV u 1), .string (slotV u 2), .string (slotV u 3), .string (slotV u 4), .string (slotV u 5), .string (slotV u 6), .string (slotV u 7), .string (slotV u 8)] 60 (0, 0)) (by first | with_reducible exact BK6.out | ((with_reducible repeat (first | refine blk_drewN ?_ _ | refine blk_drew ?_ | refine blk_alloc ?_ _)); exact BK6.out))))
              have x2_ := Aside0.mk (show gb9 ≠ gb11 from by rw [hg]; exact Nat.ne_of_lt (blk_lt (g := gb9) (o := .cells #[.func (.func 25) #[] #[]] 63 (0, 0)) (by first | with_reducible exact BK9.out | ((with_reducible repeat (first | refine blk_drewN ?_ _ | refine blk_drew ?_ | refine blk_alloc ?_ _)); exact BK9.out))))
              have n0_ := Aside0.mk (blk_below (g := gb2) (o := .cells #[.int .i64 0, .int .i64 0, .int .i64 0, .int .i64 0, .int .i64 0, .string ⟨#[]⟩, .string ⟨#[]⟩, .int .i64 0, .int .i64 0, .string ⟨#[]⟩] 25 (0, 0)) (by first | with_reducible exact BK2.out | ((with_reducible repeat (first | refine blk_drewN ?_ _ | refine blk_drew ?_ | refine blk_alloc ?_ _)); exact BK2.out)) hb)
              have n1_ := Aside0.mk (blk_below (g := gb6) (o := .cells #[.string (slotV u 0), .string (slotV u 1), .string (slotV u 2), .string (slotV u 3), .string (slotV u 4), .string (slotV u 5), .string (slotV u 6), .string (slotV u 7), .string (slotV u 8)] 60 (0, 0)) (by first | with_reducible exact BK6.out | ((with_reducible repeat (first | refine blk_drewN ?_ _ | refine blk_drew ?_ | refine blk_alloc ?_ _)); exact BK6.out)) hb)
              have n2_ := Aside0.mk (blk_below (g := gb9) (o := .cells #[.func (.func 25) #[] #[]] 63 (0, 0)) (by first | with_reducible exact BK9.out | ((with_reducible repeat (first | refine blk_drewN ?_ _ | refine blk_drew ?_ | refine blk_alloc ?_ _)); exact BK9.out)) hb)
              have n3_ := Aside0.mk (below_step (by repeat (first | (with_reducible first | exact HB.out | apply below_alloc | apply pw_below_drewN | apply below_drew1 | refine below_set ?_ GE2.out | refine below_set ?_ GE6.out | refine below_set ?_ GE9.out) | exact HB.out)) hb)
              clear BK2 BK6 BK9 HB
              have BK2 := n0_
              have BK6 := n1_
              have BK9 := n2_
              have HB := n3_
              clear n0_ n1_ n2_ n3_
              have BK11 := nx_
              have GE11 := ny_
              have NB2_11 := x0_
              have NB11_2 := Aside0.mk (Ne.symm x0_.out)
              have hn2_11 := x0_.out
              have hn11_2 := Ne.symm x0_.out
              have NB6_11 := x1_
              have NB11_6 := Aside0.mk (Ne.symm x1_.out)
              have hn6_11 := x1_.out
              have hn11_6 := Ne.symm x1_.out
              have NB9_11 := x2_
              have NB11_9 := Aside0.mk (Ne.symm x2_.out)
              have hn9_11 := x2_.out
              have hn11_9 := Ne.symm x2_.out
              clear hb hbox hg nx_ ny_ x0_ x1_ x2_
              refine hK.out _ _ ⟨(blk_cell BK6.out 0).trans rfl, (blk_cell BK6.out 1).trans rfl, (blk_cell BK6.out 2).trans rfl, (blk_cell BK6.out 3).trans rfl, (blk_cell BK6.out 4).trans rfl, (blk_cell BK6.out 5).trans rfl, (blk_cell BK6.out 6).trans rfl, (blk_cell BK6.out 7).trans rfl, (blk_cell BK6.out 8).trans rfl, (blk_cell BK9.out 0).trans rfl⟩ (fun hHeld => ?_)
              clear hK K
              refine norm_ (a' := ?_) ?_ ?_
              rotate_left
              ·show Act.put _ (some 11) _ = _
               simp only [Act.put, List.setIfInBounds_toArray, List.set_cons_zero, List.set_cons_succ, i64_w, i32_w]
               rfl
              exact norm_ (by first | (simp only [putAll, Act.put, List.setIfInBounds_toArray, List.set_cons_zero, List.set_cons_succ]; done) | (simp only [putAll, Act.put, List.setIfInBounds_toArray, List.set_cons_zero, List.set_cons_succ]; rfl)) (hJ3_27 gb11 _ ⟨hHeld, BK2, BK6, BK9, BK11, GE11, NB2_11, NB11_2, NB6_11, NB11_6, NB9_11, NB11_9, HB⟩)
           ·skip
            rintro gb11 w' ⟨hHeld, BK2, BK6, BK9, BK11, GE11, NB2_11, NB11_2, NB6_11, NB11_6, NB9_11, NB11_9, HB⟩
            have hn2_11 := NB2_11.out
            have hn11_2 := NB11_2.out
            have hn6_11 := NB6_11.out
            have hn11_6 := NB11_6.out
            have hn9_11 := NB9_11.out
            have hn11_9 := NB11_9.out
            refine norm_ (a' := ?_) ?_ ?_
            rotate_left
            ·simp only [putAll, Act.put, List.setIfInBounds_toArray, List.set_cons_zero, List.set_cons_succ]
             rfl
            refine one_ (i := 7) (N := some 45) #[true, true, true, true, true, true, true, true, true, true, true, false, true, true, true, true, true, true, true, false, true, true, true, false, true, true, false, true, false] rfl rfl (one_of HT_.out (by kernel_rfl)) (by decide) (fun K hK => ?_)
            refine goesV_ Try.func27 (by kernel_rfl) rfl #[.pointer (some ⟨gb9, 0, none⟩)] #[.string (slotV u 2)] #[.string (slotV u 2), .pointer (some ⟨gb9, 0, none⟩)] (by rfl) rfl rfl (by rfl) (by (try simp only [List.map_toArray, List.map_cons, List.map_nil]); first | done | rfl) (by rfl) ?_
            refine (askNamed_calls k (slotV u 2) b1 b2 gb9 _ BK9.out H2.out).mono ?_
            rintro e w907_ ⟨rfl, hb⟩
            refine ⟨_, rfl, ?_⟩
            have n0_ := Aside0.mk (blk_below (g := gb2) (o := .cells #[.int .i64 0, .int .i64 0, .int .i64 0, .int .i64 0, .int .i64 0, .string ⟨#[]⟩, .string ⟨#[]⟩, .int .i64 0, .int .i64 0, .string ⟨#[]⟩] 25 (0, 0)) (by first | with_reducible exact BK2.out | ((with_reducible repeat (first | refine blk_drewN ?_ _ | refine blk_drew ?_ | refine blk_alloc ?_ _)); exact BK2.out)) hb)
            have n1_ := Aside0.mk (blk_below (g := gb6) (o := .cells #[.string (slotV u 0), .string (slotV u 1), .string (slotV u 2), .string (slotV u 3), .string (slotV u 4), .string (slotV u 5), .string (slotV u 6), .string (slotV u 7), .string (slotV u 8)] 60 (0, 0)) (by first | with_reducible exact BK6.out | ((with_reducible repeat (first | refine blk_drewN ?_ _ | refine blk_drew ?_ | refine blk_alloc ?_ _)); exact BK6.out)) hb)
            have n2_ := Aside0.mk (blk_below (g := gb9) (o := .cells #[.func (.func 25) #[] #[]] 63 (0, 0)) (by first | with_reducible exact BK9.out | ((with_reducible repeat (first | refine blk_drewN ?_ _ | refine blk_drew ?_ | refine blk_alloc ?_ _)); exact BK9.out)) hb)
            have n3_ := Aside0.mk (blk_below (g := gb11) (o := .cells #[.int .i64 0, .int .i64 0, .int .i64 0, .int .i64 0, .int .i64 0, .string ⟨#[]⟩, .string ⟨#[]⟩, .int .i64 0, .int .i64 0, .string ⟨#[]⟩] 25 (0, 0)) (by first | with_reducible exact BK11.out | ((with_reducible repeat (first | refine blk_drewN ?_ _ | refine blk_drew ?_ | refine blk_alloc ?_ _)); exact BK11.out)) hb)
            have n4_ := Aside0.mk (below_step (by repeat (first | (with_reducible first | exact HB.out | apply below_alloc | apply pw_below_drewN | apply below_drew1 | refine below_set ?_ GE2.out | refine below_set ?_ GE6.out | refine below_set ?_ GE9.out | refine below_set ?_ GE11.out) | exact HB.out)) hb)
            clear BK2 BK6 BK9 BK11 HB
            have BK2 := n0_
            have BK6 := n1_
            have BK9 := n2_
            have BK11 := n3_
            have HB := n4_
            clear n0_ n1_ n2_ n3_ n4_
            (try clear hb)
            refine hK.out _ _ ⟨(blk_cell BK6.out 0).trans rfl, (blk_cell BK6.out 1).trans rfl, (blk_cell BK6.out 2).trans rfl, (blk_cell BK6.out 3).trans rfl, (blk_cell BK6.out 4).trans rfl, (blk_cell BK6.out 5).trans rfl, (blk_cell BK6.out 6).trans rfl, (blk_cell BK6.out 7).trans rfl, (blk_cell BK6.out 8).trans rfl, (blk_cell BK9.out 0).trans rfl⟩ (fun hHeld => ?_)
            clear hK K
            refine norm_ (a' := ?_) ?_ ?_
            rotate_left
            ·show Act.put _ (some 45) _ = _
             simp only [Act.put, List.setIfInBounds_toArray, List.set_cons_zero, List.set_cons_succ, i64_w, i32_w]
             rfl
            exact norm_ (by first | (simp only [putAll, Act.put, List.setIfInBounds_toArray, List.set_cons_zero, List.set_cons_succ]; done) | (simp only [putAll, Act.put, List.setIfInBounds_toArray, List.set_cons_zero, List.set_cons_succ]; rfl)) (hJ3_7_27 gb11 _ ⟨hHeld, BK2, BK6, BK9, BK11, GE11, NB2_11, NB11_2, NB6_11, NB11_6, NB9_11, NB11_9, HB⟩)
          ·skip
           rintro ⟨⟩ w' ⟨hHeld, BK2, BK6, BK9, HB⟩
           refine norm_ (a' := ?_) ?_ ?_
           rotate_left
           ·simp only [putAll, Act.put, List.setIfInBounds_toArray, List.set_cons_zero, List.set_cons_succ]
            rfl
           refine two_ (i := 11) (j := 27) (Ni := some 49) (Nj := some 11) #[true, true, true, true, true, true, true, true, true, true, true, true, true, true, true, true, true, true, true, false, true, true, true, false, true, true, false, false, false] #[true, true, true, true, true, true, true, true, true, true, true, false, true, true, true, true, true, true, true, false, true, true, true, false, true, true, false, true, false] rfl rfl rfl rfl (two_of HT_.out (by kernel_rfl)) (by decide) (by decide) (fun K hK => ?_) (fun K hK => ?_)
           ·skip
            refine goesV_ Try.func27 (by kernel_rfl) rfl #[.pointer (some ⟨gb9, 0, none⟩)] #[.string (slotV u 3)] #[.string (slotV u 3), .pointer (some ⟨gb9, 0, none⟩)] (by rfl) rfl rfl (by rfl) (by (try simp only [List.map_toArray, List.map_cons, List.map_nil]); first | done | rfl) (by rfl) ?_
            refine (askNamed_calls k (slotV u 3) c1 c2 gb9 _ BK9.out H3.out).mono ?_
            rintro e w911_ ⟨rfl, hb⟩
            refine ⟨_, rfl, ?_⟩
            have n0_ := Aside0.mk (blk_below (g := gb2) (o := .cells #[.int .i64 0, .int .i64 0, .int .i64 0, .int .i64 0, .int .i64 0, .string ⟨#[]⟩, .string ⟨#[]⟩, .int .i64 0, .int .i64 0, .string ⟨#[]⟩] 25 (0, 0)) (by first | with_reducible exact BK2.out | ((with_reducible repeat (first | refine blk_drewN ?_ _ | refine blk_drew ?_ | refine blk_alloc ?_ _)); exact BK2.out)) hb)
            have n1_ := Aside0.mk (blk_below (g := gb6) (o := .cells #[.string (slotV u 0), .string (slotV u 1), .string (slotV u 2), .string (slotV u 3), .string (slotV u 4), .string (slotV u 5), .string (slotV u 6), .string (slotV u 7), .string (slotV u 8)] 60 (0, 0)) (by first | with_reducible exact BK6.out | ((with_reducible repeat (first | refine blk_drewN ?_ _ | refine blk_drew ?_ | refine blk_alloc ?_ _)); exact BK6.out)) hb)
            have n2_ := Aside0.mk (blk_below (g := gb9) (o := .cells #[.func (.func 25) #[] #[]] 63 (0, 0)) (by first | with_reducible exact BK9.out | ((with_reducible repeat (first | refine blk_drewN ?_ _ | refine blk_drew ?_ | refine blk_alloc ?_ _)); exact BK9.out)) hb)
            have n3_ := Aside0.mk (below_step (by repeat (first | (with_reducible first | exact HB.out | apply below_alloc | apply pw_below_drewN | apply below_drew1 | refine below_set ?_ GE2.out | refine below_set ?_ GE6.out | refine below_set ?_ GE9.out) | exact HB.out)) hb)
            clear BK2 BK6 BK9 HB
            have BK2 := n0_
            have BK6 := n1_
            have BK9 := n2_
            have HB := n3_
            clear n0_ n1_ n2_ n3_
            (try clear hb)
            refine hK.out _ _ ⟨(blk_cell BK6.out 0).trans rfl, (blk_cell BK6.out 1).trans rfl, (blk_cell BK6.out 2).trans rfl, (blk_cell BK6.out 3).trans rfl, (blk_cell BK6.out 4).trans rfl, (blk_cell BK6.out 5).trans rfl, (blk_cell BK6.out 6).trans rfl, (blk_cell BK6.out 7).trans rfl, (blk_cell BK6.out 8).trans rfl, (blk_cell BK9.out 0).trans rfl⟩ (fun hHeld => ?_)
            clear hK K
            refine norm_ (a' := ?_) ?_ ?_
            rotate_left
            ·show Act.put _ (some 49) _ = _
             simp only [Act.put, List.setIfInBounds_toArray, List.set_cons_zero, List.set_cons_succ, i64_w, i32_w]
             rfl
            exact norm_ (by first | (simp only [putAll, Act.put, List.setIfInBounds_toArray, List.set_cons_zero, List.set_cons_succ]; done) | (simp only [putAll, Act.put, List.setIfInBounds_toArray, List.set_cons_zero, List.set_cons_succ]; rfl)) (hJ3_7_11 () _ ⟨hHeld, BK2, BK6, BK9, HB⟩)
           ·skip
            refine box_step ?hg (N := 11) ?hd (cs := #[.int .i64 0, .int .i64 0, .int .i64 0, .int .i64 0, .int .i64 0, .string ⟨#[]⟩, .string ⟨#[]⟩, .int .i64 0, .int .i64 0, .string ⟨#[]⟩]) (t := 25) ?hr ?_
            (case hd => rfl)
            (case hg => rfl)
            (case hr => first | (go_simp; done) | (go_simp; rfl))
            intro gb11 hg w6_ hbox hb
            have nx_ := Aside0.mk hbox
            have ny_ := Aside0.mk (show w.heap.size ≤ gb11 from by rw [hg]; exact below_size (by repeat (first | (with_reducible first | exact HB.out | apply below_alloc | apply pw_below_drewN | apply below_drew1 | refine below_set ?_ GE2.out | refine below_set ?_ GE6.out | refine below_set ?_ GE9.out) | exact HB.out)))
            have x0_ := Aside0.mk (show gb2 ≠ gb11 from by rw [hg]; exact Nat.ne_of_lt (blk_lt (g := gb2) (o := .cells #[.int .i64 0, .int .i64 0, .int .i64 0, .int .i64 0, .int .i64 0, .string ⟨#[]⟩, .string ⟨#[]⟩, .int .i64 0, .int .i64 0, .string ⟨#[]⟩] 25 (0, 0)) (by first | with_reducible exact BK2.out | ((with_reducible repeat (first | refine blk_drewN ?_ _ | refine blk_drew ?_ | refine blk_alloc ?_ _)); exact BK2.out))))
            have x1_ := Aside0.mk (show gb6 ≠ gb11 from by rw [hg]; exact Nat.ne_of_lt (blk_lt (g := gb6) (o := .cells #[.string (slotV u 0), .string (slotV u 1), .string (slotV u 2), .string (slotV u 3), .string (slotV u 4), .string (slotV u 5), .string (slotV u 6), .string (slotV u 7), .string (slotV u 8)] 60 (0, 0)) (by first | with_reducible exact BK6.out | ((with_reducible repeat (first | refine blk_drewN ?_ _ | refine blk_drew ?_ | refine blk_alloc ?_ _)); exact BK6.out))))
            have x2_ := Aside0.mk (show gb9 ≠ gb11 from by rw [hg]; exact Nat.ne_of_lt (blk_lt (g := gb9) (o := .cells #[.func (.func 25) #[] #[]] 63 (0, 0)) (by first | with_reducible exact BK9.out | ((with_reducible repeat (first | refine blk_drewN ?_ _ | refine blk_drew ?_ | refine blk_alloc ?_ _)); exact BK9.out))))
            have n0_ := Aside0.mk (blk_below (g := gb2) (o := .cells #[.int .i64 0, .int .i64 0, .int .i64 0, .int .i64 0, .int .i64 0, .string ⟨#[]⟩, .string ⟨#[]⟩, .int .i64 0, .int .i64 0, .string ⟨#[]⟩] 25 (0, 0)) (by first | with_reducible exact BK2.out | ((with_reducible repeat (first | refine blk_drewN ?_ _ | refine blk_drew ?_ | refine blk_alloc ?_ _)); exact BK2.out)) hb)
            have n1_ := Aside0.mk (blk_below (g := gb6) (o := .cells #[.string (slotV u 0), .string (slotV u 1), .string (slotV u 2), .string (slotV u 3), .string (slotV u 4), .string (slotV u 5), .string (slotV u 6), .string (slotV u 7), .string (slotV u 8)] 60 (0, 0)) (by first | with_reducible exact BK6.out | ((with_reducible repeat (first | refine blk_drewN ?_ _ | refine blk_drew ?_ | refine blk_alloc ?_ _)); exact BK6.out)) hb)
            have n2_ := Aside0.mk (blk_below (g := gb9) (o := .cells #[.func (.func 25) #[] #[]] 63 (0, 0)) (by first | with_reducible exact BK9.out | ((with_reducible repeat (first | refine blk_drewN ?_ _ | refine blk_drew ?_ | refine blk_alloc ?_ _)); exact BK9.out)) hb)
            have n3_ := Aside0.mk (below_step (by repeat (first | (with_reducible first | exact HB.out | apply below_alloc | apply pw_below_drewN | apply below_drew1 | refine below_set ?_ GE2.out | refine below_set ?_ GE6.out | refine below_set ?_ GE9.out) | exact HB.out)) hb)
            clear BK2 BK6 BK9 HB
            have BK2 := n0_
            have BK6 := n1_
            have BK9 := n2_
            have HB := n3_
            clear n0_ n1_ n2_ n3_
            have BK11 := nx_
            have GE11 := ny_
            have NB2_11 := x0_
            have NB11_2 := Aside0.mk (Ne.symm x0_.out)
            have hn2_11 := x0_.out
            have hn11_2 := Ne.symm x0_.out
            have NB6_11 := x1_
            have NB11_6 := Aside0.mk (Ne.symm x1_.out)
            have hn6_11 := x1_.out
            have hn11_6 := Ne.symm x1_.out
            have NB9_11 := x2_
            have NB11_9 := Aside0.mk (Ne.symm x2_.out)
            have hn9_11 := x2_.out
            have hn11_9 := Ne.symm x2_.out
            clear hb hbox hg nx_ ny_ x0_ x1_ x2_
            refine hK.out _ _ ⟨(blk_cell BK6.out 0).trans rfl, (blk_cell BK6.out 1).trans rfl, (blk_cell BK6.out 2).trans rfl, (blk_cell BK6.out 3).trans rfl, (blk_cell BK6.out 4).trans rfl, (blk_cell BK6.out 5).trans rfl, (blk_cell BK6.out 6).trans rfl, (blk_cell BK6.out 7).trans rfl, (blk_cell BK6.out 8).trans rfl, (blk_cell BK9.out 0).trans rfl⟩ (fun hHeld => ?_)
            clear hK K
            refine norm_ (a' := ?_) ?_ ?_
            rotate_left
            ·show Act.put _ (some 11) _ = _
             simp only [Act.put, List.setIfInBounds_toArray, List.set_cons_zero, List.set_cons_succ, i64_w, i32_w]
             rfl
            exact norm_ (by first | (simp only [putAll, Act.put, List.setIfInBounds_toArray, List.set_cons_zero, List.set_cons_succ]; done) | (simp only [putAll, Act.put, List.setIfInBounds_toArray, List.set_cons_zero, List.set_cons_succ]; rfl)) (hJ3_7_27 gb11 _ ⟨hHeld, BK2, BK6, BK9, BK11, GE11, NB2_11, NB11_2, NB6_11, NB11_6, NB9_11, NB11_9, HB⟩)
         ·skip
          rintro gb11 w' ⟨hHeld, BK2, BK6, BK9, BK11, GE11, NB2_11, NB11_2, NB6_11, NB11_6, NB9_11, NB11_9, HB⟩
          have hn2_11 := NB2_11.out
          have hn11_2 := NB11_2.out
          have hn6_11 := NB6_11.out
          have hn11_6 := NB11_6.out
          have hn9_11 := NB9_11.out
          have hn11_9 := NB11_9.out
          refine norm_ (a' := ?_) ?_ ?_
          rotate_left
          ·simp only [putAll, Act.put, List.setIfInBounds_toArray, List.set_cons_zero, List.set_cons_succ]
           rfl
          refine one_ (i := 11) (N := some 49) #[true, true, true, true, true, true, true, true, true, true, true, true, true, true, true, true, true, true, true, false, true, true, true, false, true, true, false, true, false] rfl rfl (one_of HT_.out (by kernel_rfl)) (by decide) (fun K hK => ?_)
          refine goesV_ Try.func27 (by kernel_rfl) rfl #[.pointer (some ⟨gb9, 0, none⟩)] #[.string (slotV u 3)] #[.string (slotV u 3), .pointer (some ⟨gb9, 0, none⟩)] (by rfl) rfl rfl (by rfl) (by (try simp only [List.map_toArray, List.map_cons, List.map_nil]); first | done | rfl) (by rfl) ?_
          refine (askNamed_calls k (slotV u 3) c1 c2 gb9 _ BK9.out H3.out).mono ?_
          rintro e w911_ ⟨rfl, hb⟩
          refine ⟨_, rfl, ?_⟩
          have n0_ := Aside0.mk (blk_below (g := gb2) (o := .cells #[.int .i64 0, .int .i64 0, .int .i64 0, .int .i64 0, .int .i64 0, .string ⟨#[]⟩, .string ⟨#[]⟩, .int .i64 0, .int .i64 0, .string ⟨#[]⟩] 25 (0, 0)) (by first | with_reducible exact BK2.out | ((with_reducible repeat (first | refine blk_drewN ?_ _ | refine blk_drew ?_ | refine blk_alloc ?_ _)); exact BK2.out)) hb)
          have n1_ := Aside0.mk (blk_below (g := gb6) (o := .cells #[.string (slotV u 0), .string (slotV u 1), .string (slotV u 2), .string (slotV u 3), .string (slotV u 4), .string (slotV u 5), .string (slotV u 6), .string (slotV u 7), .string (slotV u 8)] 60 (0, 0)) (by first | with_reducible exact BK6.out | ((with_reducible repeat (first | refine blk_drewN ?_ _ | refine blk_drew ?_ | refine blk_alloc ?_ _)); exact BK6.out)) hb)
          have n2_ := Aside0.mk (blk_below (g := gb9) (o := .cells #[.func (.func 25) #[] #[]] 63 (0, 0)) (by first | with_reducible exact BK9.out | ((with_reducible repeat (first | refine blk_drewN ?_ _ | refine blk_drew ?_ | refine blk_alloc ?_ _)); exact BK9.out)) hb)
          have n3_ := Aside0.mk (blk_below (g := gb11) (o := .cells #[.int .i64 0, .int .i64 0, .int .i64 0, .int .i64 0, .int .i64 0, .string ⟨#[]⟩, .string ⟨#[]⟩, .int .i64 0, .int .i64 0, .string ⟨#[]⟩] 25 (0, 0)) (by first | with_reducible exact BK11.out | ((with_reducible repeat (first | refine blk_drewN ?_ _ | refine blk_drew ?_ | refine blk_alloc ?_ _)); exact BK11.out)) hb)
          have n4_ := Aside0.mk (below_step (by repeat (first | (with_reducible first | exact HB.out | apply below_alloc | apply pw_below_drewN | apply below_drew1 | refine below_set ?_ GE2.out | refine below_set ?_ GE6.out | refine below_set ?_ GE9.out | refine below_set ?_ GE11.out) | exact HB.out)) hb)
          clear BK2 BK6 BK9 BK11 HB
          have BK2 := n0_
          have BK6 := n1_
          have BK9 := n2_
          have BK11 := n3_
          have HB := n4_
          clear n0_ n1_ n2_ n3_ n4_
          (try clear hb)
          refine hK.out _ _ ⟨(blk_cell BK6.out 0).trans rfl, (blk_cell BK6.out 1).trans rfl, (blk_cell BK6.out 2).trans rfl, (blk_cell BK6.out 3).trans rfl, (blk_cell BK6.out 4).trans rfl, (blk_cell BK6.out 5).trans rfl, (blk_cell BK6.out 6).trans rfl, (blk_cell BK6.out 7).trans rfl, (blk_cell BK6.out 8).trans rfl, (blk_cell BK9.out 0).trans rfl⟩ (fun hHeld => ?_)
          clear hK K
          refine norm_ (a' := ?_) ?_ ?_
          rotate_left
          ·show Act.put _ (some 49) _ = _
           simp only [Act.put, List.setIfInBounds_toArray, List.set_cons_zero, List.set_cons_succ, i64_w, i32_w]
           rfl
          exact norm_ (by first | (simp only [putAll, Act.put, List.setIfInBounds_toArray, List.set_cons_zero, List.set_cons_succ]; done) | (simp only [putAll, Act.put, List.setIfInBounds_toArray, List.set_cons_zero, List.set_cons_succ]; rfl)) (hJ3_7_11_27 gb11 _ ⟨hHeld, BK2, BK6, BK9, BK11, GE11, NB2_11, NB11_2, NB6_11, NB11_6, NB9_11, NB11_9, HB⟩)
        ·skip
         rintro ⟨⟩ w' ⟨hHeld, BK2, BK6, BK9, HB⟩
         refine norm_ (a' := ?_) ?_ ?_
         rotate_left
         ·simp only [putAll, Act.put, List.setIfInBounds_toArray, List.set_cons_zero, List.set_cons_succ]
          rfl
         refine two_ (i := 19) (j := 27) (Ni := some 57) (Nj := some 11) #[true, true, true, true, true, true, true, true, true, true, true, true, true, true, true, true, true, true, true, true, true, true, true, false, true, true, false, false, false] #[true, true, true, true, true, true, true, true, true, true, true, true, true, true, true, true, true, true, true, false, true, true, true, false, true, true, false, true, false] rfl rfl rfl rfl (two_of HT_.out (by kernel_rfl)) (by decide) (by decide) (fun K hK => ?_) (fun K hK => ?_)
         ·skip
          refine goesV_ Try.func25 (by kernel_rfl) rfl #[] #[.string (slotV u 6)] #[.string (slotV u 6)] (by rfl) rfl rfl (by rfl) (by (try simp only [List.map_toArray, List.map_cons, List.map_nil]); first | done | rfl) (by rfl) ?_
          refine (askNumber_calls k (slotV u 6) d ed _ H6.out).mono ?_
          rintro e w919_ ⟨rfl, hd⟩
          refine ⟨_, rfl, ?_⟩
          have hb := hd.below
          clear hd
          have n0_ := Aside0.mk (blk_below (g := gb2) (o := .cells #[.int .i64 0, .int .i64 0, .int .i64 0, .int .i64 0, .int .i64 0, .string ⟨#[]⟩, .string ⟨#[]⟩, .int .i64 0, .int .i64 0, .string ⟨#[]⟩] 25 (0, 0)) (by first | with_reducible exact BK2.out | ((with_reducible repeat (first | refine blk_drewN ?_ _ | refine blk_drew ?_ | refine blk_alloc ?_ _)); exact BK2.out)) hb)
          have n1_ := Aside0.mk (blk_below (g := gb6) (o := .cells #[.string (slotV u 0), .string (slotV u 1), .string (slotV u 2), .string (slotV u 3), .string (slotV u 4), .string (slotV u 5), .string (slotV u 6), .string (slotV u 7), .string (slotV u 8)] 60 (0, 0)) (by first | with_reducible exact BK6.out | ((with_reducible repeat (first | refine blk_drewN ?_ _ | refine blk_drew ?_ | refine blk_alloc ?_ _)); exact BK6.out)) hb)
          have n2_ := Aside0.mk (blk_below (g := gb9) (o := .cells #[.func (.func 25) #[] #[]] 63 (0, 0)) (by first | with_reducible exact BK9.out | ((with_reducible repeat (first | refine blk_drewN ?_ _ | refine blk_drew ?_ | refine blk_alloc ?_ _)); exact BK9.out)) hb)
          have n3_ := Aside0.mk (below_step (by repeat (first | (with_reducible first | exact HB.out | apply below_alloc | apply pw_below_drewN | apply below_drew1 | refine below_set ?_ GE2.out | refine below_set ?_ GE6.out | refine below_set ?_ GE9.out) | exact HB.out)) hb)
          clear BK2 BK6 BK9 HB
          have BK2 := n0_
          have BK6 := n1_
          have BK9 := n2_
          have HB := n3_
          clear n0_ n1_ n2_ n3_
          (try clear hb)
          refine hK.out _ _ ⟨(blk_cell BK6.out 0).trans rfl, (blk_cell BK6.out 1).trans rfl, (blk_cell BK6.out 2).trans rfl, (blk_cell BK6.out 3).trans rfl, (blk_cell BK6.out 4).trans rfl, (blk_cell BK6.out 5).trans rfl, (blk_cell BK6.out 6).trans rfl, (blk_cell BK6.out 7).trans rfl, (blk_cell BK6.out 8).trans rfl, (blk_cell BK9.out 0).trans rfl⟩ (fun hHeld => ?_)
          clear hK K
          refine norm_ (a' := ?_) ?_ ?_
          rotate_left
          ·show Act.put _ (some 57) _ = _
           simp only [Act.put, List.setIfInBounds_toArray, List.set_cons_zero, List.set_cons_succ, i64_w, i32_w]
           rfl
          exact norm_ (by first | (simp only [putAll, Act.put, List.setIfInBounds_toArray, List.set_cons_zero, List.set_cons_succ]; done) | (simp only [putAll, Act.put, List.setIfInBounds_toArray, List.set_cons_zero, List.set_cons_succ]; rfl)) (hJ3_7_11_19 () _ ⟨hHeld, BK2, BK6, BK9, HB⟩)
         ·skip
          refine box_step ?hg (N := 11) ?hd (cs := #[.int .i64 0, .int .i64 0, .int .i64 0, .int .i64 0, .int .i64 0, .string ⟨#[]⟩, .string ⟨#[]⟩, .int .i64 0, .int .i64 0, .string ⟨#[]⟩]) (t := 25) ?hr ?_
          (case hd => rfl)
          (case hg => rfl)
          (case hr => first | (go_simp; done) | (go_simp; rfl))
          intro gb11 hg w6_ hbox hb
          have nx_ := Aside0.mk hbox
          have ny_ := Aside0.mk (show w.heap.size ≤ gb11 from by rw [hg]; exact below_size (by repeat (first | (with_reducible first | exact HB.out | apply below_alloc | apply pw_below_drewN | apply below_drew1 | refine below_set ?_ GE2.out | refine below_set ?_ GE6.out | refine below_set ?_ GE9.out) | exact HB.out)))
          have x0_ := Aside0.mk (show gb2 ≠ gb11 from by rw [hg]; exact Nat.ne_of_lt (blk_lt (g := gb2) (o := .cells #[.int .i64 0, .int .i64 0, .int .i64 0, .int .i64 0, .int .i64 0, .string ⟨#[]⟩, .string ⟨#[]⟩, .int .i64 0, .int .i64 0, .string ⟨#[]⟩] 25 (0, 0)) (by first | with_reducible exact BK2.out | ((with_reducible repeat (first | refine blk_drewN ?_ _ | refine blk_drew ?_ | refine blk_alloc ?_ _)); exact BK2.out))))
          have x1_ := Aside0.mk (show gb6 ≠ gb11 from by rw [hg]; exact Nat.ne_of_lt (blk_lt (g := gb6) (o := .cells #[.string (slotV u 0), .string (slotV u 1), .string (slotV u 2), .string (slotV u 3), .string (slotV u 4), .string (slotV u 5), .string (slotV u 6), .string (slotV u 7), .string (slotV u 8)] 60 (0, 0)) (by first | with_reducible exact BK6.out | ((with_reducible repeat (first | refine blk_drewN ?_ _ | refine blk_drew ?_ | refine blk_alloc ?_ _)); exact BK6.out))))
          have x2_ := Aside0.mk (show gb9 ≠ gb11 from by rw [hg]; exact Nat.ne_of_lt (blk_lt (g := gb9) (o := .cells #[.func (.func 25) #[] #[]] 63 (0, 0)) (by first | with_reducible exact BK9.out | ((with_reducible repeat (first | refine blk_drewN ?_ _ | refine blk_drew ?_ | refine blk_alloc ?_ _)); exact BK9.out))))
          have n0_ := Aside0.mk (blk_below (g := gb2) (o := .cells #[.int .i64 0, .int .i64 0, .int .i64 0, .int .i64 0, .int .i64 0, .string ⟨#[]⟩, .string ⟨#[]⟩, .int .i64 0, .int .i64 0, .string ⟨#[]⟩] 25 (0, 0)) (by first | with_reducible exact BK2.out | ((with_reducible repeat (first | refine blk_drewN ?_ _ | refine blk_drew ?_ | refine blk_alloc ?_ _)); exact BK2.out)) hb)
          have n1_ := Aside0.mk (blk_below (g := gb6) (o := .cells #[.string (slotV u 0), .string (slotV u 1), .string (slotV u 2), .string (slotV u 3), .string (slotV u 4), .string (slotV u 5), .string (slotV u 6), .string (slotV u 7), .string (slotV u 8)] 60 (0, 0)) (by first | with_reducible exact BK6.out | ((with_reducible repeat (first | refine blk_drewN ?_ _ | refine blk_drew ?_ | refine blk_alloc ?_ _)); exact BK6.out)) hb)
          have n2_ := Aside0.mk (blk_below (g := gb9) (o := .cells #[.func (.func 25) #[] #[]] 63 (0, 0)) (by first | with_reducible exact BK9.out | ((with_reducible repeat (first | refine blk_drewN ?_ _ | refine blk_drew ?_ | refine blk_alloc ?_ _)); exact BK9.out)) hb)
          have n3_ := Aside0.mk (below_step (by repeat (first | (with_reducible first | exact HB.out | apply below_alloc | apply pw_below_drewN | apply below_drew1 | refine below_set ?_ GE2.out | refine below_set ?_ GE6.out | refine below_set ?_ GE9.out) | exact HB.out)) hb)
          clear BK2 BK6 BK9 HB
          have BK2 := n0_
          have BK6 := n1_
          have BK9 := n2_
          have HB := n3_
          clear n0_ n1_ n2_ n3_
          have BK11 := nx_
          have GE11 := ny_
          have NB2_11 := x0_
          have NB11_2 := Aside0.mk (Ne.symm x0_.out)
          have hn2_11 := x0_.out
          have hn11_2 := Ne.symm x0_.out
          have NB6_11 := x1_
          have NB11_6 := Aside0.mk (Ne.symm x1_.out)
          have hn6_11 := x1_.out
          have hn11_6 := Ne.symm x1_.out
          have NB9_11 := x2_
          have NB11_9 := Aside0.mk (Ne.symm x2_.out)
          have hn9_11 := x2_.out
          have hn11_9 := Ne.symm x2_.out
          clear hb hbox hg nx_ ny_ x0_ x1_ x2_
          refine hK.out _ _ ⟨(blk_cell BK6.out 0).trans rfl, (blk_cell BK6.out 1).trans rfl, (blk_cell BK6.out 2).trans rfl, (blk_cell BK6.out 3).trans rfl, (blk_cell BK6.out 4).trans rfl, (blk_cell BK6.out 5).trans rfl, (blk_cell BK6.out 6).trans rfl, (blk_cell BK6.out 7).trans rfl, (blk_cell BK6.out 8).trans rfl, (blk_cell BK9.out 0).trans rfl⟩ (fun hHeld => ?_)
          clear hK K
          refine norm_ (a' := ?_) ?_ ?_
          rotate_left
          ·show Act.put _ (some 11) _ = _
           simp only [Act.put, List.setIfInBounds_toArray, List.set_cons_zero, List.set_cons_succ, i64_w, i32_w]
           rfl
          exact norm_ (by first | (simp only [putAll, Act.put, List.setIfInBounds_toArray, List.set_cons_zero, List.set_cons_succ]; done) | (simp only [putAll, Act.put, List.setIfInBounds_toArray, List.set_cons_zero, List.set_cons_succ]; rfl)) (hJ3_7_11_27 gb11 _ ⟨hHeld, BK2, BK6, BK9, BK11, GE11, NB2_11, NB11_2, NB6_11, NB11_6, NB9_11, NB11_9, HB⟩)
       ·skip
        rintro gb11 w' ⟨hHeld, BK2, BK6, BK9, BK11, GE11, NB2_11, NB11_2, NB6_11, NB11_6, NB9_11, NB11_9, HB⟩
        have hn2_11 := NB2_11.out
        have hn11_2 := NB11_2.out
        have hn6_11 := NB6_11.out
        have hn11_6 := NB11_6.out
        have hn9_11 := NB9_11.out
        have hn11_9 := NB11_9.out
        refine norm_ (a' := ?_) ?_ ?_
        rotate_left
        ·simp only [putAll, Act.put, List.setIfInBounds_toArray, List.set_cons_zero, List.set_cons_succ]
         rfl
        refine one_ (i := 19) (N := some 57) #[true, true, true, true, true, true, true, true, true, true, true, true, true, true, true, true, true, true, true, true, true, true, true, false, true, true, false, true, false] rfl rfl (one_of HT_.out (by kernel_rfl)) (by decide) (fun K hK => ?_)
        refine goesV_ Try.func25 (by kernel_rfl) rfl #[] #[.string (slotV u 6)] #[.string (slotV u 6)] (by rfl) rfl rfl (by rfl) (by (try simp only [List.map_toArray, List.map_cons, List.map_nil]); first | done | rfl) (by rfl) ?_
        refine (askNumber_calls k (slotV u 6) d ed _ H6.out).mono ?_
        rintro e w919_ ⟨rfl, hd⟩
        refine ⟨_, rfl, ?_⟩
        have hb := hd.below
        clear hd
        have n0_ := Aside0.mk (blk_below (g := gb2) (o := .cells #[.int .i64 0, .int .i64 0, .int .i64 0, .int .i64 0, .int .i64 0, .string ⟨#[]⟩, .string ⟨#[]⟩, .int .i64 0, .int .i64 0, .string ⟨#[]⟩] 25 (0, 0)) (by first | with_reducible exact BK2.out | ((with_reducible repeat (first | refine blk_drewN ?_ _ | refine blk_drew ?_ | refine blk_alloc ?_ _)); exact BK2.out)) hb)
        have n1_ := Aside0.mk (blk_below (g := gb6) (o := .cells #[.string (slotV u 0), .string (slotV u 1), .string (slotV u 2), .string (slotV u 3), .string (slotV u 4), .string (slotV u 5), .string (slotV u 6), .string (slotV u 7), .string (slotV u 8)] 60 (0, 0)) (by first | with_reducible exact BK6.out | ((with_reducible repeat (first | refine blk_drewN ?_ _ | refine blk_drew ?_ | refine blk_alloc ?_ _)); exact BK6.out)) hb)
        have n2_ := Aside0.mk (blk_below (g := gb9) (o := .cells #[.func (.func 25) #[] #[]] 63 (0, 0)) (by first | with_reducible exact BK9.out | ((with_reducible repeat (first | refine blk_drewN ?_ _ | refine blk_drew ?_ | refine blk_alloc ?_ _)); exact BK9.out)) hb)
        have n3_ := Aside0.mk (blk_below (g := gb11) (o := .cells #[.int .i64 0, .int .i64 0, .int .i64 0, .int .i64 0, .int .i64 0, .string ⟨#[]⟩, .string ⟨#[]⟩, .int .i64 0, .int .i64 0, .string ⟨#[]⟩] 25 (0, 0)) (by first | with_reducible exact BK11.out | ((with_reducible repeat (first | refine blk_drewN ?_ _ | refine blk_drew ?_ | refine blk_alloc ?_ _)); exact BK11.out)) hb)
        have n4_ := Aside0.mk (below_step (by repeat (first | (with_reducible first | exact HB.out | apply below_alloc | apply pw_below_drewN | apply below_drew1 | refine below_set ?_ GE2.out | refine below_set ?_ GE6.out | refine below_set ?_ GE9.out | refine below_set ?_ GE11.out) | exact HB.out)) hb)
        clear BK2 BK6 BK9 BK11 HB
        have BK2 := n0_
        have BK6 := n1_
        have BK9 := n2_
        have BK11 := n3_
        have HB := n4_
        clear n0_ n1_ n2_ n3_ n4_
        (try clear hb)
        refine hK.out _ _ ⟨(blk_cell BK6.out 0).trans rfl, (blk_cell BK6.out 1).trans rfl, (blk_cell BK6.out 2).trans rfl, (blk_cell BK6.out 3).trans rfl, (blk_cell BK6.out 4).trans rfl, (blk_cell BK6.out 5).trans rfl, (blk_cell BK6.out 6).trans rfl, (blk_cell BK6.out 7).trans rfl, (blk_cell BK6.out 8).trans rfl, (blk_cell BK9.out 0).trans rfl⟩ (fun hHeld => ?_)
        clear hK K
        refine norm_ (a' := ?_) ?_ ?_
        rotate_left
        ·show Act.put _ (some 57) _ = _
         simp only [Act.put, List.setIfInBounds_toArray, List.set_cons_zero, List.set_cons_succ, i64_w, i32_w]
         rfl
        exact norm_ (by first | (simp only [putAll, Act.put, List.setIfInBounds_toArray, List.set_cons_zero, List.set_cons_succ]; done) | (simp only [putAll, Act.put, List.setIfInBounds_toArray, List.set_cons_zero, List.set_cons_succ]; rfl)) (hJ3_7_11_19_27 gb11 _ ⟨hHeld, BK2, BK6, BK9, BK11, GE11, NB2_11, NB11_2, NB6_11, NB11_6, NB9_11, NB11_9, HB⟩)
      ·skip
       rintro ⟨⟩ w' ⟨hHeld, BK2, BK6, BK9, HB⟩
       refine norm_ (a' := ?_) ?_ ?_
       rotate_left
       ·simp only [putAll, Act.put, List.setIfInBounds_toArray, List.set_cons_zero, List.set_cons_succ]
        rfl
       refine two_ (i := 23) (j := 27) (Ni := some 61) (Nj := some 11) #[true, true, true, true, true, true, true, true, true, true, true, true, true, true, true, true, true, true, true, true, true, true, true, true, true, true, false, false, false] #[true, true, true, true, true, true, true, true, true, true, true, true, true, true, true, true, true, true, true, true, true, true, true, false, true, true, false, true, false] rfl rfl rfl rfl (two_of HT_.out (by kernel_rfl)) (by decide) (by decide) (fun K hK => ?_) (fun K hK => ?_)
       ·skip
        refine goesV_ Try.func25 (by kernel_rfl) rfl #[] #[.string (slotV u 7)] #[.string (slotV u 7)] (by rfl) rfl rfl (by rfl) (by (try simp only [List.map_toArray, List.map_cons, List.map_nil]); first | done | rfl) (by rfl) ?_
        refine (askNumber_calls k (slotV u 7) q eq _ H7.out).mono ?_
        rintro e w923_ ⟨rfl, hd⟩
        refine ⟨_, rfl, ?_⟩
        have hb := hd.below
        clear hd
        have n0_ := Aside0.mk (blk_below (g := gb2) (o := .cells #[.int .i64 0, .int .i64 0, .int .i64 0, .int .i64 0, .int .i64 0, .string ⟨#[]⟩, .string ⟨#[]⟩, .int .i64 0, .int .i64 0, .string ⟨#[]⟩] 25 (0, 0)) (by first | with_reducible exact BK2.out | ((with_reducible repeat (first | refine blk_drewN ?_ _ | refine blk_drew ?_ | refine blk_alloc ?_ _)); exact BK2.out)) hb)
        have n1_ := Aside0.mk (blk_below (g := gb6) (o := .cells #[.string (slotV u 0), .string (slotV u 1), .string (slotV u 2), .string (slotV u 3), .string (slotV u 4), .string (slotV u 5), .string (slotV u 6), .string (slotV u 7), .string (slotV u 8)] 60 (0, 0)) (by first | with_reducible exact BK6.out | ((with_reducible repeat (first | refine blk_drewN ?_ _ | refine blk_drew ?_ | refine blk_alloc ?_ _)); exact BK6.out)) hb)
        have n2_ := Aside0.mk (blk_below (g := gb9) (o := .cells #[.func (.func 25) #[] #[]] 63 (0, 0)) (by first | with_reducible exact BK9.out | ((with_reducible repeat (first | refine blk_drewN ?_ _ | refine blk_drew ?_ | refine blk_alloc ?_ _)); exact BK9.out)) hb)
        have n3_ := Aside0.mk (below_step (by repeat (first | (with_reducible first | exact HB.out | apply below_alloc | apply pw_below_drewN | apply below_drew1 | refine below_set ?_ GE2.out | refine below_set ?_ GE6.out | refine below_set ?_ GE9.out) | exact HB.out)) hb)
        clear BK2 BK6 BK9 HB
        have BK2 := n0_
        have BK6 := n1_
        have BK9 := n2_
        have HB := n3_
        clear n0_ n1_ n2_ n3_
        (try clear hb)
        refine hK.out _ _ ⟨(blk_cell BK6.out 0).trans rfl, (blk_cell BK6.out 1).trans rfl, (blk_cell BK6.out 2).trans rfl, (blk_cell BK6.out 3).trans rfl, (blk_cell BK6.out 4).trans rfl, (blk_cell BK6.out 5).trans rfl, (blk_cell BK6.out 6).trans rfl, (blk_cell BK6.out 7).trans rfl, (blk_cell BK6.out 8).trans rfl, (blk_cell BK9.out 0).trans rfl⟩ (fun hHeld => ?_)
        clear hK K
        refine norm_ (a' := ?_) ?_ ?_
        rotate_left
        ·show Act.put _ (some 61) _ = _
         simp only [Act.put, List.setIfInBounds_toArray, List.set_cons_zero, List.set_cons_succ, i64_w, i32_w]
         rfl
        refine pure_ (i := 26) (N := some 64) (v := ?_) (a' := ?_) #[true, true, true, true, true, true, true, true, true, true, true, true, true, true, true, true, true, true, true, true, true, true, true, true, true, true, true, false, false] rfl rfl (any_of HT_.out (by kernel_rfl)) (fun _ _ _ h => h) (Or.inl ⟨by rfl, ?_⟩) ?_ ?_
        rotate_left
        ·intro w'
         go_simp
         with_reducible rfl
        rotate_left
        ·simp only [Act.put, List.setIfInBounds_toArray, List.set_cons_zero, List.set_cons_succ, i64_w, i32_w]
         rfl
        exact norm_ (by first | (simp only [putAll, Act.put, List.setIfInBounds_toArray, List.set_cons_zero, List.set_cons_succ]; done) | (simp only [putAll, Act.put, List.setIfInBounds_toArray, List.set_cons_zero, List.set_cons_succ]; rfl)) (hJ3_7_11_19_23 () _ ⟨hHeld, BK2, BK6, BK9, HB⟩)
       ·skip
        refine box_step ?hg (N := 11) ?hd (cs := #[.int .i64 0, .int .i64 0, .int .i64 0, .int .i64 0, .int .i64 0, .string ⟨#[]⟩, .string ⟨#[]⟩, .int .i64 0, .int .i64 0, .string ⟨#[]⟩]) (t := 25) ?hr ?_
        (case hd => rfl)
        (case hg => rfl)
        (case hr => first | (go_simp; done) | (go_simp; rfl))
        intro gb11 hg w6_ hbox hb
        have nx_ := Aside0.mk hbox
        have ny_ := Aside0.mk (show w.heap.size ≤ gb11 from by rw [hg]; exact below_size (by repeat (first | (with_reducible first | exact HB.out | apply below_alloc | apply pw_below_drewN | apply below_drew1 | refine below_set ?_ GE2.out | refine below_set ?_ GE6.out | refine below_set ?_ GE9.out) | exact HB.out)))
        have x0_ := Aside0.mk (show gb2 ≠ gb11 from by rw [hg]; exact Nat.ne_of_lt (blk_lt (g := gb2) (o := .cells #[.int .i64 0, .int .i64 0, .int .i64 0, .int .i64 0, .int .i64 0, .string ⟨#[]⟩, .string ⟨#[]⟩, .int .i64 0, .int .i64 0, .string ⟨#[]⟩] 25 (0, 0)) (by first | with_reducible exact BK2.out | ((with_reducible repeat (first | refine blk_drewN ?_ _ | refine blk_drew ?_ | refine blk_alloc ?_ _)); exact BK2.out))))
        have x1_ := Aside0.mk (show gb6 ≠ gb11 from by rw [hg]; exact Nat.ne_of_lt (blk_lt (g := gb6) (o := .cells #[.string (slotV u 0), .string (slotV u 1), .string (slotV u 2), .string (slotV u 3), .string (slotV u 4), .string (slotV u 5), .string (slotV u 6), .string (slotV u 7), .string (slotV u 8)] 60 (0, 0)) (by first | with_reducible exact BK6.out | ((with_reducible repeat (first | refine blk_drewN ?_ _ | refine blk_drew ?_ | refine blk_alloc ?_ _)); exact BK6.out))))
        have x2_ := Aside0.mk (show gb9 ≠ gb11 from by rw [hg]; exact Nat.ne_of_lt (blk_lt (g := gb9) (o := .cells #[.func (.func 25) #[] #[]] 63 (0, 0)) (by first | with_reducible exact BK9.out | ((with_reducible repeat (first | refine blk_drewN ?_ _ | refine blk_drew ?_ | refine blk_alloc ?_ _)); exact BK9.out))))
        have n0_ := Aside0.mk (blk_below (g := gb2) (o := .cells #[.int .i64 0, .int .i64 0, .int .i64 0, .int .i64 0, .int .i64 0, .string ⟨#[]⟩, .string ⟨#[]⟩, .int .i64 0, .int .i64 0, .string ⟨#[]⟩] 25 (0, 0)) (by first | with_reducible exact BK2.out | ((with_reducible repeat (first | refine blk_drewN ?_ _ | refine blk_drew ?_ | refine blk_alloc ?_ _)); exact BK2.out)) hb)
        have n1_ := Aside0.mk (blk_below (g := gb6) (o := .cells #[.string (slotV u 0), .string (slotV u 1), .string (slotV u 2), .string (slotV u 3), .string (slotV u 4), .string (slotV u 5), .string (slotV u 6), .string (slotV u 7), .string (slotV u 8)] 60 (0, 0)) (by first | with_reducible exact BK6.out | ((with_reducible repeat (first | refine blk_drewN ?_ _ | refine blk_drew ?_ | refine blk_alloc ?_ _)); exact BK6.out)) hb)
        have n2_ := Aside0.mk (blk_below (g := gb9) (o := .cells #[.func (.func 25) #[] #[]] 63 (0, 0)) (by first | with_reducible exact BK9.out | ((with_reducible repeat (first | refine blk_drewN ?_ _ | refine blk_drew ?_ | refine blk_alloc ?_ _)); exact BK9.out)) hb)
        have n3_ := Aside0.mk (below_step (by repeat (first | (with_reducible first | exact HB.out | apply below_alloc | apply pw_below_drewN | apply below_drew1 | refine below_set ?_ GE2.out | refine below_set ?_ GE6.out | refine below_set ?_ GE9.out) | exact HB.out)) hb)
        clear BK2 BK6 BK9 HB
        have BK2 := n0_
        have BK6 := n1_
        have BK9 := n2_
        have HB := n3_
        clear n0_ n1_ n2_ n3_
        have BK11 := nx_
        have GE11 := ny_
        have NB2_11 := x0_
        have NB11_2 := Aside0.mk (Ne.symm x0_.out)
        have hn2_11 := x0_.out
        have hn11_2 := Ne.symm x0_.out
        have NB6_11 := x1_
        have NB11_6 := Aside0.mk (Ne.symm x1_.out)
        have hn6_11 := x1_.out
        have hn11_6 := Ne.symm x1_.out
        have NB9_11 := x2_
        have NB11_9 := Aside0.mk (Ne.symm x2_.out)
        have hn9_11 := x2_.out
        have hn11_9 := Ne.symm x2_.out
        clear hb hbox hg nx_ ny_ x0_ x1_ x2_
        refine hK.out _ _ ⟨(blk_cell BK6.out 0).trans rfl, (blk_cell BK6.out 1).trans rfl, (blk_cell BK6.out 2).trans rfl, (blk_cell BK6.out 3).trans rfl, (blk_cell BK6.out 4).trans rfl, (blk_cell BK6.out 5).trans rfl, (blk_cell BK6.out 6).trans rfl, (blk_cell BK6.out 7).trans rfl, (blk_cell BK6.out 8).trans rfl, (blk_cell BK9.out 0).trans rfl⟩ (fun hHeld => ?_)
        clear hK K
        refine norm_ (a' := ?_) ?_ ?_
        rotate_left
        ·show Act.put _ (some 11) _ = _
         simp only [Act.put, List.setIfInBounds_toArray, List.set_cons_zero, List.set_cons_succ, i64_w, i32_w]
         rfl
        exact norm_ (by first | (simp only [putAll, Act.put, List.setIfInBounds_toArray, List.set_cons_zero, List.set_cons_succ]; done) | (simp only [putAll, Act.put, List.setIfInBounds_toArray, List.set_cons_zero, List.set_cons_succ]; rfl)) (hJ3_7_11_19_27 gb11 _ ⟨hHeld, BK2, BK6, BK9, BK11, GE11, NB2_11, NB11_2, NB6_11, NB11_6, NB9_11, NB11_9, HB⟩)
     ·skip
      rintro gb11 w' ⟨hHeld, BK2, BK6, BK9, BK11, GE11, NB2_11, NB11_2, NB6_11, NB11_6, NB9_11, NB11_9, HB⟩
      have hn2_11 := NB2_11.out
      have hn11_2 := NB11_2.out
      have hn6_11 := NB6_11.out
      have hn11_6 := NB11_6.out
      have hn9_11 := NB9_11.out
      have hn11_9 := NB11_9.out
      refine norm_ (a' := ?_) ?_ ?_
      rotate_left
      ·simp only [putAll, Act.put, List.setIfInBounds_toArray, List.set_cons_zero, List.set_cons_succ]
       rfl
      refine one_ (i := 23) (N := some 61) #[true, true, true, true, true, true, true, true, true, true, true, true, true, true, true, true, true, true, true, true, true, true, true, true, true, true, false, true, false] rfl rfl (one_of HT_.out (by kernel_rfl)) (by decide) (fun K hK => ?_)
      refine goesV_ Try.func25 (by kernel_rfl) rfl #[] #[.string (slotV u 7)] #[.string (slotV u 7)] (by rfl) rfl rfl (by rfl) (by (try simp only [List.map_toArray, List.map_cons, List.map_nil]); first | done | rfl) (by rfl) ?_
      refine (askNumber_calls k (slotV u 7) q eq _ H7.out).mono ?_
      rintro e w923_ ⟨rfl, hd⟩
      refine ⟨_, rfl, ?_⟩
      have hb := hd.below
      clear hd
      have n0_ := Aside0.mk (blk_below (g := gb2) (o := .cells #[.int .i64 0, .int .i64 0, .int .i64 0, .int .i64 0, .int .i64 0, .string ⟨#[]⟩, .string ⟨#[]⟩, .int .i64 0, .int .i64 0, .string ⟨#[]⟩] 25 (0, 0)) (by first | with_reducible exact BK2.out | ((with_reducible repeat (first | refine blk_drewN ?_ _ | refine blk_drew ?_ | refine blk_alloc ?_ _)); exact BK2.out)) hb)
      have n1_ := Aside0.mk (blk_below (g := gb6) (o := .cells #[.string (slotV u 0), .string (slotV u 1), .string (slotV u 2), .string (slotV u 3), .string (slotV u 4), .string (slotV u 5), .string (slotV u 6), .string (slotV u 7), .string (slotV u 8)] 60 (0, 0)) (by first | with_reducible exact BK6.out | ((with_reducible repeat (first | refine blk_drewN ?_ _ | refine blk_drew ?_ | refine blk_alloc ?_ _)); exact BK6.out)) hb)
      have n2_ := Aside0.mk (blk_below (g := gb9) (o := .cells #[.func (.func 25) #[] #[]] 63 (0, 0)) (by first | with_reducible exact BK9.out | ((with_reducible repeat (first | refine blk_drewN ?_ _ | refine blk_drew ?_ | refine blk_alloc ?_ _)); exact BK9.out)) hb)
      have n3_ := Aside0.mk (blk_below (g := gb11) (o := .cells #[.int .i64 0, .int .i64 0, .int .i64 0, .int .i64 0, .int .i64 0, .string ⟨#[]⟩, .string ⟨#[]⟩, .int .i64 0, .int .i64 0, .string ⟨#[]⟩] 25 (0, 0)) (by first | with_reducible exact BK11.out | ((with_reducible repeat (first | refine blk_drewN ?_ _ | refine blk_drew ?_ | refine blk_alloc ?_ _)); exact BK11.out)) hb)
      have n4_ := Aside0.mk (below_step (by repeat (first | (with_reducible first | exact HB.out | apply below_alloc | apply pw_below_drewN | apply below_drew1 | refine below_set ?_ GE2.out | refine below_set ?_ GE6.out | refine below_set ?_ GE9.out | refine below_set ?_ GE11.out) | exact HB.out)) hb)
      clear BK2 BK6 BK9 BK11 HB
      have BK2 := n0_
      have BK6 := n1_
      have BK9 := n2_
      have BK11 := n3_
      have HB := n4_
      clear n0_ n1_ n2_ n3_ n4_
      (try clear hb)
      refine hK.out _ _ ⟨(blk_cell BK6.out 0).trans rfl, (blk_cell BK6.out 1).trans rfl, (blk_cell BK6.out 2).trans rfl, (blk_cell BK6.out 3).trans rfl, (blk_cell BK6.out 4).trans rfl, (blk_cell BK6.out 5).trans rfl, (blk_cell BK6.out 6).trans rfl, (blk_cell BK6.out 7).trans rfl, (blk_cell BK6.out 8).trans rfl, (blk_cell BK9.out 0).trans rfl⟩ (fun hHeld => ?_)
      clear hK K
      refine norm_ (a' := ?_) ?_ ?_
      rotate_left
      ·show Act.put _ (some 61) _ = _
       simp only [Act.put, List.setIfInBounds_toArray, List.set_cons_zero, List.set_cons_succ, i64_w, i32_w]
       rfl
      refine pure_ (i := 26) (N := some 64) (v := ?_) (a' := ?_) #[true, true, true, true, true, true, true, true, true, true, true, true, true, true, true, true, true, true, true, true, true, true, true, true, true, true, true, true, false] rfl rfl (any_of HT_.out (by kernel_rfl)) (fun _ _ _ h => h) (Or.inl ⟨by rfl, ?_⟩) ?_ ?_
      rotate_left
      ·intro w'
       go_simp
       with_reducible rfl
      rotate_left
      ·simp only [Act.put, List.setIfInBounds_toArray, List.set_cons_zero, List.set_cons_succ, i64_w, i32_w]
       rfl
      exact norm_ (by first | (simp only [putAll, Act.put, List.setIfInBounds_toArray, List.set_cons_zero, List.set_cons_succ]; done) | (simp only [putAll, Act.put, List.setIfInBounds_toArray, List.set_cons_zero, List.set_cons_succ]; rfl)) (hJ3_7_11_19_23_27 gb11 _ ⟨hHeld, BK2, BK6, BK9, BK11, GE11, NB2_11, NB11_2, NB6_11, NB11_6, NB9_11, NB11_9, HB⟩)
    ·skip
     rintro ⟨⟩ w' ⟨hHeld, BK2, BK6, BK9, HB⟩
     refine norm_ (a' := ?_) ?_ ?_
     rotate_left
     ·simp only [putAll, Act.put, List.setIfInBounds_toArray, List.set_cons_zero, List.set_cons_succ]
      rfl
     refine one_ (i := 27) (N := some 11) #[true, true, true, true, true, true, true, true, true, true, true, true, true, true, true, true, true, true, true, true, true, true, true, true, true, true, true, true, false] rfl rfl (one_of HT_.out (by kernel_rfl)) (by decide) (fun K hK => ?_)
     refine box_step ?hg (N := 11) ?hd (cs := #[.int .i64 0, .int .i64 0, .int .i64 0, .int .i64 0, .int .i64 0, .string ⟨#[]⟩, .string ⟨#[]⟩, .int .i64 0, .int .i64 0, .string ⟨#[]⟩]) (t := 25) ?hr ?_
     (case hd => rfl)
     (case hg => rfl)
     (case hr => first | (go_simp; done) | (go_simp; rfl))
     intro gb11 hg w6_ hbox hb
     have nx_ := Aside0.mk hbox
     have ny_ := Aside0.mk (show w.heap.size ≤ gb11 from by rw [hg]; exact below_size (by repeat (first | (with_reducible first | exact HB.out | apply below_alloc | apply pw_below_drewN | apply below_drew1 | refine below_set ?_ GE2.out | refine below_set ?_ GE6.out | refine below_set ?_ GE9.out) | exact HB.out)))
     have x0_ := Aside0.mk (show gb2 ≠ gb11 from by rw [hg]; exact Nat.ne_of_lt (blk_lt (g := gb2) (o := .cells #[.int .i64 0, .int .i64 0, .int .i64 0, .int .i64 0, .int .i64 0, .string ⟨#[]⟩, .string ⟨#[]⟩, .int .i64 0, .int .i64 0, .string ⟨#[]⟩] 25 (0, 0)) (by first | with_reducible exact BK2.out | ((with_reducible repeat (first | refine blk_drewN ?_ _ | refine blk_drew ?_ | refine blk_alloc ?_ _)); exact BK2.out))))
     have x1_ := Aside0.mk (show gb6 ≠ gb11 from by rw [hg]; exact Nat.ne_of_lt (blk_lt (g := gb6) (o := .cells #[.string (slotV u 0), .string (slotV u 1), .string (slotV u 2), .string (slotV u 3), .string (slotV u 4), .string (slotV u 5), .string (slotV u 6), .string (slotV u 7), .string (slotV u 8)] 60 (0, 0)) (by first | with_reducible exact BK6.out | ((with_reducible repeat (first | refine blk_drewN ?_ _ | refine blk_drew ?_ | refine blk_alloc ?_ _)); exact BK6.out))))
     have x2_ := Aside0.mk (show gb9 ≠ gb11 from by rw [hg]; exact Nat.ne_of_lt (blk_lt (g := gb9) (o := .cells #[.func (.func 25) #[] #[]] 63 (0, 0)) (by first | with_reducible exact BK9.out | ((with_reducible repeat (first | refine blk_drewN ?_ _ | refine blk_drew ?_ | refine blk_alloc ?_ _)); exact BK9.out))))
     have n0_ := Aside0.mk (blk_below (g := gb2) (o := .cells #[.int .i64 0, .int .i64 0, .int .i64 0, .int .i64 0, .int .i64 0, .string ⟨#[]⟩, .string ⟨#[]⟩, .int .i64 0, .int .i64 0, .string ⟨#[]⟩] 25 (0, 0)) (by first | with_reducible exact BK2.out | ((with_reducible repeat (first | refine blk_drewN ?_ _ | refine blk_drew ?_ | refine blk_alloc ?_ _)); exact BK2.out)) hb)
     have n1_ := Aside0.mk (blk_below (g := gb6) (o := .cells #[.string (slotV u 0), .string (slotV u 1), .string (slotV u 2), .string (slotV u 3), .string (slotV u 4), .string (slotV u 5), .string (slotV u 6), .string (slotV u 7), .string (slotV u 8)] 60 (0, 0)) (by first | with_reducible exact BK6.out | ((with_reducible repeat (first | refine blk_drewN ?_ _ | refine blk_drew ?_ | refine blk_alloc ?_ _)); exact BK6.out)) hb)
     have n2_ := Aside0.mk (blk_below (g := gb9) (o := .cells #[.func (.func 25) #[] #[]] 63 (0, 0)) (by first | with_reducible exact BK9.out | ((with_reducible repeat (first | refine blk_drewN ?_ _ | refine blk_drew ?_ | refine blk_alloc ?_ _)); exact BK9.out)) hb)
     have n3_ := Aside0.mk (below_step (by repeat (first | (with_reducible first | exact HB.out | apply below_alloc | apply pw_below_drewN | apply below_drew1 | refine below_set ?_ GE2.out | refine below_set ?_ GE6.out | refine below_set ?_ GE9.out) | exact HB.out)) hb)
     clear BK2 BK6 BK9 HB
     have BK2 := n0_
     have BK6 := n1_
     have BK9 := n2_
     have HB := n3_
     clear n0_ n1_ n2_ n3_
     have BK11 := nx_
     have GE11 := ny_
     have NB2_11 := x0_
     have NB11_2 := Aside0.mk (Ne.symm x0_.out)
     have hn2_11 := x0_.out
     have hn11_2 := Ne.symm x0_.out
     have NB6_11 := x1_
     have NB11_6 := Aside0.mk (Ne.symm x1_.out)
     have hn6_11 := x1_.out
     have hn11_6 := Ne.symm x1_.out
     have NB9_11 := x2_
     have NB11_9 := Aside0.mk (Ne.symm x2_.out)
     have hn9_11 := x2_.out
     have hn11_9 := Ne.symm x2_.out
     clear hb hbox hg nx_ ny_ x0_ x1_ x2_
     refine hK.out _ _ ⟨(blk_cell BK6.out 0).trans rfl, (blk_cell BK6.out 1).trans rfl, (blk_cell BK6.out 2).trans rfl, (blk_cell BK6.out 3).trans rfl, (blk_cell BK6.out 4).trans rfl, (blk_cell BK6.out 5).trans rfl, (blk_cell BK6.out 6).trans rfl, (blk_cell BK6.out 7).trans rfl, (blk_cell BK6.out 8).trans rfl, (blk_cell BK9.out 0).trans rfl⟩ (fun hHeld => ?_)
     clear hK K
     refine norm_ (a' := ?_) ?_ ?_
     rotate_left
     ·show Act.put _ (some 11) _ = _
      simp only [Act.put, List.setIfInBounds_toArray, List.set_cons_zero, List.set_cons_succ, i64_w, i32_w]
      rfl
     exact norm_ (by first | (simp only [putAll, Act.put, List.setIfInBounds_toArray, List.set_cons_zero, List.set_cons_succ]; done) | (simp only [putAll, Act.put, List.setIfInBounds_toArray, List.set_cons_zero, List.set_cons_succ]; rfl)) (hJ3_7_11_19_23_27 gb11 _ ⟨hHeld, BK2, BK6, BK9, BK11, GE11, NB2_11, NB11_2, NB6_11, NB11_6, NB9_11, NB11_9, HB⟩)
   rintro gb11 w' ⟨hHeld, BK2, BK6, BK9, BK11, GE11, NB2_11, NB11_2, NB6_11, NB11_6, NB9_11, NB11_9, HB⟩
   have hn2_11 := NB2_11.out
   have hn11_2 := NB11_2.out
   have hn6_11 := NB6_11.out
   have hn11_6 := NB11_6.out
   have hn9_11 := NB9_11.out
   have hn11_9 := NB11_9.out
   refine norm_ (a' := ?_) ?_ ?_
   rotate_left
   ·simp only [putAll, Act.put, List.setIfInBounds_toArray, List.set_cons_zero, List.set_cons_succ]
    rfl
   refine one_ (i := 28) (N := none) #[true, true, true, true, true, true, true, true, true, true, true, true, true, true, true, true, true, true, true, true, true, true, true, true, true, true, true, true, true] rfl rfl (one_of HT_.out (by kernel_rfl)) (by decide) (fun K hK => ?_)
   have hs28_0 := (blk_cell BK11.out 0).trans rfl
   have hs28_1 := (blk_cell BK11.out 1).trans rfl
   have hs28_2 := (blk_cell BK11.out 2).trans rfl
   have hs28_3 := (blk_cell BK11.out 3).trans rfl
   have hs28_4 := (blk_cell BK11.out 4).trans rfl
   have hs28_5 := (blk_cell BK11.out 5).trans rfl
   have hs28_6 := (blk_cell BK11.out 6).trans rfl
   have hs28_7 := (blk_cell BK11.out 7).trans rfl
   have hs28_8 := (blk_cell BK11.out 8).trans rfl
   have hs28_9 := (blk_cell BK11.out 9).trans rfl
   have ht28_0 := blk_frozen BK11.out 0
   have ht28_1 := blk_frozen BK11.out 1
   have ht28_2 := blk_frozen BK11.out 2
   have ht28_3 := blk_frozen BK11.out 3
   have ht28_4 := blk_frozen BK11.out 4
   have ht28_5 := blk_frozen BK11.out 5
   have ht28_6 := blk_frozen BK11.out 6
   have ht28_7 := blk_frozen BK11.out 7
   have ht28_8 := blk_frozen BK11.out 8
   have ht28_9 := blk_frozen BK11.out 9
   refine skip_ (w1 := ?_) (by rfl) rfl ?_ ?_
   rotate_left
   ·go_simp
    rfl
   refine hK.out _ _ ⟨(blk_cell (g := gb6) (cs := #[.string (slotV u 0), .string (slotV u 1), .string (slotV u 2), .string (slotV u 3), .string (slotV u 4), .string (slotV u 5), .string (slotV u 6), .string (slotV u 7), .string (slotV u 8)]) (t := 60) (by (with_reducible repeat (first | refine blk_drewN ?_ _ | refine blk_drew ?_ | refine blk_alloc ?_ _)); refine blk_far ?_ NB6_11.out _; (with_reducible repeat (first | refine blk_drewN ?_ _ | refine blk_drew ?_ | refine blk_alloc ?_ _)); refine blk_far ?_ NB6_11.out _; (with_reducible repeat (first | refine blk_drewN ?_ _ | refine blk_drew ?_ | refine blk_alloc ?_ _)); refine blk_far ?_ NB6_11.out _; (with_reducible repeat (first | refine blk_drewN ?_ _ | refine blk_drew ?_ | refine blk_alloc ?_ _)); refine blk_far ?_ NB6_11.out _; (with_reducible repeat (first | refine blk_drewN ?_ _ | refine blk_drew ?_ | refine blk_alloc ?_ _)); refine blk_far ?_ NB6_11.out _; (with_reducible repeat (first | refine blk_drewN ?_ _ | refine blk_drew ?_ | refine blk_alloc ?_ _)); refine blk_far ?_ NB6_11.out _; (with_reducible repeat (first | refine blk_drewN ?_ _ | refine blk_drew ?_ | refine blk_alloc ?_ _)); refine blk_far ?_ NB6_11.out _; (with_reducible repeat (first | refine blk_drewN ?_ _ | refine blk_drew ?_ | refine blk_alloc ?_ _)); refine blk_far ?_ NB6_11.out _; (with_reducible repeat (first | refine blk_drewN ?_ _ | refine blk_drew ?_ | refine blk_alloc ?_ _)); refine blk_far ?_ NB6_11.out _; (with_reducible repeat (first | refine blk_drewN ?_ _ | refine blk_drew ?_ | refine blk_alloc ?_ _)); refine blk_far ?_ NB6_11.out _; (with_reducible repeat (first | refine blk_drewN ?_ _ | refine blk_drew ?_ | refine blk_alloc ?_ _)); exact BK6.out) 0).trans rfl, (blk_cell (g := gb6) (cs := #[.string (slotV u 0), .string (slotV u 1), .string (slotV u 2), .string (slotV u 3), .string (slotV u 4), .string (slotV u 5), .string (slotV u 6), .string (slotV u 7), .string (slotV u 8)]) (t := 60) (by (with_reducible repeat (first | refine blk_drewN ?_ _ | refine blk_drew ?_ | refine blk_alloc ?_ _)); refine blk_far ?_ NB6_11.out _; (with_reducible repeat (first | refine blk_drewN ?_ _ | refine blk_drew ?_ | refine blk_alloc ?_ _)); refine blk_far ?_ NB6_11.out _; (with_reducible repeat (first | refine blk_drewN ?_ _ | refine blk_drew ?_ | refine blk_alloc ?_ _)); refine blk_far ?_ NB6_11.out _; (with_reducible repeat (first | refine blk_drewN ?_ _ | refine blk_drew ?_ | refine blk_alloc ?_ _)); refine blk_far ?_ NB6_11.out _; (with_reducible repeat (first | refine blk_drewN ?_ _ | refine blk_drew ?_ | refine blk_alloc ?_ _)); refine blk_far ?_ NB6_11.out _; (with_reducible repeat (first | refine blk_drewN ?_ _ | refine blk_drew ?_ | refine blk_alloc ?_ _)); refine blk_far ?_ NB6_11.out _; (with_reducible repeat (first | refine blk_drewN ?_ _ | refine blk_drew ?_ | refine blk_alloc ?_ _)); refine blk_far ?_ NB6_11.out _; (with_reducible repeat (first | refine blk_drewN ?_ _ | refine blk_drew ?_ | refine blk_alloc ?_ _)); refine blk_far ?_ NB6_11.out _; (with_reducible repeat (first | refine blk_drewN ?_ _ | refine blk_drew ?_ | refine blk_alloc ?_ _)); refine blk_far ?_ NB6_11.out _; (with_reducible repeat (first | refine blk_drewN ?_ _ | refine blk_drew ?_ | refine blk_alloc ?_ _)); refine blk_far ?_ NB6_11.out _; (with_reducible repeat (first | refine blk_drewN ?_ _ | refine blk_drew ?_ | refine blk_alloc ?_ _)); exact BK6.out) 1).trans rfl, (blk_cell (g := gb6) (cs := #[.string (slotV u 0), .string (slotV u 1), .string (slotV u 2), .string (slotV u 3), .string (slotV u 4), .string (slotV u 5), .string (slotV u 6), .string (slotV u 7), .string (slotV u 8)]) (t := 60) (by (with_reducible repeat (first | refine blk_drewN ?_ _ | refine blk_drew ?_ | refine blk_alloc ?_ _)); refine blk_far ?_ NB6_11.out _; (with_reducible repeat (first | refine blk_drewN ?_ _ | refine blk_drew ?_ | refine blk_alloc ?_ _)); refine blk_far ?_ NB6_11.out _; (with_reducible repeat (first | refine blk_drewN ?_ _ | refine blk_drew ?_ | refine blk_alloc ?_ _)); refine blk_far ?_ NB6_11.out _; (with_reducible repeat (first | refine blk_drewN ?_ _ | refine blk_drew ?_ | refine blk_alloc ?_ _)); refine blk_far ?_ NB6_11.out _; (with_reducible repeat (first | refine blk_drewN ?_ _ | refine blk_drew ?_ | refine blk_alloc ?_ _)); refine blk_far ?_ NB6_11.out _; (with_reducible repeat (first | refine blk_drewN ?_ _ | refine blk_drew ?_ | refine blk_alloc ?_ _)); refine blk_far ?_ NB6_11.out _; (with_reducible repeat (first | refine blk_drewN ?_ _ | refine blk_drew ?_ | refine blk_alloc ?_ _)); refine blk_far ?_ NB6_11.out _; (with_reducible repeat (first | refine blk_drewN ?_ _ | refine blk_drew ?_ | refine blk_alloc ?_ _)); refine blk_far ?_ NB6_11.out _; (with_reducible repeat (first | refine blk_drewN ?_ _ | refine blk_drew ?_ | refine blk_alloc ?_ _)); refine blk_far ?_ NB6_11.out _; (with_reducible repeat (first | refine blk_drewN ?_ _ | refine blk_drew ?_ | refine blk_alloc ?_ _)); refine blk_far ?_ NB6_11.out _; (with_reducible repeat (first | refine blk_drewN ?_ _ | refine blk_drew ?_ | refine blk_alloc ?_ _)); exact BK6.out) 2).trans rfl, (blk_cell (g := gb6) (cs := #[.string (slotV u 0), .string (slotV u 1), .string (slotV u 2), .string (slotV u 3), .string (slotV u 4), .string (slotV u 5), .string (slotV u 6), .string (slotV u 7), .string (slotV u 8)]) (t := 60) (by (with_reducible repeat (first | refine blk_drewN ?_ _ | refine blk_drew ?_ | refine blk_alloc ?_ _)); refine blk_far ?_ NB6_11.out _; (with_reducible repeat (first | refine blk_drewN ?_ _ | refine blk_drew ?_ | refine blk_alloc ?_ _)); refine blk_far ?_ NB6_11.out _; (with_reducible repeat (first | refine blk_drewN ?_ _ | refine blk_drew ?_ | refine blk_alloc ?_ _)); refine blk_far ?_ NB6_11.out _; (with_reducible repeat (first | refine blk_drewN ?_ _ | refine blk_drew ?_ | refine blk_alloc ?_ _)); refine blk_far ?_ NB6_11.out _; (with_reducible repeat (first | refine blk_drewN ?_ _ | refine blk_drew ?_ | refine blk_alloc ?_ _)); refine blk_far ?_ NB6_11.out _; (with_reducible repeat (first | refine blk_drewN ?_ _ | refine blk_drew ?_ | refine blk_alloc ?_ _)); refine blk_far ?_ NB6_11.out _; (with_reducible repeat (first | refine blk_drewN ?_ _ | refine blk_drew ?_ | refine blk_alloc ?_ _)); refine blk_far ?_ NB6_11.out _; (with_reducible repeat (first | refine blk_drewN ?_ _ | refine blk_drew ?_ | refine blk_alloc ?_ _)); refine blk_far ?_ NB6_11.out _; (with_reducible repeat (first | refine blk_drewN ?_ _ | refine blk_drew ?_ | refine blk_alloc ?_ _)); refine blk_far ?_ NB6_11.out _; (with_reducible repeat (first | refine blk_drewN ?_ _ | refine blk_drew ?_ | refine blk_alloc ?_ _)); refine blk_far ?_ NB6_11.out _; (with_reducible repeat (first | refine blk_drewN ?_ _ | refine blk_drew ?_ | refine blk_alloc ?_ _)); exact BK6.out) 3).trans rfl, (blk_cell (g := gb6) (cs := #[.string (slotV u 0), .string (slotV u 1), .string (slotV u 2), .string (slotV u 3), .string (slotV u 4), .string (slotV u 5), .string (slotV u 6), .string (slotV u 7), .string (slotV u 8)]) (t := 60) (by (with_reducible repeat (first | refine blk_drewN ?_ _ | refine blk_drew ?_ | refine blk_alloc ?_ _)); refine blk_far ?_ NB6_11.out _; (with_reducible repeat (first | refine blk_drewN ?_ _ | refine blk_drew ?_ | refine blk_alloc ?_ _)); refine blk_far ?_ NB6_11.out _; (with_reducible repeat (first | refine blk_drewN ?_ _ | refine blk_drew ?_ | refine blk_alloc ?_ _)); refine blk_far ?_ NB6_11.out _; (with_reducible repeat (first | refine blk_drewN ?_ _ | refine blk_drew ?_ | refine blk_alloc ?_ _)); refine blk_far ?_ NB6_11.out _; (with_reducible repeat (first | refine blk_drewN ?_ _ | refine blk_drew ?_ | refine blk_alloc ?_ _)); refine blk_far ?_ NB6_11.out _; (with_reducible repeat (first | refine blk_drewN ?_ _ | refine blk_drew ?_ | refine blk_alloc ?_ _)); refine blk_far ?_ NB6_11.out _; (with_reducible repeat (first | refine blk_drewN ?_ _ | refine blk_drew ?_ | refine blk_alloc ?_ _)); refine blk_far ?_ NB6_11.out _; (with_reducible repeat (first | refine blk_drewN ?_ _ | refine blk_drew ?_ | refine blk_alloc ?_ _)); refine blk_far ?_ NB6_11.out _; (with_reducible repeat (first | refine blk_drewN ?_ _ | refine blk_drew ?_ | refine blk_alloc ?_ _)); refine blk_far ?_ NB6_11.out _; (with_reducible repeat (first | refine blk_drewN ?_ _ | refine blk_drew ?_ | refine blk_alloc ?_ _)); refine blk_far ?_ NB6_11.out _; (with_reducible repeat (first | refine blk_drewN ?_ _ | refine blk_drew ?_ | refine blk_alloc ?_ _)); exact BK6.out) 4).trans rfl, (blk_cell (g := gb6) (cs := #[.string (slotV u 0), .string (slotV u 1), .string (slotV u 2), .string (slotV u 3), .string (slotV u 4), .string (slotV u 5), .string (slotV u 6), .string (slotV u 7), .string (slotV u 8)]) (t := 60) (by (with_reducible repeat (first | refine blk_drewN ?_ _ | refine blk_drew ?_ | refine blk_alloc ?_ _)); refine blk_far ?_ NB6_11.out _; (with_reducible repeat (first | refine blk_drewN ?_ _ | refine blk_drew ?_ | refine blk_alloc ?_ _)); refine blk_far ?_ NB6_11.out _; (with_reducible repeat (first | refine blk_drewN ?_ _ | refine blk_drew ?_ | refine blk_alloc ?_ _)); refine blk_far ?_ NB6_11.out _; (with_reducible repeat (first | refine blk_drewN ?_ _ | refine blk_drew ?_ | refine blk_alloc ?_ _)); refine blk_far ?_ NB6_11.out _; (with_reducible repeat (first | refine blk_drewN ?_ _ | refine blk_drew ?_ | refine blk_alloc ?_ _)); refine blk_far ?_ NB6_11.out _; (with_reducible repeat (first | refine blk_drewN ?_ _ | refine blk_drew ?_ | refine blk_alloc ?_ _)); refine blk_far ?_ NB6_11.out _; (with_reducible repeat (first | refine blk_drewN ?_ _ | refine blk_drew ?_ | refine blk_alloc ?_ _)); refine blk_far ?_ NB6_11.out _; (with_reducible repeat (first | refine blk_drewN ?_ _ | refine blk_drew ?_ | refine blk_alloc ?_ _)); refine blk_far ?_ NB6_11.out _; (with_reducible repeat (first | refine blk_drewN ?_ _ | refine blk_drew ?_ | refine blk_alloc ?_ _)); refine blk_far ?_ NB6_11.out _; (with_reducible repeat (first | refine blk_drewN ?_ _ | refine blk_drew ?_ | refine blk_alloc ?_ _)); refine blk_far ?_ NB6_11.out _; (with_reducible repeat (first | refine blk_drewN ?_ _ | refine blk_drew ?_ | refine blk_alloc ?_ _)); exact BK6.out) 5).trans rfl, (blk_cell (g := gb6) (cs := #[.string (slotV u 0), .string (slotV u 1), .string (slotV u 2), .string (slotV u 3), .string (slotV u 4), .string (slotV u 5), .string (slotV u 6), .string (slotV u 7), .string (slotV u 8)]) (t := 60) (by (with_reducible repeat (first | refine blk_drewN ?_ _ | refine blk_drew ?_ | refine blk_alloc ?_ _)); refine blk_far ?_ NB6_11.out _; (with_reducible repeat (first | refine blk_drewN ?_ _ | refine blk_drew ?_ | refine blk_alloc ?_ _)); refine blk_far ?_ NB6_11.out _; (with_reducible repeat (first | refine blk_drewN ?_ _ | refine blk_drew ?_ | refine blk_alloc ?_ _)); refine blk_far ?_ NB6_11.out _; (with_reducible repeat (first | refine blk_drewN ?_ _ | refine blk_drew ?_ | refine blk_alloc ?_ _)); refine blk_far ?_ NB6_11.out _; (with_reducible repeat (first | refine blk_drewN ?_ _ | refine blk_drew ?_ | refine blk_alloc ?_ _)); refine blk_far ?_ NB6_11.out _; (with_reducible repeat (first | refine blk_drewN ?_ _ | refine blk_drew ?_ | refine blk_alloc ?_ _)); refine blk_far ?_ NB6_11.out _; (with_reducible repeat (first | refine blk_drewN ?_ _ | refine blk_drew ?_ | refine blk_alloc ?_ _)); refine blk_far ?_ NB6_11.out _; (with_reducible repeat (first | refine blk_drewN ?_ _ | refine blk_drew ?_ | refine blk_alloc ?_ _)); refine blk_far ?_ NB6_11.out _; (with_reducible repeat (first | refine blk_drewN ?_ _ | refine blk_drew ?_ | refine blk_alloc ?_ _)); refine blk_far ?_ NB6_11.out _; (with_reducible repeat (first | refine blk_drewN ?_ _ | refine blk_drew ?_ | refine blk_alloc ?_ _)); refine blk_far ?_ NB6_11.out _; (with_reducible repeat (first | refine blk_drewN ?_ _ | refine blk_drew ?_ | refine blk_alloc ?_ _)); exact BK6.out) 6).trans rfl, (blk_cell (g := gb6) (cs := #[.string (slotV u 0), .string (slotV u 1), .string (slotV u 2), .string (slotV u 3), .string (slotV u 4), .string (slotV u 5), .string (slotV u 6), .string (slotV u 7), .string (slotV u 8)]) (t := 60) (by (with_reducible repeat (first | refine blk_drewN ?_ _ | refine blk_drew ?_ | refine blk_alloc ?_ _)); refine blk_far ?_ NB6_11.out _; (with_reducible repeat (first | refine blk_drewN ?_ _ | refine blk_drew ?_ | refine blk_alloc ?_ _)); refine blk_far ?_ NB6_11.out _; (with_reducible repeat (first | refine blk_drewN ?_ _ | refine blk_drew ?_ | refine blk_alloc ?_ _)); refine blk_far ?_ NB6_11.out _; (with_reducible repeat (first | refine blk_drewN ?_ _ | refine blk_drew ?_ | refine blk_alloc ?_ _)); refine blk_far ?_ NB6_11.out _; (with_reducible repeat (first | refine blk_drewN ?_ _ | refine blk_drew ?_ | refine blk_alloc ?_ _)); refine blk_far ?_ NB6_11.out _; (with_reducible repeat (first | refine blk_drewN ?_ _ | refine blk_drew ?_ | refine blk_alloc ?_ _)); refine blk_far ?_ NB6_11.out _; (with_reducible repeat (first | refine blk_drewN ?_ _ | refine blk_drew ?_ | refine blk_alloc ?_ _)); refine blk_far ?_ NB6_11.out _; (with_reducible repeat (first | refine blk_drewN ?_ _ | refine blk_drew ?_ | refine blk_alloc ?_ _)); refine blk_far ?_ NB6_11.out _; (with_reducible repeat (first | refine blk_drewN ?_ _ | refine blk_drew ?_ | refine blk_alloc ?_ _)); refine blk_far ?_ NB6_11.out _; (with_reducible repeat (first | refine blk_drewN ?_ _ | refine blk_drew ?_ | refine blk_alloc ?_ _)); refine blk_far ?_ NB6_11.out _; (with_reducible repeat (first | refine blk_drewN ?_ _ | refine blk_drew ?_ | refine blk_alloc ?_ _)); exact BK6.out) 7).trans rfl, (blk_cell (g := gb6) (cs := #[.string (slotV u 0), .string (slotV u 1), .string (slotV u 2), .string (slotV u 3), .string (slotV u 4), .string (slotV u 5), .string (slotV u 6), .string (slotV u 7), .string (slotV u 8)]) (t := 60) (by (with_reducible repeat (first | refine blk_drewN ?_ _ | refine blk_drew ?_ | refine blk_alloc ?_ _)); refine blk_far ?_ NB6_11.out _; (with_reducible repeat (first | refine blk_drewN ?_ _ | refine blk_drew ?_ | refine blk_alloc ?_ _)); refine blk_far ?_ NB6_11.out _; (with_reducible repeat (first | refine blk_drewN ?_ _ | refine blk_drew ?_ | refine blk_alloc ?_ _)); refine blk_far ?_ NB6_11.out _; (with_reducible repeat (first | refine blk_drewN ?_ _ | refine blk_drew ?_ | refine blk_alloc ?_ _)); refine blk_far ?_ NB6_11.out _; (with_reducible repeat (first | refine blk_drewN ?_ _ | refine blk_drew ?_ | refine blk_alloc ?_ _)); refine blk_far ?_ NB6_11.out _; (with_reducible repeat (first | refine blk_drewN ?_ _ | refine blk_drew ?_ | refine blk_alloc ?_ _)); refine blk_far ?_ NB6_11.out _; (with_reducible repeat (first | refine blk_drewN ?_ _ | refine blk_drew ?_ | refine blk_alloc ?_ _)); refine blk_far ?_ NB6_11.out _; (with_reducible repeat (first | refine blk_drewN ?_ _ | refine blk_drew ?_ | refine blk_alloc ?_ _)); refine blk_far ?_ NB6_11.out _; (with_reducible repeat (first | refine blk_drewN ?_ _ | refine blk_drew ?_ | refine blk_alloc ?_ _)); refine blk_far ?_ NB6_11.out _; (with_reducible repeat (first | refine blk_drewN ?_ _ | refine blk_drew ?_ | refine blk_alloc ?_ _)); refine blk_far ?_ NB6_11.out _; (with_reducible repeat (first | refine blk_drewN ?_ _ | refine blk_drew ?_ | refine blk_alloc ?_ _)); exact BK6.out) 8).trans rfl, (blk_cell (g := gb9) (cs := #[.func (.func 25) #[] #[]]) (t := 63) (by (with_reducible repeat (first | refine blk_drewN ?_ _ | refine blk_drew ?_ | refine blk_alloc ?_ _)); refine blk_far ?_ NB9_11.out _; (with_reducible repeat (first | refine blk_drewN ?_ _ | refine blk_drew ?_ | refine blk_alloc ?_ _)); refine blk_far ?_ NB9_11.out _; (with_reducible repeat (first | refine blk_drewN ?_ _ | refine blk_drew ?_ | refine blk_alloc ?_ _)); refine blk_far ?_ NB9_11.out _; (with_reducible repeat (first | refine blk_drewN ?_ _ | refine blk_drew ?_ | refine blk_alloc ?_ _)); refine blk_far ?_ NB9_11.out _; (with_reducible repeat (first | refine blk_drewN ?_ _ | refine blk_drew ?_ | refine blk_alloc ?_ _)); refine blk_far ?_ NB9_11.out _; (with_reducible repeat (first | refine blk_drewN ?_ _ | refine blk_drew ?_ | refine blk_alloc ?_ _)); refine blk_far ?_ NB9_11.out _; (with_reducible repeat (first | refine blk_drewN ?_ _ | refine blk_drew ?_ | refine blk_alloc ?_ _)); refine blk_far ?_ NB9_11.out _; (with_reducible repeat (first | refine blk_drewN ?_ _ | refine blk_drew ?_ | refine blk_alloc ?_ _)); refine blk_far ?_ NB9_11.out _; (with_reducible repeat (first | refine blk_drewN ?_ _ | refine blk_drew ?_ | refine blk_alloc ?_ _)); refine blk_far ?_ NB9_11.out _; (with_reducible repeat (first | refine blk_drewN ?_ _ | refine blk_drew ?_ | refine blk_alloc ?_ _)); refine blk_far ?_ NB9_11.out _; (with_reducible repeat (first | refine blk_drewN ?_ _ | refine blk_drew ?_ | refine blk_alloc ?_ _)); exact BK9.out) 0).trans rfl⟩ (fun hHeld => ?_)
   clear hK K
   refine done_ (done_of HT_.out (by kernel_rfl)) ?_
   clear hs28_0 ht28_0 hs28_1 ht28_1 hs28_2 ht28_2 hs28_3 ht28_3 hs28_4 ht28_4 hs28_5 ht28_5 hs28_6 ht28_6 hs28_7 ht28_7 hs28_8 ht28_8 hs28_9 ht28_9
   (try clear hn2_6 hn6_2 hn2_9 hn9_2 hn6_9 hn9_6 hn6_11 hn11_6 hn9_11 hn11_9)
   clear BK6 BK9
   clear HU HPOS H1 H2 H3 H6 H7
   have n0_ := Aside0.mk (show ((((((((((w'.setCell ⟨gb11, 0, none⟩ (.int .i64 a)).setCell ⟨gb11, 1, none⟩ (.int .i64 b1)).setCell ⟨gb11, 2, none⟩ (.int .i64 b2)).setCell ⟨gb11, 3, none⟩ (.int .i64 c1)).setCell ⟨gb11, 4, none⟩ (.int .i64 c2)).setCell ⟨gb11, 5, none⟩ (.string (slotV u 4))).setCell ⟨gb11, 6, none⟩ (.string (slotV u 5))).setCell ⟨gb11, 7, none⟩ (.int .i64 d)).setCell ⟨gb11, 8, none⟩ (.int .i64 q)).setCell ⟨gb11, 9, none⟩ (.string (slotV u 8))).heap[gb2]? = some (.cells #[.int .i64 0, .int .i64 0, .int .i64 0, .int .i64 0, .int .i64 0, .string ⟨#[]⟩, .string ⟨#[]⟩, .int .i64 0, .int .i64 0, .string ⟨#[]⟩] 25 (0, 0)) from (by (with_reducible repeat (first | refine blk_drewN ?_ _ | refine blk_drew ?_ | refine blk_alloc ?_ _)); refine blk_far ?_ NB2_11.out _; (with_reducible repeat (first | refine blk_drewN ?_ _ | refine blk_drew ?_ | refine blk_alloc ?_ _)); refine blk_far ?_ NB2_11.out _; (with_reducible repeat (first | refine blk_drewN ?_ _ | refine blk_drew ?_ | refine blk_alloc ?_ _)); refine blk_far ?_ NB2_11.out _; (with_reducible repeat (first | refine blk_drewN ?_ _ | refine blk_drew ?_ | refine blk_alloc ?_ _)); refine blk_far ?_ NB2_11.out _; (with_reducible repeat (first | refine blk_drewN ?_ _ | refine blk_drew ?_ | refine blk_alloc ?_ _)); refine blk_far ?_ NB2_11.out _; (with_reducible repeat (first | refine blk_drewN ?_ _ | refine blk_drew ?_ | refine blk_alloc ?_ _)); refine blk_far ?_ NB2_11.out _; (with_reducible repeat (first | refine blk_drewN ?_ _ | refine blk_drew ?_ | refine blk_alloc ?_ _)); refine blk_far ?_ NB2_11.out _; (with_reducible repeat (first | refine blk_drewN ?_ _ | refine blk_drew ?_ | refine blk_alloc ?_ _)); refine blk_far ?_ NB2_11.out _; (with_reducible repeat (first | refine blk_drewN ?_ _ | refine blk_drew ?_ | refine blk_alloc ?_ _)); refine blk_far ?_ NB2_11.out _; (with_reducible repeat (first | refine blk_drewN ?_ _ | refine blk_drew ?_ | refine blk_alloc ?_ _)); refine blk_far ?_ NB2_11.out _; (with_reducible repeat (first | refine blk_drewN ?_ _ | refine blk_drew ?_ | refine blk_alloc ?_ _)); exact BK2.out))
   have n1_ := Aside0.mk (show ((((((((((w'.setCell ⟨gb11, 0, none⟩ (.int .i64 a)).setCell ⟨gb11, 1, none⟩ (.int .i64 b1)).setCell ⟨gb11, 2, none⟩ (.int .i64 b2)).setCell ⟨gb11, 3, none⟩ (.int .i64 c1)).setCell ⟨gb11, 4, none⟩ (.int .i64 c2)).setCell ⟨gb11, 5, none⟩ (.string (slotV u 4))).setCell ⟨gb11, 6, none⟩ (.string (slotV u 5))).setCell ⟨gb11, 7, none⟩ (.int .i64 d)).setCell ⟨gb11, 8, none⟩ (.int .i64 q)).setCell ⟨gb11, 9, none⟩ (.string (slotV u 8))).heap[gb11]? = some (.cells #[.int .i64 a, .int .i64 b1, .int .i64 b2, .int .i64 c1, .int .i64 c2, .string (slotV u 4), .string (slotV u 5), .int .i64 d, .int .i64 q, .string (slotV u 8)] 25 (0, 0)) from (by (with_reducible repeat (first | refine blk_drewN ?_ _ | refine blk_drew ?_ | refine blk_alloc ?_ _)); refine blk_put (cs := #[.int .i64 a, .int .i64 b1, .int .i64 b2, .int .i64 c1, .int .i64 c2, .string (slotV u 4), .string (slotV u 5), .int .i64 d, .int .i64 q, .string ⟨#[]⟩]) ?_ 9 _ rfl; (with_reducible repeat (first | refine blk_drewN ?_ _ | refine blk_drew ?_ | refine blk_alloc ?_ _)); refine blk_put (cs := #[.int .i64 a, .int .i64 b1, .int .i64 b2, .int .i64 c1, .int .i64 c2, .string (slotV u 4), .string (slotV u 5), .int .i64 d, .int .i64 0, .string ⟨#[]⟩]) ?_ 8 _ rfl; (with_reducible repeat (first | refine blk_drewN ?_ _ | refine blk_drew ?_ | refine blk_alloc ?_ _)); refine blk_put (cs := #[.int .i64 a, .int .i64 b1, .int .i64 b2, .int .i64 c1, .int .i64 c2, .string (slotV u 4), .string (slotV u 5), .int .i64 0, .int .i64 0, .string ⟨#[]⟩]) ?_ 7 _ rfl; (with_reducible repeat (first | refine blk_drewN ?_ _ | refine blk_drew ?_ | refine blk_alloc ?_ _)); refine blk_put (cs := #[.int .i64 a, .int .i64 b1, .int .i64 b2, .int .i64 c1, .int .i64 c2, .string (slotV u 4), .string ⟨#[]⟩, .int .i64 0, .int .i64 0, .string ⟨#[]⟩]) ?_ 6 _ rfl; (with_reducible repeat (first | refine blk_drewN ?_ _ | refine blk_drew ?_ | refine blk_alloc ?_ _)); refine blk_put (cs := #[.int .i64 a, .int .i64 b1, .int .i64 b2, .int .i64 c1, .int .i64 c2, .string ⟨#[]⟩, .string ⟨#[]⟩, .int .i64 0, .int .i64 0, .string ⟨#[]⟩]) ?_ 5 _ rfl; (with_reducible repeat (first | refine blk_drewN ?_ _ | refine blk_drew ?_ | refine blk_alloc ?_ _)); refine blk_put (cs := #[.int .i64 a, .int .i64 b1, .int .i64 b2, .int .i64 c1, .int .i64 0, .string ⟨#[]⟩, .string ⟨#[]⟩, .int .i64 0, .int .i64 0, .string ⟨#[]⟩]) ?_ 4 _ rfl; (with_reducible repeat (first | refine blk_drewN ?_ _ | refine blk_drew ?_ | refine blk_alloc ?_ _)); refine blk_put (cs := #[.int .i64 a, .int .i64 b1, .int .i64 b2, .int .i64 0, .int .i64 0, .string ⟨#[]⟩, .string ⟨#[]⟩, .int .i64 0, .int .i64 0, .string ⟨#[]⟩]) ?_ 3 _ rfl; (with_reducible repeat (first | refine blk_drewN ?_ _ | refine blk_drew ?_ | refine blk_alloc ?_ _)); refine blk_put (cs := #[.int .i64 a, .int .i64 b1, .int .i64 0, .int .i64 0, .int .i64 0, .string ⟨#[]⟩, .string ⟨#[]⟩, .int .i64 0, .int .i64 0, .string ⟨#[]⟩]) ?_ 2 _ rfl; (with_reducible repeat (first | refine blk_drewN ?_ _ | refine blk_drew ?_ | refine blk_alloc ?_ _)); refine blk_put (cs := #[.int .i64 a, .int .i64 0, .int .i64 0, .int .i64 0, .int .i64 0, .string ⟨#[]⟩, .string ⟨#[]⟩, .int .i64 0, .int .i64 0, .string ⟨#[]⟩]) ?_ 1 _ rfl; (with_reducible repeat (first | refine blk_drewN ?_ _ | refine blk_drew ?_ | refine blk_alloc ?_ _)); refine blk_put (cs := #[.int .i64 0, .int .i64 0, .int .i64 0, .int .i64 0, .int .i64 0, .string ⟨#[]⟩, .string ⟨#[]⟩, .int .i64 0, .int .i64 0, .string ⟨#[]⟩]) ?_ 0 _ rfl; (with_reducible repeat (first | refine blk_drewN ?_ _ | refine blk_drew ?_ | refine blk_alloc ?_ _)); exact BK11.out))
   have n2_ := Aside0.mk (show Below w.heap.size w ((((((((((w'.setCell ⟨gb11, 0, none⟩ (.int .i64 a)).setCell ⟨gb11, 1, none⟩ (.int .i64 b1)).setCell ⟨gb11, 2, none⟩ (.int .i64 b2)).setCell ⟨gb11, 3, none⟩ (.int .i64 c1)).setCell ⟨gb11, 4, none⟩ (.int .i64 c2)).setCell ⟨gb11, 5, none⟩ (.string (slotV u 4))).setCell ⟨gb11, 6, none⟩ (.string (slotV u 5))).setCell ⟨gb11, 7, none⟩ (.int .i64 d)).setCell ⟨gb11, 8, none⟩ (.int .i64 q)).setCell ⟨gb11, 9, none⟩ (.string (slotV u 8))) from (by repeat (first | (with_reducible first | exact HB.out | apply below_alloc | apply pw_below_drewN | apply below_drew1 | refine below_set ?_ GE2.out | refine below_set ?_ GE11.out) | exact HB.out)))
   clear BK2 BK11 HB
   have BK2 := n0_
   have BK11 := n1_
   have HB := n2_
   clear n0_ n1_ n2_
   generalize ((((((((((w'.setCell ⟨gb11, 0, none⟩ (.int .i64 a)).setCell ⟨gb11, 1, none⟩ (.int .i64 b1)).setCell ⟨gb11, 2, none⟩ (.int .i64 b2)).setCell ⟨gb11, 3, none⟩ (.int .i64 c1)).setCell ⟨gb11, 4, none⟩ (.int .i64 c2)).setCell ⟨gb11, 5, none⟩ (.string (slotV u 4))).setCell ⟨gb11, 6, none⟩ (.string (slotV u 5))).setCell ⟨gb11, 7, none⟩ (.int .i64 d)).setCell ⟨gb11, 8, none⟩ (.int .i64 q)).setCell ⟨gb11, 9, none⟩ (.string (slotV u 8))) = w6_ at BK2 BK11 HB ⊢
   have hz2_0 := (blk_cell BK2.out 0).trans rfl
   have hf2_0 := blk_frozen BK2.out 0
   have hz2_1 := (blk_cell BK2.out 1).trans rfl
   have hf2_1 := blk_frozen BK2.out 1
   have hz2_2 := (blk_cell BK2.out 2).trans rfl
   have hf2_2 := blk_frozen BK2.out 2
   have hz2_3 := (blk_cell BK2.out 3).trans rfl
   have hf2_3 := blk_frozen BK2.out 3
   have hz2_4 := (blk_cell BK2.out 4).trans rfl
   have hf2_4 := blk_frozen BK2.out 4
   have hz2_5 := (blk_cell BK2.out 5).trans rfl
   have hf2_5 := blk_frozen BK2.out 5
   have hz2_6 := (blk_cell BK2.out 6).trans rfl
   have hf2_6 := blk_frozen BK2.out 6
   have hz2_7 := (blk_cell BK2.out 7).trans rfl
   have hf2_7 := blk_frozen BK2.out 7
   have hz2_8 := (blk_cell BK2.out 8).trans rfl
   have hf2_8 := blk_frozen BK2.out 8
   have hz2_9 := (blk_cell BK2.out 9).trans rfl
   have hf2_9 := blk_frozen BK2.out 9
   have hz11_0 := (blk_cell BK11.out 0).trans rfl
   have hf11_0 := blk_frozen BK11.out 0
   have hz11_1 := (blk_cell BK11.out 1).trans rfl
   have hf11_1 := blk_frozen BK11.out 1
   have hz11_2 := (blk_cell BK11.out 2).trans rfl
   have hf11_2 := blk_frozen BK11.out 2
   have hz11_3 := (blk_cell BK11.out 3).trans rfl
   have hf11_3 := blk_frozen BK11.out 3
   have hz11_4 := (blk_cell BK11.out 4).trans rfl
   have hf11_4 := blk_frozen BK11.out 4
   have hz11_5 := (blk_cell BK11.out 5).trans rfl
   have hf11_5 := blk_frozen BK11.out 5
   have hz11_6 := (blk_cell BK11.out 6).trans rfl
   have hf11_6 := blk_frozen BK11.out 6
   have hz11_7 := (blk_cell BK11.out 7).trans rfl
   have hf11_7 := blk_frozen BK11.out 7
   have hz11_8 := (blk_cell BK11.out 8).trans rfl
   have hf11_8 := blk_frozen BK11.out 8
   have hz11_9 := (blk_cell BK11.out 9).trans rfl
   have hf11_9 := blk_frozen BK11.out 9
   by_cases hg2 : g2 = 0
   case neg =>
    have HQ := Aside0.mk hg2
    have zq0 : (g2 == 0) = false := beq_eq_false_iff_ne.mpr hg2
    have zq1 : (g2 != 0) = true := bne_iff_ne.mpr hg2
    clear hg2
    go_upto_region 15 with (first | (go_at_call 6; (refine (ask_Pack.calls k a b1 b2 c1 c2 (slotV u 4) (slotV u 5) d q (slotV u 8) g1 g2 _ HG.out).mono ?_); rintro e_ w7_ ⟨rfl, hb⟩; have n0_ := Aside0.mk (blk_below (g := gb2) (o := .cells #[.int .i64 0, .int .i64 0, .int .i64 0, .int .i64 0, .int .i64 0, .string ⟨#[]⟩, .string ⟨#[]⟩, .int .i64 0, .int .i64 0, .string ⟨#[]⟩] 25 (0, 0)) (by first | with_reducible exact BK2.out | ((with_reducible repeat (first | refine blk_drewN ?_ _ | refine blk_drew ?_ | refine blk_alloc ?_ _)); exact BK2.out)) hb); have n1_ := Aside0.mk (blk_below (g := gb11) (o := .cells #[.int .i64 a, .int .i64 b1, .int .i64 b2, .int .i64 c1, .int .i64 c2, .string (slotV u 4), .string (slotV u 5), .int .i64 d, .int .i64 q, .string (slotV u 8)] 25 (0, 0)) (by first | with_reducible exact BK11.out | ((with_reducible repeat (first | refine blk_drewN ?_ _ | refine blk_drew ?_ | refine blk_alloc ?_ _)); exact BK11.out)) hb); have n2_ := Aside0.mk (below_step (by repeat (first | (with_reducible first | exact HB.out | apply below_alloc | apply pw_below_drewN | apply below_drew1 | refine below_set ?_ GE2.out | refine below_set ?_ GE11.out) | exact HB.out)) hb); clear BK2 BK11 HB; have BK2 := n0_; have BK11 := n1_; have HB := n2_; clear n0_ n1_ n2_; (try clear hb); (try clear hz2_0 hf2_0 hz2_1 hf2_1 hz2_2 hf2_2 hz2_3 hf2_3 hz2_4 hf2_4 hz2_5 hf2_5 hz2_6 hf2_6 hz2_7 hf2_7 hz2_8 hf2_8 hz2_9 hf2_9 hz11_0 hf11_0 hz11_1 hf11_1 hz11_2 hf11_2 hz11_3 hf11_3 hz11_4 hf11_4 hz11_5 hf11_5 hz11_6 hf11_6 hz11_7 hf11_7 hz11_8 hf11_8 hz11_9 hf11_9); have hz2_0 := (blk_cell BK2.out 0).trans rfl; have hf2_0 := blk_frozen BK2.out 0; have hz2_1 := (blk_cell BK2.out 1).trans rfl; have hf2_1 := blk_frozen BK2.out 1; have hz2_2 := (blk_cell BK2.out 2).trans rfl; have hf2_2 := blk_frozen BK2.out 2; have hz2_3 := (blk_cell BK2.out 3).trans rfl; have hf2_3 := blk_frozen BK2.out 3; have hz2_4 := (blk_cell BK2.out 4).trans rfl; have hf2_4 := blk_frozen BK2.out 4; have hz2_5 := (blk_cell BK2.out 5).trans rfl; have hf2_5 := blk_frozen BK2.out 5; have hz2_6 := (blk_cell BK2.out 6).trans rfl; have hf2_6 := blk_frozen BK2.out 6; have hz2_7 := (blk_cell BK2.out 7).trans rfl; have hf2_7 := blk_frozen BK2.out 7; have hz2_8 := (blk_cell BK2.out 8).trans rfl; have hf2_8 := blk_frozen BK2.out 8; have hz2_9 := (blk_cell BK2.out 9).trans rfl; have hf2_9 := blk_frozen BK2.out 9; have hz11_0 := (blk_cell BK11.out 0).trans rfl; have hf11_0 := blk_frozen BK11.out 0; have hz11_1 := (blk_cell BK11.out 1).trans rfl; have hf11_1 := blk_frozen BK11.out 1; have hz11_2 := (blk_cell BK11.out 2).trans rfl; have hf11_2 := blk_frozen BK11.out 2; have hz11_3 := (blk_cell BK11.out 3).trans rfl; have hf11_3 := blk_frozen BK11.out 3; have hz11_4 := (blk_cell BK11.out 4).trans rfl; have hf11_4 := blk_frozen BK11.out 4; have hz11_5 := (blk_cell BK11.out 5).trans rfl; have hf11_5 := blk_frozen BK11.out 5; have hz11_6 := (blk_cell BK11.out 6).trans rfl; have hf11_6 := blk_frozen BK11.out 6; have hz11_7 := (blk_cell BK11.out 7).trans rfl; have hf11_7 := blk_frozen BK11.out 7; have hz11_8 := (blk_cell BK11.out 8).trans rfl; have hf11_8 := blk_frozen BK11.out 8; have hz11_9 := (blk_cell BK11.out 9).trans rfl; have hf11_9 := blk_frozen BK11.out 9)); repeat ((fail_if_success (with_reducible apply bodyPost_ret)); (first | go_values | go_skip | go_guarded | go_step | go_upon | go_back | (simp only [Int.not_lt, Int.not_le] at *; go_simp) | (go_values <;> (try go_simp)) | (go_ite <;> go_prune <;> (try go_simp))))
    refine bodyPost_ret (results_ct rfl _ _ gb2 25 #[.int .i64 0, .int .i64 0, .int .i64 0, .int .i64 0, .int .i64 0, .string ⟨#[]⟩, .string ⟨#[]⟩, .int .i64 0, .int .i64 0, .string ⟨#[]⟩] (0, 0) _ rfl ?hg_ hu25 rfl ?hi_) rfl ?he_
    case hg_ => exact (by (with_reducible repeat (first | refine blk_drewN ?_ _ | refine blk_drew ?_ | refine blk_alloc ?_ _)); refine blk_put (cs := #[.int .i64 0, .int .i64 0, .int .i64 0, .int .i64 0, .int .i64 0, .string ⟨#[]⟩, .string ⟨#[]⟩, .int .i64 0, .int .i64 0, .string ⟨#[]⟩]) ?_ 9 _ rfl; (with_reducible repeat (first | refine blk_drewN ?_ _ | refine blk_drew ?_ | refine blk_alloc ?_ _)); refine blk_put (cs := #[.int .i64 0, .int .i64 0, .int .i64 0, .int .i64 0, .int .i64 0, .string ⟨#[]⟩, .string ⟨#[]⟩, .int .i64 0, .int .i64 0, .string ⟨#[]⟩]) ?_ 8 _ rfl; (with_reducible repeat (first | refine blk_drewN ?_ _ | refine blk_drew ?_ | refine blk_alloc ?_ _)); refine blk_put (cs := #[.int .i64 0, .int .i64 0, .int .i64 0, .int .i64 0, .int .i64 0, .string ⟨#[]⟩, .string ⟨#[]⟩, .int .i64 0, .int .i64 0, .string ⟨#[]⟩]) ?_ 7 _ rfl; (with_reducible repeat (first | refine blk_drewN ?_ _ | refine blk_drew ?_ | refine blk_alloc ?_ _)); refine blk_put (cs := #[.int .i64 0, .int .i64 0, .int .i64 0, .int .i64 0, .int .i64 0, .string ⟨#[]⟩, .string ⟨#[]⟩, .int .i64 0, .int .i64 0, .string ⟨#[]⟩]) ?_ 6 _ rfl; (with_reducible repeat (first | refine blk_drewN ?_ _ | refine blk_drew ?_ | refine blk_alloc ?_ _)); refine blk_put (cs := #[.int .i64 0, .int .i64 0, .int .i64 0, .int .i64 0, .int .i64 0, .string ⟨#[]⟩, .string ⟨#[]⟩, .int .i64 0, .int .i64 0, .string ⟨#[]⟩]) ?_ 5 _ rfl; (with_reducible repeat (first | refine blk_drewN ?_ _ | refine blk_drew ?_ | refine blk_alloc ?_ _)); refine blk_put (cs := #[.int .i64 0, .int .i64 0, .int .i64 0, .int .i64 0, .int .i64 0, .string ⟨#[]⟩, .string ⟨#[]⟩, .int .i64 0, .int .i64 0, .string ⟨#[]⟩]) ?_ 4 _ rfl; (with_reducible repeat (first | refine blk_drewN ?_ _ | refine blk_drew ?_ | refine blk_alloc ?_ _)); refine blk_put (cs := #[.int .i64 0, .int .i64 0, .int .i64 0, .int .i64 0, .int .i64 0, .string ⟨#[]⟩, .string ⟨#[]⟩, .int .i64 0, .int .i64 0, .string ⟨#[]⟩]) ?_ 3 _ rfl; (with_reducible repeat (first | refine blk_drewN ?_ _ | refine blk_drew ?_ | refine blk_alloc ?_ _)); refine blk_put (cs := #[.int .i64 0, .int .i64 0, .int .i64 0, .int .i64 0, .int .i64 0, .string ⟨#[]⟩, .string ⟨#[]⟩, .int .i64 0, .int .i64 0, .string ⟨#[]⟩]) ?_ 2 _ rfl; (with_reducible repeat (first | refine blk_drewN ?_ _ | refine blk_drew ?_ | refine blk_alloc ?_ _)); refine blk_put (cs := #[.int .i64 0, .int .i64 0, .int .i64 0, .int .i64 0, .int .i64 0, .string ⟨#[]⟩, .string ⟨#[]⟩, .int .i64 0, .int .i64 0, .string ⟨#[]⟩]) ?_ 1 _ rfl; (with_reducible repeat (first | refine blk_drewN ?_ _ | refine blk_drew ?_ | refine blk_alloc ?_ _)); refine blk_put (cs := #[.int .i64 0, .int .i64 0, .int .i64 0, .int .i64 0, .int .i64 0, .string ⟨#[]⟩, .string ⟨#[]⟩, .int .i64 0, .int .i64 0, .string ⟨#[]⟩]) ?_ 0 _ rfl; (with_reducible repeat (first | refine blk_drewN ?_ _ | refine blk_drew ?_ | refine blk_alloc ?_ _)); exact BK2.out)
    case hi_ => kernel_rfl
    case he_ =>
     exact ⟨by rw [if_neg (fun h_ => HQ.out h_.1)]; first | done | rfl, (by repeat (first | (with_reducible first | exact HB.out | apply below_alloc | apply pw_below_drewN | apply below_drew1 | refine below_set ?_ GE2.out | refine below_set ?_ GE11.out) | exact HB.out))⟩
   subst hg2
   by_cases hsame : g1.toList = s.toList
   case neg =>
    have HQ := Aside0.mk hsame
    have zq0 : (g1.toList == s.toList) = false := beq_eq_false_iff_ne.mpr hsame
    have zq1 : (g1.toList != s.toList) = true := bne_iff_ne.mpr hsame
    clear hsame
    go_upto_region 15 with (first | (go_at_call 6; (refine (ask_Pack.calls k a b1 b2 c1 c2 (slotV u 4) (slotV u 5) d q (slotV u 8) g1 0 _ HG.out).mono ?_); rintro e_ w7_ ⟨rfl, hb⟩; have n0_ := Aside0.mk (blk_below (g := gb2) (o := .cells #[.int .i64 0, .int .i64 0, .int .i64 0, .int .i64 0, .int .i64 0, .string ⟨#[]⟩, .string ⟨#[]⟩, .int .i64 0, .int .i64 0, .string ⟨#[]⟩] 25 (0, 0)) (by first | with_reducible exact BK2.out | ((with_reducible repeat (first | refine blk_drewN ?_ _ | refine blk_drew ?_ | refine blk_alloc ?_ _)); exact BK2.out)) hb); have n1_ := Aside0.mk (blk_below (g := gb11) (o := .cells #[.int .i64 a, .int .i64 b1, .int .i64 b2, .int .i64 c1, .int .i64 c2, .string (slotV u 4), .string (slotV u 5), .int .i64 d, .int .i64 q, .string (slotV u 8)] 25 (0, 0)) (by first | with_reducible exact BK11.out | ((with_reducible repeat (first | refine blk_drewN ?_ _ | refine blk_drew ?_ | refine blk_alloc ?_ _)); exact BK11.out)) hb); have n2_ := Aside0.mk (below_step (by repeat (first | (with_reducible first | exact HB.out | apply below_alloc | apply pw_below_drewN | apply below_drew1 | refine below_set ?_ GE2.out | refine below_set ?_ GE11.out) | exact HB.out)) hb); clear BK2 BK11 HB; have BK2 := n0_; have BK11 := n1_; have HB := n2_; clear n0_ n1_ n2_; (try clear hb); (try clear hz2_0 hf2_0 hz2_1 hf2_1 hz2_2 hf2_2 hz2_3 hf2_3 hz2_4 hf2_4 hz2_5 hf2_5 hz2_6 hf2_6 hz2_7 hf2_7 hz2_8 hf2_8 hz2_9 hf2_9 hz11_0 hf11_0 hz11_1 hf11_1 hz11_2 hf11_2 hz11_3 hf11_3 hz11_4 hf11_4 hz11_5 hf11_5 hz11_6 hf11_6 hz11_7 hf11_7 hz11_8 hf11_8 hz11_9 hf11_9); have hz2_0 := (blk_cell BK2.out 0).trans rfl; have hf2_0 := blk_frozen BK2.out 0; have hz2_1 := (blk_cell BK2.out 1).trans rfl; have hf2_1 := blk_frozen BK2.out 1; have hz2_2 := (blk_cell BK2.out 2).trans rfl; have hf2_2 := blk_frozen BK2.out 2; have hz2_3 := (blk_cell BK2.out 3).trans rfl; have hf2_3 := blk_frozen BK2.out 3; have hz2_4 := (blk_cell BK2.out 4).trans rfl; have hf2_4 := blk_frozen BK2.out 4; have hz2_5 := (blk_cell BK2.out 5).trans rfl; have hf2_5 := blk_frozen BK2.out 5; have hz2_6 := (blk_cell BK2.out 6).trans rfl; have hf2_6 := blk_frozen BK2.out 6; have hz2_7 := (blk_cell BK2.out 7).trans rfl; have hf2_7 := blk_frozen BK2.out 7; have hz2_8 := (blk_cell BK2.out 8).trans rfl; have hf2_8 := blk_frozen BK2.out 8; have hz2_9 := (blk_cell BK2.out 9).trans rfl; have hf2_9 := blk_frozen BK2.out 9; have hz11_0 := (blk_cell BK11.out 0).trans rfl; have hf11_0 := blk_frozen BK11.out 0; have hz11_1 := (blk_cell BK11.out 1).trans rfl; have hf11_1 := blk_frozen BK11.out 1; have hz11_2 := (blk_cell BK11.out 2).trans rfl; have hf11_2 := blk_frozen BK11.out 2; have hz11_3 := (blk_cell BK11.out 3).trans rfl; have hf11_3 := blk_frozen BK11.out 3; have hz11_4 := (blk_cell BK11.out 4).trans rfl; have hf11_4 := blk_frozen BK11.out 4; have hz11_5 := (blk_cell BK11.out 5).trans rfl; have hf11_5 := blk_frozen BK11.out 5; have hz11_6 := (blk_cell BK11.out 6).trans rfl; have hf11_6 := blk_frozen BK11.out 6; have hz11_7 := (blk_cell BK11.out 7).trans rfl; have hf11_7 := blk_frozen BK11.out 7; have hz11_8 := (blk_cell BK11.out 8).trans rfl; have hf11_8 := blk_frozen BK11.out 8; have hz11_9 := (blk_cell BK11.out 9).trans rfl; have hf11_9 := blk_frozen BK11.out 9)); repeat ((fail_if_success (with_reducible apply bodyPost_ret)); (first | go_values | go_skip | go_guarded | go_step | go_upon | go_back | (simp only [Int.not_lt, Int.not_le] at *; go_simp) | (go_values <;> (try go_simp)) | (go_ite <;> go_prune <;> (try go_simp))))
    refine bodyPost_ret (results_ct rfl _ _ gb2 25 #[.int .i64 0, .int .i64 0, .int .i64 0, .int .i64 0, .int .i64 0, .string ⟨#[]⟩, .string ⟨#[]⟩, .int .i64 0, .int .i64 0, .string ⟨#[]⟩] (0, 0) _ rfl ?hg_ hu25 rfl ?hi_) rfl ?he_
    case hg_ => exact (by (with_reducible repeat (first | refine blk_drewN ?_ _ | refine blk_drew ?_ | refine blk_alloc ?_ _)); refine blk_put (cs := #[.int .i64 0, .int .i64 0, .int .i64 0, .int .i64 0, .int .i64 0, .string ⟨#[]⟩, .string ⟨#[]⟩, .int .i64 0, .int .i64 0, .string ⟨#[]⟩]) ?_ 9 _ rfl; (with_reducible repeat (first | refine blk_drewN ?_ _ | refine blk_drew ?_ | refine blk_alloc ?_ _)); refine blk_put (cs := #[.int .i64 0, .int .i64 0, .int .i64 0, .int .i64 0, .int .i64 0, .string ⟨#[]⟩, .string ⟨#[]⟩, .int .i64 0, .int .i64 0, .string ⟨#[]⟩]) ?_ 8 _ rfl; (with_reducible repeat (first | refine blk_drewN ?_ _ | refine blk_drew ?_ | refine blk_alloc ?_ _)); refine blk_put (cs := #[.int .i64 0, .int .i64 0, .int .i64 0, .int .i64 0, .int .i64 0, .string ⟨#[]⟩, .string ⟨#[]⟩, .int .i64 0, .int .i64 0, .string ⟨#[]⟩]) ?_ 7 _ rfl; (with_reducible repeat (first | refine blk_drewN ?_ _ | refine blk_drew ?_ | refine blk_alloc ?_ _)); refine blk_put (cs := #[.int .i64 0, .int .i64 0, .int .i64 0, .int .i64 0, .int .i64 0, .string ⟨#[]⟩, .string ⟨#[]⟩, .int .i64 0, .int .i64 0, .string ⟨#[]⟩]) ?_ 6 _ rfl; (with_reducible repeat (first | refine blk_drewN ?_ _ | refine blk_drew ?_ | refine blk_alloc ?_ _)); refine blk_put (cs := #[.int .i64 0, .int .i64 0, .int .i64 0, .int .i64 0, .int .i64 0, .string ⟨#[]⟩, .string ⟨#[]⟩, .int .i64 0, .int .i64 0, .string ⟨#[]⟩]) ?_ 5 _ rfl; (with_reducible repeat (first | refine blk_drewN ?_ _ | refine blk_drew ?_ | refine blk_alloc ?_ _)); refine blk_put (cs := #[.int .i64 0, .int .i64 0, .int .i64 0, .int .i64 0, .int .i64 0, .string ⟨#[]⟩, .string ⟨#[]⟩, .int .i64 0, .int .i64 0, .string ⟨#[]⟩]) ?_ 4 _ rfl; (with_reducible repeat (first | refine blk_drewN ?_ _ | refine blk_drew ?_ | refine blk_alloc ?_ _)); refine blk_put (cs := #[.int .i64 0, .int .i64 0, .int .i64 0, .int .i64 0, .int .i64 0, .string ⟨#[]⟩, .string ⟨#[]⟩, .int .i64 0, .int .i64 0, .string ⟨#[]⟩]) ?_ 3 _ rfl; (with_reducible repeat (first | refine blk_drewN ?_ _ | refine blk_drew ?_ | refine blk_alloc ?_ _)); refine blk_put (cs := #[.int .i64 0, .int .i64 0, .int .i64 0, .int .i64 0, .int .i64 0, .string ⟨#[]⟩, .string ⟨#[]⟩, .int .i64 0, .int .i64 0, .string ⟨#[]⟩]) ?_ 2 _ rfl; (with_reducible repeat (first | refine blk_drewN ?_ _ | refine blk_drew ?_ | refine blk_alloc ?_ _)); refine blk_put (cs := #[.int .i64 0, .int .i64 0, .int .i64 0, .int .i64 0, .int .i64 0, .string ⟨#[]⟩, .string ⟨#[]⟩, .int .i64 0, .int .i64 0, .string ⟨#[]⟩]) ?_ 1 _ rfl; (with_reducible repeat (first | refine blk_drewN ?_ _ | refine blk_drew ?_ | refine blk_alloc ?_ _)); refine blk_put (cs := #[.int .i64 0, .int .i64 0, .int .i64 0, .int .i64 0, .int .i64 0, .string ⟨#[]⟩, .string ⟨#[]⟩, .int .i64 0, .int .i64 0, .string ⟨#[]⟩]) ?_ 0 _ rfl; (with_reducible repeat (first | refine blk_drewN ?_ _ | refine blk_drew ?_ | refine blk_alloc ?_ _)); exact BK2.out)
    case hi_ => kernel_rfl
    case he_ =>
     exact ⟨by rw [if_neg (fun h_ => HQ.out h_.2)]; first | done | rfl, (by repeat (first | (with_reducible first | exact HB.out | apply below_alloc | apply pw_below_drewN | apply below_drew1 | refine below_set ?_ GE2.out | refine below_set ?_ GE11.out) | exact HB.out))⟩
   have HQ := Aside0.mk hsame
   have zq0 : (g1.toList == s.toList) = true := beq_iff_eq.mpr hsame
   have zq1 : (g1.toList != s.toList) = false := bne_eq_false_iff_eq.mpr hsame
   clear hsame
   go_upto_region 15 with (first | (go_at_call 6; (refine (ask_Pack.calls k a b1 b2 c1 c2 (slotV u 4) (slotV u 5) d q (slotV u 8) g1 0 _ HG.out).mono ?_); rintro e_ w7_ ⟨rfl, hb⟩; have n0_ := Aside0.mk (blk_below (g := gb2) (o := .cells #[.int .i64 0, .int .i64 0, .int .i64 0, .int .i64 0, .int .i64 0, .string ⟨#[]⟩, .string ⟨#[]⟩, .int .i64 0, .int .i64 0, .string ⟨#[]⟩] 25 (0, 0)) (by first | with_reducible exact BK2.out | ((with_reducible repeat (first | refine blk_drewN ?_ _ | refine blk_drew ?_ | refine blk_alloc ?_ _)); exact BK2.out)) hb); have n1_ := Aside0.mk (blk_below (g := gb11) (o := .cells #[.int .i64 a, .int .i64 b1, .int .i64 b2, .int .i64 c1, .int .i64 c2, .string (slotV u 4), .string (slotV u 5), .int .i64 d, .int .i64 q, .string (slotV u 8)] 25 (0, 0)) (by first | with_reducible exact BK11.out | ((with_reducible repeat (first | refine blk_drewN ?_ _ | refine blk_drew ?_ | refine blk_alloc ?_ _)); exact BK11.out)) hb); have n2_ := Aside0.mk (below_step (by repeat (first | (with_reducible first | exact HB.out | apply below_alloc | apply pw_below_drewN | apply below_drew1 | refine below_set ?_ GE2.out | refine below_set ?_ GE11.out) | exact HB.out)) hb); clear BK2 BK11 HB; have BK2 := n0_; have BK11 := n1_; have HB := n2_; clear n0_ n1_ n2_; (try clear hb); (try clear hz2_0 hf2_0 hz2_1 hf2_1 hz2_2 hf2_2 hz2_3 hf2_3 hz2_4 hf2_4 hz2_5 hf2_5 hz2_6 hf2_6 hz2_7 hf2_7 hz2_8 hf2_8 hz2_9 hf2_9 hz11_0 hf11_0 hz11_1 hf11_1 hz11_2 hf11_2 hz11_3 hf11_3 hz11_4 hf11_4 hz11_5 hf11_5 hz11_6 hf11_6 hz11_7 hf11_7 hz11_8 hf11_8 hz11_9 hf11_9); have hz2_0 := (blk_cell BK2.out 0).trans rfl; have hf2_0 := blk_frozen BK2.out 0; have hz2_1 := (blk_cell BK2.out 1).trans rfl; have hf2_1 := blk_frozen BK2.out 1; have hz2_2 := (blk_cell BK2.out 2).trans rfl; have hf2_2 := blk_frozen BK2.out 2; have hz2_3 := (blk_cell BK2.out 3).trans rfl; have hf2_3 := blk_frozen BK2.out 3; have hz2_4 := (blk_cell BK2.out 4).trans rfl; have hf2_4 := blk_frozen BK2.out 4; have hz2_5 := (blk_cell BK2.out 5).trans rfl; have hf2_5 := blk_frozen BK2.out 5; have hz2_6 := (blk_cell BK2.out 6).trans rfl; have hf2_6 := blk_frozen BK2.out 6; have hz2_7 := (blk_cell BK2.out 7).trans rfl; have hf2_7 := blk_frozen BK2.out 7; have hz2_8 := (blk_cell BK2.out 8).trans rfl; have hf2_8 := blk_frozen BK2.out 8; have hz2_9 := (blk_cell BK2.out 9).trans rfl; have hf2_9 := blk_frozen BK2.out 9; have hz11_0 := (blk_cell BK11.out 0).trans rfl; have hf11_0 := blk_frozen BK11.out 0; have hz11_1 := (blk_cell BK11.out 1).trans rfl; have hf11_1 := blk_frozen BK11.out 1; have hz11_2 := (blk_cell BK11.out 2).trans rfl; have hf11_2 := blk_frozen BK11.out 2; have hz11_3 := (blk_cell BK11.out 3).trans rfl; have hf11_3 := blk_frozen BK11.out 3; have hz11_4 := (blk_cell BK11.out 4).trans rfl; have hf11_4 := blk_frozen BK11.out 4; have hz11_5 := (blk_cell BK11.out 5).trans rfl; have hf11_5 := blk_frozen BK11.out 5; have hz11_6 := (blk_cell BK11.out 6).trans rfl; have hf11_6 := blk_frozen BK11.out 6; have hz11_7 := (blk_cell BK11.out 7).trans rfl; have hf11_7 := blk_frozen BK11.out 7; have hz11_8 := (blk_cell BK11.out 8).trans rfl; have hf11_8 := blk_frozen BK11.out 8; have hz11_9 := (blk_cell BK11.out 9).trans rfl; have hf11_9 := blk_frozen BK11.out 9)); repeat ((fail_if_success (with_reducible apply bodyPost_ret)); (first | go_values | go_skip | go_guarded | go_step | go_upon | go_back | (simp only [Int.not_lt, Int.not_le] at *; go_simp) | (go_values <;> (try go_simp)) | (go_ite <;> go_prune <;> (try go_simp))))
   refine bodyPost_ret (results_ct rfl _ _ gb2 25 #[.int .i64 a, .int .i64 b1, .int .i64 b2, .int .i64 c1, .int .i64 c2, .string (slotV u 4), .string (slotV u 5), .int .i64 d, .int .i64 q, .string (slotV u 8)] (0, 0) _ rfl ?hg_ hu25 rfl ?hi_) rfl ?he_
   case hg_ => exact (by (with_reducible repeat (first | refine blk_drewN ?_ _ | refine blk_drew ?_ | refine blk_alloc ?_ _)); refine blk_put (cs := #[.int .i64 a, .int .i64 b1, .int .i64 b2, .int .i64 c1, .int .i64 c2, .string (slotV u 4), .string (slotV u 5), .int .i64 d, .int .i64 q, .string ⟨#[]⟩]) ?_ 9 _ rfl; (with_reducible repeat (first | refine blk_drewN ?_ _ | refine blk_drew ?_ | refine blk_alloc ?_ _)); refine blk_put (cs := #[.int .i64 a, .int .i64 b1, .int .i64 b2, .int .i64 c1, .int .i64 c2, .string (slotV u 4), .string (slotV u 5), .int .i64 d, .int .i64 0, .string ⟨#[]⟩]) ?_ 8 _ rfl; (with_reducible repeat (first | refine blk_drewN ?_ _ | refine blk_drew ?_ | refine blk_alloc ?_ _)); refine blk_put (cs := #[.int .i64 a, .int .i64 b1, .int .i64 b2, .int .i64 c1, .int .i64 c2, .string (slotV u 4), .string (slotV u 5), .int .i64 0, .int .i64 0, .string ⟨#[]⟩]) ?_ 7 _ rfl; (with_reducible repeat (first | refine blk_drewN ?_ _ | refine blk_drew ?_ | refine blk_alloc ?_ _)); refine blk_put (cs := #[.int .i64 a, .int .i64 b1, .int .i64 b2, .int .i64 c1, .int .i64 c2, .string (slotV u 4), .string ⟨#[]⟩, .int .i64 0, .int .i64 0, .string ⟨#[]⟩]) ?_ 6 _ rfl; (with_reducible repeat (first | refine blk_drewN ?_ _ | refine blk_drew ?_ | refine blk_alloc ?_ _)); refine blk_put (cs := #[.int .i64 a, .int .i64 b1, .int .i64 b2, .int .i64 c1, .int .i64 c2, .string ⟨#[]⟩, .string ⟨#[]⟩, .int .i64 0, .int .i64 0, .string ⟨#[]⟩]) ?_ 5 _ rfl; (with_reducible repeat (first | refine blk_drewN ?_ _ | refine blk_drew ?_ | refine blk_alloc ?_ _)); refine blk_put (cs := #[.int .i64 a, .int .i64 b1, .int .i64 b2, .int .i64 c1, .int .i64 0, .string ⟨#[]⟩, .string ⟨#[]⟩, .int .i64 0, .int .i64 0, .string ⟨#[]⟩]) ?_ 4 _ rfl; (with_reducible repeat (first | refine blk_drewN ?_ _ | refine blk_drew ?_ | refine blk_alloc ?_ _)); refine blk_put (cs := #[.int .i64 a, .int .i64 b1, .int .i64 b2, .int .i64 0, .int .i64 0, .string ⟨#[]⟩, .string ⟨#[]⟩, .int .i64 0, .int .i64 0, .string ⟨#[]⟩]) ?_ 3 _ rfl; (with_reducible repeat (first | refine blk_drewN ?_ _ | refine blk_drew ?_ | refine blk_alloc ?_ _)); refine blk_put (cs := #[.int .i64 a, .int .i64 b1, .int .i64 0, .int .i64 0, .int .i64 0, .string ⟨#[]⟩, .string ⟨#[]⟩, .int .i64 0, .int .i64 0, .string ⟨#[]⟩]) ?_ 2 _ rfl; (with_reducible repeat (first | refine blk_drewN ?_ _ | refine blk_drew ?_ | refine blk_alloc ?_ _)); refine blk_put (cs := #[.int .i64 a, .int .i64 0, .int .i64 0, .int .i64 0, .int .i64 0, .string ⟨#[]⟩, .string ⟨#[]⟩, .int .i64 0, .int .i64 0, .string ⟨#[]⟩]) ?_ 1 _ rfl; (with_reducible repeat (first | refine blk_drewN ?_ _ | refine blk_drew ?_ | refine blk_alloc ?_ _)); refine blk_put (cs := #[.int .i64 0, .int .i64 0, .int .i64 0, .int .i64 0, .int .i64 0, .string ⟨#[]⟩, .string ⟨#[]⟩, .int .i64 0, .int .i64 0, .string ⟨#[]⟩]) ?_ 0 _ rfl; (with_reducible repeat (first | refine blk_drewN ?_ _ | refine blk_drew ?_ | refine blk_alloc ?_ _)); exact BK2.out)
   case hi_ => kernel_rfl
   case he_ =>
    exact ⟨by rw [if_pos ⟨rfl, HQ.out⟩]; first | done | rfl, (by repeat (first | (with_reducible first | exact HB.out | apply below_alloc | apply pw_below_drewN | apply below_drew1 | refine below_set ?_ GE2.out | refine below_set ?_ GE11.out) | exact HB.out))⟩
theorem ask_Unpack.calls (k : Nat) (s : ByteArray) (r1 : Int) (r2 : Int) (r3 : Int) (r4 : Int) (r5 : Int) (r6 : ByteArray) (r7 : ByteArray) (r8 : Int) (r9 : Int) (r10 : ByteArray) (r11 : Int) (w : World) (h : ask_Unpack.f k s = some (r1, r2, r3, r4, r5, r6, r7, r8, r9, r10, r11)) :
  Calls Try.prog 11 #[.string s] w fun ev w' => ev = .returned (.tuple #[.agg #[.int .i64 r1, .int .i64 r2, .int .i64 r3, .int .i64 r4, .int .i64 r5, .string r6, .string r7, .int .i64 r8, .int .i64 r9, .string r10], .int .i64 r11]) ∧ Below w.heap.size w w' := by
 unfold ask_Unpack.f at h
 obtain ⟨⟨u, eu⟩, hu, h⟩ := Option.bind_eq_some_iff.1 h
 by_cases h0 : eu = 0
 case neg =>
  rw [if_neg h0] at h
  simp only [Option.some.injEq, Prod.mk.injEq] at h
  obtain ⟨rfl, rfl, rfl, rfl, rfl, rfl, rfl, rfl, rfl, rfl, rfl⟩ := h
  exact ask_Unpack.none_ k s u eu w hu h0
 rw [if_pos h0] at h
 subst h0
 by_cases hp : ∀ x ∈ u, 0 ≤ x.f0
 case neg => rw [if_neg hp] at h; exact absurd h (by simp)
 rw [if_pos hp] at h
 obtain ⟨⟨a, ea⟩, h1, h⟩ := Option.bind_eq_some_iff.1 h
 obtain ⟨⟨b1, b2⟩, h2, h⟩ := Option.bind_eq_some_iff.1 h
 obtain ⟨⟨c1, c2⟩, h3, h⟩ := Option.bind_eq_some_iff.1 h
 obtain ⟨⟨d, ed⟩, h6, h⟩ := Option.bind_eq_some_iff.1 h
 obtain ⟨⟨q, eq⟩, h7, h⟩ := Option.bind_eq_some_iff.1 h
 obtain ⟨⟨g1, g2⟩, hg, h⟩ := Option.bind_eq_some_iff.1 h
 have hc := ask_Unpack.some_ k s u a ea b1 b2 c1 c2 d ed q eq g1 g2 w hu hp h1 h2 h3 h6 h7 hg
 by_cases hq : g2 = 0 ∧ g1.toList = s.toList
 ·rw [if_pos hq] at h
  rw [if_pos hq] at hc
  simp only [Option.some.injEq, Prod.mk.injEq] at h
  obtain ⟨rfl, rfl, rfl, rfl, rfl, rfl, rfl, rfl, rfl, rfl, rfl⟩ := h
  exact hc
 ·rw [if_neg hq] at h
  rw [if_neg hq] at hc
  simp only [Option.some.injEq, Prod.mk.injEq] at h
  obtain ⟨rfl, rfl, rfl, rfl, rfl, rfl, rfl, rfl, rfl, rfl, rfl⟩ := h
  exact hc
end Go.Proofs.Ytellcdiifpdonaa.FA
