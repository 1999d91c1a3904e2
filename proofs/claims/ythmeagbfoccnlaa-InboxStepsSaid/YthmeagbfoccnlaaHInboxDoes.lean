/- Written by hand (wip/tools/gen_inbox_does.py): a step of the law: an inbox and the document's answer do it alike. -/
import Derived.Test.YthmeagbfoccnlaaHInboxRefTake
import Derived.Test.YthmeagbfoccnlaaHInboxLen
namespace Go.Proofs.Ythmeagbfoccnlaa.FA
open Go.Conc Go.RowKit Go.Proofs.YthmeagbfoccnlaaW.PrintWords Go.Proofs.YthmeagbfoccnlaaW.PrintLast Go.Proofs.YthmeagbfoccnlaaW.PrintMore Go.Proofs.Ythmeagbfoccnlaa.Hand Go.Proofs.Ythmeagbfoccnlaa.B
set_option linter.unusedVariables false
set_option linter.unusedSimpArgs false
theorem ref_put (q : Bool) (s : ByteArray) {w : World} {N h room : Nat} {cl : Bool} {u v : List ByteArray} {Vu Vv : Value} (r : RBox w N h room cl u v Vu Vv) (hu : u.length ≤ room) (hv : v.length ≤ room) (hroom : room ≤ 256) : Calls Try.prog 16 #[.pointer (some ⟨h, 0, none⟩), .bool q, .string s] w fun e w' =>
    ∃ Vu' Vv', e = .returned (.int .i64 (putV room cl q s u v).2.2) ∧ RBox w' N h room cl (putV room cl q s u v).1 (putV room cl q s u v).2.1 Vu' Vv' ∧ RMoves N h w w' := by
  unfold putV
  have hd : RBox w.drew N h room cl u v Vu Vv := r.below (below_drew (Below.refl _ _))
  have hm : RMoves N h w w.drew := RMoves.of_below (below_drew (Below.refl _ _)) r.hs
  cases cl with
  | true => exact (ref_put_closed q s r.hb).mono (by rintro e w' ⟨rfl, rfl⟩; exact ⟨_, _, rfl, r, RMoves.refl _ _ _⟩)
  | false =>
    cases q with
    | true =>
      by_cases h1 : u.length < room
      · refine (ref_put_room_u s r h1 (by omega)).mono ?_
        rintro e w' ⟨V', rfl, h2, h3⟩
        simp only [h1, if_true, if_false, Bool.false_eq_true]
        exact ⟨_, _, trivial, h2, h3⟩
      · refine (ref_put_full_u s r (by omega) (by omega)).mono ?_
        rintro e w' ⟨rfl, rfl⟩
        simp only [h1, if_true, if_false, Bool.false_eq_true]
        exact ⟨_, _, trivial, hd, hm⟩
    | false =>
      by_cases h1 : v.length < room
      · refine (ref_put_room_n s r h1 (by omega)).mono ?_
        rintro e w' ⟨V', rfl, h2, h3⟩
        simp only [h1, if_true, if_false, Bool.false_eq_true]
        exact ⟨_, _, trivial, h2, h3⟩
      · refine (ref_put_full_n s r (by omega) (by omega)).mono ?_
        rintro e w' ⟨rfl, rfl⟩
        simp only [h1, if_true, if_false, Bool.false_eq_true]
        exact ⟨_, _, trivial, hd, hm⟩
theorem putV_len (room : Nat) (cl q : Bool) (s : ByteArray) (u v : List ByteArray) (hu : u.length ≤ room) (hv : v.length ≤ room) : (putV room cl q s u v).1.length ≤ room ∧ (putV room cl q s u v).2.1.length ≤ room := by
  unfold putV
  repeat' split
  all_goals (simp; omega)
theorem takeV_len (u v : List ByteArray) : (takeV u v).2.2.2.1.length ≤ u.length ∧ (takeV u v).2.2.2.2.length ≤ v.length := by
  cases u with
  | cons x u => simp [takeV]
  | nil =>
    cases v with
    | cons x v => simp [takeV]
    | nil => simp [takeV]
/-- What a step leaves: both inboxes alike. -/
def Both (w0 : World) (N g a b h room : Nat) (w' : World) : Prop := ∃ cl u v Vu Vv, Box w' g a b room cl u v ∧ RBox w' N h room cl u v Vu Vv ∧ u.length ≤ room ∧ v.length ≤ room ∧ Below N w0 w' 
def does.T4 : Bool × List (List Nat × List Nat) := (true, [([], []), ([], []), ([1], [1]), ([2], [2]), ([], []), ([4], [4]), ([0, 3, 5], [0, 3, 5]), ([], []), ([], []), ([8], [8]), ([9], [9]), ([], []), ([11], [11]), ([7, 10, 12, 6], [7, 10, 12]), ([6, 13], [6, 13]), ([14, 13, 0, 1, 2, 3, 4, 5, 6, 7, 8, 9, 10, 11, 12, 13, 14], [14])])
def does.B4 : List Nat := [0, 0, 2, 6, 0, 16, 63, 0, 0, 256, 768, 0, 2048, 8191, 16383, 32767]
theorem does.tab4 : rtab .any (opsOf Try.f13 4) = does.T4 := by kernel_rfl
theorem does.bits4 : waitsOk does.T4.2 does.B4 = true := by kernel_rfl
set_option maxHeartbeats 4000000 in
theorem does_put0 (s : ByteArray) {w0 w : World} {N g a b h room : Nat} {cl : Bool} {u v : List ByteArray} {Vu Vv : Value} (hx : Box w g a b room cl u v) (hr : RBox w N h room cl u v Vu Vv) (hu : u.length ≤ room) (hv : v.length ≤ room) (hroom : room ≤ 256) (hb : Below N w0 w) (hg : N ≤ g) (ha : N ≤ a) (hbb : N ≤ b) : Calls Try.prog 13 #[.pointer (some ⟨g, 0, none⟩), .pointer (some ⟨h, 0, none⟩), .agg #[.int .i64 0, .string s]] w fun e w' => e = .returned (.bool true) ∧ Both w0 N g a b h room w' := by
  have HX := Aside0.mk hx
  have HR := Aside0.mk hr
  have HU := Aside0.mk hu
  have HV := Aside0.mk hv
  have HM := Aside0.mk hroom
  have HB := Aside0.mk hb
  have GG := Aside0.mk hg
  have GA := Aside0.mk ha
  have GB := Aside0.mk hbb
  clear hx hr hu hv hroom hb hg ha hbb
  go_enter Try.func13, Try.ntmps13
  go_wp2_with (first | ((with_reducible refine gate_dst (N := 5) rfl ?_); refine box_event ?hg (N := 5) ?hd (cs := #[.int .i64 (0), .string s]) (t := 30) ?hr ?_; (case hd => rfl); (case hg => rfl); (case hr => first | (go_simp; done) | (go_simp; rfl)); intro gb5 hg w1_ hbox hb; have BK5 := Aside0.mk hbox; have n1_ := Aside0.mk (HX.out.below hb); have n2_ := Aside0.mk (HR.out.below hb); have n3_ := Aside0.mk ((RMoves.of_below (N := N) (h := h) hb HR.out.hs).below HB.out); have NE5 := Aside0.mk (show gb5 ≠ h from by have := blk_lt HR.out.hb; omega); clear HX HR HB; have HX := n1_; have HR := n2_; have HB := n3_; have ND5 := Aside0.mk (HX.out.apart BK5.out (by decide)); clear n1_ n2_ n3_ hb hbox hg; have hz0 := (blk_cell BK5.out 0).trans rfl; have hz1 := (blk_cell BK5.out 1).trans rfl))
  have n0_ := Aside0.mk (show w1_.drew.heap[gb5]? = _ from blk_drew BK5.out)
  have n1_ := Aside0.mk (HX.out.below (below_drew (Below.refl _ _)))
  have n2_ := Aside0.mk (HR.out.below (below_drew (Below.refl _ _)))
  have n3_ := Aside0.mk ((RMoves.of_below (N := N) (h := h) (below_drew (Below.refl _ _)) HR.out.hs).below HB.out)
  clear HX HR HB BK5 hz0 hz1
  have BK5 := n0_
  have HX := n1_
  have HR := n2_
  have HB := n3_
  clear n0_ n1_ n2_ n3_
  refine start_ (n := 16) (S := fun w' => w'.cell? ⟨gb5, 0, none⟩ = some (.int .i64 0) ∧ w'.cell? ⟨gb5, 1, none⟩ = some (.string s)) (ds := []) #[false, false, false, false, false, false, false, false, false, false, false, false, false, false, false, false] (by kernel_rfl) rfl rfl ⟨(blk_cell BK5.out 0).trans rfl, (blk_cell BK5.out 1).trans rfl⟩ (fun hHeld => ?_); refine with_tabW does.tab4 does.bits4 (fun HT_ HW_ => ?_)
  refine pure_ (i := 0) (N := some 18) (v := ?_) (a' := ?_) #[true, false, false, false, false, false, false, false, false, false, false, false, false, false, false, false] rfl rfl (any_of HT_.out (by kernel_rfl)) (fun _ _ _ h => h) (Or.inl ⟨by rfl, ?_⟩) ?_ ?_
  rotate_left
  · intro w'
    go_simp
    with_reducible rfl
  rotate_left
  · simp only [Act.put, List.setIfInBounds_toArray, List.set_cons_zero, List.set_cons_succ, i64_w, i32_w]
    rfl
  refine pure_ (i := 1) (N := some 19) (v := ?_) (a' := ?_) #[true, true, false, false, false, false, false, false, false, false, false, false, false, false, false, false] rfl rfl (any_of HT_.out (by kernel_rfl)) (fun _ _ _ h => h) (Or.inl ⟨by rfl, ?_⟩) ?_ ?_
  rotate_left
  · intro w'
    go_simp
    with_reducible rfl
  rotate_left
  · simp only [Act.put, List.setIfInBounds_toArray, List.set_cons_zero, List.set_cons_succ, i64_w, i32_w]
    rfl
  refine pure_ (i := 4) (N := some 22) (v := ?_) (a' := ?_) #[true, true, false, false, true, false, false, false, false, false, false, false, false, false, false, false] rfl rfl (any_of HT_.out (by kernel_rfl)) (fun _ _ _ h => h) (Or.inl ⟨by rfl, ?_⟩) ?_ ?_
  rotate_left
  · intro w'
    go_simp
    with_reducible rfl
  rotate_left
  · simp only [Act.put, List.setIfInBounds_toArray, List.set_cons_zero, List.set_cons_succ, i64_w, i32_w]
    rfl
  refine pure_ (i := 7) (N := some 25) (v := ?_) (a' := ?_) #[true, true, false, false, true, false, false, true, false, false, false, false, false, false, false, false] rfl rfl (any_of HT_.out (by kernel_rfl)) (fun _ _ _ h => h) (Or.inl ⟨by rfl, ?_⟩) ?_ ?_
  rotate_left
  · intro w'
    go_simp
    with_reducible rfl
  rotate_left
  · simp only [Act.put, List.setIfInBounds_toArray, List.set_cons_zero, List.set_cons_succ, i64_w, i32_w]
    rfl
  refine pure_ (i := 8) (N := some 26) (v := ?_) (a' := ?_) #[true, true, false, false, true, false, false, true, true, false, false, false, false, false, false, false] rfl rfl (any_of HT_.out (by kernel_rfl)) (fun _ _ _ h => h) (Or.inl ⟨by rfl, ?_⟩) ?_ ?_
  rotate_left
  · intro w'
    go_simp
    with_reducible rfl
  rotate_left
  · simp only [Act.put, List.setIfInBounds_toArray, List.set_cons_zero, List.set_cons_succ, i64_w, i32_w]
    rfl
  refine pure_ (i := 11) (N := some 29) (v := ?_) (a' := ?_) #[true, true, false, false, true, false, false, true, true, false, false, true, false, false, false, false] rfl rfl (any_of HT_.out (by kernel_rfl)) (fun _ _ _ h => h) (Or.inl ⟨by rfl, ?_⟩) ?_ ?_
  rotate_left
  · intro w'
    go_simp
    with_reducible rfl
  rotate_left
  · simp only [Act.put, List.setIfInBounds_toArray, List.set_cons_zero, List.set_cons_succ, i64_w, i32_w]
    rfl
  refine take_ (i := 2) (N := some 20) (v := ?_) (a' := ?_) #[true, true, true, false, true, false, false, true, true, false, false, true, false, false, false, false] rfl rfl (take_ofW HT_.out HW_.out (by kernel_rfl)) (fun _ _ _ h => h) (Or.inl ⟨by rfl, ?_⟩) hHeld ?_ ?_
  rotate_left
  · rintro w' ⟨s0, s1⟩
    go_simp
    with_reducible rfl
  rotate_left
  · simp only [Act.put, List.setIfInBounds_toArray, List.set_cons_zero, List.set_cons_succ, i64_w, i32_w]
    rfl
  refine pure_ (i := 3) (N := some 21) (v := ?_) (a' := ?_) #[true, true, true, true, true, false, false, true, true, false, false, true, false, false, false, false] rfl rfl (any_of HT_.out (by kernel_rfl)) (fun _ _ _ h => h) (Or.inl ⟨by rfl, ?_⟩) ?_ ?_
  rotate_left
  · intro w'
    go_simp
    with_reducible rfl
  rotate_left
  · simp only [Act.put, List.setIfInBounds_toArray, List.set_cons_zero, List.set_cons_succ, i64_w, i32_w]
    rfl
  refine take_ (i := 5) (N := some 23) (v := ?_) (a' := ?_) #[true, true, true, true, true, true, false, true, true, false, false, true, false, false, false, false] rfl rfl (take_ofW HT_.out HW_.out (by kernel_rfl)) (fun _ _ _ h => h) (Or.inl ⟨by rfl, ?_⟩) hHeld ?_ ?_
  rotate_left
  · rintro w' ⟨s0, s1⟩
    go_simp
    with_reducible rfl
  rotate_left
  · simp only [Act.put, List.setIfInBounds_toArray, List.set_cons_zero, List.set_cons_succ, i64_w, i32_w]
    rfl
  refine take_ (i := 9) (N := some 27) (v := ?_) (a' := ?_) #[true, true, true, true, true, true, false, true, true, true, false, true, false, false, false, false] rfl rfl (take_ofW HT_.out HW_.out (by kernel_rfl)) (fun _ _ _ h => h) (Or.inl ⟨by rfl, ?_⟩) hHeld ?_ ?_
  rotate_left
  · rintro w' ⟨s0, s1⟩
    go_simp
    with_reducible rfl
  rotate_left
  · simp only [Act.put, List.setIfInBounds_toArray, List.set_cons_zero, List.set_cons_succ, i64_w, i32_w]
    rfl
  refine pure_ (i := 10) (N := some 28) (v := ?_) (a' := ?_) #[true, true, true, true, true, true, false, true, true, true, true, true, false, false, false, false] rfl rfl (any_of HT_.out (by kernel_rfl)) (fun _ _ _ h => h) (Or.inl ⟨by rfl, ?_⟩) ?_ ?_
  rotate_left
  · intro w'
    go_simp
    with_reducible rfl
  rotate_left
  · simp only [Act.put, List.setIfInBounds_toArray, List.set_cons_zero, List.set_cons_succ, i64_w, i32_w]
    rfl
  refine take_ (i := 12) (N := some 30) (v := ?_) (a' := ?_) #[true, true, true, true, true, true, false, true, true, true, true, true, true, false, false, false] rfl rfl (take_ofW HT_.out HW_.out (by kernel_rfl)) (fun _ _ _ h => h) (Or.inl ⟨by rfl, ?_⟩) hHeld ?_ ?_
  rotate_left
  · rintro w' ⟨s0, s1⟩
    go_simp
    with_reducible rfl
  rotate_left
  · simp only [Act.put, List.setIfInBounds_toArray, List.set_cons_zero, List.set_cons_succ, i64_w, i32_w]
    rfl
  refine one_ (i := 6) (N := some 24) #[true, true, true, true, true, true, true, true, true, true, true, true, true, false, false, false] rfl rfl (one_of HT_.out (by kernel_rfl)) (by decide) (fun K hK => ?_)
  refine goes_ Try.func8 (by kernel_rfl) rfl #[.pointer (some ⟨g, 0, none⟩), .bool false, .string s] (by rfl) rfl rfl (by (try simp only [List.map_toArray, List.map_cons, List.map_nil]); first | done | rfl) ?_
  refine (inbox_put false s HX.out).mono ?_
  rintro e w2_ ⟨rfl, hx, hk⟩
  refine ⟨_, rfl, ?_⟩
  have n0_ := Aside0.mk (hk.blk BK5.out ND5.out)
  have n2_ := Aside0.mk (HR.out.moves HX.out hk.moves)
  have n3_ := Aside0.mk (hk.below HB.out GG.out GA.out GB.out)
  clear BK5 HR HB HX
  have BK5 := n0_
  have HR := n2_
  have HB := n3_
  have HX := Aside0.mk hx
  clear n0_ n2_ n3_ hx hk
  refine hK.out _ _ ⟨(blk_cell BK5.out 0).trans rfl, (blk_cell BK5.out 1).trans rfl⟩ (fun hHeld => ?_)
  clear hK K
  refine norm_ (a' := ?_) ?_ ?_
  rotate_left
  · show Act.put _ (some 24) _ = _
    simp only [Act.put, List.setIfInBounds_toArray, List.set_cons_zero, List.set_cons_succ, i64_w, i32_w]
    rfl
  refine one_ (i := 13) (N := some 31) #[true, true, true, true, true, true, true, true, true, true, true, true, true, true, false, false] rfl rfl (one_of HT_.out (by kernel_rfl)) (by decide) (fun K hK => ?_)
  refine goes_ Try.func16 (by kernel_rfl) rfl #[.pointer (some ⟨h, 0, none⟩), .bool false, .string s] (by rfl) rfl rfl (by (try simp only [List.map_toArray, List.map_cons, List.map_nil]); first | done | rfl) ?_
  refine (ref_put false s HR.out HU.out HV.out HM.out).mono ?_
  rintro e w3_ ⟨Vu', Vv', rfl, hr, hm⟩
  refine ⟨_, rfl, ?_⟩
  have n0_ := Aside0.mk (hm.blk BK5.out NE5.out (by decide))
  have n2_ := Aside0.mk (HX.out.rmoves (t := 0) hm HR.out.hb)
  have n3_ := Aside0.mk (hm.below HB.out)
  clear BK5 HR HB HX
  have BK5 := n0_
  have HX := n2_
  have HB := n3_
  have HR := Aside0.mk hr
  clear n0_ n2_ n3_ hr hm
  refine hK.out _ _ ⟨(blk_cell BK5.out 0).trans rfl, (blk_cell BK5.out 1).trans rfl⟩ (fun hHeld => ?_)
  clear hK K
  refine norm_ (a' := ?_) ?_ ?_
  rotate_left
  · show Act.put _ (some 31) _ = _
    simp only [Act.put, List.setIfInBounds_toArray, List.set_cons_zero, List.set_cons_succ, i64_w, i32_w]
    rfl
  refine pure_ (i := 14) (N := some 32) (v := ?_) (a' := ?_) #[true, true, true, true, true, true, true, true, true, true, true, true, true, true, true, false] rfl rfl (any_of HT_.out (by kernel_rfl)) (fun _ _ _ h => h) (Or.inl ⟨by rfl, ?_⟩) ?_ ?_
  rotate_left
  · intro w'
    go_simp
    with_reducible rfl
  rotate_left
  · simp only [Act.put, List.setIfInBounds_toArray, List.set_cons_zero, List.set_cons_succ, i64_w, i32_w]
    rfl
  refine pure_ (i := 15) (N := some 6) (v := ?_) (a' := ?_) #[true, true, true, true, true, true, true, true, true, true, true, true, true, true, true, true] rfl rfl (any_of HT_.out (by kernel_rfl)) (fun _ _ _ h => h) (Or.inl ⟨by rfl, ?_⟩) ?_ ?_
  rotate_left
  · intro w'
    go_simp
    with_reducible rfl
  rotate_left
  · simp only [Act.put, List.setIfInBounds_toArray, List.set_cons_zero, List.set_cons_succ, i64_w, i32_w]
    rfl
  refine done_ (done_of HT_.out (by kernel_rfl)) ?_
  go_wp2
  go_ret
  have hl := putV_len room cl false s u v HU.out HV.out
  exact ⟨rfl, _, _, _, _, _, HX.out, HR.out, hl.1, hl.2, HB.out⟩
set_option maxHeartbeats 4000000 in
theorem does_put1 (s : ByteArray) {w0 w : World} {N g a b h room : Nat} {cl : Bool} {u v : List ByteArray} {Vu Vv : Value} (hx : Box w g a b room cl u v) (hr : RBox w N h room cl u v Vu Vv) (hu : u.length ≤ room) (hv : v.length ≤ room) (hroom : room ≤ 256) (hb : Below N w0 w) (hg : N ≤ g) (ha : N ≤ a) (hbb : N ≤ b) : Calls Try.prog 13 #[.pointer (some ⟨g, 0, none⟩), .pointer (some ⟨h, 0, none⟩), .agg #[.int .i64 1, .string s]] w fun e w' => e = .returned (.bool true) ∧ Both w0 N g a b h room w' := by
  have HX := Aside0.mk hx
  have HR := Aside0.mk hr
  have HU := Aside0.mk hu
  have HV := Aside0.mk hv
  have HM := Aside0.mk hroom
  have HB := Aside0.mk hb
  have GG := Aside0.mk hg
  have GA := Aside0.mk ha
  have GB := Aside0.mk hbb
  clear hx hr hu hv hroom hb hg ha hbb
  go_enter Try.func13, Try.ntmps13
  go_wp2_with (first | ((with_reducible refine gate_dst (N := 5) rfl ?_); refine box_event ?hg (N := 5) ?hd (cs := #[.int .i64 (1), .string s]) (t := 30) ?hr ?_; (case hd => rfl); (case hg => rfl); (case hr => first | (go_simp; done) | (go_simp; rfl)); intro gb5 hg w1_ hbox hb; have BK5 := Aside0.mk hbox; have n1_ := Aside0.mk (HX.out.below hb); have n2_ := Aside0.mk (HR.out.below hb); have n3_ := Aside0.mk ((RMoves.of_below (N := N) (h := h) hb HR.out.hs).below HB.out); have NE5 := Aside0.mk (show gb5 ≠ h from by have := blk_lt HR.out.hb; omega); clear HX HR HB; have HX := n1_; have HR := n2_; have HB := n3_; have ND5 := Aside0.mk (HX.out.apart BK5.out (by decide)); clear n1_ n2_ n3_ hb hbox hg; have hz0 := (blk_cell BK5.out 0).trans rfl; have hz1 := (blk_cell BK5.out 1).trans rfl))
  have n0_ := Aside0.mk (show w1_.drew.heap[gb5]? = _ from blk_drew BK5.out)
  have n1_ := Aside0.mk (HX.out.below (below_drew (Below.refl _ _)))
  have n2_ := Aside0.mk (HR.out.below (below_drew (Below.refl _ _)))
  have n3_ := Aside0.mk ((RMoves.of_below (N := N) (h := h) (below_drew (Below.refl _ _)) HR.out.hs).below HB.out)
  clear HX HR HB BK5 hz0 hz1
  have BK5 := n0_
  have HX := n1_
  have HR := n2_
  have HB := n3_
  clear n0_ n1_ n2_ n3_
  refine start_ (n := 16) (S := fun w' => w'.cell? ⟨gb5, 0, none⟩ = some (.int .i64 1) ∧ w'.cell? ⟨gb5, 1, none⟩ = some (.string s)) (ds := []) #[false, false, false, false, false, false, false, false, false, false, false, false, false, false, false, false] (by kernel_rfl) rfl rfl ⟨(blk_cell BK5.out 0).trans rfl, (blk_cell BK5.out 1).trans rfl⟩ (fun hHeld => ?_); refine with_tabW does.tab4 does.bits4 (fun HT_ HW_ => ?_)
  refine pure_ (i := 0) (N := some 18) (v := ?_) (a' := ?_) #[true, false, false, false, false, false, false, false, false, false, false, false, false, false, false, false] rfl rfl (any_of HT_.out (by kernel_rfl)) (fun _ _ _ h => h) (Or.inl ⟨by rfl, ?_⟩) ?_ ?_
  rotate_left
  · intro w'
    go_simp
    with_reducible rfl
  rotate_left
  · simp only [Act.put, List.setIfInBounds_toArray, List.set_cons_zero, List.set_cons_succ, i64_w, i32_w]
    rfl
  refine pure_ (i := 1) (N := some 19) (v := ?_) (a' := ?_) #[true, true, false, false, false, false, false, false, false, false, false, false, false, false, false, false] rfl rfl (any_of HT_.out (by kernel_rfl)) (fun _ _ _ h => h) (Or.inl ⟨by rfl, ?_⟩) ?_ ?_
  rotate_left
  · intro w'
    go_simp
    with_reducible rfl
  rotate_left
  · simp only [Act.put, List.setIfInBounds_toArray, List.set_cons_zero, List.set_cons_succ, i64_w, i32_w]
    rfl
  refine pure_ (i := 4) (N := some 22) (v := ?_) (a' := ?_) #[true, true, false, false, true, false, false, false, false, false, false, false, false, false, false, false] rfl rfl (any_of HT_.out (by kernel_rfl)) (fun _ _ _ h => h) (Or.inl ⟨by rfl, ?_⟩) ?_ ?_
  rotate_left
  · intro w'
    go_simp
    with_reducible rfl
  rotate_left
  · simp only [Act.put, List.setIfInBounds_toArray, List.set_cons_zero, List.set_cons_succ, i64_w, i32_w]
    rfl
  refine pure_ (i := 7) (N := some 25) (v := ?_) (a' := ?_) #[true, true, false, false, true, false, false, true, false, false, false, false, false, false, false, false] rfl rfl (any_of HT_.out (by kernel_rfl)) (fun _ _ _ h => h) (Or.inl ⟨by rfl, ?_⟩) ?_ ?_
  rotate_left
  · intro w'
    go_simp
    with_reducible rfl
  rotate_left
  · simp only [Act.put, List.setIfInBounds_toArray, List.set_cons_zero, List.set_cons_succ, i64_w, i32_w]
    rfl
  refine pure_ (i := 8) (N := some 26) (v := ?_) (a' := ?_) #[true, true, false, false, true, false, false, true, true, false, false, false, false, false, false, false] rfl rfl (any_of HT_.out (by kernel_rfl)) (fun _ _ _ h => h) (Or.inl ⟨by rfl, ?_⟩) ?_ ?_
  rotate_left
  · intro w'
    go_simp
    with_reducible rfl
  rotate_left
  · simp only [Act.put, List.setIfInBounds_toArray, List.set_cons_zero, List.set_cons_succ, i64_w, i32_w]
    rfl
  refine pure_ (i := 11) (N := some 29) (v := ?_) (a' := ?_) #[true, true, false, false, true, false, false, true, true, false, false, true, false, false, false, false] rfl rfl (any_of HT_.out (by kernel_rfl)) (fun _ _ _ h => h) (Or.inl ⟨by rfl, ?_⟩) ?_ ?_
  rotate_left
  · intro w'
    go_simp
    with_reducible rfl
  rotate_left
  · simp only [Act.put, List.setIfInBounds_toArray, List.set_cons_zero, List.set_cons_succ, i64_w, i32_w]
    rfl
  refine take_ (i := 2) (N := some 20) (v := ?_) (a' := ?_) #[true, true, true, false, true, false, false, true, true, false, false, true, false, false, false, false] rfl rfl (take_ofW HT_.out HW_.out (by kernel_rfl)) (fun _ _ _ h => h) (Or.inl ⟨by rfl, ?_⟩) hHeld ?_ ?_
  rotate_left
  · rintro w' ⟨s0, s1⟩
    go_simp
    with_reducible rfl
  rotate_left
  · simp only [Act.put, List.setIfInBounds_toArray, List.set_cons_zero, List.set_cons_succ, i64_w, i32_w]
    rfl
  refine pure_ (i := 3) (N := some 21) (v := ?_) (a' := ?_) #[true, true, true, true, true, false, false, true, true, false, false, true, false, false, false, false] rfl rfl (any_of HT_.out (by kernel_rfl)) (fun _ _ _ h => h) (Or.inl ⟨by rfl, ?_⟩) ?_ ?_
  rotate_left
  · intro w'
    go_simp
    with_reducible rfl
  rotate_left
  · simp only [Act.put, List.setIfInBounds_toArray, List.set_cons_zero, List.set_cons_succ, i64_w, i32_w]
    rfl
  refine take_ (i := 5) (N := some 23) (v := ?_) (a' := ?_) #[true, true, true, true, true, true, false, true, true, false, false, true, false, false, false, false] rfl rfl (take_ofW HT_.out HW_.out (by kernel_rfl)) (fun _ _ _ h => h) (Or.inl ⟨by rfl, ?_⟩) hHeld ?_ ?_
  rotate_left
  · rintro w' ⟨s0, s1⟩
    go_simp
    with_reducible rfl
  rotate_left
  · simp only [Act.put, List.setIfInBounds_toArray, List.set_cons_zero, List.set_cons_succ, i64_w, i32_w]
    rfl
  refine take_ (i := 9) (N := some 27) (v := ?_) (a' := ?_) #[true, true, true, true, true, true, false, true, true, true, false, true, false, false, false, false] rfl rfl (take_ofW HT_.out HW_.out (by kernel_rfl)) (fun _ _ _ h => h) (Or.inl ⟨by rfl, ?_⟩) hHeld ?_ ?_
  rotate_left
  · rintro w' ⟨s0, s1⟩
    go_simp
    with_reducible rfl
  rotate_left
  · simp only [Act.put, List.setIfInBounds_toArray, List.set_cons_zero, List.set_cons_succ, i64_w, i32_w]
    rfl
  refine pure_ (i := 10) (N := some 28) (v := ?_) (a' := ?_) #[true, true, true, true, true, true, false, true, true, true, true, true, false, false, false, false] rfl rfl (any_of HT_.out (by kernel_rfl)) (fun _ _ _ h => h) (Or.inl ⟨by rfl, ?_⟩) ?_ ?_
  rotate_left
  · intro w'
    go_simp
    with_reducible rfl
  rotate_left
  · simp only [Act.put, List.setIfInBounds_toArray, List.set_cons_zero, List.set_cons_succ, i64_w, i32_w]
    rfl
  refine take_ (i := 12) (N := some 30) (v := ?_) (a' := ?_) #[true, true, true, true, true, true, false, true, true, true, true, true, true, false, false, false] rfl rfl (take_ofW HT_.out HW_.out (by kernel_rfl)) (fun _ _ _ h => h) (Or.inl ⟨by rfl, ?_⟩) hHeld ?_ ?_
  rotate_left
  · rintro w' ⟨s0, s1⟩
    go_simp
    with_reducible rfl
  rotate_left
  · simp only [Act.put, List.setIfInBounds_toArray, List.set_cons_zero, List.set_cons_succ, i64_w, i32_w]
    rfl
  refine one_ (i := 6) (N := some 24) #[true, true, true, true, true, true, true, true, true, true, true, true, true, false, false, false] rfl rfl (one_of HT_.out (by kernel_rfl)) (by decide) (fun K hK => ?_)
  refine goes_ Try.func8 (by kernel_rfl) rfl #[.pointer (some ⟨g, 0, none⟩), .bool true, .string s] (by rfl) rfl rfl (by (try simp only [List.map_toArray, List.map_cons, List.map_nil]); first | done | rfl) ?_
  refine (inbox_put true s HX.out).mono ?_
  rintro e w2_ ⟨rfl, hx, hk⟩
  refine ⟨_, rfl, ?_⟩
  have n0_ := Aside0.mk (hk.blk BK5.out ND5.out)
  have n2_ := Aside0.mk (HR.out.moves HX.out hk.moves)
  have n3_ := Aside0.mk (hk.below HB.out GG.out GA.out GB.out)
  clear BK5 HR HB HX
  have BK5 := n0_
  have HR := n2_
  have HB := n3_
  have HX := Aside0.mk hx
  clear n0_ n2_ n3_ hx hk
  refine hK.out _ _ ⟨(blk_cell BK5.out 0).trans rfl, (blk_cell BK5.out 1).trans rfl⟩ (fun hHeld => ?_)
  clear hK K
  refine norm_ (a' := ?_) ?_ ?_
  rotate_left
  · show Act.put _ (some 24) _ = _
    simp only [Act.put, List.setIfInBounds_toArray, List.set_cons_zero, List.set_cons_succ, i64_w, i32_w]
    rfl
  refine one_ (i := 13) (N := some 31) #[true, true, true, true, true, true, true, true, true, true, true, true, true, true, false, false] rfl rfl (one_of HT_.out (by kernel_rfl)) (by decide) (fun K hK => ?_)
  refine goes_ Try.func16 (by kernel_rfl) rfl #[.pointer (some ⟨h, 0, none⟩), .bool true, .string s] (by rfl) rfl rfl (by (try simp only [List.map_toArray, List.map_cons, List.map_nil]); first | done | rfl) ?_
  refine (ref_put true s HR.out HU.out HV.out HM.out).mono ?_
  rintro e w3_ ⟨Vu', Vv', rfl, hr, hm⟩
  refine ⟨_, rfl, ?_⟩
  have n0_ := Aside0.mk (hm.blk BK5.out NE5.out (by decide))
  have n2_ := Aside0.mk (HX.out.rmoves (t := 0) hm HR.out.hb)
  have n3_ := Aside0.mk (hm.below HB.out)
  clear BK5 HR HB HX
  have BK5 := n0_
  have HX := n2_
  have HB := n3_
  have HR := Aside0.mk hr
  clear n0_ n2_ n3_ hr hm
  refine hK.out _ _ ⟨(blk_cell BK5.out 0).trans rfl, (blk_cell BK5.out 1).trans rfl⟩ (fun hHeld => ?_)
  clear hK K
  refine norm_ (a' := ?_) ?_ ?_
  rotate_left
  · show Act.put _ (some 31) _ = _
    simp only [Act.put, List.setIfInBounds_toArray, List.set_cons_zero, List.set_cons_succ, i64_w, i32_w]
    rfl
  refine pure_ (i := 14) (N := some 32) (v := ?_) (a' := ?_) #[true, true, true, true, true, true, true, true, true, true, true, true, true, true, true, false] rfl rfl (any_of HT_.out (by kernel_rfl)) (fun _ _ _ h => h) (Or.inl ⟨by rfl, ?_⟩) ?_ ?_
  rotate_left
  · intro w'
    go_simp
    with_reducible rfl
  rotate_left
  · simp only [Act.put, List.setIfInBounds_toArray, List.set_cons_zero, List.set_cons_succ, i64_w, i32_w]
    rfl
  refine pure_ (i := 15) (N := some 6) (v := ?_) (a' := ?_) #[true, true, true, true, true, true, true, true, true, true, true, true, true, true, true, true] rfl rfl (any_of HT_.out (by kernel_rfl)) (fun _ _ _ h => h) (Or.inl ⟨by rfl, ?_⟩) ?_ ?_
  rotate_left
  · intro w'
    go_simp
    with_reducible rfl
  rotate_left
  · simp only [Act.put, List.setIfInBounds_toArray, List.set_cons_zero, List.set_cons_succ, i64_w, i32_w]
    rfl
  refine done_ (done_of HT_.out (by kernel_rfl)) ?_
  go_wp2
  go_ret
  have hl := putV_len room cl true s u v HU.out HV.out
  exact ⟨rfl, _, _, _, _, _, HX.out, HR.out, hl.1, hl.2, HB.out⟩
set_option maxHeartbeats 4000000 in
theorem does_take (s : ByteArray) {w0 w : World} {N g a b h room : Nat} {cl : Bool} {u v : List ByteArray} {Vu Vv : Value} (hx : Box w g a b room cl u v) (hr : RBox w N h room cl u v Vu Vv) (hu : u.length ≤ room) (hv : v.length ≤ room) (hroom : room ≤ 256) (hb : Below N w0 w) (hg : N ≤ g) (ha : N ≤ a) (hbb : N ≤ b) : Calls Try.prog 13 #[.pointer (some ⟨g, 0, none⟩), .pointer (some ⟨h, 0, none⟩), .agg #[.int .i64 2, .string s]] w fun e w' => e = .returned (.bool true) ∧ Both w0 N g a b h room w' := by
  have HX := Aside0.mk hx
  have HR := Aside0.mk hr
  have HU := Aside0.mk hu
  have HV := Aside0.mk hv
  have HM := Aside0.mk hroom
  have HB := Aside0.mk hb
  have GG := Aside0.mk hg
  have GA := Aside0.mk ha
  have GB := Aside0.mk hbb
  clear hx hr hu hv hroom hb hg ha hbb
  go_enter Try.func13, Try.ntmps13
  obtain ⟨⟨x, pp, ee, u', v'⟩, ht⟩ : ∃ r, takeV u v = r := ⟨_, rfl⟩
  have HT := Aside0.mk ht
  have hl := takeV_len u v
  rw [ht] at hl
  have HL := Aside0.mk hl
  clear ht hl
  go_wp2_with (first | ((with_reducible refine gate_dst (N := 5) rfl ?_); refine box_event ?hg (N := 5) ?hd (cs := #[.int .i64 (2), .string s]) (t := 30) ?hr ?_; (case hd => rfl); (case hg => rfl); (case hr => first | (go_simp; done) | (go_simp; rfl)); intro gb5 hg w1_ hbox hb; have BK5 := Aside0.mk hbox; have n1_ := Aside0.mk (HX.out.below hb); have n2_ := Aside0.mk (HR.out.below hb); have n3_ := Aside0.mk ((RMoves.of_below (N := N) (h := h) hb HR.out.hs).below HB.out); have NE5 := Aside0.mk (show gb5 ≠ h from by have := blk_lt HR.out.hb; omega); clear HX HR HB; have HX := n1_; have HR := n2_; have HB := n3_; have ND5 := Aside0.mk (HX.out.apart BK5.out (by decide)); clear n1_ n2_ n3_ hb hbox hg; have hz0 := (blk_cell BK5.out 0).trans rfl; have hz1 := (blk_cell BK5.out 1).trans rfl) | (go_at_call 9; with_reducible refine (inbox_take HX.out).mono ?_; rintro e_ w2_ ⟨he, hx, hk⟩; rw [HT.out] at he hx; dsimp only at he hx; subst he; have n2_ := Aside0.mk (HR.out.moves HX.out hk.moves); have n3_ := Aside0.mk (hk.below HB.out GG.out GA.out GB.out); clear HR HB HX hz0 hz1; have HR := n2_; have HB := n3_; have HX := Aside0.mk hx; clear n2_ n3_ hx hk) | (go_at_call 17; with_reducible refine (ref_take HR.out).mono ?_; rintro e_ w3_ ⟨Vu', Vv', he, hr, hm⟩; rw [HT.out] at he hr; dsimp only at he hr; subst he; have n2_ := Aside0.mk (HX.out.rmoves (t := 0) hm HR.out.hb); have n3_ := Aside0.mk (hm.below HB.out); clear HR HB HX; have HX := n2_; have HB := n3_; have HR := Aside0.mk hr; clear n2_ n3_ hr hm))
  go_ret
  exact ⟨rfl, _, _, _, _, _, HX.out, HR.out, Nat.le_trans HL.out.1 HU.out, Nat.le_trans HL.out.2 HV.out, HB.out⟩
set_option maxHeartbeats 4000000 in
theorem does_drain (s : ByteArray) {w0 w : World} {N g a b h room : Nat} {cl : Bool} {u v : List ByteArray} {Vu Vv : Value} (hx : Box w g a b room cl u v) (hr : RBox w N h room cl u v Vu Vv) (hu : u.length ≤ room) (hv : v.length ≤ room) (hroom : room ≤ 256) (hb : Below N w0 w) (hg : N ≤ g) (ha : N ≤ a) (hbb : N ≤ b) : Calls Try.prog 13 #[.pointer (some ⟨g, 0, none⟩), .pointer (some ⟨h, 0, none⟩), .agg #[.int .i64 3, .string s]] w fun e w' => e = .returned (.bool true) ∧ Both w0 N g a b h room w' := by
  have HX := Aside0.mk hx
  have HR := Aside0.mk hr
  have HU := Aside0.mk hu
  have HV := Aside0.mk hv
  have HM := Aside0.mk hroom
  have HB := Aside0.mk hb
  have GG := Aside0.mk hg
  have GA := Aside0.mk ha
  have GB := Aside0.mk hbb
  clear hx hr hu hv hroom hb hg ha hbb
  go_enter Try.func13, Try.ntmps13
  obtain ⟨rs, hrs⟩ : ∃ rs, rs = u ++ v := ⟨_, rfl⟩
  have HRS := Aside0.mk hrs
  have HRL := Aside0.mk (show rs.length ≤ 1000000 by have := HU.out; have := HV.out; have := HM.out; rw [hrs, List.length_append]; omega)
  have HUV := Aside0.mk (show u.length + v.length ≤ 1000000 by have := HU.out; have := HV.out; have := HM.out; omega)
  clear hrs
  go_wp2_with (first | ((with_reducible refine gate_dst (N := 5) rfl ?_); refine box_event ?hg (N := 5) ?hd (cs := #[.int .i64 (3), .string s]) (t := 30) ?hr ?_; (case hd => rfl); (case hg => rfl); (case hr => first | (go_simp; done) | (go_simp; rfl)); intro gb5 hg w1_ hbox hb; have BK5 := Aside0.mk hbox; have n1_ := Aside0.mk (HX.out.below hb); have n2_ := Aside0.mk (HR.out.below hb); have n3_ := Aside0.mk ((RMoves.of_below (N := N) (h := h) hb HR.out.hs).below HB.out); have NE5 := Aside0.mk (show gb5 ≠ h from by have := blk_lt HR.out.hb; omega); clear HX HR HB; have HX := n1_; have HR := n2_; have HB := n3_; have ND5 := Aside0.mk (HX.out.apart BK5.out (by decide)); clear n1_ n2_ n3_ hb hbox hg; have hz0 := (blk_cell BK5.out 0).trans rfl; have hz1 := (blk_cell BK5.out 1).trans rfl) | (go_at_call 10; with_reducible refine (inbox_drain HX.out HUV.out).mono ?_; rintro e_ w2_ ⟨r_, rfl, hr, hx, hm⟩; rw [← HRS.out] at hr; obtain ⟨A1, c1, he1, hc1⟩ := Kd.R_slice' hr; subst he1; have n2_ := Aside0.mk (HR.out.moves HX.out hm); have n3_ := Aside0.mk (hm.below HB.out HR.out.hs GG.out GA.out GB.out); have HC1 := Aside0.mk hc1; have HO1 := Aside0.mk hr; clear HR HB HX hz0 hz1 hc1; have HR := n2_; have HB := n3_; have HX := Aside0.mk hx; clear n2_ n3_ hx hm hr) | (go_at_call 18; with_reducible refine (ref_drain HR.out HUV.out).mono ?_; rintro e_ w3_ ⟨r_, rfl, ho, hr, hm, hf⟩; rw [← HRS.out] at ho; obtain ⟨A2, c2, he2, hc2⟩ := Kd.R_slice' ho; subst he2; have n1_ := Aside0.mk (Kd.R_mono (Kd.R_step (Kd.R_types HO1.out HR.out.hb (by decide)) (fun k hk hlt => hf k hlt hk.2)) (fun _ hk => hk.1)); have n2_ := Aside0.mk (HX.out.rmoves (t := 0) hm HR.out.hb); have n3_ := Aside0.mk (hm.below HB.out); have HC2 := Aside0.mk hc2; have HO2 := Aside0.mk ho; clear HR HB HX HO1 hc2; have HO1 := n1_; have HX := n2_; have HB := n3_; have HR := Aside0.mk hr; clear n1_ n2_ n3_ hr hm ho hf) | (go_at_call 11; with_reducible refine (sextonplain_Texts.calls (rs.length + 1) A1 c1 rs A2 c2 rs true _ ?tc0 ?tc1 ?tc2 ?tc3 ?tc4).mono ?_; (case tc0 => exact (Kd.R_reads' HO1.out).2.2); (case tc1 => exact HC1.out); (case tc2 => exact (Kd.R_reads' HO2.out).2.2); (case tc3 => exact HC2.out); (case tc4 => exact texts_same rs HRL.out); rintro e_ w4_ ⟨rfl, hd⟩; have n1_ := Aside0.mk (HX.out.below hd.below); have n2_ := Aside0.mk (HR.out.below hd.below); have n3_ := Aside0.mk ((RMoves.of_below (N := N) (h := h) hd.below HR.out.hs).below HB.out); clear HX HR HB HO1 HO2; have HX := n1_; have HR := n2_; have HB := n3_; clear n1_ n2_ n3_ hd))
  go_ret
  exact ⟨rfl, _, _, _, _, _, HX.out, HR.out, by simp, by simp, HB.out⟩
set_option maxHeartbeats 4000000 in
theorem does_close (s : ByteArray) {w0 w : World} {N g a b h room : Nat} {cl : Bool} {u v : List ByteArray} {Vu Vv : Value} (hx : Box w g a b room cl u v) (hr : RBox w N h room cl u v Vu Vv) (hu : u.length ≤ room) (hv : v.length ≤ room) (hroom : room ≤ 256) (hb : Below N w0 w) (hg : N ≤ g) (ha : N ≤ a) (hbb : N ≤ b) : Calls Try.prog 13 #[.pointer (some ⟨g, 0, none⟩), .pointer (some ⟨h, 0, none⟩), .agg #[.int .i64 4, .string s]] w fun e w' => e = .returned (.bool true) ∧ Both w0 N g a b h room w' := by
  have HX := Aside0.mk hx
  have HR := Aside0.mk hr
  have HU := Aside0.mk hu
  have HV := Aside0.mk hv
  have HM := Aside0.mk hroom
  have HB := Aside0.mk hb
  have GG := Aside0.mk hg
  have GA := Aside0.mk ha
  have GB := Aside0.mk hbb
  clear hx hr hu hv hroom hb hg ha hbb
  go_enter Try.func13, Try.ntmps13
  go_wp2_with (first | ((with_reducible refine gate_dst (N := 5) rfl ?_); refine box_event ?hg (N := 5) ?hd (cs := #[.int .i64 (4), .string s]) (t := 30) ?hr ?_; (case hd => rfl); (case hg => rfl); (case hr => first | (go_simp; done) | (go_simp; rfl)); intro gb5 hg w1_ hbox hb; have BK5 := Aside0.mk hbox; have n1_ := Aside0.mk (HX.out.below hb); have n2_ := Aside0.mk (HR.out.below hb); have n3_ := Aside0.mk ((RMoves.of_below (N := N) (h := h) hb HR.out.hs).below HB.out); have NE5 := Aside0.mk (show gb5 ≠ h from by have := blk_lt HR.out.hb; omega); clear HX HR HB; have HX := n1_; have HR := n2_; have HB := n3_; have ND5 := Aside0.mk (HX.out.apart BK5.out (by decide)); clear n1_ n2_ n3_ hb hbox hg; have hz0 := (blk_cell BK5.out 0).trans rfl; have hz1 := (blk_cell BK5.out 1).trans rfl) | (go_at_call 15; with_reducible refine (inbox_close HX.out).mono ?_; rintro e_ w2_ ⟨rfl, hx, hk⟩; have n2_ := Aside0.mk (HR.out.moves HX.out hk.moves); have n3_ := Aside0.mk (hk.below HB.out GG.out GA.out GB.out); clear HR HB HX hz0 hz1; have HR := n2_; have HB := n3_; have HX := Aside0.mk hx; clear n2_ n3_ hx hk; have hz3 := (blk_cell HR.out.hb 3).trans rfl; have hf3 := blk_frozen HR.out.hb 3))
  go_ret
  have hm := RMoves.of_set (N := N) (h := h) w2_ HR.out.hN 3 (.bool true)
  exact ⟨rfl, true, u, v, Vu, Vv, HX.out.rmoves (t := 0) hm HR.out.hb, ⟨blk_put (cs := #[.int .i64 (room : Int), Vu, Vv, .bool cl]) HR.out.hb 3 _ rfl, Kd.Q_set HR.out.hu HR.out.hb (by decide) 3 _, Kd.Q_set HR.out.hv HR.out.hb (by decide) 3 _, HR.out.hN, by simp; exact HR.out.hs⟩, HU.out, HV.out, hm.below HB.out⟩
set_option maxHeartbeats 4000000 in
theorem does_else (t : Int) (h0 : t ≠ 0) (h1 : t ≠ 1) (h2 : t ≠ 2) (h3 : t ≠ 3) (h4 : t ≠ 4) (s : ByteArray) {w0 w : World} {N g a b h room : Nat} {cl : Bool} {u v : List ByteArray} {Vu Vv : Value} (hx : Box w g a b room cl u v) (hr : RBox w N h room cl u v Vu Vv) (hu : u.length ≤ room) (hv : v.length ≤ room) (hroom : room ≤ 256) (hb : Below N w0 w) (hg : N ≤ g) (ha : N ≤ a) (hbb : N ≤ b) : Calls Try.prog 13 #[.pointer (some ⟨g, 0, none⟩), .pointer (some ⟨h, 0, none⟩), .agg #[.int .i64 t, .string s]] w fun e w' => e = .returned (.bool true) ∧ Both w0 N g a b h room w' := by
  have b0 : (t == 0) = false := beq_eq_false_iff_ne.mpr h0
  have b1 : (t == 1) = false := beq_eq_false_iff_ne.mpr h1
  have b2 : (t == 2) = false := beq_eq_false_iff_ne.mpr h2
  have b3 : (t == 3) = false := beq_eq_false_iff_ne.mpr h3
  have b4 : (t == 4) = false := beq_eq_false_iff_ne.mpr h4
  clear h0 h1 h2 h3 h4
  have HX := Aside0.mk hx
  have HR := Aside0.mk hr
  have HU := Aside0.mk hu
  have HV := Aside0.mk hv
  have HM := Aside0.mk hroom
  have HB := Aside0.mk hb
  have GG := Aside0.mk hg
  have GA := Aside0.mk ha
  have GB := Aside0.mk hbb
  clear hx hr hu hv hroom hb hg ha hbb
  go_enter Try.func13, Try.ntmps13
  go_wp2_with (first | ((with_reducible refine gate_dst (N := 5) rfl ?_); refine box_event ?hg (N := 5) ?hd (cs := #[.int .i64 (t), .string s]) (t := 30) ?hr ?_; (case hd => rfl); (case hg => rfl); (case hr => first | (go_simp; done) | (go_simp; rfl)); intro gb5 hg w1_ hbox hb; have BK5 := Aside0.mk hbox; have n1_ := Aside0.mk (HX.out.below hb); have n2_ := Aside0.mk (HR.out.below hb); have n3_ := Aside0.mk ((RMoves.of_below (N := N) (h := h) hb HR.out.hs).below HB.out); have NE5 := Aside0.mk (show gb5 ≠ h from by have := blk_lt HR.out.hb; omega); clear HX HR HB; have HX := n1_; have HR := n2_; have HB := n3_; have ND5 := Aside0.mk (HX.out.apart BK5.out (by decide)); clear n1_ n2_ n3_ hb hbox hg; have hz0 := (blk_cell BK5.out 0).trans rfl; have hz1 := (blk_cell BK5.out 1).trans rfl))
  go_ret
  exact ⟨rfl, _, _, _, _, _, HX.out, HR.out, HU.out, HV.out, HB.out⟩
theorem inbox_does (t : Int) (s : ByteArray) {w0 w : World} {N g a b h room : Nat} {cl : Bool} {u v : List ByteArray} {Vu Vv : Value} (hx : Box w g a b room cl u v) (hr : RBox w N h room cl u v Vu Vv) (hu : u.length ≤ room) (hv : v.length ≤ room) (hroom : room ≤ 256) (hb : Below N w0 w) (hg : N ≤ g) (ha : N ≤ a) (hbb : N ≤ b) : Calls Try.prog 13 #[.pointer (some ⟨g, 0, none⟩), .pointer (some ⟨h, 0, none⟩), .agg #[.int .i64 t, .string s]] w fun e w' => e = .returned (.bool true) ∧ Both w0 N g a b h room w' := by
  by_cases h0 : t = 0
  · subst h0; exact does_put0 s hx hr hu hv hroom hb hg ha hbb
  · by_cases h1 : t = 1
    · subst h1; exact does_put1 s hx hr hu hv hroom hb hg ha hbb
    · by_cases h2 : t = 2
      · subst h2; exact does_take s hx hr hu hv hroom hb hg ha hbb
      · by_cases h3 : t = 3
        · subst h3; exact does_drain s hx hr hu hv hroom hb hg ha hbb
        · by_cases h4 : t = 4
          · subst h4; exact does_close s hx hr hu hv hroom hb hg ha hbb
          · exact does_else t h0 h1 h2 h3 h4 s hx hr hu hv hroom hb hg ha hbb
end Go.Proofs.Ythmeagbfoccnlaa.FA
