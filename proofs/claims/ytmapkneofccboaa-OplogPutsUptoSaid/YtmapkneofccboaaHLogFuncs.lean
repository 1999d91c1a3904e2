/- Written by hand (wip/tools/gen_log8.py): the closures of Put, ContainsFunc, IsSortedFunc (that they answer), Behind. -/
import Derived.Test.YtmapkneofccboaaHLogCut
import Derived.Test.YtmapkneofccboaaHandV
namespace Go.Proofs.Ytmapkneofccboaa.FA
open Go.RowKit Go.Proofs.YtmapkneofccboaaW.PrintWords Go.Proofs.YtmapkneofccboaaW.PrintLast Go.Proofs.YtmapkneofccboaaW.PrintMore Go.Proofs.Ytmapkneofccboaa.Hand Go.Proofs.Ytmapkneofccboaa.B
set_option linter.unusedVariables false
set_option linter.unusedSimpArgs false
theorem meas_u (a n : Nat) (h : n < a) : ((a : Int) - intOf (.int .i64 ((n + 1 : Nat) : Int))).toNat < ((a : Int) - intOf (.int .i64 (n : Int))).toNat := by simp only [intOf]; omega
theorem meas_d (n : Nat) (h : 0 < n) : (intOf (.int .i64 ((n - 1 : Nat) : Int))).toNat < (intOf (.int .i64 (n : Int))).toNat := by simp only [intOf]; omega
theorem put1_calls (x : S30) (w : World) : Calls Try.prog 30 #[.agg #[.int .i64 x.f0, .int .i64 x.f1, .int .i64 x.f2, .string x.f3]] w fun e w' => e = .returned (.bool (!rightB x)) ∧ Below w.heap.size w w' := by
  have HF := Aside0.mk (right_is x)
  have HB := Aside0.mk (Below.refl w.heap.size w)
  go_enter Try.func30, Try.ntmps30
  go_wp2_with (first | ((with_reducible refine gate_dst (N := 1) rfl ?_); refine box_event ?hg (N := 1) ?hd (cs := #[.int .i64 x.f0, .int .i64 x.f1, .int .i64 x.f2, .string x.f3]) (t := 30) ?hr ?_; (case hd => rfl); (case hg => rfl); (case hr => first | (go_simp; done) | (go_simp; rfl)); intro gb1 hg w1_ hbox hb; have BK1 := Aside0.mk hbox; have n1_ := Aside0.mk (below_step HB.out hb); clear HB; have HB := n1_; clear n1_ hb hbox hg; have ha0 := (blk_cell BK1.out 0).trans rfl; have ha1 := (blk_cell BK1.out 1).trans rfl; have ha2 := (blk_cell BK1.out 2).trans rfl; have ha3 := (blk_cell BK1.out 3).trans rfl) | (go_at_call 26; (with_reducible refine (oplog_right.calls x.f0 x.f1 x.f2 x.f3 (rightB x) _ HF.out).mono ?_); rintro e_ w2_ ⟨rfl, hb⟩; have n1_ := Aside0.mk (below_step HB.out hb); clear HB; have HB := n1_; clear n1_ hb))
  go_ret
  exact ⟨rfl, HB.out⟩
theorem put2_calls (x y : S30) (w : World) : Calls Try.prog 32 #[.agg #[.int .i64 x.f0, .int .i64 x.f1, .int .i64 x.f2, .string x.f3], .agg #[.int .i64 y.f0, .int .i64 y.f1, .int .i64 y.f2, .string y.f3]] w fun e w' => e = .returned (.int .i64 (wrap64 (x.f0 - y.f0))) ∧ Below w.heap.size w w' := by
  have HB := Aside0.mk (Below.refl w.heap.size w)
  go_enter Try.func32, Try.ntmps32
  go_wp2_with (first | ((with_reducible refine gate_dst (N := 2) rfl ?_); refine box_event ?hg (N := 2) ?hd (cs := #[.int .i64 x.f0, .int .i64 x.f1, .int .i64 x.f2, .string x.f3]) (t := 30) ?hr ?_; (case hd => rfl); (case hg => rfl); (case hr => first | (go_simp; done) | (go_simp; rfl)); intro gb2 hg w1_ hbox hb; have BK2 := Aside0.mk hbox; have n1_ := Aside0.mk (below_step HB.out hb); clear HB; have HB := n1_; clear n1_ hb hbox hg; have ha0 := (blk_cell BK2.out 0).trans rfl; have ha1 := (blk_cell BK2.out 1).trans rfl; have ha2 := (blk_cell BK2.out 2).trans rfl; have ha3 := (blk_cell BK2.out 3).trans rfl) | ((with_reducible refine gate_dst (N := 3) rfl ?_); refine box_event ?hg (N := 3) ?hd (cs := #[.int .i64 y.f0, .int .i64 y.f1, .int .i64 y.f2, .string y.f3]) (t := 30) ?hr ?_; (case hd => rfl); (case hg => rfl); (case hr => first | (go_simp; done) | (go_simp; rfl)); intro gb3 hg w2_ hbox hb; have BK3 := Aside0.mk hbox; have n0_ := Aside0.mk (blk_below BK2.out hb); clear BK2 ha0 ha1 ha2 ha3; have BK2 := n0_; clear n0_; have ha0 := (blk_cell BK2.out 0).trans rfl; have n1_ := Aside0.mk (below_step HB.out hb); clear HB; have HB := n1_; clear n1_ hb hbox hg; have hb0 := (blk_cell BK3.out 0).trans rfl; have hb1 := (blk_cell BK3.out 1).trans rfl; have hb2 := (blk_cell BK3.out 2).trans rfl; have hb3 := (blk_cell BK3.out 3).trans rfl))
  go_ret
  exact ⟨rfl, HB.out⟩
set_option maxHeartbeats 4000000 in
theorem index_some (A0 : Option Addr) (c0 : Nat) (l : List S30) (w : World) (hbig : l.length ≤ 4611686018427387904) (hr0 : Kd.C k30 w A0 l.length l) (hc0 : l.length ≤ c0) :
    Calls Try.prog 38 #[.slice A0 l.length c0, .func (.func 30) #[] #[]] w fun e w' => (∃ r : Int, e = .returned (.int .i64 r)) ∧ Below w.heap.size w w' := by
  have HR0 := Aside0.mk hr0
  have HC0 := Aside0.mk hc0
  have HN := Aside0.mk hbig
  clear hr0 hc0 hbig
  go_enter Try.func38, Try.ntmps38
  go_wp2
  go_loopw [8] (fun i wr => ∃ n : Nat, n ≤ l.length ∧ i = .int .i64 (n : Int) ∧ Aside0 (Below w.heap.size w wr)) (fun i _ => ((l.length : Int) - intOf i).toNat)
  case atStart => exact ⟨0, by omega, rfl, ⟨Below.refl _ w⟩⟩
  case round =>
    obtain ⟨n, hn, rfl, HB⟩ := hrel
    by_cases hlt : n < l.length
    · have HLT := Aside0.mk hlt
      have d0 : decide ((n : Int) < (l.length : Int)) = true := decide_eq_true (by omega)
      have d1 : decide ((0 : Int) ≤ (n : Int)) = true := decide_eq_true (by omega)
      have HW := Aside0.mk (show wrap64 ((n : Int) + 1) = ((n + 1 : Nat) : Int) by have := HN.out; rw [wrap64_in (by omega) (by omega)]; omega)
      obtain ⟨ad, e0, hx0, hx1, hx2, hx3⟩ := at_T30 (Kd.C_below HR0.out HB.out) (n : Int) (by omega) (by omega)
      cases e0
      rw [Int.toNat_natCast] at hx0 hx1 hx2 hx3
      obtain ⟨x, hx⟩ : ∃ x, rd_T30 l (n : Int) = x := ⟨_, rfl⟩
      rw [hx] at hx0 hx1 hx2 hx3
      clear hx
      go_wp2_with (fail)
      refine (put1_calls x _).mono ?_
      rintro e w2_ ⟨rfl, hb⟩
      have HB' := Aside0.mk (below_step HB.out hb)
      clear hb HB hx0 hx1 hx2 hx3
      cases hr : rightB x with
      | true =>
        clear hr
        go_wp2
        go_roundw
        case rel => exact ⟨n + 1, by have := HLT.out; omega, by rw [HW.out], HB'⟩
        case measure => rw [HW.out]; exact meas_u _ _ HLT.out
      | false =>
        clear hr
        go_wp2
        go_ret
        exact ⟨⟨_, rfl⟩, HB'.out⟩
    · have d0 : decide ((n : Int) < (l.length : Int)) = false := decide_eq_false (by omega)
      go_wp2
      go_ret
      exact ⟨⟨_, rfl⟩, HB.out⟩
theorem contains_some (A0 : Option Addr) (c0 : Nat) (l : List S30) (w : World) (hbig : l.length ≤ 4611686018427387904) (hr0 : Kd.C k30 w A0 l.length l) (hc0 : l.length ≤ c0) :
    Calls Try.prog 29 #[.slice A0 l.length c0, .func (.func 30) #[] #[]] w fun e w' => (∃ r : Bool, e = .returned (.bool r)) ∧ Below w.heap.size w w' := by
  have HR0 := Aside0.mk hr0
  have HC0 := Aside0.mk hc0
  have HN := Aside0.mk hbig
  clear hr0 hc0 hbig
  go_enter Try.func29, Try.ntmps29
  go_wp2_with (first | (go_at_call 38; (with_reducible refine (index_some A0 c0 l _ HN.out HR0.out HC0.out).mono ?_); rintro e_ w1_ ⟨⟨r, rfl⟩, hb⟩; have HB := Aside0.mk hb; clear hb))
  go_ret
  exact ⟨⟨_, rfl⟩, HB.out⟩
def sorted.T4 : Bool × List (List Nat × List Nat) := (true, [([], []), ([], []), ([], []), ([1, 2], [1, 2]), ([3], [3]), ([], []), ([], []), ([6], [6]), ([5, 7], [5, 7]), ([8], [8]), ([0, 4, 9], [0, 4, 9]), ([10], [10])])
def sorted.B4 : List Nat := [0, 0, 0, 6, 14, 0, 0, 64, 224, 480, 1023, 2047]
theorem sorted.tab4 : rtab .any (opsOf Try.f31 4) = sorted.T4 := by kernel_rfl
theorem sorted.bits4 : waitsOk sorted.T4.2 sorted.B4 = true := by kernel_rfl
set_option maxHeartbeats 4000000 in
theorem sorted_some (A0 : Option Addr) (c0 : Nat) (l : List S30) (w : World) (hbig : l.length ≤ 4611686018427387904) (hr0 : Kd.C k30 w A0 l.length l) (hc0 : l.length ≤ c0) :
    Calls Try.prog 31 #[.slice A0 l.length c0, .func (.func 32) #[] #[]] w fun e w' => (∃ r : Bool, e = .returned (.bool r)) ∧ Below w.heap.size w w' := by
  have HR0 := Aside0.mk hr0
  have HC0 := Aside0.mk hc0
  have HN := Aside0.mk hbig
  clear hr0 hc0 hbig
  by_cases hl0 : l = []
  · subst hl0
    go_enter Try.func31, Try.ntmps31
    go_wp2
    go_loopw [5] (fun i wr => i = .int .i64 (-1) ∧ Aside0 (Below w.heap.size w wr)) (fun _ _ => 0)
    case atStart => exact ⟨rfl, ⟨Below.refl _ w⟩⟩
    case round =>
      obtain ⟨rfl, HB⟩ := hrel
      go_wp2
      go_ret
      exact ⟨⟨_, rfl⟩, HB.out⟩
  · have hpos : 0 < l.length := List.length_pos_iff.2 hl0
    obtain ⟨m, hm⟩ : ∃ m, l.length = m + 1 := ⟨l.length - 1, by omega⟩
    have HM := Aside0.mk hm
    have hw0 : wrap64 ((l.length : Int) - 1) = (m : Int) := by have := HN.out; rw [wrap64_in (by omega) (by omega)]; omega
    have HW0 := Aside0.mk hw0
    clear hl0 hpos hm hw0
    go_enter Try.func31, Try.ntmps31
    go_wp2
    go_loopw [5] (fun i wr => ∃ n : Nat, n ≤ m ∧ i = .int .i64 (n : Int) ∧ Aside0 (Below w.heap.size w wr)) (fun i _ => (intOf i).toNat)
    case atStart => exact ⟨m, by omega, by rw [HW0.out], ⟨Below.refl _ w⟩⟩
    case round =>
      obtain ⟨n, hn, rfl, HB⟩ := hrel
      by_cases hlt : 0 < n
      · have HLT := Aside0.mk hlt
        have HNM := Aside0.mk hn
        have d0 : decide ((n : Int) > 0) = true := decide_eq_true (by omega)
        have d1 : decide ((0 : Int) ≤ (n : Int)) = true := decide_eq_true (by omega)
        have HB2 := Aside0.mk (below_step HB.out (below_drew (Below.refl wr.heap.size wr)))
        have hC := Kd.C_below HR0.out HB2.out
        obtain ⟨ad, e0, hx0, hx1, hx2, hx3⟩ := at_T30 hC (n : Int) (by omega) (by have := HM.out; omega)
        obtain ⟨ad', e1, hy0, hy1, hy2, hy3⟩ := at_T30 hC ((n - 1 : Nat) : Int) (by omega) (by have := HM.out; omega)
        cases e0
        cases e1
        rw [Int.toNat_natCast] at hx0 hx1 hx2 hx3 hy0 hy1 hy2 hy3
        obtain ⟨x, hx⟩ : ∃ x, rd_T30 l (n : Int) = x := ⟨_, rfl⟩
        obtain ⟨y, hy⟩ : ∃ x, rd_T30 l ((n - 1 : Nat) : Int) = x := ⟨_, rfl⟩
        rw [hx] at hx0 hx1 hx2 hx3
        rw [hy] at hy0 hy1 hy2 hy3
        obtain ⟨i, hi⟩ : ∃ i, i = n - 1 := ⟨_, rfl⟩
        rw [← hi] at hy0 hy1 hy2 hy3
        obtain ⟨q, hq⟩ : ∃ q, q = l.length := ⟨_, rfl⟩
        have HI := Aside0.mk hi
        have HQ := Aside0.mk hq
        rw [← hq]
        have d2 : decide ((n : Int) < (q : Int)) = true := decide_eq_true (by have := HM.out; omega)
        have d3 : decide ((i : Int) < (q : Int)) = true := decide_eq_true (by have := HM.out; omega)
        have d4 : decide ((0 : Int) ≤ (i : Int)) = true := decide_eq_true (by omega)
        have d5 : n < q := by have := HM.out; omega
        have d6 : i < q := by have := HM.out; omega
        have HW := Aside0.mk (show wrap64 ((n : Int) - 1) = (i : Int) by have := HN.out; have := HM.out; rw [wrap64_in (by omega) (by omega)]; omega)
        have X0 := Aside0.mk hx0
        have X1 := Aside0.mk hx1
        have X2 := Aside0.mk hx2
        have X3 := Aside0.mk hx3
        have Y0 := Aside0.mk hy0
        have Y1 := Aside0.mk hy1
        have Y2 := Aside0.mk hy2
        have Y3 := Aside0.mk hy3
        clear hx0 hx1 hx2 hx3 hy0 hy1 hy2 hy3 hx hy hi hq hC HB
        have hw := HW.out
        go_wp2
        refine start_ (n := 12) (S := fun w' => w'.cell? (ad.add (n * 4)) = some (.int .i64 x.f0) ∧ w'.cell? ⟨(ad.add (n * 4)).block, (ad.add (n * 4)).off + 1, none⟩ = some (.int .i64 x.f1) ∧ w'.cell? ⟨(ad.add (n * 4)).block, (ad.add (n * 4)).off + 2, none⟩ = some (.int .i64 x.f2) ∧ w'.cell? ⟨(ad.add (n * 4)).block, (ad.add (n * 4)).off + 3, none⟩ = some (.string x.f3) ∧ w'.cell? (ad.add (i * 4)) = some (.int .i64 y.f0) ∧ w'.cell? ⟨(ad.add (i * 4)).block, (ad.add (i * 4)).off + 1, none⟩ = some (.int .i64 y.f1) ∧ w'.cell? ⟨(ad.add (i * 4)).block, (ad.add (i * 4)).off + 2, none⟩ = some (.int .i64 y.f2) ∧ w'.cell? ⟨(ad.add (i * 4)).block, (ad.add (i * 4)).off + 3, none⟩ = some (.string y.f3)) (ds := []) #[false, false, false, false, false, false, false, false, false, false, false, false] (by kernel_rfl) rfl rfl ⟨X0.out, X1.out, X2.out, X3.out, Y0.out, Y1.out, Y2.out, Y3.out⟩ (fun hHeld => ?_); refine with_tabW sorted.tab4 sorted.bits4 (fun HT_ HW_ => ?_)
        refine pure_ (i := 0) (N := some 13) (v := ?_) (a' := ?_) #[true, false, false, false, false, false, false, false, false, false, false, false] rfl rfl (any_of HT_.out (by kernel_rfl)) (fun _ _ _ h => h) (Or.inl ⟨by rfl, ?_⟩) ?_ ?_
        rotate_left
        · intro w'
          go_simp
          with_reducible rfl
        rotate_left
        · simp only [Act.put, List.setIfInBounds_toArray, List.set_cons_zero, List.set_cons_succ, i64_w, i32_w]
          rfl
        refine pure_ (i := 1) (N := some 14) (v := ?_) (a' := ?_) #[true, true, false, false, false, false, false, false, false, false, false, false] rfl rfl (any_of HT_.out (by kernel_rfl)) (fun _ _ _ h => h) (Or.inl ⟨by rfl, ?_⟩) ?_ ?_
        rotate_left
        · intro w'
          go_simp
          with_reducible rfl
        rotate_left
        · simp only [Act.put, List.setIfInBounds_toArray, List.set_cons_zero, List.set_cons_succ, i64_w, i32_w]
          rfl
        refine pure_ (i := 2) (N := some 15) (v := ?_) (a' := ?_) #[true, true, true, false, false, false, false, false, false, false, false, false] rfl rfl (any_of HT_.out (by kernel_rfl)) (fun _ _ _ h => h) (Or.inl ⟨by rfl, ?_⟩) ?_ ?_
        rotate_left
        · intro w'
          go_simp
          with_reducible rfl
        rotate_left
        · simp only [Act.put, List.setIfInBounds_toArray, List.set_cons_zero, List.set_cons_succ, i64_w, i32_w]
          rfl
        refine pure_ (i := 3) (N := some 16) (v := ?_) (a' := ?_) #[true, true, true, true, false, false, false, false, false, false, false, false] rfl rfl (any_of HT_.out (by kernel_rfl)) (fun _ _ _ h => h) (Or.inl ⟨by rfl, ?_⟩) ?_ ?_
        rotate_left
        · intro w'
          go_simp
          with_reducible rfl
        rotate_left
        · simp only [Act.put, List.setIfInBounds_toArray, List.set_cons_zero, List.set_cons_succ, i64_w, i32_w]
          rfl
        refine pure_ (i := 5) (N := some 18) (v := ?_) (a' := ?_) #[true, true, true, true, false, true, false, false, false, false, false, false] rfl rfl (any_of HT_.out (by kernel_rfl)) (fun _ _ _ h => h) (Or.inl ⟨by rfl, ?_⟩) ?_ ?_
        rotate_left
        · intro w'
          go_simp
          with_reducible rfl
        rotate_left
        · simp only [Act.put, List.setIfInBounds_toArray, List.set_cons_zero, List.set_cons_succ, i64_w, i32_w]
          rfl
        refine pure_ (i := 6) (N := some 19) (v := ?_) (a' := ?_) #[true, true, true, true, false, true, true, false, false, false, false, false] rfl rfl (any_of HT_.out (by kernel_rfl)) (fun _ _ _ h => h) (Or.inl ⟨by rfl, ?_⟩) ?_ ?_
        rotate_left
        · intro w'
          go_simp
          with_reducible rfl
        rotate_left
        · simp only [Act.put, List.setIfInBounds_toArray, List.set_cons_zero, List.set_cons_succ, i64_w, i32_w]
          rfl
        refine pure_ (i := 7) (N := some 20) (v := ?_) (a' := ?_) #[true, true, true, true, false, true, true, true, false, false, false, false] rfl rfl (any_of HT_.out (by kernel_rfl)) (fun _ _ _ h => h) (Or.inl ⟨by rfl, ?_⟩) ?_ ?_
        rotate_left
        · intro w'
          go_simp
          with_reducible rfl
        rotate_left
        · simp only [Act.put, List.setIfInBounds_toArray, List.set_cons_zero, List.set_cons_succ, i64_w, i32_w]
          rfl
        refine pure_ (i := 8) (N := some 21) (v := ?_) (a' := ?_) #[true, true, true, true, false, true, true, true, true, false, false, false] rfl rfl (any_of HT_.out (by kernel_rfl)) (fun _ _ _ h => h) (Or.inl ⟨by rfl, ?_⟩) ?_ ?_
        rotate_left
        · intro w'
          go_simp
          with_reducible rfl
        rotate_left
        · simp only [Act.put, List.setIfInBounds_toArray, List.set_cons_zero, List.set_cons_succ, i64_w, i32_w]
          rfl
        refine take_ (i := 4) (N := some 17) (v := ?_) (a' := ?_) #[true, true, true, true, true, true, true, true, true, false, false, false] rfl rfl (take_ofW HT_.out HW_.out (by kernel_rfl)) (fun _ _ _ h => h) (Or.inl ⟨by rfl, ?_⟩) hHeld ?_ ?_
        rotate_left
        · rintro w' ⟨s0, s1, s2, s3, s4, s5, s6, s7⟩
          go_simp
          with_reducible rfl
        rotate_left
        · simp only [Act.put, List.setIfInBounds_toArray, List.set_cons_zero, List.set_cons_succ, i64_w, i32_w]
          rfl
        refine take_ (i := 9) (N := some 22) (v := ?_) (a' := ?_) #[true, true, true, true, true, true, true, true, true, true, false, false] rfl rfl (take_ofW HT_.out HW_.out (by kernel_rfl)) (fun _ _ _ h => h) (Or.inl ⟨by rfl, ?_⟩) hHeld ?_ ?_
        rotate_left
        · rintro w' ⟨s0, s1, s2, s3, s4, s5, s6, s7⟩
          go_simp
          with_reducible rfl
        rotate_left
        · simp only [Act.put, List.setIfInBounds_toArray, List.set_cons_zero, List.set_cons_succ, i64_w, i32_w]
          rfl
        refine one_ (i := 10) (N := some 23) #[true, true, true, true, true, true, true, true, true, true, true, false] rfl rfl (one_of HT_.out (by kernel_rfl)) (by decide) (fun K hK => ?_)
        refine goesV_ Try.func32 (by kernel_rfl) rfl #[] #[.agg #[.int .i64 x.f0, .int .i64 x.f1, .int .i64 x.f2, .string x.f3], .agg #[.int .i64 y.f0, .int .i64 y.f1, .int .i64 y.f2, .string y.f3]] #[.agg #[.int .i64 x.f0, .int .i64 x.f1, .int .i64 x.f2, .string x.f3], .agg #[.int .i64 y.f0, .int .i64 y.f1, .int .i64 y.f2, .string y.f3]] (by rfl) rfl rfl (by rfl) (by (try simp only [List.map_toArray, List.map_cons, List.map_nil]); first | done | rfl) (by rfl) ?_
        refine (put2_calls x y _).mono ?_
        rintro e w3_ ⟨rfl, hb_⟩
        refine ⟨_, rfl, ?_⟩
        have HB3 := Aside0.mk (below_step HB2.out hb_)
        refine hK.out _ _ ⟨(hb_.cell (World.block_lt_of_cell? _ _ X0.out)).trans X0.out, (hb_.cell (World.block_lt_of_cell? _ _ X1.out)).trans X1.out, (hb_.cell (World.block_lt_of_cell? _ _ X2.out)).trans X2.out, (hb_.cell (World.block_lt_of_cell? _ _ X3.out)).trans X3.out, (hb_.cell (World.block_lt_of_cell? _ _ Y0.out)).trans Y0.out, (hb_.cell (World.block_lt_of_cell? _ _ Y1.out)).trans Y1.out, (hb_.cell (World.block_lt_of_cell? _ _ Y2.out)).trans Y2.out, (hb_.cell (World.block_lt_of_cell? _ _ Y3.out)).trans Y3.out⟩ (fun hHeld => ?_)
        clear hK K
        refine norm_ (a' := ?_) ?_ ?_
        rotate_left
        · show Act.put _ (some 23) _ = _
          simp only [Act.put, List.setIfInBounds_toArray, List.set_cons_zero, List.set_cons_succ, i64_w, i32_w]
          rfl
        refine pure_ (i := 11) (N := some 24) (v := ?_) (a' := ?_) #[true, true, true, true, true, true, true, true, true, true, true, true] rfl rfl (any_of HT_.out (by kernel_rfl)) (fun _ _ _ h => h) (Or.inl ⟨by rfl, ?_⟩) ?_ ?_
        rotate_left
        · intro w'
          go_simp
          with_reducible rfl
        rotate_left
        · simp only [Act.put, List.setIfInBounds_toArray, List.set_cons_zero, List.set_cons_succ, i64_w, i32_w]
          rfl
        refine done_ (done_of HT_.out (by kernel_rfl)) ?_
        cases hs : decide (wrap64 (x.f0 - y.f0) < 0) with
        | true =>
          go_wp2
          go_ret
          exact ⟨⟨_, rfl⟩, HB3.out⟩
        | false =>
          go_wp2
          go_roundw
          case rel => exact ⟨i, by have := HI.out; have := HNM.out; omega, by rw [HW.out], HB3⟩
          case measure => rw [HW.out, HI.out]; exact meas_d _ HLT.out
      · have d0 : decide ((n : Int) > 0) = false := decide_eq_false (by omega)
        go_wp2
        go_ret
        exact ⟨⟨_, rfl⟩, HB.out⟩
end Go.Proofs.Ytmapkneofccboaa.FA
