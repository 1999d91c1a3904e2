/- Written by hand (wip/tools/gen_log4.py): Trim of a log, the fixed case `two`, and the law of the nil log. -/
import Derived.Test.YtmapkneofccboaaHLogAdd
namespace Go.Proofs.Ytmapkneofccboaa.FA
open Go.RowKit Go.Proofs.YtmapkneofccboaaW.PrintWords Go.Proofs.YtmapkneofccboaaW.PrintLast Go.Proofs.YtmapkneofccboaaW.PrintMore Go.Proofs.Ytmapkneofccboaa.Hand Go.Proofs.Ytmapkneofccboaa.B
set_option linter.unusedVariables false
set_option linter.unusedSimpArgs false
theorem LBox.elder {T : Nat} {w : World} {N g base l V ok} (r : LBox T w N g base l V ok) (a : Nat) (ha : w.heap.size ≤ a) : LBox T w N g base l V (fun k => ok k ∧ k ≠ a) := ⟨r.hb, FR_elderB r.hl a ha, r.hN, r.hs⟩
theorem LBox.mono {T : Nat} {w : World} {N g base l V} {ok ok' : Nat → Prop} (r : LBox T w N g base l V ok) (h : ∀ k, ok k → ok' k) : LBox T w N g base l V ok' := ⟨r.hb, FR_mono r.hl h, r.hN, r.hs⟩
theorem LBox.far {T : Nat} {w : World} {N g base l V ok} (r : LBox T w N g base l V ok) {a : Nat} (hok : ∀ k, ok k → k ≠ a) (hg : g ≠ a) (i : Nat) (x : Value) : LBox T (w.setCell ⟨a, i, none⟩ x) N g base l V ok :=
  ⟨(Below.heap_setCell w ⟨a, i, none⟩ x g hg).trans r.hb, FR_far (p := ⟨a, i, none⟩) r.hl hok x, r.hN, by simp; exact r.hs⟩
theorem info_item_parts : ∃ i, Try.prog.info? 30 = some i ∧ i.size = 4 := by
  have h : (Try.prog.info? 30).map (·.size) = some 4 := by kernel_rfl
  obtain ⟨i, hi, hb⟩ := Option.map_eq_some_iff.1 h
  exact ⟨i, hi, hb⟩
theorem cutFromI (A : Option Addr) (n c j : Nat) (hj : j ≤ n) (hc : n ≤ c) : ∀ W : World, (Instr.slice 28 (.slice A n c) (some (.int .i64 (j : Int))) none none).run Try.prog W = .ok (.slice (if c = j then A else A.map (·.add (j * 4))) (n - j) (c - j)) W := by
  obtain ⟨i, hi, hs⟩ := info_item_parts
  intro W
  have := cut_from (P := Try.prog) 28 30 .i64 Try.underlying28 hi 4 hs A n c (j : Int) (by omega) (by omega) W
  rwa [Int.toNat_natCast] at this
theorem log_trim_low {w : World} {N g : Nat} {base : Int} {l : List S30} {V : Value} {ok : Nat → Prop} (r : LBox 58 w N g base l V ok) (hx : 0 ≤ base ∧ base + (l.length : Int) ≤ 1099511627776) (n : Int) (h : n < 0) : Calls Try.prog 11 #[.pointer (some ⟨g, 0, none⟩), .int .i64 n] w fun e w' =>  e = .returned (.int .i64 6) ∧ w' = w := by
  have b0 : decide (n < 0) = true := decide_eq_true h
  clear h r hx
  go_enter Try.func11, Try.ntmps11
  go_wp2
  go_ret
  exact ⟨rfl, rfl⟩
theorem log_trim_high {w : World} {N g : Nat} {base : Int} {l : List S30} {V : Value} {ok : Nat → Prop} (r : LBox 58 w N g base l V ok) (hx : 0 ≤ base ∧ base + (l.length : Int) ≤ 1099511627776) (n : Int) (h0 : 0 ≤ n) (h : base + (l.length : Int) < n) : Calls Try.prog 11 #[.pointer (some ⟨g, 0, none⟩), .int .i64 n] w fun e w' =>  e = .returned (.int .i64 6) ∧ Below w.heap.size w w' := by
  have b0 : decide (n < 0) = false := decide_eq_false (by omega)
  have b1 : decide (n > base + (l.length : Int)) = true := decide_eq_true h
  have HR := Aside0.mk r
  have HX := Aside0.mk hx
  clear h h0 r hx
  go_enter Try.func11, Try.ntmps11
  go_wp2_with (first | (go_at_call 13; (with_reducible refine (log_last HR.out HX.out).mono ?_); rintro e_ w1_ ⟨rfl, rfl⟩; have n0_ := Aside0.mk (HR.out.below (below_drew (Below.refl _ _))); have HB := Aside0.mk (below_drew (Below.refl w.heap.size w)); have HRo := HR; clear HR; have HR := n0_; clear n0_; have hz0 := (blk_cell HR.out.hb 0).trans rfl; have hz1 := (blk_cell HR.out.hb 1).trans rfl))
  go_ret
  exact ⟨rfl, HB.out⟩
theorem log_trim_stay {w : World} {N g : Nat} {base : Int} {l : List S30} {V : Value} {ok : Nat → Prop} (r : LBox 58 w N g base l V ok) (hx : 0 ≤ base ∧ base + (l.length : Int) ≤ 1099511627776) (n : Int) (h0 : 0 ≤ n) (h1 : n ≤ base) : Calls Try.prog 11 #[.pointer (some ⟨g, 0, none⟩), .int .i64 n] w fun e w' =>  e = .returned (.int .i64 0) ∧ Below w.heap.size w w' := by
  have b0 : decide (n < 0) = false := decide_eq_false (by omega)
  have b1 : decide (n > base + (l.length : Int)) = false := decide_eq_false (by omega)
  have b2 : decide (n > base) = false := decide_eq_false (by omega)
  have HR := Aside0.mk r
  have HX := Aside0.mk hx
  clear h0 h1 r hx
  go_enter Try.func11, Try.ntmps11
  go_wp2_with (first | (go_at_call 13; (with_reducible refine (log_last HR.out HX.out).mono ?_); rintro e_ w1_ ⟨rfl, rfl⟩; have n0_ := Aside0.mk (HR.out.below (below_drew (Below.refl _ _))); have HB := Aside0.mk (below_drew (Below.refl w.heap.size w)); have HRo := HR; clear HR; have HR := n0_; clear n0_; have hz0 := (blk_cell HR.out.hb 0).trans rfl; have hz1 := (blk_cell HR.out.hb 1).trans rfl))
  go_ret
  exact ⟨rfl, HB.out⟩
def logTrim.T4 : Bool × List (List Nat × List Nat) := (true, [([], []), ([], []), ([1], [1]), ([2], [2]), ([3], [3]), ([], []), ([], []), ([6], [6]), ([7], [7]), ([8], [8]), ([5, 9], [5, 9]), ([4, 10], [4, 10]), ([11], [11]), ([0, 0, 1, 2, 3, 4, 5, 6, 7, 8, 9, 10, 11, 12], [0]), ([13, 0, 1, 2, 3, 4, 5, 6, 7, 8, 9, 10, 11, 12], [13]), ([14, 12, 12, 0, 1, 2, 3, 4, 5, 6, 7, 8, 9, 10, 11, 12], [12, 14])])
def logTrim.B4 : List Nat := [0, 0, 2, 6, 14, 0, 0, 64, 192, 448, 992, 2046, 4094, 8191, 16383, 32767]
theorem logTrim.tab4 : rtab .any (opsOf Try.f11 4) = logTrim.T4 := by kernel_rfl
theorem logTrim.bits4 : waitsOk logTrim.T4.2 logTrim.B4 = true := by kernel_rfl
set_option maxHeartbeats 8000000 in
set_option maxRecDepth 100000 in
theorem log_trim_ok {w : World} {N g : Nat} {base : Int} {l : List S30} {V : Value} {ok : Nat → Prop} (r : LBox 58 w N g base l V ok) (hx : 0 ≤ base ∧ base + (l.length : Int) ≤ 1099511627776) (n : Int) (hf : ∀ k, w.heap.size ≤ k → ok k) (hlen : l.length ≤ 1000000) (h : base < n ∧ n ≤ base + (l.length : Int)) : Calls Try.prog 11 #[.pointer (some ⟨g, 0, none⟩), .int .i64 n] w fun e w' =>  ∃ V', e = .returned (.int .i64 0) ∧ LBox 58 w' N g n (l.drop (n - base).toNat) V' ok ∧ LMoves N g V V' w w' := by
  obtain ⟨A, c, he, hc⟩ := FR_slice r.hl
  subst he
  obtain ⟨j, hj⟩ : ∃ j : Nat, j = (n - base).toNat := ⟨_, rfl⟩
  rw [← hj]
  obtain ⟨m, hm⟩ : ∃ m, m = l.length := ⟨_, rfl⟩
  obtain ⟨ls, hls⟩ : ∃ ls, ls = l.drop j := ⟨_, rfl⟩
  have hjl : j ≤ l.length := by omega
  have hk := cutFromI A l.length c j hjl hc
  obtain ⟨A2, hA2⟩ : ∃ A1, A1 = (if c = j then A else A.map (·.add (j * 4))) := ⟨_, rfl⟩
  obtain ⟨c2, hc2⟩ : ∃ c1, c1 = c - j := ⟨_, rfl⟩
  have hll : ls.length = l.length - j := by rw [hls, List.length_drop]
  rw [← hA2, ← hc2, ← hll] at hk
  have hd := Kd.C_drop (m := j) (FR_reads' r.hl).2.2 hjl hc
  rw [show (k30).sz = 4 from rfl, ← hA2, ← hls] at hd
  have HD := Aside0.mk hd
  have HLL := Aside0.mk (show ls.length ≤ c2 by omega)
  have HLb := Aside0.mk (show ls.length ≤ 1000000 by omega)
  have HLS := Aside0.mk hls
  have HFr := Aside0.mk hf
  have b0 : decide (n < 0) = false := decide_eq_false (by omega)
  have b1 : decide (n > base + (l.length : Int)) = false := decide_eq_false (by omega)
  have b2 : decide (n > base) = true := decide_eq_true (by omega)
  have HW1 := Aside0.mk (show wrap64 (n - base) = (j : Int) by rw [wrap64_in (by omega) (by omega)]; omega)
  have HR := Aside0.mk r
  have HX := Aside0.mk hx
  clear r hx hf hlen h hj hm hls hA2 hc2 hll hd hc hjl
  go_enter Try.func11, Try.ntmps11
  go_upto_region 4 with (first | (go_at_call 13; (with_reducible refine (log_last HR.out HX.out).mono ?_); rintro e_ w1_ ⟨rfl, rfl⟩; have n0_ := Aside0.mk (HR.out.below (below_drew (Below.refl _ _))); have HB := Aside0.mk (below_drew (Below.refl w.heap.size w)); have HRo := HR; clear HR; have HR := n0_; clear n0_; have hz0 := (blk_cell HR.out.hb 0).trans rfl; have hz1 := (blk_cell HR.out.hb 1).trans rfl))
  have hw1 := HW1.out
  have HR5 := Aside0.mk (HR.out.below (below_drew (Below.refl w.drew.heap.size w.drew)))
  have HB5 := Aside0.mk (below_step HB.out (below_drew (Below.refl w.drew.heap.size w.drew)))
  have HD5 := Aside0.mk (Kd.C_below HD.out HB5.out)
  clear HR HB hz0 hz1
  refine start_ (n := 16) (S := fun w' => w'.cell? ⟨g, 0, none⟩ = some (.int .i64 base) ∧ w'.cell? ⟨g, 1, none⟩ = some (.slice A l.length c)) (ds := [15]) #[false, false, false, false, false, false, false, false, false, false, false, false, false, false, false, false] (by kernel_rfl) rfl rfl ⟨(blk_cell HR5.out.hb 0).trans rfl, (blk_cell HR5.out.hb 1).trans rfl⟩ (fun hHeld => ?_); refine with_tabW logTrim.tab4 logTrim.bits4 (fun HT_ HW_ => ?_)
  generalize w.drew.drew = w5_ at HR5 HB5 HD5 hHeld ⊢
  refine pure_ (i := 0) (N := some 23) (v := ?_) (a' := ?_) #[true, false, false, false, false, false, false, false, false, false, false, false, false, false, false, false] rfl rfl (any_of HT_.out (by kernel_rfl)) (fun _ _ _ h => h) (Or.inl ⟨by rfl, ?_⟩) ?_ ?_
  rotate_left
  · intro w'
    go_simp
    with_reducible rfl
  rotate_left
  · simp only [Act.put, List.setIfInBounds_toArray, List.set_cons_zero, List.set_cons_succ, i64_w, i32_w]
    rfl
  refine pure_ (i := 1) (N := some 24) (v := ?_) (a' := ?_) #[true, true, false, false, false, false, false, false, false, false, false, false, false, false, false, false] rfl rfl (any_of HT_.out (by kernel_rfl)) (fun _ _ _ h => h) (Or.inl ⟨by rfl, ?_⟩) ?_ ?_
  rotate_left
  · intro w'
    go_simp
    with_reducible rfl
  rotate_left
  · simp only [Act.put, List.setIfInBounds_toArray, List.set_cons_zero, List.set_cons_succ, i64_w, i32_w]
    rfl
  refine pure_ (i := 2) (N := some 25) (v := ?_) (a' := ?_) #[true, true, true, false, false, false, false, false, false, false, false, false, false, false, false, false] rfl rfl (any_of HT_.out (by kernel_rfl)) (fun _ _ _ h => h) (Or.inl ⟨by rfl, ?_⟩) ?_ ?_
  rotate_left
  · intro w'
    go_simp
    with_reducible rfl
  rotate_left
  · simp only [Act.put, List.setIfInBounds_toArray, List.set_cons_zero, List.set_cons_succ, i64_w, i32_w]
    rfl
  refine pure_ (i := 3) (N := some 26) (v := ?_) (a' := ?_) #[true, true, true, true, false, false, false, false, false, false, false, false, false, false, false, false] rfl rfl (any_of HT_.out (by kernel_rfl)) (fun _ _ _ h => h) (Or.inl ⟨by rfl, ?_⟩) ?_ ?_
  rotate_left
  · intro w'
    go_simp
    with_reducible rfl
  rotate_left
  · simp only [Act.put, List.setIfInBounds_toArray, List.set_cons_zero, List.set_cons_succ, i64_w, i32_w]
    rfl
  refine pure_ (i := 5) (N := some 28) (v := ?_) (a' := ?_) #[true, true, true, true, false, true, false, false, false, false, false, false, false, false, false, false] rfl rfl (any_of HT_.out (by kernel_rfl)) (fun _ _ _ h => h) (Or.inl ⟨by rfl, ?_⟩) ?_ ?_
  rotate_left
  · intro w'
    go_simp
    with_reducible rfl
  rotate_left
  · simp only [Act.put, List.setIfInBounds_toArray, List.set_cons_zero, List.set_cons_succ, i64_w, i32_w]
    rfl
  refine pure_ (i := 6) (N := some 29) (v := ?_) (a' := ?_) #[true, true, true, true, false, true, true, false, false, false, false, false, false, false, false, false] rfl rfl (any_of HT_.out (by kernel_rfl)) (fun _ _ _ h => h) (Or.inl ⟨by rfl, ?_⟩) ?_ ?_
  rotate_left
  · intro w'
    go_simp
    with_reducible rfl
  rotate_left
  · simp only [Act.put, List.setIfInBounds_toArray, List.set_cons_zero, List.set_cons_succ, i64_w, i32_w]
    rfl
  refine pure_ (i := 7) (N := some 30) (v := ?_) (a' := ?_) #[true, true, true, true, false, true, true, true, false, false, false, false, false, false, false, false] rfl rfl (any_of HT_.out (by kernel_rfl)) (fun _ _ _ h => h) (Or.inl ⟨by rfl, ?_⟩) ?_ ?_
  rotate_left
  · intro w'
    go_simp
    with_reducible rfl
  rotate_left
  · simp only [Act.put, List.setIfInBounds_toArray, List.set_cons_zero, List.set_cons_succ, i64_w, i32_w]
    rfl
  refine pure_ (i := 8) (N := some 31) (v := ?_) (a' := ?_) #[true, true, true, true, false, true, true, true, true, false, false, false, false, false, false, false] rfl rfl (any_of HT_.out (by kernel_rfl)) (fun _ _ _ h => h) (Or.inl ⟨by rfl, ?_⟩) ?_ ?_
  rotate_left
  · intro w'
    go_simp
    with_reducible rfl
  rotate_left
  · simp only [Act.put, List.setIfInBounds_toArray, List.set_cons_zero, List.set_cons_succ, i64_w, i32_w]
    rfl
  refine take_ (i := 4) (N := some 27) (v := ?_) (a' := ?_) #[true, true, true, true, true, true, true, true, true, false, false, false, false, false, false, false] rfl rfl (take_ofW HT_.out HW_.out (by kernel_rfl)) (fun _ _ _ h => h) (Or.inl ⟨by rfl, ?_⟩) hHeld ?_ ?_
  rotate_left
  · rintro w' ⟨s0, s1⟩
    go_simp
    with_reducible rfl
  rotate_left
  · simp only [Act.put, List.setIfInBounds_toArray, List.set_cons_zero, List.set_cons_succ, i64_w, i32_w]
    rfl
  refine take_ (i := 9) (N := some 32) (v := ?_) (a' := ?_) #[true, true, true, true, true, true, true, true, true, true, false, false, false, false, false, false] rfl rfl (take_ofW HT_.out HW_.out (by kernel_rfl)) (fun _ _ _ h => h) (Or.inl ⟨by rfl, ?_⟩) hHeld ?_ ?_
  rotate_left
  · rintro w' ⟨s0, s1⟩
    go_simp
    with_reducible rfl
  rotate_left
  · simp only [Act.put, List.setIfInBounds_toArray, List.set_cons_zero, List.set_cons_succ, i64_w, i32_w]
    rfl
  refine pure_ (i := 10) (N := some 33) (v := ?_) (a' := ?_) #[true, true, true, true, true, true, true, true, true, true, true, false, false, false, false, false] rfl rfl (any_of HT_.out (by kernel_rfl)) (fun _ _ _ h => h) (Or.inl ⟨by rfl, ?_⟩) ?_ ?_
  rotate_left
  · intro w'
    go_simp
    with_reducible rfl
  rotate_left
  · simp only [Act.put, List.setIfInBounds_toArray, List.set_cons_zero, List.set_cons_succ, i64_w, i32_w]
    rfl
  refine pure_ (i := 11) (N := some 34) (v := ?_) (a' := ?_) #[true, true, true, true, true, true, true, true, true, true, true, true, false, false, false, false] rfl rfl (any_of HT_.out (by kernel_rfl)) (fun _ _ _ h => h) (Or.inl ⟨by rfl, ?_⟩) ?_ ?_
  rotate_left
  · intro w'
    go_simp
    with_reducible rfl
  rotate_left
  · simp only [Act.put, List.setIfInBounds_toArray, List.set_cons_zero, List.set_cons_succ, i64_w, i32_w]
    rfl
  refine one_ (i := 12) (N := some 35) #[true, true, true, true, true, true, true, true, true, true, true, true, true, false, false, false] rfl rfl (one_of HT_.out (by kernel_rfl)) (by decide) (fun K hK => ?_)
  refine goes_ Try.func28 (by kernel_rfl) rfl #[.slice A2 ls.length c2] (by rfl) rfl rfl (by (try simp only [List.map_toArray, List.map_cons, List.map_nil]); first | done | rfl) ?_
  refine (api_Item_28.calls A2 c2 ls ls _ ?ca HLL.out ?cb).mono ?_
  (case ca => exact HD5.out)
  (case cb => rw [api_Item_28.f, if_pos (by have := HLb.out; omega)])
  rintro e w6_ ⟨v_, rfl, ho, hb⟩
  refine ⟨_, rfl, ?_⟩
  obtain ⟨A3, c3, he3⟩ := Kd.R_slice ho
  subst he3
  have HBK := Aside0.mk (blk_below HR5.out.hb hb)
  have HO := Aside0.mk (show FR w6_ N ok (.slice A3 ls.length c3) ls from .inl <| Kd.Q_lower (Kd.Q_mono (Kd.Q_bound (Kd.Q_of_R ho)) (ok' := ok) (fun k hk => HFr.out k (Nat.le_trans HB5.out.size hk.2.1))) HR5.out.hs)
  have HB6 := Aside0.mk (below_step HB5.out hb)
  have HOb := Aside0.mk (show ∀ k, (Value.slice A3 ls.length c3).ownBlock = some k → w.heap.size ≤ k from fun k hk => Nat.le_trans HB5.out.size (Kd.R_base ho k hk))
  clear ho hb
  refine hK.out _ _ ⟨(blk_cell HBK.out 0).trans rfl, (blk_cell HBK.out 1).trans rfl⟩ (fun hHeld => ?_)
  clear hK K
  refine norm_ (a' := ?_) ?_ ?_
  rotate_left
  · show Act.put _ (some 35) _ = _
    simp only [Act.put, List.setIfInBounds_toArray, List.set_cons_zero, List.set_cons_succ, i64_w, i32_w]
    rfl
  refine pure_ (i := 13) (N := some 36) (v := ?_) (a' := ?_) #[true, true, true, true, true, true, true, true, true, true, true, true, true, true, false, false] rfl rfl (any_of HT_.out (by kernel_rfl)) (fun _ _ _ h => h) (Or.inl ⟨by rfl, ?_⟩) ?_ ?_
  rotate_left
  · intro w'
    go_simp
    with_reducible rfl
  rotate_left
  · simp only [Act.put, List.setIfInBounds_toArray, List.set_cons_zero, List.set_cons_succ, i64_w, i32_w]
    rfl
  refine pure_ (i := 14) (N := some 37) (v := ?_) (a' := ?_) #[true, true, true, true, true, true, true, true, true, true, true, true, true, true, true, false] rfl rfl (any_of HT_.out (by kernel_rfl)) (fun _ _ _ h => h) (Or.inl ⟨by rfl, ?_⟩) ?_ ?_
  rotate_left
  · intro w'
    go_simp
    with_reducible rfl
  rotate_left
  · simp only [Act.put, List.setIfInBounds_toArray, List.set_cons_zero, List.set_cons_succ, i64_w, i32_w]
    rfl
  refine last_ (i := 15) (N := none) #[true, true, true, true, true, true, true, true, true, true, true, true, true, true, true, true] rfl rfl (one_of HT_.out (by kernel_rfl)) (by decide) (fun K hK => ?_)
  have hs := (blk_cell HBK.out 1).trans rfl
  have ht := blk_frozen HBK.out 1
  refine skip_ (w1 := ?_) (by rfl) rfl ?_ ?_
  rotate_left
  · go_simp
    rfl
  refine hK.out _ _ ?_
  clear hK K
  refine done_ (done_of HT_.out (by kernel_rfl)) ?_
  have BK7 := Aside0.mk (show (w6_.setCell ⟨g, 1, none⟩ (.slice A3 ls.length c3)).heap[g]? = some (.cells #[.int .i64 base, .slice A3 ls.length c3] 58 (0, 0)) from blk_put (cs := #[.int .i64 base, .slice A l.length c]) HBK.out 1 _ rfl)
  have HO7 := Aside0.mk (FR_set HO.out HBK.out (by decide) 1 (.slice A3 ls.length c3))
  have HS7 := Aside0.mk (show N ≤ (w6_.setCell ⟨g, 1, none⟩ (.slice A3 ls.length c3)).heap.size from by simp; exact Nat.le_trans HRo.out.hs HB6.out.size)
  have HM7 := Aside0.mk (show LMoves N g (.slice A l.length c) (.slice A3 ls.length c3) w (w6_.setCell ⟨g, 1, none⟩ (.slice A3 ls.length c3)) from
    have m := (LMoves.of_below (N := N) (g := g) (V := .slice A l.length c) HB6.out HRo.out.hs).trans (LMoves.of_set (N := N) (g := g) (V := .slice A l.length c) w6_ HRo.out.hN 1 (.slice A3 ls.length c3))
    ⟨m.os, m.tape, m.output, m.size, m.low, m.block, fun k hk => .inr (HOb.out k hk)⟩)
  clear HR5 HB5 HD5 HBK HO HB6 HOb
  generalize w6_.setCell ⟨g, 1, none⟩ (.slice A3 ls.length c3) = w7_ at BK7 HO7 HS7 HM7 ⊢
  have hz0 := (blk_cell BK7.out 0).trans rfl
  have hf0 := blk_frozen BK7.out 0
  go_wp2
  go_ret
  rw [← HLS.out]
  exact ⟨_, rfl, ⟨blk_put (cs := #[.int .i64 base, .slice A3 ls.length c3]) BK7.out 0 _ rfl, FR_set HO7.out BK7.out (by decide) 0 _, HRo.out.hN, by simp; exact HS7.out⟩, HM7.out.trans (LMoves.of_set (N := N) (g := g) w7_ HRo.out.hN 0 _)⟩
theorem right1 : rightB (⟨0, 0, 1, ⟨#[]⟩⟩ : S30) = true := by decide
theorem right2 : rightB (⟨0, 0, 2, ⟨#[]⟩⟩ : S30) = true := by decide
theorem log_base' {w : World} {N g base l V ok} (r : LBox 58 w N g base l V ok) : Calls Try.prog 14 #[.pointer (some ⟨g, 0, none⟩)] w fun e w' => e = .returned (.int .i64 base) ∧ w = w' := (log_base r).mono (by rintro e w' ⟨rfl, rfl⟩; exact ⟨rfl, rfl⟩)
set_option maxHeartbeats 8000000 in
set_option maxRecDepth 100000 in
theorem log_two (w : World) : Calls Try.prog 8 #[] w fun e w' => e = .returned (.bool true) ∧ Below w.heap.size w w' := by
  have HB := Aside0.mk (Below.refl w.heap.size w)
  go_enter Try.func8, Try.ntmps8
  go_upto_region 7 with (first | (go_at_call 7; (with_reducible refine (log_new 5 (by decide) _).mono ?_); rintro e_ w1_ ⟨g, rfl, hr, hw⟩; have HR := Aside0.mk (hr.lower HB.out.size); have n1_ := Aside0.mk (below_step HB.out hw); clear HB; have HB := n1_; clear n1_ hr hw) | (go_at_call 9; (with_reducible refine (log_add_ok (l := ([] : List S30)) (base := 5) HR.out (fun _ _ => trivial) (by decide) (by decide) (⟨0, 0, 1, ⟨#[]⟩⟩ : S30) right1 (by decide) (by decide) (by decide)).mono ?_); rintro e_ w2_ ⟨V', he, hr, hm⟩; rw [show (5 : Int) + (((([] : List S30)).length + 1 : Nat) : Int) = 6 from rfl] at he; subst he; have n1_ := Aside0.mk (hm.below HB.out); clear HB HR; have HB := n1_; have HR := Aside0.mk (show LBox 58 w2_ w.heap.size g 5 ([(⟨0, 0, 1, ⟨#[]⟩⟩ : S30)] : List S30) V' (fun _ => True) from hr); clear n1_ hr hm) | (go_at_call 9; (with_reducible refine (log_add_ok (l := ([(⟨0, 0, 1, ⟨#[]⟩⟩ : S30)] : List S30)) (base := 5) HR.out (fun _ _ => trivial) (by decide) (by decide) (⟨0, 0, 2, ⟨#[]⟩⟩ : S30) right2 (by decide) (by decide) (by decide)).mono ?_); rintro e_ w3_ ⟨V', he, hr, hm⟩; rw [show (5 : Int) + (((([(⟨0, 0, 1, ⟨#[]⟩⟩ : S30)] : List S30)).length + 1 : Nat) : Int) = 7 from rfl] at he; subst he; have n1_ := Aside0.mk (hm.below HB.out); clear HB HR; have HB := n1_; have HR := Aside0.mk (show LBox 58 w3_ w.heap.size g 5 ([(⟨0, 0, 1, ⟨#[]⟩⟩ : S30), (⟨0, 0, 2, ⟨#[]⟩⟩ : S30)] : List S30) V' (fun _ => True) from hr); clear n1_ hr hm) | (go_at_call 11; (with_reducible refine (log_trim_ok (l := ([(⟨0, 0, 1, ⟨#[]⟩⟩ : S30), (⟨0, 0, 2, ⟨#[]⟩⟩ : S30)] : List S30)) (base := 5) HR.out (by decide) 6 (fun _ _ => trivial) (by decide) (by decide)).mono ?_); rintro e_ w4_ ⟨V', rfl, hr, hm⟩; have n1_ := Aside0.mk (hm.below HB.out); clear HB HR; have HB := n1_; have HR := Aside0.mk (show LBox 58 w4_ w.heap.size g 6 ([(⟨0, 0, 2, ⟨#[]⟩⟩ : S30)] : List S30) V' (fun _ => True) from hr); clear n1_ hr hm))
  go_upto_region 8 with (first | (go_at_call 12; (with_reducible refine (log_get_gone (l := ([(⟨0, 0, 2, ⟨#[]⟩⟩ : S30)] : List S30)) (base := 6) HR.out (by decide) 6 (by decide)).mono ?_); rintro e_ w5_ ⟨rfl, hb⟩; have n0_ := Aside0.mk (HR.out.below hb); have n1_ := Aside0.mk (below_step HB.out hb); clear HB HR; have HB := n1_; have HR := n0_; clear n0_ n1_ hb) | ((with_reducible refine gate_dst (N := 8) rfl ?_); refine box_event ?hg (N := 8) ?hd (cs := #[.int .i64 0, .int .i64 0, .int .i64 0, .string ⟨#[]⟩]) (t := 30) ?hr ?_; (case hd => rfl); (case hg => rfl); (case hr => first | (go_simp; done) | (go_simp; rfl)); intro gb8 hg w6_ hbox hb; have BK8 := Aside0.mk hbox; have GE8 := Aside0.mk (show w.heap.size ≤ gb8 from by rw [hg]; exact below_size HB.out); have NG8 := Aside0.mk (show g ≠ gb8 from by have := blk_lt HR.out.hb; omega); have n0_ := Aside0.mk ((HR.out.elder gb8 (by rw [hg]; exact Nat.le_refl _)).below hb); have n1_ := Aside0.mk (below_step HB.out hb); clear HB HR; have HB := n1_; have HR := n0_; clear n0_ n1_ hb hbox hg; have hz0 := (blk_cell BK8.out 0).trans rfl; have hf0 := blk_frozen BK8.out 0; have hz1 := (blk_cell BK8.out 1).trans rfl; have hf1 := blk_frozen BK8.out 1; have hz2 := (blk_cell BK8.out 2).trans rfl; have hf2 := blk_frozen BK8.out 2; have hz3 := (blk_cell BK8.out 3).trans rfl; have hf3 := blk_frozen BK8.out 3))
  have n0_ := Aside0.mk (((((HR.out.far (fun _ hk => hk.2) NG8.out 0 (.int .i64 0)).far (fun _ hk => hk.2) NG8.out 1 (.int .i64 0)).far (fun _ hk => hk.2) NG8.out 2 (.int .i64 0)).far (fun _ hk => hk.2) NG8.out 3 (.string ⟨#[]⟩)).mono (ok' := fun _ => True) (fun _ _ => trivial))
  have n1_ := Aside0.mk (show ((((w6_.setCell ⟨gb8, 0, none⟩ (.int .i64 0)).setCell ⟨gb8, 1, none⟩ (.int .i64 0)).setCell ⟨gb8, 2, none⟩ (.int .i64 0)).setCell ⟨gb8, 3, none⟩ (.string ⟨#[]⟩)).heap[gb8]? = some (.cells #[.int .i64 0, .int .i64 0, .int .i64 0, .string ⟨#[]⟩] 30 (0, 0)) from (blk_put (cs := #[.int .i64 0, .int .i64 0, .int .i64 0, .string ⟨#[]⟩]) (blk_put (cs := #[.int .i64 0, .int .i64 0, .int .i64 0, .string ⟨#[]⟩]) (blk_put (cs := #[.int .i64 0, .int .i64 0, .int .i64 0, .string ⟨#[]⟩]) (blk_put (cs := #[.int .i64 0, .int .i64 0, .int .i64 0, .string ⟨#[]⟩]) BK8.out 0 (.int .i64 0) rfl) 1 (.int .i64 0) rfl) 2 (.int .i64 0) rfl) 3 (.string ⟨#[]⟩) rfl))
  have n2_ := Aside0.mk (show Below w.heap.size w ((((w6_.setCell ⟨gb8, 0, none⟩ (.int .i64 0)).setCell ⟨gb8, 1, none⟩ (.int .i64 0)).setCell ⟨gb8, 2, none⟩ (.int .i64 0)).setCell ⟨gb8, 3, none⟩ (.string ⟨#[]⟩)) from (below_set (below_set (below_set (below_set HB.out GE8.out) GE8.out) GE8.out) GE8.out))
  clear HR HB BK8 hz0 hf0 hz1 hf1 hz2 hf2 hz3 hf3
  have HR := n0_
  have BK8 := n1_
  have HB := n2_
  clear n0_ n1_ n2_
  generalize ((((w6_.setCell ⟨gb8, 0, none⟩ (.int .i64 0)).setCell ⟨gb8, 1, none⟩ (.int .i64 0)).setCell ⟨gb8, 2, none⟩ (.int .i64 0)).setCell ⟨gb8, 3, none⟩ (.string ⟨#[]⟩)) = w7_ at HR BK8 HB ⊢
  clear BK8
  go_upto_region 9 with (first | (go_at_call 12; (with_reducible refine (log_get_some (l := ([(⟨0, 0, 2, ⟨#[]⟩⟩ : S30)] : List S30)) (base := 6) HR.out (by decide) 7 (by decide) (⟨0, 0, 2, ⟨#[]⟩⟩ : S30) rfl).mono ?_); rintro e_ w8_ ⟨rfl, hb⟩; have n0_ := Aside0.mk (HR.out.below hb); have n1_ := Aside0.mk (below_step HB.out hb); clear HB HR; have HB := n1_; have HR := n0_; clear n0_ n1_ hb) | ((with_reducible refine gate_dst (N := 10) rfl ?_); refine box_event ?hg (N := 10) ?hd (cs := #[.int .i64 0, .int .i64 0, .int .i64 0, .string ⟨#[]⟩]) (t := 30) ?hr ?_; (case hd => rfl); (case hg => rfl); (case hr => first | (go_simp; done) | (go_simp; rfl)); intro gb10 hg w9_ hbox hb; have BK10 := Aside0.mk hbox; have GE10 := Aside0.mk (show w.heap.size ≤ gb10 from by rw [hg]; exact below_size HB.out); have NG10 := Aside0.mk (show g ≠ gb10 from by have := blk_lt HR.out.hb; omega); have n0_ := Aside0.mk ((HR.out.elder gb10 (by rw [hg]; exact Nat.le_refl _)).below hb); have n1_ := Aside0.mk (below_step HB.out hb); clear HB HR; have HB := n1_; have HR := n0_; clear n0_ n1_ hb hbox hg; have hz0 := (blk_cell BK10.out 0).trans rfl; have hf0 := blk_frozen BK10.out 0; have hz1 := (blk_cell BK10.out 1).trans rfl; have hf1 := blk_frozen BK10.out 1; have hz2 := (blk_cell BK10.out 2).trans rfl; have hf2 := blk_frozen BK10.out 2; have hz3 := (blk_cell BK10.out 3).trans rfl; have hf3 := blk_frozen BK10.out 3))
  have n0_ := Aside0.mk (((((HR.out.far (fun _ hk => hk.2) NG10.out 0 (.int .i64 0)).far (fun _ hk => hk.2) NG10.out 1 (.int .i64 0)).far (fun _ hk => hk.2) NG10.out 2 (.int .i64 2)).far (fun _ hk => hk.2) NG10.out 3 (.string ⟨#[]⟩)).mono (ok' := fun _ => True) (fun _ _ => trivial))
  have n1_ := Aside0.mk (show ((((w9_.setCell ⟨gb10, 0, none⟩ (.int .i64 0)).setCell ⟨gb10, 1, none⟩ (.int .i64 0)).setCell ⟨gb10, 2, none⟩ (.int .i64 2)).setCell ⟨gb10, 3, none⟩ (.string ⟨#[]⟩)).heap[gb10]? = some (.cells #[.int .i64 0, .int .i64 0, .int .i64 2, .string ⟨#[]⟩] 30 (0, 0)) from (blk_put (cs := #[.int .i64 0, .int .i64 0, .int .i64 2, .string ⟨#[]⟩]) (blk_put (cs := #[.int .i64 0, .int .i64 0, .int .i64 0, .string ⟨#[]⟩]) (blk_put (cs := #[.int .i64 0, .int .i64 0, .int .i64 0, .string ⟨#[]⟩]) (blk_put (cs := #[.int .i64 0, .int .i64 0, .int .i64 0, .string ⟨#[]⟩]) BK10.out 0 (.int .i64 0) rfl) 1 (.int .i64 0) rfl) 2 (.int .i64 2) rfl) 3 (.string ⟨#[]⟩) rfl))
  have n2_ := Aside0.mk (show Below w.heap.size w ((((w9_.setCell ⟨gb10, 0, none⟩ (.int .i64 0)).setCell ⟨gb10, 1, none⟩ (.int .i64 0)).setCell ⟨gb10, 2, none⟩ (.int .i64 2)).setCell ⟨gb10, 3, none⟩ (.string ⟨#[]⟩)) from (below_set (below_set (below_set (below_set HB.out GE10.out) GE10.out) GE10.out) GE10.out))
  clear HR HB BK10 hz0 hf0 hz1 hf1 hz2 hf2 hz3 hf3
  have HR := n0_
  have BK10 := n1_
  have HB := n2_
  clear n0_ n1_ n2_
  generalize ((((w9_.setCell ⟨gb10, 0, none⟩ (.int .i64 0)).setCell ⟨gb10, 1, none⟩ (.int .i64 0)).setCell ⟨gb10, 2, none⟩ (.int .i64 2)).setCell ⟨gb10, 3, none⟩ (.string ⟨#[]⟩)) = w10_ at HR BK10 HB ⊢
  have hy2 := (blk_cell BK10.out 2).trans rfl
  go_wp2_with (first | (go_at_call 14; (with_reducible refine (log_base' HR.out).mono ?_); rintro e_ w_ ⟨rfl, rfl⟩) | (go_at_call 13; (with_reducible refine (log_last (l := ([(⟨0, 0, 2, ⟨#[]⟩⟩ : S30)] : List S30)) (base := 6) HR.out (by decide)).mono ?_); rintro e_ w11_ ⟨rfl, rfl⟩; rw [show (6 : Int) + (((([(⟨0, 0, 2, ⟨#[]⟩⟩ : S30)] : List S30)).length : Nat) : Int) = 7 from rfl]; have n2_ := Aside0.mk (below_step HB.out (below_drew (Below.refl _ _))); clear HB; have HB := n2_; clear n2_))
  go_ret
  exact ⟨rfl, HB.out⟩
end Go.Proofs.Ytmapkneofccboaa.FA
