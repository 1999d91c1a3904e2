/- Written by hand (wip/tools/gen_log.py): a log: a block of a base and of a row of items. -/
import Derived.Test.YtmapkneofccboaaHLogRow
import Derived.Test.YtmapkneofccboaaFAoplogright
import Derived.Test.YtmapkneofccboaaFAsextonref05Right
import Derived.Test.YtmapkneofccboaaWTab
import Derived.Test.YtmapkneofccboaaWNEv
import Derived.Test.YtmapkneofccboaaWApart
namespace Go.Proofs.Ytmapkneofccboaa.FA
open Go.RowKit Go.Proofs.YtmapkneofccboaaW.PrintWords Go.Proofs.YtmapkneofccboaaW.PrintLast Go.Proofs.YtmapkneofccboaaW.PrintMore Go.Proofs.Ytmapkneofccboaa.Hand Go.Proofs.Ytmapkneofccboaa.B
set_option linter.unusedVariables false
set_option linter.unusedSimpArgs false
/-- A log: its block, and its items' row. -/
structure LBox (T : Nat) (w : World) (N g : Nat) (base : Int) (l : List S30) (V : Value) (ok : Nat → Prop) : Prop where
  hb : w.heap[g]? = some (.cells #[.int .i64 base, V] T (0, 0))
  hl : FR w N ok V l
  hN : N ≤ g
  hs : N ≤ w.heap.size
/-- The world moves on; of what was there only the block g and the row V's block turn. -/
structure LMoves (N g : Nat) (V V' : Value) (w w' : World) : Prop where
  os : w'.os = w.os
  tape : w'.tape = w.tape
  output : w'.output = w.output
  size : w.heap.size ≤ w'.heap.size
  low : ∀ k, k < N → w'.heap[k]? = w.heap[k]?
  block : ∀ k, k < w.heap.size → k ≠ g → some k ≠ V.ownBlock → w'.heap[k]? = w.heap[k]?
  own : ∀ k, V'.ownBlock = some k → V.ownBlock = some k ∨ w.heap.size ≤ k
theorem LMoves.refl (N g : Nat) (V : Value) (w : World) : LMoves N g V V w w := ⟨rfl, rfl, rfl, Nat.le_refl _, fun _ _ => rfl, fun _ _ _ _ => rfl, fun _ h => .inl h⟩
theorem LMoves.trans {N g : Nat} {V V1 V2 : Value} {w w1 w2 : World} (m : LMoves N g V V1 w w1) (m' : LMoves N g V1 V2 w1 w2) : LMoves N g V V2 w w2 :=
  ⟨m'.os.trans m.os, m'.tape.trans m.tape, m'.output.trans m.output, Nat.le_trans m.size m'.size, fun k hk => (m'.low k hk).trans (m.low k hk),
    fun k hk h1 h2 => (m'.block k (Nat.lt_of_lt_of_le hk m.size) h1 (fun he => by rcases m.own k he.symm with h | h; exact h2 h.symm; omega)).trans (m.block k hk h1 h2),
    fun k hk => by rcases m'.own k hk with h | h; exact m.own k h; exact .inr (Nat.le_trans m.size h)⟩
theorem LMoves.of_below {N g : Nat} {V : Value} {w w' : World} (hb : Below w.heap.size w w') (hN : N ≤ w.heap.size) : LMoves N g V V w w' :=
  ⟨hb.os, hb.tape, hb.output, hb.size, fun k hk => hb.block k (Nat.lt_of_lt_of_le hk hN), fun k hk _ _ => hb.block k hk, fun _ h => .inl h⟩
theorem LMoves.of_set {N g : Nat} {V : Value} (w : World) (hN : N ≤ g) (i : Nat) (x : Value) : LMoves N g V V w (w.setCell ⟨g, i, none⟩ x) := by
  have hb := (Below.refl g w).setCell (p := ⟨g, i, none⟩) (Nat.le_refl _) x
  exact ⟨hb.os, hb.tape, hb.output, by simp, fun k hk => Below.heap_setCell w ⟨g, i, none⟩ x k (show k ≠ g by omega), fun k _ h1 _ => Below.heap_setCell w ⟨g, i, none⟩ x k h1, fun _ h => .inl h⟩
theorem LMoves.of_grown {N g : Nat} {w w' : World} {V V' : Value} (hg : w.grownBy w' V.ownBlock) (hb : ∀ k, V.ownBlock = some k → N ≤ k) (hN : N ≤ w.heap.size) (hat : V'.ownBlock = V.ownBlock ∨ ∃ b, V'.ownBlock = some b ∧ w.heap.size ≤ b) : LMoves N g V V' w w' :=
  ⟨hg.os, hg.tape, hg.output, hg.size, fun k hk => hg.block k (Nat.lt_of_lt_of_le hk hN) (fun he => by have := hb k he.symm; omega), fun k hk _ h2 => hg.block k hk h2,
    fun k hk => by rcases hat with h | ⟨b, h, hle⟩; exact .inl (h ▸ hk); exact .inr (by rw [h] at hk; injection hk with hk; omega)⟩
theorem LMoves.below {N g : Nat} {V V' : Value} {w0 w w' : World} (m : LMoves N g V V' w w') (hb : Below N w0 w) : Below N w0 w' :=
  ⟨m.os.trans hb.os, m.tape.trans hb.tape, m.output.trans hb.output, Nat.le_trans hb.size m.size, fun k hk => (m.low k hk).trans (hb.block k hk)⟩
theorem LBox.below {T : Nat} {w w' : World} {N g base l V ok} (r : LBox T w N g base l V ok) (hb : Below w.heap.size w w') : LBox T w' N g base l V ok :=
  ⟨blk_below r.hb hb, FR_below r.hl hb, r.hN, Nat.le_trans r.hs hb.size⟩
theorem LBox.lower {T : Nat} {w : World} {N N' g base l V ok} (r : LBox T w N g base l V ok) (hn : N' ≤ N) : LBox T w N' g base l V ok := ⟨r.hb, FR_lower r.hl hn, Nat.le_trans hn r.hN, Nat.le_trans hn r.hs⟩
/-- Is an item right? -/
def rightB (x : S30) : Bool := decide (0 ≤ x.f0 ∧ x.f0 ≤ 1099511627776 ∧ 0 ≤ x.f1 ∧ x.f1 ≤ 1099511627776 ∧ 1 ≤ x.f2 ∧ x.f2 ≤ 1099511627776 ∧ (x.f3.size : Int) ≤ 4096)
theorem big_is (n : Int) : oplog_big.f n = some (decide (0 ≤ n ∧ n ≤ 1099511627776)) := by
  unfold oplog_big.f
  by_cases h : 0 ≤ n
  · rw [if_pos h]; simp [h]
  · rw [if_neg h]; simp [h]
theorem right_is (x : S30) : oplog_right.f x.f0 x.f1 x.f2 x.f3 = some (rightB x) := by
  unfold oplog_right.f rightB
  simp only [big_is, Option.bind_some]
  by_cases h2 : 1 ≤ x.f2
  · have hz : (x.f2 == 0) = false := beq_eq_false_iff_ne.mpr (by omega)
    rw [if_pos (by simp [hz])]
    by_cases h0 : 0 ≤ x.f0 ∧ x.f0 ≤ 1099511627776
    · by_cases h1 : 0 ≤ x.f1 ∧ x.f1 ≤ 1099511627776
      · by_cases h3 : x.f2 ≤ 1099511627776
        · rw [if_pos (decide_eq_true h0), if_pos (decide_eq_true h1), if_pos (decide_eq_true (by omega)), if_pos (by omega)]
          simp [h0, h1, h2, h3]
        · rw [if_pos (decide_eq_true h0), if_pos (decide_eq_true h1), if_neg (by rw [decide_eq_true_eq]; omega)]
          simp [h3]
      · rw [if_pos (decide_eq_true h0), if_neg (by rw [decide_eq_true_eq]; exact h1)]
        refine congrArg some (Eq.symm (decide_eq_false (fun h => h1 ⟨h.2.2.1, h.2.2.2.1⟩)))
    · rw [if_neg (by rw [decide_eq_true_eq]; exact h0)]
      refine congrArg some (Eq.symm (decide_eq_false (fun h => h0 ⟨h.1, h.2.1⟩)))
  · have hr : decide (0 ≤ x.f0 ∧ x.f0 ≤ 1099511627776 ∧ 0 ≤ x.f1 ∧ x.f1 ≤ 1099511627776 ∧ 1 ≤ x.f2 ∧ x.f2 ≤ 1099511627776 ∧ (x.f3.size : Int) ≤ 4096) = false := decide_eq_false (fun h => h2 h.2.2.2.2.1)
    rw [hr]
    repeat' split
    all_goals first | rfl | (exfalso; omega)
theorem ref_right_is (x : S30) : sextonref05_Right.f x.f0 x.f1 x.f2 x.f3 = some (rightB x) := by
  unfold sextonref05_Right.f rightB
  repeat' split
  all_goals (refine congrArg some ?_)
  all_goals first | (refine decide_eq_decide.mpr ?_; omega) | (refine Eq.symm (decide_eq_false ?_); omega)
/-! ### New -/
theorem log_new_bad (n : Int) (h : ¬ (0 ≤ n ∧ n ≤ 1099511627776)) (w : World) : Calls Try.prog 7 #[.int .i64 n] w fun e w' => e = .returned (.tuple #[.pointer none, .int .i64 1]) ∧ Below w.heap.size w w' := by
  have HF := Aside0.mk (show oplog_big.f n = some false by rw [big_is]; exact congrArg some (decide_eq_false h))
  clear h
  go_enter Try.func7, Try.ntmps7
  go_wp2_with (first | (go_at_call 25; (with_reducible refine (oplog_big.calls n false _ HF.out).mono ?_); rintro e_ w1_ ⟨rfl, hd⟩; have HD := Aside0.mk hd.below; clear hd))
  go_ret2
  exact ⟨rfl, HD.out⟩
theorem log_new (n : Int) (h : 0 ≤ n ∧ n ≤ 1099511627776) (w : World) : Calls Try.prog 7 #[.int .i64 n] w fun e w' => ∃ g, e = .returned (.tuple #[.pointer (some ⟨g, 0, none⟩), .int .i64 0]) ∧ LBox 58 w' w.heap.size g n [] (.slice none 0 0) (fun _ => True) ∧ Below w.heap.size w w' := by
  have HF := Aside0.mk (show oplog_big.f n = some true by rw [big_is]; exact congrArg some (decide_eq_true h))
  clear h
  go_enter Try.func7, Try.ntmps7
  go_wp2_with (first | (go_at_call 25; (with_reducible refine (oplog_big.calls n true _ HF.out).mono ?_); rintro e_ w1_ ⟨rfl, hd⟩; have HD := Aside0.mk hd.below; clear hd) | ((with_reducible refine gate_dst (N := 9) rfl ?_); refine box_event ?hg (N := 9) ?hd (cs := #[.int .i64 n, .slice none 0 0]) (t := 58) ?hr ?_; (case hd => rfl); (case hg => rfl); (case hr => first | (go_simp; done) | (go_simp; rfl)); intro gb hg w2_ hbox hb; have BK := Aside0.mk hbox; have HB := Aside0.mk (below_step HD.out hb); have HG := Aside0.mk (show w.heap.size ≤ gb from by rw [hg]; exact HD.out.size); clear hg hbox hb))
  go_ret2
  exact ⟨gb, rfl, ⟨BK.out, .inl (Kd.Q_nil _ _ _ _ _), HG.out, HB.out.size⟩, HB.out⟩
theorem log_base_nil (w : World) : Calls Try.prog 14 #[.pointer none] w fun e w' => e = .returned (.int .i64 0) ∧ w' = w := by
  go_enter Try.func14, Try.ntmps14
  go_wp2
  go_ret
  exact ⟨rfl, rfl⟩
theorem log_last_nil (w : World) : Calls Try.prog 13 #[.pointer none] w fun e w' => e = .returned (.int .i64 0) ∧ w' = w := by
  go_enter Try.func13, Try.ntmps13
  go_wp2
  go_ret
  exact ⟨rfl, rfl⟩
theorem log_view_nil (w : World) : Calls Try.prog 22 #[.pointer none] w fun e w' => e = .returned (.int .i64 0) ∧ w' = w := by
  go_enter Try.func22, Try.ntmps22
  go_wp2
  go_ret
  exact ⟨rfl, rfl⟩
theorem log_base {w : World} {N g base l V ok} (r : LBox 58 w N g base l V ok) : Calls Try.prog 14 #[.pointer (some ⟨g, 0, none⟩)] w fun e w' => e = .returned (.int .i64 base) ∧ w' = w := by
  have h0 := (blk_cell r.hb 0).trans rfl
  clear r
  go_enter Try.func14, Try.ntmps14
  go_wp2
  go_ret
  exact ⟨rfl, rfl⟩
def logLast.T3 : Bool × List (List Nat × List Nat) := (true, [([], []), ([0], [0]), ([1], [1]), ([2], [2]), ([], []), ([4], [4]), ([5], [5]), ([6], [6]), ([7], [7]), ([3, 8], [3, 8]), ([9, 0, 1, 2, 3, 4, 5, 6, 7, 8, 9], [9])])
def logLast.B3 : List Nat := [0, 1, 3, 7, 0, 16, 48, 112, 240, 511, 1023]
theorem logLast.tab3 : rtab .any (opsOf Try.f13 3) = logLast.T3 := by kernel_rfl
theorem logLast.bits3 : waitsOk logLast.T3.2 logLast.B3 = true := by kernel_rfl
theorem log_last {w : World} {N g base l V ok} (r : LBox 58 w N g base l V ok) (hx : 0 ≤ base ∧ base + (l.length : Int) ≤ 1099511627776) : Calls Try.prog 13 #[.pointer (some ⟨g, 0, none⟩)] w fun e w' => e = .returned (.int .i64 (base + (l.length : Int))) ∧ w' = w.drew := by
  obtain ⟨A, c, he, _⟩ := FR_slice r.hl
  subst he
  have HBK := Aside0.mk (blk_drew r.hb)
  have hw : wrap64 (base + (l.length : Int)) = base + (l.length : Int) := wrap64_in (by omega) (by omega)
  clear r hx
  go_enter Try.func13, Try.ntmps13
  go_wp2
  refine start_ (n := 11) (S := fun w' => w'.cell? ⟨g, 0, none⟩ = some (.int .i64 base) ∧ w'.cell? ⟨g, 1, none⟩ = some (.slice A l.length c)) (ds := []) #[false, false, false, false, false, false, false, false, false, false, false] (by kernel_rfl) rfl rfl ⟨(blk_cell HBK.out 0).trans rfl, (blk_cell HBK.out 1).trans rfl⟩ (fun hHeld => ?_); refine with_tabW logLast.tab3 logLast.bits3 (fun HT_ HW_ => ?_)
  refine pure_ (i := 0) (N := some 5) (v := ?_) (a' := ?_) #[true, false, false, false, false, false, false, false, false, false, false] rfl rfl (any_of HT_.out (by kernel_rfl)) (fun _ _ _ h => h) (Or.inl ⟨by rfl, ?_⟩) ?_ ?_
  rotate_left
  · intro w'
    go_simp
    with_reducible rfl
  rotate_left
  · simp only [Act.put, List.setIfInBounds_toArray, List.set_cons_zero, List.set_cons_succ, i64_w, i32_w]
    rfl
  refine pure_ (i := 1) (N := some 6) (v := ?_) (a' := ?_) #[true, true, false, false, false, false, false, false, false, false, false] rfl rfl (any_of HT_.out (by kernel_rfl)) (fun _ _ _ h => h) (Or.inl ⟨by rfl, ?_⟩) ?_ ?_
  rotate_left
  · intro w'
    go_simp
    with_reducible rfl
  rotate_left
  · simp only [Act.put, List.setIfInBounds_toArray, List.set_cons_zero, List.set_cons_succ, i64_w, i32_w]
    rfl
  refine pure_ (i := 2) (N := some 7) (v := ?_) (a' := ?_) #[true, true, true, false, false, false, false, false, false, false, false] rfl rfl (any_of HT_.out (by kernel_rfl)) (fun _ _ _ h => h) (Or.inl ⟨by rfl, ?_⟩) ?_ ?_
  rotate_left
  · intro w'
    go_simp
    with_reducible rfl
  rotate_left
  · simp only [Act.put, List.setIfInBounds_toArray, List.set_cons_zero, List.set_cons_succ, i64_w, i32_w]
    rfl
  refine pure_ (i := 4) (N := some 9) (v := ?_) (a' := ?_) #[true, true, true, false, true, false, false, false, false, false, false] rfl rfl (any_of HT_.out (by kernel_rfl)) (fun _ _ _ h => h) (Or.inl ⟨by rfl, ?_⟩) ?_ ?_
  rotate_left
  · intro w'
    go_simp
    with_reducible rfl
  rotate_left
  · simp only [Act.put, List.setIfInBounds_toArray, List.set_cons_zero, List.set_cons_succ, i64_w, i32_w]
    rfl
  refine pure_ (i := 5) (N := some 10) (v := ?_) (a' := ?_) #[true, true, true, false, true, true, false, false, false, false, false] rfl rfl (any_of HT_.out (by kernel_rfl)) (fun _ _ _ h => h) (Or.inl ⟨by rfl, ?_⟩) ?_ ?_
  rotate_left
  · intro w'
    go_simp
    with_reducible rfl
  rotate_left
  · simp only [Act.put, List.setIfInBounds_toArray, List.set_cons_zero, List.set_cons_succ, i64_w, i32_w]
    rfl
  refine pure_ (i := 6) (N := some 11) (v := ?_) (a' := ?_) #[true, true, true, false, true, true, true, false, false, false, false] rfl rfl (any_of HT_.out (by kernel_rfl)) (fun _ _ _ h => h) (Or.inl ⟨by rfl, ?_⟩) ?_ ?_
  rotate_left
  · intro w'
    go_simp
    with_reducible rfl
  rotate_left
  · simp only [Act.put, List.setIfInBounds_toArray, List.set_cons_zero, List.set_cons_succ, i64_w, i32_w]
    rfl
  refine take_ (i := 3) (N := some 8) (v := ?_) (a' := ?_) #[true, true, true, true, true, true, true, false, false, false, false] rfl rfl (take_ofW HT_.out HW_.out (by kernel_rfl)) (fun _ _ _ h => h) (Or.inl ⟨by rfl, ?_⟩) hHeld ?_ ?_
  rotate_left
  · rintro w' ⟨s0, s1⟩
    go_simp
    with_reducible rfl
  rotate_left
  · simp only [Act.put, List.setIfInBounds_toArray, List.set_cons_zero, List.set_cons_succ, i64_w, i32_w]
    rfl
  refine take_ (i := 7) (N := some 12) (v := ?_) (a' := ?_) #[true, true, true, true, true, true, true, true, false, false, false] rfl rfl (take_ofW HT_.out HW_.out (by kernel_rfl)) (fun _ _ _ h => h) (Or.inl ⟨by rfl, ?_⟩) hHeld ?_ ?_
  rotate_left
  · rintro w' ⟨s0, s1⟩
    go_simp
    with_reducible rfl
  rotate_left
  · simp only [Act.put, List.setIfInBounds_toArray, List.set_cons_zero, List.set_cons_succ, i64_w, i32_w]
    rfl
  refine pure_ (i := 8) (N := some 13) (v := ?_) (a' := ?_) #[true, true, true, true, true, true, true, true, true, false, false] rfl rfl (any_of HT_.out (by kernel_rfl)) (fun _ _ _ h => h) (Or.inl ⟨by rfl, ?_⟩) ?_ ?_
  rotate_left
  · intro w'
    go_simp
    with_reducible rfl
  rotate_left
  · simp only [Act.put, List.setIfInBounds_toArray, List.set_cons_zero, List.set_cons_succ, i64_w, i32_w]
    rfl
  refine pure_ (i := 9) (N := some 14) (v := ?_) (a' := ?_) #[true, true, true, true, true, true, true, true, true, true, false] rfl rfl (any_of HT_.out (by kernel_rfl)) (fun _ _ _ h => h) (Or.inl ⟨by rfl, ?_⟩) ?_ ?_
  rotate_left
  · intro w'
    go_simp
    with_reducible rfl
  rotate_left
  · simp only [Act.put, List.setIfInBounds_toArray, List.set_cons_zero, List.set_cons_succ, i64_w, i32_w]
    rfl
  refine pure_ (i := 10) (N := some 2) (v := ?_) (a' := ?_) #[true, true, true, true, true, true, true, true, true, true, true] rfl rfl (any_of HT_.out (by kernel_rfl)) (fun _ _ _ h => h) (Or.inl ⟨by rfl, ?_⟩) ?_ ?_
  rotate_left
  · intro w'
    go_simp
    with_reducible rfl
  rotate_left
  · simp only [Act.put, List.setIfInBounds_toArray, List.set_cons_zero, List.set_cons_succ, i64_w, i32_w]
    rfl
  refine done_ (done_of HT_.out (by kernel_rfl)) ?_
  go_wp2
  go_ret
  exact ⟨rfl, rfl⟩
def logView.T3 : Bool × List (List Nat × List Nat) := (true, [([], []), ([0], [0]), ([1], [1]), ([2], [2]), ([], []), ([4], [4]), ([5], [5]), ([6], [6]), ([7], [7]), ([8], [8]), ([3, 9], [3, 9]), ([10], [10]), ([11], [11]), ([12, 0, 1, 2, 3, 4, 5, 6, 7, 8, 9, 10, 11, 12], [12])])
def logView.B3 : List Nat := [0, 1, 3, 7, 0, 16, 48, 112, 240, 496, 1023, 2047, 4095, 8191]
theorem logView.tab3 : rtab .any (opsOf Try.f22 3) = logView.T3 := by kernel_rfl
theorem logView.bits3 : waitsOk logView.T3.2 logView.B3 = true := by kernel_rfl
def viewV (l : List S30) : Int := match l.getLast? with | none => 0 | some x => x.f0
theorem log_view {w : World} {N g base l V ok} (r : LBox 58 w N g base l V ok) (hx : l.length ≤ 1000000) : Calls Try.prog 22 #[.pointer (some ⟨g, 0, none⟩)] w fun e w' => e = .returned (.int .i64 (viewV l)) ∧ Below w.heap.size w w' := by
  obtain ⟨A, c, he, _⟩ := FR_slice r.hl
  subst he
  by_cases hl : l = []
  · subst hl
    have h1 := (blk_cell r.hb 1).trans rfl
    clear r hx
    go_enter Try.func22, Try.ntmps22
    go_wp2
    go_ret
    exact ⟨rfl, Below.refl _ _⟩
  · have hpos : 0 < l.length := List.length_pos_iff.2 hl
    have hv : viewV l = (rd_T30 l ((l.length - 1 : Nat) : Int)).f0 := by
      unfold viewV rd_T30
      rw [List.getLast?_eq_getElem?, List.getD_eq_getElem?_getD, Int.toNat_natCast, List.getElem?_eq_getElem (by omega)]
      rfl
    rw [hv]
    have hC := (FR_reads' (FR_drew r.hl)).2.2
    obtain ⟨ad, eA, hx0, _⟩ := at_T30 hC ((l.length - 1 : Nat) : Int) (by omega) (by omega)
    subst eA
    rw [Int.toNat_natCast] at hx0
    obtain ⟨x0, hx0'⟩ : ∃ x0, (rd_T30 l ((l.length - 1 : Nat) : Int)).f0 = x0 := ⟨_, rfl⟩
    rw [hx0'] at hx0 ⊢
    obtain ⟨m, hm⟩ : ∃ m, m = l.length := ⟨_, rfl⟩
    obtain ⟨i, hi⟩ : ∃ i, i = m - 1 := ⟨_, rfl⟩
    have r1 := (blk_cell r.hb 1).trans rfl
    have HBK := Aside0.mk (blk_drew r.hb)
    rw [← hm, ← hi] at hx0
    rw [← hm] at HBK r1
    have hw : wrap64 ((m : Int) - 1) = (i : Int) := by rw [wrap64_in (by omega) (by omega)]; omega
    have b0 : ((m : Int) == 0) = false := beq_eq_false_iff_ne.mpr (by omega)
    have b1 : decide ((0 : Int) ≤ (i : Int)) = true := decide_eq_true (by omega)
    have b2 : decide ((i : Int) < (m : Int)) = true := decide_eq_true (by omega)
    have b3 : i < m := by omega
    have HX := Aside0.mk hx0
    clear r hx hpos hv hC hm hi hl hx0 hx0'
    go_enter Try.func22, Try.ntmps22
    go_wp2
    refine start_ (n := 14) (S := fun w' => w'.cell? ⟨g, 1, none⟩ = some (.slice (some ad) m c) ∧ w'.cell? (ad.add (i * 4)) = some (.int .i64 x0)) (ds := []) #[false, false, false, false, false, false, false, false, false, false, false, false, false, false] (by kernel_rfl) rfl rfl ⟨(blk_cell HBK.out 1).trans rfl, HX.out⟩ (fun hHeld => ?_); refine with_tabW logView.tab3 logView.bits3 (fun HT_ HW_ => ?_)
    refine pure_ (i := 0) (N := some 13) (v := ?_) (a' := ?_) #[true, false, false, false, false, false, false, false, false, false, false, false, false, false] rfl rfl (any_of HT_.out (by kernel_rfl)) (fun _ _ _ h => h) (Or.inl ⟨by rfl, ?_⟩) ?_ ?_
    rotate_left
    · intro w'
      go_simp
      with_reducible rfl
    rotate_left
    · simp only [Act.put, List.setIfInBounds_toArray, List.set_cons_zero, List.set_cons_succ, i64_w, i32_w]
      rfl
    refine pure_ (i := 1) (N := some 14) (v := ?_) (a' := ?_) #[true, true, false, false, false, false, false, false, false, false, false, false, false, false] rfl rfl (any_of HT_.out (by kernel_rfl)) (fun _ _ _ h => h) (Or.inl ⟨by rfl, ?_⟩) ?_ ?_
    rotate_left
    · intro w'
      go_simp
      with_reducible rfl
    rotate_left
    · simp only [Act.put, List.setIfInBounds_toArray, List.set_cons_zero, List.set_cons_succ, i64_w, i32_w]
      rfl
    refine pure_ (i := 2) (N := some 15) (v := ?_) (a' := ?_) #[true, true, true, false, false, false, false, false, false, false, false, false, false, false] rfl rfl (any_of HT_.out (by kernel_rfl)) (fun _ _ _ h => h) (Or.inl ⟨by rfl, ?_⟩) ?_ ?_
    rotate_left
    · intro w'
      go_simp
      with_reducible rfl
    rotate_left
    · simp only [Act.put, List.setIfInBounds_toArray, List.set_cons_zero, List.set_cons_succ, i64_w, i32_w]
      rfl
    refine pure_ (i := 4) (N := some 17) (v := ?_) (a' := ?_) #[true, true, true, false, true, false, false, false, false, false, false, false, false, false] rfl rfl (any_of HT_.out (by kernel_rfl)) (fun _ _ _ h => h) (Or.inl ⟨by rfl, ?_⟩) ?_ ?_
    rotate_left
    · intro w'
      go_simp
      with_reducible rfl
    rotate_left
    · simp only [Act.put, List.setIfInBounds_toArray, List.set_cons_zero, List.set_cons_succ, i64_w, i32_w]
      rfl
    refine pure_ (i := 5) (N := some 18) (v := ?_) (a' := ?_) #[true, true, true, false, true, true, false, false, false, false, false, false, false, false] rfl rfl (any_of HT_.out (by kernel_rfl)) (fun _ _ _ h => h) (Or.inl ⟨by rfl, ?_⟩) ?_ ?_
    rotate_left
    · intro w'
      go_simp
      with_reducible rfl
    rotate_left
    · simp only [Act.put, List.setIfInBounds_toArray, List.set_cons_zero, List.set_cons_succ, i64_w, i32_w]
      rfl
    refine pure_ (i := 6) (N := some 19) (v := ?_) (a' := ?_) #[true, true, true, false, true, true, true, false, false, false, false, false, false, false] rfl rfl (any_of HT_.out (by kernel_rfl)) (fun _ _ _ h => h) (Or.inl ⟨by rfl, ?_⟩) ?_ ?_
    rotate_left
    · intro w'
      go_simp
      with_reducible rfl
    rotate_left
    · simp only [Act.put, List.setIfInBounds_toArray, List.set_cons_zero, List.set_cons_succ, i64_w, i32_w]
      rfl
    refine take_ (i := 3) (N := some 16) (v := ?_) (a' := ?_) #[true, true, true, true, true, true, true, false, false, false, false, false, false, false] rfl rfl (take_ofW HT_.out HW_.out (by kernel_rfl)) (fun _ _ _ h => h) (Or.inl ⟨by rfl, ?_⟩) hHeld ?_ ?_
    rotate_left
    · rintro w' ⟨s0, s1⟩
      go_simp
      with_reducible rfl
    rotate_left
    · simp only [Act.put, List.setIfInBounds_toArray, List.set_cons_zero, List.set_cons_succ, i64_w, i32_w]
      rfl
    refine take_ (i := 7) (N := some 20) (v := ?_) (a' := ?_) #[true, true, true, true, true, true, true, true, false, false, false, false, false, false] rfl rfl (take_ofW HT_.out HW_.out (by kernel_rfl)) (fun _ _ _ h => h) (Or.inl ⟨by rfl, ?_⟩) hHeld ?_ ?_
    rotate_left
    · rintro w' ⟨s0, s1⟩
      go_simp
      with_reducible rfl
    rotate_left
    · simp only [Act.put, List.setIfInBounds_toArray, List.set_cons_zero, List.set_cons_succ, i64_w, i32_w]
      rfl
    refine pure_ (i := 8) (N := some 21) (v := ?_) (a' := ?_) #[true, true, true, true, true, true, true, true, true, false, false, false, false, false] rfl rfl (any_of HT_.out (by kernel_rfl)) (fun _ _ _ h => h) (Or.inl ⟨by rfl, ?_⟩) ?_ ?_
    rotate_left
    · intro w'
      go_simp
      with_reducible rfl
    rotate_left
    · simp only [Act.put, List.setIfInBounds_toArray, List.set_cons_zero, List.set_cons_succ, i64_w, i32_w]
      rfl
    refine pure_ (i := 9) (N := some 22) (v := ?_) (a' := ?_) #[true, true, true, true, true, true, true, true, true, true, false, false, false, false] rfl rfl (any_of HT_.out (by kernel_rfl)) (fun _ _ _ h => h) (Or.inl ⟨by rfl, ?_⟩) ?_ ?_
    rotate_left
    · intro w'
      go_simp
      with_reducible rfl
    rotate_left
    · simp only [Act.put, List.setIfInBounds_toArray, List.set_cons_zero, List.set_cons_succ, i64_w, i32_w]
      rfl
    refine pure_ (i := 10) (N := some 23) (v := ?_) (a' := ?_) #[true, true, true, true, true, true, true, true, true, true, true, false, false, false] rfl rfl (any_of HT_.out (by kernel_rfl)) (fun _ _ _ h => h) (Or.inl ⟨by rfl, ?_⟩) ?_ ?_
    rotate_left
    · intro w'
      go_simp
      with_reducible rfl
    rotate_left
    · simp only [Act.put, List.setIfInBounds_toArray, List.set_cons_zero, List.set_cons_succ, i64_w, i32_w]
      rfl
    refine pure_ (i := 11) (N := some 24) (v := ?_) (a' := ?_) #[true, true, true, true, true, true, true, true, true, true, true, true, false, false] rfl rfl (any_of HT_.out (by kernel_rfl)) (fun _ _ _ h => h) (Or.inl ⟨by rfl, ?_⟩) ?_ ?_
    rotate_left
    · intro w'
      go_simp
      with_reducible rfl
    rotate_left
    · simp only [Act.put, List.setIfInBounds_toArray, List.set_cons_zero, List.set_cons_succ, i64_w, i32_w]
      rfl
    refine take_ (i := 12) (N := some 25) (v := ?_) (a' := ?_) #[true, true, true, true, true, true, true, true, true, true, true, true, true, false] rfl rfl (take_ofW HT_.out HW_.out (by kernel_rfl)) (fun _ _ _ h => h) (Or.inl ⟨by rfl, ?_⟩) hHeld ?_ ?_
    rotate_left
    · rintro w' ⟨s0, s1⟩
      go_simp
      with_reducible rfl
    rotate_left
    · simp only [Act.put, List.setIfInBounds_toArray, List.set_cons_zero, List.set_cons_succ, i64_w, i32_w]
      rfl
    refine pure_ (i := 13) (N := some 2) (v := ?_) (a' := ?_) #[true, true, true, true, true, true, true, true, true, true, true, true, true, true] rfl rfl (any_of HT_.out (by kernel_rfl)) (fun _ _ _ h => h) (Or.inl ⟨by rfl, ?_⟩) ?_ ?_
    rotate_left
    · intro w'
      go_simp
      with_reducible rfl
    rotate_left
    · simp only [Act.put, List.setIfInBounds_toArray, List.set_cons_zero, List.set_cons_succ, i64_w, i32_w]
      rfl
    refine done_ (done_of HT_.out (by kernel_rfl)) ?_
    go_wp2
    go_ret
    exact ⟨rfl, below_drew (Below.refl _ _)⟩
end Go.Proofs.Ytmapkneofccboaa.FA
