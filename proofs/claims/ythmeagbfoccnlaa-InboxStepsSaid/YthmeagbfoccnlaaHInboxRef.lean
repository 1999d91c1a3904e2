/- Written by hand (wip/tools/gen_inbox_ref.py): the inbox of the document's answer: a block of two rows of texts. -/
import Derived.Test.YthmeagbfoccnlaaHInboxOnce
namespace Go.Proofs.Ythmeagbfoccnlaa.FA
open Go.Conc Go.RowKit Go.Proofs.YthmeagbfoccnlaaW.PrintWords Go.Proofs.YthmeagbfoccnlaaW.PrintLast Go.Proofs.YthmeagbfoccnlaaW.PrintMore Go.Proofs.Ythmeagbfoccnlaa.Hand Go.Proofs.Ythmeagbfoccnlaa.B
set_option linter.unusedVariables false
set_option linter.unusedSimpArgs false
structure RBox (w : World) (N h room : Nat) (cl : Bool) (u v : List ByteArray) (Vu Vv : Value) : Prop where
  hb : w.heap[h]? = some (.cells #[.int .i64 (room : Int), Vu, Vv, .bool cl] 44 (0, 0))
  hu : Kd.Q Kd.string 9 w N (Beside Vv) Vu u
  hv : Kd.Q Kd.string 9 w N (Beside Vu) Vv v
  hN : N ≤ h
  hs : N ≤ w.heap.size
/-- The world moves on; of what was there only the block h and rows of texts turn, and nothing below N. -/
structure RMoves (N h : Nat) (w w' : World) : Prop where
  os : w'.os = w.os
  tape : w'.tape = w.tape
  output : w'.output = w.output
  size : w.heap.size ≤ w'.heap.size
  low : ∀ k, k < N → w'.heap[k]? = w.heap[k]?
  block : ∀ k, k < w.heap.size → k ≠ h → (∀ cells, w.heap[k]? ≠ some (.cells cells 9 (0, 0))) → w'.heap[k]? = w.heap[k]?
theorem RMoves.refl (N h : Nat) (w : World) : RMoves N h w w := ⟨rfl, rfl, rfl, Nat.le_refl _, fun _ _ => rfl, fun _ _ _ _ => rfl⟩
theorem RMoves.trans {N h : Nat} {w w1 w2 : World} (m : RMoves N h w w1) (m' : RMoves N h w1 w2) : RMoves N h w w2 :=
  ⟨m'.os.trans m.os, m'.tape.trans m.tape, m'.output.trans m.output, Nat.le_trans m.size m'.size, fun k hk => (m'.low k hk).trans (m.low k hk),
    fun k hk h1 h2 => (m'.block k (Nat.lt_of_lt_of_le hk m.size) h1 (fun cells => by rw [m.block k hk h1 h2]; exact h2 cells)).trans (m.block k hk h1 h2)⟩
theorem RMoves.of_below {N h : Nat} {w w' : World} (hb : Below w.heap.size w w') (hN : N ≤ w.heap.size) : RMoves N h w w' :=
  ⟨hb.os, hb.tape, hb.output, hb.size, fun k hk => hb.block k (Nat.lt_of_lt_of_le hk hN), fun k hk _ _ => hb.block k hk⟩
theorem RMoves.of_set {N h : Nat} (w : World) (hN : N ≤ h) (i : Nat) (x : Value) : RMoves N h w (w.setCell ⟨h, i, none⟩ x) := by
  have hb := (Below.refl h w).setCell (p := ⟨h, i, none⟩) (Nat.le_refl _) x
  exact ⟨hb.os, hb.tape, hb.output, by simp, fun k hk => Below.heap_setCell w ⟨h, i, none⟩ x k (show k ≠ h by omega), fun k _ h1 _ => Below.heap_setCell w ⟨h, i, none⟩ x k h1⟩
theorem RMoves.of_grown {N h : Nat} {w w' : World} {V : Value} (hg : w.grownBy w' V.ownBlock) (hb : ∀ k, V.ownBlock = some k → N ≤ k) (hty : ∀ k, V.ownBlock = some k → ∃ cells, w.heap[k]? = some (.cells cells 9 (0, 0))) (hN : N ≤ w.heap.size) : RMoves N h w w' :=
  ⟨hg.os, hg.tape, hg.output, hg.size, fun k hk => hg.block k (Nat.lt_of_lt_of_le hk hN) (fun he => by have := hb k he.symm; omega),
    fun k hk _ h2 => hg.block k hk (fun he => by obtain ⟨cells, hc⟩ := hty k he.symm; exact h2 cells hc)⟩
theorem RMoves.below {N h : Nat} {w0 w w' : World} (m : RMoves N h w w') (hb : Below N w0 w) : Below N w0 w' :=
  ⟨m.os.trans hb.os, m.tape.trans hb.tape, m.output.trans hb.output, Nat.le_trans hb.size m.size, fun k hk => (m.low k hk).trans (hb.block k hk)⟩
theorem RMoves.blk {N h : Nat} {w w' : World} (m : RMoves N h w w') {k t : Nat} {cells : Array Value} (hk : w.heap[k]? = some (.cells cells t (0, 0))) (hn : k ≠ h) (ht : t ≠ 9) : w'.heap[k]? = some (.cells cells t (0, 0)) :=
  (m.block k (blk_lt hk) hn (fun c hc => by rw [hk] at hc; injection hc with hc; injection hc with _ hc; exact ht hc)).trans hk
theorem Box.rmoves {w w' : World} {g a b room cl u v} (hx : Box w g a b room cl u v) {N h t : Nat} {cells : Array Value} (m : RMoves N h w w') (hh : w.heap[h]? = some (.cells cells 44 (0, 0))) : Box w' g a b room cl u v := by
  have hap := hx.apart hh (by decide)
  obtain ⟨su, ru, hu⟩ := hx.hu
  obtain ⟨sv, rv, hv⟩ := hx.hv
  exact ⟨m.blk hx.hg (Ne.symm hap.1) (by decide), ⟨su, ru, (m.block a (hx.lt).2.1 (Ne.symm hap.2.1) (fun c hc => by rw [hu] at hc; cases hc)).trans hu⟩, ⟨sv, rv, (m.block b (hx.lt).2.2 (Ne.symm hap.2.2) (fun c hc => by rw [hv] at hc; cases hc)).trans hv⟩, hx.hab⟩
theorem RBox.moves {w w' : World} {g a b room' : Nat} {cl' : Bool} {uu vv : List ByteArray} {N h room cl u v Vu Vv} (r : RBox w N h room cl u v Vu Vv) (hx : Box w g a b room' cl' uu vv) (m : Moves g a b w w') : RBox w' N h room cl u v Vu Vv :=
  have hap := hx.apart r.hb (by decide)
  ⟨(m.block h (blk_lt r.hb) hap.1 hap.2.1 hap.2.2).trans r.hb, Q_moves r.hu hx (by decide) m, Q_moves r.hv hx (by decide) m, r.hN, Nat.le_trans r.hs m.size⟩
theorem RBox.below {w w' : World} {N h room cl u v Vu Vv} (r : RBox w N h room cl u v Vu Vv) (hb : Below w.heap.size w w') : RBox w' N h room cl u v Vu Vv :=
  ⟨blk_below r.hb hb, Kd.Q_below r.hu hb, Kd.Q_below r.hv hb, r.hN, Nat.le_trans r.hs hb.size⟩
/-! ### New -/
theorem ref_new_bad (n : Int) (h : n < 1 ∨ 256 < n) (w : World) : Calls Try.prog 12 #[.int .i64 n] w fun e w' => e = .returned (.tuple #[.pointer none, .int .i64 1]) ∧ w' = w := by
  by_cases h1 : n < 1
  · have b1 : decide (n < 1) = true := decide_eq_true h1
    clear h h1
    go_enter Try.func12, Try.ntmps12
    go_wp2
    go_ret2
    exact ⟨rfl, rfl⟩
  · have b1 : decide (n < 1) = false := decide_eq_false h1
    have b2 : decide (n > 256) = true := decide_eq_true (by omega)
    clear h h1
    go_enter Try.func12, Try.ntmps12
    go_wp2
    go_ret2
    exact ⟨rfl, rfl⟩
theorem ref_new (n : Nat) (h0 : 1 ≤ n) (h : n ≤ 256) (w : World) : Calls Try.prog 12 #[.int .i64 (n : Int)] w fun e w' => ∃ g, e = .returned (.tuple #[.pointer (some ⟨g, 0, none⟩), .int .i64 0]) ∧ RBox w' w.heap.size g n false [] [] (.slice none 0 0) (.slice none 0 0) ∧ Below w.heap.size w w' := by
  have b1 : decide ((n : Int) < 1) = false := decide_eq_false (by omega)
  have b2 : decide ((n : Int) > 256) = false := decide_eq_false (by omega)
  clear h0 h
  go_enter Try.func12, Try.ntmps12
  go_wp2_with (first | ((with_reducible refine gate_dst (N := 12) rfl ?_); refine box_event ?hg (N := 12) ?hd (cs := #[.int .i64 (n : Int), .slice none 0 0, .slice none 0 0, .bool false]) (t := 44) ?hr ?_; (case hd => rfl); (case hg => rfl); (case hr => first | (go_simp; done) | (go_simp; rfl)); intro gb hg w1_ hbox hb; have BK := Aside0.mk hbox; have HB := Aside0.mk hb; have HG := Aside0.mk hg; clear hg hbox hb))
  go_ret2
  exact ⟨gb, rfl, ⟨BK.out, Kd.Q_nil _ _ _ _ _, Kd.Q_nil _ _ _ _ _, Nat.le_of_eq HG.out.symm, HB.out.size⟩, HB.out⟩
/-! ### Put -/
theorem ref_put_closed (q : Bool) (s : ByteArray) {w : World} {h : Nat} {x0 x1 x2 : Value} (hb : w.heap[h]? = some (.cells #[x0, x1, x2, .bool true] 44 (0, 0))) : Calls Try.prog 16 #[.pointer (some ⟨h, 0, none⟩), .bool q, .string s] w fun e w' => e = .returned (.int .i64 7) ∧ w' = w := by
  have h3 := (blk_cell hb 3).trans rfl
  go_enter Try.func16, Try.ntmps16
  go_wp2
  go_ret
  exact ⟨rfl, rfl⟩
def refPut.T4 : Bool × List (List Nat × List Nat) := (true, [([], []), ([0], [0]), ([1], [1]), ([2], [2]), ([3], [3]), ([], []), ([5], [5]), ([6], [6]), ([7], [7]), ([4, 8], [4, 8])])
def refPut.B4 : List Nat := [0, 1, 3, 7, 15, 0, 32, 96, 224, 511]
theorem refPut.tab4 : rtab .any (opsOf Try.f16 4) = refPut.T4 := by kernel_rfl
theorem refPut.bits4 : waitsOk refPut.T4.2 refPut.B4 = true := by kernel_rfl
def refPut.T8 : Bool × List (List Nat × List Nat) := (true, [([], []), ([0], [0]), ([1], [1]), ([2], [2]), ([3], [3]), ([], []), ([5], [5]), ([6], [6]), ([7], [7]), ([4, 8], [4, 8])])
def refPut.B8 : List Nat := [0, 1, 3, 7, 15, 0, 32, 96, 224, 511]
theorem refPut.tab8 : rtab .any (opsOf Try.f16 8) = refPut.T8 := by kernel_rfl
theorem refPut.bits8 : waitsOk refPut.T8.2 refPut.B8 = true := by kernel_rfl
set_option maxHeartbeats 2000000 in
theorem ref_put_full_u (s : ByteArray) {w : World} {N h room : Nat} {u v : List ByteArray} {Vu Vv : Value} (r : RBox w N h room false u v Vu Vv) (hr : u.length = room) (hl : u.length ≤ 1000) : Calls Try.prog 16 #[.pointer (some ⟨h, 0, none⟩), .bool true, .string s] w fun e w' => e = .returned (.int .i64 5) ∧ w' = w.drew := by
  obtain ⟨A, c, he, hc⟩ := Kd.Q_slice r.hu
  subst he
  have HR := Aside0.mk r
  have HBK := Aside0.mk r.hb
  have HL := Aside0.mk hl
  have b1 : ((u.length : Int) == (room : Int)) = true := beq_iff_eq.mpr (by omega)
  have h3 := (blk_cell HBK.out 3).trans rfl
  clear r hl hc hr
  go_enter Try.func16, Try.ntmps16
  go_wp2
  refine start_ (n := 10) (S := fun w' => w'.cell? ⟨h, 0, none⟩ = some (.int .i64 (room : Int)) ∧ w'.cell? ⟨h, 1, none⟩ = some (.slice A u.length c)) (ds := []) #[false, false, false, false, false, false, false, false, false, false] (by kernel_rfl) rfl rfl ⟨(blk_cell (blk_drew HBK.out) 0).trans rfl, (blk_cell (blk_drew HBK.out) 1).trans rfl⟩ (fun hHeld => ?_); refine with_tabW refPut.tab4 refPut.bits4 (fun HT_ HW_ => ?_)
  refine pure_ (i := 0) (N := some 12) (v := ?_) (a' := ?_) #[true, false, false, false, false, false, false, false, false, false] rfl rfl (any_of HT_.out (by kernel_rfl)) (fun _ _ _ h => h) (Or.inl ⟨by rfl, ?_⟩) ?_ ?_
  rotate_left
  · intro w'
    go_simp
    with_reducible rfl
  rotate_left
  · simp only [Act.put, List.setIfInBounds_toArray, List.set_cons_zero, List.set_cons_succ, i64_w, i32_w]
    rfl
  refine pure_ (i := 1) (N := some 13) (v := ?_) (a' := ?_) #[true, true, false, false, false, false, false, false, false, false] rfl rfl (any_of HT_.out (by kernel_rfl)) (fun _ _ _ h => h) (Or.inl ⟨by rfl, ?_⟩) ?_ ?_
  rotate_left
  · intro w'
    go_simp
    with_reducible rfl
  rotate_left
  · simp only [Act.put, List.setIfInBounds_toArray, List.set_cons_zero, List.set_cons_succ, i64_w, i32_w]
    rfl
  refine pure_ (i := 2) (N := some 14) (v := ?_) (a' := ?_) #[true, true, true, false, false, false, false, false, false, false] rfl rfl (any_of HT_.out (by kernel_rfl)) (fun _ _ _ h => h) (Or.inl ⟨by rfl, ?_⟩) ?_ ?_
  rotate_left
  · intro w'
    go_simp
    with_reducible rfl
  rotate_left
  · simp only [Act.put, List.setIfInBounds_toArray, List.set_cons_zero, List.set_cons_succ, i64_w, i32_w]
    rfl
  refine pure_ (i := 5) (N := some 17) (v := ?_) (a' := ?_) #[true, true, true, false, false, true, false, false, false, false] rfl rfl (any_of HT_.out (by kernel_rfl)) (fun _ _ _ h => h) (Or.inl ⟨by rfl, ?_⟩) ?_ ?_
  rotate_left
  · intro w'
    go_simp
    with_reducible rfl
  rotate_left
  · simp only [Act.put, List.setIfInBounds_toArray, List.set_cons_zero, List.set_cons_succ, i64_w, i32_w]
    rfl
  refine pure_ (i := 6) (N := some 18) (v := ?_) (a' := ?_) #[true, true, true, false, false, true, true, false, false, false] rfl rfl (any_of HT_.out (by kernel_rfl)) (fun _ _ _ h => h) (Or.inl ⟨by rfl, ?_⟩) ?_ ?_
  rotate_left
  · intro w'
    go_simp
    with_reducible rfl
  rotate_left
  · simp only [Act.put, List.setIfInBounds_toArray, List.set_cons_zero, List.set_cons_succ, i64_w, i32_w]
    rfl
  refine pure_ (i := 7) (N := some 19) (v := ?_) (a' := ?_) #[true, true, true, false, false, true, true, true, false, false] rfl rfl (any_of HT_.out (by kernel_rfl)) (fun _ _ _ h => h) (Or.inl ⟨by rfl, ?_⟩) ?_ ?_
  rotate_left
  · intro w'
    go_simp
    with_reducible rfl
  rotate_left
  · simp only [Act.put, List.setIfInBounds_toArray, List.set_cons_zero, List.set_cons_succ, i64_w, i32_w]
    rfl
  refine take_ (i := 3) (N := some 15) (v := ?_) (a' := ?_) #[true, true, true, true, false, true, true, true, false, false] rfl rfl (take_ofW HT_.out HW_.out (by kernel_rfl)) (fun _ _ _ h => h) (Or.inl ⟨by rfl, ?_⟩) hHeld ?_ ?_
  rotate_left
  · rintro w' ⟨s0, s1⟩
    go_simp
    with_reducible rfl
  rotate_left
  · simp only [Act.put, List.setIfInBounds_toArray, List.set_cons_zero, List.set_cons_succ, i64_w, i32_w]
    rfl
  refine pure_ (i := 4) (N := some 16) (v := ?_) (a' := ?_) #[true, true, true, true, true, true, true, true, false, false] rfl rfl (any_of HT_.out (by kernel_rfl)) (fun _ _ _ h => h) (Or.inl ⟨by rfl, ?_⟩) ?_ ?_
  rotate_left
  · intro w'
    go_simp
    with_reducible rfl
  rotate_left
  · simp only [Act.put, List.setIfInBounds_toArray, List.set_cons_zero, List.set_cons_succ, i64_w, i32_w]
    rfl
  refine take_ (i := 8) (N := some 20) (v := ?_) (a' := ?_) #[true, true, true, true, true, true, true, true, true, false] rfl rfl (take_ofW HT_.out HW_.out (by kernel_rfl)) (fun _ _ _ h => h) (Or.inl ⟨by rfl, ?_⟩) hHeld ?_ ?_
  rotate_left
  · rintro w' ⟨s0, s1⟩
    go_simp
    with_reducible rfl
  rotate_left
  · simp only [Act.put, List.setIfInBounds_toArray, List.set_cons_zero, List.set_cons_succ, i64_w, i32_w]
    rfl
  refine pure_ (i := 9) (N := some 21) (v := ?_) (a' := ?_) #[true, true, true, true, true, true, true, true, true, true] rfl rfl (any_of HT_.out (by kernel_rfl)) (fun _ _ _ h => h) (Or.inl ⟨by rfl, ?_⟩) ?_ ?_
  rotate_left
  · intro w'
    go_simp
    with_reducible rfl
  rotate_left
  · simp only [Act.put, List.setIfInBounds_toArray, List.set_cons_zero, List.set_cons_succ, i64_w, i32_w]
    rfl
  refine done_ (done_of HT_.out (by kernel_rfl)) ?_
  go_wp2
  go_ret
  exact ⟨rfl, rfl⟩
set_option maxHeartbeats 2000000 in
theorem ref_put_room_u (s : ByteArray) {w : World} {N h room : Nat} {u v : List ByteArray} {Vu Vv : Value} (r : RBox w N h room false u v Vu Vv) (hr : u.length < room) (hl : u.length ≤ 1000) : Calls Try.prog 16 #[.pointer (some ⟨h, 0, none⟩), .bool true, .string s] w fun e w' => ∃ V', e = .returned (.int .i64 0) ∧ RBox w' N h room false (u ++ [s]) v V' Vv ∧ RMoves N h w w' := by
  obtain ⟨A, c, he, hc⟩ := Kd.Q_slice r.hu
  subst he
  have HR := Aside0.mk r
  have HBK := Aside0.mk r.hb
  have HL := Aside0.mk hl
  have b1 : ((u.length : Int) == (room : Int)) = false := beq_eq_false_iff_ne.mpr (by omega)
  have h3 := (blk_cell HBK.out 3).trans rfl
  clear r hl hc hr
  go_enter Try.func16, Try.ntmps16
  go_wp2
  refine start_ (n := 10) (S := fun w' => w'.cell? ⟨h, 0, none⟩ = some (.int .i64 (room : Int)) ∧ w'.cell? ⟨h, 1, none⟩ = some (.slice A u.length c)) (ds := []) #[false, false, false, false, false, false, false, false, false, false] (by kernel_rfl) rfl rfl ⟨(blk_cell (blk_drew HBK.out) 0).trans rfl, (blk_cell (blk_drew HBK.out) 1).trans rfl⟩ (fun hHeld => ?_); refine with_tabW refPut.tab4 refPut.bits4 (fun HT_ HW_ => ?_)
  refine pure_ (i := 0) (N := some 12) (v := ?_) (a' := ?_) #[true, false, false, false, false, false, false, false, false, false] rfl rfl (any_of HT_.out (by kernel_rfl)) (fun _ _ _ h => h) (Or.inl ⟨by rfl, ?_⟩) ?_ ?_
  rotate_left
  · intro w'
    go_simp
    with_reducible rfl
  rotate_left
  · simp only [Act.put, List.setIfInBounds_toArray, List.set_cons_zero, List.set_cons_succ, i64_w, i32_w]
    rfl
  refine pure_ (i := 1) (N := some 13) (v := ?_) (a' := ?_) #[true, true, false, false, false, false, false, false, false, false] rfl rfl (any_of HT_.out (by kernel_rfl)) (fun _ _ _ h => h) (Or.inl ⟨by rfl, ?_⟩) ?_ ?_
  rotate_left
  · intro w'
    go_simp
    with_reducible rfl
  rotate_left
  · simp only [Act.put, List.setIfInBounds_toArray, List.set_cons_zero, List.set_cons_succ, i64_w, i32_w]
    rfl
  refine pure_ (i := 2) (N := some 14) (v := ?_) (a' := ?_) #[true, true, true, false, false, false, false, false, false, false] rfl rfl (any_of HT_.out (by kernel_rfl)) (fun _ _ _ h => h) (Or.inl ⟨by rfl, ?_⟩) ?_ ?_
  rotate_left
  · intro w'
    go_simp
    with_reducible rfl
  rotate_left
  · simp only [Act.put, List.setIfInBounds_toArray, List.set_cons_zero, List.set_cons_succ, i64_w, i32_w]
    rfl
  refine pure_ (i := 5) (N := some 17) (v := ?_) (a' := ?_) #[true, true, true, false, false, true, false, false, false, false] rfl rfl (any_of HT_.out (by kernel_rfl)) (fun _ _ _ h => h) (Or.inl ⟨by rfl, ?_⟩) ?_ ?_
  rotate_left
  · intro w'
    go_simp
    with_reducible rfl
  rotate_left
  · simp only [Act.put, List.setIfInBounds_toArray, List.set_cons_zero, List.set_cons_succ, i64_w, i32_w]
    rfl
  refine pure_ (i := 6) (N := some 18) (v := ?_) (a' := ?_) #[true, true, true, false, false, true, true, false, false, false] rfl rfl (any_of HT_.out (by kernel_rfl)) (fun _ _ _ h => h) (Or.inl ⟨by rfl, ?_⟩) ?_ ?_
  rotate_left
  · intro w'
    go_simp
    with_reducible rfl
  rotate_left
  · simp only [Act.put, List.setIfInBounds_toArray, List.set_cons_zero, List.set_cons_succ, i64_w, i32_w]
    rfl
  refine pure_ (i := 7) (N := some 19) (v := ?_) (a' := ?_) #[true, true, true, false, false, true, true, true, false, false] rfl rfl (any_of HT_.out (by kernel_rfl)) (fun _ _ _ h => h) (Or.inl ⟨by rfl, ?_⟩) ?_ ?_
  rotate_left
  · intro w'
    go_simp
    with_reducible rfl
  rotate_left
  · simp only [Act.put, List.setIfInBounds_toArray, List.set_cons_zero, List.set_cons_succ, i64_w, i32_w]
    rfl
  refine take_ (i := 3) (N := some 15) (v := ?_) (a' := ?_) #[true, true, true, true, false, true, true, true, false, false] rfl rfl (take_ofW HT_.out HW_.out (by kernel_rfl)) (fun _ _ _ h => h) (Or.inl ⟨by rfl, ?_⟩) hHeld ?_ ?_
  rotate_left
  · rintro w' ⟨s0, s1⟩
    go_simp
    with_reducible rfl
  rotate_left
  · simp only [Act.put, List.setIfInBounds_toArray, List.set_cons_zero, List.set_cons_succ, i64_w, i32_w]
    rfl
  refine pure_ (i := 4) (N := some 16) (v := ?_) (a' := ?_) #[true, true, true, true, true, true, true, true, false, false] rfl rfl (any_of HT_.out (by kernel_rfl)) (fun _ _ _ h => h) (Or.inl ⟨by rfl, ?_⟩) ?_ ?_
  rotate_left
  · intro w'
    go_simp
    with_reducible rfl
  rotate_left
  · simp only [Act.put, List.setIfInBounds_toArray, List.set_cons_zero, List.set_cons_succ, i64_w, i32_w]
    rfl
  refine take_ (i := 8) (N := some 20) (v := ?_) (a' := ?_) #[true, true, true, true, true, true, true, true, true, false] rfl rfl (take_ofW HT_.out HW_.out (by kernel_rfl)) (fun _ _ _ h => h) (Or.inl ⟨by rfl, ?_⟩) hHeld ?_ ?_
  rotate_left
  · rintro w' ⟨s0, s1⟩
    go_simp
    with_reducible rfl
  rotate_left
  · simp only [Act.put, List.setIfInBounds_toArray, List.set_cons_zero, List.set_cons_succ, i64_w, i32_w]
    rfl
  refine pure_ (i := 9) (N := some 21) (v := ?_) (a' := ?_) #[true, true, true, true, true, true, true, true, true, true] rfl rfl (any_of HT_.out (by kernel_rfl)) (fun _ _ _ h => h) (Or.inl ⟨by rfl, ?_⟩) ?_ ?_
  rotate_left
  · intro w'
    go_simp
    with_reducible rfl
  rotate_left
  · simp only [Act.put, List.setIfInBounds_toArray, List.set_cons_zero, List.set_cons_succ, i64_w, i32_w]
    rfl
  refine done_ (done_of HT_.out (by kernel_rfl)) ?_
  have n0_ := Aside0.mk (HR.out.below (below_drew (Below.refl _ _)))
  have n1_ := Aside0.mk (RMoves.of_below (N := N) (h := h) (w := w) (w' := w.drew) (below_drew (Below.refl _ _)) HR.out.hs)
  clear HR HBK h3
  have HR := n0_
  have HM := n1_
  clear n0_ n1_
  generalize w.drew = w1_ at HR HM ⊢
  have hz0 := (blk_cell HR.out.hb 0).trans rfl
  have hz1 := (blk_cell HR.out.hb 1).trans rfl
  have hz2 := (blk_cell HR.out.hb 2).trans rfl
  have hz3 := (blk_cell HR.out.hb 3).trans rfl
  go_wp2_with (first | ((with_reducible refine gate_builtin (b := .append) (xs := #[.tmp 26, .tmp 28]) rfl ?_); at_builtin; refine Kd.Q_append Kd.string (w0 := w1_) N rfl (.tmp 26) (.tmp 28) 28 9 (.string ⟨#[]⟩) 16 rfl Try.underlying28 infoStr rfl (by decide) (by omega) (.slice A u.length c) u s [.string s] (Beside Vv) (fun _ => False) rfl rfl ?aP (fun _ hk => hk.elim) ?aF ?aO ?aB ?aS ?aL ?_; (case aP => exact rfl); (case aB => exact Below.refl _ _); (case aF => exact (fun k_ hk => ⟨trivial, fun he => by have := Kd.Q_lt HR.out.hv k_ he.symm; omega⟩)); (case aO => exact HR.out.hu); (case aS => exact HR.out.hs); (case aL => have := HL.out; omega); intro v3_ w3_ ho hb hg hat; obtain ⟨A3, c3, he3, _⟩ := Kd.Q_slice ho; rw [show (u ++ [s]).length = u.length + 1 by simp] at he3; subst he3; have n1_ := Aside0.mk (HM.out.trans (RMoves.of_grown (N := N) (h := h) hg (Kd.Q_base HR.out.hu) (Kd.Q_typed HR.out.hu) HR.out.hs)); have n2_ := Aside0.mk (show Kd.Q Kd.string 9 w3_ N (Beside (.slice A3 (u.length + 1) c3)) Vv _ from Kd.Q_after (ok := fun _ => True) HR.out.hv hg hat); have n3_ := Aside0.mk (blk_grown HR.out.hb hg (Kd.Q_ne HR.out.hu HR.out.hb (by decide))); have n4_ := Aside0.mk ho; have n5_ := Aside0.mk (show N ≤ w3_.heap.size from Nat.le_trans HR.out.hs (hg.size)); have n6_ := Aside0.mk HR.out.hN; clear HR HM hz0 hz1 hz2 hz3; have HM := n1_; have HO2 := n2_; have HBK := n3_; have HO := n4_; have HS := n5_; have HN := n6_; clear n1_ n2_ n3_ n4_ n5_ n6_ ho hb hg hat; have hz1 := (blk_cell HBK.out 1).trans rfl; have hf1 := blk_frozen HBK.out 1))
  go_ret
  exact ⟨_, rfl, ⟨blk_put (cs := #[.int .i64 (room : Int), .slice A u.length c, Vv, .bool false]) HBK.out 1 _ rfl, Kd.Q_set HO.out HBK.out (by decide) 1 _, Kd.Q_set HO2.out HBK.out (by decide) 1 _, HN.out, by simp; exact HS.out⟩, HM.out.trans (RMoves.of_set _ HN.out 1 _)⟩
set_option maxHeartbeats 2000000 in
theorem ref_put_full_n (s : ByteArray) {w : World} {N h room : Nat} {u v : List ByteArray} {Vu Vv : Value} (r : RBox w N h room false u v Vu Vv) (hr : v.length = room) (hl : v.length ≤ 1000) : Calls Try.prog 16 #[.pointer (some ⟨h, 0, none⟩), .bool false, .string s] w fun e w' => e = .returned (.int .i64 5) ∧ w' = w.drew := by
  obtain ⟨A, c, he, hc⟩ := Kd.Q_slice r.hv
  subst he
  have HR := Aside0.mk r
  have HBK := Aside0.mk r.hb
  have HL := Aside0.mk hl
  have b1 : ((v.length : Int) == (room : Int)) = true := beq_iff_eq.mpr (by omega)
  have h3 := (blk_cell HBK.out 3).trans rfl
  clear r hl hc hr
  go_enter Try.func16, Try.ntmps16
  go_wp2
  refine start_ (n := 10) (S := fun w' => w'.cell? ⟨h, 0, none⟩ = some (.int .i64 (room : Int)) ∧ w'.cell? ⟨h, 2, none⟩ = some (.slice A v.length c)) (ds := []) #[false, false, false, false, false, false, false, false, false, false] (by kernel_rfl) rfl rfl ⟨(blk_cell (blk_drew HBK.out) 0).trans rfl, (blk_cell (blk_drew HBK.out) 2).trans rfl⟩ (fun hHeld => ?_); refine with_tabW refPut.tab8 refPut.bits8 (fun HT_ HW_ => ?_)
  refine pure_ (i := 0) (N := some 32) (v := ?_) (a' := ?_) #[true, false, false, false, false, false, false, false, false, false] rfl rfl (any_of HT_.out (by kernel_rfl)) (fun _ _ _ h => h) (Or.inl ⟨by rfl, ?_⟩) ?_ ?_
  rotate_left
  · intro w'
    go_simp
    with_reducible rfl
  rotate_left
  · simp only [Act.put, List.setIfInBounds_toArray, List.set_cons_zero, List.set_cons_succ, i64_w, i32_w]
    rfl
  refine pure_ (i := 1) (N := some 33) (v := ?_) (a' := ?_) #[true, true, false, false, false, false, false, false, false, false] rfl rfl (any_of HT_.out (by kernel_rfl)) (fun _ _ _ h => h) (Or.inl ⟨by rfl, ?_⟩) ?_ ?_
  rotate_left
  · intro w'
    go_simp
    with_reducible rfl
  rotate_left
  · simp only [Act.put, List.setIfInBounds_toArray, List.set_cons_zero, List.set_cons_succ, i64_w, i32_w]
    rfl
  refine pure_ (i := 2) (N := some 34) (v := ?_) (a' := ?_) #[true, true, true, false, false, false, false, false, false, false] rfl rfl (any_of HT_.out (by kernel_rfl)) (fun _ _ _ h => h) (Or.inl ⟨by rfl, ?_⟩) ?_ ?_
  rotate_left
  · intro w'
    go_simp
    with_reducible rfl
  rotate_left
  · simp only [Act.put, List.setIfInBounds_toArray, List.set_cons_zero, List.set_cons_succ, i64_w, i32_w]
    rfl
  refine pure_ (i := 5) (N := some 37) (v := ?_) (a' := ?_) #[true, true, true, false, false, true, false, false, false, false] rfl rfl (any_of HT_.out (by kernel_rfl)) (fun _ _ _ h => h) (Or.inl ⟨by rfl, ?_⟩) ?_ ?_
  rotate_left
  · intro w'
    go_simp
    with_reducible rfl
  rotate_left
  · simp only [Act.put, List.setIfInBounds_toArray, List.set_cons_zero, List.set_cons_succ, i64_w, i32_w]
    rfl
  refine pure_ (i := 6) (N := some 38) (v := ?_) (a' := ?_) #[true, true, true, false, false, true, true, false, false, false] rfl rfl (any_of HT_.out (by kernel_rfl)) (fun _ _ _ h => h) (Or.inl ⟨by rfl, ?_⟩) ?_ ?_
  rotate_left
  · intro w'
    go_simp
    with_reducible rfl
  rotate_left
  · simp only [Act.put, List.setIfInBounds_toArray, List.set_cons_zero, List.set_cons_succ, i64_w, i32_w]
    rfl
  refine pure_ (i := 7) (N := some 39) (v := ?_) (a' := ?_) #[true, true, true, false, false, true, true, true, false, false] rfl rfl (any_of HT_.out (by kernel_rfl)) (fun _ _ _ h => h) (Or.inl ⟨by rfl, ?_⟩) ?_ ?_
  rotate_left
  · intro w'
    go_simp
    with_reducible rfl
  rotate_left
  · simp only [Act.put, List.setIfInBounds_toArray, List.set_cons_zero, List.set_cons_succ, i64_w, i32_w]
    rfl
  refine take_ (i := 3) (N := some 35) (v := ?_) (a' := ?_) #[true, true, true, true, false, true, true, true, false, false] rfl rfl (take_ofW HT_.out HW_.out (by kernel_rfl)) (fun _ _ _ h => h) (Or.inl ⟨by rfl, ?_⟩) hHeld ?_ ?_
  rotate_left
  · rintro w' ⟨s0, s1⟩
    go_simp
    with_reducible rfl
  rotate_left
  · simp only [Act.put, List.setIfInBounds_toArray, List.set_cons_zero, List.set_cons_succ, i64_w, i32_w]
    rfl
  refine pure_ (i := 4) (N := some 36) (v := ?_) (a' := ?_) #[true, true, true, true, true, true, true, true, false, false] rfl rfl (any_of HT_.out (by kernel_rfl)) (fun _ _ _ h => h) (Or.inl ⟨by rfl, ?_⟩) ?_ ?_
  rotate_left
  · intro w'
    go_simp
    with_reducible rfl
  rotate_left
  · simp only [Act.put, List.setIfInBounds_toArray, List.set_cons_zero, List.set_cons_succ, i64_w, i32_w]
    rfl
  refine take_ (i := 8) (N := some 40) (v := ?_) (a' := ?_) #[true, true, true, true, true, true, true, true, true, false] rfl rfl (take_ofW HT_.out HW_.out (by kernel_rfl)) (fun _ _ _ h => h) (Or.inl ⟨by rfl, ?_⟩) hHeld ?_ ?_
  rotate_left
  · rintro w' ⟨s0, s1⟩
    go_simp
    with_reducible rfl
  rotate_left
  · simp only [Act.put, List.setIfInBounds_toArray, List.set_cons_zero, List.set_cons_succ, i64_w, i32_w]
    rfl
  refine pure_ (i := 9) (N := some 41) (v := ?_) (a' := ?_) #[true, true, true, true, true, true, true, true, true, true] rfl rfl (any_of HT_.out (by kernel_rfl)) (fun _ _ _ h => h) (Or.inl ⟨by rfl, ?_⟩) ?_ ?_
  rotate_left
  · intro w'
    go_simp
    with_reducible rfl
  rotate_left
  · simp only [Act.put, List.setIfInBounds_toArray, List.set_cons_zero, List.set_cons_succ, i64_w, i32_w]
    rfl
  refine done_ (done_of HT_.out (by kernel_rfl)) ?_
  go_wp2
  go_ret
  exact ⟨rfl, rfl⟩
set_option maxHeartbeats 2000000 in
theorem ref_put_room_n (s : ByteArray) {w : World} {N h room : Nat} {u v : List ByteArray} {Vu Vv : Value} (r : RBox w N h room false u v Vu Vv) (hr : v.length < room) (hl : v.length ≤ 1000) : Calls Try.prog 16 #[.pointer (some ⟨h, 0, none⟩), .bool false, .string s] w fun e w' => ∃ V', e = .returned (.int .i64 0) ∧ RBox w' N h room false u (v ++ [s]) Vu V' ∧ RMoves N h w w' := by
  obtain ⟨A, c, he, hc⟩ := Kd.Q_slice r.hv
  subst he
  have HR := Aside0.mk r
  have HBK := Aside0.mk r.hb
  have HL := Aside0.mk hl
  have b1 : ((v.length : Int) == (room : Int)) = false := beq_eq_false_iff_ne.mpr (by omega)
  have h3 := (blk_cell HBK.out 3).trans rfl
  clear r hl hc hr
  go_enter Try.func16, Try.ntmps16
  go_wp2
  refine start_ (n := 10) (S := fun w' => w'.cell? ⟨h, 0, none⟩ = some (.int .i64 (room : Int)) ∧ w'.cell? ⟨h, 2, none⟩ = some (.slice A v.length c)) (ds := []) #[false, false, false, false, false, false, false, false, false, false] (by kernel_rfl) rfl rfl ⟨(blk_cell (blk_drew HBK.out) 0).trans rfl, (blk_cell (blk_drew HBK.out) 2).trans rfl⟩ (fun hHeld => ?_); refine with_tabW refPut.tab8 refPut.bits8 (fun HT_ HW_ => ?_)
  refine pure_ (i := 0) (N := some 32) (v := ?_) (a' := ?_) #[true, false, false, false, false, false, false, false, false, false] rfl rfl (any_of HT_.out (by kernel_rfl)) (fun _ _ _ h => h) (Or.inl ⟨by rfl, ?_⟩) ?_ ?_
  rotate_left
  · intro w'
    go_simp
    with_reducible rfl
  rotate_left
  · simp only [Act.put, List.setIfInBounds_toArray, List.set_cons_zero, List.set_cons_succ, i64_w, i32_w]
    rfl
  refine pure_ (i := 1) (N := some 33) (v := ?_) (a' := ?_) #[true, true, false, false, false, false, false, false, false, false] rfl rfl (any_of HT_.out (by kernel_rfl)) (fun _ _ _ h => h) (Or.inl ⟨by rfl, ?_⟩) ?_ ?_
  rotate_left
  · intro w'
    go_simp
    with_reducible rfl
  rotate_left
  · simp only [Act.put, List.setIfInBounds_toArray, List.set_cons_zero, List.set_cons_succ, i64_w, i32_w]
    rfl
  refine pure_ (i := 2) (N := some 34) (v := ?_) (a' := ?_) #[true, true, true, false, false, false, false, false, false, false] rfl rfl (any_of HT_.out (by kernel_rfl)) (fun _ _ _ h => h) (Or.inl ⟨by rfl, ?_⟩) ?_ ?_
  rotate_left
  · intro w'
    go_simp
    with_reducible rfl
  rotate_left
  · simp only [Act.put, List.setIfInBounds_toArray, List.set_cons_zero, List.set_cons_succ, i64_w, i32_w]
    rfl
  refine pure_ (i := 5) (N := some 37) (v := ?_) (a' := ?_) #[true, true, true, false, false, true, false, false, false, false] rfl rfl (any_of HT_.out (by kernel_rfl)) (fun _ _ _ h => h) (Or.inl ⟨by rfl, ?_⟩) ?_ ?_
  rotate_left
  · intro w'
    go_simp
    with_reducible rfl
  rotate_left
  · simp only [Act.put, List.setIfInBounds_toArray, List.set_cons_zero, List.set_cons_succ, i64_w, i32_w]
    rfl
  refine pure_ (i := 6) (N := some 38) (v := ?_) (a' := ?_) #[true, true, true, false, false, true, true, false, false, false] rfl rfl (any_of HT_.out (by kernel_rfl)) (fun _ _ _ h => h) (Or.inl ⟨by rfl, ?_⟩) ?_ ?_
  rotate_left
  · intro w'
    go_simp
    with_reducible rfl
  rotate_left
  · simp only [Act.put, List.setIfInBounds_toArray, List.set_cons_zero, List.set_cons_succ, i64_w, i32_w]
    rfl
  refine pure_ (i := 7) (N := some 39) (v := ?_) (a' := ?_) #[true, true, true, false, false, true, true, true, false, false] rfl rfl (any_of HT_.out (by kernel_rfl)) (fun _ _ _ h => h) (Or.inl ⟨by rfl, ?_⟩) ?_ ?_
  rotate_left
  · intro w'
    go_simp
    with_reducible rfl
  rotate_left
  · simp only [Act.put, List.setIfInBounds_toArray, List.set_cons_zero, List.set_cons_succ, i64_w, i32_w]
    rfl
  refine take_ (i := 3) (N := some 35) (v := ?_) (a' := ?_) #[true, true, true, true, false, true, true, true, false, false] rfl rfl (take_ofW HT_.out HW_.out (by kernel_rfl)) (fun _ _ _ h => h) (Or.inl ⟨by rfl, ?_⟩) hHeld ?_ ?_
  rotate_left
  · rintro w' ⟨s0, s1⟩
    go_simp
    with_reducible rfl
  rotate_left
  · simp only [Act.put, List.setIfInBounds_toArray, List.set_cons_zero, List.set_cons_succ, i64_w, i32_w]
    rfl
  refine pure_ (i := 4) (N := some 36) (v := ?_) (a' := ?_) #[true, true, true, true, true, true, true, true, false, false] rfl rfl (any_of HT_.out (by kernel_rfl)) (fun _ _ _ h => h) (Or.inl ⟨by rfl, ?_⟩) ?_ ?_
  rotate_left
  · intro w'
    go_simp
    with_reducible rfl
  rotate_left
  · simp only [Act.put, List.setIfInBounds_toArray, List.set_cons_zero, List.set_cons_succ, i64_w, i32_w]
    rfl
  refine take_ (i := 8) (N := some 40) (v := ?_) (a' := ?_) #[true, true, true, true, true, true, true, true, true, false] rfl rfl (take_ofW HT_.out HW_.out (by kernel_rfl)) (fun _ _ _ h => h) (Or.inl ⟨by rfl, ?_⟩) hHeld ?_ ?_
  rotate_left
  · rintro w' ⟨s0, s1⟩
    go_simp
    with_reducible rfl
  rotate_left
  · simp only [Act.put, List.setIfInBounds_toArray, List.set_cons_zero, List.set_cons_succ, i64_w, i32_w]
    rfl
  refine pure_ (i := 9) (N := some 41) (v := ?_) (a' := ?_) #[true, true, true, true, true, true, true, true, true, true] rfl rfl (any_of HT_.out (by kernel_rfl)) (fun _ _ _ h => h) (Or.inl ⟨by rfl, ?_⟩) ?_ ?_
  rotate_left
  · intro w'
    go_simp
    with_reducible rfl
  rotate_left
  · simp only [Act.put, List.setIfInBounds_toArray, List.set_cons_zero, List.set_cons_succ, i64_w, i32_w]
    rfl
  refine done_ (done_of HT_.out (by kernel_rfl)) ?_
  have n0_ := Aside0.mk (HR.out.below (below_drew (Below.refl _ _)))
  have n1_ := Aside0.mk (RMoves.of_below (N := N) (h := h) (w := w) (w' := w.drew) (below_drew (Below.refl _ _)) HR.out.hs)
  clear HR HBK h3
  have HR := n0_
  have HM := n1_
  clear n0_ n1_
  generalize w.drew = w1_ at HR HM ⊢
  have hz0 := (blk_cell HR.out.hb 0).trans rfl
  have hz1 := (blk_cell HR.out.hb 1).trans rfl
  have hz2 := (blk_cell HR.out.hb 2).trans rfl
  have hz3 := (blk_cell HR.out.hb 3).trans rfl
  go_wp2_with (first | ((with_reducible refine gate_builtin (b := .append) (xs := #[.tmp 46, .tmp 48]) rfl ?_); at_builtin; refine Kd.Q_append Kd.string (w0 := w1_) N rfl (.tmp 46) (.tmp 48) 28 9 (.string ⟨#[]⟩) 16 rfl Try.underlying28 infoStr rfl (by decide) (by omega) (.slice A v.length c) v s [.string s] (Beside Vu) (fun _ => False) rfl rfl ?aP (fun _ hk => hk.elim) ?aF ?aO ?aB ?aS ?aL ?_; (case aP => exact rfl); (case aB => exact Below.refl _ _); (case aF => exact (fun k_ hk => ⟨trivial, fun he => by have := Kd.Q_lt HR.out.hu k_ he.symm; omega⟩)); (case aO => exact HR.out.hv); (case aS => exact HR.out.hs); (case aL => have := HL.out; omega); intro v3_ w3_ ho hb hg hat; obtain ⟨A3, c3, he3, _⟩ := Kd.Q_slice ho; rw [show (v ++ [s]).length = v.length + 1 by simp] at he3; subst he3; have n1_ := Aside0.mk (HM.out.trans (RMoves.of_grown (N := N) (h := h) hg (Kd.Q_base HR.out.hv) (Kd.Q_typed HR.out.hv) HR.out.hs)); have n2_ := Aside0.mk (show Kd.Q Kd.string 9 w3_ N (Beside (.slice A3 (v.length + 1) c3)) Vu _ from Kd.Q_after (ok := fun _ => True) HR.out.hu hg hat); have n3_ := Aside0.mk (blk_grown HR.out.hb hg (Kd.Q_ne HR.out.hv HR.out.hb (by decide))); have n4_ := Aside0.mk ho; have n5_ := Aside0.mk (show N ≤ w3_.heap.size from Nat.le_trans HR.out.hs (hg.size)); have n6_ := Aside0.mk HR.out.hN; clear HR HM hz0 hz1 hz2 hz3; have HM := n1_; have HO2 := n2_; have HBK := n3_; have HO := n4_; have HS := n5_; have HN := n6_; clear n1_ n2_ n3_ n4_ n5_ n6_ ho hb hg hat; have hz2 := (blk_cell HBK.out 2).trans rfl; have hf2 := blk_frozen HBK.out 2))
  go_ret
  exact ⟨_, rfl, ⟨blk_put (cs := #[.int .i64 (room : Int), Vu, .slice A v.length c, .bool false]) HBK.out 2 _ rfl, Kd.Q_set HO2.out HBK.out (by decide) 2 _, Kd.Q_set HO.out HBK.out (by decide) 2 _, HN.out, by simp; exact HS.out⟩, HM.out.trans (RMoves.of_set _ HN.out 2 _)⟩
end Go.Proofs.Ythmeagbfoccnlaa.FA
