/- Written by hand: the inbox' functions; what they answer, and what becomes of the inbox. -/
import Derived.Test.YthmeagbfoccnlaaHInboxChan
namespace Go.Proofs.Ythmeagbfoccnlaa.FA
open Go.Conc Go.RowKit Go.Proofs.YthmeagbfoccnlaaW.PrintWords Go.Proofs.YthmeagbfoccnlaaW.PrintLast Go.Proofs.YthmeagbfoccnlaaW.PrintMore Go.Proofs.Ythmeagbfoccnlaa.Hand Go.Proofs.Ythmeagbfoccnlaa.B
set_option linter.unusedVariables false
set_option linter.unusedSimpArgs false
/-- A row of texts in a channel. -/
def bufOf (l : List ByteArray) : Array Value := (l.map Value.string).toArray
theorem bufOf_size (l : List ByteArray) : (bufOf l).size = l.length := by simp [bufOf]
theorem bufOf_push (l : List ByteArray) (s : ByteArray) : (bufOf l).push (.string s) = bufOf (l ++ [s]) := by simp [bufOf]
theorem bufOf_head (s : ByteArray) (l : List ByteArray) : (bufOf (s :: l))[0]?.getD undef = .string s := by simp [bufOf]
theorem bufOf_tail (s : ByteArray) (l : List ByteArray) : (bufOf (s :: l)).extract 1 (bufOf (s :: l)).size = bufOf l := by
  apply Array.toList_inj.1
  simp [bufOf, List.take_of_length_le]
def Chan (w : World) (c room : Nat) (u : List ByteArray) : Prop := ∃ s r, w.heap[c]? = some (.chan room (bufOf u) false s r false)
/-- An inbox: its block, and its two channels. -/
structure Box (w : World) (g a b room : Nat) (cl : Bool) (u v : List ByteArray) : Prop where
  hg : w.heap[g]? = some (.cells #[.chan (some a), .chan (some b), .bool cl] 49 (0, 0))
  hu : Chan w a room u
  hv : Chan w b room v
  hab : a ≠ b
theorem Chan.lt {w : World} {c room u} (h : Chan w c room u) : c < w.heap.size := by
  obtain ⟨s, r, h⟩ := h
  exact (Array.getElem?_eq_some_iff.1 h).1
theorem setChan_other (w : World) (c c' cap : Nat) (buf : Array Value) (closed : Bool) (s r : Nat) (tm : Bool) (h : c ≠ c') : (w.setChan c cap buf closed s r tm).heap[c']? = w.heap[c']? := by
  simp [World.setChan, Array.getElem?_setIfInBounds_ne h]
/-- What an inbox' functions do to the world: its channels' blocks and its own turn, and nothing else. -/
structure Keeps (g a b : Nat) (w w' : World) : Prop where
  os : w'.os = w.os
  tape : w'.tape = w.tape
  output : w'.output = w.output
  size : w.heap.size = w'.heap.size
  block : ∀ k, k ≠ g → k ≠ a → k ≠ b → w'.heap[k]? = w.heap[k]?
theorem Keeps.refl (g a b : Nat) (w : World) : Keeps g a b w w := ⟨rfl, rfl, rfl, rfl, fun _ _ _ _ => rfl⟩
theorem Keeps.below {g a b B : Nat} {w0 w w' : World} (h : Keeps g a b w w') (hb : Below B w0 w) (hg : B ≤ g) (ha : B ≤ a) (hc : B ≤ b) : Below B w0 w' :=
  ⟨h.os.trans hb.os, h.tape.trans hb.tape, h.output.trans hb.output, by rw [← h.size]; exact hb.size, fun k hk => (h.block k (by omega) (by omega) (by omega)).trans (hb.block k hk)⟩
theorem Keeps.trans {g a b : Nat} {w w1 w2 : World} (h : Keeps g a b w w1) (h' : Keeps g a b w1 w2) : Keeps g a b w w2 :=
  ⟨h'.os.trans h.os, h'.tape.trans h.tape, h'.output.trans h.output, h.size.trans h'.size, fun k h1 h2 h3 => (h'.block k h1 h2 h3).trans (h.block k h1 h2 h3)⟩
theorem keeps_setChan (w : World) (g a b c cap : Nat) (buf : Array Value) (s r : Nat) (h : c = a ∨ c = b) : Keeps g a b w (w.setChan c cap buf false s r false) :=
  ⟨rfl, rfl, rfl, by simp [World.setChan], fun k h1 h2 h3 => setChan_other _ _ _ _ _ _ _ _ _ (by rcases h with h | h <;> omega)⟩
theorem Box.ne {w : World} {g a b room cl u v} (h : Box w g a b room cl u v) : g ≠ a ∧ g ≠ b := by
  obtain ⟨s, r, hu⟩ := h.hu
  obtain ⟨s', r', hv⟩ := h.hv
  have hg := h.hg
  constructor
  · rintro rfl; rw [hg] at hu; cases hu
  · rintro rfl; rw [hg] at hv; cases hv
theorem Box.set_u {w : World} {g a b room cl u v} (h : Box w g a b room cl u v) (u' : List ByteArray) (s r : Nat) : Box (w.setChan a room (bufOf u') false s r false) g a b room cl u' v := by
  have hn := h.ne
  refine ⟨(setChan_other _ _ _ _ _ _ _ _ _ (Ne.symm hn.1)).trans h.hg, ⟨s, r, heap_setChan _ _ _ _ _ _ _ _ h.hu.lt⟩, ?_, h.hab⟩
  obtain ⟨s', r', hv⟩ := h.hv
  exact ⟨s', r', (setChan_other _ _ _ _ _ _ _ _ _ h.hab).trans hv⟩
theorem Box.set_v {w : World} {g a b room cl u v} (h : Box w g a b room cl u v) (v' : List ByteArray) (s r : Nat) : Box (w.setChan b room (bufOf v') false s r false) g a b room cl u v' := by
  have hn := h.ne
  refine ⟨(setChan_other _ _ _ _ _ _ _ _ _ (Ne.symm hn.2)).trans h.hg, ?_, ⟨s, r, heap_setChan _ _ _ _ _ _ _ _ h.hv.lt⟩, h.hab⟩
  obtain ⟨s', r', hu⟩ := h.hu
  exact ⟨s', r', (setChan_other _ _ _ _ _ _ _ _ _ (Ne.symm h.hab)).trans hu⟩
/-- An inbox is as it was where its blocks are. -/
theorem Box.move {w w' : World} {g a b room cl u v} (h : Box w g a b room cl u v) (hm : ∀ k, k = g ∨ k = a ∨ k = b → w'.heap[k]? = w.heap[k]?) : Box w' g a b room cl u v := by
  refine ⟨(hm g (.inl rfl)).trans h.hg, ?_, ?_, h.hab⟩
  · obtain ⟨s, r, hu⟩ := h.hu
    exact ⟨s, r, (hm a (.inr (.inl rfl))).trans hu⟩
  · obtain ⟨s, r, hv⟩ := h.hv
    exact ⟨s, r, (hm b (.inr (.inr rfl))).trans hv⟩
theorem Box.lt {w : World} {g a b room cl u v} (h : Box w g a b room cl u v) : g < w.heap.size ∧ a < w.heap.size ∧ b < w.heap.size := ⟨(Array.getElem?_eq_some_iff.1 h.hg).1, h.hu.lt, h.hv.lt⟩
theorem Box.below {w w' : World} {g a b room cl u v} (h : Box w g a b room cl u v) (hb : Below w.heap.size w w') : Box w' g a b room cl u v :=
  h.move (fun k hk => hb.block k (by have := h.lt; rcases hk with rfl | rfl | rfl <;> omega))
/-! ### Put -/
theorem inbox_put_nil (p : Bool) (s : ByteArray) (w : World) : Calls Try.prog 8 #[.pointer none, .bool p, .string s] w fun e w' => e = .returned (.int .i64 7) ∧ w' = w := by
  go_enter Try.func8, Try.ntmps8
  go_wp2
  go_ret
  exact ⟨rfl, rfl⟩
def putV (room : Nat) (cl p : Bool) (s : ByteArray) (u v : List ByteArray) : List ByteArray × List ByteArray × Int :=
  if cl = true then (u, v, 7) else if p = true then (if u.length < room then (u ++ [s], v, 0) else (u, v, 5)) else (if v.length < room then (u, v ++ [s], 0) else (u, v, 5))
theorem inbox_put_closed (p : Bool) (s : ByteArray) (g a b : Nat) (w : World) (hg : w.heap[g]? = some (.cells #[.chan (some a), .chan (some b), .bool true] 49 (0, 0))) : Calls Try.prog 8 #[.pointer (some ⟨g, 0, none⟩), .bool p, .string s] w fun e w' => e = .returned (.int .i64 7) ∧ w' = w := by
  have h2 := (blk_cell hg 2).trans rfl
  go_enter Try.func8, Try.ntmps8
  go_wp2
  go_ret
  exact ⟨rfl, rfl⟩
theorem inbox_put (p : Bool) (s : ByteArray) {w : World} {g a b room cl u v} (h : Box w g a b room cl u v) : Calls Try.prog 8 #[.pointer (some ⟨g, 0, none⟩), .bool p, .string s] w fun e w' =>
    e = .returned (.int .i64 (putV room cl p s u v).2.2) ∧ Box w' g a b room cl (putV room cl p s u v).1 (putV room cl p s u v).2.1 ∧ Keeps g a b w w' := by
  unfold putV
  obtain ⟨su, ru, hu⟩ := h.hu
  obtain ⟨sv, rv, hv⟩ := h.hv
  cases cl with
  | true => exact (inbox_put_closed p s g a b w h.hg).mono (by rintro e w' ⟨rfl, rfl⟩; exact ⟨rfl, h, Keeps.refl _ _ _ _⟩)
  | false =>
    cases p with
    | true =>
      by_cases hr : u.length < room
      · refine (put_room_u g a b s w room su ru (bufOf u) h.hg hu (by rw [bufOf_size]; exact hr)).mono ?_
        rintro e w' ⟨rfl, rfl⟩
        simp only [hr, if_true, if_false, Bool.false_eq_true]
        rw [bufOf_push]
        exact ⟨trivial, h.set_u _ _ _, keeps_setChan _ _ _ _ _ _ _ _ _ (.inl rfl)⟩
      · refine (put_full_u g a b s w room su ru (bufOf u) h.hg hu (by rw [bufOf_size]; omega)).mono ?_
        rintro e w' ⟨rfl, rfl⟩
        simp only [hr, if_true, if_false, Bool.false_eq_true]
        exact ⟨trivial, h, Keeps.refl _ _ _ _⟩
    | false =>
      by_cases hr : v.length < room
      · refine (put_room_n g a b s w room sv rv (bufOf v) h.hg hv (by rw [bufOf_size]; exact hr)).mono ?_
        rintro e w' ⟨rfl, rfl⟩
        simp only [hr, if_true, if_false, Bool.false_eq_true]
        rw [bufOf_push]
        exact ⟨trivial, h.set_v _ _ _, keeps_setChan _ _ _ _ _ _ _ _ _ (.inr rfl)⟩
      · refine (put_full_n g a b s w room sv rv (bufOf v) h.hg hv (by rw [bufOf_size]; omega)).mono ?_
        rintro e w' ⟨rfl, rfl⟩
        simp only [hr, if_true, if_false, Bool.false_eq_true]
        exact ⟨trivial, h, Keeps.refl _ _ _ _⟩
/-! ### Take -/
theorem inbox_take_nil (w : World) : Calls Try.prog 9 #[.pointer none] w fun e w' => e = .returned (.tuple #[.string ⟨#[]⟩, .bool false, .int .i64 6]) ∧ w' = w := by
  go_enter Try.func9, Try.ntmps9
  go_wp2
  go_ret3
  exact ⟨rfl, rfl⟩
/-- (text, urgent?, error, the rows behind it) -/
def takeV : List ByteArray → List ByteArray → ByteArray × Bool × Int × List ByteArray × List ByteArray
  | s :: u, v => (s, true, 0, u, v)
  | [], s :: v => (s, false, 0, [], v)
  | [], [] => (⟨#[]⟩, false, 6, [], [])
theorem inbox_take {w : World} {g a b room cl u v} (h : Box w g a b room cl u v) : Calls Try.prog 9 #[.pointer (some ⟨g, 0, none⟩)] w fun e w' =>
    e = .returned (.tuple #[.string (takeV u v).1, .bool (takeV u v).2.1, .int .i64 (takeV u v).2.2.1]) ∧ Box w' g a b room cl (takeV u v).2.2.2.1 (takeV u v).2.2.2.2 ∧ Keeps g a b w w' := by
  obtain ⟨su, ru, hu⟩ := h.hu
  obtain ⟨sv, rv, hv⟩ := h.hv
  cases u with
  | cons s u =>
    refine (take_u g a b cl w room su ru 0 0 0 (bufOf (s :: u)) h.hg hu (by rw [bufOf_size]; simp)).mono ?_
    rintro e w' ⟨rfl, rfl⟩
    rw [bufOf_head, bufOf_tail]
    exact ⟨rfl, h.set_u _ _ _, keeps_setChan _ _ _ _ _ _ _ _ _ (.inl rfl)⟩
  | nil =>
    cases v with
    | cons s v =>
      refine (take_n g a b cl w room sv rv room su ru (bufOf (s :: v)) h.hg hu hv (by rw [bufOf_size]; simp)).mono ?_
      rintro e w' ⟨rfl, rfl⟩
      rw [bufOf_head, bufOf_tail]
      exact ⟨rfl, h.set_v _ _ _, keeps_setChan _ _ _ _ _ _ _ _ _ (.inr rfl)⟩
    | nil =>
      refine (take_e g a b cl w room sv rv room su ru #[] h.hg hu hv).mono ?_
      rintro e w' ⟨rfl, rfl⟩
      exact ⟨rfl, h, Keeps.refl _ _ _ _⟩
/-! ### Len, Close of none -/
theorem inbox_len_nil (w : World) : Calls Try.prog 14 #[.pointer none] w fun e w' => e = .returned (.tuple #[.int .i64 0, .int .i64 0]) ∧ w' = w := by
  go_enter Try.func14, Try.ntmps14
  go_wp2
  go_ret2
  exact ⟨rfl, rfl⟩
theorem inbox_close_nil (w : World) : Calls Try.prog 15 #[.pointer none] w fun e w' => e = .returned (.tuple #[]) ∧ w' = w := by
  go_enter Try.func15, Try.ntmps15
  go_wp2
  go_end0
  exact ⟨rfl, rfl⟩
section
variable {P : Program} {ops : Array Oper} {o : Oper} {a : Act} {Q : Exit → Act → World → Prop} {Kc : Act → World → Prop}
theorem chan_step {W : World} (hw : Region.wanted o (yielded ops a.tmps) = true) {N : Tmp} (_hd : o.dst = some N) {cap : Nat}
    (hrun : (execOp a.eval o).run P W = .ok (.value (.chan (some W.heap.size))) (W.alloc (.chan cap #[] false 0 0 false)))
    (h : ∀ g, g = W.heap.size → ∀ w1, w1.heap[g]? = some (.chan cap #[] false 0 0 false) → Below W.heap.size W w1 → Kc (a.put o.dst (.chan (some g))) w1) : if Region.wanted o (yielded ops a.tmps) = true then Oper.wp P o a W Kc Q else Kc (a.put o.dst undef) W :=
  event_step hw hrun (h _ rfl _ (heap_alloc_new _ _) (below_alloc (Below.refl _ _) _))
end
theorem bytesStr : ∃ i, Try.prog.info? 9 = some i ∧ i.bytes = 16 := by
  have h : (Try.prog.info? 9).map (·.bytes) = some 16 := by kernel_rfl
  obtain ⟨i, hi, hb⟩ := Option.map_eq_some_iff.1 h
  exact ⟨i, hi, hb⟩
theorem mkChan (n : Nat) (hn : n ≤ 256) (w : World) : (Instr.makeChan 47 (.int .i64 (n : Int))).run Try.prog w = .ok (.chan (some w.heap.size)) (w.alloc (.chan n #[] false 0 0 false)) := by
  obtain ⟨i, hi, hb⟩ := bytesStr
  simpa using run_makeChan (P := Try.prog) (w := w) Try.underlying47 hi .i64 n (by omega) (by rw [hb]; omega)
end Go.Proofs.Ythmeagbfoccnlaa.FA
