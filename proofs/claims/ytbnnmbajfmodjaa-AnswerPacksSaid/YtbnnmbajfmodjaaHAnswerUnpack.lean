/- Written by hand (wip/tools/gen_answer_unpack.py): answer.Unpack. -/
import Derived.Test.YtbnnmbajfmodjaaHAnswerPack
import Derived.Test.YtbnnmbajfmodjaaFAAnsSmall
import Derived.Test.YtbnnmbajfmodjaaFATlvAll
import Derived.Test.YtbnnmbajfmodjaaHAttrUnpack
namespace Go.Proofs.Ytbnnmbajfmodjaa.FA
open Go.RowKit Go.Proofs.YtbnnmbajfmodjaaW.PrintWords Go.Proofs.YtbnnmbajfmodjaaW.PrintLast Go.Proofs.YtbnnmbajfmodjaaW.PrintMore Go.Proofs.Ytbnnmbajfmodjaa.Hand Go.Proofs.Ytbnnmbajfmodjaa.B
set_option linter.unusedVariables false
set_option linter.unusedSimpArgs false
/-- A reply. -/
structure Rep where
  e : Int
  no : Int
  gen : Int
  ki : Int
  li : Int
  si : Int
  st : Int
  d : ByteArray
  xs : List S52
  n : Int
def Rep.zero : Rep := ⟨0, 0, 0, 0, 0, 0, 0, ⟨#[]⟩, [], 0⟩
def Rep.cells (r : Rep) (V : Value) : Array Value := #[.int .i64 r.e, .int .i64 r.no, .int .i64 r.gen, .int .i64 r.ki, .int .i64 r.li, .int .i64 r.si, .int .i64 r.st, .string r.d, V, .int .i64 r.n]
/-- A block that holds a reply. -/
def RBox (N : Nat) (w : World) (g : Nat) (r : Rep) : Prop := ∃ V, w.heap[g]? = some (.cells (r.cells V) 29 (0, 0)) ∧ N ≤ g ∧ Kd.R k52 52 w N (fun _ => True) V r.xs
theorem RBox.below {N : Nat} {w w' : World} {g : Nat} {r : Rep} (h : RBox N w g r) (hb : Below w.heap.size w w') : RBox N w' g r := by
  obtain ⟨V, h1, h2, h3⟩ := h
  exact ⟨V, blk_below h1 hb, h2, Kd.R_below h3 hb⟩
theorem RBox.lt {N : Nat} {w : World} {g : Nat} {r : Rep} (h : RBox N w g r) : g < w.heap.size := by obtain ⟨V, h1, _⟩ := h; exact blk_lt h1
/-- One field is read into a reply; true: it was too short. -/
def stepA (k : Nat) (f : S46) (r : Rep) : Option (Rep × Bool) :=
  if f.f0 = 1 then (answer_cutter_num.f k f.f1 false 2).bind fun a => some ({ r with e := a.1 }, a.2.2)
  else if f.f0 = 2 then (answer_cutter_handle.f k f.f1 false).bind fun a => some ({ r with no := a.1, gen := a.2.1 }, a.2.2.2)
  else if f.f0 = 3 then (attr_Unpack.f f.f1).bind fun a => some ({ r with ki := a.1, li := a.2.1, si := a.2.2.1, st := a.2.2.2.1 }, false)
  else if f.f0 = 4 then some ({ r with d := f.f1 }, false)
  else if f.f0 = 5 then (answer_cutter_num.f k f.f1 false 6).bind fun a => (answer_cutter_handle.f k a.2.1 a.2.2).bind fun b => if r.xs.length ≤ 1000000000 then some ({ r with xs := r.xs ++ [⟨b.2.2.1, a.1, ⟨b.1, b.2.1⟩⟩] }, b.2.2.2) else none
  else if f.f0 = 6 then (answer_cutter_num.f k f.f1 false 6).bind fun a => some ({ r with n := a.1 }, a.2.2)
  else some (r, false)
def loopA (k : Nat) : List S46 → Rep → Option (Option Rep)
  | [], r => some (some r)
  | f :: l, r => (stepA k f r).bind fun a => if a.2 = true then some none else loopA k l a.1
theorem stepA.mono (k : Nat) (f : S46) (r : Rep) : LeO (stepA k f r) (stepA (k + 1) f r) := by
  unfold stepA
  refine LeO.ite (LeO.bind (answer_cutter_num.mono _ _ _ _) (fun _ => LeO.refl _)) (LeO.ite (LeO.bind (answer_cutter_handle.mono _ _ _) (fun _ => LeO.refl _)) (LeO.ite (LeO.refl _) (LeO.ite (LeO.refl _) (LeO.ite (LeO.bind (answer_cutter_num.mono _ _ _ _) (fun _ => LeO.bind (answer_cutter_handle.mono _ _ _) (fun _ => LeO.refl _))) (LeO.ite (LeO.bind (answer_cutter_num.mono _ _ _ _) (fun _ => LeO.refl _)) (LeO.refl _))))))
theorem loopA.mono (k : Nat) : ∀ l r, LeO (loopA k l r) (loopA (k + 1) l r)
  | [], r => LeO.refl _
  | f :: l, r => LeO.bind (stepA.mono k f r) (fun _ => LeO.ite (LeO.refl _) (loopA.mono k l _))
abbrev RepT := Int × Int × Int × Int × Int × Int × Int × ByteArray × (List S52) × Int × Int
def Rep.out (r : Rep) (e : Int) : RepT := (r.e, r.no, r.gen, r.ki, r.li, r.si, r.st, r.d, r.xs, r.n, e)
def answer_Unpack.f (k : Nat) (s : ByteArray) : Option RepT :=
  (tlv_Unpack.f k s).bind fun l => if l.2 = 0 then if l.1.length ≤ 1000000000 then (loopA k l.1 Rep.zero).bind fun o => o.elim (some (Rep.zero.out 4)) fun r => (answer_Pack.f k r.e r.no r.gen r.ki r.li r.si r.st r.d r.xs r.n).bind fun p => if p.2 = 0 then if p.1.toList = s.toList then some (r.out 0) else some (Rep.zero.out 4) else some (Rep.zero.out 4) else none else some (Rep.zero.out 4)
theorem answer_Unpack.mono : ∀ s k, LeO (answer_Unpack.f k s) (answer_Unpack.f (k + 1) s) := by
  intro s k
  unfold answer_Unpack.f
  refine LeO.bind (tlv_Unpack.mono _ _) (fun l => LeO.ite (LeO.ite (LeO.bind (loopA.mono _ _ _) (fun o => ?_)) (LeO.refl _)) (LeO.refl _))
  cases o with
  | none => exact LeO.refl _
  | some r => exact LeO.bind (answer_Pack.mono _ _ _ _ _ _ _ _ _ _ _) (fun _ => LeO.refl _)
theorem stepA_1 {k : Nat} {f : S46} {r : Rep} (h : f.f0 = 1) : stepA k f r = ((answer_cutter_num.f k f.f1 false 2).bind fun a => some ({ r with e := a.1 }, a.2.2)) := by
  unfold stepA
  rw [if_pos h]
theorem stepA_2 {k : Nat} {f : S46} {r : Rep} (h : f.f0 = 2) : stepA k f r = ((answer_cutter_handle.f k f.f1 false).bind fun a => some ({ r with no := a.1, gen := a.2.1 }, a.2.2.2)) := by
  unfold stepA
  rw [if_neg (by rw [h]; decide), if_pos h]
theorem stepA_3 {k : Nat} {f : S46} {r : Rep} (h : f.f0 = 3) : stepA k f r = ((attr_Unpack.f f.f1).bind fun a => some ({ r with ki := a.1, li := a.2.1, si := a.2.2.1, st := a.2.2.2.1 }, false)) := by
  unfold stepA
  rw [if_neg (by rw [h]; decide), if_neg (by rw [h]; decide), if_pos h]
theorem stepA_4 {k : Nat} {f : S46} {r : Rep} (h : f.f0 = 4) : stepA k f r = (some ({ r with d := f.f1 }, false)) := by
  unfold stepA
  rw [if_neg (by rw [h]; decide), if_neg (by rw [h]; decide), if_neg (by rw [h]; decide), if_pos h]
theorem stepA_5 {k : Nat} {f : S46} {r : Rep} (h : f.f0 = 5) : stepA k f r = ((answer_cutter_num.f k f.f1 false 6).bind fun a => (answer_cutter_handle.f k a.2.1 a.2.2).bind fun b => if r.xs.length ≤ 1000000000 then some ({ r with xs := r.xs ++ [⟨b.2.2.1, a.1, ⟨b.1, b.2.1⟩⟩] }, b.2.2.2) else none) := by
  unfold stepA
  rw [if_neg (by rw [h]; decide), if_neg (by rw [h]; decide), if_neg (by rw [h]; decide), if_neg (by rw [h]; decide), if_pos h]
theorem stepA_6 {k : Nat} {f : S46} {r : Rep} (h : f.f0 = 6) : stepA k f r = ((answer_cutter_num.f k f.f1 false 6).bind fun a => some ({ r with n := a.1 }, a.2.2)) := by
  unfold stepA
  rw [if_neg (by rw [h]; decide), if_neg (by rw [h]; decide), if_neg (by rw [h]; decide), if_neg (by rw [h]; decide), if_neg (by rw [h]; decide), if_pos h]
theorem stepA_0 {k : Nat} {f : S46} {r : Rep} (h1 : f.f0 ≠ 1) (h2 : f.f0 ≠ 2) (h3 : f.f0 ≠ 3) (h4 : f.f0 ≠ 4) (h5 : f.f0 ≠ 5) (h6 : f.f0 ≠ 6) : stepA k f r = some (r, false) := by
  unfold stepA
  rw [if_neg h1, if_neg h2, if_neg h3, if_neg h4, if_neg h5, if_neg h6]
theorem tags6 (i : Int) : i = 1 ∨ i = 2 ∨ i = 3 ∨ i = 4 ∨ i = 5 ∨ i = 6 ∨ (i ≠ 1 ∧ i ≠ 2 ∧ i ≠ 3 ∧ i ≠ 4 ∧ i ≠ 5 ∧ i ≠ 6) := by omega
theorem meas_u (a n : Nat) (h : n < a) : ((a : Int) - intOf (.int .i64 ((n + 1 : Nat) : Int))).toNat < ((a : Int) - intOf (.int .i64 (n : Int))).toNat := by simp only [intOf]; omega
set_option maxHeartbeats 8000000 in
set_option maxRecDepth 100000 in
theorem answer_Unpack.bad (k : Nat) (s : ByteArray) (w : World) (fs : List S46) (e : Int) (hu_ : tlv_Unpack.f k s = some (fs, e)) (h0 : e ≠ 0) : Calls Try.prog 11 #[.string s] w fun e w' => ∃ v8_ : Value, e = .returned (.tuple #[.agg #[.int .i64 0, .int .i64 0, .int .i64 0, .int .i64 0, .int .i64 0, .int .i64 0, .int .i64 0, .string ⟨#[]⟩, v8_, .int .i64 0], .int .i64 4]) ∧ Kd.R k52 52 w' w.heap.size (fun _ => True) v8_ [] ∧ Below w.heap.size w w' := by
  have HB := Aside0.mk (Below.refl w.heap.size w)
  have HU := Aside0.mk hu_
  have hu := Try.underlying29
  have b0 : (e == 0) = false := beq_eq_false_iff_ne.mpr h0
  have b1 : (e != 0) = true := bne_iff_ne.mpr h0
  clear h0 hu_
  go_enter Try.func11, Try.ntmps11
  go_wp2_with (first | ((with_reducible refine gate_dst (N := 2) rfl ?_); refine box_event ?hg (N := 2) ?hd (cs := #[(.int .i64 0), (.int .i64 0), (.int .i64 0), (.int .i64 0), (.int .i64 0), (.int .i64 0), (.int .i64 0), (.string ⟨#[]⟩), (.slice none 0 0), (.int .i64 0)]) (t := 29) ?hr ?_; (case hd => rfl); (case hg => rfl); (case hr => first | (go_simp; done) | (go_simp; rfl)); intro g2 hg w1_ hbox hb; have BK2 := Aside0.mk hbox; have GE2 := Aside0.mk (show w.heap.size ≤ g2 from by rw [hg]; exact Nat.le_refl _); have n1_ := Aside0.mk (below_step HB.out hb); clear HB; have HB := n1_; clear n1_ hb hbox hg; have hzz0 := (blk_cell BK2.out 0).trans rfl; have hzz1 := (blk_cell BK2.out 1).trans rfl; have hzz2 := (blk_cell BK2.out 2).trans rfl; have hzz3 := (blk_cell BK2.out 3).trans rfl; have hzz4 := (blk_cell BK2.out 4).trans rfl; have hzz5 := (blk_cell BK2.out 5).trans rfl; have hzz6 := (blk_cell BK2.out 6).trans rfl; have hzz7 := (blk_cell BK2.out 7).trans rfl; have hzz8 := (blk_cell BK2.out 8).trans rfl; have hzz9 := (blk_cell BK2.out 9).trans rfl; have hfz0 := blk_frozen BK2.out 0; have hfz1 := blk_frozen BK2.out 1; have hfz2 := blk_frozen BK2.out 2; have hfz3 := blk_frozen BK2.out 3; have hfz4 := blk_frozen BK2.out 4; have hfz5 := blk_frozen BK2.out 5; have hfz6 := blk_frozen BK2.out 6; have hfz7 := blk_frozen BK2.out 7; have hfz8 := blk_frozen BK2.out 8; have hfz9 := blk_frozen BK2.out 9) | (go_at_call 30; (with_reducible refine (tlv_Unpack.calls k s fs e _ HU.out).mono ?_); rintro e_ wl ⟨VL, rfl, ho, hb⟩; (try clear hzz0 hfz0 hzz1 hfz1 hzz2 hfz2 hzz3 hfz3 hzz4 hfz4 hzz5 hfz5 hzz6 hfz6 hzz7 hfz7 hzz8 hfz8 hzz9 hfz9); obtain ⟨AL, cL, eL⟩ := Kd.R_slice ho; subst eL; have HCL := Aside0.mk (Kd.R_reads' ho).2; have n0_ := Aside0.mk (show wl.heap[g2]? = some (.cells #[(.int .i64 0), (.int .i64 0), (.int .i64 0), (.int .i64 0), (.int .i64 0), (.int .i64 0), (.int .i64 0), (.string ⟨#[]⟩), (.slice none 0 0), (.int .i64 0)] 29 (0, 0)) from blk_below BK2.out hb); have n1_ := Aside0.mk (below_step HB.out hb); clear BK2 HB; have BK2 := n0_; have HB := n1_; clear n0_ n1_ ho hb; have hzz0 := (blk_cell BK2.out 0).trans rfl; have hzz1 := (blk_cell BK2.out 1).trans rfl; have hzz2 := (blk_cell BK2.out 2).trans rfl; have hzz3 := (blk_cell BK2.out 3).trans rfl; have hzz4 := (blk_cell BK2.out 4).trans rfl; have hzz5 := (blk_cell BK2.out 5).trans rfl; have hzz6 := (blk_cell BK2.out 6).trans rfl; have hzz7 := (blk_cell BK2.out 7).trans rfl; have hzz8 := (blk_cell BK2.out 8).trans rfl; have hzz9 := (blk_cell BK2.out 9).trans rfl; have hfz0 := blk_frozen BK2.out 0; have hfz1 := blk_frozen BK2.out 1; have hfz2 := blk_frozen BK2.out 2; have hfz3 := blk_frozen BK2.out 3; have hfz4 := blk_frozen BK2.out 4; have hfz5 := blk_frozen BK2.out 5; have hfz6 := blk_frozen BK2.out 6; have hfz7 := blk_frozen BK2.out 7; have hfz8 := blk_frozen BK2.out 8; have hfz9 := blk_frozen BK2.out 9))
  refine bodyPost_ret (results_ct rfl _ _ g2 29 #[(.int .i64 0), (.int .i64 0), (.int .i64 0), (.int .i64 0), (.int .i64 0), (.int .i64 0), (.int .i64 0), (.string ⟨#[]⟩), (.slice none 0 0), (.int .i64 0)] (0, 0) _ rfl ?hg1_ hu rfl ?hi1_) rfl ?he1_
  case hg1_ => exact (blk_put (cs := #[(.int .i64 0), (.int .i64 0), (.int .i64 0), (.int .i64 0), (.int .i64 0), (.int .i64 0), (.int .i64 0), (.string ⟨#[]⟩), (.slice none 0 0), (.int .i64 0)]) (blk_put (cs := #[(.int .i64 0), (.int .i64 0), (.int .i64 0), (.int .i64 0), (.int .i64 0), (.int .i64 0), (.int .i64 0), (.string ⟨#[]⟩), (.slice none 0 0), (.int .i64 0)]) (blk_put (cs := #[(.int .i64 0), (.int .i64 0), (.int .i64 0), (.int .i64 0), (.int .i64 0), (.int .i64 0), (.int .i64 0), (.string ⟨#[]⟩), (.slice none 0 0), (.int .i64 0)]) (blk_put (cs := #[(.int .i64 0), (.int .i64 0), (.int .i64 0), (.int .i64 0), (.int .i64 0), (.int .i64 0), (.int .i64 0), (.string ⟨#[]⟩), (.slice none 0 0), (.int .i64 0)]) (blk_put (cs := #[(.int .i64 0), (.int .i64 0), (.int .i64 0), (.int .i64 0), (.int .i64 0), (.int .i64 0), (.int .i64 0), (.string ⟨#[]⟩), (.slice none 0 0), (.int .i64 0)]) (blk_put (cs := #[(.int .i64 0), (.int .i64 0), (.int .i64 0), (.int .i64 0), (.int .i64 0), (.int .i64 0), (.int .i64 0), (.string ⟨#[]⟩), (.slice none 0 0), (.int .i64 0)]) (blk_put (cs := #[(.int .i64 0), (.int .i64 0), (.int .i64 0), (.int .i64 0), (.int .i64 0), (.int .i64 0), (.int .i64 0), (.string ⟨#[]⟩), (.slice none 0 0), (.int .i64 0)]) (blk_put (cs := #[(.int .i64 0), (.int .i64 0), (.int .i64 0), (.int .i64 0), (.int .i64 0), (.int .i64 0), (.int .i64 0), (.string ⟨#[]⟩), (.slice none 0 0), (.int .i64 0)]) (blk_put (cs := #[(.int .i64 0), (.int .i64 0), (.int .i64 0), (.int .i64 0), (.int .i64 0), (.int .i64 0), (.int .i64 0), (.string ⟨#[]⟩), (.slice none 0 0), (.int .i64 0)]) (blk_put (cs := #[(.int .i64 0), (.int .i64 0), (.int .i64 0), (.int .i64 0), (.int .i64 0), (.int .i64 0), (.int .i64 0), (.string ⟨#[]⟩), (.slice none 0 0), (.int .i64 0)]) BK2.out 0 _ rfl) 1 _ rfl) 2 _ rfl) 3 _ rfl) 4 _ rfl) 5 _ rfl) 6 _ rfl) 7 _ rfl) 8 _ rfl) 9 _ rfl)
  case hi1_ => kernel_rfl
  exact ⟨_, rfl, Kd.R_nil _ _ _ _ _, (below_set (below_set (below_set (below_set (below_set (below_set (below_set (below_set (below_set (below_set HB.out GE2.out) GE2.out) GE2.out) GE2.out) GE2.out) GE2.out) GE2.out) GE2.out) GE2.out) GE2.out)⟩
theorem Rep.ge {N : Nat} {w : World} {g : Nat} {r : Rep} (h : RBox N w g r) : N ≤ g := by obtain ⟨V, h1, h2, _⟩ := h; exact h2
theorem le_of_below {w0 w : World} (h : Below w0.heap.size w0 w) : w0.heap.size ≤ w.heap.size := h.size
set_option maxHeartbeats 40000000 in
set_option maxRecDepth 100000 in
theorem answer_Unpack.good (k : Nat) (s : ByteArray) (w : World) (fs : List S46) (o : Option Rep) (R : RepT) (hu_ : tlv_Unpack.f k s = some (fs, 0)) (hln : fs.length ≤ 1000000000) (hl : loopA k fs Rep.zero = some o) (ha : (o.elim (some (Rep.zero.out 4)) fun r => (answer_Pack.f k r.e r.no r.gen r.ki r.li r.si r.st r.d r.xs r.n).bind fun p => if p.2 = 0 then if p.1.toList = s.toList then some (r.out 0) else some (Rep.zero.out 4) else some (Rep.zero.out 4)) = some R) : Calls Try.prog 11 #[.string s] w fun e w' => ∃ v8_ : Value, e = .returned (.tuple #[.agg #[.int .i64 R.1, .int .i64 R.2.1, .int .i64 R.2.2.1, .int .i64 R.2.2.2.1, .int .i64 R.2.2.2.2.1, .int .i64 R.2.2.2.2.2.1, .int .i64 R.2.2.2.2.2.2.1, .string R.2.2.2.2.2.2.2.1, v8_, .int .i64 R.2.2.2.2.2.2.2.2.2.1], .int .i64 R.2.2.2.2.2.2.2.2.2.2]) ∧ Kd.R k52 52 w' w.heap.size (fun _ => True) v8_ R.2.2.2.2.2.2.2.2.1 ∧ Below w.heap.size w w' := by
  have HB := Aside0.mk (Below.refl w.heap.size w)
  have HU := Aside0.mk hu_
  have HLN := Aside0.mk hln
  have HLP := Aside0.mk (show loopA k (fs.drop 0) Rep.zero = some o from hl)
  have HAN := Aside0.mk ha
  have hu := Try.underlying29
  clear hu_ hln hl ha
  go_enter Try.func11, Try.ntmps11
  go_upto_region 6 with (first | ((with_reducible refine gate_dst (N := 2) rfl ?_); refine box_event ?hg (N := 2) ?hd (cs := #[(.int .i64 0), (.int .i64 0), (.int .i64 0), (.int .i64 0), (.int .i64 0), (.int .i64 0), (.int .i64 0), (.string ⟨#[]⟩), (.slice none 0 0), (.int .i64 0)]) (t := 29) ?hr ?_; (case hd => rfl); (case hg => rfl); (case hr => first | (go_simp; done) | (go_simp; rfl)); intro g2 hg w1_ hbox hb; have BK2 := Aside0.mk hbox; have GE2 := Aside0.mk (show w.heap.size ≤ g2 from by rw [hg]; exact Nat.le_refl _); have n1_ := Aside0.mk (below_step HB.out hb); clear HB; have HB := n1_; clear n1_ hb hbox hg; have hzz0 := (blk_cell BK2.out 0).trans rfl; have hzz1 := (blk_cell BK2.out 1).trans rfl; have hzz2 := (blk_cell BK2.out 2).trans rfl; have hzz3 := (blk_cell BK2.out 3).trans rfl; have hzz4 := (blk_cell BK2.out 4).trans rfl; have hzz5 := (blk_cell BK2.out 5).trans rfl; have hzz6 := (blk_cell BK2.out 6).trans rfl; have hzz7 := (blk_cell BK2.out 7).trans rfl; have hzz8 := (blk_cell BK2.out 8).trans rfl; have hzz9 := (blk_cell BK2.out 9).trans rfl; have hfz0 := blk_frozen BK2.out 0; have hfz1 := blk_frozen BK2.out 1; have hfz2 := blk_frozen BK2.out 2; have hfz3 := blk_frozen BK2.out 3; have hfz4 := blk_frozen BK2.out 4; have hfz5 := blk_frozen BK2.out 5; have hfz6 := blk_frozen BK2.out 6; have hfz7 := blk_frozen BK2.out 7; have hfz8 := blk_frozen BK2.out 8; have hfz9 := blk_frozen BK2.out 9) | (go_at_call 30; (with_reducible refine (tlv_Unpack.calls k s fs 0 _ HU.out).mono ?_); rintro e_ wl ⟨VL, rfl, ho, hb⟩; (try clear hzz0 hfz0 hzz1 hfz1 hzz2 hfz2 hzz3 hfz3 hzz4 hfz4 hzz5 hfz5 hzz6 hfz6 hzz7 hfz7 hzz8 hfz8 hzz9 hfz9); obtain ⟨AL, cL, eL⟩ := Kd.R_slice ho; subst eL; have HCL := Aside0.mk (Kd.R_reads' ho).2; have n0_ := Aside0.mk (show wl.heap[g2]? = some (.cells #[(.int .i64 0), (.int .i64 0), (.int .i64 0), (.int .i64 0), (.int .i64 0), (.int .i64 0), (.int .i64 0), (.string ⟨#[]⟩), (.slice none 0 0), (.int .i64 0)] 29 (0, 0)) from blk_below BK2.out hb); have n1_ := Aside0.mk (below_step HB.out hb); clear BK2 HB; have BK2 := n0_; have HB := n1_; clear n0_ n1_ ho hb) | ((with_reducible refine gate_dst (N := 6) rfl ?_); refine box_event ?hg (N := 6) ?hd (cs := #[(.int .i64 0), (.int .i64 0), (.int .i64 0), (.int .i64 0), (.int .i64 0), (.int .i64 0), (.int .i64 0), (.string ⟨#[]⟩), (.slice none 0 0), (.int .i64 0)]) (t := 29) ?hr ?_; (case hd => rfl); (case hg => rfl); (case hr => first | (go_simp; done) | (go_simp; rfl)); intro g6 hg w6_ hbox hb; have RB := Aside0.mk (show RBox wl.heap.size w6_ g6 Rep.zero from ⟨_, hbox, by rw [hg]; exact Nat.le_refl _, Kd.R_nil _ _ _ _ _⟩); have HBL := Aside0.mk hb; clear hb hbox hg))
  go_loopw [23] (fun i w' => ∃ (n : Nat) (r : Rep), n ≤ fs.length ∧ i = .int .i64 (n : Int) ∧ Aside0 (RBox wl.heap.size w' g6 r) ∧ Aside0 (Below wl.heap.size wl w') ∧ Aside0 (loopA k (fs.drop n) r = some o)) (fun i _ => ((fs.length : Int) - intOf i).toNat)
  case atStart => exact ⟨0, Rep.zero, by omega, rfl, RB, HBL, HLP⟩
  case round =>
    clear RB HBL HLP
    obtain ⟨m, r, hm1, rfl, RB, HBL, HLP⟩ := hrel
    by_cases hlt : m < fs.length
    case pos =>
      have HLT := Aside0.mk hlt
      have d0 : decide ((m : Int) < (fs.length : Int)) = true := decide_eq_true (by omega)
      have d1 : decide ((0 : Int) ≤ (m : Int)) = true := decide_eq_true (by omega)
      have HW1 := Aside0.mk (show wrap64 ((m : Int) + 1) = ((m + 1 : Nat) : Int) by have := HLN.out; rw [wrap64_in (by omega) (by omega)]; omega)
      obtain ⟨x, hx⟩ : ∃ x, fs[m] = x := ⟨_, rfl⟩
      have hst : ((stepA k x r).bind fun a => if a.2 = true then some none else loopA k (fs.drop (m + 1)) a.1) = some o := by
        have h := HLP.out
        rw [List.drop_eq_getElem_cons hlt, hx] at h
        exact h
      obtain ⟨⟨r1, sh⟩, hs1, hs2⟩ := Option.bind_eq_some_iff.1 hst
      replace hs2 : (if sh = true then some none else loopA k (fs.drop (m + 1)) r1) = some o := hs2
      have HS1 := Aside0.mk hs1
      have HS2 := Aside0.mk hs2
      clear hst hs1 hs2 HLP
      obtain ⟨ad, eA, hx0, hx1⟩ := at_T46 (Kd.C_below HCL.out.2 HBL.out) (m : Int) (by omega) (by omega)
      subst eA
      rw [Int.toNat_natCast] at hx0 hx1
      have hrd : rd_T46 fs (m : Int) = x := by simp [rd_T46, List.getD, hlt, hx]
      rw [hrd] at hx0 hx1
      clear hx hrd
      have HBr := Aside0.mk (Below.refl wr.heap.size wr)
      obtain ⟨V, hR6, hR6g, hRV⟩ := RB.out
      have R6 := Aside0.mk (show wr.heap[g6]? = some (.cells #[(.int .i64 r.e), (.int .i64 r.no), (.int .i64 r.gen), (.int .i64 r.ki), (.int .i64 r.li), (.int .i64 r.si), (.int .i64 r.st), (.string r.d), V, (.int .i64 r.n)] 29 (0, 0)) from hR6)
      have RV := Aside0.mk hRV
      have RG := Aside0.mk (show g6 < wr.heap.size from blk_lt hR6)
      have RGL := Aside0.mk hR6g
      clear hR6 hR6g hRV
      go_upto_region 8 with (first | ((with_reducible refine gate_dst (N := 8) rfl ?_); refine box_event ?hg (N := 8) ?hd (cs := #[(.int .i64 0), (.string ⟨#[]⟩)]) (t := 46) ?hr ?_; (case hd => rfl); (case hg => rfl); (case hr => first | (go_simp; done) | (go_simp; rfl)); intro gx hg w8_ hbox hb; have BKX := Aside0.mk hbox; have GEX := Aside0.mk (show wr.heap.size ≤ gx from by rw [hg]; exact le_of_below HBr.out); have n1_ := Aside0.mk (below_step HBr.out hb); clear HBr; have HBr := n1_; clear n1_ hb hbox hg; have hzx0 := (blk_cell BKX.out 0).trans rfl; have hzx1 := (blk_cell BKX.out 1).trans rfl; have hfx0 := blk_frozen BKX.out 0; have hfx1 := blk_frozen BKX.out 1))
      have n0_ := Aside0.mk (show ((w8_.setCell ⟨gx, 0, none⟩ (.int .i64 x.f0)).setCell ⟨gx, 1, none⟩ (.string x.f1)).heap[gx]? = some (.cells #[(.int .i64 x.f0), (.string x.f1)] 46 (0, 0)) from (blk_put (cs := #[(.int .i64 x.f0), (.string ⟨#[]⟩)]) (blk_put (cs := #[(.int .i64 0), (.string ⟨#[]⟩)]) BKX.out 0 _ rfl) 1 _ rfl))
      have n1_ := Aside0.mk (show Below wr.heap.size wr ((w8_.setCell ⟨gx, 0, none⟩ (.int .i64 x.f0)).setCell ⟨gx, 1, none⟩ (.string x.f1)) from (below_set (below_set HBr.out GEX.out) GEX.out))
      clear hzx0 hfx0 hzx1 hfx1
      clear BKX HBr hx0 hx1 d1
      have BKX := n0_
      have HBr := n1_
      clear n0_ n1_
      generalize ((w8_.setCell ⟨gx, 0, none⟩ (.int .i64 x.f0)).setCell ⟨gx, 1, none⟩ (.string x.f1)) = w9_ at BKX HBr ⊢
      have hx0 := (blk_cell BKX.out 0).trans rfl
      have hx1 := (blk_cell BKX.out 1).trans rfl
      go_upto_region 10 with (first | ((with_reducible refine gate_dst (N := 30) rfl ?_); refine box_event ?hg (N := 30) ?hd (cs := #[(.string x.f1), (.bool false)]) (t := 66) ?hr ?_; (case hd => rfl); (case hg => rfl); (case hr => first | (go_simp; done) | (go_simp; rfl)); intro gy hg w10_ hbox hb; have GY := Aside0.mk (show g6 ≠ gy from by have := RG.out; have := le_of_below HBr.out; rw [hg]; omega); have GXY := Aside0.mk (show gx ≠ gy from by rw [hg]; exact Nat.ne_of_lt (blk_lt BKX.out)); have CU := Aside0.mk (show IsS66 wr w10_ gy x.f1 false from ⟨hbox, by rw [hg]; exact le_of_below HBr.out⟩); have n0_ := Aside0.mk (show w10_.heap[gx]? = some (.cells #[(.int .i64 x.f0), (.string x.f1)] 46 (0, 0)) from blk_below BKX.out hb); have n1_ := Aside0.mk (below_step HBr.out hb); clear HBr BKX; have HBr := n1_; have BKX := n0_; clear n0_ n1_ hb hbox hg; (try clear hx0 hx1); have hx0 := (blk_cell BKX.out 0).trans rfl; have hx1 := (blk_cell BKX.out 1).trans rfl))
      rcases tags6 x.f0 with h | h | h | h | h | h | h
      · have b1 : (x.f0 == 1) = true := by rw [h]; decide
        rw [stepA_1 h] at HS1
        obtain ⟨⟨a1, a2, a3⟩, hn, he⟩ := Option.bind_eq_some_iff.1 HS1.out
        have HN := Aside0.mk hn
        simp only [Option.some.injEq, Prod.mk.injEq] at he
        obtain ⟨rfl, rfl⟩ := he
        clear hn HS1
        go_upto_region 24 with (first | (go_at_call 31; (with_reducible refine (answer_cutter_num.calls k gy x.f1 false 2 a1 a2 a3 wr _ CU.out HBr.out HN.out).mono ?_); rintro e_ w11_ ⟨rfl, hc, hb, _⟩; have n0_ := Aside0.mk hc; have n1_ := Aside0.mk hb; clear CU HBr; have CU := n0_; have HBr := n1_; clear n0_ n1_ hc hb; have BK6 := Aside0.mk (show w11_.heap[g6]? = some (.cells #[(.int .i64 r.e), (.int .i64 r.no), (.int .i64 r.gen), (.int .i64 r.ki), (.int .i64 r.li), (.int .i64 r.si), (.int .i64 r.st), (.string r.d), V, (.int .i64 r.n)] 29 (0, 0)) from blk_below R6.out HBr.out); have hz60 := (blk_cell BK6.out 0).trans rfl; have hf60 := blk_frozen BK6.out 0))
        have n0_ := Aside0.mk (show IsS66 wr (w11_.setCell ⟨g6, 0, none⟩ (.int .i64 a1)) gy a2 a3 from (IsS66.far (p := ⟨g6, 0, none⟩) CU.out (Ne.symm GY.out) _))
        have n1_ := Aside0.mk (show RBox wl.heap.size (w11_.setCell ⟨g6, 0, none⟩ (.int .i64 a1)) g6 ({ r with e := a1 }) from ⟨V, (blk_put (cs := #[(.int .i64 r.e), (.int .i64 r.no), (.int .i64 r.gen), (.int .i64 r.ki), (.int .i64 r.li), (.int .i64 r.si), (.int .i64 r.st), (.string r.d), V, (.int .i64 r.n)]) BK6.out 0 _ rfl), RGL.out, (Kd.R_set (Kd.R_below RV.out HBr.out) BK6.out (by decide) 0 _)⟩)
        have n2_ := Aside0.mk (show Below wl.heap.size wl (w11_.setCell ⟨g6, 0, none⟩ (.int .i64 a1)) from (below_set (below_step HBL.out HBr.out) RGL.out))
        clear CU RB HBL
        clear HBr BKX hx0 hx1 R6 RV
        (try clear hz60 hf60); (try clear BK6)
        have CU := n0_
        have RB := n1_
        have HBL := n2_
        clear n0_ n1_ n2_
        generalize (w11_.setCell ⟨g6, 0, none⟩ (.int .i64 a1)) = w12_ at CU RB HBL ⊢
        have hy1 := cellS66_1 CU.out.1
        cases a3 with
        | true =>
          obtain rfl : none = o := Option.some.inj (show some none = some o from HS2.out)
          obtain rfl : Rep.zero.out 4 = R := Option.some.inj (show some (Rep.zero.out 4) = some R from HAN.out)
          have BKZ := Aside0.mk (show w12_.heap[g2]? = some (.cells #[(.int .i64 0), (.int .i64 0), (.int .i64 0), (.int .i64 0), (.int .i64 0), (.int .i64 0), (.int .i64 0), (.string ⟨#[]⟩), (.slice none 0 0), (.int .i64 0)] 29 (0, 0)) from blk_below BK2.out HBL.out)
          have HBZ := Aside0.mk (below_step HB.out HBL.out)
          have hzz0 := (blk_cell BKZ.out 0).trans rfl
          have hzz1 := (blk_cell BKZ.out 1).trans rfl
          have hzz2 := (blk_cell BKZ.out 2).trans rfl
          have hzz3 := (blk_cell BKZ.out 3).trans rfl
          have hzz4 := (blk_cell BKZ.out 4).trans rfl
          have hzz5 := (blk_cell BKZ.out 5).trans rfl
          have hzz6 := (blk_cell BKZ.out 6).trans rfl
          have hzz7 := (blk_cell BKZ.out 7).trans rfl
          have hzz8 := (blk_cell BKZ.out 8).trans rfl
          have hzz9 := (blk_cell BKZ.out 9).trans rfl
          have hfz0 := blk_frozen BKZ.out 0
          have hfz1 := blk_frozen BKZ.out 1
          have hfz2 := blk_frozen BKZ.out 2
          have hfz3 := blk_frozen BKZ.out 3
          have hfz4 := blk_frozen BKZ.out 4
          have hfz5 := blk_frozen BKZ.out 5
          have hfz6 := blk_frozen BKZ.out 6
          have hfz7 := blk_frozen BKZ.out 7
          have hfz8 := blk_frozen BKZ.out 8
          have hfz9 := blk_frozen BKZ.out 9
          (repeat (first | go_values | go_skip | go_guarded | go_step | go_upon))
          refine bodyPost_ret (results_ct rfl _ _ g2 29 #[(.int .i64 0), (.int .i64 0), (.int .i64 0), (.int .i64 0), (.int .i64 0), (.int .i64 0), (.int .i64 0), (.string ⟨#[]⟩), (.slice none 0 0), (.int .i64 0)] (0, 0) _ rfl ?hg2_ hu rfl ?hi2_) rfl ?he2_
          case hg2_ => exact (blk_put (cs := #[(.int .i64 0), (.int .i64 0), (.int .i64 0), (.int .i64 0), (.int .i64 0), (.int .i64 0), (.int .i64 0), (.string ⟨#[]⟩), (.slice none 0 0), (.int .i64 0)]) (blk_put (cs := #[(.int .i64 0), (.int .i64 0), (.int .i64 0), (.int .i64 0), (.int .i64 0), (.int .i64 0), (.int .i64 0), (.string ⟨#[]⟩), (.slice none 0 0), (.int .i64 0)]) (blk_put (cs := #[(.int .i64 0), (.int .i64 0), (.int .i64 0), (.int .i64 0), (.int .i64 0), (.int .i64 0), (.int .i64 0), (.string ⟨#[]⟩), (.slice none 0 0), (.int .i64 0)]) (blk_put (cs := #[(.int .i64 0), (.int .i64 0), (.int .i64 0), (.int .i64 0), (.int .i64 0), (.int .i64 0), (.int .i64 0), (.string ⟨#[]⟩), (.slice none 0 0), (.int .i64 0)]) (blk_put (cs := #[(.int .i64 0), (.int .i64 0), (.int .i64 0), (.int .i64 0), (.int .i64 0), (.int .i64 0), (.int .i64 0), (.string ⟨#[]⟩), (.slice none 0 0), (.int .i64 0)]) (blk_put (cs := #[(.int .i64 0), (.int .i64 0), (.int .i64 0), (.int .i64 0), (.int .i64 0), (.int .i64 0), (.int .i64 0), (.string ⟨#[]⟩), (.slice none 0 0), (.int .i64 0)]) (blk_put (cs := #[(.int .i64 0), (.int .i64 0), (.int .i64 0), (.int .i64 0), (.int .i64 0), (.int .i64 0), (.int .i64 0), (.string ⟨#[]⟩), (.slice none 0 0), (.int .i64 0)]) (blk_put (cs := #[(.int .i64 0), (.int .i64 0), (.int .i64 0), (.int .i64 0), (.int .i64 0), (.int .i64 0), (.int .i64 0), (.string ⟨#[]⟩), (.slice none 0 0), (.int .i64 0)]) (blk_put (cs := #[(.int .i64 0), (.int .i64 0), (.int .i64 0), (.int .i64 0), (.int .i64 0), (.int .i64 0), (.int .i64 0), (.string ⟨#[]⟩), (.slice none 0 0), (.int .i64 0)]) (blk_put (cs := #[(.int .i64 0), (.int .i64 0), (.int .i64 0), (.int .i64 0), (.int .i64 0), (.int .i64 0), (.int .i64 0), (.string ⟨#[]⟩), (.slice none 0 0), (.int .i64 0)]) BKZ.out 0 _ rfl) 1 _ rfl) 2 _ rfl) 3 _ rfl) 4 _ rfl) 5 _ rfl) 6 _ rfl) 7 _ rfl) 8 _ rfl) 9 _ rfl)
          case hi2_ => kernel_rfl
          exact ⟨_, rfl, Kd.R_nil _ _ _ _ _, (below_set (below_set (below_set (below_set (below_set (below_set (below_set (below_set (below_set (below_set HBZ.out GE2.out) GE2.out) GE2.out) GE2.out) GE2.out) GE2.out) GE2.out) GE2.out) GE2.out) GE2.out)⟩
        | false =>
          have HS3 := Aside0.mk (show loopA k (fs.drop (m + 1)) ({ r with e := a1 }) = some o from HS2.out)
          go_wp2
          go_roundw
          case rel => exact ⟨m + 1, _, by have := HLT.out; omega, by rw [HW1.out], RB, HBL, HS3⟩
          case measure => rw [HW1.out]; exact meas_u _ _ HLT.out
      · have b1 : (x.f0 == 1) = false := by rw [h]; decide
        have b2 : (x.f0 == 2) = true := by rw [h]; decide
        rw [stepA_2 h] at HS1
        obtain ⟨⟨a1, a2, a3, a4⟩, hn, he⟩ := Option.bind_eq_some_iff.1 HS1.out
        have HN := Aside0.mk hn
        simp only [Option.some.injEq, Prod.mk.injEq] at he
        obtain ⟨rfl, rfl⟩ := he
        clear hn HS1
        go_upto_region 24 with (first | (go_at_call 32; (with_reducible refine (answer_cutter_handle.calls k gy x.f1 false a1 a2 a3 a4 wr _ CU.out HBr.out HN.out).mono ?_); rintro e_ w11_ ⟨rfl, hc, hb, _⟩; have n0_ := Aside0.mk hc; have n1_ := Aside0.mk hb; clear CU HBr; have CU := n0_; have HBr := n1_; clear n0_ n1_ hc hb; have BK6 := Aside0.mk (show w11_.heap[g6]? = some (.cells #[(.int .i64 r.e), (.int .i64 r.no), (.int .i64 r.gen), (.int .i64 r.ki), (.int .i64 r.li), (.int .i64 r.si), (.int .i64 r.st), (.string r.d), V, (.int .i64 r.n)] 29 (0, 0)) from blk_below R6.out HBr.out); have hz61 := (blk_cell BK6.out 1).trans rfl; have hf61 := blk_frozen BK6.out 1; have hz62 := (blk_cell BK6.out 2).trans rfl; have hf62 := blk_frozen BK6.out 2))
        have n0_ := Aside0.mk (show IsS66 wr ((w11_.setCell ⟨g6, 1, none⟩ (.int .i64 a1)).setCell ⟨g6, 2, none⟩ (.int .i64 a2)) gy a3 a4 from (IsS66.far (p := ⟨g6, 2, none⟩) (IsS66.far (p := ⟨g6, 1, none⟩) CU.out (Ne.symm GY.out) _) (Ne.symm GY.out) _))
        have n1_ := Aside0.mk (show RBox wl.heap.size ((w11_.setCell ⟨g6, 1, none⟩ (.int .i64 a1)).setCell ⟨g6, 2, none⟩ (.int .i64 a2)) g6 ({ r with no := a1, gen := a2 }) from ⟨V, (blk_put (cs := #[(.int .i64 r.e), (.int .i64 a1), (.int .i64 r.gen), (.int .i64 r.ki), (.int .i64 r.li), (.int .i64 r.si), (.int .i64 r.st), (.string r.d), V, (.int .i64 r.n)]) (blk_put (cs := #[(.int .i64 r.e), (.int .i64 r.no), (.int .i64 r.gen), (.int .i64 r.ki), (.int .i64 r.li), (.int .i64 r.si), (.int .i64 r.st), (.string r.d), V, (.int .i64 r.n)]) BK6.out 1 _ rfl) 2 _ rfl), RGL.out, (Kd.R_set (Kd.R_set (Kd.R_below RV.out HBr.out) BK6.out (by decide) 1 _) (blk_put (cs := #[(.int .i64 r.e), (.int .i64 r.no), (.int .i64 r.gen), (.int .i64 r.ki), (.int .i64 r.li), (.int .i64 r.si), (.int .i64 r.st), (.string r.d), V, (.int .i64 r.n)]) BK6.out 1 _ rfl) (by decide) 2 _)⟩)
        have n2_ := Aside0.mk (show Below wl.heap.size wl ((w11_.setCell ⟨g6, 1, none⟩ (.int .i64 a1)).setCell ⟨g6, 2, none⟩ (.int .i64 a2)) from (below_set (below_set (below_step HBL.out HBr.out) RGL.out) RGL.out))
        clear CU RB HBL
        clear HBr BKX hx0 hx1 R6 RV
        (try clear hz61 hf61 hz62 hf62); (try clear BK6)
        have CU := n0_
        have RB := n1_
        have HBL := n2_
        clear n0_ n1_ n2_
        generalize ((w11_.setCell ⟨g6, 1, none⟩ (.int .i64 a1)).setCell ⟨g6, 2, none⟩ (.int .i64 a2)) = w12_ at CU RB HBL ⊢
        have hy1 := cellS66_1 CU.out.1
        cases a4 with
        | true =>
          obtain rfl : none = o := Option.some.inj (show some none = some o from HS2.out)
          obtain rfl : Rep.zero.out 4 = R := Option.some.inj (show some (Rep.zero.out 4) = some R from HAN.out)
          have BKZ := Aside0.mk (show w12_.heap[g2]? = some (.cells #[(.int .i64 0), (.int .i64 0), (.int .i64 0), (.int .i64 0), (.int .i64 0), (.int .i64 0), (.int .i64 0), (.string ⟨#[]⟩), (.slice none 0 0), (.int .i64 0)] 29 (0, 0)) from blk_below BK2.out HBL.out)
          have HBZ := Aside0.mk (below_step HB.out HBL.out)
          have hzz0 := (blk_cell BKZ.out 0).trans rfl
          have hzz1 := (blk_cell BKZ.out 1).trans rfl
          have hzz2 := (blk_cell BKZ.out 2).trans rfl
          have hzz3 := (blk_cell BKZ.out 3).trans rfl
          have hzz4 := (blk_cell BKZ.out 4).trans rfl
          have hzz5 := (blk_cell BKZ.out 5).trans rfl
          have hzz6 := (blk_cell BKZ.out 6).trans rfl
          have hzz7 := (blk_cell BKZ.out 7).trans rfl
          have hzz8 := (blk_cell BKZ.out 8).trans rfl
          have hzz9 := (blk_cell BKZ.out 9).trans rfl
          have hfz0 := blk_frozen BKZ.out 0
          have hfz1 := blk_frozen BKZ.out 1
          have hfz2 := blk_frozen BKZ.out 2
          have hfz3 := blk_frozen BKZ.out 3
          have hfz4 := blk_frozen BKZ.out 4
          have hfz5 := blk_frozen BKZ.out 5
          have hfz6 := blk_frozen BKZ.out 6
          have hfz7 := blk_frozen BKZ.out 7
          have hfz8 := blk_frozen BKZ.out 8
          have hfz9 := blk_frozen BKZ.out 9
          (repeat (first | go_values | go_skip | go_guarded | go_step | go_upon))
          refine bodyPost_ret (results_ct rfl _ _ g2 29 #[(.int .i64 0), (.int .i64 0), (.int .i64 0), (.int .i64 0), (.int .i64 0), (.int .i64 0), (.int .i64 0), (.string ⟨#[]⟩), (.slice none 0 0), (.int .i64 0)] (0, 0) _ rfl ?hg3_ hu rfl ?hi3_) rfl ?he3_
          case hg3_ => exact (blk_put (cs := #[(.int .i64 0), (.int .i64 0), (.int .i64 0), (.int .i64 0), (.int .i64 0), (.int .i64 0), (.int .i64 0), (.string ⟨#[]⟩), (.slice none 0 0), (.int .i64 0)]) (blk_put (cs := #[(.int .i64 0), (.int .i64 0), (.int .i64 0), (.int .i64 0), (.int .i64 0), (.int .i64 0), (.int .i64 0), (.string ⟨#[]⟩), (.slice none 0 0), (.int .i64 0)]) (blk_put (cs := #[(.int .i64 0), (.int .i64 0), (.int .i64 0), (.int .i64 0), (.int .i64 0), (.int .i64 0), (.int .i64 0), (.string ⟨#[]⟩), (.slice none 0 0), (.int .i64 0)]) (blk_put (cs := #[(.int .i64 0), (.int .i64 0), (.int .i64 0), (.int .i64 0), (.int .i64 0), (.int .i64 0), (.int .i64 0), (.string ⟨#[]⟩), (.slice none 0 0), (.int .i64 0)]) (blk_put (cs := #[(.int .i64 0), (.int .i64 0), (.int .i64 0), (.int .i64 0), (.int .i64 0), (.int .i64 0), (.int .i64 0), (.string ⟨#[]⟩), (.slice none 0 0), (.int .i64 0)]) (blk_put (cs := #[(.int .i64 0), (.int .i64 0), (.int .i64 0), (.int .i64 0), (.int .i64 0), (.int .i64 0), (.int .i64 0), (.string ⟨#[]⟩), (.slice none 0 0), (.int .i64 0)]) (blk_put (cs := #[(.int .i64 0), (.int .i64 0), (.int .i64 0), (.int .i64 0), (.int .i64 0), (.int .i64 0), (.int .i64 0), (.string ⟨#[]⟩), (.slice none 0 0), (.int .i64 0)]) (blk_put (cs := #[(.int .i64 0), (.int .i64 0), (.int .i64 0), (.int .i64 0), (.int .i64 0), (.int .i64 0), (.int .i64 0), (.string ⟨#[]⟩), (.slice none 0 0), (.int .i64 0)]) (blk_put (cs := #[(.int .i64 0), (.int .i64 0), (.int .i64 0), (.int .i64 0), (.int .i64 0), (.int .i64 0), (.int .i64 0), (.string ⟨#[]⟩), (.slice none 0 0), (.int .i64 0)]) (blk_put (cs := #[(.int .i64 0), (.int .i64 0), (.int .i64 0), (.int .i64 0), (.int .i64 0), (.int .i64 0), (.int .i64 0), (.string ⟨#[]⟩), (.slice none 0 0), (.int .i64 0)]) BKZ.out 0 _ rfl) 1 _ rfl) 2 _ rfl) 3 _ rfl) 4 _ rfl) 5 _ rfl) 6 _ rfl) 7 _ rfl) 8 _ rfl) 9 _ rfl)
          case hi3_ => kernel_rfl
          exact ⟨_, rfl, Kd.R_nil _ _ _ _ _, (below_set (below_set (below_set (below_set (below_set (below_set (below_set (below_set (below_set (below_set HBZ.out GE2.out) GE2.out) GE2.out) GE2.out) GE2.out) GE2.out) GE2.out) GE2.out) GE2.out) GE2.out)⟩
        | false =>
          have HS3 := Aside0.mk (show loopA k (fs.drop (m + 1)) ({ r with no := a1, gen := a2 }) = some o from HS2.out)
          go_wp2
          go_roundw
          case rel => exact ⟨m + 1, _, by have := HLT.out; omega, by rw [HW1.out], RB, HBL, HS3⟩
          case measure => rw [HW1.out]; exact meas_u _ _ HLT.out
      · have b1 : (x.f0 == 1) = false := by rw [h]; decide
        have b2 : (x.f0 == 2) = false := by rw [h]; decide
        have b3 : (x.f0 == 3) = true := by rw [h]; decide
        rw [stepA_3 h] at HS1
        obtain ⟨⟨b1_, b2_, b3_, b4_, b5_⟩, hn, he⟩ := Option.bind_eq_some_iff.1 HS1.out
        have HN := Aside0.mk hn
        simp only [Option.some.injEq, Prod.mk.injEq] at he
        obtain ⟨rfl, rfl⟩ := he
        clear hn HS1
        go_upto_region 24 with (first | (go_at_call 33; (with_reducible refine (attr_Unpack.calls x.f1 b1_ b2_ b3_ b4_ b5_ _ HN.out).mono ?_); rintro e_ w11_ ⟨rfl, hb⟩; have n0_ := Aside0.mk (show IsS66 wr w11_ gy x.f1 false from ⟨blk_below CU.out.1 hb, CU.out.2⟩); have n1_ := Aside0.mk (below_step HBr.out hb); clear CU HBr; have CU := n0_; have HBr := n1_; clear n0_ n1_ hb; have BK6 := Aside0.mk (show w11_.heap[g6]? = some (.cells #[(.int .i64 r.e), (.int .i64 r.no), (.int .i64 r.gen), (.int .i64 r.ki), (.int .i64 r.li), (.int .i64 r.si), (.int .i64 r.st), (.string r.d), V, (.int .i64 r.n)] 29 (0, 0)) from blk_below R6.out HBr.out); have hz63 := (blk_cell BK6.out 3).trans rfl; have hf63 := blk_frozen BK6.out 3; have hz64 := (blk_cell BK6.out 4).trans rfl; have hf64 := blk_frozen BK6.out 4; have hz65 := (blk_cell BK6.out 5).trans rfl; have hf65 := blk_frozen BK6.out 5; have hz66 := (blk_cell BK6.out 6).trans rfl; have hf66 := blk_frozen BK6.out 6))
        have n0_ := Aside0.mk (show IsS66 wr ((((w11_.setCell ⟨g6, 3, none⟩ (.int .i64 b1_)).setCell ⟨g6, 4, none⟩ (.int .i64 b2_)).setCell ⟨g6, 5, none⟩ (.int .i64 b3_)).setCell ⟨g6, 6, none⟩ (.int .i64 b4_)) gy x.f1 false from (IsS66.far (p := ⟨g6, 6, none⟩) (IsS66.far (p := ⟨g6, 5, none⟩) (IsS66.far (p := ⟨g6, 4, none⟩) (IsS66.far (p := ⟨g6, 3, none⟩) CU.out (Ne.symm GY.out) _) (Ne.symm GY.out) _) (Ne.symm GY.out) _) (Ne.symm GY.out) _))
        have n1_ := Aside0.mk (show RBox wl.heap.size ((((w11_.setCell ⟨g6, 3, none⟩ (.int .i64 b1_)).setCell ⟨g6, 4, none⟩ (.int .i64 b2_)).setCell ⟨g6, 5, none⟩ (.int .i64 b3_)).setCell ⟨g6, 6, none⟩ (.int .i64 b4_)) g6 ({ r with ki := b1_, li := b2_, si := b3_, st := b4_ }) from ⟨V, (blk_put (cs := #[(.int .i64 r.e), (.int .i64 r.no), (.int .i64 r.gen), (.int .i64 b1_), (.int .i64 b2_), (.int .i64 b3_), (.int .i64 r.st), (.string r.d), V, (.int .i64 r.n)]) (blk_put (cs := #[(.int .i64 r.e), (.int .i64 r.no), (.int .i64 r.gen), (.int .i64 b1_), (.int .i64 b2_), (.int .i64 r.si), (.int .i64 r.st), (.string r.d), V, (.int .i64 r.n)]) (blk_put (cs := #[(.int .i64 r.e), (.int .i64 r.no), (.int .i64 r.gen), (.int .i64 b1_), (.int .i64 r.li), (.int .i64 r.si), (.int .i64 r.st), (.string r.d), V, (.int .i64 r.n)]) (blk_put (cs := #[(.int .i64 r.e), (.int .i64 r.no), (.int .i64 r.gen), (.int .i64 r.ki), (.int .i64 r.li), (.int .i64 r.si), (.int .i64 r.st), (.string r.d), V, (.int .i64 r.n)]) BK6.out 3 _ rfl) 4 _ rfl) 5 _ rfl) 6 _ rfl), RGL.out, (Kd.R_set (Kd.R_set (Kd.R_set (Kd.R_set (Kd.R_below RV.out HBr.out) BK6.out (by decide) 3 _) (blk_put (cs := #[(.int .i64 r.e), (.int .i64 r.no), (.int .i64 r.gen), (.int .i64 r.ki), (.int .i64 r.li), (.int .i64 r.si), (.int .i64 r.st), (.string r.d), V, (.int .i64 r.n)]) BK6.out 3 _ rfl) (by decide) 4 _) (blk_put (cs := #[(.int .i64 r.e), (.int .i64 r.no), (.int .i64 r.gen), (.int .i64 b1_), (.int .i64 r.li), (.int .i64 r.si), (.int .i64 r.st), (.string r.d), V, (.int .i64 r.n)]) (blk_put (cs := #[(.int .i64 r.e), (.int .i64 r.no), (.int .i64 r.gen), (.int .i64 r.ki), (.int .i64 r.li), (.int .i64 r.si), (.int .i64 r.st), (.string r.d), V, (.int .i64 r.n)]) BK6.out 3 _ rfl) 4 _ rfl) (by decide) 5 _) (blk_put (cs := #[(.int .i64 r.e), (.int .i64 r.no), (.int .i64 r.gen), (.int .i64 b1_), (.int .i64 b2_), (.int .i64 r.si), (.int .i64 r.st), (.string r.d), V, (.int .i64 r.n)]) (blk_put (cs := #[(.int .i64 r.e), (.int .i64 r.no), (.int .i64 r.gen), (.int .i64 b1_), (.int .i64 r.li), (.int .i64 r.si), (.int .i64 r.st), (.string r.d), V, (.int .i64 r.n)]) (blk_put (cs := #[(.int .i64 r.e), (.int .i64 r.no), (.int .i64 r.gen), (.int .i64 r.ki), (.int .i64 r.li), (.int .i64 r.si), (.int .i64 r.st), (.string r.d), V, (.int .i64 r.n)]) BK6.out 3 _ rfl) 4 _ rfl) 5 _ rfl) (by decide) 6 _)⟩)
        have n2_ := Aside0.mk (show Below wl.heap.size wl ((((w11_.setCell ⟨g6, 3, none⟩ (.int .i64 b1_)).setCell ⟨g6, 4, none⟩ (.int .i64 b2_)).setCell ⟨g6, 5, none⟩ (.int .i64 b3_)).setCell ⟨g6, 6, none⟩ (.int .i64 b4_)) from (below_set (below_set (below_set (below_set (below_step HBL.out HBr.out) RGL.out) RGL.out) RGL.out) RGL.out))
        clear CU RB HBL
        clear HBr BKX hx0 hx1 R6 RV
        (try clear hz63 hf63 hz64 hf64 hz65 hf65 hz66 hf66); (try clear BK6)
        have CU := n0_
        have RB := n1_
        have HBL := n2_
        clear n0_ n1_ n2_
        generalize ((((w11_.setCell ⟨g6, 3, none⟩ (.int .i64 b1_)).setCell ⟨g6, 4, none⟩ (.int .i64 b2_)).setCell ⟨g6, 5, none⟩ (.int .i64 b3_)).setCell ⟨g6, 6, none⟩ (.int .i64 b4_)) = w12_ at CU RB HBL ⊢
        have hy1 := cellS66_1 CU.out.1
        have HS3 := Aside0.mk (show loopA k (fs.drop (m + 1)) ({ r with ki := b1_, li := b2_, si := b3_, st := b4_ }) = some o from HS2.out)
        go_wp2
        go_roundw
        case rel => exact ⟨m + 1, _, by have := HLT.out; omega, by rw [HW1.out], RB, HBL, HS3⟩
        case measure => rw [HW1.out]; exact meas_u _ _ HLT.out
      · have b1 : (x.f0 == 1) = false := by rw [h]; decide
        have b2 : (x.f0 == 2) = false := by rw [h]; decide
        have b3 : (x.f0 == 3) = false := by rw [h]; decide
        have b4 : (x.f0 == 4) = true := by rw [h]; decide
        rw [stepA_4 h] at HS1
        have he := HS1.out
        simp only [Option.some.injEq, Prod.mk.injEq] at he
        obtain ⟨rfl, rfl⟩ := he
        clear HS1
        have BK6 := Aside0.mk (show w10_.heap[g6]? = some (.cells #[(.int .i64 r.e), (.int .i64 r.no), (.int .i64 r.gen), (.int .i64 r.ki), (.int .i64 r.li), (.int .i64 r.si), (.int .i64 r.st), (.string r.d), V, (.int .i64 r.n)] 29 (0, 0)) from blk_below R6.out HBr.out)
        have hz67 := (blk_cell BK6.out 7).trans rfl; have hf67 := blk_frozen BK6.out 7
        go_upto_region 24 with (fail)
        have n0_ := Aside0.mk (show IsS66 wr (w10_.setCell ⟨g6, 7, none⟩ (.string x.f1)) gy x.f1 false from (IsS66.far (p := ⟨g6, 7, none⟩) CU.out (Ne.symm GY.out) _))
        have n1_ := Aside0.mk (show RBox wl.heap.size (w10_.setCell ⟨g6, 7, none⟩ (.string x.f1)) g6 ({ r with d := x.f1 }) from ⟨V, (blk_put (cs := #[(.int .i64 r.e), (.int .i64 r.no), (.int .i64 r.gen), (.int .i64 r.ki), (.int .i64 r.li), (.int .i64 r.si), (.int .i64 r.st), (.string r.d), V, (.int .i64 r.n)]) BK6.out 7 _ rfl), RGL.out, (Kd.R_set (Kd.R_below RV.out HBr.out) BK6.out (by decide) 7 _)⟩)
        have n2_ := Aside0.mk (show Below wl.heap.size wl (w10_.setCell ⟨g6, 7, none⟩ (.string x.f1)) from (below_set (below_step HBL.out HBr.out) RGL.out))
        clear CU RB HBL
        clear HBr BKX hx0 hx1 R6 RV
        (try clear hz67 hf67); (try clear BK6)
        have CU := n0_
        have RB := n1_
        have HBL := n2_
        clear n0_ n1_ n2_
        generalize (w10_.setCell ⟨g6, 7, none⟩ (.string x.f1)) = w12_ at CU RB HBL ⊢
        have hy1 := cellS66_1 CU.out.1
        have HS3 := Aside0.mk (show loopA k (fs.drop (m + 1)) ({ r with d := x.f1 }) = some o from HS2.out)
        go_wp2
        go_roundw
        case rel => exact ⟨m + 1, _, by have := HLT.out; omega, by rw [HW1.out], RB, HBL, HS3⟩
        case measure => rw [HW1.out]; exact meas_u _ _ HLT.out
      · have b1 : (x.f0 == 1) = false := by rw [h]; decide
        have b2 : (x.f0 == 2) = false := by rw [h]; decide
        have b3 : (x.f0 == 3) = false := by rw [h]; decide
        have b4 : (x.f0 == 4) = false := by rw [h]; decide
        have b5 : (x.f0 == 5) = true := by rw [h]; decide
        rw [stepA_5 h] at HS1
        obtain ⟨⟨a1, a2, a3⟩, hn, he⟩ := Option.bind_eq_some_iff.1 HS1.out
        obtain ⟨⟨c1, c2, c3, c4⟩, hn2, he⟩ := Option.bind_eq_some_iff.1 he
        replace he : (if r.xs.length ≤ 1000000000 then some ({ r with xs := r.xs ++ [⟨c3, a1, ⟨c1, c2⟩⟩] }, c4) else none) = some (r1, sh) := he
        by_cases hle : r.xs.length ≤ 1000000000
        case neg => rw [if_neg hle] at he; exact nomatch he
        case pos =>
          rw [if_pos hle] at he
          have HN := Aside0.mk hn
          have HN2 := Aside0.mk (show answer_cutter_handle.f k a2 a3 = some (c1, c2, c3, c4) from hn2)
          have HLE := Aside0.mk hle
          simp only [Option.some.injEq, Prod.mk.injEq] at he
          obtain ⟨rfl, rfl⟩ := he
          clear hn hn2 hle HS1
          go_upto_region 20 with (first | (go_at_call 31; (with_reducible refine (answer_cutter_num.calls k gy x.f1 false 6 a1 a2 a3 wr _ CU.out HBr.out HN.out).mono ?_); rintro e_ w11_ ⟨rfl, hc, hb, _⟩; have n0_ := Aside0.mk hc; have n1_ := Aside0.mk hb; clear CU HBr; have CU := n0_; have HBr := n1_; clear n0_ n1_ hc hb) | (go_at_call 32; (with_reducible refine (answer_cutter_handle.calls k gy a2 a3 c1 c2 c3 c4 wr _ CU.out HBr.out HN2.out).mono ?_); rintro e_ w12_ ⟨rfl, hc, hb, _⟩; have n0_ := Aside0.mk hc; have n1_ := Aside0.mk hb; clear CU HBr; have CU := n0_; have HBr := n1_; clear n0_ n1_ hc hb) | ((with_reducible refine gate_dst (N := 10) rfl ?_); refine box_event ?hg (N := 10) ?hd (cs := #[(.string ⟨#[]⟩), (.int .i64 0), (.int .i64 0), (.int .i64 0)]) (t := 52) ?hr ?_; (case hd => rfl); (case hg => rfl); (case hr => first | (go_simp; done) | (go_simp; rfl)); intro ge hg w13_ hbox hb; have BKE := Aside0.mk hbox; have GEE := Aside0.mk (show wr.heap.size ≤ ge from by rw [hg]; exact le_of_below HBr.out); have GEY := Aside0.mk (show gy ≠ ge from by rw [hg]; exact Nat.ne_of_lt (blk_lt CU.out.1)); have GE6 := Aside0.mk (show g6 ≠ ge from by have := RG.out; have := GEE.out; omega); have n0_ := Aside0.mk (show IsS66 wr w13_ gy c3 c4 from ⟨blk_below CU.out.1 hb, CU.out.2⟩); have n1_ := Aside0.mk (below_step HBr.out hb); clear HBr CU; have HBr := n1_; have CU := n0_; clear n0_ n1_ hb hbox hg; have hze0 := (blk_cell BKE.out 0).trans rfl; have hze1 := (blk_cell BKE.out 1).trans rfl; have hze2 := (blk_cell BKE.out 2).trans rfl; have hze3 := (blk_cell BKE.out 3).trans rfl; have hfe0 := blk_frozen BKE.out 0; have hfe1 := blk_frozen BKE.out 1; have hfe2 := blk_frozen BKE.out 2; have hfe3 := blk_frozen BKE.out 3))
          have n0_ := Aside0.mk (show IsS66 wr ((((w13_.setCell ⟨ge, 0, none⟩ (.string ⟨#[]⟩)).setCell ⟨ge, 1, none⟩ (.int .i64 a1)).setCell ⟨ge, 2, none⟩ (.int .i64 c1)).setCell ⟨ge, 3, none⟩ (.int .i64 c2)) gy c3 c4 from (IsS66.far (p := ⟨ge, 3, none⟩) (IsS66.far (p := ⟨ge, 2, none⟩) (IsS66.far (p := ⟨ge, 1, none⟩) (IsS66.far (p := ⟨ge, 0, none⟩) CU.out GEY.out _) GEY.out _) GEY.out _) GEY.out _))
          have n1_ := Aside0.mk (show ((((w13_.setCell ⟨ge, 0, none⟩ (.string ⟨#[]⟩)).setCell ⟨ge, 1, none⟩ (.int .i64 a1)).setCell ⟨ge, 2, none⟩ (.int .i64 c1)).setCell ⟨ge, 3, none⟩ (.int .i64 c2)).heap[ge]? = some (.cells #[(.string ⟨#[]⟩), (.int .i64 a1), (.int .i64 c1), (.int .i64 c2)] 52 (0, 0)) from (blk_put (cs := #[(.string ⟨#[]⟩), (.int .i64 a1), (.int .i64 c1), (.int .i64 0)]) (blk_put (cs := #[(.string ⟨#[]⟩), (.int .i64 a1), (.int .i64 0), (.int .i64 0)]) (blk_put (cs := #[(.string ⟨#[]⟩), (.int .i64 0), (.int .i64 0), (.int .i64 0)]) (blk_put (cs := #[(.string ⟨#[]⟩), (.int .i64 0), (.int .i64 0), (.int .i64 0)]) BKE.out 0 _ rfl) 1 _ rfl) 2 _ rfl) 3 _ rfl))
          have n2_ := Aside0.mk (show Below wr.heap.size wr ((((w13_.setCell ⟨ge, 0, none⟩ (.string ⟨#[]⟩)).setCell ⟨ge, 1, none⟩ (.int .i64 a1)).setCell ⟨ge, 2, none⟩ (.int .i64 c1)).setCell ⟨ge, 3, none⟩ (.int .i64 c2)) from (below_set (below_set (below_set (below_set HBr.out GEE.out) GEE.out) GEE.out) GEE.out))
          clear CU BKE HBr
          (try clear hze0 hfe0 hze1 hfe1 hze2 hfe2 hze3 hfe3)
          have CU := n0_
          have BKE := n1_
          have HBr := n2_
          clear n0_ n1_ n2_
          generalize ((((w13_.setCell ⟨ge, 0, none⟩ (.string ⟨#[]⟩)).setCell ⟨ge, 1, none⟩ (.int .i64 a1)).setCell ⟨ge, 2, none⟩ (.int .i64 c1)).setCell ⟨ge, 3, none⟩ (.int .i64 c2)) = w14_ at CU BKE HBr ⊢
          clear BKX hx0 hx1
          have hze0 := (blk_cell BKE.out 0).trans rfl
          have hze1 := (blk_cell BKE.out 1).trans rfl
          have hze2 := (blk_cell BKE.out 2).trans rfl
          have hze3 := (blk_cell BKE.out 3).trans rfl
          have hfe0 := blk_frozen BKE.out 0
          have hfe1 := blk_frozen BKE.out 1
          have hfe2 := blk_frozen BKE.out 2
          have hfe3 := blk_frozen BKE.out 3
          have hy0 := cellS66_0 CU.out.1
          go_upto_region 21 with (fail)
          have n0_ := Aside0.mk (show IsS66 wr (w14_.setCell ⟨ge, 0, none⟩ (.string c3)) gy c3 c4 from (IsS66.far (p := ⟨ge, 0, none⟩) CU.out GEY.out _))
          have n1_ := Aside0.mk (show (w14_.setCell ⟨ge, 0, none⟩ (.string c3)).heap[ge]? = some (.cells #[(.string c3), (.int .i64 a1), (.int .i64 c1), (.int .i64 c2)] 52 (0, 0)) from (blk_put (cs := #[(.string ⟨#[]⟩), (.int .i64 a1), (.int .i64 c1), (.int .i64 c2)]) BKE.out 0 _ rfl))
          have n2_ := Aside0.mk (show Below wr.heap.size wr (w14_.setCell ⟨ge, 0, none⟩ (.string c3)) from (below_set HBr.out GEE.out))
          clear CU BKE HBr
          (try clear hy0 hze0 hfe0 hze1 hfe1 hze2 hfe2 hze3 hfe3)
          have CU := n0_
          have BKE := n1_
          have HBr := n2_
          clear n0_ n1_ n2_
          generalize (w14_.setCell ⟨ge, 0, none⟩ (.string c3)) = w15_ at CU BKE HBr ⊢
          obtain ⟨AV, cV, eV⟩ := Kd.R_slice RV.out
          subst eV
          have BK6 := Aside0.mk (show w15_.heap[g6]? = some (.cells #[(.int .i64 r.e), (.int .i64 r.no), (.int .i64 r.gen), (.int .i64 r.ki), (.int .i64 r.li), (.int .i64 r.si), (.int .i64 r.st), (.string r.d), (.slice AV r.xs.length cV), (.int .i64 r.n)] 29 (0, 0)) from blk_below R6.out HBr.out)
          have HO := Aside0.mk (Kd.R_below RV.out HBr.out)
          have HBW := Aside0.mk (below_step HBL.out HBr.out)
          have hze0 := (blk_cell BKE.out 0).trans rfl
          have hze1 := (blk_cell BKE.out 1).trans rfl
          have hze2 := (blk_cell BKE.out 2).trans rfl
          have hze3 := (blk_cell BKE.out 3).trans rfl
          have hfe0 := blk_frozen BKE.out 0
          have hfe1 := blk_frozen BKE.out 1
          have hfe2 := blk_frozen BKE.out 2
          have hfe3 := blk_frozen BKE.out 3
          have hz68 := (blk_cell BK6.out 8).trans rfl; have hf68 := blk_frozen BK6.out 8
          go_upto_region 24 with (first | ((with_reducible refine gate_builtin (b := .append) (xs := #[.tmp 70, .tmp 72]) rfl ?_); at_builtin; refine Kd.R_append k52 (w0 := wl) (W := w15_) wl.heap.size rfl (.tmp 70) (.tmp 72) 27 52 (.agg #[(.string ⟨#[]⟩), (.int .i64 0), (.int .i64 0), (.int .i64 0)]) 40 rfl Try.underlying27 info52 rfl (by decide) (by omega) (.slice AV r.xs.length cV) r.xs ⟨c3, a1, ⟨c1, c2⟩⟩ [.string c3, .int .i64 a1, .int .i64 c1, .int .i64 c2] (fun _ => True) (fun _ => False) rfl rfl ?aP (fun _ hk => hk.elim) ?aF ?aO ?aB ?aS ?aL ?_; (case aP => exact k52_mkM _ _ _ ⟨c3, a1, ⟨c1, c2⟩⟩); (case aB => exact HBW.out); (case aF => exact (fun _ _ => trivial)); (case aO => exact HO.out); (case aS => exact le_of_below HBW.out); (case aL => have := HLE.out; omega); intro v1_ w16_ ho hb hg hat; obtain ⟨A3, c3_, he3⟩ := Kd.R_slice ho; rw [List.length_append] at he3; replace he3 : v1_ = .slice A3 (r.xs.length + 1) c3_ := he3; subst he3; have HO1 := Aside0.mk ho; have HB1 := Aside0.mk hb; have BK61 := Aside0.mk (blk_grown BK6.out hg (Kd.R_ne HO.out BK6.out (by decide))); have CU1 := Aside0.mk (show IsS66 wr w16_ gy c3 c4 from ⟨blk_grown CU.out.1 hg (Kd.R_ne HO.out CU.out.1 (by decide)), CU.out.2⟩); clear hz68 hf68; have hz68 := (blk_cell BK61.out 8).trans rfl; have hf68 := blk_frozen BK61.out 8; clear ho hb hg hat))
          have n0_ := Aside0.mk (show IsS66 wr (w16_.setCell ⟨g6, 8, none⟩ (.slice A3 (r.xs.length + 1) c3_)) gy c3 c4 from IsS66.far (p := ⟨g6, 8, none⟩) CU1.out (Ne.symm GY.out) _)
          have n1_ := Aside0.mk (show RBox wl.heap.size (w16_.setCell ⟨g6, 8, none⟩ (.slice A3 (r.xs.length + 1) c3_)) g6 ({ r with xs := r.xs ++ [⟨c3, a1, ⟨c1, c2⟩⟩] }) from ⟨_, blk_put (cs := #[(.int .i64 r.e), (.int .i64 r.no), (.int .i64 r.gen), (.int .i64 r.ki), (.int .i64 r.li), (.int .i64 r.si), (.int .i64 r.st), (.string r.d), (.slice AV r.xs.length cV), (.int .i64 r.n)]) BK61.out 8 _ rfl, RGL.out, Kd.R_set HO1.out BK61.out (by decide) 8 _⟩)
          have n2_ := Aside0.mk (show Below wl.heap.size wl (w16_.setCell ⟨g6, 8, none⟩ (.slice A3 (r.xs.length + 1) c3_)) from below_set HB1.out RGL.out)
          clear CU CU1 RB HBL HBr HBW BKE R6 RV BK6 BK61 HO HO1 HB1 hz68 hf68 hze0 hfe0 hze1 hfe1 hze2 hfe2 hze3 hfe3
          have CU := n0_
          have RB := n1_
          have HBL := n2_
          clear n0_ n1_ n2_
          generalize (w16_.setCell ⟨g6, 8, none⟩ (.slice A3 (r.xs.length + 1) c3_)) = w12_ at CU RB HBL ⊢
          have hy1 := cellS66_1 CU.out.1
          cases c4 with
          | true =>
            obtain rfl : none = o := Option.some.inj (show some none = some o from HS2.out)
            obtain rfl : Rep.zero.out 4 = R := Option.some.inj (show some (Rep.zero.out 4) = some R from HAN.out)
            have BKZ := Aside0.mk (show w12_.heap[g2]? = some (.cells #[(.int .i64 0), (.int .i64 0), (.int .i64 0), (.int .i64 0), (.int .i64 0), (.int .i64 0), (.int .i64 0), (.string ⟨#[]⟩), (.slice none 0 0), (.int .i64 0)] 29 (0, 0)) from blk_below BK2.out HBL.out)
            have HBZ := Aside0.mk (below_step HB.out HBL.out)
            have hzz0 := (blk_cell BKZ.out 0).trans rfl
            have hzz1 := (blk_cell BKZ.out 1).trans rfl
            have hzz2 := (blk_cell BKZ.out 2).trans rfl
            have hzz3 := (blk_cell BKZ.out 3).trans rfl
            have hzz4 := (blk_cell BKZ.out 4).trans rfl
            have hzz5 := (blk_cell BKZ.out 5).trans rfl
            have hzz6 := (blk_cell BKZ.out 6).trans rfl
            have hzz7 := (blk_cell BKZ.out 7).trans rfl
            have hzz8 := (blk_cell BKZ.out 8).trans rfl
            have hzz9 := (blk_cell BKZ.out 9).trans rfl
            have hfz0 := blk_frozen BKZ.out 0
            have hfz1 := blk_frozen BKZ.out 1
            have hfz2 := blk_frozen BKZ.out 2
            have hfz3 := blk_frozen BKZ.out 3
            have hfz4 := blk_frozen BKZ.out 4
            have hfz5 := blk_frozen BKZ.out 5
            have hfz6 := blk_frozen BKZ.out 6
            have hfz7 := blk_frozen BKZ.out 7
            have hfz8 := blk_frozen BKZ.out 8
            have hfz9 := blk_frozen BKZ.out 9
            (repeat (first | go_values | go_skip | go_guarded | go_step | go_upon))
            refine bodyPost_ret (results_ct rfl _ _ g2 29 #[(.int .i64 0), (.int .i64 0), (.int .i64 0), (.int .i64 0), (.int .i64 0), (.int .i64 0), (.int .i64 0), (.string ⟨#[]⟩), (.slice none 0 0), (.int .i64 0)] (0, 0) _ rfl ?hg4_ hu rfl ?hi4_) rfl ?he4_
            case hg4_ => exact (blk_put (cs := #[(.int .i64 0), (.int .i64 0), (.int .i64 0), (.int .i64 0), (.int .i64 0), (.int .i64 0), (.int .i64 0), (.string ⟨#[]⟩), (.slice none 0 0), (.int .i64 0)]) (blk_put (cs := #[(.int .i64 0), (.int .i64 0), (.int .i64 0), (.int .i64 0), (.int .i64 0), (.int .i64 0), (.int .i64 0), (.string ⟨#[]⟩), (.slice none 0 0), (.int .i64 0)]) (blk_put (cs := #[(.int .i64 0), (.int .i64 0), (.int .i64 0), (.int .i64 0), (.int .i64 0), (.int .i64 0), (.int .i64 0), (.string ⟨#[]⟩), (.slice none 0 0), (.int .i64 0)]) (blk_put (cs := #[(.int .i64 0), (.int .i64 0), (.int .i64 0), (.int .i64 0), (.int .i64 0), (.int .i64 0), (.int .i64 0), (.string ⟨#[]⟩), (.slice none 0 0), (.int .i64 0)]) (blk_put (cs := #[(.int .i64 0), (.int .i64 0), (.int .i64 0), (.int .i64 0), (.int .i64 0), (.int .i64 0), (.int .i64 0), (.string ⟨#[]⟩), (.slice none 0 0), (.int .i64 0)]) (blk_put (cs := #[(.int .i64 0), (.int .i64 0), (.int .i64 0), (.int .i64 0), (.int .i64 0), (.int .i64 0), (.int .i64 0), (.string ⟨#[]⟩), (.slice none 0 0), (.int .i64 0)]) (blk_put (cs := #[(.int .i64 0), (.int .i64 0), (.int .i64 0), (.int .i64 0), (.int .i64 0), (.int .i64 0), (.int .i64 0), (.string ⟨#[]⟩), (.slice none 0 0), (.int .i64 0)]) (blk_put (cs := #[(.int .i64 0), (.int .i64 0), (.int .i64 0), (.int .i64 0), (.int .i64 0), (.int .i64 0), (.int .i64 0), (.string ⟨#[]⟩), (.slice none 0 0), (.int .i64 0)]) (blk_put (cs := #[(.int .i64 0), (.int .i64 0), (.int .i64 0), (.int .i64 0), (.int .i64 0), (.int .i64 0), (.int .i64 0), (.string ⟨#[]⟩), (.slice none 0 0), (.int .i64 0)]) (blk_put (cs := #[(.int .i64 0), (.int .i64 0), (.int .i64 0), (.int .i64 0), (.int .i64 0), (.int .i64 0), (.int .i64 0), (.string ⟨#[]⟩), (.slice none 0 0), (.int .i64 0)]) BKZ.out 0 _ rfl) 1 _ rfl) 2 _ rfl) 3 _ rfl) 4 _ rfl) 5 _ rfl) 6 _ rfl) 7 _ rfl) 8 _ rfl) 9 _ rfl)
            case hi4_ => kernel_rfl
            exact ⟨_, rfl, Kd.R_nil _ _ _ _ _, (below_set (below_set (below_set (below_set (below_set (below_set (below_set (below_set (below_set (below_set HBZ.out GE2.out) GE2.out) GE2.out) GE2.out) GE2.out) GE2.out) GE2.out) GE2.out) GE2.out) GE2.out)⟩
          | false =>
            have HS3 := Aside0.mk (show loopA k (fs.drop (m + 1)) ({ r with xs := r.xs ++ [⟨c3, a1, ⟨c1, c2⟩⟩] }) = some o from HS2.out)
            go_wp2
            go_roundw
            case rel => exact ⟨m + 1, _, by have := HLT.out; omega, by rw [HW1.out], RB, HBL, HS3⟩
            case measure => rw [HW1.out]; exact meas_u _ _ HLT.out
      · have b1 : (x.f0 == 1) = false := by rw [h]; decide
        have b2 : (x.f0 == 2) = false := by rw [h]; decide
        have b3 : (x.f0 == 3) = false := by rw [h]; decide
        have b4 : (x.f0 == 4) = false := by rw [h]; decide
        have b5 : (x.f0 == 5) = false := by rw [h]; decide
        have b6 : (x.f0 == 6) = true := by rw [h]; decide
        rw [stepA_6 h] at HS1
        obtain ⟨⟨a1, a2, a3⟩, hn, he⟩ := Option.bind_eq_some_iff.1 HS1.out
        have HN := Aside0.mk hn
        simp only [Option.some.injEq, Prod.mk.injEq] at he
        obtain ⟨rfl, rfl⟩ := he
        clear hn HS1
        go_upto_region 24 with (first | (go_at_call 31; (with_reducible refine (answer_cutter_num.calls k gy x.f1 false 6 a1 a2 a3 wr _ CU.out HBr.out HN.out).mono ?_); rintro e_ w11_ ⟨rfl, hc, hb, _⟩; have n0_ := Aside0.mk hc; have n1_ := Aside0.mk hb; clear CU HBr; have CU := n0_; have HBr := n1_; clear n0_ n1_ hc hb; have BK6 := Aside0.mk (show w11_.heap[g6]? = some (.cells #[(.int .i64 r.e), (.int .i64 r.no), (.int .i64 r.gen), (.int .i64 r.ki), (.int .i64 r.li), (.int .i64 r.si), (.int .i64 r.st), (.string r.d), V, (.int .i64 r.n)] 29 (0, 0)) from blk_below R6.out HBr.out); have hz69 := (blk_cell BK6.out 9).trans rfl; have hf69 := blk_frozen BK6.out 9))
        have n0_ := Aside0.mk (show IsS66 wr (w11_.setCell ⟨g6, 9, none⟩ (.int .i64 a1)) gy a2 a3 from (IsS66.far (p := ⟨g6, 9, none⟩) CU.out (Ne.symm GY.out) _))
        have n1_ := Aside0.mk (show RBox wl.heap.size (w11_.setCell ⟨g6, 9, none⟩ (.int .i64 a1)) g6 ({ r with n := a1 }) from ⟨V, (blk_put (cs := #[(.int .i64 r.e), (.int .i64 r.no), (.int .i64 r.gen), (.int .i64 r.ki), (.int .i64 r.li), (.int .i64 r.si), (.int .i64 r.st), (.string r.d), V, (.int .i64 r.n)]) BK6.out 9 _ rfl), RGL.out, (Kd.R_set (Kd.R_below RV.out HBr.out) BK6.out (by decide) 9 _)⟩)
        have n2_ := Aside0.mk (show Below wl.heap.size wl (w11_.setCell ⟨g6, 9, none⟩ (.int .i64 a1)) from (below_set (below_step HBL.out HBr.out) RGL.out))
        clear CU RB HBL
        clear HBr BKX hx0 hx1 R6 RV
        (try clear hz69 hf69); (try clear BK6)
        have CU := n0_
        have RB := n1_
        have HBL := n2_
        clear n0_ n1_ n2_
        generalize (w11_.setCell ⟨g6, 9, none⟩ (.int .i64 a1)) = w12_ at CU RB HBL ⊢
        have hy1 := cellS66_1 CU.out.1
        cases a3 with
        | true =>
          obtain rfl : none = o := Option.some.inj (show some none = some o from HS2.out)
          obtain rfl : Rep.zero.out 4 = R := Option.some.inj (show some (Rep.zero.out 4) = some R from HAN.out)
          have BKZ := Aside0.mk (show w12_.heap[g2]? = some (.cells #[(.int .i64 0), (.int .i64 0), (.int .i64 0), (.int .i64 0), (.int .i64 0), (.int .i64 0), (.int .i64 0), (.string ⟨#[]⟩), (.slice none 0 0), (.int .i64 0)] 29 (0, 0)) from blk_below BK2.out HBL.out)
          have HBZ := Aside0.mk (below_step HB.out HBL.out)
          have hzz0 := (blk_cell BKZ.out 0).trans rfl
          have hzz1 := (blk_cell BKZ.out 1).trans rfl
          have hzz2 := (blk_cell BKZ.out 2).trans rfl
          have hzz3 := (blk_cell BKZ.out 3).trans rfl
          have hzz4 := (blk_cell BKZ.out 4).trans rfl
          have hzz5 := (blk_cell BKZ.out 5).trans rfl
          have hzz6 := (blk_cell BKZ.out 6).trans rfl
          have hzz7 := (blk_cell BKZ.out 7).trans rfl
          have hzz8 := (blk_cell BKZ.out 8).trans rfl
          have hzz9 := (blk_cell BKZ.out 9).trans rfl
          have hfz0 := blk_frozen BKZ.out 0
          have hfz1 := blk_frozen BKZ.out 1
          have hfz2 := blk_frozen BKZ.out 2
          have hfz3 := blk_frozen BKZ.out 3
          have hfz4 := blk_frozen BKZ.out 4
          have hfz5 := blk_frozen BKZ.out 5
          have hfz6 := blk_frozen BKZ.out 6
          have hfz7 := blk_frozen BKZ.out 7
          have hfz8 := blk_frozen BKZ.out 8
          have hfz9 := blk_frozen BKZ.out 9
          (repeat (first | go_values | go_skip | go_guarded | go_step | go_upon))
          refine bodyPost_ret (results_ct rfl _ _ g2 29 #[(.int .i64 0), (.int .i64 0), (.int .i64 0), (.int .i64 0), (.int .i64 0), (.int .i64 0), (.int .i64 0), (.string ⟨#[]⟩), (.slice none 0 0), (.int .i64 0)] (0, 0) _ rfl ?hg5_ hu rfl ?hi5_) rfl ?he5_
          case hg5_ => exact (blk_put (cs := #[(.int .i64 0), (.int .i64 0), (.int .i64 0), (.int .i64 0), (.int .i64 0), (.int .i64 0), (.int .i64 0), (.string ⟨#[]⟩), (.slice none 0 0), (.int .i64 0)]) (blk_put (cs := #[(.int .i64 0), (.int .i64 0), (.int .i64 0), (.int .i64 0), (.int .i64 0), (.int .i64 0), (.int .i64 0), (.string ⟨#[]⟩), (.slice none 0 0), (.int .i64 0)]) (blk_put (cs := #[(.int .i64 0), (.int .i64 0), (.int .i64 0), (.int .i64 0), (.int .i64 0), (.int .i64 0), (.int .i64 0), (.string ⟨#[]⟩), (.slice none 0 0), (.int .i64 0)]) (blk_put (cs := #[(.int .i64 0), (.int .i64 0), (.int .i64 0), (.int .i64 0), (.int .i64 0), (.int .i64 0), (.int .i64 0), (.string ⟨#[]⟩), (.slice none 0 0), (.int .i64 0)]) (blk_put (cs := #[(.int .i64 0), (.int .i64 0), (.int .i64 0), (.int .i64 0), (.int .i64 0), (.int .i64 0), (.int .i64 0), (.string ⟨#[]⟩), (.slice none 0 0), (.int .i64 0)]) (blk_put (cs := #[(.int .i64 0), (.int .i64 0), (.int .i64 0), (.int .i64 0), (.int .i64 0), (.int .i64 0), (.int .i64 0), (.string ⟨#[]⟩), (.slice none 0 0), (.int .i64 0)]) (blk_put (cs := #[(.int .i64 0), (.int .i64 0), (.int .i64 0), (.int .i64 0), (.int .i64 0), (.int .i64 0), (.int .i64 0), (.string ⟨#[]⟩), (.slice none 0 0), (.int .i64 0)]) (blk_put (cs := #[(.int .i64 0), (.int .i64 0), (.int .i64 0), (.int .i64 0), (.int .i64 0), (.int .i64 0), (.int .i64 0), (.string ⟨#[]⟩), (.slice none 0 0), (.int .i64 0)]) (blk_put (cs := #[(.int .i64 0), (.int .i64 0), (.int .i64 0), (.int .i64 0), (.int .i64 0), (.int .i64 0), (.int .i64 0), (.string ⟨#[]⟩), (.slice none 0 0), (.int .i64 0)]) (blk_put (cs := #[(.int .i64 0), (.int .i64 0), (.int .i64 0), (.int .i64 0), (.int .i64 0), (.int .i64 0), (.int .i64 0), (.string ⟨#[]⟩), (.slice none 0 0), (.int .i64 0)]) BKZ.out 0 _ rfl) 1 _ rfl) 2 _ rfl) 3 _ rfl) 4 _ rfl) 5 _ rfl) 6 _ rfl) 7 _ rfl) 8 _ rfl) 9 _ rfl)
          case hi5_ => kernel_rfl
          exact ⟨_, rfl, Kd.R_nil _ _ _ _ _, (below_set (below_set (below_set (below_set (below_set (below_set (below_set (below_set (below_set (below_set HBZ.out GE2.out) GE2.out) GE2.out) GE2.out) GE2.out) GE2.out) GE2.out) GE2.out) GE2.out) GE2.out)⟩
        | false =>
          have HS3 := Aside0.mk (show loopA k (fs.drop (m + 1)) ({ r with n := a1 }) = some o from HS2.out)
          go_wp2
          go_roundw
          case rel => exact ⟨m + 1, _, by have := HLT.out; omega, by rw [HW1.out], RB, HBL, HS3⟩
          case measure => rw [HW1.out]; exact meas_u _ _ HLT.out
      · obtain ⟨h1, h2, h3, h4, h5, h6⟩ := h
        have b1 : (x.f0 == 1) = false := beq_eq_false_iff_ne.mpr h1
        have b2 : (x.f0 == 2) = false := beq_eq_false_iff_ne.mpr h2
        have b3 : (x.f0 == 3) = false := beq_eq_false_iff_ne.mpr h3
        have b4 : (x.f0 == 4) = false := beq_eq_false_iff_ne.mpr h4
        have b5 : (x.f0 == 5) = false := beq_eq_false_iff_ne.mpr h5
        have b6 : (x.f0 == 6) = false := beq_eq_false_iff_ne.mpr h6
        rw [stepA_0 h1 h2 h3 h4 h5 h6] at HS1
        clear h1 h2 h3 h4 h5 h6
        have he := HS1.out
        simp only [Option.some.injEq, Prod.mk.injEq] at he
        obtain ⟨rfl, rfl⟩ := he
        clear HS1
        have BK6 := Aside0.mk (show w10_.heap[g6]? = some (.cells #[(.int .i64 r.e), (.int .i64 r.no), (.int .i64 r.gen), (.int .i64 r.ki), (.int .i64 r.li), (.int .i64 r.si), (.int .i64 r.st), (.string r.d), V, (.int .i64 r.n)] 29 (0, 0)) from blk_below R6.out HBr.out)
        go_upto_region 24 with (fail)
        have n0_ := Aside0.mk (show IsS66 wr w10_ gy x.f1 false from CU.out)
        have n1_ := Aside0.mk (show RBox wl.heap.size w10_ g6 (r) from ⟨V, BK6.out, RGL.out, (Kd.R_below RV.out HBr.out)⟩)
        have n2_ := Aside0.mk (show Below wl.heap.size wl w10_ from (below_step HBL.out HBr.out))
        clear CU RB HBL
        clear HBr BKX hx0 hx1 R6 RV
        skip; (try clear BK6)
        have CU := n0_
        have RB := n1_
        have HBL := n2_
        clear n0_ n1_ n2_
        generalize w10_ = w12_ at CU RB HBL ⊢
        have hy1 := cellS66_1 CU.out.1
        have HS3 := Aside0.mk (show loopA k (fs.drop (m + 1)) (r) = some o from HS2.out)
        go_wp2
        go_roundw
        case rel => exact ⟨m + 1, _, by have := HLT.out; omega, by rw [HW1.out], RB, HBL, HS3⟩
        case measure => rw [HW1.out]; exact meas_u _ _ HLT.out
    case neg =>
      obtain rfl : m = fs.length := by omega
      have d0 : decide ((fs.length : Int) < (fs.length : Int)) = false := decide_eq_false (by omega)
      obtain rfl : some r = o := Option.some.inj (show some (some r) = some o from by have h := HLP.out; rw [List.drop_length] at h; exact h)
      obtain ⟨⟨pb, pe⟩, hp, hR⟩ := Option.bind_eq_some_iff.1 (show ((answer_Pack.f k r.e r.no r.gen r.ki r.li r.si r.st r.d r.xs r.n).bind fun p => if p.2 = 0 then if p.1.toList = s.toList then some (r.out 0) else some (Rep.zero.out 4) else some (Rep.zero.out 4)) = some R from HAN.out)
      replace hR : (if pe = 0 then if pb.toList = s.toList then some (r.out 0) else some (Rep.zero.out 4) else some (Rep.zero.out 4)) = some R := hR
      have HP := Aside0.mk hp
      have HR := Aside0.mk hR
      clear HAN HLP hp hR hm1
      obtain ⟨V, hR6, hR6g, hRV⟩ := RB.out
      obtain ⟨AV, cV, eV⟩ := Kd.R_slice hRV
      subst eV
      have R6 := Aside0.mk (show wr.heap[g6]? = some (.cells #[(.int .i64 r.e), (.int .i64 r.no), (.int .i64 r.gen), (.int .i64 r.ki), (.int .i64 r.li), (.int .i64 r.si), (.int .i64 r.st), (.string r.d), (.slice AV r.xs.length cV), (.int .i64 r.n)] 29 (0, 0)) from hR6)
      have RV := Aside0.mk hRV
      have HC := Aside0.mk (Kd.R_reads' hRV)
      clear hR6 hR6g hRV RB
      have hz60 := (blk_cell R6.out 0).trans rfl
      have hz61 := (blk_cell R6.out 1).trans rfl
      have hz62 := (blk_cell R6.out 2).trans rfl
      have hz63 := (blk_cell R6.out 3).trans rfl
      have hz64 := (blk_cell R6.out 4).trans rfl
      have hz65 := (blk_cell R6.out 5).trans rfl
      have hz66 := (blk_cell R6.out 6).trans rfl
      have hz67 := (blk_cell R6.out 7).trans rfl
      have hz68 := (blk_cell R6.out 8).trans rfl
      have hz69 := (blk_cell R6.out 9).trans rfl
      go_upto_region 28 with (first | (go_at_call 6; (with_reducible refine (answer_Pack.calls k r.e r.no r.gen r.ki r.li r.si r.st r.d AV cV r.xs r.n pb pe _ ?hc ?hl HP.out).mono ?_); (case hc => first | exact HC.out.2.2 | exact HC.out.2); (case hl => first | exact HC.out.2.1 | exact HC.out.1); rintro e_ w20_ ⟨rfl, hb⟩; have HBr := Aside0.mk hb; clear hb; (try clear hz60 hz61 hz62 hz63 hz64 hz65 hz66 hz67 hz68 hz69); skip))
      have BK6 := Aside0.mk (show w20_.heap[g6]? = some (.cells #[(.int .i64 r.e), (.int .i64 r.no), (.int .i64 r.gen), (.int .i64 r.ki), (.int .i64 r.li), (.int .i64 r.si), (.int .i64 r.st), (.string r.d), (.slice AV r.xs.length cV), (.int .i64 r.n)] 29 (0, 0)) from blk_below R6.out HBr.out)
      have n1_ := Aside0.mk (below_step HBL.out HBr.out)
      have n2_ := Aside0.mk (Kd.R_below RV.out HBr.out)
      clear HBL HBr R6 RV
      have HBL := n1_
      have RV := n2_
      clear n1_ n2_ d0 hlt
      have BKZ := Aside0.mk (show w20_.heap[g2]? = some (.cells #[(.int .i64 0), (.int .i64 0), (.int .i64 0), (.int .i64 0), (.int .i64 0), (.int .i64 0), (.int .i64 0), (.string ⟨#[]⟩), (.slice none 0 0), (.int .i64 0)] 29 (0, 0)) from blk_below BK2.out HBL.out)
      have HBZ := Aside0.mk (below_step HB.out HBL.out)
      have hzz0 := (blk_cell BKZ.out 0).trans rfl
      have hzz1 := (blk_cell BKZ.out 1).trans rfl
      have hzz2 := (blk_cell BKZ.out 2).trans rfl
      have hzz3 := (blk_cell BKZ.out 3).trans rfl
      have hzz4 := (blk_cell BKZ.out 4).trans rfl
      have hzz5 := (blk_cell BKZ.out 5).trans rfl
      have hzz6 := (blk_cell BKZ.out 6).trans rfl
      have hzz7 := (blk_cell BKZ.out 7).trans rfl
      have hzz8 := (blk_cell BKZ.out 8).trans rfl
      have hzz9 := (blk_cell BKZ.out 9).trans rfl
      have hfz0 := blk_frozen BKZ.out 0
      have hfz1 := blk_frozen BKZ.out 1
      have hfz2 := blk_frozen BKZ.out 2
      have hfz3 := blk_frozen BKZ.out 3
      have hfz4 := blk_frozen BKZ.out 4
      have hfz5 := blk_frozen BKZ.out 5
      have hfz6 := blk_frozen BKZ.out 6
      have hfz7 := blk_frozen BKZ.out 7
      have hfz8 := blk_frozen BKZ.out 8
      have hfz9 := blk_frozen BKZ.out 9
      have hz60 := (blk_cell BK6.out 0).trans rfl
      have hz61 := (blk_cell BK6.out 1).trans rfl
      have hz62 := (blk_cell BK6.out 2).trans rfl
      have hz63 := (blk_cell BK6.out 3).trans rfl
      have hz64 := (blk_cell BK6.out 4).trans rfl
      have hz65 := (blk_cell BK6.out 5).trans rfl
      have hz66 := (blk_cell BK6.out 6).trans rfl
      have hz67 := (blk_cell BK6.out 7).trans rfl
      have hz68 := (blk_cell BK6.out 8).trans rfl
      have hz69 := (blk_cell BK6.out 9).trans rfl
      by_cases hpe : pe = 0
      case neg =>
        rw [if_neg hpe] at HR
        have c0 : (pe == 0) = false := beq_eq_false_iff_ne.mpr hpe
        have c1 : (pe != 0) = true := bne_iff_ne.mpr hpe
        clear hpe
        obtain rfl : Rep.zero.out 4 = R := Option.some.inj HR.out
        (repeat (first | go_values | go_skip | go_guarded | go_step | go_upon))
        refine bodyPost_ret (results_ct rfl _ _ g2 29 #[(.int .i64 0), (.int .i64 0), (.int .i64 0), (.int .i64 0), (.int .i64 0), (.int .i64 0), (.int .i64 0), (.string ⟨#[]⟩), (.slice none 0 0), (.int .i64 0)] (0, 0) _ rfl ?hg6_ hu rfl ?hi6_) rfl ?he6_
        case hg6_ => exact (blk_put (cs := #[(.int .i64 0), (.int .i64 0), (.int .i64 0), (.int .i64 0), (.int .i64 0), (.int .i64 0), (.int .i64 0), (.string ⟨#[]⟩), (.slice none 0 0), (.int .i64 0)]) (blk_put (cs := #[(.int .i64 0), (.int .i64 0), (.int .i64 0), (.int .i64 0), (.int .i64 0), (.int .i64 0), (.int .i64 0), (.string ⟨#[]⟩), (.slice none 0 0), (.int .i64 0)]) (blk_put (cs := #[(.int .i64 0), (.int .i64 0), (.int .i64 0), (.int .i64 0), (.int .i64 0), (.int .i64 0), (.int .i64 0), (.string ⟨#[]⟩), (.slice none 0 0), (.int .i64 0)]) (blk_put (cs := #[(.int .i64 0), (.int .i64 0), (.int .i64 0), (.int .i64 0), (.int .i64 0), (.int .i64 0), (.int .i64 0), (.string ⟨#[]⟩), (.slice none 0 0), (.int .i64 0)]) (blk_put (cs := #[(.int .i64 0), (.int .i64 0), (.int .i64 0), (.int .i64 0), (.int .i64 0), (.int .i64 0), (.int .i64 0), (.string ⟨#[]⟩), (.slice none 0 0), (.int .i64 0)]) (blk_put (cs := #[(.int .i64 0), (.int .i64 0), (.int .i64 0), (.int .i64 0), (.int .i64 0), (.int .i64 0), (.int .i64 0), (.string ⟨#[]⟩), (.slice none 0 0), (.int .i64 0)]) (blk_put (cs := #[(.int .i64 0), (.int .i64 0), (.int .i64 0), (.int .i64 0), (.int .i64 0), (.int .i64 0), (.int .i64 0), (.string ⟨#[]⟩), (.slice none 0 0), (.int .i64 0)]) (blk_put (cs := #[(.int .i64 0), (.int .i64 0), (.int .i64 0), (.int .i64 0), (.int .i64 0), (.int .i64 0), (.int .i64 0), (.string ⟨#[]⟩), (.slice none 0 0), (.int .i64 0)]) (blk_put (cs := #[(.int .i64 0), (.int .i64 0), (.int .i64 0), (.int .i64 0), (.int .i64 0), (.int .i64 0), (.int .i64 0), (.string ⟨#[]⟩), (.slice none 0 0), (.int .i64 0)]) (blk_put (cs := #[(.int .i64 0), (.int .i64 0), (.int .i64 0), (.int .i64 0), (.int .i64 0), (.int .i64 0), (.int .i64 0), (.string ⟨#[]⟩), (.slice none 0 0), (.int .i64 0)]) BKZ.out 0 _ rfl) 1 _ rfl) 2 _ rfl) 3 _ rfl) 4 _ rfl) 5 _ rfl) 6 _ rfl) 7 _ rfl) 8 _ rfl) 9 _ rfl)
        case hi6_ => kernel_rfl
        exact ⟨_, rfl, Kd.R_nil _ _ _ _ _, (below_set (below_set (below_set (below_set (below_set (below_set (below_set (below_set (below_set (below_set HBZ.out GE2.out) GE2.out) GE2.out) GE2.out) GE2.out) GE2.out) GE2.out) GE2.out) GE2.out) GE2.out)⟩
      case pos =>
        rw [if_pos hpe] at HR
        subst hpe
        by_cases hsame : pb.toList = s.toList
        case neg =>
          rw [if_neg hsame] at HR
          have zq0 : (pb.toList == s.toList) = false := beq_eq_false_iff_ne.mpr hsame
          have zq1 : (pb.toList != s.toList) = true := bne_iff_ne.mpr hsame
          clear hsame
          obtain rfl : Rep.zero.out 4 = R := Option.some.inj HR.out
          (repeat (first | go_values | go_skip | go_guarded | go_step | go_upon))
          refine bodyPost_ret (results_ct rfl _ _ g2 29 #[(.int .i64 0), (.int .i64 0), (.int .i64 0), (.int .i64 0), (.int .i64 0), (.int .i64 0), (.int .i64 0), (.string ⟨#[]⟩), (.slice none 0 0), (.int .i64 0)] (0, 0) _ rfl ?hg7_ hu rfl ?hi7_) rfl ?he7_
          case hg7_ => exact (blk_put (cs := #[(.int .i64 0), (.int .i64 0), (.int .i64 0), (.int .i64 0), (.int .i64 0), (.int .i64 0), (.int .i64 0), (.string ⟨#[]⟩), (.slice none 0 0), (.int .i64 0)]) (blk_put (cs := #[(.int .i64 0), (.int .i64 0), (.int .i64 0), (.int .i64 0), (.int .i64 0), (.int .i64 0), (.int .i64 0), (.string ⟨#[]⟩), (.slice none 0 0), (.int .i64 0)]) (blk_put (cs := #[(.int .i64 0), (.int .i64 0), (.int .i64 0), (.int .i64 0), (.int .i64 0), (.int .i64 0), (.int .i64 0), (.string ⟨#[]⟩), (.slice none 0 0), (.int .i64 0)]) (blk_put (cs := #[(.int .i64 0), (.int .i64 0), (.int .i64 0), (.int .i64 0), (.int .i64 0), (.int .i64 0), (.int .i64 0), (.string ⟨#[]⟩), (.slice none 0 0), (.int .i64 0)]) (blk_put (cs := #[(.int .i64 0), (.int .i64 0), (.int .i64 0), (.int .i64 0), (.int .i64 0), (.int .i64 0), (.int .i64 0), (.string ⟨#[]⟩), (.slice none 0 0), (.int .i64 0)]) (blk_put (cs := #[(.int .i64 0), (.int .i64 0), (.int .i64 0), (.int .i64 0), (.int .i64 0), (.int .i64 0), (.int .i64 0), (.string ⟨#[]⟩), (.slice none 0 0), (.int .i64 0)]) (blk_put (cs := #[(.int .i64 0), (.int .i64 0), (.int .i64 0), (.int .i64 0), (.int .i64 0), (.int .i64 0), (.int .i64 0), (.string ⟨#[]⟩), (.slice none 0 0), (.int .i64 0)]) (blk_put (cs := #[(.int .i64 0), (.int .i64 0), (.int .i64 0), (.int .i64 0), (.int .i64 0), (.int .i64 0), (.int .i64 0), (.string ⟨#[]⟩), (.slice none 0 0), (.int .i64 0)]) (blk_put (cs := #[(.int .i64 0), (.int .i64 0), (.int .i64 0), (.int .i64 0), (.int .i64 0), (.int .i64 0), (.int .i64 0), (.string ⟨#[]⟩), (.slice none 0 0), (.int .i64 0)]) (blk_put (cs := #[(.int .i64 0), (.int .i64 0), (.int .i64 0), (.int .i64 0), (.int .i64 0), (.int .i64 0), (.int .i64 0), (.string ⟨#[]⟩), (.slice none 0 0), (.int .i64 0)]) BKZ.out 0 _ rfl) 1 _ rfl) 2 _ rfl) 3 _ rfl) 4 _ rfl) 5 _ rfl) 6 _ rfl) 7 _ rfl) 8 _ rfl) 9 _ rfl)
          case hi7_ => kernel_rfl
          exact ⟨_, rfl, Kd.R_nil _ _ _ _ _, (below_set (below_set (below_set (below_set (below_set (below_set (below_set (below_set (below_set (below_set HBZ.out GE2.out) GE2.out) GE2.out) GE2.out) GE2.out) GE2.out) GE2.out) GE2.out) GE2.out) GE2.out)⟩
        case pos =>
          rw [if_pos hsame] at HR
          have zq0 : (pb.toList == s.toList) = true := beq_iff_eq.mpr hsame
          have zq1 : (pb.toList != s.toList) = false := bne_eq_false_iff_eq.mpr hsame
          clear hsame
          obtain rfl : r.out 0 = R := Option.some.inj HR.out
          (repeat (first | go_values | go_skip | go_guarded | go_step | go_upon))
          refine bodyPost_ret (results_ct rfl _ _ g2 29 #[(.int .i64 r.e), (.int .i64 r.no), (.int .i64 r.gen), (.int .i64 r.ki), (.int .i64 r.li), (.int .i64 r.si), (.int .i64 r.st), (.string r.d), (.slice AV r.xs.length cV), (.int .i64 r.n)] (0, 0) _ rfl ?hg8_ hu rfl ?hi8_) rfl ?he8_
          case hg8_ => exact (blk_put (cs := #[(.int .i64 r.e), (.int .i64 r.no), (.int .i64 r.gen), (.int .i64 r.ki), (.int .i64 r.li), (.int .i64 r.si), (.int .i64 r.st), (.string r.d), (.slice AV r.xs.length cV), (.int .i64 0)]) (blk_put (cs := #[(.int .i64 r.e), (.int .i64 r.no), (.int .i64 r.gen), (.int .i64 r.ki), (.int .i64 r.li), (.int .i64 r.si), (.int .i64 r.st), (.string r.d), (.slice none 0 0), (.int .i64 0)]) (blk_put (cs := #[(.int .i64 r.e), (.int .i64 r.no), (.int .i64 r.gen), (.int .i64 r.ki), (.int .i64 r.li), (.int .i64 r.si), (.int .i64 r.st), (.string ⟨#[]⟩), (.slice none 0 0), (.int .i64 0)]) (blk_put (cs := #[(.int .i64 r.e), (.int .i64 r.no), (.int .i64 r.gen), (.int .i64 r.ki), (.int .i64 r.li), (.int .i64 r.si), (.int .i64 0), (.string ⟨#[]⟩), (.slice none 0 0), (.int .i64 0)]) (blk_put (cs := #[(.int .i64 r.e), (.int .i64 r.no), (.int .i64 r.gen), (.int .i64 r.ki), (.int .i64 r.li), (.int .i64 0), (.int .i64 0), (.string ⟨#[]⟩), (.slice none 0 0), (.int .i64 0)]) (blk_put (cs := #[(.int .i64 r.e), (.int .i64 r.no), (.int .i64 r.gen), (.int .i64 r.ki), (.int .i64 0), (.int .i64 0), (.int .i64 0), (.string ⟨#[]⟩), (.slice none 0 0), (.int .i64 0)]) (blk_put (cs := #[(.int .i64 r.e), (.int .i64 r.no), (.int .i64 r.gen), (.int .i64 0), (.int .i64 0), (.int .i64 0), (.int .i64 0), (.string ⟨#[]⟩), (.slice none 0 0), (.int .i64 0)]) (blk_put (cs := #[(.int .i64 r.e), (.int .i64 r.no), (.int .i64 0), (.int .i64 0), (.int .i64 0), (.int .i64 0), (.int .i64 0), (.string ⟨#[]⟩), (.slice none 0 0), (.int .i64 0)]) (blk_put (cs := #[(.int .i64 r.e), (.int .i64 0), (.int .i64 0), (.int .i64 0), (.int .i64 0), (.int .i64 0), (.int .i64 0), (.string ⟨#[]⟩), (.slice none 0 0), (.int .i64 0)]) (blk_put (cs := #[(.int .i64 0), (.int .i64 0), (.int .i64 0), (.int .i64 0), (.int .i64 0), (.int .i64 0), (.int .i64 0), (.string ⟨#[]⟩), (.slice none 0 0), (.int .i64 0)]) BKZ.out 0 _ rfl) 1 _ rfl) 2 _ rfl) 3 _ rfl) 4 _ rfl) 5 _ rfl) 6 _ rfl) 7 _ rfl) 8 _ rfl) 9 _ rfl)
          case hi8_ => kernel_rfl
          exact ⟨_, rfl, Kd.R_lower (Kd.R_set (Kd.R_set (Kd.R_set (Kd.R_set (Kd.R_set (Kd.R_set (Kd.R_set (Kd.R_set (Kd.R_set (Kd.R_set RV.out BKZ.out (by decide) 0 _) (blk_put (cs := #[(.int .i64 0), (.int .i64 0), (.int .i64 0), (.int .i64 0), (.int .i64 0), (.int .i64 0), (.int .i64 0), (.string ⟨#[]⟩), (.slice none 0 0), (.int .i64 0)]) BKZ.out 0 _ rfl) (by decide) 1 _) (blk_put (cs := #[(.int .i64 r.e), (.int .i64 0), (.int .i64 0), (.int .i64 0), (.int .i64 0), (.int .i64 0), (.int .i64 0), (.string ⟨#[]⟩), (.slice none 0 0), (.int .i64 0)]) (blk_put (cs := #[(.int .i64 0), (.int .i64 0), (.int .i64 0), (.int .i64 0), (.int .i64 0), (.int .i64 0), (.int .i64 0), (.string ⟨#[]⟩), (.slice none 0 0), (.int .i64 0)]) BKZ.out 0 _ rfl) 1 _ rfl) (by decide) 2 _) (blk_put (cs := #[(.int .i64 r.e), (.int .i64 r.no), (.int .i64 0), (.int .i64 0), (.int .i64 0), (.int .i64 0), (.int .i64 0), (.string ⟨#[]⟩), (.slice none 0 0), (.int .i64 0)]) (blk_put (cs := #[(.int .i64 r.e), (.int .i64 0), (.int .i64 0), (.int .i64 0), (.int .i64 0), (.int .i64 0), (.int .i64 0), (.string ⟨#[]⟩), (.slice none 0 0), (.int .i64 0)]) (blk_put (cs := #[(.int .i64 0), (.int .i64 0), (.int .i64 0), (.int .i64 0), (.int .i64 0), (.int .i64 0), (.int .i64 0), (.string ⟨#[]⟩), (.slice none 0 0), (.int .i64 0)]) BKZ.out 0 _ rfl) 1 _ rfl) 2 _ rfl) (by decide) 3 _) (blk_put (cs := #[(.int .i64 r.e), (.int .i64 r.no), (.int .i64 r.gen), (.int .i64 0), (.int .i64 0), (.int .i64 0), (.int .i64 0), (.string ⟨#[]⟩), (.slice none 0 0), (.int .i64 0)]) (blk_put (cs := #[(.int .i64 r.e), (.int .i64 r.no), (.int .i64 0), (.int .i64 0), (.int .i64 0), (.int .i64 0), (.int .i64 0), (.string ⟨#[]⟩), (.slice none 0 0), (.int .i64 0)]) (blk_put (cs := #[(.int .i64 r.e), (.int .i64 0), (.int .i64 0), (.int .i64 0), (.int .i64 0), (.int .i64 0), (.int .i64 0), (.string ⟨#[]⟩), (.slice none 0 0), (.int .i64 0)]) (blk_put (cs := #[(.int .i64 0), (.int .i64 0), (.int .i64 0), (.int .i64 0), (.int .i64 0), (.int .i64 0), (.int .i64 0), (.string ⟨#[]⟩), (.slice none 0 0), (.int .i64 0)]) BKZ.out 0 _ rfl) 1 _ rfl) 2 _ rfl) 3 _ rfl) (by decide) 4 _) (blk_put (cs := #[(.int .i64 r.e), (.int .i64 r.no), (.int .i64 r.gen), (.int .i64 r.ki), (.int .i64 0), (.int .i64 0), (.int .i64 0), (.string ⟨#[]⟩), (.slice none 0 0), (.int .i64 0)]) (blk_put (cs := #[(.int .i64 r.e), (.int .i64 r.no), (.int .i64 r.gen), (.int .i64 0), (.int .i64 0), (.int .i64 0), (.int .i64 0), (.string ⟨#[]⟩), (.slice none 0 0), (.int .i64 0)]) (blk_put (cs := #[(.int .i64 r.e), (.int .i64 r.no), (.int .i64 0), (.int .i64 0), (.int .i64 0), (.int .i64 0), (.int .i64 0), (.string ⟨#[]⟩), (.slice none 0 0), (.int .i64 0)]) (blk_put (cs := #[(.int .i64 r.e), (.int .i64 0), (.int .i64 0), (.int .i64 0), (.int .i64 0), (.int .i64 0), (.int .i64 0), (.string ⟨#[]⟩), (.slice none 0 0), (.int .i64 0)]) (blk_put (cs := #[(.int .i64 0), (.int .i64 0), (.int .i64 0), (.int .i64 0), (.int .i64 0), (.int .i64 0), (.int .i64 0), (.string ⟨#[]⟩), (.slice none 0 0), (.int .i64 0)]) BKZ.out 0 _ rfl) 1 _ rfl) 2 _ rfl) 3 _ rfl) 4 _ rfl) (by decide) 5 _) (blk_put (cs := #[(.int .i64 r.e), (.int .i64 r.no), (.int .i64 r.gen), (.int .i64 r.ki), (.int .i64 r.li), (.int .i64 0), (.int .i64 0), (.string ⟨#[]⟩), (.slice none 0 0), (.int .i64 0)]) (blk_put (cs := #[(.int .i64 r.e), (.int .i64 r.no), (.int .i64 r.gen), (.int .i64 r.ki), (.int .i64 0), (.int .i64 0), (.int .i64 0), (.string ⟨#[]⟩), (.slice none 0 0), (.int .i64 0)]) (blk_put (cs := #[(.int .i64 r.e), (.int .i64 r.no), (.int .i64 r.gen), (.int .i64 0), (.int .i64 0), (.int .i64 0), (.int .i64 0), (.string ⟨#[]⟩), (.slice none 0 0), (.int .i64 0)]) (blk_put (cs := #[(.int .i64 r.e), (.int .i64 r.no), (.int .i64 0), (.int .i64 0), (.int .i64 0), (.int .i64 0), (.int .i64 0), (.string ⟨#[]⟩), (.slice none 0 0), (.int .i64 0)]) (blk_put (cs := #[(.int .i64 r.e), (.int .i64 0), (.int .i64 0), (.int .i64 0), (.int .i64 0), (.int .i64 0), (.int .i64 0), (.string ⟨#[]⟩), (.slice none 0 0), (.int .i64 0)]) (blk_put (cs := #[(.int .i64 0), (.int .i64 0), (.int .i64 0), (.int .i64 0), (.int .i64 0), (.int .i64 0), (.int .i64 0), (.string ⟨#[]⟩), (.slice none 0 0), (.int .i64 0)]) BKZ.out 0 _ rfl) 1 _ rfl) 2 _ rfl) 3 _ rfl) 4 _ rfl) 5 _ rfl) (by decide) 6 _) (blk_put (cs := #[(.int .i64 r.e), (.int .i64 r.no), (.int .i64 r.gen), (.int .i64 r.ki), (.int .i64 r.li), (.int .i64 r.si), (.int .i64 0), (.string ⟨#[]⟩), (.slice none 0 0), (.int .i64 0)]) (blk_put (cs := #[(.int .i64 r.e), (.int .i64 r.no), (.int .i64 r.gen), (.int .i64 r.ki), (.int .i64 r.li), (.int .i64 0), (.int .i64 0), (.string ⟨#[]⟩), (.slice none 0 0), (.int .i64 0)]) (blk_put (cs := #[(.int .i64 r.e), (.int .i64 r.no), (.int .i64 r.gen), (.int .i64 r.ki), (.int .i64 0), (.int .i64 0), (.int .i64 0), (.string ⟨#[]⟩), (.slice none 0 0), (.int .i64 0)]) (blk_put (cs := #[(.int .i64 r.e), (.int .i64 r.no), (.int .i64 r.gen), (.int .i64 0), (.int .i64 0), (.int .i64 0), (.int .i64 0), (.string ⟨#[]⟩), (.slice none 0 0), (.int .i64 0)]) (blk_put (cs := #[(.int .i64 r.e), (.int .i64 r.no), (.int .i64 0), (.int .i64 0), (.int .i64 0), (.int .i64 0), (.int .i64 0), (.string ⟨#[]⟩), (.slice none 0 0), (.int .i64 0)]) (blk_put (cs := #[(.int .i64 r.e), (.int .i64 0), (.int .i64 0), (.int .i64 0), (.int .i64 0), (.int .i64 0), (.int .i64 0), (.string ⟨#[]⟩), (.slice none 0 0), (.int .i64 0)]) (blk_put (cs := #[(.int .i64 0), (.int .i64 0), (.int .i64 0), (.int .i64 0), (.int .i64 0), (.int .i64 0), (.int .i64 0), (.string ⟨#[]⟩), (.slice none 0 0), (.int .i64 0)]) BKZ.out 0 _ rfl) 1 _ rfl) 2 _ rfl) 3 _ rfl) 4 _ rfl) 5 _ rfl) 6 _ rfl) (by decide) 7 _) (blk_put (cs := #[(.int .i64 r.e), (.int .i64 r.no), (.int .i64 r.gen), (.int .i64 r.ki), (.int .i64 r.li), (.int .i64 r.si), (.int .i64 r.st), (.string ⟨#[]⟩), (.slice none 0 0), (.int .i64 0)]) (blk_put (cs := #[(.int .i64 r.e), (.int .i64 r.no), (.int .i64 r.gen), (.int .i64 r.ki), (.int .i64 r.li), (.int .i64 r.si), (.int .i64 0), (.string ⟨#[]⟩), (.slice none 0 0), (.int .i64 0)]) (blk_put (cs := #[(.int .i64 r.e), (.int .i64 r.no), (.int .i64 r.gen), (.int .i64 r.ki), (.int .i64 r.li), (.int .i64 0), (.int .i64 0), (.string ⟨#[]⟩), (.slice none 0 0), (.int .i64 0)]) (blk_put (cs := #[(.int .i64 r.e), (.int .i64 r.no), (.int .i64 r.gen), (.int .i64 r.ki), (.int .i64 0), (.int .i64 0), (.int .i64 0), (.string ⟨#[]⟩), (.slice none 0 0), (.int .i64 0)]) (blk_put (cs := #[(.int .i64 r.e), (.int .i64 r.no), (.int .i64 r.gen), (.int .i64 0), (.int .i64 0), (.int .i64 0), (.int .i64 0), (.string ⟨#[]⟩), (.slice none 0 0), (.int .i64 0)]) (blk_put (cs := #[(.int .i64 r.e), (.int .i64 r.no), (.int .i64 0), (.int .i64 0), (.int .i64 0), (.int .i64 0), (.int .i64 0), (.string ⟨#[]⟩), (.slice none 0 0), (.int .i64 0)]) (blk_put (cs := #[(.int .i64 r.e), (.int .i64 0), (.int .i64 0), (.int .i64 0), (.int .i64 0), (.int .i64 0), (.int .i64 0), (.string ⟨#[]⟩), (.slice none 0 0), (.int .i64 0)]) (blk_put (cs := #[(.int .i64 0), (.int .i64 0), (.int .i64 0), (.int .i64 0), (.int .i64 0), (.int .i64 0), (.int .i64 0), (.string ⟨#[]⟩), (.slice none 0 0), (.int .i64 0)]) BKZ.out 0 _ rfl) 1 _ rfl) 2 _ rfl) 3 _ rfl) 4 _ rfl) 5 _ rfl) 6 _ rfl) 7 _ rfl) (by decide) 8 _) (blk_put (cs := #[(.int .i64 r.e), (.int .i64 r.no), (.int .i64 r.gen), (.int .i64 r.ki), (.int .i64 r.li), (.int .i64 r.si), (.int .i64 r.st), (.string r.d), (.slice none 0 0), (.int .i64 0)]) (blk_put (cs := #[(.int .i64 r.e), (.int .i64 r.no), (.int .i64 r.gen), (.int .i64 r.ki), (.int .i64 r.li), (.int .i64 r.si), (.int .i64 r.st), (.string ⟨#[]⟩), (.slice none 0 0), (.int .i64 0)]) (blk_put (cs := #[(.int .i64 r.e), (.int .i64 r.no), (.int .i64 r.gen), (.int .i64 r.ki), (.int .i64 r.li), (.int .i64 r.si), (.int .i64 0), (.string ⟨#[]⟩), (.slice none 0 0), (.int .i64 0)]) (blk_put (cs := #[(.int .i64 r.e), (.int .i64 r.no), (.int .i64 r.gen), (.int .i64 r.ki), (.int .i64 r.li), (.int .i64 0), (.int .i64 0), (.string ⟨#[]⟩), (.slice none 0 0), (.int .i64 0)]) (blk_put (cs := #[(.int .i64 r.e), (.int .i64 r.no), (.int .i64 r.gen), (.int .i64 r.ki), (.int .i64 0), (.int .i64 0), (.int .i64 0), (.string ⟨#[]⟩), (.slice none 0 0), (.int .i64 0)]) (blk_put (cs := #[(.int .i64 r.e), (.int .i64 r.no), (.int .i64 r.gen), (.int .i64 0), (.int .i64 0), (.int .i64 0), (.int .i64 0), (.string ⟨#[]⟩), (.slice none 0 0), (.int .i64 0)]) (blk_put (cs := #[(.int .i64 r.e), (.int .i64 r.no), (.int .i64 0), (.int .i64 0), (.int .i64 0), (.int .i64 0), (.int .i64 0), (.string ⟨#[]⟩), (.slice none 0 0), (.int .i64 0)]) (blk_put (cs := #[(.int .i64 r.e), (.int .i64 0), (.int .i64 0), (.int .i64 0), (.int .i64 0), (.int .i64 0), (.int .i64 0), (.string ⟨#[]⟩), (.slice none 0 0), (.int .i64 0)]) (blk_put (cs := #[(.int .i64 0), (.int .i64 0), (.int .i64 0), (.int .i64 0), (.int .i64 0), (.int .i64 0), (.int .i64 0), (.string ⟨#[]⟩), (.slice none 0 0), (.int .i64 0)]) BKZ.out 0 _ rfl) 1 _ rfl) 2 _ rfl) 3 _ rfl) 4 _ rfl) 5 _ rfl) 6 _ rfl) 7 _ rfl) 8 _ rfl) (by decide) 9 _) (le_of_below HB.out), (below_set (below_set (below_set (below_set (below_set (below_set (below_set (below_set (below_set (below_set HBZ.out GE2.out) GE2.out) GE2.out) GE2.out) GE2.out) GE2.out) GE2.out) GE2.out) GE2.out) GE2.out)⟩
theorem answer_Unpack.calls (k : Nat) (s : ByteArray) (r1 r2 r3 r4 r5 r6 r7 : Int) (r8 : ByteArray) (r9 : List S52) (r10 r11 : Int) (w : World) (h : answer_Unpack.f k s = some (r1, r2, r3, r4, r5, r6, r7, r8, r9, r10, r11)) : Calls Try.prog 11 #[.string s] w fun e w' => ∃ v8_ : Value, e = .returned (.tuple #[.agg #[.int .i64 r1, .int .i64 r2, .int .i64 r3, .int .i64 r4, .int .i64 r5, .int .i64 r6, .int .i64 r7, .string r8, v8_, .int .i64 r10], .int .i64 r11]) ∧ Kd.R k52 52 w' w.heap.size (fun _ => True) v8_ r9 ∧ Below w.heap.size w w' := by
  unfold answer_Unpack.f at h
  obtain ⟨⟨fs, e⟩, hu, h⟩ := Option.bind_eq_some_iff.1 h
  replace h : (if e = 0 then if fs.length ≤ 1000000000 then (loopA k fs Rep.zero).bind fun o => o.elim (some (Rep.zero.out 4)) fun r => (answer_Pack.f k r.e r.no r.gen r.ki r.li r.si r.st r.d r.xs r.n).bind fun p => if p.2 = 0 then if p.1.toList = s.toList then some (r.out 0) else some (Rep.zero.out 4) else some (Rep.zero.out 4) else none else some (Rep.zero.out 4)) = some (r1, r2, r3, r4, r5, r6, r7, r8, r9, r10, r11) := h
  by_cases h0 : e = 0
  · rw [if_pos h0] at h
    subst h0
    by_cases hln : fs.length ≤ 1000000000
    · rw [if_pos hln] at h
      obtain ⟨o, ho, h⟩ := Option.bind_eq_some_iff.1 h
      exact answer_Unpack.good k s w fs o (r1, r2, r3, r4, r5, r6, r7, r8, r9, r10, r11) hu hln ho h
    · rw [if_neg hln] at h
      cases h
  · rw [if_neg h0] at h
    cases h
    exact answer_Unpack.bad k s w fs e hu h0
end Go.Proofs.Ytbnnmbajfmodjaa.FA
