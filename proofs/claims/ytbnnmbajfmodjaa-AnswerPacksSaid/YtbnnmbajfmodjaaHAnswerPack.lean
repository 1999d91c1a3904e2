/- Written by hand (wip/tools/gen_answer_pack.py): answer.Pack (a closure appends to a captured row). -/
import Derived.Test.YtbnnmbajfmodjaaHandAll
import Derived.Test.YtbnnmbajfmodjaaB
import Derived.Test.YtbnnmbajfmodjaaFAanswerCheck
import Derived.Test.YtbnnmbajfmodjaaFAAnsSmall
import Derived.Test.YtbnnmbajfmodjaaHAttrPack
import Derived.Test.YtbnnmbajfmodjaaFATlvAll
import Derived.Test.YtbnnmbajfmodjaaWApart
namespace Go.Proofs.Ytbnnmbajfmodjaa.FA
open Go.RowKit Go.Proofs.YtbnnmbajfmodjaaW.PrintWords Go.Proofs.YtbnnmbajfmodjaaW.PrintLast Go.Proofs.YtbnnmbajfmodjaaW.PrintMore Go.Proofs.Ytbnnmbajfmodjaa.Hand Go.Proofs.Ytbnnmbajfmodjaa.B
set_option linter.unusedVariables false
set_option linter.unusedSimpArgs false
/-- A field, if there is one. -/
def putF (t : Int) (v : ByteArray) (b : Bool) : List S46 := if b then [⟨t, v⟩] else []
theorem putF_len (t : Int) (v : ByteArray) (b : Bool) : (putF t v b).length ≤ 1 := by cases b <;> simp [putF]
/-- A block that holds a row of fields. -/
def PBox (N : Nat) (w : World) (g : Nat) (xs : List S46) : Prop := ∃ V, w.heap[g]? = some (.cells #[V] 44 (0, 0)) ∧ N ≤ g ∧ Kd.R k46 46 w N (fun _ => True) V xs
/-- All blocks of other types are as they were, but for one. -/
def PKeep (w w' : World) (g : Nat) : Prop := ∀ k cells t, k ≠ g → t ≠ 46 → w.heap[k]? = some (.cells cells t (0, 0)) → w'.heap[k]? = some (.cells cells t (0, 0))
theorem PBox.below {N : Nat} {w w' : World} {g : Nat} {xs : List S46} (h : PBox N w g xs) (hb : Below w.heap.size w w') : PBox N w' g xs := by
  obtain ⟨V, h1, h2, h3⟩ := h
  exact ⟨V, blk_below h1 hb, h2, Kd.R_below h3 hb⟩
theorem PBox.drew {N : Nat} {w : World} {g : Nat} {xs : List S46} (h : PBox N w g xs) : PBox N w.drew g xs := h.below (below_drew (Below.refl _ _))
set_option maxHeartbeats 4000000 in
set_option maxRecDepth 100000 in
theorem put_calls (tag : Int) (v : ByteArray) (b : Bool) {w0 w : World} {g : Nat} {xs : List S46} (h : PBox w0.heap.size w g xs) (hB : Below w0.heap.size w0 w) (hl : xs.length ≤ 1000000) :
    Calls Try.prog 14 #[.int .i64 tag, .string v, .bool b, .pointer (some ⟨g, 0, none⟩)] w fun e w' => e = .returned (.tuple #[]) ∧ PBox w0.heap.size w' g (xs ++ putF tag v b) ∧ Below w0.heap.size w0 w' ∧ PKeep w w' g := by
  obtain ⟨V, hbk, hN, HO_⟩ := h
  cases b with
  | false =>
    go_enter Try.func14, Try.ntmps14
    go_wp2
    (try simp only [Exit.inBlock, Exit.then])
    refine bodyPost_end (results_none rfl _ _ _) rfl ?_
    exact ⟨rfl, ⟨V, hbk, hN, by simpa [putF] using HO_⟩, hB, fun _ _ _ _ _ h => h⟩
  | true =>
    have HB := Aside0.mk hB
    have HO := Aside0.mk HO_
    have BK := Aside0.mk hbk
    have HL := Aside0.mk hl
    have HG := Aside0.mk hN
    have hz := (blk_cell hbk 0).trans rfl
    have hf := blk_frozen hbk 0
    clear hB HO_ hbk hl hN
    go_enter Try.func14, Try.ntmps14
    go_wp2_with (first | ((with_reducible refine gate_builtin (b := .append) (xs := #[.tmp 8, .tmp 12]) rfl ?_); at_builtin; refine Kd.R_append k46 (w0 := w0) (W := w) w0.heap.size rfl (.tmp 8) (.tmp 12) 44 46 (.agg #[(.int .i64 0), (.string ⟨#[]⟩)]) 24 rfl Try.underlying44 info46 rfl (by decide) (by omega) V xs ⟨tag, v⟩ [.int .i64 tag, .string v] (fun _ => True) (fun _ => False) rfl rfl ?aP (fun _ hk => hk.elim) ?aF ?aO ?aB ?aS ?aL ?_; (case aP => exact k46_mkM _ _ _ ⟨tag, v⟩); (case aB => exact HB.out); (case aF => exact (fun _ _ => trivial)); (case aO => exact HO.out); (case aS => exact HB.out.size); (case aL => have := HL.out; omega); intro v1_ w1_ ho hb hg hat; obtain ⟨A3, c3, he3⟩ := Kd.R_slice ho; subst he3; have HO1 := Aside0.mk ho; have HB1 := Aside0.mk hb; have HG1 := Aside0.mk hg; have BK1 := Aside0.mk (blk_grown BK.out hg (Kd.R_ne HO.out BK.out (by decide))); have hz1 := (blk_cell BK1.out 0).trans rfl; have hf1 := blk_frozen BK1.out 0; clear ho hb hg hat))
    (try simp only [Exit.inBlock, Exit.then])
    refine bodyPost_end (results_none rfl _ _ _) rfl ?_
    refine ⟨rfl, ⟨_, blk_put (cs := #[V]) BK1.out 0 _ rfl, HG.out, ?_⟩, HB1.out.setCell (p := ⟨g, 0, none⟩) HG.out _, ?_⟩
    · exact Kd.R_set (by simpa [putF] using HO1.out) BK1.out (by decide) 0 _
    · intro k cells t hk ht hb
      have h1 := blk_grown hb HG1.out (Kd.R_ne HO.out hb (Ne.symm ht))
      exact (Below.heap_setCell w1_ ⟨g, 0, none⟩ _ k hk).trans h1
def sum2 (a b : ByteArray) : Option ByteArray := if a.size + b.size ≤ 9223372036854775807 then some (a ++ b) else none
theorem sum2_some {a b r : ByteArray} (h : sum2 a b = some r) : a.size + b.size ≤ 9223372036854775807 ∧ r = a ++ b := by
  unfold sum2 at h
  split at h
  · exact ⟨by assumption, (Option.some.inj h).symm⟩
  · cases h
def answer_ent (k : Nat) (x : S52) : Option ByteArray := (answer_bytes.f k x.f1 6).bind fun a => (answer_to.f k x.f2.f0 x.f2.f1).bind fun b => (sum2 a b).bind fun c => sum2 c x.f0
def answer_ents (k : Nat) : List S52 → Option (List ByteArray)
  | [] => some []
  | x :: l => (answer_ent k x).bind fun a => (answer_ents k l).bind fun r => some (a :: r)
theorem answer_ent.mono (k : Nat) (x : S52) : LeO (answer_ent k x) (answer_ent (k + 1) x) := by
  unfold answer_ent
  exact LeO.bind (answer_bytes.mono _ _ _) (fun _ => LeO.bind (answer_to.mono _ _ _) (fun _ => LeO.refl _))
theorem answer_ents.mono (k : Nat) : ∀ l, LeO (answer_ents k l) (answer_ents (k + 1) l)
  | [] => LeO.refl _
  | x :: l => LeO.bind (answer_ent.mono k x) (fun _ => LeO.bind (answer_ents.mono k l) (fun _ => LeO.refl _))
theorem answer_ents.at {k : Nat} : ∀ {l : List S52} {es : List ByteArray}, answer_ents k l = some es → es.length = l.length ∧ ∀ n (h : n < l.length) (h' : n < es.length), answer_ent k l[n] = some es[n]
  | [], es, h => by cases h; exact ⟨rfl, fun n h => by simp at h⟩
  | x :: l, es, h => by
    unfold answer_ents at h
    obtain ⟨a, ha, h⟩ := Option.bind_eq_some_iff.1 h
    obtain ⟨r, hr, h⟩ := Option.bind_eq_some_iff.1 h
    cases h
    obtain ⟨hl, hi⟩ := answer_ents.at hr
    refine ⟨by simp [hl], fun n h1 h2 => ?_⟩
    rcases n with _ | n
    · exact ha
    · exact hi n (by simpa using h1) (by simpa using h2)
theorem eqH_ (d : Nat) (w : World) (x0 y0 : Int) (x1 y1 : Int) : (Op.equalIn (d + 2) 24 (.agg #[.int .i64 x0, .int .i64 x1]) (.agg #[.int .i64 y0, .int .i64 y1])).run Try.prog w = .ok (x0 == y0 && x1 == y1) w := by
  refine eqA_of Try.underlying24 (by kernel_rfl) ?_
  refine eqf_cons (by rfl) (by go_simp; rfl) (by go_simp; rfl) (by go_simp) ?_
  exact eqf_last (by rfl) (by go_simp; rfl) (by go_simp; rfl) (by go_simp)
theorem eqT_ (d : Nat) (w : World) (x0 y0 : Int) (x1 y1 : Int) (x2 y2 : Int) (x3 y3 : Int) : (Op.equalIn (d + 2) 26 (.agg #[.int .i64 x0, .int .i64 x1, .int .i64 x2, .int .i64 x3]) (.agg #[.int .i64 y0, .int .i64 y1, .int .i64 y2, .int .i64 y3])).run Try.prog w = .ok (x0 == y0 && (x1 == y1 && (x2 == y2 && (x3 == y3)))) w := by
  refine eqA_of Try.underlying26 (by kernel_rfl) ?_
  refine eqf_cons (by rfl) (by go_simp; rfl) (by go_simp; rfl) (by go_simp) ?_
  refine eqf_cons (by rfl) (by go_simp; rfl) (by go_simp; rfl) (by go_simp) ?_
  refine eqf_cons (by rfl) (by go_simp; rfl) (by go_simp; rfl) (by go_simp) ?_
  exact eqf_last (by rfl) (by go_simp; rfl) (by go_simp; rfl) (by go_simp)
attribute [local go_sem high] eqH_ eqT_
theorem meas_n (a n : Nat) (h : n < a) : ((a : Int) - intOf (.int .i64 ((n + 1 : Nat) : Int))).toNat < ((a : Int) - intOf (.int .i64 (n : Int))).toNat := by simp only [intOf]; omega
abbrev neqH (a b : Int) : Bool := !(a == 0) || !(b == 0)
abbrev neqA (a b c d : Int) : Bool := !(a == 0) || (!(b == 0) || (!(c == 0) || !(d == 0)))
def answer_Pack.f (k : Nat) (a0_0 a0_1 a0_2 a0_3 a0_4 a0_5 a0_6 : Int) (a0_7 : ByteArray) (l0_8 : List S52) (a0_9 : Int) : Option (ByteArray × Int) :=
  (answer_Check.f k a0_0 a0_1 a0_2 a0_3 a0_4 a0_5 a0_6 a0_7 l0_8 a0_9).bind fun e => if e = 0 then if l0_8.length ≤ 100000 then (attr_Pack.f a0_3 a0_4 a0_5 a0_6).bind fun a_ => (fun a : ByteArray => (answer_bytes.f k a0_0 2).bind fun s1 => (answer_to.f k a0_1 a0_2).bind fun s2 => (answer_ents k l0_8).bind fun es => (answer_bytes.f k a0_9 6).bind fun s6 => tlv_Pack.f k ((((([] ++ putF 1 s1 (a0_0 != 0)) ++ putF 2 s2 (neqH a0_1 a0_2)) ++ putF 3 a (neqA a0_3 a0_4 a0_5 a0_6)) ++ putF 4 a0_7 (!a0_7.toList.isEmpty) ++ es.map (fun v => (⟨5, v⟩ : S46))) ++ putF 6 s6 (a0_9 != 0))) a_.1 else none else some (⟨#[]⟩, e)
theorem answer_Pack.mono : ∀ a0_0 a0_1 a0_2 a0_3 a0_4 a0_5 a0_6 a0_7 l0_8 a0_9 k, LeO (answer_Pack.f k a0_0 a0_1 a0_2 a0_3 a0_4 a0_5 a0_6 a0_7 l0_8 a0_9) (answer_Pack.f (k + 1) a0_0 a0_1 a0_2 a0_3 a0_4 a0_5 a0_6 a0_7 l0_8 a0_9) := by
  intro a0_0 a0_1 a0_2 a0_3 a0_4 a0_5 a0_6 a0_7 l0_8 a0_9 k
  unfold answer_Pack.f
  refine LeO.bind (answer_Check.mono _ _ _ _ _ _ _ _ _ _ _) (fun _ => LeO.ite (LeO.ite ?_ (LeO.refl _)) (LeO.refl _))
  refine LeO.bind (LeO.refl _) (fun _ => LeO.bind (answer_bytes.mono _ _ _) (fun _ => LeO.bind (answer_to.mono _ _ _) (fun _ => LeO.bind (answer_ents.mono _ _) (fun _ => LeO.bind (answer_bytes.mono _ _ _) (fun _ => tlv_Pack.mono _ _)))))
def answerPack.T7 : Bool × List (List Nat × List Nat) := (true, [([], []), ([], []), ([1], [1]), ([2], [2]), ([], []), ([4], [4]), ([5], [5]), ([0, 3, 6, 3], [0, 3, 6])])
def answerPack.B7 : List Nat := [0, 0, 2, 6, 0, 16, 48, 127]
theorem answerPack.tab7 : rtab .any (opsOf Try.f6 7) = answerPack.T7 := by kernel_rfl
theorem answerPack.bits7 : waitsOk answerPack.T7.2 answerPack.B7 = true := by kernel_rfl
def answerPack.T8 : Bool × List (List Nat × List Nat) := (true, [([], []), ([], []), ([1], [1]), ([2], [2]), ([], []), ([4], [4]), ([], []), ([5, 6], [5, 6]), ([0, 3, 7, 3], [0, 3, 7])])
def answerPack.B8 : List Nat := [0, 0, 2, 6, 0, 16, 0, 112, 255]
theorem answerPack.tab8 : rtab .any (opsOf Try.f6 8) = answerPack.T8 := by kernel_rfl
theorem answerPack.bits8 : waitsOk answerPack.T8.2 answerPack.B8 = true := by kernel_rfl
def answerPack.T14 : Bool × List (List Nat × List Nat) := (true, [([], []), ([], []), ([1], [1]), ([2], [2]), ([], []), ([4], [4]), ([5, 3], [5]), ([3, 6], [3, 6]), ([], []), ([8], [8]), ([7, 9], [7, 9]), ([0, 10, 6], [0, 10])])
def answerPack.B14 : List Nat := [0, 0, 2, 6, 0, 16, 62, 126, 0, 256, 1022, 2047]
theorem answerPack.tab14 : rtab .any (opsOf Try.f6 14) = answerPack.T14 := by kernel_rfl
theorem answerPack.bits14 : waitsOk answerPack.T14.2 answerPack.B14 = true := by kernel_rfl
def answerPack.T16 : Bool × List (List Nat × List Nat) := (true, [([], []), ([], []), ([1], [1]), ([2], [2]), ([], []), ([4], [4]), ([5], [5]), ([0, 3, 6, 3], [0, 3, 6])])
def answerPack.B16 : List Nat := [0, 0, 2, 6, 0, 16, 48, 127]
theorem answerPack.tab16 : rtab .any (opsOf Try.f6 16) = answerPack.T16 := by kernel_rfl
theorem answerPack.bits16 : waitsOk answerPack.T16.2 answerPack.B16 = true := by kernel_rfl
set_option maxHeartbeats 8000000 in
set_option maxRecDepth 100000 in
theorem answer_Pack.bad (k : Nat) (a0_0 a0_1 a0_2 a0_3 a0_4 a0_5 a0_6 : Int) (a0_7 : ByteArray) (A0_8 : Option Addr) (c0_8 : Nat) (l0_8 : List S52) (a0_9 : Int) (e : Int) (w : World) (hr0_8 : Kd.C k52 w A0_8 l0_8.length l0_8) (hc0_8 : l0_8.length ≤ c0_8) (he : answer_Check.f k a0_0 a0_1 a0_2 a0_3 a0_4 a0_5 a0_6 a0_7 l0_8 a0_9 = some e) (h0 : e ≠ 0) : Calls Try.prog 6 #[.agg #[.int .i64 a0_0, .int .i64 a0_1, .int .i64 a0_2, .int .i64 a0_3, .int .i64 a0_4, .int .i64 a0_5, .int .i64 a0_6, .string a0_7, .slice A0_8 l0_8.length c0_8, .int .i64 a0_9]] w fun e_ w' => e_ = .returned (.tuple #[.string ⟨#[]⟩, .int .i64 e]) ∧ Below w.heap.size w w' := by
  have HB := Aside0.mk (Below.refl w.heap.size w)
  have HR0 := Aside0.mk hr0_8
  have HC0 := Aside0.mk hc0_8
  have HE := Aside0.mk he
  have hu := Try.underlying29
  have b0 : (e == 0) = false := beq_eq_false_iff_ne.mpr h0
  have b1 : (e != 0) = true := bne_iff_ne.mpr h0
  clear h0 he hr0_8 hc0_8
  go_enter Try.func6, Try.ntmps6
  go_wp2_with (first | ((with_reducible refine gate_dst (N := 1) rfl ?_); refine box_event ?hg (N := 1) ?hd (cs := #[.int .i64 a0_0, .int .i64 a0_1, .int .i64 a0_2, .int .i64 a0_3, .int .i64 a0_4, .int .i64 a0_5, .int .i64 a0_6, .string a0_7, .slice A0_8 l0_8.length c0_8, .int .i64 a0_9]) (t := 29) ?hr ?_; (case hd => rfl); (case hg => rfl); (case hr => first | (go_simp; done) | (go_simp; rfl)); intro g1 hg w1_ hbox hb; have BK1 := Aside0.mk hbox; have GE1 := Aside0.mk (show w.heap.size ≤ g1 from by rw [hg]; exact Nat.le_refl _); have n1_ := Aside0.mk (below_step HB.out hb); clear HB; have HB := n1_; clear n1_ hb hbox hg; have hz0 := (blk_cell BK1.out 0).trans rfl; have hz1 := (blk_cell BK1.out 1).trans rfl; have hz2 := (blk_cell BK1.out 2).trans rfl; have hz3 := (blk_cell BK1.out 3).trans rfl; have hz4 := (blk_cell BK1.out 4).trans rfl; have hz5 := (blk_cell BK1.out 5).trans rfl; have hz6 := (blk_cell BK1.out 6).trans rfl; have hz7 := (blk_cell BK1.out 7).trans rfl; have hz8 := (blk_cell BK1.out 8).trans rfl; have hz9 := (blk_cell BK1.out 9).trans rfl) | (go_at_call 8; (with_reducible refine (answer_Check.calls k a0_0 a0_1 a0_2 a0_3 a0_4 a0_5 a0_6 a0_7 A0_8 c0_8 l0_8 a0_9 e _ ?hc HC0.out HE.out).mono ?_); (case hc => exact Kd.C_below HR0.out HB.out); rintro e_ w2_ ⟨rfl, hb⟩; (try clear hz0 hz1 hz2 hz3 hz4 hz5 hz6 hz7 hz8 hz9); have n0_ := Aside0.mk (show w2_.heap[g1]? = some (.cells #[.int .i64 a0_0, .int .i64 a0_1, .int .i64 a0_2, .int .i64 a0_3, .int .i64 a0_4, .int .i64 a0_5, .int .i64 a0_6, .string a0_7, .slice A0_8 l0_8.length c0_8, .int .i64 a0_9] 29 (0, 0)) from blk_below BK1.out hb); have n3_ := Aside0.mk (below_step HB.out hb); clear BK1 HB; have BK1 := n0_; have HB := n3_; clear n0_ n3_; (try clear hb hp hk); have hz0 := (blk_cell BK1.out 0).trans rfl; have hz1 := (blk_cell BK1.out 1).trans rfl; have hz2 := (blk_cell BK1.out 2).trans rfl; have hz3 := (blk_cell BK1.out 3).trans rfl; have hz4 := (blk_cell BK1.out 4).trans rfl; have hz5 := (blk_cell BK1.out 5).trans rfl; have hz6 := (blk_cell BK1.out 6).trans rfl; have hz7 := (blk_cell BK1.out 7).trans rfl; have hz8 := (blk_cell BK1.out 8).trans rfl; have hz9 := (blk_cell BK1.out 9).trans rfl))
  go_ret2
  exact ⟨rfl, HB.out⟩
set_option maxHeartbeats 16000000 in
set_option maxRecDepth 100000 in
theorem answer_Pack.good (k : Nat) (a0_0 a0_1 a0_2 a0_3 a0_4 a0_5 a0_6 : Int) (a0_7 : ByteArray) (A0_8 : Option Addr) (c0_8 : Nat) (l0_8 : List S52) (a0_9 : Int) (a s1 s2 s6 : ByteArray) (ea : Int) (es : List ByteArray) (r1 : ByteArray) (r2 : Int) (w : World) (hr0_8 : Kd.C k52 w A0_8 l0_8.length l0_8) (hc0_8 : l0_8.length ≤ c0_8) (he : answer_Check.f k a0_0 a0_1 a0_2 a0_3 a0_4 a0_5 a0_6 a0_7 l0_8 a0_9 = some 0) (hln : l0_8.length ≤ 100000) (ha : attr_Pack.f a0_3 a0_4 a0_5 a0_6 = some (a, ea)) (h1 : answer_bytes.f k a0_0 2 = some s1) (h2 : answer_to.f k a0_1 a0_2 = some s2) (hes : answer_ents k l0_8 = some es) (h6 : answer_bytes.f k a0_9 6 = some s6) (hp : tlv_Pack.f k ((((([] ++ putF 1 s1 (a0_0 != 0)) ++ putF 2 s2 (neqH a0_1 a0_2)) ++ putF 3 a (neqA a0_3 a0_4 a0_5 a0_6)) ++ putF 4 a0_7 (!a0_7.toList.isEmpty) ++ es.map (fun v => (⟨5, v⟩ : S46))) ++ putF 6 s6 (a0_9 != 0)) = some (r1, r2)) : Calls Try.prog 6 #[.agg #[.int .i64 a0_0, .int .i64 a0_1, .int .i64 a0_2, .int .i64 a0_3, .int .i64 a0_4, .int .i64 a0_5, .int .i64 a0_6, .string a0_7, .slice A0_8 l0_8.length c0_8, .int .i64 a0_9]] w fun e_ w' => e_ = .returned (.tuple #[.string r1, .int .i64 r2]) ∧ Below w.heap.size w w' := by
  have HB := Aside0.mk (Below.refl w.heap.size w)
  have HR0 := Aside0.mk hr0_8
  have HC0 := Aside0.mk hc0_8
  have HE := Aside0.mk he
  have HA := Aside0.mk ha
  have H1 := Aside0.mk h1
  have H2 := Aside0.mk h2
  have HES := Aside0.mk hes
  have H6 := Aside0.mk h6
  have HPK := Aside0.mk hp
  have HLN := Aside0.mk hln
  have hu := Try.underlying29
  clear he ha h1 h2 hes h6 hp hln hr0_8 hc0_8
  go_enter Try.func6, Try.ntmps6
  go_upto_region 7 with (first | ((with_reducible refine gate_dst (N := 1) rfl ?_); refine box_event ?hg (N := 1) ?hd (cs := #[.int .i64 a0_0, .int .i64 a0_1, .int .i64 a0_2, .int .i64 a0_3, .int .i64 a0_4, .int .i64 a0_5, .int .i64 a0_6, .string a0_7, .slice A0_8 l0_8.length c0_8, .int .i64 a0_9]) (t := 29) ?hr ?_; (case hd => rfl); (case hg => rfl); (case hr => first | (go_simp; done) | (go_simp; rfl)); intro g1 hg w1_ hbox hb; have BK1 := Aside0.mk hbox; have GE1 := Aside0.mk (show w.heap.size ≤ g1 from by rw [hg]; exact Nat.le_refl _); have n1_ := Aside0.mk (below_step HB.out hb); clear HB; have HB := n1_; clear n1_ hb hbox hg; have hz0 := (blk_cell BK1.out 0).trans rfl; have hz1 := (blk_cell BK1.out 1).trans rfl; have hz2 := (blk_cell BK1.out 2).trans rfl; have hz3 := (blk_cell BK1.out 3).trans rfl; have hz4 := (blk_cell BK1.out 4).trans rfl; have hz5 := (blk_cell BK1.out 5).trans rfl; have hz6 := (blk_cell BK1.out 6).trans rfl; have hz7 := (blk_cell BK1.out 7).trans rfl; have hz8 := (blk_cell BK1.out 8).trans rfl; have hz9 := (blk_cell BK1.out 9).trans rfl) | (go_at_call 8; (with_reducible refine (answer_Check.calls k a0_0 a0_1 a0_2 a0_3 a0_4 a0_5 a0_6 a0_7 A0_8 c0_8 l0_8 a0_9 0 _ ?hc HC0.out HE.out).mono ?_); (case hc => exact Kd.C_below HR0.out HB.out); rintro e_ w2_ ⟨rfl, hb⟩; (try clear hz0 hz1 hz2 hz3 hz4 hz5 hz6 hz7 hz8 hz9); have n0_ := Aside0.mk (show w2_.heap[g1]? = some (.cells #[.int .i64 a0_0, .int .i64 a0_1, .int .i64 a0_2, .int .i64 a0_3, .int .i64 a0_4, .int .i64 a0_5, .int .i64 a0_6, .string a0_7, .slice A0_8 l0_8.length c0_8, .int .i64 a0_9] 29 (0, 0)) from blk_below BK1.out hb); have n3_ := Aside0.mk (below_step HB.out hb); clear BK1 HB; have BK1 := n0_; have HB := n3_; clear n0_ n3_; (try clear hb hp hk); have hz0 := (blk_cell BK1.out 0).trans rfl; have hz1 := (blk_cell BK1.out 1).trans rfl; have hz2 := (blk_cell BK1.out 2).trans rfl; have hz3 := (blk_cell BK1.out 3).trans rfl; have hz4 := (blk_cell BK1.out 4).trans rfl; have hz5 := (blk_cell BK1.out 5).trans rfl; have hz6 := (blk_cell BK1.out 6).trans rfl; have hz7 := (blk_cell BK1.out 7).trans rfl; have hz8 := (blk_cell BK1.out 8).trans rfl; have hz9 := (blk_cell BK1.out 9).trans rfl) | ((with_reducible refine gate_dst (N := 5) rfl ?_); refine box_event ?hg (N := 5) ?hd (cs := #[.slice none 0 0]) (t := 44) ?hr ?_; (case hd => rfl); (case hg => rfl); (case hr => first | (go_simp; done) | (go_simp; rfl)); intro g5 hg w5_ hbox hb; (try clear hz0 hz1 hz2 hz3 hz4 hz5 hz6 hz7 hz8 hz9); have GN1 := Aside0.mk (show g1 ≠ g5 from by rw [hg]; exact Nat.ne_of_lt (blk_lt BK1.out)); have HP := Aside0.mk (show PBox w.heap.size w5_ g5 [] from ⟨_, hbox, by rw [hg]; exact HB.out.size, Kd.R_nil _ _ _ _ _⟩); have n0_ := Aside0.mk (show w5_.heap[g1]? = some (.cells #[.int .i64 a0_0, .int .i64 a0_1, .int .i64 a0_2, .int .i64 a0_3, .int .i64 a0_4, .int .i64 a0_5, .int .i64 a0_6, .string a0_7, .slice A0_8 l0_8.length c0_8, .int .i64 a0_9] 29 (0, 0)) from blk_below BK1.out hb); have n3_ := Aside0.mk (below_step HB.out hb); clear BK1 HB; have BK1 := n0_; have HB := n3_; clear n0_ n3_; clear hb hbox hg; have hz0 := (blk_cell BK1.out 0).trans rfl; have hz1 := (blk_cell BK1.out 1).trans rfl; have hz2 := (blk_cell BK1.out 2).trans rfl; have hz3 := (blk_cell BK1.out 3).trans rfl; have hz4 := (blk_cell BK1.out 4).trans rfl; have hz5 := (blk_cell BK1.out 5).trans rfl; have hz6 := (blk_cell BK1.out 6).trans rfl; have hz7 := (blk_cell BK1.out 7).trans rfl; have hz8 := (blk_cell BK1.out 8).trans rfl; have hz9 := (blk_cell BK1.out 9).trans rfl) | (go_at_call 15; (with_reducible refine (attr_Pack.calls a0_3 a0_4 a0_5 a0_6 a ea _ HA.out).mono ?_); rintro e_ w6_ ⟨rfl, hb⟩; (try clear hz0 hz1 hz2 hz3 hz4 hz5 hz6 hz7 hz8 hz9); have n0_ := Aside0.mk (show w6_.heap[g1]? = some (.cells #[.int .i64 a0_0, .int .i64 a0_1, .int .i64 a0_2, .int .i64 a0_3, .int .i64 a0_4, .int .i64 a0_5, .int .i64 a0_6, .string a0_7, .slice A0_8 l0_8.length c0_8, .int .i64 a0_9] 29 (0, 0)) from blk_below BK1.out hb); have n1_ := Aside0.mk (HP.out.below hb); have n3_ := Aside0.mk (below_step HB.out hb); clear BK1 HP HB; have BK1 := n0_; have HP := n1_; have HB := n3_; clear n0_ n1_ n3_; (try clear hb hp hk); have hz0 := (blk_cell BK1.out 0).trans rfl; have hz1 := (blk_cell BK1.out 1).trans rfl; have hz2 := (blk_cell BK1.out 2).trans rfl; have hz3 := (blk_cell BK1.out 3).trans rfl; have hz4 := (blk_cell BK1.out 4).trans rfl; have hz5 := (blk_cell BK1.out 5).trans rfl; have hz6 := (blk_cell BK1.out 6).trans rfl; have hz7 := (blk_cell BK1.out 7).trans rfl; have hz8 := (blk_cell BK1.out 8).trans rfl; have hz9 := (blk_cell BK1.out 9).trans rfl))
  (try clear hz0 hz1 hz2 hz3 hz4 hz5 hz6 hz7 hz8 hz9)
  have n0_ := Aside0.mk (show w6_.drew.heap[g1]? = some (.cells #[.int .i64 a0_0, .int .i64 a0_1, .int .i64 a0_2, .int .i64 a0_3, .int .i64 a0_4, .int .i64 a0_5, .int .i64 a0_6, .string a0_7, .slice A0_8 l0_8.length c0_8, .int .i64 a0_9] 29 (0, 0)) from blk_drew BK1.out)
  have n1_ := Aside0.mk (HP.out.drew)
  have n3_ := Aside0.mk (below_drew1 HB.out)
  clear BK1 HP HB
  have BK1 := n0_
  have HP := n1_
  have HB := n3_
  clear n0_ n1_ n3_
  refine start_ (n := 8) (S := fun w' => w'.cell? ⟨g1, 0, none⟩ = some (.int .i64 a0_0)) (ds := []) #[false, false, false, false, false, false, false, false] (by kernel_rfl) rfl rfl ((blk_cell BK1.out 0).trans rfl) (fun hHeld => ?_); refine with_tabW answerPack.tab7 answerPack.bits7 (fun HT_ HW_ => ?_)
  generalize w6_.drew = w7_ at BK1 HB HP hHeld ⊢
  refine pure_ (i := 0) (N := some 23) (v := ?_) (a' := ?_) #[true, false, false, false, false, false, false, false] rfl rfl (any_of HT_.out (by kernel_rfl)) (fun _ _ _ h => h) (Or.inl ⟨by rfl, ?_⟩) ?_ ?_
  rotate_left
  · intro w'
    go_simp
    with_reducible rfl
  rotate_left
  · simp only [Act.put, List.setIfInBounds_toArray, List.set_cons_zero, List.set_cons_succ, i64_w, i32_w]
    rfl
  refine pure_ (i := 1) (N := some 24) (v := ?_) (a' := ?_) #[true, true, false, false, false, false, false, false] rfl rfl (any_of HT_.out (by kernel_rfl)) (fun _ _ _ h => h) (Or.inl ⟨by rfl, ?_⟩) ?_ ?_
  rotate_left
  · intro w'
    go_simp
    with_reducible rfl
  rotate_left
  · simp only [Act.put, List.setIfInBounds_toArray, List.set_cons_zero, List.set_cons_succ, i64_w, i32_w]
    rfl
  refine pure_ (i := 4) (N := some 27) (v := ?_) (a' := ?_) #[true, true, false, false, true, false, false, false] rfl rfl (any_of HT_.out (by kernel_rfl)) (fun _ _ _ h => h) (Or.inl ⟨by rfl, ?_⟩) ?_ ?_
  rotate_left
  · intro w'
    go_simp
    with_reducible rfl
  rotate_left
  · simp only [Act.put, List.setIfInBounds_toArray, List.set_cons_zero, List.set_cons_succ, i64_w, i32_w]
    rfl
  refine take_ (i := 2) (N := some 25) (v := ?_) (a' := ?_) #[true, true, true, false, true, false, false, false] rfl rfl (take_ofW HT_.out HW_.out (by kernel_rfl)) (fun _ _ _ h => h) (Or.inl ⟨by rfl, ?_⟩) hHeld ?_ ?_
  rotate_left
  · intro w' s0
    go_simp
    with_reducible rfl
  rotate_left
  · simp only [Act.put, List.setIfInBounds_toArray, List.set_cons_zero, List.set_cons_succ, i64_w, i32_w]
    rfl
  refine take_ (i := 5) (N := some 28) (v := ?_) (a' := ?_) #[true, true, true, false, true, true, false, false] rfl rfl (take_ofW HT_.out HW_.out (by kernel_rfl)) (fun _ _ _ h => h) (Or.inl ⟨by rfl, ?_⟩) hHeld ?_ ?_
  rotate_left
  · intro w' s0
    go_simp
    with_reducible rfl
  rotate_left
  · simp only [Act.put, List.setIfInBounds_toArray, List.set_cons_zero, List.set_cons_succ, i64_w, i32_w]
    rfl
  refine pure_ (i := 6) (N := some 29) (v := ?_) (a' := ?_) #[true, true, true, false, true, true, true, false] rfl rfl (any_of HT_.out (by kernel_rfl)) (fun _ _ _ h => h) (Or.inl ⟨by rfl, ?_⟩) ?_ ?_
  rotate_left
  · intro w'
    go_simp
    with_reducible rfl
  rotate_left
  · simp only [Act.put, List.setIfInBounds_toArray, List.set_cons_zero, List.set_cons_succ, i64_w, i32_w]
    rfl
  refine one_ (i := 3) (N := some 26) #[true, true, true, true, true, true, true, false] rfl rfl (one_of HT_.out (by kernel_rfl)) (by decide) (fun K hK => ?_)
  refine goes_ Try.func16 (by kernel_rfl) rfl #[.int .i64 a0_0, .int .i64 2] (by rfl) rfl rfl (by (try simp only [List.map_toArray, List.map_cons, List.map_nil]); first | done | rfl) ?_
  refine (answer_bytes.calls k a0_0 2 s1 _ H1.out).mono ?_
  rintro e w8_ ⟨rfl, hb⟩
  refine ⟨_, rfl, ?_⟩
  have n0_ := Aside0.mk (show w8_.heap[g1]? = some (.cells #[.int .i64 a0_0, .int .i64 a0_1, .int .i64 a0_2, .int .i64 a0_3, .int .i64 a0_4, .int .i64 a0_5, .int .i64 a0_6, .string a0_7, .slice A0_8 l0_8.length c0_8, .int .i64 a0_9] 29 (0, 0)) from blk_below BK1.out hb)
  have n1_ := Aside0.mk (HP.out.below hb)
  have n3_ := Aside0.mk (below_step HB.out hb)
  clear BK1 HP HB
  have BK1 := n0_
  have HP := n1_
  have HB := n3_
  clear n0_ n1_ n3_
  clear hb
  refine hK.out _ _ ((blk_cell BK1.out 0).trans rfl) (fun hHeld => ?_)
  clear hK K
  refine norm_ (a' := ?_) ?_ ?_
  rotate_left
  · show Act.put _ (some 26) _ = _
    simp only [Act.put, List.setIfInBounds_toArray, List.set_cons_zero, List.set_cons_succ, i64_w, i32_w]
    rfl
  refine one_ (i := 7) (N := some 30) #[true, true, true, true, true, true, true, true] rfl rfl (one_of HT_.out (by kernel_rfl)) (by decide) (fun K hK => ?_)
  refine goesV_ Try.func14 (by kernel_rfl) rfl #[.pointer (some ⟨g5, 0, none⟩)] #[.int .i64 1, .string s1, .bool (a0_0 != 0)] #[.int .i64 1, .string s1, .bool (a0_0 != 0), .pointer (some ⟨g5, 0, none⟩)] (by rfl) rfl rfl (by rfl) (by (try simp only [List.map_toArray, List.map_cons, List.map_nil]); first | done | rfl) (by rfl) ?_
  refine (put_calls 1 s1 (a0_0 != 0) HP.out HB.out (by simp only [List.length_append, List.length_nil, List.length_map]; have := putF_len 1 s1 (a0_0 != 0); have := putF_len 2 s2 (neqH a0_1 a0_2); have := putF_len 3 a (neqA a0_3 a0_4 a0_5 a0_6); have := putF_len 4 a0_7 (!a0_7.toList.isEmpty); omega)).mono ?_
  rintro e w9_ ⟨rfl, hp, hb, hk⟩
  refine ⟨_, rfl, ?_⟩
  have n0_ := Aside0.mk (show w9_.heap[g1]? = some (.cells #[.int .i64 a0_0, .int .i64 a0_1, .int .i64 a0_2, .int .i64 a0_3, .int .i64 a0_4, .int .i64 a0_5, .int .i64 a0_6, .string a0_7, .slice A0_8 l0_8.length c0_8, .int .i64 a0_9] 29 (0, 0)) from hk _ _ _ GN1.out (by decide) BK1.out)
  have n1_ := Aside0.mk (hp)
  have n3_ := Aside0.mk (hb)
  clear BK1 HP HB
  have BK1 := n0_
  have HP := n1_
  have HB := n3_
  clear n0_ n1_ n3_
  clear hp hb hk
  refine hK.out _ _ ((blk_cell BK1.out 0).trans rfl) (fun hHeld => ?_)
  clear hK K
  refine norm_ (a' := ?_) ?_ ?_
  rotate_left
  · show Act.put _ (some 30) _ = _
    simp only [Act.put, List.setIfInBounds_toArray, List.set_cons_zero, List.set_cons_succ, i64_w, i32_w]
    rfl
  refine done_ (done_of HT_.out (by kernel_rfl)) ?_
  have hz0 := (blk_cell BK1.out 0).trans rfl
  have hz1 := (blk_cell BK1.out 1).trans rfl
  have hz2 := (blk_cell BK1.out 2).trans rfl
  have hz3 := (blk_cell BK1.out 3).trans rfl
  have hz4 := (blk_cell BK1.out 4).trans rfl
  have hz5 := (blk_cell BK1.out 5).trans rfl
  have hz6 := (blk_cell BK1.out 6).trans rfl
  have hz7 := (blk_cell BK1.out 7).trans rfl
  have hz8 := (blk_cell BK1.out 8).trans rfl
  have hz9 := (blk_cell BK1.out 9).trans rfl
  go_upto_region 8 with (fail)
  (try clear hz0 hz1 hz2 hz3 hz4 hz5 hz6 hz7 hz8 hz9)
  have n0_ := Aside0.mk (show w9_.drew.heap[g1]? = some (.cells #[.int .i64 a0_0, .int .i64 a0_1, .int .i64 a0_2, .int .i64 a0_3, .int .i64 a0_4, .int .i64 a0_5, .int .i64 a0_6, .string a0_7, .slice A0_8 l0_8.length c0_8, .int .i64 a0_9] 29 (0, 0)) from blk_drew BK1.out)
  have n1_ := Aside0.mk (HP.out.drew)
  have n3_ := Aside0.mk (below_drew1 HB.out)
  clear BK1 HP HB
  have BK1 := n0_
  have HP := n1_
  have HB := n3_
  clear n0_ n1_ n3_
  refine start_ (n := 9) (S := fun w' => w'.cell? ⟨g1, 1, none⟩ = some (.int .i64 a0_1) ∧ w'.cell? ⟨g1, 2, none⟩ = some (.int .i64 a0_2)) (ds := []) #[false, false, false, false, false, false, false, false, false] (by kernel_rfl) rfl rfl ⟨(blk_cell BK1.out 1).trans rfl, (blk_cell BK1.out 2).trans rfl⟩ (fun hHeld => ?_); refine with_tabW answerPack.tab8 answerPack.bits8 (fun HT_ HW_ => ?_)
  generalize w9_.drew = w10_ at BK1 HB HP hHeld ⊢
  refine pure_ (i := 0) (N := some 31) (v := ?_) (a' := ?_) #[true, false, false, false, false, false, false, false, false] rfl rfl (any_of HT_.out (by kernel_rfl)) (fun _ _ _ h => h) (Or.inl ⟨by rfl, ?_⟩) ?_ ?_
  rotate_left
  · intro w'
    go_simp
    with_reducible rfl
  rotate_left
  · simp only [Act.put, List.setIfInBounds_toArray, List.set_cons_zero, List.set_cons_succ, i64_w, i32_w]
    rfl
  refine pure_ (i := 1) (N := some 32) (v := ?_) (a' := ?_) #[true, true, false, false, false, false, false, false, false] rfl rfl (any_of HT_.out (by kernel_rfl)) (fun _ _ _ h => h) (Or.inl ⟨by rfl, ?_⟩) ?_ ?_
  rotate_left
  · intro w'
    go_simp
    with_reducible rfl
  rotate_left
  · simp only [Act.put, List.setIfInBounds_toArray, List.set_cons_zero, List.set_cons_succ, i64_w, i32_w]
    rfl
  refine pure_ (i := 4) (N := some 35) (v := ?_) (a' := ?_) #[true, true, false, false, true, false, false, false, false] rfl rfl (any_of HT_.out (by kernel_rfl)) (fun _ _ _ h => h) (Or.inl ⟨by rfl, ?_⟩) ?_ ?_
  rotate_left
  · intro w'
    go_simp
    with_reducible rfl
  rotate_left
  · simp only [Act.put, List.setIfInBounds_toArray, List.set_cons_zero, List.set_cons_succ, i64_w, i32_w]
    rfl
  refine pure_ (i := 6) (N := some 37) (v := ?_) (a' := ?_) #[true, true, false, false, true, false, true, false, false] rfl rfl (any_of HT_.out (by kernel_rfl)) (fun _ _ _ h => h) (Or.inl ⟨by rfl, ?_⟩) ?_ ?_
  rotate_left
  · intro w'
    go_simp
    with_reducible rfl
  rotate_left
  · simp only [Act.put, List.setIfInBounds_toArray, List.set_cons_zero, List.set_cons_succ, i64_w, i32_w]
    rfl
  refine take_ (i := 2) (N := some 33) (v := ?_) (a' := ?_) #[true, true, true, false, true, false, true, false, false] rfl rfl (take_ofW HT_.out HW_.out (by kernel_rfl)) (fun _ _ _ h => h) (Or.inl ⟨by rfl, ?_⟩) hHeld ?_ ?_
  rotate_left
  · rintro w' ⟨s0, s1⟩
    go_simp
    with_reducible rfl
  rotate_left
  · simp only [Act.put, List.setIfInBounds_toArray, List.set_cons_zero, List.set_cons_succ, i64_w, i32_w]
    rfl
  refine take_ (i := 5) (N := some 36) (v := ?_) (a' := ?_) #[true, true, true, false, true, true, true, false, false] rfl rfl (take_ofW HT_.out HW_.out (by kernel_rfl)) (fun _ _ _ h => h) (Or.inl ⟨by rfl, ?_⟩) hHeld ?_ ?_
  rotate_left
  · rintro w' ⟨s0, s1⟩
    go_simp
    with_reducible rfl
  rotate_left
  · simp only [Act.put, List.setIfInBounds_toArray, List.set_cons_zero, List.set_cons_succ, i64_w, i32_w]
    rfl
  refine pure_ (i := 7) (N := some 38) (v := ?_) (a' := ?_) #[true, true, true, false, true, true, true, true, false] rfl rfl (any_of HT_.out (by kernel_rfl)) (fun _ _ _ h => h) (Or.inl ⟨by rfl, ?_⟩) ?_ ?_
  rotate_left
  · intro w'
    go_simp
    with_reducible rfl
  rotate_left
  · simp only [Act.put, List.setIfInBounds_toArray, List.set_cons_zero, List.set_cons_succ, i64_w, i32_w]
    rfl
  refine one_ (i := 3) (N := some 34) #[true, true, true, true, true, true, true, true, false] rfl rfl (one_of HT_.out (by kernel_rfl)) (by decide) (fun K hK => ?_)
  refine goes_ Try.func17 (by kernel_rfl) rfl #[.agg #[.int .i64 a0_1, .int .i64 a0_2]] (by rfl) rfl rfl (by (try simp only [List.map_toArray, List.map_cons, List.map_nil]); first | done | rfl) ?_
  refine (answer_to.calls k a0_1 a0_2 s2 _ H2.out).mono ?_
  rintro e w11_ ⟨rfl, hb⟩
  refine ⟨_, rfl, ?_⟩
  have n0_ := Aside0.mk (show w11_.heap[g1]? = some (.cells #[.int .i64 a0_0, .int .i64 a0_1, .int .i64 a0_2, .int .i64 a0_3, .int .i64 a0_4, .int .i64 a0_5, .int .i64 a0_6, .string a0_7, .slice A0_8 l0_8.length c0_8, .int .i64 a0_9] 29 (0, 0)) from blk_below BK1.out hb)
  have n1_ := Aside0.mk (HP.out.below hb)
  have n3_ := Aside0.mk (below_step HB.out hb)
  clear BK1 HP HB
  have BK1 := n0_
  have HP := n1_
  have HB := n3_
  clear n0_ n1_ n3_
  clear hb
  refine hK.out _ _ ⟨(blk_cell BK1.out 1).trans rfl, (blk_cell BK1.out 2).trans rfl⟩ (fun hHeld => ?_)
  clear hK K
  refine norm_ (a' := ?_) ?_ ?_
  rotate_left
  · show Act.put _ (some 34) _ = _
    simp only [Act.put, List.setIfInBounds_toArray, List.set_cons_zero, List.set_cons_succ, i64_w, i32_w]
    rfl
  refine one_ (i := 8) (N := some 39) #[true, true, true, true, true, true, true, true, true] rfl rfl (one_of HT_.out (by kernel_rfl)) (by decide) (fun K hK => ?_)
  refine goesV_ Try.func14 (by kernel_rfl) rfl #[.pointer (some ⟨g5, 0, none⟩)] #[.int .i64 2, .string s2, .bool (neqH a0_1 a0_2)] #[.int .i64 2, .string s2, .bool (neqH a0_1 a0_2), .pointer (some ⟨g5, 0, none⟩)] (by rfl) rfl rfl (by rfl) (by (try simp only [List.map_toArray, List.map_cons, List.map_nil]); first | done | rfl) (by rfl) ?_
  refine (put_calls 2 s2 (neqH a0_1 a0_2) HP.out HB.out (by simp only [List.length_append, List.length_nil, List.length_map]; have := putF_len 1 s1 (a0_0 != 0); have := putF_len 2 s2 (neqH a0_1 a0_2); have := putF_len 3 a (neqA a0_3 a0_4 a0_5 a0_6); have := putF_len 4 a0_7 (!a0_7.toList.isEmpty); omega)).mono ?_
  rintro e w12_ ⟨rfl, hp, hb, hk⟩
  refine ⟨_, rfl, ?_⟩
  have n0_ := Aside0.mk (show w12_.heap[g1]? = some (.cells #[.int .i64 a0_0, .int .i64 a0_1, .int .i64 a0_2, .int .i64 a0_3, .int .i64 a0_4, .int .i64 a0_5, .int .i64 a0_6, .string a0_7, .slice A0_8 l0_8.length c0_8, .int .i64 a0_9] 29 (0, 0)) from hk _ _ _ GN1.out (by decide) BK1.out)
  have n1_ := Aside0.mk (hp)
  have n3_ := Aside0.mk (hb)
  clear BK1 HP HB
  have BK1 := n0_
  have HP := n1_
  have HB := n3_
  clear n0_ n1_ n3_
  clear hp hb hk
  refine hK.out _ _ ⟨(blk_cell BK1.out 1).trans rfl, (blk_cell BK1.out 2).trans rfl⟩ (fun hHeld => ?_)
  clear hK K
  refine norm_ (a' := ?_) ?_ ?_
  rotate_left
  · show Act.put _ (some 39) _ = _
    simp only [Act.put, List.setIfInBounds_toArray, List.set_cons_zero, List.set_cons_succ, i64_w, i32_w]
    rfl
  refine done_ (done_of HT_.out (by kernel_rfl)) ?_
  have hz0 := (blk_cell BK1.out 0).trans rfl
  have hz1 := (blk_cell BK1.out 1).trans rfl
  have hz2 := (blk_cell BK1.out 2).trans rfl
  have hz3 := (blk_cell BK1.out 3).trans rfl
  have hz4 := (blk_cell BK1.out 4).trans rfl
  have hz5 := (blk_cell BK1.out 5).trans rfl
  have hz6 := (blk_cell BK1.out 6).trans rfl
  have hz7 := (blk_cell BK1.out 7).trans rfl
  have hz8 := (blk_cell BK1.out 8).trans rfl
  have hz9 := (blk_cell BK1.out 9).trans rfl
  go_upto_region 11 with (first | (go_at_call 14; (with_reducible refine (put_calls 3 a (neqA a0_3 a0_4 a0_5 a0_6) HP.out HB.out (by simp only [List.length_append, List.length_nil, List.length_map]; have := putF_len 1 s1 (a0_0 != 0); have := putF_len 2 s2 (neqH a0_1 a0_2); have := putF_len 3 a (neqA a0_3 a0_4 a0_5 a0_6); have := putF_len 4 a0_7 (!a0_7.toList.isEmpty); omega)).mono ?_); rintro e_ w13_ ⟨rfl, hp, hb, hk⟩; (try clear hz0 hz1 hz2 hz3 hz4 hz5 hz6 hz7 hz8 hz9); have n0_ := Aside0.mk (show w13_.heap[g1]? = some (.cells #[.int .i64 a0_0, .int .i64 a0_1, .int .i64 a0_2, .int .i64 a0_3, .int .i64 a0_4, .int .i64 a0_5, .int .i64 a0_6, .string a0_7, .slice A0_8 l0_8.length c0_8, .int .i64 a0_9] 29 (0, 0)) from hk _ _ _ GN1.out (by decide) BK1.out); have n1_ := Aside0.mk (hp); have n3_ := Aside0.mk (hb); clear BK1 HP HB; have BK1 := n0_; have HP := n1_; have HB := n3_; clear n0_ n1_ n3_; (try clear hb hp hk); have hz0 := (blk_cell BK1.out 0).trans rfl; have hz1 := (blk_cell BK1.out 1).trans rfl; have hz2 := (blk_cell BK1.out 2).trans rfl; have hz3 := (blk_cell BK1.out 3).trans rfl; have hz4 := (blk_cell BK1.out 4).trans rfl; have hz5 := (blk_cell BK1.out 5).trans rfl; have hz6 := (blk_cell BK1.out 6).trans rfl; have hz7 := (blk_cell BK1.out 7).trans rfl; have hz8 := (blk_cell BK1.out 8).trans rfl; have hz9 := (blk_cell BK1.out 9).trans rfl) | (go_at_call 14; (with_reducible refine (put_calls 4 a0_7 (!a0_7.toList.isEmpty) HP.out HB.out (by simp only [List.length_append, List.length_nil, List.length_map]; have := putF_len 1 s1 (a0_0 != 0); have := putF_len 2 s2 (neqH a0_1 a0_2); have := putF_len 3 a (neqA a0_3 a0_4 a0_5 a0_6); have := putF_len 4 a0_7 (!a0_7.toList.isEmpty); omega)).mono ?_); rintro e_ w14_ ⟨rfl, hp, hb, hk⟩; (try clear hz0 hz1 hz2 hz3 hz4 hz5 hz6 hz7 hz8 hz9); have n0_ := Aside0.mk (show w14_.heap[g1]? = some (.cells #[.int .i64 a0_0, .int .i64 a0_1, .int .i64 a0_2, .int .i64 a0_3, .int .i64 a0_4, .int .i64 a0_5, .int .i64 a0_6, .string a0_7, .slice A0_8 l0_8.length c0_8, .int .i64 a0_9] 29 (0, 0)) from hk _ _ _ GN1.out (by decide) BK1.out); have n1_ := Aside0.mk (hp); have n3_ := Aside0.mk (hb); clear BK1 HP HB; have BK1 := n0_; have HP := n1_; have HB := n3_; clear n0_ n1_ n3_; (try clear hb hp hk); have hz0 := (blk_cell BK1.out 0).trans rfl; have hz1 := (blk_cell BK1.out 1).trans rfl; have hz2 := (blk_cell BK1.out 2).trans rfl; have hz3 := (blk_cell BK1.out 3).trans rfl; have hz4 := (blk_cell BK1.out 4).trans rfl; have hz5 := (blk_cell BK1.out 5).trans rfl; have hz6 := (blk_cell BK1.out 6).trans rfl; have hz7 := (blk_cell BK1.out 7).trans rfl; have hz8 := (blk_cell BK1.out 8).trans rfl; have hz9 := (blk_cell BK1.out 9).trans rfl))
  (try clear hz0 hz1 hz2 hz3 hz4 hz5 hz6 hz7 hz8 hz9)
  have hz8 := (blk_cell BK1.out 8).trans rfl
  go_wp2
  go_loopw [57] (fun i w' => ∃ n : Nat, n ≤ l0_8.length ∧ i = .int .i64 (n : Int) ∧ Aside0 (w'.heap[g1]? = some (.cells #[.int .i64 a0_0, .int .i64 a0_1, .int .i64 a0_2, .int .i64 a0_3, .int .i64 a0_4, .int .i64 a0_5, .int .i64 a0_6, .string a0_7, .slice A0_8 l0_8.length c0_8, .int .i64 a0_9] 29 (0, 0))) ∧ Aside0 (PBox w.heap.size w' g5 (((([] ++ putF 1 s1 (a0_0 != 0)) ++ putF 2 s2 (neqH a0_1 a0_2)) ++ putF 3 a (neqA a0_3 a0_4 a0_5 a0_6)) ++ putF 4 a0_7 (!a0_7.toList.isEmpty) ++ (es.take n).map (fun v => (⟨5, v⟩ : S46)))) ∧ Aside0 (Below w.heap.size w w')) (fun i _ => ((l0_8.length : Int) - intOf i).toNat)
  case atStart => exact ⟨0, by omega, rfl, BK1, ⟨by simpa only [List.take_zero, List.map_nil, List.append_nil] using HP.out⟩, HB⟩
  case round =>
    clear BK1 HP HB hz8
    obtain ⟨m, hm1, rfl, BK1, HP, HB⟩ := hrel
    have HES2 := Aside0.mk (answer_ents.at HES.out)
    by_cases hlt : m < l0_8.length
    case pos =>
      have HLT := Aside0.mk hlt
      have d0 : decide ((m : Int) < (l0_8.length : Int)) = true := decide_eq_true (by omega)
      have d1 : decide ((0 : Int) ≤ (m : Int)) = true := decide_eq_true (by omega)
      have HW1 := Aside0.mk (show wrap64 ((m : Int) + 1) = ((m + 1 : Nat) : Int) by have := HLN.out; rw [wrap64_in (by omega) (by omega)]; omega)
      obtain ⟨x, v, hx, hv, htk⟩ : ∃ x v, l0_8[m] = x ∧ answer_ent k x = some v ∧ es.take (m + 1) = es.take m ++ [v] := by
        have hl := HES2.out.1
        have h' : m < es.length := by omega
        exact ⟨_, _, rfl, HES2.out.2 m hlt h', (take_snoc h').trans rfl⟩
      have HTK := Aside0.mk htk
      unfold answer_ent at hv
      obtain ⟨e1, he1, hv⟩ := Option.bind_eq_some_iff.1 hv
      obtain ⟨e2, he2, hv⟩ := Option.bind_eq_some_iff.1 hv
      obtain ⟨e3, he3, hv⟩ := Option.bind_eq_some_iff.1 hv
      obtain ⟨hs1, rfl⟩ := sum2_some he3
      obtain ⟨hs2, rfl⟩ := sum2_some hv
      have HE1 := Aside0.mk he1
      have HE2 := Aside0.mk he2
      have d2 : (9223372036854775807 < e1.size + e2.size) = False := eq_false (Nat.not_lt.2 hs1)
      have d3 : (9223372036854775807 < (e1 ++ e2).size + x.f0.size) = False := eq_false (Nat.not_lt.2 hs2)
      have d4 : (9223372036854775807 < e1.size + e2.size + x.f0.size) = False := by rw [ByteArray.size_append] at d3; exact d3
      clear he1 he2 he3 hv hs1 hs2 htk HES2
      obtain ⟨ad, eA, hx0, hx1, hx2, hx3⟩ := at_T52 (Kd.C_below HR0.out HB.out) (m : Int) (by omega) (by omega)
      subst eA
      rw [Int.toNat_natCast] at hx0 hx1 hx2 hx3
      have hrd : rd_T52 l0_8 (m : Int) = x := by simp [rd_T52, List.getD, hlt, hx]
      rw [hrd] at hx0 hx1 hx2 hx3
      clear hx hrd
      have HBr := Aside0.mk (Below.refl wr.heap.size wr)
      go_upto_region 14 with (first | ((with_reducible refine gate_dst (N := 10) rfl ?_); refine box_event ?hg (N := 10) ?hd (cs := #[.string ⟨#[]⟩, .int .i64 0, .int .i64 0, .int .i64 0]) (t := 52) ?hr ?_; (case hd => rfl); (case hg => rfl); (case hr => first | (go_simp; done) | (go_simp; rfl)); intro gx hg w8_ hbox hb; have BKX := Aside0.mk hbox; have GEX := Aside0.mk (below_size HBr.out |> fun h => (show _ ≤ gx from by rw [hg]; exact h)); have n1_ := Aside0.mk (below_step HBr.out hb); clear HBr; have HBr := n1_; clear n1_ hb hbox hg; have hz0 := (blk_cell BKX.out 0).trans rfl; have hf0 := blk_frozen BKX.out 0; have hz1 := (blk_cell BKX.out 1).trans rfl; have hf1 := blk_frozen BKX.out 1; have hz2 := (blk_cell BKX.out 2).trans rfl; have hf2 := blk_frozen BKX.out 2; have hz3 := (blk_cell BKX.out 3).trans rfl; have hf3 := blk_frozen BKX.out 3))
      have n0_ := Aside0.mk (show ((((w8_.setCell ⟨gx, 0, none⟩ (.string x.f0)).setCell ⟨gx, 1, none⟩ (.int .i64 x.f1)).setCell ⟨gx, 2, none⟩ (.int .i64 x.f2.f0)).setCell ⟨gx, 3, none⟩ (.int .i64 x.f2.f1)).heap[gx]? = some (.cells #[.string x.f0, .int .i64 x.f1, .int .i64 x.f2.f0, .int .i64 x.f2.f1] 52 (0, 0)) from (blk_put (cs := #[.string x.f0, .int .i64 x.f1, .int .i64 x.f2.f0, .int .i64 0]) (blk_put (cs := #[.string x.f0, .int .i64 x.f1, .int .i64 0, .int .i64 0]) (blk_put (cs := #[.string x.f0, .int .i64 0, .int .i64 0, .int .i64 0]) (blk_put (cs := #[.string ⟨#[]⟩, .int .i64 0, .int .i64 0, .int .i64 0]) BKX.out 0 (.string x.f0) rfl) 1 (.int .i64 x.f1) rfl) 2 (.int .i64 x.f2.f0) rfl) 3 (.int .i64 x.f2.f1) rfl))
      have hb := (show Below wr.heap.size wr ((((w8_.setCell ⟨gx, 0, none⟩ (.string x.f0)).setCell ⟨gx, 1, none⟩ (.int .i64 x.f1)).setCell ⟨gx, 2, none⟩ (.int .i64 x.f2.f0)).setCell ⟨gx, 3, none⟩ (.int .i64 x.f2.f1)) from (below_set (below_set (below_set (below_set HBr.out GEX.out) GEX.out) GEX.out) GEX.out))
      have n1_ := Aside0.mk (show ((((w8_.setCell ⟨gx, 0, none⟩ (.string x.f0)).setCell ⟨gx, 1, none⟩ (.int .i64 x.f1)).setCell ⟨gx, 2, none⟩ (.int .i64 x.f2.f0)).setCell ⟨gx, 3, none⟩ (.int .i64 x.f2.f1)).heap[g1]? = some (.cells #[.int .i64 a0_0, .int .i64 a0_1, .int .i64 a0_2, .int .i64 a0_3, .int .i64 a0_4, .int .i64 a0_5, .int .i64 a0_6, .string a0_7, .slice (some ad) l0_8.length c0_8, .int .i64 a0_9] 29 (0, 0)) from blk_below BK1.out hb)
      have n2_ := Aside0.mk (HP.out.below hb)
      have n3_ := Aside0.mk (below_step HB.out hb)
      have GNX := Aside0.mk (show gx ≠ g5 from by obtain ⟨_, h, _⟩ := HP.out; have := blk_lt h; have := GEX.out; omega)
      clear hlt BKX HP BK1 HB HBr hb hx0 hx1 hx2 hx3 d0 d1 hz0 hf0 hz1 hf1 hz2 hf2 hz3 hf3
      have BKX := n0_
      have BK1 := n1_
      have HP := n2_
      have HB := n3_
      clear n0_ n1_ n2_ n3_
      generalize ((((w8_.setCell ⟨gx, 0, none⟩ (.string x.f0)).setCell ⟨gx, 1, none⟩ (.int .i64 x.f1)).setCell ⟨gx, 2, none⟩ (.int .i64 x.f2.f0)).setCell ⟨gx, 3, none⟩ (.int .i64 x.f2.f1)) = w9_ at BKX BK1 HP HB ⊢
      have n0_ := Aside0.mk (show w9_.drew.heap[g1]? = some (.cells #[.int .i64 a0_0, .int .i64 a0_1, .int .i64 a0_2, .int .i64 a0_3, .int .i64 a0_4, .int .i64 a0_5, .int .i64 a0_6, .string a0_7, .slice (some ad) l0_8.length c0_8, .int .i64 a0_9] 29 (0, 0)) from blk_drew BK1.out)
      have n1_ := Aside0.mk (HP.out.drew)
      have n2_ := Aside0.mk (show w9_.drew.heap[gx]? = some (.cells #[.string x.f0, .int .i64 x.f1, .int .i64 x.f2.f0, .int .i64 x.f2.f1] 52 (0, 0)) from blk_drew BKX.out)
      have n3_ := Aside0.mk (below_drew1 HB.out)
      clear BK1 HP BKX HB
      have BK1 := n0_
      have HP := n1_
      have BKX := n2_
      have HB := n3_
      clear n0_ n1_ n2_ n3_
      refine start_ (n := 12) (S := fun w' => w'.cell? ⟨gx, 0, none⟩ = some (.string x.f0) ∧ w'.cell? ⟨gx, 1, none⟩ = some (.int .i64 x.f1) ∧ w'.cell? ⟨gx, 2, none⟩ = some (.int .i64 x.f2.f0) ∧ w'.cell? ⟨gx, 3, none⟩ = some (.int .i64 x.f2.f1)) (ds := []) #[false, false, false, false, false, false, false, false, false, false, false, false] (by kernel_rfl) rfl rfl ⟨(blk_cell BKX.out 0).trans rfl, (blk_cell BKX.out 1).trans rfl, (blk_cell BKX.out 2).trans rfl, (blk_cell BKX.out 3).trans rfl⟩ (fun hHeld => ?_); refine with_tabW answerPack.tab14 answerPack.bits14 (fun HT_ HW_ => ?_)
      generalize w9_.drew = w10_ at BK1 HB HP BKX hHeld ⊢
      refine pure_ (i := 0) (N := some 61) (v := ?_) (a' := ?_) #[true, false, false, false, false, false, false, false, false, false, false, false] rfl rfl (any_of HT_.out (by kernel_rfl)) (fun _ _ _ h => h) (Or.inl ⟨by rfl, ?_⟩) ?_ ?_
      rotate_left
      · intro w'
        go_simp
        with_reducible rfl
      rotate_left
      · simp only [Act.put, List.setIfInBounds_toArray, List.set_cons_zero, List.set_cons_succ, i64_w, i32_w]
        rfl
      refine pure_ (i := 1) (N := some 62) (v := ?_) (a' := ?_) #[true, true, false, false, false, false, false, false, false, false, false, false] rfl rfl (any_of HT_.out (by kernel_rfl)) (fun _ _ _ h => h) (Or.inl ⟨by rfl, ?_⟩) ?_ ?_
      rotate_left
      · intro w'
        go_simp
        with_reducible rfl
      rotate_left
      · simp only [Act.put, List.setIfInBounds_toArray, List.set_cons_zero, List.set_cons_succ, i64_w, i32_w]
        rfl
      refine pure_ (i := 4) (N := some 65) (v := ?_) (a' := ?_) #[true, true, false, false, true, false, false, false, false, false, false, false] rfl rfl (any_of HT_.out (by kernel_rfl)) (fun _ _ _ h => h) (Or.inl ⟨by rfl, ?_⟩) ?_ ?_
      rotate_left
      · intro w'
        go_simp
        with_reducible rfl
      rotate_left
      · simp only [Act.put, List.setIfInBounds_toArray, List.set_cons_zero, List.set_cons_succ, i64_w, i32_w]
        rfl
      refine pure_ (i := 8) (N := some 69) (v := ?_) (a' := ?_) #[true, true, false, false, true, false, false, false, true, false, false, false] rfl rfl (any_of HT_.out (by kernel_rfl)) (fun _ _ _ h => h) (Or.inl ⟨by rfl, ?_⟩) ?_ ?_
      rotate_left
      · intro w'
        go_simp
        with_reducible rfl
      rotate_left
      · simp only [Act.put, List.setIfInBounds_toArray, List.set_cons_zero, List.set_cons_succ, i64_w, i32_w]
        rfl
      refine take_ (i := 2) (N := some 63) (v := ?_) (a' := ?_) #[true, true, true, false, true, false, false, false, true, false, false, false] rfl rfl (take_ofW HT_.out HW_.out (by kernel_rfl)) (fun _ _ _ h => h) (Or.inl ⟨by rfl, ?_⟩) hHeld ?_ ?_
      rotate_left
      · rintro w' ⟨s0, s1, s2, s3⟩
        go_simp
        with_reducible rfl
      rotate_left
      · simp only [Act.put, List.setIfInBounds_toArray, List.set_cons_zero, List.set_cons_succ, i64_w, i32_w]
        rfl
      refine take_ (i := 5) (N := some 66) (v := ?_) (a' := ?_) #[true, true, true, false, true, true, false, false, true, false, false, false] rfl rfl (take_ofW HT_.out HW_.out (by kernel_rfl)) (fun _ _ _ h => h) (Or.inl ⟨by rfl, ?_⟩) hHeld ?_ ?_
      rotate_left
      · rintro w' ⟨s0, s1, s2, s3⟩
        go_simp
        with_reducible rfl
      rotate_left
      · simp only [Act.put, List.setIfInBounds_toArray, List.set_cons_zero, List.set_cons_succ, i64_w, i32_w]
        rfl
      refine take_ (i := 9) (N := some 70) (v := ?_) (a' := ?_) #[true, true, true, false, true, true, false, false, true, true, false, false] rfl rfl (take_ofW HT_.out HW_.out (by kernel_rfl)) (fun _ _ _ h => h) (Or.inl ⟨by rfl, ?_⟩) hHeld ?_ ?_
      rotate_left
      · rintro w' ⟨s0, s1, s2, s3⟩
        go_simp
        with_reducible rfl
      rotate_left
      · simp only [Act.put, List.setIfInBounds_toArray, List.set_cons_zero, List.set_cons_succ, i64_w, i32_w]
        rfl
      refine one_ (i := 3) (N := some 64) #[true, true, true, true, true, true, false, false, true, true, false, false] rfl rfl (one_of HT_.out (by kernel_rfl)) (by decide) (fun K hK => ?_)
      refine goes_ Try.func16 (by kernel_rfl) rfl #[.int .i64 x.f1, .int .i64 6] (by rfl) rfl rfl (by (try simp only [List.map_toArray, List.map_cons, List.map_nil]); first | done | rfl) ?_
      refine (answer_bytes.calls k x.f1 6 e1 _ HE1.out).mono ?_
      rintro e w11_ ⟨rfl, hb⟩
      refine ⟨_, rfl, ?_⟩
      have n0_ := Aside0.mk (show w11_.heap[g1]? = some (.cells #[.int .i64 a0_0, .int .i64 a0_1, .int .i64 a0_2, .int .i64 a0_3, .int .i64 a0_4, .int .i64 a0_5, .int .i64 a0_6, .string a0_7, .slice (some ad) l0_8.length c0_8, .int .i64 a0_9] 29 (0, 0)) from blk_below BK1.out hb)
      have n1_ := Aside0.mk (HP.out.below hb)
      have n2_ := Aside0.mk (show w11_.heap[gx]? = some (.cells #[.string x.f0, .int .i64 x.f1, .int .i64 x.f2.f0, .int .i64 x.f2.f1] 52 (0, 0)) from blk_below BKX.out hb)
      have n3_ := Aside0.mk (below_step HB.out hb)
      clear BK1 HP BKX HB
      have BK1 := n0_
      have HP := n1_
      have BKX := n2_
      have HB := n3_
      clear n0_ n1_ n2_ n3_
      clear hb
      refine hK.out _ _ ⟨(blk_cell BKX.out 0).trans rfl, (blk_cell BKX.out 1).trans rfl, (blk_cell BKX.out 2).trans rfl, (blk_cell BKX.out 3).trans rfl⟩ (fun hHeld => ?_)
      clear hK K
      refine norm_ (a' := ?_) ?_ ?_
      rotate_left
      · show Act.put _ (some 64) _ = _
        simp only [Act.put, List.setIfInBounds_toArray, List.set_cons_zero, List.set_cons_succ, i64_w, i32_w]
        rfl
      refine one_ (i := 6) (N := some 67) #[true, true, true, true, true, true, true, false, true, true, false, false] rfl rfl (one_of HT_.out (by kernel_rfl)) (by decide) (fun K hK => ?_)
      refine goes_ Try.func17 (by kernel_rfl) rfl #[.agg #[.int .i64 x.f2.f0, .int .i64 x.f2.f1]] (by rfl) rfl rfl (by (try simp only [List.map_toArray, List.map_cons, List.map_nil]); first | done | rfl) ?_
      refine (answer_to.calls k x.f2.f0 x.f2.f1 e2 _ HE2.out).mono ?_
      rintro e w12_ ⟨rfl, hb⟩
      refine ⟨_, rfl, ?_⟩
      have n0_ := Aside0.mk (show w12_.heap[g1]? = some (.cells #[.int .i64 a0_0, .int .i64 a0_1, .int .i64 a0_2, .int .i64 a0_3, .int .i64 a0_4, .int .i64 a0_5, .int .i64 a0_6, .string a0_7, .slice (some ad) l0_8.length c0_8, .int .i64 a0_9] 29 (0, 0)) from blk_below BK1.out hb)
      have n1_ := Aside0.mk (HP.out.below hb)
      have n2_ := Aside0.mk (show w12_.heap[gx]? = some (.cells #[.string x.f0, .int .i64 x.f1, .int .i64 x.f2.f0, .int .i64 x.f2.f1] 52 (0, 0)) from blk_below BKX.out hb)
      have n3_ := Aside0.mk (below_step HB.out hb)
      clear BK1 HP BKX HB
      have BK1 := n0_
      have HP := n1_
      have BKX := n2_
      have HB := n3_
      clear n0_ n1_ n2_ n3_
      clear hb
      refine hK.out _ _ ⟨(blk_cell BKX.out 0).trans rfl, (blk_cell BKX.out 1).trans rfl, (blk_cell BKX.out 2).trans rfl, (blk_cell BKX.out 3).trans rfl⟩ (fun hHeld => ?_)
      clear hK K
      refine norm_ (a' := ?_) ?_ ?_
      rotate_left
      · show Act.put _ (some 67) _ = _
        simp only [Act.put, List.setIfInBounds_toArray, List.set_cons_zero, List.set_cons_succ, i64_w, i32_w]
        rfl
      refine pure_ (i := 7) (N := some 68) (v := ?_) (a' := ?_) #[true, true, true, true, true, true, true, true, true, true, false, false] rfl rfl (any_of HT_.out (by kernel_rfl)) (fun _ _ _ h => h) (Or.inl ⟨by rfl, ?_⟩) ?_ ?_
      rotate_left
      · intro w'
        go_simp
        with_reducible rfl
      rotate_left
      · simp only [Act.put, List.setIfInBounds_toArray, List.set_cons_zero, List.set_cons_succ, i64_w, i32_w]
        rfl
      refine pure_ (i := 10) (N := some 71) (v := ?_) (a' := ?_) #[true, true, true, true, true, true, true, true, true, true, true, false] rfl rfl (any_of HT_.out (by kernel_rfl)) (fun _ _ _ h => h) (Or.inl ⟨by rfl, ?_⟩) ?_ ?_
      rotate_left
      · intro w'
        go_simp
        with_reducible rfl
      rotate_left
      · simp only [Act.put, List.setIfInBounds_toArray, List.set_cons_zero, List.set_cons_succ, i64_w, i32_w]
        rfl
      refine one_ (i := 11) (N := some 72) #[true, true, true, true, true, true, true, true, true, true, true, true] rfl rfl (one_of HT_.out (by kernel_rfl)) (by decide) (fun K hK => ?_)
      refine goesV_ Try.func14 (by kernel_rfl) rfl #[.pointer (some ⟨g5, 0, none⟩)] #[.int .i64 5, .string (e1 ++ e2 ++ x.f0), .bool true] #[.int .i64 5, .string (e1 ++ e2 ++ x.f0), .bool true, .pointer (some ⟨g5, 0, none⟩)] (by rfl) rfl rfl (by rfl) (by (try simp only [List.map_toArray, List.map_cons, List.map_nil]); first | done | rfl) (by rfl) ?_
      refine (put_calls 5 (e1 ++ e2 ++ x.f0) true HP.out HB.out (by have := HLT.out; have := HLN.out; simp only [List.length_append, List.length_nil, List.length_map, List.length_take]; have := putF_len 1 s1 (a0_0 != 0); have := putF_len 2 s2 (neqH a0_1 a0_2); have := putF_len 3 a (neqA a0_3 a0_4 a0_5 a0_6); have := putF_len 4 a0_7 (!a0_7.toList.isEmpty); omega)).mono ?_
      rintro e w13_ ⟨rfl, hp, hb, hk⟩
      refine ⟨_, rfl, ?_⟩
      have n0_ := Aside0.mk (show w13_.heap[g1]? = some (.cells #[.int .i64 a0_0, .int .i64 a0_1, .int .i64 a0_2, .int .i64 a0_3, .int .i64 a0_4, .int .i64 a0_5, .int .i64 a0_6, .string a0_7, .slice (some ad) l0_8.length c0_8, .int .i64 a0_9] 29 (0, 0)) from hk _ _ _ GN1.out (by decide) BK1.out)
      have n1_ := Aside0.mk (hp)
      have n2_ := Aside0.mk (show w13_.heap[gx]? = some (.cells #[.string x.f0, .int .i64 x.f1, .int .i64 x.f2.f0, .int .i64 x.f2.f1] 52 (0, 0)) from hk _ _ _ GNX.out (by decide) BKX.out)
      have n3_ := Aside0.mk (hb)
      clear BK1 HP BKX HB
      have BK1 := n0_
      have HP := n1_
      have BKX := n2_
      have HB := n3_
      clear n0_ n1_ n2_ n3_
      clear hp hb hk
      refine hK.out _ _ ⟨(blk_cell BKX.out 0).trans rfl, (blk_cell BKX.out 1).trans rfl, (blk_cell BKX.out 2).trans rfl, (blk_cell BKX.out 3).trans rfl⟩ (fun hHeld => ?_)
      clear hK K
      refine norm_ (a' := ?_) ?_ ?_
      rotate_left
      · show Act.put _ (some 72) _ = _
        simp only [Act.put, List.setIfInBounds_toArray, List.set_cons_zero, List.set_cons_succ, i64_w, i32_w]
        rfl
      refine done_ (done_of HT_.out (by kernel_rfl)) ?_
      clear d2 d3 d4
      go_wp2
      go_roundw
      case rel => exact ⟨m + 1, by have := HLT.out; omega, by rw [HW1.out], BK1, ⟨by rw [HTK.out, List.map_append, ← List.append_assoc]; exact HP.out⟩, HB⟩
      case measure => rw [HW1.out]; exact meas_n _ _ HLT.out
    case neg =>
      obtain rfl : m = l0_8.length := by omega
      have d0 : decide ((l0_8.length : Int) < (l0_8.length : Int)) = false := decide_eq_false (by omega)
      have htk : es.take l0_8.length = es := List.take_of_length_le (by have := HES2.out.1; omega)
      rw [htk] at HP
      have HEL := Aside0.mk (show es.length ≤ 100000 by have := HES2.out.1; have := HLN.out; omega)
      clear htk HES2 hm1
      have hz0 := (blk_cell BK1.out 0).trans rfl
      have hz1 := (blk_cell BK1.out 1).trans rfl
      have hz2 := (blk_cell BK1.out 2).trans rfl
      have hz3 := (blk_cell BK1.out 3).trans rfl
      have hz4 := (blk_cell BK1.out 4).trans rfl
      have hz5 := (blk_cell BK1.out 5).trans rfl
      have hz6 := (blk_cell BK1.out 6).trans rfl
      have hz7 := (blk_cell BK1.out 7).trans rfl
      have hz8 := (blk_cell BK1.out 8).trans rfl
      have hz9 := (blk_cell BK1.out 9).trans rfl
      go_upto_region 16 with (fail)
      (try clear hz0 hz1 hz2 hz3 hz4 hz5 hz6 hz7 hz8 hz9)
      (try clear d0 hlt)
      have n0_ := Aside0.mk (show wr.drew.heap[g1]? = some (.cells #[.int .i64 a0_0, .int .i64 a0_1, .int .i64 a0_2, .int .i64 a0_3, .int .i64 a0_4, .int .i64 a0_5, .int .i64 a0_6, .string a0_7, .slice A0_8 l0_8.length c0_8, .int .i64 a0_9] 29 (0, 0)) from blk_drew BK1.out)
      have n1_ := Aside0.mk (HP.out.drew)
      have n3_ := Aside0.mk (below_drew1 HB.out)
      clear BK1 HP HB
      have BK1 := n0_
      have HP := n1_
      have HB := n3_
      clear n0_ n1_ n3_
      refine start_ (n := 8) (S := fun w' => w'.cell? ⟨g1, 9, none⟩ = some (.int .i64 a0_9)) (ds := []) #[false, false, false, false, false, false, false, false] (by kernel_rfl) rfl rfl ((blk_cell BK1.out 9).trans rfl) (fun hHeld => ?_); refine with_tabW answerPack.tab16 answerPack.bits16 (fun HT_ HW_ => ?_)
      generalize wr.drew = w10_ at BK1 HB HP hHeld ⊢
      refine pure_ (i := 0) (N := some 74) (v := ?_) (a' := ?_) #[true, false, false, false, false, false, false, false] rfl rfl (any_of HT_.out (by kernel_rfl)) (fun _ _ _ h => h) (Or.inl ⟨by rfl, ?_⟩) ?_ ?_
      rotate_left
      · intro w'
        go_simp
        with_reducible rfl
      rotate_left
      · simp only [Act.put, List.setIfInBounds_toArray, List.set_cons_zero, List.set_cons_succ, i64_w, i32_w]
        rfl
      refine pure_ (i := 1) (N := some 75) (v := ?_) (a' := ?_) #[true, true, false, false, false, false, false, false] rfl rfl (any_of HT_.out (by kernel_rfl)) (fun _ _ _ h => h) (Or.inl ⟨by rfl, ?_⟩) ?_ ?_
      rotate_left
      · intro w'
        go_simp
        with_reducible rfl
      rotate_left
      · simp only [Act.put, List.setIfInBounds_toArray, List.set_cons_zero, List.set_cons_succ, i64_w, i32_w]
        rfl
      refine pure_ (i := 4) (N := some 78) (v := ?_) (a' := ?_) #[true, true, false, false, true, false, false, false] rfl rfl (any_of HT_.out (by kernel_rfl)) (fun _ _ _ h => h) (Or.inl ⟨by rfl, ?_⟩) ?_ ?_
      rotate_left
      · intro w'
        go_simp
        with_reducible rfl
      rotate_left
      · simp only [Act.put, List.setIfInBounds_toArray, List.set_cons_zero, List.set_cons_succ, i64_w, i32_w]
        rfl
      refine take_ (i := 2) (N := some 76) (v := ?_) (a' := ?_) #[true, true, true, false, true, false, false, false] rfl rfl (take_ofW HT_.out HW_.out (by kernel_rfl)) (fun _ _ _ h => h) (Or.inl ⟨by rfl, ?_⟩) hHeld ?_ ?_
      rotate_left
      · intro w' s0
        go_simp
        with_reducible rfl
      rotate_left
      · simp only [Act.put, List.setIfInBounds_toArray, List.set_cons_zero, List.set_cons_succ, i64_w, i32_w]
        rfl
      refine take_ (i := 5) (N := some 79) (v := ?_) (a' := ?_) #[true, true, true, false, true, true, false, false] rfl rfl (take_ofW HT_.out HW_.out (by kernel_rfl)) (fun _ _ _ h => h) (Or.inl ⟨by rfl, ?_⟩) hHeld ?_ ?_
      rotate_left
      · intro w' s0
        go_simp
        with_reducible rfl
      rotate_left
      · simp only [Act.put, List.setIfInBounds_toArray, List.set_cons_zero, List.set_cons_succ, i64_w, i32_w]
        rfl
      refine pure_ (i := 6) (N := some 80) (v := ?_) (a' := ?_) #[true, true, true, false, true, true, true, false] rfl rfl (any_of HT_.out (by kernel_rfl)) (fun _ _ _ h => h) (Or.inl ⟨by rfl, ?_⟩) ?_ ?_
      rotate_left
      · intro w'
        go_simp
        with_reducible rfl
      rotate_left
      · simp only [Act.put, List.setIfInBounds_toArray, List.set_cons_zero, List.set_cons_succ, i64_w, i32_w]
        rfl
      refine one_ (i := 3) (N := some 77) #[true, true, true, true, true, true, true, false] rfl rfl (one_of HT_.out (by kernel_rfl)) (by decide) (fun K hK => ?_)
      refine goes_ Try.func16 (by kernel_rfl) rfl #[.int .i64 a0_9, .int .i64 6] (by rfl) rfl rfl (by (try simp only [List.map_toArray, List.map_cons, List.map_nil]); first | done | rfl) ?_
      refine (answer_bytes.calls k a0_9 6 s6 _ H6.out).mono ?_
      rintro e w11_ ⟨rfl, hb⟩
      refine ⟨_, rfl, ?_⟩
      have n0_ := Aside0.mk (show w11_.heap[g1]? = some (.cells #[.int .i64 a0_0, .int .i64 a0_1, .int .i64 a0_2, .int .i64 a0_3, .int .i64 a0_4, .int .i64 a0_5, .int .i64 a0_6, .string a0_7, .slice A0_8 l0_8.length c0_8, .int .i64 a0_9] 29 (0, 0)) from blk_below BK1.out hb)
      have n1_ := Aside0.mk (HP.out.below hb)
      have n3_ := Aside0.mk (below_step HB.out hb)
      clear BK1 HP HB
      have BK1 := n0_
      have HP := n1_
      have HB := n3_
      clear n0_ n1_ n3_
      clear hb
      refine hK.out _ _ ((blk_cell BK1.out 9).trans rfl) (fun hHeld => ?_)
      clear hK K
      refine norm_ (a' := ?_) ?_ ?_
      rotate_left
      · show Act.put _ (some 77) _ = _
        simp only [Act.put, List.setIfInBounds_toArray, List.set_cons_zero, List.set_cons_succ, i64_w, i32_w]
        rfl
      refine one_ (i := 7) (N := some 81) #[true, true, true, true, true, true, true, true] rfl rfl (one_of HT_.out (by kernel_rfl)) (by decide) (fun K hK => ?_)
      refine goesV_ Try.func14 (by kernel_rfl) rfl #[.pointer (some ⟨g5, 0, none⟩)] #[.int .i64 6, .string s6, .bool (a0_9 != 0)] #[.int .i64 6, .string s6, .bool (a0_9 != 0), .pointer (some ⟨g5, 0, none⟩)] (by rfl) rfl rfl (by rfl) (by (try simp only [List.map_toArray, List.map_cons, List.map_nil]); first | done | rfl) (by rfl) ?_
      refine (put_calls 6 s6 (a0_9 != 0) HP.out HB.out (by have := HEL.out; simp only [List.length_append, List.length_nil, List.length_map]; have := putF_len 1 s1 (a0_0 != 0); have := putF_len 2 s2 (neqH a0_1 a0_2); have := putF_len 3 a (neqA a0_3 a0_4 a0_5 a0_6); have := putF_len 4 a0_7 (!a0_7.toList.isEmpty); omega)).mono ?_
      rintro e w12_ ⟨rfl, hp, hb, hk⟩
      refine ⟨_, rfl, ?_⟩
      have n0_ := Aside0.mk (show w12_.heap[g1]? = some (.cells #[.int .i64 a0_0, .int .i64 a0_1, .int .i64 a0_2, .int .i64 a0_3, .int .i64 a0_4, .int .i64 a0_5, .int .i64 a0_6, .string a0_7, .slice A0_8 l0_8.length c0_8, .int .i64 a0_9] 29 (0, 0)) from hk _ _ _ GN1.out (by decide) BK1.out)
      have n1_ := Aside0.mk (hp)
      have n3_ := Aside0.mk (hb)
      clear BK1 HP HB
      have BK1 := n0_
      have HP := n1_
      have HB := n3_
      clear n0_ n1_ n3_
      clear hp hb hk
      refine hK.out _ _ ((blk_cell BK1.out 9).trans rfl) (fun hHeld => ?_)
      clear hK K
      refine norm_ (a' := ?_) ?_ ?_
      rotate_left
      · show Act.put _ (some 81) _ = _
        simp only [Act.put, List.setIfInBounds_toArray, List.set_cons_zero, List.set_cons_succ, i64_w, i32_w]
        rfl
      refine done_ (done_of HT_.out (by kernel_rfl)) ?_
      obtain ⟨L, hL⟩ : ∃ L, (((([] ++ putF 1 s1 (a0_0 != 0)) ++ putF 2 s2 (neqH a0_1 a0_2)) ++ putF 3 a (neqA a0_3 a0_4 a0_5 a0_6)) ++ putF 4 a0_7 (!a0_7.toList.isEmpty) ++ es.map (fun v => (⟨5, v⟩ : S46))) ++ putF 6 s6 (a0_9 != 0) = L := ⟨_, rfl⟩
      rw [hL] at HP HPK
      clear hL
      obtain ⟨VL, hl5, hge5, hro⟩ := HP.out
      obtain ⟨Ao, co, eo⟩ := Kd.R_slice hro
      subst eo
      have HC := Aside0.mk (Kd.R_reads' hro).2
      have hz5 := (blk_cell hl5 0).trans rfl
      clear hl5 hge5 hro
      go_wp2_with (first | (go_at_call 18; (with_reducible refine (tlv_Pack.calls k Ao co _ r1 r2 _ HC.out.2 HC.out.1 HPK.out).mono ?_); rintro e_ w19_ ⟨rfl, hb⟩; have n0_ := Aside0.mk (below_step HB.out hb); clear HB; have HB := n0_; clear n0_ hb))
      go_ret2
      exact ⟨rfl, HB.out⟩
theorem answer_Pack.calls (k : Nat) (a0_0 a0_1 a0_2 a0_3 a0_4 a0_5 a0_6 : Int) (a0_7 : ByteArray) (A0_8 : Option Addr) (c0_8 : Nat) (l0_8 : List S52) (a0_9 : Int) (r1 : ByteArray) (r2 : Int) (w : World) (hr0_8 : Kd.C k52 w A0_8 l0_8.length l0_8) (hc0_8 : l0_8.length ≤ c0_8) (h : answer_Pack.f k a0_0 a0_1 a0_2 a0_3 a0_4 a0_5 a0_6 a0_7 l0_8 a0_9 = some (r1, r2)) : Calls Try.prog 6 #[.agg #[.int .i64 a0_0, .int .i64 a0_1, .int .i64 a0_2, .int .i64 a0_3, .int .i64 a0_4, .int .i64 a0_5, .int .i64 a0_6, .string a0_7, .slice A0_8 l0_8.length c0_8, .int .i64 a0_9]] w fun e_ w' => e_ = .returned (.tuple #[.string r1, .int .i64 r2]) ∧ Below w.heap.size w w' := by
  unfold answer_Pack.f at h
  obtain ⟨e, he, h⟩ := Option.bind_eq_some_iff.1 h
  by_cases h0 : e = 0
  · rw [if_pos h0] at h
    subst h0
    by_cases hln : l0_8.length ≤ 100000
    · rw [if_pos hln] at h
      obtain ⟨⟨a, ea⟩, ha, h⟩ := Option.bind_eq_some_iff.1 h
      obtain ⟨s1, hs1, h⟩ := Option.bind_eq_some_iff.1 h
      obtain ⟨s2, hs2, h⟩ := Option.bind_eq_some_iff.1 h
      obtain ⟨es, hes, h⟩ := Option.bind_eq_some_iff.1 h
      obtain ⟨s6, hs6, h⟩ := Option.bind_eq_some_iff.1 h
      exact answer_Pack.good k a0_0 a0_1 a0_2 a0_3 a0_4 a0_5 a0_6 a0_7 A0_8 c0_8 l0_8 a0_9 a s1 s2 s6 ea es r1 r2 w hr0_8 hc0_8 he hln ha hs1 hs2 hes hs6 h
    · rw [if_neg hln] at h
      cases h
  · rw [if_neg h0] at h
    simp only [Option.some.injEq, Prod.mk.injEq] at h
    obtain ⟨rfl, rfl⟩ := h
    exact answer_Pack.bad k a0_0 a0_1 a0_2 a0_3 a0_4 a0_5 a0_6 a0_7 A0_8 c0_8 l0_8 a0_9 e w hr0_8 hc0_8 he h0
end Go.Proofs.Ytbnnmbajfmodjaa.FA
