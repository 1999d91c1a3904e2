/- Written by hand (wip/tools/gen_log11.py): the law OplogPuts: what is put behind an operation is told behind it. -/
import Derived.Test.YtmapkneofccboaaHLogPut2
import Derived.Test.YtmapkneofccboaaFAsextonplainItems
namespace Go.Proofs.Ytmapkneofccboaa.FA
open Go.RowKit Go.Proofs.YtmapkneofccboaaW.PrintWords Go.Proofs.YtmapkneofccboaaW.PrintLast Go.Proofs.YtmapkneofccboaaW.PrintMore Go.Proofs.Ytmapkneofccboaa.Hand Go.Proofs.Ytmapkneofccboaa.B
set_option linter.unusedVariables false
set_option linter.unusedSimpArgs false
theorem items_l0 (l : List S30) (hl : l.length ≤ 2000000) (n : Nat) : ∀ (i k : Nat), i ≤ l.length → l.length - i = n → n < k → sextonplain_Items.l0 k l l (l.length : Int) (i : Int) = some true := by
  induction n with
  | zero =>
    intro i k hi hn hk
    obtain ⟨k, rfl⟩ : ∃ k', k = k' + 1 := ⟨k - 1, by omega⟩
    rw [sextonplain_Items.l0, if_neg (by omega)]
    simp
  | succ n ih =>
    intro i k hi hn hk
    obtain ⟨k, rfl⟩ : ∃ k', k = k' + 1 := ⟨k - 1, by omega⟩
    have hw : wrap64 ((i : Int) + 1) = ((i + 1 : Nat) : Int) := by rw [wrap64_in (by omega) (by omega)]; omega
    rw [sextonplain_Items.l0, if_pos (by omega), if_neg (by omega), if_pos (by omega), if_pos (by omega), if_pos (by omega), if_neg (by simp), hw]
    exact ih (i + 1) k (by omega) (by omega) (by omega)
theorem items_same (l : List S30) (hl : l.length ≤ 2000000) : sextonplain_Items.f (l.length + 1) l l = some true := items_l0 l hl l.length 0 _ (by omega) (by omega) (by omega)
/-- What Put leaves of a row that was made before. -/
theorem R_put {w w' : World} {N base g : Nat} {V V' v : Value} {xs : List S30} {cells : Array Value} (h : Kd.R k30 30 w base (Beside V) v xs) (hg : w.heap[g]? = some (.cells cells 58 (0, 0))) (m : LMoves N g V V' w w') : Kd.R k30 30 w' base (fun _ => True) v xs :=
  Kd.R_mono (Kd.R_move (Kd.R_bound h) (fun k hk => m.block k hk.2.2.1 (by
    obtain ⟨q, hq, c, hc⟩ := hk.2.2.2
    rw [k_E, List.mem_singleton] at hq
    subst hq
    rintro rfl
    rw [hc] at hg
    injection hg with hg
    injection hg with _ hg
    exact absurd hg (by decide)) hk.1)) (fun _ _ => trivial)
theorem R_slice2 {d : Kd S30} {e base : Nat} {ok : Nat → Prop} {w : World} {v : Value} {xs : List S30} (h : d.R e w base ok v xs) : ∃ A c, v = .slice A xs.length c ∧ xs.length ≤ c := by
  obtain ⟨A, c, h1, h2, _⟩ := Kd.R_reads h
  exact ⟨A, c, h1, h2⟩
def LogAt (w0 : World) (N g j : Nat) (w' : World) : Prop := ∃ l V, l.length ≤ j ∧ LBox 58 w' N g 0 l V (fun _ => True) ∧ Below N w0 w'
theorem LogAt.refl {w0 w' : World} {N g j} (h : LogAt w0 N g j w') : Below w'.heap.size w' w' := Below.refl _ _
theorem LogAt.below {w0 w' w1 : World} {N g j} (h : LogAt w0 N g j w') (hb : Below w'.heap.size w' w1) : LogAt w0 N g j w1 := by
  obtain ⟨l, V, h1, h2, h3⟩ := h
  exact ⟨l, V, h1, h2.below hb, ⟨hb.os.trans h3.os, hb.tape.trans h3.tape, hb.output.trans h3.output, Nat.le_trans h3.size hb.size, fun k hk => (hb.block k (Nat.lt_of_lt_of_le hk h2.hs)).trans (h3.block k hk)⟩⟩
/-- Any item is added, or refused. -/
theorem log_add_any {w0 w : World} {N g j : Nat} (h : LogAt w0 N g j w) (hj : j < 256) (x : S30) : Calls Try.prog 9 #[.pointer (some ⟨g, 0, none⟩), .agg #[.int .i64 x.f0, .int .i64 x.f1, .int .i64 x.f2, .string x.f3]] w fun e w' => (∃ a b : Int, e = .returned (.tuple #[.int .i64 a, .int .i64 b])) ∧ LogAt w0 N g (j + 1) w' := by
  obtain ⟨l, V, h1, h2, h3⟩ := h
  have keep : ∀ w', Below w.heap.size w w' → LogAt w0 N g (j + 1) w' := fun w' hb => by
    have := LogAt.below (w0 := w0) (N := N) (g := g) (j := j + 1) ⟨l, V, by omega, h2, h3⟩ hb
    exact this
  cases hr : rightB x with
  | false => exact (log_add_form (some ⟨g, 0, none⟩) x hr w).mono (by rintro e w' ⟨rfl, hb⟩; exact ⟨⟨_, _, rfl⟩, keep _ hb⟩)
  | true =>
    by_cases hv : x.f0 < viewV l
    · exact (log_add_state h2 (by omega) x hr hv).mono (by rintro e w' ⟨rfl, hb⟩; exact ⟨⟨_, _, rfl⟩, keep _ hb⟩)
    · exact (log_add_ok h2 (fun _ _ => trivial) ⟨by omega, by omega⟩ (by omega) x hr hv (by omega) (by omega)).mono (by
        rintro e w' ⟨V', rfl, hr', hm⟩
        exact ⟨⟨_, _, rfl⟩, l ++ [x], V', by simp; omega, hr', hm.below h3⟩)
theorem meas_n (a n : Nat) (h : n < a) : ((a : Int) - intOf (.int .i64 ((n + 1 : Nat) : Int))).toNat < ((a : Int) - intOf (.int .i64 (n : Int))).toNat := by simp only [intOf]; omega
def sextonlaw05_OplogPuts.f (k : Nat) (l0 : List S30) (n : Int) (l1 : List S30) : Option Bool := if l1.length ≤ 1000000 then some true else none
set_option maxHeartbeats 4000000 in
theorem oplogPuts_large (A0 : Option Addr) (c0 : Nat) (l0 : List S30) (n : Int) (A1 : Option Addr) (c1 : Nat) (l1 : List S30) (w : World) (hr0 : Kd.C k30 w A0 l0.length l0) (hc0 : l0.length ≤ c0) (hr1 : Kd.C k30 w A1 l1.length l1) (hc1 : l1.length ≤ c1) (h : (l0.length : Int) > 256) : Calls Try.prog 4 #[.slice A0 l0.length c0, .int .i64 n, .slice A1 l1.length c1] w fun e w' => e = .returned (.bool true) ∧ Below w.heap.size w w' := by
  have HB := Aside0.mk (Below.refl w.heap.size w)
  have b1 : decide ((l0.length : Int) > 256) = true := decide_eq_true h
  clear h hr0 hc0 hr1 hc1
  go_enter Try.func4, Try.ntmps4
  go_wp2_with (first | (go_at_call 7; (with_reducible refine (log_new 0 (by decide) _).mono ?_); rintro e_ w1_ ⟨g, rfl, hr, hw⟩; have HR := Aside0.mk (hr.lower HB.out.size); have n1_ := Aside0.mk (below_step HB.out hw); clear HB; have HB := n1_; clear n1_ hr hw) | (go_at_call 8; (with_reducible refine (log_two _).mono ?_); rintro e_ w2_ ⟨rfl, hw⟩; have n1_ := Aside0.mk (below_step HB.out hw); clear HB; have HB := n1_; clear n1_ hw))
  go_ret
  exact ⟨rfl, HB.out⟩
def oplogPuts.T16 : Bool × List (List Nat × List Nat) := (true, [([], []), ([], []), ([0, 1], [0, 1]), ([], []), ([], []), ([3, 4], [3, 4]), ([2, 5], [2, 5]), ([6, 6], [6]), ([7], [7]), ([7], [7]), ([8, 9, 7], [7, 8, 9]), ([7], [7]), ([10, 11, 7, 7], [7, 10, 11]), ([7, 12], [7, 12]), ([13, 12], [13]), ([14, 14], [14]), ([14, 15], [14, 15]), ([16, 15, 0, 1, 2, 3, 4, 5, 6, 7, 8, 9, 10, 11, 12, 13, 14, 15, 16], [16])])
def oplogPuts.B16 : List Nat := [0, 0, 3, 0, 0, 24, 63, 127, 255, 255, 1023, 255, 4095, 8191, 16383, 32767, 65535, 131071]
theorem oplogPuts.tab16 : rtab .any (opsOf Try.f4 16) = oplogPuts.T16 := by kernel_rfl
theorem oplogPuts.bits16 : waitsOk oplogPuts.T16.2 oplogPuts.B16 = true := by kernel_rfl
set_option maxHeartbeats 64000000 in
set_option maxRecDepth 100000 in
theorem oplogPuts_main (A0 : Option Addr) (c0 : Nat) (l0 : List S30) (n : Int) (A1 : Option Addr) (c1 : Nat) (l1 : List S30) (w : World) (hr0 : Kd.C k30 w A0 l0.length l0) (hc0 : l0.length ≤ c0) (hr1 : Kd.C k30 w A1 l1.length l1) (hc1 : l1.length ≤ c1) (h : ¬ (l0.length : Int) > 256) (hl1 : l1.length ≤ 1000000) : Calls Try.prog 4 #[.slice A0 l0.length c0, .int .i64 n, .slice A1 l1.length c1] w fun e w' => e = .returned (.bool true) ∧ Below w.heap.size w w' := by
  have HB := Aside0.mk (Below.refl w.heap.size w)
  have HL := Aside0.mk (show l0.length ≤ 256 by omega)
  have HL1 := Aside0.mk hl1
  have b1 : decide ((l0.length : Int) > 256) = false := decide_eq_false h
  have HCr := Aside0.mk hr0
  have HC := Aside0.mk hc0
  have HDr := Aside0.mk hr1
  have HD := Aside0.mk hc1
  clear h hr0 hc0 hr1 hc1 hl1
  go_enter Try.func4, Try.ntmps4
  go_wp2_with (first | (go_at_call 7; (with_reducible refine (log_new 0 (by decide) _).mono ?_); rintro e_ w1_ ⟨g, rfl, hr, hw⟩; have HR := Aside0.mk (hr.lower HB.out.size); have n1_ := Aside0.mk (below_step HB.out hw); clear HB; have HB := n1_; clear n1_ hr hw))
  clear b1
  have HH := Aside0.mk (show LogAt w w.heap.size g 0 w1_ from ⟨[], .slice none 0 0, by simp, HR.out, HB.out⟩)
  clear HR HB
  go_loopw [42] (fun i w' => ∃ n : Nat, n ≤ l0.length ∧ i = .int .i64 (n : Int) ∧ Aside0 (LogAt w w.heap.size g n w')) (fun i _ => ((l0.length : Int) - intOf i).toNat)
  case atStart => exact ⟨0, by omega, rfl, HH⟩
  case round =>
    clear HH
    obtain ⟨m, hm1, rfl, HH⟩ := hrel
    by_cases hlt : m < l0.length
    case pos =>
      have HLT := Aside0.mk hlt
      have d0 : decide ((m : Int) < (l0.length : Int)) = true := decide_eq_true (by omega)
      have d1 : decide ((0 : Int) ≤ (m : Int)) = true := decide_eq_true (by omega)
      have HW1 := Aside0.mk (show wrap64 ((m : Int) + 1) = ((m + 1 : Nat) : Int) by have := HL.out; rw [wrap64_in (by omega) (by omega)]; omega)
      obtain ⟨ad, eA, hx0, hx1, hx2, hx3⟩ := at_T30 (Kd.C_below HCr.out HH.out.choose_spec.choose_spec.2.2) (m : Int) (by omega) (by omega)
      subst eA
      rw [Int.toNat_natCast] at hx0 hx1 hx2 hx3
      obtain ⟨x, hx⟩ : ∃ t, rd_T30 l0 (m : Int) = t := ⟨_, rfl⟩
      rw [hx] at hx0 hx1 hx2 hx3
      clear hx
      have HBr := Aside0.mk HH.out.refl
      go_upto_region 7 with (first | ((with_reducible refine gate_dst (N := 10) rfl ?_); refine box_event ?hg (N := 10) ?hd (cs := #[.int .i64 0, .int .i64 0, .int .i64 0, .string ⟨#[]⟩]) (t := 30) ?hr ?_; (case hd => rfl); (case hg => rfl); (case hr => first | (go_simp; done) | (go_simp; rfl)); intro gb10 hg w8_ hbox hb; have BK10 := Aside0.mk hbox; have GE10 := Aside0.mk (below_size HBr.out |> fun h => (show _ ≤ gb10 from by rw [hg]; exact h)); have n1_ := Aside0.mk (below_step HBr.out hb); clear HBr; have HBr := n1_; clear n1_ hb hbox hg; have hz0 := (blk_cell BK10.out 0).trans rfl; have hf0 := blk_frozen BK10.out 0; have hz1 := (blk_cell BK10.out 1).trans rfl; have hf1 := blk_frozen BK10.out 1; have hz2 := (blk_cell BK10.out 2).trans rfl; have hf2 := blk_frozen BK10.out 2; have hz3 := (blk_cell BK10.out 3).trans rfl; have hf3 := blk_frozen BK10.out 3))
      have n0_ := Aside0.mk (show ((((w8_.setCell ⟨gb10, 0, none⟩ (.int .i64 x.f0)).setCell ⟨gb10, 1, none⟩ (.int .i64 x.f1)).setCell ⟨gb10, 2, none⟩ (.int .i64 x.f2)).setCell ⟨gb10, 3, none⟩ (.string x.f3)).heap[gb10]? = some (.cells #[.int .i64 x.f0, .int .i64 x.f1, .int .i64 x.f2, .string x.f3] 30 (0, 0)) from (blk_put (cs := #[.int .i64 x.f0, .int .i64 x.f1, .int .i64 x.f2, .string ⟨#[]⟩]) (blk_put (cs := #[.int .i64 x.f0, .int .i64 x.f1, .int .i64 0, .string ⟨#[]⟩]) (blk_put (cs := #[.int .i64 x.f0, .int .i64 0, .int .i64 0, .string ⟨#[]⟩]) (blk_put (cs := #[.int .i64 0, .int .i64 0, .int .i64 0, .string ⟨#[]⟩]) BK10.out 0 (.int .i64 x.f0) rfl) 1 (.int .i64 x.f1) rfl) 2 (.int .i64 x.f2) rfl) 3 (.string x.f3) rfl))
      have hbr_ := (show Below wr.heap.size wr ((((w8_.setCell ⟨gb10, 0, none⟩ (.int .i64 x.f0)).setCell ⟨gb10, 1, none⟩ (.int .i64 x.f1)).setCell ⟨gb10, 2, none⟩ (.int .i64 x.f2)).setCell ⟨gb10, 3, none⟩ (.string x.f3)) from (below_set (below_set (below_set (below_set HBr.out GE10.out) GE10.out) GE10.out) GE10.out))
      have n1_ := Aside0.mk (HH.out.below hbr_)
      clear BK10 HH HBr hbr_ hx0 hx1 hx2 hx3 d0 d1 hz0 hf0 hz1 hf1 hz2 hf2 hz3 hf3 GE10
      have BK10 := n0_
      have HH := n1_
      clear n0_ n1_
      generalize ((((w8_.setCell ⟨gb10, 0, none⟩ (.int .i64 x.f0)).setCell ⟨gb10, 1, none⟩ (.int .i64 x.f1)).setCell ⟨gb10, 2, none⟩ (.int .i64 x.f2)).setCell ⟨gb10, 3, none⟩ (.string x.f3)) = w9_ at BK10 HH ⊢
      have hz0 := (blk_cell BK10.out 0).trans rfl
      have hz1 := (blk_cell BK10.out 1).trans rfl
      have hz2 := (blk_cell BK10.out 2).trans rfl
      have hz3 := (blk_cell BK10.out 3).trans rfl
      go_wp2_with (first | (go_at_call 9; (with_reducible refine (log_add_any HH.out (by have := HLT.out; have := HL.out; omega) x).mono ?_); rintro e_ w10_ ⟨⟨ra, rb, rfl⟩, hh⟩; clear HH BK10 hz0 hz1 hz2 hz3; have HH := Aside0.mk hh; clear hh))
      go_roundw
      case rel => exact ⟨m + 1, by have := HLT.out; omega, by rw [HW1.out], HH⟩
      case measure => rw [HW1.out]; exact meas_n _ _ HLT.out
    case neg =>
      obtain rfl : m = l0.length := by omega
      have d0 : decide ((l0.length : Int) < (l0.length : Int)) = false := decide_eq_false (by omega)
      obtain ⟨lb, V, hlb, hr, hb⟩ := HH.out
      have HR := Aside0.mk hr
      have HB := Aside0.mk hb
      have HLB := Aside0.mk (show lb.length ≤ 256 by have := HL.out; omega)
      have HX := Aside0.mk (show 0 ≤ (0 : Int) ∧ (0 : Int) + (lb.length : Int) ≤ 1099511627776 by have := HLB.out; omega)
      have HD0 := Aside0.mk (show (lb.drop ((0 : Int) - 0).toNat).take (256 : Int).toNat = lb by rw [show ((0 : Int) - 0).toNat = 0 from rfl, List.drop_zero]; exact List.take_of_length_le (by have := HLB.out; simpa using this))
      clear hr hb hlb HH hm1 hlt
      go_upto_region 11 with (first | (go_at_call 15; (refine (log_behind_ok HR.out HX.out 0 256 (by have := HLB.out; omega) ⟨by omega, by omega⟩ (by decide)).mono ?_); rintro e_ w3_ ⟨v_, rfl, ho, hb⟩; rw [HD0.out] at ho; obtain ⟨A2, c2, he2, hc2⟩ := R_slice2 ho; subst he2; have HC2 := Aside0.mk hc2; have HO := Aside0.mk (show Kd.R k30 30 w3_ w.heap.size (Beside V) (.slice A2 lb.length c2) lb from Kd.R_lower (Kd.R_mono (Kd.R_bound ho) (ok' := Beside V) (fun k hk he => by have h1_ := FR_lt HR.out.hl k he.symm; have h2_ := hk.2.1; omega)) HB.out.size); have n0_ := Aside0.mk (HR.out.below hb); have n1_ := Aside0.mk (below_step HB.out hb); clear HR HB; have HR := n0_; have HB := n1_; clear n0_ n1_ ho hb hc2) | (go_at_call 16; (refine (log_put HR.out (fun _ _ => trivial) HX.out n A1 c1 l1 (Kd.C_below HDr.out HB.out) HD.out HLB.out HL1.out).mono ?_); rintro e_ w4_ ⟨ee, l2, V2, rfl, hr, hm, hor⟩; have HOR := Aside0.mk hor; have n0_ := Aside0.mk (R_put HO.out HR.out.hb hm); have n1_ := Aside0.mk (hm.below HB.out); clear HO HB HR; have HO := n0_; have HB := n1_; have HR := Aside0.mk hr; clear n0_ n1_ hr hm hor))
      have HLB2 := Aside0.mk (show l2.length ≤ 256 by
        rcases HOR.out with ⟨_, h⟩ | h
        · rw [h]; exact HLB.out
        · exact h.2.2.2.2.1)
      have HX2 := Aside0.mk (show 0 ≤ (0 : Int) ∧ (0 : Int) + (l2.length : Int) ≤ 1099511627776 by have := HLB2.out; omega)
      have HD2 := Aside0.mk (show (l2.drop ((0 : Int) - 0).toNat).take (600 : Int).toNat = l2 by rw [show ((0 : Int) - 0).toNat = 0 from rfl, List.drop_zero]; exact List.take_of_length_le (Nat.le_trans HLB2.out (by decide)))
      go_upto_region 12 with (first | (go_at_call 15; (refine (log_behind_ok HR.out HX2.out 0 600 (by have := HLB2.out; omega) ⟨by omega, by omega⟩ (by decide)).mono ?_); rintro e_ w5_ ⟨v_, rfl, ho, hb⟩; rw [HD2.out] at ho; obtain ⟨A3, c3, he3, hc3⟩ := R_slice2 ho; subst he3; have HC3 := Aside0.mk hc3; have n0_ := Aside0.mk (Kd.R_below HO.out hb); have n1_ := Aside0.mk (below_step HB.out hb); have HO2 := Aside0.mk ho; clear HO HB; have HO := n0_; have HB := n1_; clear n0_ n1_ ho hb hc3))
      rcases HOR.out with ⟨hne, hl2⟩ | ⟨rfl, hn0, hn1, hl2, _, _⟩
      · subst hl2
        have b1 : (ee == 0) = false := beq_eq_false_iff_ne.mpr hne
        have b2 : (ee != 0) = true := bne_iff_ne.mpr hne
        clear hne HOR
        go_wp2_with (first | (go_at_call 17; (with_reducible refine (sextonplain_Items.calls (l2.length + 1) A2 c2 l2 A3 c3 l2 true _ ?tc0 ?tc1 ?tc2 ?tc3 ?tc4).mono ?_); (case tc0 => exact (Kd.R_reads' HO.out).2.2); (case tc1 => exact HC2.out); (case tc2 => exact (Kd.R_reads' HO2.out).2.2); (case tc3 => exact HC3.out); (case tc4 => exact items_same l2 (by have := HLB2.out; omega)); rintro e_ w6_ ⟨rfl, hd⟩; have n1_ := Aside0.mk (below_step HB.out hd.below); clear HB HO HO2; have HB := n1_; clear n1_ hd) | (go_at_call 8; (with_reducible refine (log_two _).mono ?_); rintro e_ w2_ ⟨rfl, hw⟩; have n1_ := Aside0.mk (below_step HB.out hw); clear HB; have HB := n1_; clear n1_ hw))
        go_ret
        exact ⟨rfl, HB.out⟩
      · clear HOR
        obtain ⟨i, hi⟩ : ∃ i : Nat, n = (i : Int) := ⟨n.toNat, by omega⟩
        subst hi
        have hil : i ≤ lb.length := by omega
        rw [show ((i : Int) - 0).toNat = i by omega] at hl2
        obtain ⟨lt, hlt⟩ : ∃ lt, lt = lb.take i := ⟨_, rfl⟩
        rw [← hlt] at hl2
        have hltl : i = lt.length := by rw [hlt, List.length_take]; omega
        have hll : l2.length = i + l1.length := by rw [hl2, List.length_append, ← hltl]
        have hk1 := cutToJ A3 l2.length c3 i (by omega) HC3.out
        have hk2 := cutToJ A2 lb.length c2 i hil HC2.out
        have hk3 := cutFromI A3 l2.length c3 i (by omega) HC3.out
        obtain ⟨A4, hA4⟩ : ∃ A1, A1 = (if c3 = i then A3 else A3.map (·.add (i * 4))) := ⟨_, rfl⟩
        obtain ⟨c4, hc4⟩ : ∃ c1, c1 = c3 - i := ⟨_, rfl⟩
        rw [← hA4, ← hc4, show l2.length - i = l1.length by omega] at hk3
        have hT3 := Kd.C_take (m := i) (Kd.R_reads' HO2.out).2.2 (by omega)
        rw [show l2.take i = lt by rw [hl2]; exact List.take_left' hltl.symm] at hT3
        have hT2 := Kd.C_take (m := i) (Kd.R_reads' HO.out).2.2 hil
        rw [← hlt] at hT2
        have hT4 := Kd.C_drop (m := i) (Kd.R_reads' HO2.out).2.2 (by omega) HC3.out
        rw [show (k30).sz = 4 from rfl, ← hA4, show l2.drop i = l1 by rw [hl2]; exact List.drop_left' hltl.symm] at hT4
        have HT2 := Aside0.mk hT2
        have HT3 := Aside0.mk hT3
        have HT4 := Aside0.mk hT4
        have HCa := Aside0.mk (show i ≤ c3 by have := HC3.out; omega)
        have HCb := Aside0.mk (show i ≤ c2 by have := HC2.out; omega)
        have HCc := Aside0.mk (show l1.length ≤ c4 by have := HC3.out; omega)
        have HLt := Aside0.mk (show lt.length ≤ 2000000 by have := HLB.out; omega)
        have e1 : decide ((i : Int) < 0) = false := decide_eq_false (by omega)
        have e2 : decide ((i : Int) > (lb.length : Int)) = false := decide_eq_false (by omega)
        have e3 : ¬ lb.length < i := by omega
        have e4 : decide (lb.length < i) = false := decide_eq_false e3
        have HWs := Aside0.mk (show wrap64 ((i : Int) + (l1.length : Int)) = (l2.length : Int) by have := HLB2.out; have := HL1.out; rw [wrap64_in (by omega) (by omega)]; omega)
        clear hil hl2 hll hA4 hc4 hT2 hT3 hT4 hn0 hn1 hlt
        have HLL := Aside0.mk hltl
        have hws := HWs.out
        subst hltl
        go_upto_region 16 with (fail)
        have hdr := below_drew (Below.refl w5_.heap.size w5_)
        have n0_ := Aside0.mk (below_step HB.out hdr)
        have n2_ := Aside0.mk (Kd.C_below HT2.out hdr)
        have n3_ := Aside0.mk (Kd.C_below HT3.out hdr)
        have n4_ := Aside0.mk (Kd.C_below HT4.out hdr)
        have n5_ := Aside0.mk (Kd.C_below HDr.out (below_step HB.out hdr))
        clear HB HT2 HT3 HT4 HO HO2 HR hdr
        have HB := n0_
        have HT2 := n2_
        have HT3 := n3_
        have HT4 := n4_
        have HT1 := n5_
        clear n0_ n2_ n3_ n4_ n5_
        refine start_ (n := 18) (S := fun w' => True) (ds := []) #[false, false, false, false, false, false, false, false, false, false, false, false, false, false, false, false, false, false] (by kernel_rfl) rfl rfl trivial (fun hHeld => ?_); refine with_tabW oplogPuts.tab16 oplogPuts.bits16 (fun HT_ HW_ => ?_)
        refine pure_ (i := 0) (N := some 89) (v := ?_) (a' := ?_) #[true, false, false, false, false, false, false, false, false, false, false, false, false, false, false, false, false, false] rfl rfl (any_of HT_.out (by kernel_rfl)) (fun _ _ _ h => h) (Or.inl ⟨by rfl, ?_⟩) ?_ ?_
        rotate_left
        · intro w'
          go_simp
          with_reducible rfl
        rotate_left
        · simp only [Act.put, List.setIfInBounds_toArray, List.set_cons_zero, List.set_cons_succ, i64_w, i32_w]
          rfl
        refine pure_ (i := 1) (N := some 90) (v := ?_) (a' := ?_) #[true, true, false, false, false, false, false, false, false, false, false, false, false, false, false, false, false, false] rfl rfl (any_of HT_.out (by kernel_rfl)) (fun _ _ _ h => h) (Or.inl ⟨by rfl, ?_⟩) ?_ ?_
        rotate_left
        · intro w'
          go_simp
          with_reducible rfl
        rotate_left
        · simp only [Act.put, List.setIfInBounds_toArray, List.set_cons_zero, List.set_cons_succ, i64_w, i32_w]
          rfl
        refine pure_ (i := 2) (N := some 91) (v := ?_) (a' := ?_) #[true, true, true, false, false, false, false, false, false, false, false, false, false, false, false, false, false, false] rfl rfl (any_of HT_.out (by kernel_rfl)) (fun _ _ _ h => h) (Or.inl ⟨by rfl, ?_⟩) ?_ ?_
        rotate_left
        · intro w'
          go_simp
          with_reducible rfl
        rotate_left
        · simp only [Act.put, List.setIfInBounds_toArray, List.set_cons_zero, List.set_cons_succ, i64_w, i32_w]
          rfl
        refine pure_ (i := 3) (N := some 92) (v := ?_) (a' := ?_) #[true, true, true, true, false, false, false, false, false, false, false, false, false, false, false, false, false, false] rfl rfl (any_of HT_.out (by kernel_rfl)) (fun _ _ _ h => h) (Or.inl ⟨by rfl, ?_⟩) ?_ ?_
        rotate_left
        · intro w'
          go_simp
          with_reducible rfl
        rotate_left
        · simp only [Act.put, List.setIfInBounds_toArray, List.set_cons_zero, List.set_cons_succ, i64_w, i32_w]
          rfl
        refine pure_ (i := 4) (N := some 93) (v := ?_) (a' := ?_) #[true, true, true, true, true, false, false, false, false, false, false, false, false, false, false, false, false, false] rfl rfl (any_of HT_.out (by kernel_rfl)) (fun _ _ _ h => h) (Or.inl ⟨by rfl, ?_⟩) ?_ ?_
        rotate_left
        · intro w'
          go_simp
          with_reducible rfl
        rotate_left
        · simp only [Act.put, List.setIfInBounds_toArray, List.set_cons_zero, List.set_cons_succ, i64_w, i32_w]
          rfl
        refine pure_ (i := 5) (N := some 94) (v := ?_) (a' := ?_) #[true, true, true, true, true, true, false, false, false, false, false, false, false, false, false, false, false, false] rfl rfl (any_of HT_.out (by kernel_rfl)) (fun _ _ _ h => h) (Or.inl ⟨by rfl, ?_⟩) ?_ ?_
        rotate_left
        · intro w'
          go_simp
          with_reducible rfl
        rotate_left
        · simp only [Act.put, List.setIfInBounds_toArray, List.set_cons_zero, List.set_cons_succ, i64_w, i32_w]
          rfl
        refine one_ (i := 6) (N := some 95) #[true, true, true, true, true, true, true, false, false, false, false, false, false, false, false, false, false, false] rfl rfl (one_of HT_.out (by kernel_rfl)) (by decide) (fun K hK => ?_)
        refine goes_ Try.func17 (by kernel_rfl) rfl #[.slice A3 lt.length c3, .slice A2 lt.length c2] (by rfl) rfl rfl (by (try simp only [List.map_toArray, List.map_cons, List.map_nil]); first | done | rfl) ?_
        refine (sextonplain_Items.calls (lt.length + 1) A3 c3 lt A2 c2 lt true _ HT3.out HCa.out HT2.out HCb.out (items_same lt HLt.out)).mono ?_
        rintro e w7_ ⟨rfl, hd⟩
        refine ⟨_, rfl, ?_⟩
        have n0_ := Aside0.mk (below_step HB.out hd.below)
        have n1_ := Aside0.mk (Kd.C_below HT1.out hd.below)
        have n4_ := Aside0.mk (Kd.C_below HT4.out hd.below)
        clear HB HT1 HT4 hd
        have HB := n0_
        have HT1 := n1_
        have HT4 := n4_
        clear n0_ n1_ n4_
        refine hK.out _ _ trivial (fun hHeld => ?_)
        clear hK K
        refine norm_ (a' := ?_) ?_ ?_
        rotate_left
        · show Act.put _ (some 95) _ = _
          simp only [Act.put, List.setIfInBounds_toArray, List.set_cons_zero, List.set_cons_succ, i64_w, i32_w]
          rfl
        refine pure_ (i := 7) (N := some 96) (v := ?_) (a' := ?_) #[true, true, true, true, true, true, true, true, false, false, false, false, false, false, false, false, false, false] rfl rfl (any_of HT_.out (by kernel_rfl)) (fun _ _ _ h => h) (Or.inl ⟨by rfl, ?_⟩) ?_ ?_
        rotate_left
        · intro w'
          go_simp
          with_reducible rfl
        rotate_left
        · simp only [Act.put, List.setIfInBounds_toArray, List.set_cons_zero, List.set_cons_succ, i64_w, i32_w]
          rfl
        refine pure_ (i := 8) (N := some 97) (v := ?_) (a' := ?_) #[true, true, true, true, true, true, true, true, true, false, false, false, false, false, false, false, false, false] rfl rfl (any_of HT_.out (by kernel_rfl)) (fun _ _ _ h => h) (Or.inl ⟨by rfl, ?_⟩) ?_ ?_
        rotate_left
        · intro w'
          go_simp
          with_reducible rfl
        rotate_left
        · simp only [Act.put, List.setIfInBounds_toArray, List.set_cons_zero, List.set_cons_succ, i64_w, i32_w]
          rfl
        refine pure_ (i := 9) (N := some 98) (v := ?_) (a' := ?_) #[true, true, true, true, true, true, true, true, true, true, false, false, false, false, false, false, false, false] rfl rfl (any_of HT_.out (by kernel_rfl)) (fun _ _ _ h => h) (Or.inl ⟨by rfl, ?_⟩) ?_ ?_
        rotate_left
        · intro w'
          go_simp
          with_reducible rfl
        rotate_left
        · simp only [Act.put, List.setIfInBounds_toArray, List.set_cons_zero, List.set_cons_succ, i64_w, i32_w]
          rfl
        refine pure_ (i := 10) (N := some 99) (v := ?_) (a' := ?_) #[true, true, true, true, true, true, true, true, true, true, true, false, false, false, false, false, false, false] rfl rfl (any_of HT_.out (by kernel_rfl)) (fun _ _ _ h => h) (Or.inl ⟨by rfl, ?_⟩) ?_ ?_
        rotate_left
        · intro w'
          go_simp
          with_reducible rfl
        rotate_left
        · simp only [Act.put, List.setIfInBounds_toArray, List.set_cons_zero, List.set_cons_succ, i64_w, i32_w]
          rfl
        refine pure_ (i := 11) (N := some 100) (v := ?_) (a' := ?_) #[true, true, true, true, true, true, true, true, true, true, true, true, false, false, false, false, false, false] rfl rfl (any_of HT_.out (by kernel_rfl)) (fun _ _ _ h => h) (Or.inl ⟨by rfl, ?_⟩) ?_ ?_
        rotate_left
        · intro w'
          go_simp
          with_reducible rfl
        rotate_left
        · simp only [Act.put, List.setIfInBounds_toArray, List.set_cons_zero, List.set_cons_succ, i64_w, i32_w]
          rfl
        refine one_ (i := 12) (N := some 101) #[true, true, true, true, true, true, true, true, true, true, true, true, true, false, false, false, false, false] rfl rfl (one_of HT_.out (by kernel_rfl)) (by decide) (fun K hK => ?_)
        refine goes_ Try.func17 (by kernel_rfl) rfl #[.slice A4 l1.length c4, .slice A1 l1.length c1] (by rfl) rfl rfl (by (try simp only [List.map_toArray, List.map_cons, List.map_nil]); first | done | rfl) ?_
        refine (sextonplain_Items.calls (l1.length + 1) A4 c4 l1 A1 c1 l1 true _ HT4.out HCc.out HT1.out HD.out (items_same l1 (by have := HL1.out; omega))).mono ?_
        rintro e w8_ ⟨rfl, hd⟩
        refine ⟨_, rfl, ?_⟩
        have n0_ := Aside0.mk (below_step HB.out hd.below)
        have n1_ := Aside0.mk (Kd.C_below HT1.out hd.below)
        have n4_ := Aside0.mk (Kd.C_below HT4.out hd.below)
        clear HB HT1 HT4 hd
        have HB := n0_
        have HT1 := n1_
        have HT4 := n4_
        clear n0_ n1_ n4_
        refine hK.out _ _ trivial (fun hHeld => ?_)
        clear hK K
        refine norm_ (a' := ?_) ?_ ?_
        rotate_left
        · show Act.put _ (some 101) _ = _
          simp only [Act.put, List.setIfInBounds_toArray, List.set_cons_zero, List.set_cons_succ, i64_w, i32_w]
          rfl
        refine pure_ (i := 13) (N := some 102) (v := ?_) (a' := ?_) #[true, true, true, true, true, true, true, true, true, true, true, true, true, true, false, false, false, false] rfl rfl (any_of HT_.out (by kernel_rfl)) (fun _ _ _ h => h) (Or.inl ⟨by rfl, ?_⟩) ?_ ?_
        rotate_left
        · intro w'
          go_simp
          with_reducible rfl
        rotate_left
        · simp only [Act.put, List.setIfInBounds_toArray, List.set_cons_zero, List.set_cons_succ, i64_w, i32_w]
          rfl
        refine pure_ (i := 14) (N := some 103) (v := ?_) (a' := ?_) #[true, true, true, true, true, true, true, true, true, true, true, true, true, true, true, false, false, false] rfl rfl (any_of HT_.out (by kernel_rfl)) (fun _ _ _ h => h) (Or.inl ⟨by rfl, ?_⟩) ?_ ?_
        rotate_left
        · intro w'
          go_simp
          with_reducible rfl
        rotate_left
        · simp only [Act.put, List.setIfInBounds_toArray, List.set_cons_zero, List.set_cons_succ, i64_w, i32_w]
          rfl
        refine one_ (i := 15) (N := some 104) #[true, true, true, true, true, true, true, true, true, true, true, true, true, true, true, true, false, false] rfl rfl (one_of HT_.out (by kernel_rfl)) (by decide) (fun K hK => ?_)
        refine goes_ Try.func8 (by kernel_rfl) rfl #[] (by rfl) rfl rfl (by (try simp only [List.map_toArray, List.map_cons, List.map_nil]); first | done | rfl) ?_
        refine (log_two _).mono ?_
        rintro e w9_ ⟨rfl, hw⟩
        refine ⟨_, rfl, ?_⟩
        have n0_ := Aside0.mk (below_step HB.out hw)
        clear HB hw
        have HB := n0_
        clear n0_
        refine hK.out _ _ trivial (fun hHeld => ?_)
        clear hK K
        refine norm_ (a' := ?_) ?_ ?_
        rotate_left
        · show Act.put _ (some 104) _ = _
          simp only [Act.put, List.setIfInBounds_toArray, List.set_cons_zero, List.set_cons_succ, i64_w, i32_w]
          rfl
        refine pure_ (i := 16) (N := some 105) (v := ?_) (a' := ?_) #[true, true, true, true, true, true, true, true, true, true, true, true, true, true, true, true, true, false] rfl rfl (any_of HT_.out (by kernel_rfl)) (fun _ _ _ h => h) (Or.inl ⟨by rfl, ?_⟩) ?_ ?_
        rotate_left
        · intro w'
          go_simp
          with_reducible rfl
        rotate_left
        · simp only [Act.put, List.setIfInBounds_toArray, List.set_cons_zero, List.set_cons_succ, i64_w, i32_w]
          rfl
        refine pure_ (i := 17) (N := some 6) (v := ?_) (a' := ?_) #[true, true, true, true, true, true, true, true, true, true, true, true, true, true, true, true, true, true] rfl rfl (any_of HT_.out (by kernel_rfl)) (fun _ _ _ h => h) (Or.inl ⟨by rfl, ?_⟩) ?_ ?_
        rotate_left
        · intro w'
          go_simp
          with_reducible rfl
        rotate_left
        · simp only [Act.put, List.setIfInBounds_toArray, List.set_cons_zero, List.set_cons_succ, i64_w, i32_w]
          rfl
        refine done_ (done_of HT_.out (by kernel_rfl)) ?_
        go_wp2
        go_ret
        exact ⟨rfl, HB.out⟩
theorem sextonlaw05_OplogPuts.calls (k : Nat) (A0 : Option Addr) (c0 : Nat) (l0 : List S30) (n : Int) (A1 : Option Addr) (c1 : Nat) (l1 : List S30) (r : Bool) (w : World) (hr0 : Kd.C k30 w A0 l0.length l0) (hc0 : l0.length ≤ c0) (hr1 : Kd.C k30 w A1 l1.length l1) (hc1 : l1.length ≤ c1) (h : sextonlaw05_OplogPuts.f k l0 n l1 = some r) : Calls Try.prog 4 #[.slice A0 l0.length c0, .int .i64 n, .slice A1 l1.length c1] w fun e w' => e = .returned (.bool r) ∧ Below w.heap.size w w' := by
  unfold sextonlaw05_OplogPuts.f at h
  by_cases hl : l1.length ≤ 1000000
  · rw [if_pos hl] at h
    obtain rfl : true = r := by injection h
    by_cases hb : (l0.length : Int) > 256
    · exact oplogPuts_large A0 c0 l0 n A1 c1 l1 w hr0 hc0 hr1 hc1 hb
    · exact oplogPuts_main A0 c0 l0 n A1 c1 l1 w hr0 hc0 hr1 hc1 hb hl
  · rw [if_neg hl] at h
    cases h
end Go.Proofs.Ytmapkneofccboaa.FA
