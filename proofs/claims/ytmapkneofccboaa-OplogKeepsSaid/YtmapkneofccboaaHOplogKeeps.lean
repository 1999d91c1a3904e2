/- Written by hand (wip/tools/gen_log7.py): the law OplogKeeps: an item stays under its number until it is cut or trimmed away. -/
import Derived.Test.YtmapkneofccboaaHLogCut
import Derived.Test.YtmapkneofccboaaFAEq1
import Derived.Deep.CutBlock
import Derived.Deep.DeepCutAuto
namespace Go.Proofs.Ytmapkneofccboaa.FA
open Go.RowKit Go.Proofs.YtmapkneofccboaaW.PrintWords Go.Proofs.YtmapkneofccboaaW.PrintLast Go.Proofs.YtmapkneofccboaaW.PrintMore Go.Proofs.Ytmapkneofccboaa.Hand Go.Proofs.Ytmapkneofccboaa.B
set_option linter.unusedVariables false
set_option linter.unusedSimpArgs false
attribute [local go_sem high] eqA30
/-- A log's items are those of a row behind its first ones. -/
structure Pair (w : World) (N g base : Nat) (hv : List S30) (U V : Value) : Prop where
  hu : Kd.Q k30 30 w N (Beside V) U hv
  hb : LBox 58 w N g (base : Int) (hv.drop base) V (Beside U)
  le : base ≤ hv.length
theorem Pair.refl {w : World} {N g base hv U V} (h : Pair w N g base hv U V) : Below w.heap.size w w := Below.refl _ _
theorem Pair.below {w w' : World} {N g base hv U V} (h : Pair w N g base hv U V) (hb : Below w.heap.size w w') : Pair w' N g base hv U V := ⟨Kd.Q_below h.hu hb, h.hb.below hb, h.le⟩
theorem Pair.fresh {w : World} {N g base hv U V} (h : Pair w N g base hv U V) : ∀ k, w.heap.size ≤ k → Beside U k := fun k hk he => by have := Kd.Q_lt h.hu k he.symm; omega
theorem Pair.fresh' {w : World} {N g base hv U V} (h : Pair w N g base hv U V) : ∀ k, w.heap.size ≤ k → Beside V k := fun k hk he => by have := FR_lt h.hb.hl k he.symm; omega
theorem Pair.len {w : World} {N g base hv U V} (h : Pair w N g base hv U V) : (base : Int) + ((hv.drop base).length : Int) = (hv.length : Int) := by have := h.le; rw [List.length_drop]; omega
theorem Pair.range {w : World} {N g base hv U V} (h : Pair w N g base hv U V) (hl : hv.length ≤ 201) : 0 ≤ (base : Int) ∧ (base : Int) + ((hv.drop base).length : Int) ≤ 1099511627776 := by have := h.len; omega
theorem Pair.blk {w w' : World} {N g base hv U V V'} (h : Pair w N g base hv U V) (m : LMoves N g V V' w w') {k : Nat} {cells : Array Value} (hk : w.heap[k]? = some (.cells cells 32 (0, 0))) : w'.heap[k]? = some (.cells cells 32 (0, 0)) :=
  (m.block k (blk_lt hk) (fun he => by
    have h1 := hk
    rw [he, h.hb.hb] at h1
    injection h1 with h1
    injection h1 with _ h1
    exact absurd h1 (by decide)) (FR_ne h.hb.hl hk (by decide))).trans hk
/-- What a round leaves: the row U, from the number `base` on, is the log. -/
def Held (w0 : World) (N g m base : Nat) (U : Value) (w' : World) : Prop := ∃ hv V, hv.length ≤ m ∧ Pair w' N g base hv U V ∧ Below N w0 w'
theorem meas_up (a n : Nat) (h : n < a) : ((a : Int) - intOf (.int .i64 ((n : Int) + 1))).toNat < ((a : Int) - intOf (.int .i64 (n : Int))).toNat := by simp only [intOf]; omega
theorem meas_nat (a n : Nat) (h : n < a) : ((a : Int) - intOf (.int .i64 ((n + 1 : Nat) : Int))).toNat < ((a : Int) - intOf (.int .i64 (n : Int))).toNat := by simp only [intOf]; omega
theorem cutToI (A : Option Addr) (n c j : Nat) (hj : j ≤ n) (hc : n ≤ c) : ∀ W : World, (Instr.slice 28 (.slice A n c) none (some (.int .i64 (j : Int))) none).run Try.prog W = .ok (.slice A j c) W := by
  obtain ⟨i, hi, hs⟩ := info_item_parts
  intro W
  have := cut_to (P := Try.prog) 28 30 .i64 Try.underlying28 hi A n c (j : Int) (by omega) (by omega) hc W
  rwa [Int.toNat_natCast] at this
def sextonlaw05_OplogKeeps.f (k : Nat) (l0 : List S32) : Option Bool := some true
set_option maxHeartbeats 4000000 in
theorem oplogKeeps_large (A0 : Option Addr) (c0 : Nat) (l0 : List S32) (w : World) (hr0 : Kd.C k32 w A0 l0.length l0) (hc0 : l0.length ≤ c0) (h : (l0.length : Int) > 200) : Calls Try.prog 3 #[.slice A0 l0.length c0] w fun e w' => e = .returned (.bool true) ∧ Below w.heap.size w w' := by
  have HB := Aside0.mk (Below.refl w.heap.size w)
  have b1 : decide ((l0.length : Int) > 200) = true := decide_eq_true h
  clear h hr0 hc0
  go_enter Try.func3, Try.ntmps3
  go_wp2_with (first | (go_at_call 7; (with_reducible refine (log_new 0 (by decide) _).mono ?_); rintro e_ w1_ ⟨g, rfl, hr, hw⟩; have HR := Aside0.mk (hr.lower HB.out.size); have n1_ := Aside0.mk (below_step HB.out hw); clear HB; have HB := n1_; clear n1_ hr hw) | (go_at_call 8; (with_reducible refine (log_two _).mono ?_); rintro e_ w2_ ⟨rfl, hw⟩; have n1_ := Aside0.mk (below_step HB.out hw); clear HB; have HB := n1_; clear n1_ hw))
  go_ret
  exact ⟨rfl, HB.out⟩
def oplogKeeps.T32 : Bool × List (List Nat × List Nat) := (true, [([], []), ([], []), ([0, 1], [0, 1]), ([2], [2]), ([3], [3]), ([4, 3], [3, 4]), ([3, 5], [3, 5]), ([6, 3], [6]), ([7], [7]), ([7], [7]), ([8, 9, 7], [7, 8, 9]), ([10, 7, 7], [7, 10]), ([11], [11]), ([12, 11], [11, 12]), ([13, 11, 11], [11, 13]), ([14], [14]), ([14], [14]), ([14], [14]), ([16, 17, 14], [14, 16, 17]), ([18, 14], [14, 18]), ([15, 19, 14], [14, 15, 19]), ([14, 20, 11], [11, 14, 20]), ([11, 21, 7], [7, 11, 21]), ([7, 22], [7, 22])])
def oplogKeeps.B32 : List Nat := [0, 0, 3, 7, 15, 31, 63, 127, 255, 255, 1023, 2047, 4095, 8191, 16383, 32767, 32767, 32767, 229375, 491519, 1048575, 2097151, 4194303, 8388607]
theorem oplogKeeps.tab32 : rtab .any (opsOf Try.f3 32) = oplogKeeps.T32 := by kernel_rfl
theorem oplogKeeps.bits32 : waitsOk oplogKeeps.T32.2 oplogKeeps.B32 = true := by kernel_rfl
set_option maxHeartbeats 64000000 in
set_option maxRecDepth 100000 in
theorem oplogKeeps_main (A0 : Option Addr) (c0 : Nat) (l0 : List S32) (w : World) (hr0 : Kd.C k32 w A0 l0.length l0) (hc0 : l0.length ≤ c0) (h : ¬ (l0.length : Int) > 200) : Calls Try.prog 3 #[.slice A0 l0.length c0] w fun e w' => e = .returned (.bool true) ∧ Below w.heap.size w w' := by
  have HB := Aside0.mk (Below.refl w.heap.size w)
  have HL := Aside0.mk (show l0.length ≤ 200 by omega)
  have b1 : decide ((l0.length : Int) > 200) = false := decide_eq_false h
  have HCr := Aside0.mk hr0
  have HC := Aside0.mk hc0
  clear h hr0 hc0
  go_enter Try.func3, Try.ntmps3
  go_wp2_with (first | (go_at_call 7; (with_reducible refine (log_new 0 (by decide) _).mono ?_); rintro e_ w1_ ⟨g, rfl, hr, hw⟩; have HR := Aside0.mk (hr.lower HB.out.size); have n1_ := Aside0.mk (below_step HB.out hw); clear HB; have HB := n1_; clear n1_ hr hw))
  clear b1
  have HH := Aside0.mk (show Held w w.heap.size g 0 0 (.slice none 0 0) w1_ from ⟨[], .slice none 0 0, by simp, ⟨Kd.Q_nil _ _ _ _ _, HR.out.mono (fun k _ => by simp [Beside, Value.ownBlock]), by simp⟩, HB.out⟩)
  clear HR HB
  go_loopw [5, 6, 40] (fun U b i w' => ∃ n base : Nat, n ≤ l0.length ∧ i = .int .i64 (n : Int) ∧ b = .int .i64 (base : Int) ∧ Aside0 (Held w w.heap.size g n base U w')) (fun _ _ i _ => ((l0.length : Int) - intOf i).toNat)
  case atStart => exact ⟨0, 0, by omega, rfl, rfl, HH⟩
  case round =>
    clear HH
    obtain ⟨n, base, hn1, rfl, rfl, HH⟩ := hrel
    obtain ⟨hv, V, hlv, hp, hb⟩ := HH.out
    clear HH
    have HP := Aside0.mk hp
    have HB := Aside0.mk hb
    have HLV := Aside0.mk hlv
    clear hp hb hlv
    by_cases hlt : n < l0.length
    case neg =>
      obtain rfl : n = l0.length := by omega
      have d0 : decide ((l0.length : Int) < (l0.length : Int)) = false := decide_eq_false (by omega)
      go_wp2_with (first | (go_at_call 8; (with_reducible refine (log_two _).mono ?_); rintro e_ w2_ ⟨rfl, hw⟩; have n1_ := Aside0.mk (below_step HB.out hw); clear HB; have HB := n1_; clear n1_ hw))
      go_ret
      exact ⟨rfl, HB.out⟩
    case pos =>
      have HLT := Aside0.mk hlt
      have d0 : decide ((n : Int) < (l0.length : Int)) = true := decide_eq_true (by omega)
      have d1 : decide ((0 : Int) ≤ (n : Int)) = true := decide_eq_true (by omega)
      have HW1 := Aside0.mk (show wrap64 ((n : Int) + 1) = ((n + 1 : Nat) : Int) by have := HL.out; rw [wrap64_in (by omega) (by omega)]; omega)
      obtain ⟨A, c, he, hc⟩ := Kd.Q_slice HP.out.hu
      subst he
      have HCC := Aside0.mk hc
      clear hc
      obtain ⟨ad, A7, c7, eA, hx0, hx1, hx2, hx3, hx4, hx5, hx6, hx7, _, _⟩ := at_T32 (Kd.C_below HCr.out HB.out) (n : Int) (by omega) (by omega)
      subst eA
      rw [Int.toNat_natCast] at hx0 hx1 hx2 hx3 hx4 hx5 hx6 hx7
      obtain ⟨t, ht⟩ : ∃ t, (rd_T32 l0 (n : Int)).f0 = t := ⟨_, rfl⟩
      obtain ⟨nn, hnn⟩ : ∃ t, (rd_T32 l0 (n : Int)).f1 = t := ⟨_, rfl⟩
      obtain ⟨mo, hmo⟩ : ∃ t, (rd_T32 l0 (n : Int)).f2 = t := ⟨_, rfl⟩
      obtain ⟨x, hx⟩ : ∃ t, (rd_T32 l0 (n : Int)).f3 = t := ⟨_, rfl⟩
      obtain ⟨q, hq⟩ : ∃ t, (rd_T32 l0 (n : Int)).f4.length = t := ⟨_, rfl⟩
      rw [ht] at hx0
      rw [hnn] at hx1
      rw [hmo] at hx2
      rw [hx] at hx3 hx4 hx5 hx6
      rw [hq] at hx7
      clear ht hnn hmo hx hq
      have HBr := Aside0.mk (Pair.refl HP.out)
      go_upto_block 2 with (first | ((with_reducible refine gate_dst (N := 8) rfl ?_); refine box_event ?hg (N := 8) ?hd (cs := #[.int .i64 0, .int .i64 0, .int .i64 0, .int .i64 0, .int .i64 0, .int .i64 0, .string ⟨#[]⟩, .slice none 0 0]) (t := 32) ?hr ?_; (case hd => rfl); (case hg => rfl); (case hr => first | (go_simp; done) | (go_simp; rfl)); intro gb8 hg w8_ hbox hb; have BK8 := Aside0.mk hbox; have GE8 := Aside0.mk (below_size HBr.out |> fun h => (show _ ≤ gb8 from by rw [hg]; exact h)); have n1_ := Aside0.mk (below_step HBr.out hb); clear HBr; have HBr := n1_; clear n1_ hb hbox hg; have hz0 := (blk_cell BK8.out 0).trans rfl; have hf0 := blk_frozen BK8.out 0; have hz1 := (blk_cell BK8.out 1).trans rfl; have hf1 := blk_frozen BK8.out 1; have hz2 := (blk_cell BK8.out 2).trans rfl; have hf2 := blk_frozen BK8.out 2; have hz3 := (blk_cell BK8.out 3).trans rfl; have hf3 := blk_frozen BK8.out 3; have hz4 := (blk_cell BK8.out 4).trans rfl; have hf4 := blk_frozen BK8.out 4; have hz5 := (blk_cell BK8.out 5).trans rfl; have hf5 := blk_frozen BK8.out 5; have hz6 := (blk_cell BK8.out 6).trans rfl; have hf6 := blk_frozen BK8.out 6; have hz7 := (blk_cell BK8.out 7).trans rfl; have hf7 := blk_frozen BK8.out 7))
      have n0_ := Aside0.mk (show ((((((((w8_.setCell ⟨gb8, 0, none⟩ (.int .i64 t)).setCell ⟨gb8, 1, none⟩ (.int .i64 nn)).setCell ⟨gb8, 2, none⟩ (.int .i64 mo)).setCell ⟨gb8, 3, none⟩ (.int .i64 x.f0)).setCell ⟨gb8, 4, none⟩ (.int .i64 x.f1)).setCell ⟨gb8, 5, none⟩ (.int .i64 x.f2)).setCell ⟨gb8, 6, none⟩ (.string x.f3)).setCell ⟨gb8, 7, none⟩ (.slice A7 q c7)).heap[gb8]? = some (.cells #[.int .i64 t, .int .i64 nn, .int .i64 mo, .int .i64 x.f0, .int .i64 x.f1, .int .i64 x.f2, .string x.f3, .slice A7 q c7] 32 (0, 0)) from (blk_put (cs := #[.int .i64 t, .int .i64 nn, .int .i64 mo, .int .i64 x.f0, .int .i64 x.f1, .int .i64 x.f2, .string x.f3, .slice none 0 0]) (blk_put (cs := #[.int .i64 t, .int .i64 nn, .int .i64 mo, .int .i64 x.f0, .int .i64 x.f1, .int .i64 x.f2, .string ⟨#[]⟩, .slice none 0 0]) (blk_put (cs := #[.int .i64 t, .int .i64 nn, .int .i64 mo, .int .i64 x.f0, .int .i64 x.f1, .int .i64 0, .string ⟨#[]⟩, .slice none 0 0]) (blk_put (cs := #[.int .i64 t, .int .i64 nn, .int .i64 mo, .int .i64 x.f0, .int .i64 0, .int .i64 0, .string ⟨#[]⟩, .slice none 0 0]) (blk_put (cs := #[.int .i64 t, .int .i64 nn, .int .i64 mo, .int .i64 0, .int .i64 0, .int .i64 0, .string ⟨#[]⟩, .slice none 0 0]) (blk_put (cs := #[.int .i64 t, .int .i64 nn, .int .i64 0, .int .i64 0, .int .i64 0, .int .i64 0, .string ⟨#[]⟩, .slice none 0 0]) (blk_put (cs := #[.int .i64 t, .int .i64 0, .int .i64 0, .int .i64 0, .int .i64 0, .int .i64 0, .string ⟨#[]⟩, .slice none 0 0]) (blk_put (cs := #[.int .i64 0, .int .i64 0, .int .i64 0, .int .i64 0, .int .i64 0, .int .i64 0, .string ⟨#[]⟩, .slice none 0 0]) BK8.out 0 (.int .i64 t) rfl) 1 (.int .i64 nn) rfl) 2 (.int .i64 mo) rfl) 3 (.int .i64 x.f0) rfl) 4 (.int .i64 x.f1) rfl) 5 (.int .i64 x.f2) rfl) 6 (.string x.f3) rfl) 7 (.slice A7 q c7) rfl))
      have hbr_ := (show Below wr.heap.size wr ((((((((w8_.setCell ⟨gb8, 0, none⟩ (.int .i64 t)).setCell ⟨gb8, 1, none⟩ (.int .i64 nn)).setCell ⟨gb8, 2, none⟩ (.int .i64 mo)).setCell ⟨gb8, 3, none⟩ (.int .i64 x.f0)).setCell ⟨gb8, 4, none⟩ (.int .i64 x.f1)).setCell ⟨gb8, 5, none⟩ (.int .i64 x.f2)).setCell ⟨gb8, 6, none⟩ (.string x.f3)).setCell ⟨gb8, 7, none⟩ (.slice A7 q c7)) from (below_set (below_set (below_set (below_set (below_set (below_set (below_set (below_set HBr.out GE8.out) GE8.out) GE8.out) GE8.out) GE8.out) GE8.out) GE8.out) GE8.out))
      have n1_ := Aside0.mk (HP.out.below hbr_)
      have n2_ := Aside0.mk (below_step HB.out hbr_)
      clear BK8 HP HB HBr hbr_ hx0 hx1 hx2 hx3 hx4 hx5 hx6 hx7 d0 d1 hlt hz0 hf0 hz1 hf1 hz2 hf2 hz3 hf3 hz4 hf4 hz5 hf5 hz6 hf6 hz7 hf7 GE8
      have BK8 := n0_
      have HP := n1_
      have HB := n2_
      clear n0_ n1_ n2_
      generalize ((((((((w8_.setCell ⟨gb8, 0, none⟩ (.int .i64 t)).setCell ⟨gb8, 1, none⟩ (.int .i64 nn)).setCell ⟨gb8, 2, none⟩ (.int .i64 mo)).setCell ⟨gb8, 3, none⟩ (.int .i64 x.f0)).setCell ⟨gb8, 4, none⟩ (.int .i64 x.f1)).setCell ⟨gb8, 5, none⟩ (.int .i64 x.f2)).setCell ⟨gb8, 6, none⟩ (.string x.f3)).setCell ⟨gb8, 7, none⟩ (.slice A7 q c7)) = w9_ at BK8 HP HB ⊢
      have HZ := Aside0.mk (Pair.refl HP.out)
      have hz0 := (blk_cell BK8.out 0).trans rfl
      have hz1 := (blk_cell BK8.out 1).trans rfl
      have hz2 := (blk_cell BK8.out 2).trans rfl
      have hz3 := (blk_cell BK8.out 3).trans rfl
      have hz4 := (blk_cell BK8.out 4).trans rfl
      have hz5 := (blk_cell BK8.out 5).trans rfl
      have hz6 := (blk_cell BK8.out 6).trans rfl
      go_cut [5, 6] (fun U b wc => ∃ base : Nat, b = .int .i64 (base : Int) ∧ Aside0 (Held w w.heap.size g (n + 1) base U wc))
      case first =>
        by_cases ht0 : t = 0
        case pos =>
          subst ht0
          have HRN := Aside0.mk (HP.out.range (by have := HLV.out; have := HLT.out; have := HL.out; omega))
          have HLD := Aside0.mk (show (hv.drop base).length ≤ 201 by have := HLV.out; have := HLT.out; have := HL.out; rw [List.length_drop]; omega)
          cases hr : rightB x with
          | false =>
            have HRB := Aside0.mk hr
            clear hr
            go_wp2_with (first | (go_at_call 9; (with_reducible refine (log_add_form (some ⟨g, 0, none⟩) x HRB.out _).mono ?_); rintro e_ w10_ ⟨rfl, hb⟩; have n1_ := Aside0.mk (HP.out.below hb); have n2_ := Aside0.mk (below_step HB.out hb); clear HP HB; have HP := n1_; have HB := n2_; clear n1_ n2_ hb; clear BK8; clear hz0 hz1 hz2 hz3 hz4 hz5 hz6))
            go_meet
            case rel => exact ⟨base, rfl, ⟨hv, V, Nat.le_succ_of_le HLV.out, HP.out, HB.out⟩⟩
          | true =>
            have HRB := Aside0.mk hr
            clear hr
            by_cases hvw : x.f0 < viewV (hv.drop base)
            case pos =>
              have HVW := Aside0.mk hvw
              clear hvw
              go_wp2_with (first | (go_at_call 9; (with_reducible refine (log_add_state HP.out.hb (by have := HLD.out; omega) x HRB.out HVW.out).mono ?_); rintro e_ w10_ ⟨rfl, hb⟩; have n1_ := Aside0.mk (HP.out.below hb); have n2_ := Aside0.mk (below_step HB.out hb); clear HP HB; have HP := n1_; have HB := n2_; clear n1_ n2_ hb; clear BK8; clear hz0 hz1 hz2 hz3 hz4 hz5 hz6))
              go_meet
              case rel => exact ⟨base, rfl, ⟨hv, V, Nat.le_succ_of_le HLV.out, HP.out, HB.out⟩⟩
            case neg =>
              have HVW := Aside0.mk (show ¬ x.f0 < viewV (hv.drop base) from hvw)
              have HQV := Aside0.mk (show viewV (hv.drop base) ≤ x.f0 from Int.not_lt.1 hvw)
              clear hvw
              obtain ⟨m, hm⟩ : ∃ m, m = hv.length := ⟨_, rfl⟩
              have HM := Aside0.mk hm
              rw [← hm] at HP HCC ⊢
              clear hm
              have HWm := Aside0.mk (show wrap64 ((m : Int) + 1) = (m : Int) + 1 from wrap64_in (by omega) (by have := HM.out; have := HLV.out; have := HLT.out; have := HL.out; omega))
              have HLm := Aside0.mk (show (m + 1) * 40 ≤ 140737488355328 by have := HM.out; have := HLV.out; have := HLT.out; have := HL.out; omega)
              have hwm := HWm.out
              go_wp2_with (first | (go_at_call 9; (refine (log_add_ok HP.out.hb HP.out.fresh HRN.out (by have := HLD.out; omega) x HRB.out (Int.not_lt.2 HQV.out) (by have := HLD.out; omega) (by have h_ := HP.out.len; have := HM.out; have := HLV.out; have := HLT.out; have := HL.out; omega)).mono ?_); rintro e_ w10_ ⟨V', he, hr, hmv⟩; rw [show (base : Int) + (((hv.drop base).length + 1 : Nat) : Int) = (m : Int) + 1 by have h_ := HP.out.len; rw [HM.out]; omega] at he; subst he; have n0_ := Aside0.mk (beside_moves HP.out.hu HP.out.hb.hb hmv); have n1_ := Aside0.mk hr; have n2_ := Aside0.mk (hmv.below HB.out); have n3_ := Aside0.mk (HP.out.blk hmv BK8.out); clear BK8 hz0 hz1 hz2 hz3 hz4 hz5 hz6; have BK8 := n3_; have HLE := Aside0.mk HP.out.le; clear n3_ HP HB; have HU := n0_; have HR := n1_; have HB := n2_; clear n0_ n1_ n2_ hr hmv; have hz0 := (blk_cell BK8.out 0).trans rfl; have hz1 := (blk_cell BK8.out 1).trans rfl; have hz2 := (blk_cell BK8.out 2).trans rfl; have hz3 := (blk_cell BK8.out 3).trans rfl; have hz4 := (blk_cell BK8.out 4).trans rfl; have hz5 := (blk_cell BK8.out 5).trans rfl; have hz6 := (blk_cell BK8.out 6).trans rfl) | ((with_reducible refine gate_builtin (b := .append) (xs := #[.tmp 63, .tmp 66]) rfl ?_); at_builtin; refine Kd.Q_append k30 (w0 := w10_) w.heap.size rfl (.tmp 63) (.tmp 66) 28 30 (.agg #[.int .i64 0, .int .i64 0, .int .i64 0, .string ⟨#[]⟩]) 40 rfl Try.underlying28 info30 rfl (by decide) (by omega) (.slice A m c) hv x [.int .i64 x.f0, .int .i64 x.f1, .int .i64 x.f2, .string x.f3] (Beside V') (fun _ => False) rfl rfl ?aP (fun _ hk => hk.elim) ?aF ?aO ?aB ?aS ?aL ?_; (case aP => exact k30_mkM _ _ _ _); (case aB => exact Below.refl _ _); (case aF => exact (fun k_ hk he => by have := FR_lt HR.out.hl k_ he.symm; omega)); (case aO => exact HU.out); (case aS => exact HB.out.size); (case aL => rw [← HM.out]; exact HLm.out); intro v3_ w11_ ho hb hg hat; have n1_ := Aside0.mk (HR.out.beside HU.out hg hat); have n2_ := Aside0.mk (show Below w.heap.size w w11_ from ⟨hb.os.trans HB.out.os, hb.tape.trans HB.out.tape, hb.output.trans HB.out.output, Nat.le_trans HB.out.size hb.size, fun k hk => (hb.block k hk).trans (HB.out.block k hk)⟩); have n3_ := Aside0.mk ho; clear HR HU HB BK8 hz0 hz1 hz2 hz3 hz4 hz5 hz6; have HR := n1_; have HB := n2_; have HU := n3_; clear n1_ n2_ n3_ ho hb hg hat))
              go_meet
              case rel =>
                have hd : (hv ++ [x]).drop base = hv.drop base ++ [x] := List.drop_append_of_le_length HLE.out
                refine ⟨base, rfl, ⟨hv ++ [x], V', ?_, ⟨HU.out, by rw [hd]; exact HR.out, ?_⟩, HB.out⟩⟩
                · have := HLV.out
                  simp
                  omega
                · have := HLE.out
                  simp
                  omega
        case neg =>
          have b0 : (t == 0) = false := beq_eq_false_iff_ne.mpr ht0
          clear ht0
          by_cases ht1 : t = 1
          case pos =>
            subst ht1
            have HRN := Aside0.mk (HP.out.range (by have := HLV.out; have := HLT.out; have := HL.out; omega))
            have HLD := Aside0.mk (show (hv.drop base).length ≤ 201 by have := HLV.out; have := HLT.out; have := HL.out; rw [List.length_drop]; omega)
            cases hr : rightB x with
            | false =>
              have HRB := Aside0.mk hr
              clear hr
              go_wp2_with (first | (go_at_call 9; (with_reducible refine (log_add_form (some ⟨g, 0, none⟩) x HRB.out _).mono ?_); rintro e_ w10_ ⟨rfl, hb⟩; have n1_ := Aside0.mk (HP.out.below hb); have n2_ := Aside0.mk (below_step HB.out hb); clear HP HB; have HP := n1_; have HB := n2_; clear n1_ n2_ hb; clear BK8; clear hz0 hz1 hz2 hz3 hz4 hz5 hz6))
              go_meet
              case rel => exact ⟨base, rfl, ⟨hv, V, Nat.le_succ_of_le HLV.out, HP.out, HB.out⟩⟩
            | true =>
              have HRB := Aside0.mk hr
              clear hr
              by_cases hvw : x.f0 < viewV (hv.drop base)
              case pos =>
                have HVW := Aside0.mk hvw
                clear hvw
                go_wp2_with (first | (go_at_call 9; (with_reducible refine (log_add_state HP.out.hb (by have := HLD.out; omega) x HRB.out HVW.out).mono ?_); rintro e_ w10_ ⟨rfl, hb⟩; have n1_ := Aside0.mk (HP.out.below hb); have n2_ := Aside0.mk (below_step HB.out hb); clear HP HB; have HP := n1_; have HB := n2_; clear n1_ n2_ hb; clear BK8; clear hz0 hz1 hz2 hz3 hz4 hz5 hz6))
                go_meet
                case rel => exact ⟨base, rfl, ⟨hv, V, Nat.le_succ_of_le HLV.out, HP.out, HB.out⟩⟩
              case neg =>
                have HVW := Aside0.mk (show ¬ x.f0 < viewV (hv.drop base) from hvw)
                have HQV := Aside0.mk (show viewV (hv.drop base) ≤ x.f0 from Int.not_lt.1 hvw)
                clear hvw
                obtain ⟨m, hm⟩ : ∃ m, m = hv.length := ⟨_, rfl⟩
                have HM := Aside0.mk hm
                rw [← hm] at HP HCC ⊢
                clear hm
                have HWm := Aside0.mk (show wrap64 ((m : Int) + 1) = (m : Int) + 1 from wrap64_in (by omega) (by have := HM.out; have := HLV.out; have := HLT.out; have := HL.out; omega))
                have HLm := Aside0.mk (show (m + 1) * 40 ≤ 140737488355328 by have := HM.out; have := HLV.out; have := HLT.out; have := HL.out; omega)
                have hwm := HWm.out
                go_wp2_with (first | (go_at_call 9; (refine (log_add_ok HP.out.hb HP.out.fresh HRN.out (by have := HLD.out; omega) x HRB.out (Int.not_lt.2 HQV.out) (by have := HLD.out; omega) (by have h_ := HP.out.len; have := HM.out; have := HLV.out; have := HLT.out; have := HL.out; omega)).mono ?_); rintro e_ w10_ ⟨V', he, hr, hmv⟩; rw [show (base : Int) + (((hv.drop base).length + 1 : Nat) : Int) = (m : Int) + 1 by have h_ := HP.out.len; rw [HM.out]; omega] at he; subst he; have n0_ := Aside0.mk (beside_moves HP.out.hu HP.out.hb.hb hmv); have n1_ := Aside0.mk hr; have n2_ := Aside0.mk (hmv.below HB.out); have n3_ := Aside0.mk (HP.out.blk hmv BK8.out); clear BK8 hz0 hz1 hz2 hz3 hz4 hz5 hz6; have BK8 := n3_; have HLE := Aside0.mk HP.out.le; clear n3_ HP HB; have HU := n0_; have HR := n1_; have HB := n2_; clear n0_ n1_ n2_ hr hmv; have hz0 := (blk_cell BK8.out 0).trans rfl; have hz1 := (blk_cell BK8.out 1).trans rfl; have hz2 := (blk_cell BK8.out 2).trans rfl; have hz3 := (blk_cell BK8.out 3).trans rfl; have hz4 := (blk_cell BK8.out 4).trans rfl; have hz5 := (blk_cell BK8.out 5).trans rfl; have hz6 := (blk_cell BK8.out 6).trans rfl) | ((with_reducible refine gate_builtin (b := .append) (xs := #[.tmp 63, .tmp 66]) rfl ?_); at_builtin; refine Kd.Q_append k30 (w0 := w10_) w.heap.size rfl (.tmp 63) (.tmp 66) 28 30 (.agg #[.int .i64 0, .int .i64 0, .int .i64 0, .string ⟨#[]⟩]) 40 rfl Try.underlying28 info30 rfl (by decide) (by omega) (.slice A m c) hv x [.int .i64 x.f0, .int .i64 x.f1, .int .i64 x.f2, .string x.f3] (Beside V') (fun _ => False) rfl rfl ?aP (fun _ hk => hk.elim) ?aF ?aO ?aB ?aS ?aL ?_; (case aP => exact k30_mkM _ _ _ _); (case aB => exact Below.refl _ _); (case aF => exact (fun k_ hk he => by have := FR_lt HR.out.hl k_ he.symm; omega)); (case aO => exact HU.out); (case aS => exact HB.out.size); (case aL => rw [← HM.out]; exact HLm.out); intro v3_ w11_ ho hb hg hat; have n1_ := Aside0.mk (HR.out.beside HU.out hg hat); have n2_ := Aside0.mk (show Below w.heap.size w w11_ from ⟨hb.os.trans HB.out.os, hb.tape.trans HB.out.tape, hb.output.trans HB.out.output, Nat.le_trans HB.out.size hb.size, fun k hk => (hb.block k hk).trans (HB.out.block k hk)⟩); have n3_ := Aside0.mk ho; clear HR HU HB BK8 hz0 hz1 hz2 hz3 hz4 hz5 hz6; have HR := n1_; have HB := n2_; have HU := n3_; clear n1_ n2_ n3_ ho hb hg hat))
                go_meet
                case rel =>
                  have hd : (hv ++ [x]).drop base = hv.drop base ++ [x] := List.drop_append_of_le_length HLE.out
                  refine ⟨base, rfl, ⟨hv ++ [x], V', ?_, ⟨HU.out, by rw [hd]; exact HR.out, ?_⟩, HB.out⟩⟩
                  · have := HLV.out
                    simp
                    omega
                  · have := HLE.out
                    simp
                    omega
          case neg =>
            have b1 : (t == 1) = false := beq_eq_false_iff_ne.mpr ht1
            clear ht1
            have HRN := Aside0.mk (HP.out.range (by have := HLV.out; have := HLT.out; have := HL.out; omega))
            by_cases ht2 : t = 2
            case pos =>
              subst ht2
              by_cases hc1 : nn < 0 ∨ (base : Int) + ((hv.drop base).length : Int) < nn
              case pos =>
                have HC1 := Aside0.mk hc1
                clear hc1
                go_wp2_with (first | (go_at_call 10; (refine (log_cut_bad HP.out.hb HRN.out nn (by have := HC1.out; omega)).mono ?_); rintro e_ w10_ ⟨rfl, hb⟩; have n1_ := Aside0.mk (HP.out.below hb); have n2_ := Aside0.mk (below_step HB.out hb); clear HP HB; have HP := n1_; have HB := n2_; clear n1_ n2_ hb; clear BK8; clear hz0 hz1 hz2 hz3 hz4 hz5 hz6))
                go_meet
                case rel => exact ⟨base, rfl, ⟨hv, V, Nat.le_succ_of_le HLV.out, HP.out, HB.out⟩⟩
              case neg =>
                by_cases hc2 : nn < (base : Int)
                case pos =>
                  have HC2 := Aside0.mk (show 0 ≤ nn ∧ nn < (base : Int) by omega)
                  clear hc1 hc2
                  go_wp2_with (first | (go_at_call 10; (refine (log_cut_gone HP.out.hb HRN.out nn HC2.out).mono ?_); rintro e_ w10_ ⟨rfl, hb⟩; have n1_ := Aside0.mk (HP.out.below hb); have n2_ := Aside0.mk (below_step HB.out hb); clear HP HB; have HP := n1_; have HB := n2_; clear n1_ n2_ hb; clear BK8; clear hz0 hz1 hz2 hz3 hz4 hz5 hz6))
                  go_meet
                  case rel => exact ⟨base, rfl, ⟨hv, V, Nat.le_succ_of_le HLV.out, HP.out, HB.out⟩⟩
                case neg =>
                  obtain ⟨i, hi⟩ : ∃ i : Nat, nn = (i : Int) := ⟨nn.toNat, by omega⟩
                  subst hi
                  have hlen_ := HP.out.len
                  have HIB := Aside0.mk (show base ≤ i ∧ i ≤ hv.length by omega)
                  clear hc1 hc2 hlen_
                  obtain ⟨m, hm⟩ : ∃ m, m = hv.length := ⟨_, rfl⟩
                  have HM := Aside0.mk hm
                  rw [← hm] at HP HCC ⊢
                  clear hm
                  have e1 : decide ((i : Int) < (base : Int)) = false := decide_eq_false (by have := HIB.out; omega)
                  have e2 : decide ((i : Int) > (m : Int)) = false := decide_eq_false (by have := HIB.out; have := HM.out; omega)
                  have e3 : ¬ i < base := by have := HIB.out; omega
                  have e4 : decide (i < base) = false := decide_eq_false e3
                  have e5 : ¬ m < i := by have := HIB.out; have := HM.out; omega
                  have e6 : decide (m < i) = false := decide_eq_false e5
                  have hk := cutToI A m c i (by rw [HM.out]; exact HIB.out.2) HCC.out
                  go_wp2_with (first | (go_at_call 10; (refine (log_cut_ok HP.out.hb HRN.out (i : Int) (by have h_ := HP.out.len; have := HIB.out; omega)).mono ?_); rintro e_ w10_ ⟨V', rfl, hr, hmv⟩; have n3_ := Aside0.mk (HP.out.blk hmv BK8.out); clear BK8 hz0 hz1 hz2 hz3 hz4 hz5 hz6; have BK8 := n3_; have HLE := Aside0.mk HP.out.le; have n0_ := Aside0.mk (beside_moves HP.out.hu HP.out.hb.hb hmv); have n1_ := Aside0.mk hr; have n2_ := Aside0.mk (hmv.below HB.out); clear n3_ HP HB; have HU := n0_; have HR := n1_; have HB := n2_; clear n0_ n1_ n2_ hr hmv; have hz0 := (blk_cell BK8.out 0).trans rfl; have hz1 := (blk_cell BK8.out 1).trans rfl; have hz2 := (blk_cell BK8.out 2).trans rfl; have hz3 := (blk_cell BK8.out 3).trans rfl; have hz4 := (blk_cell BK8.out 4).trans rfl; have hz5 := (blk_cell BK8.out 5).trans rfl; have hz6 := (blk_cell BK8.out 6).trans rfl))
                  go_meet
                  case rel =>
                    have ht := Kd.Q_take (m := i) HU.out HIB.out.2
                    have ho : (Value.slice A i c).ownBlock = (Value.slice A m c).ownBlock := by cases A <;> rfl
                    have hl_ : (hv.take i).length = i := by rw [List.length_take]; have := HIB.out.2; omega
                    refine ⟨base, rfl, ⟨hv.take i, V', ?_, ⟨ht, ?_, ?_⟩, HB.out⟩⟩
                    · have := HLV.out
                      have := HIB.out.2
                      omega
                    · have h1 := HR.out
                      rw [show ((i : Int) - (base : Int)).toNat = i - base by omega, ← List.drop_take] at h1
                      exact h1.mono (fun k hk_ => by unfold Beside; rw [ho]; exact hk_)
                    · rw [hl_]; exact HIB.out.1
            case neg =>
              have b2 : (t == 2) = false := beq_eq_false_iff_ne.mpr ht2
              clear ht2
              by_cases ht3 : t = 3
              case pos =>
                subst ht3
                by_cases hc0 : nn < 0
                case pos =>
                  have HC0 := Aside0.mk hc0
                  clear hc0
                  go_wp2_with (first | (go_at_call 11; (refine (log_trim_low HP.out.hb HRN.out nn HC0.out).mono ?_); rintro e_ w10_ ⟨rfl, hw⟩; have hw_ := hw.symm; clear hw; subst hw_; clear BK8; clear hz0 hz1 hz2 hz3 hz4 hz5 hz6))
                  go_meet
                  case rel => exact ⟨base, rfl, ⟨hv, V, Nat.le_succ_of_le HLV.out, HP.out, HB.out⟩⟩
                case neg =>
                  by_cases hc1 : (base : Int) + ((hv.drop base).length : Int) < nn
                  case pos =>
                    have HC1 := Aside0.mk (show 0 ≤ nn ∧ (base : Int) + ((hv.drop base).length : Int) < nn from ⟨by omega, hc1⟩)
                    clear hc0 hc1
                    go_wp2_with (first | (go_at_call 11; (refine (log_trim_high HP.out.hb HRN.out nn HC1.out.1 HC1.out.2).mono ?_); rintro e_ w10_ ⟨rfl, hb⟩; have n1_ := Aside0.mk (HP.out.below hb); have n2_ := Aside0.mk (below_step HB.out hb); clear HP HB; have HP := n1_; have HB := n2_; clear n1_ n2_ hb; clear BK8; clear hz0 hz1 hz2 hz3 hz4 hz5 hz6))
                    go_meet
                    case rel => exact ⟨base, rfl, ⟨hv, V, Nat.le_succ_of_le HLV.out, HP.out, HB.out⟩⟩
                  case neg =>
                    obtain ⟨i, hi⟩ : ∃ i : Nat, nn = (i : Int) := ⟨nn.toNat, by omega⟩
                    subst hi
                    have hlen_ := HP.out.len
                    have HI2 := Aside0.mk (show i ≤ hv.length by omega)
                    have HI3 := Aside0.mk (show (i : Int) ≤ (base : Int) + ((hv.drop base).length : Int) by omega)
                    clear hc0 hc1 hlen_
                    have e0 : decide ((i : Int) < 0) = false := decide_eq_false (by omega)
                    by_cases hb2 : (i : Int) > (base : Int)
                    case neg =>
                      obtain ⟨m, hm⟩ : ∃ m, m = hv.length := ⟨_, rfl⟩
                      have HM := Aside0.mk hm
                      rw [← hm] at HP HCC ⊢
                      clear hm
                      have e1 : decide ((i : Int) > (m : Int)) = false := decide_eq_false (by have := HI2.out; have := HM.out; omega)
                      have e5 : ¬ m < i := by have := HI2.out; have := HM.out; omega
                      have e6 : decide (m < i) = false := decide_eq_false e5
                      have e2 : decide ((i : Int) > (base : Int)) = false := decide_eq_false hb2
                      have e3 : ¬ base < i := by omega
                      have e4 : decide (base < i) = false := decide_eq_false e3
                      have HB2 := Aside0.mk (show (i : Int) ≤ (base : Int) by omega)
                      clear hb2
                      go_wp2_with (first | (go_at_call 11; (refine (log_trim_stay HP.out.hb HRN.out (i : Int) (by omega) HB2.out).mono ?_); rintro e_ w10_ ⟨rfl, hb⟩; have n0_ := Aside0.mk (blk_below BK8.out hb); have n1_ := Aside0.mk (HP.out.below hb); have n2_ := Aside0.mk (below_step HB.out hb); clear HP HB BK8 hz0 hz1 hz2 hz3 hz4 hz5 hz6; have BK8 := n0_; have HP := n1_; have HB := n2_; clear n0_ n1_ n2_ hb; have hz0 := (blk_cell BK8.out 0).trans rfl; have hz1 := (blk_cell BK8.out 1).trans rfl; have hz2 := (blk_cell BK8.out 2).trans rfl; have hz3 := (blk_cell BK8.out 3).trans rfl; have hz4 := (blk_cell BK8.out 4).trans rfl; have hz5 := (blk_cell BK8.out 5).trans rfl; have hz6 := (blk_cell BK8.out 6).trans rfl))
                      go_meet
                      case rel => exact ⟨base, rfl, ⟨hv, V, Nat.le_succ_of_le HLV.out, HP.out, HB.out⟩⟩
                    case pos =>
                      obtain ⟨m, hm⟩ : ∃ m, m = hv.length := ⟨_, rfl⟩
                      have HM := Aside0.mk hm
                      rw [← hm] at HP HCC ⊢
                      clear hm
                      have e1 : decide ((i : Int) > (m : Int)) = false := decide_eq_false (by have := HI2.out; have := HM.out; omega)
                      have e5 : ¬ m < i := by have := HI2.out; have := HM.out; omega
                      have e6 : decide (m < i) = false := decide_eq_false e5
                      have e2 : decide ((i : Int) > (base : Int)) = true := decide_eq_true hb2
                      have e3 : base < i := by omega
                      have e4 : decide (base < i) = true := decide_eq_true e3
                      have HB2 := Aside0.mk (show (base : Int) < (i : Int) ∧ (i : Int) ≤ (base : Int) + ((hv.drop base).length : Int) from ⟨hb2, HI3.out⟩)
                      have HLD := Aside0.mk (show (hv.drop base).length ≤ 1000000 by have := HLV.out; have := HLT.out; have := HL.out; rw [List.length_drop]; omega)
                      clear hb2
                      go_wp2_with (first | (go_at_call 11; (refine (log_trim_ok HP.out.hb HRN.out (i : Int) HP.out.fresh HLD.out HB2.out).mono ?_); rintro e_ w10_ ⟨V', rfl, hr, hmv⟩; have n3_ := Aside0.mk (HP.out.blk hmv BK8.out); clear BK8 hz0 hz1 hz2 hz3 hz4 hz5 hz6; have BK8 := n3_; have HLE := Aside0.mk HP.out.le; have n0_ := Aside0.mk (beside_moves HP.out.hu HP.out.hb.hb hmv); have n1_ := Aside0.mk hr; have n2_ := Aside0.mk (hmv.below HB.out); clear n3_ HP HB; have HU := n0_; have HR := n1_; have HB := n2_; clear n0_ n1_ n2_ hr hmv; have hz0 := (blk_cell BK8.out 0).trans rfl; have hz1 := (blk_cell BK8.out 1).trans rfl; have hz2 := (blk_cell BK8.out 2).trans rfl; have hz3 := (blk_cell BK8.out 3).trans rfl; have hz4 := (blk_cell BK8.out 4).trans rfl; have hz5 := (blk_cell BK8.out 5).trans rfl; have hz6 := (blk_cell BK8.out 6).trans rfl))
                      go_meet
                      case rel =>
                        refine ⟨i, rfl, ⟨hv, V', Nat.le_succ_of_le HLV.out, ⟨HU.out, ?_, HI2.out⟩, HB.out⟩⟩
                        have h1 := HR.out
                        rw [List.drop_drop, show base + ((i : Int) - (base : Int)).toNat = i by have := HB2.out; omega] at h1
                        exact h1
              case neg =>
                have b3 : (t == 3) = false := beq_eq_false_iff_ne.mpr ht3
                clear ht3
                go_wp2
                go_meet
                case rel => exact ⟨base, rfl, ⟨hv, V, Nat.le_succ_of_le HLV.out, HP.out, HB.out⟩⟩
      case rest =>
        clear HP HB BK8 HZ HLV HCC hz0 hz1 hz2 hz3 hz4 hz5 hz6
        obtain ⟨base, hb6, HH⟩ := hcut
        subst hb6
        obtain ⟨hv, V, hlv, hp, hb⟩ := HH.out
        clear HH
        obtain ⟨A, c, he, hc⟩ := Kd.Q_slice hp.hu
        subst he
        have HP := Aside0.mk hp
        have HB := Aside0.mk hb
        have HLV := Aside0.mk hlv
        have HRN := Aside0.mk (hp.range (by have := HLT.out; have := HL.out; omega))
        have HLEN := Aside0.mk hp.len
        obtain ⟨m, hm⟩ : ∃ m, m = hv.length := ⟨_, rfl⟩
        have HM := Aside0.mk hm
        rw [← hm] at HP hc ⊢
        clear hp hb hlv hm
        go_wp2
        go_loopw [115] (fun i w' => ∃ j : Nat, j ≤ m ∧ i = .int .i64 (j : Int) ∧ Aside0 (Pair w' w.heap.size g base hv (.slice A m c) V) ∧ Aside0 (Below w.heap.size w w')) (fun i _ => ((m : Int) - intOf i).toNat)
        case atStart => exact ⟨0, by omega, rfl, HP, HB⟩
        case round =>
          clear HP HB
          obtain ⟨j, hj1, rfl, HP, HB⟩ := hrel
          by_cases hlj : j < m
          case neg =>
            obtain rfl : j = m := by omega
            have d0 : decide ((j : Int) < (j : Int)) = false := decide_eq_false (by omega)
            go_wp2_with (first | (go_at_call 13; (with_reducible refine (log_last HP.out.hb HRN.out).mono ?_); rintro e_ w20_ ⟨rfl, hw⟩; rw [show (base : Int) + ((hv.drop base).length : Int) = (j : Int) by rw [HLEN.out, HM.out]]; have hdb_ := (show Below wr.heap.size wr w20_ from by rw [hw]; exact below_drew (Below.refl _ _)); have n1_ := Aside0.mk (HP.out.below hdb_); have n2_ := Aside0.mk (below_step HB.out hdb_); clear HP HB hw hdb_; have HP := n1_; have HB := n2_; clear n1_ n2_) | (go_at_call 14; (with_reducible refine (log_base' HP.out.hb).mono ?_); rintro e_ w_ ⟨rfl, rfl⟩))
            go_roundw
            case rel => exact ⟨n + 1, base, by have := HLT.out; omega, by rw [HW1.out], rfl, ⟨hv, V, HLV.out, HP.out, HB.out⟩⟩
            case measure => rw [HW1.out]; exact meas_nat _ _ HLT.out
          case pos =>
            have HLJ := Aside0.mk hlj
            have d1 : decide (j < m) = true := decide_eq_true hlj
            have d0 : decide ((j : Int) < (m : Int)) = true := decide_eq_true (by omega)
            have HWj := Aside0.mk (show wrap64 ((j : Int) + 1) = (j : Int) + 1 from wrap64_in (by omega) (by have := HM.out; have := HLV.out; have := HLT.out; have := HL.out; omega))
            have HBr := Aside0.mk (Pair.refl HP.out)
            by_cases hjb : j < base
            case pos =>
              have e1 : decide ((j : Int) < (base : Int)) = true := decide_eq_true (by omega)
              have e2 : decide ((j : Int) ≥ (base : Int)) = false := decide_eq_false (by omega)
              have HJB := Aside0.mk (show 0 < (j : Int) + 1 ∧ (j : Int) + 1 ≤ (base : Int) by omega)
              have e4 : decide (j < base) = true := decide_eq_true hjb
              have e5 : ¬ base ≤ j := by omega
              have e6 : decide (base ≤ j) = false := decide_eq_false e5
              go_upto_region 32 with (first | (go_at_call 12; rw [HWj.out]; (refine (log_get_gone HP.out.hb HRN.out ((j : Int) + 1) HJB.out).mono ?_); rintro e_ w23_ ⟨rfl, hb⟩; have n1_ := Aside0.mk (below_step HBr.out hb); clear HBr; have HBr := n1_; clear n1_ hb) | ((with_reducible refine gate_dst (N := 12) rfl ?_); refine box_event ?hg (N := 12) ?hd (cs := #[.int .i64 0, .int .i64 0, .int .i64 0, .string ⟨#[]⟩]) (t := 30) ?hr ?_; (case hd => rfl); (case hg => rfl); (case hr => first | (go_simp; done) | (go_simp; rfl)); intro gb12 hg w21_ hbox hb; have BK12 := Aside0.mk hbox; have GE12 := Aside0.mk (below_size HBr.out |> fun h => (show _ ≤ gb12 from by rw [hg]; exact h)); have n1_ := Aside0.mk (below_step HBr.out hb); clear HBr; have HBr := n1_; clear n1_ hb hbox hg; have hz0 := (blk_cell BK12.out 0).trans rfl; have hf0 := blk_frozen BK12.out 0; have hz1 := (blk_cell BK12.out 1).trans rfl; have hf1 := blk_frozen BK12.out 1; have hz2 := (blk_cell BK12.out 2).trans rfl; have hf2 := blk_frozen BK12.out 2; have hz3 := (blk_cell BK12.out 3).trans rfl; have hf3 := blk_frozen BK12.out 3))
              have n0_ := Aside0.mk (show ((((w21_.setCell ⟨gb12, 0, none⟩ (.int .i64 0)).setCell ⟨gb12, 1, none⟩ (.int .i64 0)).setCell ⟨gb12, 2, none⟩ (.int .i64 0)).setCell ⟨gb12, 3, none⟩ (.string ⟨#[]⟩)).heap[gb12]? = some (.cells #[.int .i64 0, .int .i64 0, .int .i64 0, .string ⟨#[]⟩] 30 (0, 0)) from (blk_put (cs := #[.int .i64 0, .int .i64 0, .int .i64 0, .string ⟨#[]⟩]) (blk_put (cs := #[.int .i64 0, .int .i64 0, .int .i64 0, .string ⟨#[]⟩]) (blk_put (cs := #[.int .i64 0, .int .i64 0, .int .i64 0, .string ⟨#[]⟩]) (blk_put (cs := #[.int .i64 0, .int .i64 0, .int .i64 0, .string ⟨#[]⟩]) BK12.out 0 (.int .i64 0) rfl) 1 (.int .i64 0) rfl) 2 (.int .i64 0) rfl) 3 (.string ⟨#[]⟩) rfl))
              have hbr_ := (show Below wr.heap.size wr ((((w21_.setCell ⟨gb12, 0, none⟩ (.int .i64 0)).setCell ⟨gb12, 1, none⟩ (.int .i64 0)).setCell ⟨gb12, 2, none⟩ (.int .i64 0)).setCell ⟨gb12, 3, none⟩ (.string ⟨#[]⟩)) from (below_set (below_set (below_set (below_set HBr.out GE12.out) GE12.out) GE12.out) GE12.out))
              have n1_ := Aside0.mk (HP.out.below hbr_)
              have n2_ := Aside0.mk (below_step HB.out hbr_)
              clear BK12 HP HB HBr hbr_ hz0 hf0 hz1 hf1 hz2 hf2 hz3 hf3 GE12
              have BK12 := n0_
              have HP := n1_
              have HB := n2_
              clear n0_ n1_ n2_
              generalize ((((w21_.setCell ⟨gb12, 0, none⟩ (.int .i64 0)).setCell ⟨gb12, 1, none⟩ (.int .i64 0)).setCell ⟨gb12, 2, none⟩ (.int .i64 0)).setCell ⟨gb12, 3, none⟩ (.string ⟨#[]⟩)) = w22_ at BK12 HP HB ⊢
              have n0_ := Aside0.mk (show w22_.drew.heap[gb12]? = _ from blk_drew BK12.out)
              have n1_ := Aside0.mk (HP.out.below (below_drew (Below.refl w22_.heap.size w22_)))
              have n2_ := Aside0.mk (below_step HB.out (below_drew (Below.refl w22_.heap.size w22_)))
              clear BK12 HP HB
              have BK12 := n0_
              have HP := n1_
              have HB := n2_
              clear n0_ n1_ n2_
              refine start_ (n := 24) (S := fun w' => True) (ds := []) #[false, false, false, false, false, false, false, false, false, false, false, false, false, false, false, false, false, false, false, false, false, false, false, false] (by kernel_rfl) rfl rfl trivial (fun hHeld => ?_); refine with_tabW oplogKeeps.tab32 oplogKeeps.bits32 (fun HT_ HW_ => ?_)
              refine pure_ (i := 0) (N := some 125) (v := ?_) (a' := ?_) #[true, false, false, false, false, false, false, false, false, false, false, false, false, false, false, false, false, false, false, false, false, false, false, false] rfl rfl (any_of HT_.out (by kernel_rfl)) (fun _ _ _ h => h) (Or.inl ⟨by rfl, ?_⟩) ?_ ?_
              rotate_left
              · intro w'
                go_simp
                with_reducible rfl
              rotate_left
              · simp only [Act.put, List.setIfInBounds_toArray, List.set_cons_zero, List.set_cons_succ, i64_w, i32_w]
                rfl
              refine pure_ (i := 1) (N := some 126) (v := ?_) (a' := ?_) #[true, true, false, false, false, false, false, false, false, false, false, false, false, false, false, false, false, false, false, false, false, false, false, false] rfl rfl (any_of HT_.out (by kernel_rfl)) (fun _ _ _ h => h) (Or.inl ⟨by rfl, ?_⟩) ?_ ?_
              rotate_left
              · intro w'
                go_simp
                with_reducible rfl
              rotate_left
              · simp only [Act.put, List.setIfInBounds_toArray, List.set_cons_zero, List.set_cons_succ, i64_w, i32_w]
                rfl
              refine pure_ (i := 2) (N := some 127) (v := ?_) (a' := ?_) #[true, true, true, false, false, false, false, false, false, false, false, false, false, false, false, false, false, false, false, false, false, false, false, false] rfl rfl (any_of HT_.out (by kernel_rfl)) (fun _ _ _ h => h) (Or.inl ⟨by rfl, ?_⟩) ?_ ?_
              rotate_left
              · intro w'
                go_simp
                with_reducible rfl
              rotate_left
              · simp only [Act.put, List.setIfInBounds_toArray, List.set_cons_zero, List.set_cons_succ, i64_w, i32_w]
                rfl
              refine pure_ (i := 3) (N := some 128) (v := ?_) (a' := ?_) #[true, true, true, true, false, false, false, false, false, false, false, false, false, false, false, false, false, false, false, false, false, false, false, false] rfl rfl (any_of HT_.out (by kernel_rfl)) (fun _ _ _ h => h) (Or.inl ⟨by rfl, ?_⟩) ?_ ?_
              rotate_left
              · intro w'
                go_simp
                with_reducible rfl
              rotate_left
              · simp only [Act.put, List.setIfInBounds_toArray, List.set_cons_zero, List.set_cons_succ, i64_w, i32_w]
                rfl
              refine pure_ (i := 4) (N := some 129) (v := ?_) (a' := ?_) #[true, true, true, true, true, false, false, false, false, false, false, false, false, false, false, false, false, false, false, false, false, false, false, false] rfl rfl (any_of HT_.out (by kernel_rfl)) (fun _ _ _ h => h) (Or.inl ⟨by rfl, ?_⟩) ?_ ?_
              rotate_left
              · intro w'
                go_simp
                with_reducible rfl
              rotate_left
              · simp only [Act.put, List.setIfInBounds_toArray, List.set_cons_zero, List.set_cons_succ, i64_w, i32_w]
                rfl
              refine pure_ (i := 5) (N := some 130) (v := ?_) (a' := ?_) #[true, true, true, true, true, true, false, false, false, false, false, false, false, false, false, false, false, false, false, false, false, false, false, false] rfl rfl (any_of HT_.out (by kernel_rfl)) (fun _ _ _ h => h) (Or.inl ⟨by rfl, ?_⟩) ?_ ?_
              rotate_left
              · intro w'
                go_simp
                with_reducible rfl
              rotate_left
              · simp only [Act.put, List.setIfInBounds_toArray, List.set_cons_zero, List.set_cons_succ, i64_w, i32_w]
                rfl
              refine pure_ (i := 6) (N := some 131) (v := ?_) (a' := ?_) #[true, true, true, true, true, true, true, false, false, false, false, false, false, false, false, false, false, false, false, false, false, false, false, false] rfl rfl (any_of HT_.out (by kernel_rfl)) (fun _ _ _ h => h) (Or.inl ⟨by rfl, ?_⟩) ?_ ?_
              rotate_left
              · intro w'
                go_simp
                with_reducible rfl
              rotate_left
              · simp only [Act.put, List.setIfInBounds_toArray, List.set_cons_zero, List.set_cons_succ, i64_w, i32_w]
                rfl
              refine pure_ (i := 7) (N := some 132) (v := ?_) (a' := ?_) #[true, true, true, true, true, true, true, true, false, false, false, false, false, false, false, false, false, false, false, false, false, false, false, false] rfl rfl (any_of HT_.out (by kernel_rfl)) (fun _ _ _ h => h) (Or.inl ⟨by rfl, ?_⟩) ?_ ?_
              rotate_left
              · intro w'
                go_simp
                with_reducible rfl
              rotate_left
              · simp only [Act.put, List.setIfInBounds_toArray, List.set_cons_zero, List.set_cons_succ, i64_w, i32_w]
                rfl
              refine pure_ (i := 8) (N := some 133) (v := ?_) (a' := ?_) #[true, true, true, true, true, true, true, true, true, false, false, false, false, false, false, false, false, false, false, false, false, false, false, false] rfl rfl (any_of HT_.out (by kernel_rfl)) (fun _ _ _ h => h) (Or.inl ⟨by rfl, ?_⟩) ?_ ?_
              rotate_left
              · intro w'
                go_simp
                with_reducible rfl
              rotate_left
              · simp only [Act.put, List.setIfInBounds_toArray, List.set_cons_zero, List.set_cons_succ, i64_w, i32_w]
                rfl
              refine pure_ (i := 9) (N := some 134) (v := ?_) (a' := ?_) #[true, true, true, true, true, true, true, true, true, true, false, false, false, false, false, false, false, false, false, false, false, false, false, false] rfl rfl (any_of HT_.out (by kernel_rfl)) (fun _ _ _ h => h) (Or.inl ⟨by rfl, ?_⟩) ?_ ?_
              rotate_left
              · intro w'
                go_simp
                with_reducible rfl
              rotate_left
              · simp only [Act.put, List.setIfInBounds_toArray, List.set_cons_zero, List.set_cons_succ, i64_w, i32_w]
                rfl
              refine pure_ (i := 10) (N := some 135) (v := ?_) (a' := ?_) #[true, true, true, true, true, true, true, true, true, true, true, false, false, false, false, false, false, false, false, false, false, false, false, false] rfl rfl (any_of HT_.out (by kernel_rfl)) (fun _ _ _ h => h) (Or.inl ⟨by rfl, ?_⟩) ?_ ?_
              rotate_left
              · intro w'
                go_simp
                with_reducible rfl
              rotate_left
              · simp only [Act.put, List.setIfInBounds_toArray, List.set_cons_zero, List.set_cons_succ, i64_w, i32_w]
                rfl
              refine pure_ (i := 11) (N := some 136) (v := ?_) (a' := ?_) #[true, true, true, true, true, true, true, true, true, true, true, true, false, false, false, false, false, false, false, false, false, false, false, false] rfl rfl (any_of HT_.out (by kernel_rfl)) (fun _ _ _ h => h) (Or.inl ⟨by rfl, ?_⟩) ?_ ?_
              rotate_left
              · intro w'
                go_simp
                with_reducible rfl
              rotate_left
              · simp only [Act.put, List.setIfInBounds_toArray, List.set_cons_zero, List.set_cons_succ, i64_w, i32_w]
                rfl
              refine pure_ (i := 12) (N := some 137) (v := undef) (a' := ?_) #[true, true, true, true, true, true, true, true, true, true, true, true, true, false, false, false, false, false, false, false, false, false, false, false] rfl rfl (any_of HT_.out (by kernel_rfl)) (fun _ _ _ h => h) (Or.inr ⟨by rfl, rfl⟩) ?_ ?_
              rotate_left
              · simp only [Act.put, List.setIfInBounds_toArray, List.set_cons_zero, List.set_cons_succ, i64_w, i32_w]
                rfl
              refine pure_ (i := 13) (N := some 138) (v := undef) (a' := ?_) #[true, true, true, true, true, true, true, true, true, true, true, true, true, true, false, false, false, false, false, false, false, false, false, false] rfl rfl (any_of HT_.out (by kernel_rfl)) (fun _ _ _ h => h) (Or.inr ⟨by rfl, rfl⟩) ?_ ?_
              rotate_left
              · simp only [Act.put, List.setIfInBounds_toArray, List.set_cons_zero, List.set_cons_succ, i64_w, i32_w]
                rfl
              refine pure_ (i := 14) (N := some 139) (v := undef) (a' := ?_) #[true, true, true, true, true, true, true, true, true, true, true, true, true, true, true, false, false, false, false, false, false, false, false, false] rfl rfl (any_of HT_.out (by kernel_rfl)) (fun _ _ _ h => h) (Or.inr ⟨by rfl, rfl⟩) ?_ ?_
              rotate_left
              · simp only [Act.put, List.setIfInBounds_toArray, List.set_cons_zero, List.set_cons_succ, i64_w, i32_w]
                rfl
              refine pure_ (i := 15) (N := some 140) (v := undef) (a' := ?_) #[true, true, true, true, true, true, true, true, true, true, true, true, true, true, true, true, false, false, false, false, false, false, false, false] rfl rfl (any_of HT_.out (by kernel_rfl)) (fun _ _ _ h => h) (Or.inr ⟨by rfl, rfl⟩) ?_ ?_
              rotate_left
              · simp only [Act.put, List.setIfInBounds_toArray, List.set_cons_zero, List.set_cons_succ, i64_w, i32_w]
                rfl
              refine pure_ (i := 16) (N := some 141) (v := undef) (a' := ?_) #[true, true, true, true, true, true, true, true, true, true, true, true, true, true, true, true, true, false, false, false, false, false, false, false] rfl rfl (any_of HT_.out (by kernel_rfl)) (fun _ _ _ h => h) (Or.inr ⟨by rfl, rfl⟩) ?_ ?_
              rotate_left
              · simp only [Act.put, List.setIfInBounds_toArray, List.set_cons_zero, List.set_cons_succ, i64_w, i32_w]
                rfl
              refine pure_ (i := 17) (N := some 142) (v := undef) (a' := ?_) #[true, true, true, true, true, true, true, true, true, true, true, true, true, true, true, true, true, true, false, false, false, false, false, false] rfl rfl (any_of HT_.out (by kernel_rfl)) (fun _ _ _ h => h) (Or.inr ⟨by rfl, rfl⟩) ?_ ?_
              rotate_left
              · simp only [Act.put, List.setIfInBounds_toArray, List.set_cons_zero, List.set_cons_succ, i64_w, i32_w]
                rfl
              refine pure_ (i := 18) (N := some 143) (v := undef) (a' := ?_) #[true, true, true, true, true, true, true, true, true, true, true, true, true, true, true, true, true, true, true, false, false, false, false, false] rfl rfl (any_of HT_.out (by kernel_rfl)) (fun _ _ _ h => h) (Or.inr ⟨by rfl, rfl⟩) ?_ ?_
              rotate_left
              · simp only [Act.put, List.setIfInBounds_toArray, List.set_cons_zero, List.set_cons_succ, i64_w, i32_w]
                rfl
              refine pure_ (i := 19) (N := some 144) (v := undef) (a' := ?_) #[true, true, true, true, true, true, true, true, true, true, true, true, true, true, true, true, true, true, true, true, false, false, false, false] rfl rfl (any_of HT_.out (by kernel_rfl)) (fun _ _ _ h => h) (Or.inr ⟨by rfl, rfl⟩) ?_ ?_
              rotate_left
              · simp only [Act.put, List.setIfInBounds_toArray, List.set_cons_zero, List.set_cons_succ, i64_w, i32_w]
                rfl
              refine pure_ (i := 20) (N := some 145) (v := undef) (a' := ?_) #[true, true, true, true, true, true, true, true, true, true, true, true, true, true, true, true, true, true, true, true, true, false, false, false] rfl rfl (any_of HT_.out (by kernel_rfl)) (fun _ _ _ h => h) (Or.inr ⟨by rfl, rfl⟩) ?_ ?_
              rotate_left
              · simp only [Act.put, List.setIfInBounds_toArray, List.set_cons_zero, List.set_cons_succ, i64_w, i32_w]
                rfl
              refine pure_ (i := 21) (N := some 146) (v := undef) (a' := ?_) #[true, true, true, true, true, true, true, true, true, true, true, true, true, true, true, true, true, true, true, true, true, true, false, false] rfl rfl (any_of HT_.out (by kernel_rfl)) (fun _ _ _ h => h) (Or.inr ⟨by rfl, rfl⟩) ?_ ?_
              rotate_left
              · simp only [Act.put, List.setIfInBounds_toArray, List.set_cons_zero, List.set_cons_succ, i64_w, i32_w]
                rfl
              refine pure_ (i := 22) (N := some 147) (v := ?_) (a' := ?_) #[true, true, true, true, true, true, true, true, true, true, true, true, true, true, true, true, true, true, true, true, true, true, true, false] rfl rfl (any_of HT_.out (by kernel_rfl)) (fun _ _ _ h => h) (Or.inl ⟨by rfl, ?_⟩) ?_ ?_
              rotate_left
              · intro w'
                go_simp
                with_reducible rfl
              rotate_left
              · simp only [Act.put, List.setIfInBounds_toArray, List.set_cons_zero, List.set_cons_succ, i64_w, i32_w]
                rfl
              refine pure_ (i := 23) (N := some 148) (v := ?_) (a' := ?_) #[true, true, true, true, true, true, true, true, true, true, true, true, true, true, true, true, true, true, true, true, true, true, true, true] rfl rfl (any_of HT_.out (by kernel_rfl)) (fun _ _ _ h => h) (Or.inl ⟨by rfl, ?_⟩) ?_ ?_
              rotate_left
              · intro w'
                go_simp
                with_reducible rfl
              rotate_left
              · simp only [Act.put, List.setIfInBounds_toArray, List.set_cons_zero, List.set_cons_succ, i64_w, i32_w]
                rfl
              refine done_ (done_of HT_.out (by kernel_rfl)) ?_
              go_wp2
              go_roundw
              case rel => exact ⟨j + 1, by have := HLJ.out; omega, by rw [HWj.out]; rfl, HP, HB⟩
              case measure => rw [HWj.out]; exact meas_up _ _ HLJ.out
            case neg =>
              have e1 : decide ((j : Int) < (base : Int)) = false := decide_eq_false (by omega)
              have e2 : decide ((j : Int) ≥ (base : Int)) = true := decide_eq_true (by omega)
              have e3 : decide ((0 : Int) ≤ (j : Int)) = true := decide_eq_true (by omega)
              have hlen_ := HLEN.out
              have HJB := Aside0.mk (show (base : Int) < (j : Int) + 1 ∧ (j : Int) + 1 ≤ (base : Int) + ((hv.drop base).length : Int) by have := HM.out; omega)
              have HX := Aside0.mk (show rd_T30 (hv.drop base) ((j : Int) + 1 - (base : Int) - 1) = rd_T30 hv (j : Int) by
                unfold rd_T30
                rw [List.getD_eq_getElem?_getD, List.getD_eq_getElem?_getD, List.getElem?_drop, show base + ((j : Int) + 1 - (base : Int) - 1).toNat = (j : Int).toNat by omega])
              obtain ⟨x, hx⟩ : ∃ x, rd_T30 hv (j : Int) = x := ⟨_, rfl⟩
              have HXX := Aside0.mk hx
              rw [hx] at HX
              have HJM := Aside0.mk (show 0 ≤ (j : Int) ∧ (j : Int) < (m : Int) by omega)
              have e4 : decide (j < base) = false := decide_eq_false hjb
              have e5 : base ≤ j := by omega
              have e6 : decide (base ≤ j) = true := decide_eq_true e5
              clear hx hlen_
              go_upto_region 32 with (first | (go_at_call 12; rw [HWj.out]; (refine (log_get_some HP.out.hb HRN.out ((j : Int) + 1) HJB.out x HX.out).mono ?_); rintro e_ w23_ ⟨rfl, hb⟩; have n1_ := Aside0.mk (below_step HBr.out hb); clear HBr; have HBr := n1_; clear n1_ hb) | ((with_reducible refine gate_dst (N := 12) rfl ?_); refine box_event ?hg (N := 12) ?hd (cs := #[.int .i64 0, .int .i64 0, .int .i64 0, .string ⟨#[]⟩]) (t := 30) ?hr ?_; (case hd => rfl); (case hg => rfl); (case hr => first | (go_simp; done) | (go_simp; rfl)); intro gb12 hg w21_ hbox hb; have BK12 := Aside0.mk hbox; have GE12 := Aside0.mk (below_size HBr.out |> fun h => (show _ ≤ gb12 from by rw [hg]; exact h)); have n1_ := Aside0.mk (below_step HBr.out hb); clear HBr; have HBr := n1_; clear n1_ hb hbox hg; have hz0 := (blk_cell BK12.out 0).trans rfl; have hf0 := blk_frozen BK12.out 0; have hz1 := (blk_cell BK12.out 1).trans rfl; have hf1 := blk_frozen BK12.out 1; have hz2 := (blk_cell BK12.out 2).trans rfl; have hf2 := blk_frozen BK12.out 2; have hz3 := (blk_cell BK12.out 3).trans rfl; have hf3 := blk_frozen BK12.out 3))
              have n0_ := Aside0.mk (show ((((w21_.setCell ⟨gb12, 0, none⟩ (.int .i64 x.f0)).setCell ⟨gb12, 1, none⟩ (.int .i64 x.f1)).setCell ⟨gb12, 2, none⟩ (.int .i64 x.f2)).setCell ⟨gb12, 3, none⟩ (.string x.f3)).heap[gb12]? = some (.cells #[.int .i64 x.f0, .int .i64 x.f1, .int .i64 x.f2, .string x.f3] 30 (0, 0)) from (blk_put (cs := #[.int .i64 x.f0, .int .i64 x.f1, .int .i64 x.f2, .string ⟨#[]⟩]) (blk_put (cs := #[.int .i64 x.f0, .int .i64 x.f1, .int .i64 0, .string ⟨#[]⟩]) (blk_put (cs := #[.int .i64 x.f0, .int .i64 0, .int .i64 0, .string ⟨#[]⟩]) (blk_put (cs := #[.int .i64 0, .int .i64 0, .int .i64 0, .string ⟨#[]⟩]) BK12.out 0 (.int .i64 x.f0) rfl) 1 (.int .i64 x.f1) rfl) 2 (.int .i64 x.f2) rfl) 3 (.string x.f3) rfl))
              have hbr_ := (show Below wr.heap.size wr ((((w21_.setCell ⟨gb12, 0, none⟩ (.int .i64 x.f0)).setCell ⟨gb12, 1, none⟩ (.int .i64 x.f1)).setCell ⟨gb12, 2, none⟩ (.int .i64 x.f2)).setCell ⟨gb12, 3, none⟩ (.string x.f3)) from (below_set (below_set (below_set (below_set HBr.out GE12.out) GE12.out) GE12.out) GE12.out))
              have n1_ := Aside0.mk (HP.out.below hbr_)
              have n2_ := Aside0.mk (below_step HB.out hbr_)
              clear BK12 HP HB HBr hbr_ hz0 hf0 hz1 hf1 hz2 hf2 hz3 hf3 GE12
              have BK12 := n0_
              have HP := n1_
              have HB := n2_
              clear n0_ n1_ n2_
              generalize ((((w21_.setCell ⟨gb12, 0, none⟩ (.int .i64 x.f0)).setCell ⟨gb12, 1, none⟩ (.int .i64 x.f1)).setCell ⟨gb12, 2, none⟩ (.int .i64 x.f2)).setCell ⟨gb12, 3, none⟩ (.string x.f3)) = w22_ at BK12 HP HB ⊢
              have n0_ := Aside0.mk (show w22_.drew.heap[gb12]? = _ from blk_drew BK12.out)
              have n1_ := Aside0.mk (HP.out.below (below_drew (Below.refl w22_.heap.size w22_)))
              have n2_ := Aside0.mk (below_step HB.out (below_drew (Below.refl w22_.heap.size w22_)))
              clear BK12 HP HB
              have BK12 := n0_
              have HP := n1_
              have HB := n2_
              clear n0_ n1_ n2_
              have hq := (Kd.Q_reads' HP.out.hu).2.2
              rw [← HM.out] at hq
              obtain ⟨ad3, eA3, hx0, hx1, hx2, hx3⟩ := at_T30 hq (j : Int) HJM.out.1 HJM.out.2
              subst eA3
              rw [HXX.out, Int.toNat_natCast] at hx0 hx1 hx2 hx3
              have HX0 := Aside0.mk hx0
              have HX1 := Aside0.mk hx1
              have HX2 := Aside0.mk hx2
              have HX3 := Aside0.mk hx3
              clear hx0 hx1 hx2 hx3 hq
              refine start_ (n := 24) (S := fun w' => w'.cell? ⟨gb12, 0, none⟩ = some (.int .i64 x.f0) ∧ w'.cell? ⟨gb12, 1, none⟩ = some (.int .i64 x.f1) ∧ w'.cell? ⟨gb12, 2, none⟩ = some (.int .i64 x.f2) ∧ w'.cell? ⟨gb12, 3, none⟩ = some (.string x.f3) ∧ w'.cell? (ad3.add (j * 4)) = some (.int .i64 x.f0) ∧ w'.cell? ⟨(ad3.add (j * 4)).block, (ad3.add (j * 4)).off + 1, none⟩ = some (.int .i64 x.f1) ∧ w'.cell? ⟨(ad3.add (j * 4)).block, (ad3.add (j * 4)).off + 2, none⟩ = some (.int .i64 x.f2) ∧ w'.cell? ⟨(ad3.add (j * 4)).block, (ad3.add (j * 4)).off + 3, none⟩ = some (.string x.f3)) (ds := []) #[false, false, false, false, false, false, false, false, false, false, false, false, false, false, false, false, false, false, false, false, false, false, false, false] (by kernel_rfl) rfl rfl ⟨(blk_cell BK12.out 0).trans rfl, (blk_cell BK12.out 1).trans rfl, (blk_cell BK12.out 2).trans rfl, (blk_cell BK12.out 3).trans rfl, HX0.out, HX1.out, HX2.out, HX3.out⟩ (fun hHeld => ?_); refine with_tabW oplogKeeps.tab32 oplogKeeps.bits32 (fun HT_ HW_ => ?_)
              refine pure_ (i := 0) (N := some 125) (v := ?_) (a' := ?_) #[true, false, false, false, false, false, false, false, false, false, false, false, false, false, false, false, false, false, false, false, false, false, false, false] rfl rfl (any_of HT_.out (by kernel_rfl)) (fun _ _ _ h => h) (Or.inl ⟨by rfl, ?_⟩) ?_ ?_
              rotate_left
              · intro w'
                go_simp
                with_reducible rfl
              rotate_left
              · simp only [Act.put, List.setIfInBounds_toArray, List.set_cons_zero, List.set_cons_succ, i64_w, i32_w]
                rfl
              refine pure_ (i := 1) (N := some 126) (v := ?_) (a' := ?_) #[true, true, false, false, false, false, false, false, false, false, false, false, false, false, false, false, false, false, false, false, false, false, false, false] rfl rfl (any_of HT_.out (by kernel_rfl)) (fun _ _ _ h => h) (Or.inl ⟨by rfl, ?_⟩) ?_ ?_
              rotate_left
              · intro w'
                go_simp
                with_reducible rfl
              rotate_left
              · simp only [Act.put, List.setIfInBounds_toArray, List.set_cons_zero, List.set_cons_succ, i64_w, i32_w]
                rfl
              refine pure_ (i := 2) (N := some 127) (v := ?_) (a' := ?_) #[true, true, true, false, false, false, false, false, false, false, false, false, false, false, false, false, false, false, false, false, false, false, false, false] rfl rfl (any_of HT_.out (by kernel_rfl)) (fun _ _ _ h => h) (Or.inl ⟨by rfl, ?_⟩) ?_ ?_
              rotate_left
              · intro w'
                go_simp
                with_reducible rfl
              rotate_left
              · simp only [Act.put, List.setIfInBounds_toArray, List.set_cons_zero, List.set_cons_succ, i64_w, i32_w]
                rfl
              refine pure_ (i := 3) (N := some 128) (v := ?_) (a' := ?_) #[true, true, true, true, false, false, false, false, false, false, false, false, false, false, false, false, false, false, false, false, false, false, false, false] rfl rfl (any_of HT_.out (by kernel_rfl)) (fun _ _ _ h => h) (Or.inl ⟨by rfl, ?_⟩) ?_ ?_
              rotate_left
              · intro w'
                go_simp
                with_reducible rfl
              rotate_left
              · simp only [Act.put, List.setIfInBounds_toArray, List.set_cons_zero, List.set_cons_succ, i64_w, i32_w]
                rfl
              refine pure_ (i := 4) (N := some 129) (v := undef) (a' := ?_) #[true, true, true, true, true, false, false, false, false, false, false, false, false, false, false, false, false, false, false, false, false, false, false, false] rfl rfl (any_of HT_.out (by kernel_rfl)) (fun _ _ _ h => h) (Or.inr ⟨by rfl, rfl⟩) ?_ ?_
              rotate_left
              · simp only [Act.put, List.setIfInBounds_toArray, List.set_cons_zero, List.set_cons_succ, i64_w, i32_w]
                rfl
              refine pure_ (i := 5) (N := some 130) (v := undef) (a' := ?_) #[true, true, true, true, true, true, false, false, false, false, false, false, false, false, false, false, false, false, false, false, false, false, false, false] rfl rfl (any_of HT_.out (by kernel_rfl)) (fun _ _ _ h => h) (Or.inr ⟨by rfl, rfl⟩) ?_ ?_
              rotate_left
              · simp only [Act.put, List.setIfInBounds_toArray, List.set_cons_zero, List.set_cons_succ, i64_w, i32_w]
                rfl
              refine pure_ (i := 6) (N := some 131) (v := ?_) (a' := ?_) #[true, true, true, true, true, true, true, false, false, false, false, false, false, false, false, false, false, false, false, false, false, false, false, false] rfl rfl (any_of HT_.out (by kernel_rfl)) (fun _ _ _ h => h) (Or.inl ⟨by rfl, ?_⟩) ?_ ?_
              rotate_left
              · intro w'
                go_simp
                with_reducible rfl
              rotate_left
              · simp only [Act.put, List.setIfInBounds_toArray, List.set_cons_zero, List.set_cons_succ, i64_w, i32_w]
                rfl
              refine pure_ (i := 7) (N := some 132) (v := ?_) (a' := ?_) #[true, true, true, true, true, true, true, true, false, false, false, false, false, false, false, false, false, false, false, false, false, false, false, false] rfl rfl (any_of HT_.out (by kernel_rfl)) (fun _ _ _ h => h) (Or.inl ⟨by rfl, ?_⟩) ?_ ?_
              rotate_left
              · intro w'
                go_simp
                with_reducible rfl
              rotate_left
              · simp only [Act.put, List.setIfInBounds_toArray, List.set_cons_zero, List.set_cons_succ, i64_w, i32_w]
                rfl
              refine pure_ (i := 8) (N := some 133) (v := ?_) (a' := ?_) #[true, true, true, true, true, true, true, true, true, false, false, false, false, false, false, false, false, false, false, false, false, false, false, false] rfl rfl (any_of HT_.out (by kernel_rfl)) (fun _ _ _ h => h) (Or.inl ⟨by rfl, ?_⟩) ?_ ?_
              rotate_left
              · intro w'
                go_simp
                with_reducible rfl
              rotate_left
              · simp only [Act.put, List.setIfInBounds_toArray, List.set_cons_zero, List.set_cons_succ, i64_w, i32_w]
                rfl
              refine pure_ (i := 9) (N := some 134) (v := ?_) (a' := ?_) #[true, true, true, true, true, true, true, true, true, true, false, false, false, false, false, false, false, false, false, false, false, false, false, false] rfl rfl (any_of HT_.out (by kernel_rfl)) (fun _ _ _ h => h) (Or.inl ⟨by rfl, ?_⟩) ?_ ?_
              rotate_left
              · intro w'
                go_simp
                with_reducible rfl
              rotate_left
              · simp only [Act.put, List.setIfInBounds_toArray, List.set_cons_zero, List.set_cons_succ, i64_w, i32_w]
                rfl
              refine pure_ (i := 10) (N := some 135) (v := ?_) (a' := ?_) #[true, true, true, true, true, true, true, true, true, true, true, false, false, false, false, false, false, false, false, false, false, false, false, false] rfl rfl (any_of HT_.out (by kernel_rfl)) (fun _ _ _ h => h) (Or.inl ⟨by rfl, ?_⟩) ?_ ?_
              rotate_left
              · intro w'
                go_simp
                with_reducible rfl
              rotate_left
              · simp only [Act.put, List.setIfInBounds_toArray, List.set_cons_zero, List.set_cons_succ, i64_w, i32_w]
                rfl
              refine pure_ (i := 11) (N := some 136) (v := ?_) (a' := ?_) #[true, true, true, true, true, true, true, true, true, true, true, true, false, false, false, false, false, false, false, false, false, false, false, false] rfl rfl (any_of HT_.out (by kernel_rfl)) (fun _ _ _ h => h) (Or.inl ⟨by rfl, ?_⟩) ?_ ?_
              rotate_left
              · intro w'
                go_simp
                with_reducible rfl
              rotate_left
              · simp only [Act.put, List.setIfInBounds_toArray, List.set_cons_zero, List.set_cons_succ, i64_w, i32_w]
                rfl
              refine pure_ (i := 12) (N := some 137) (v := ?_) (a' := ?_) #[true, true, true, true, true, true, true, true, true, true, true, true, true, false, false, false, false, false, false, false, false, false, false, false] rfl rfl (any_of HT_.out (by kernel_rfl)) (fun _ _ _ h => h) (Or.inl ⟨by rfl, ?_⟩) ?_ ?_
              rotate_left
              · intro w'
                go_simp
                with_reducible rfl
              rotate_left
              · simp only [Act.put, List.setIfInBounds_toArray, List.set_cons_zero, List.set_cons_succ, i64_w, i32_w]
                rfl
              refine pure_ (i := 13) (N := some 138) (v := ?_) (a' := ?_) #[true, true, true, true, true, true, true, true, true, true, true, true, true, true, false, false, false, false, false, false, false, false, false, false] rfl rfl (any_of HT_.out (by kernel_rfl)) (fun _ _ _ h => h) (Or.inl ⟨by rfl, ?_⟩) ?_ ?_
              rotate_left
              · intro w'
                go_simp
                with_reducible rfl
              rotate_left
              · simp only [Act.put, List.setIfInBounds_toArray, List.set_cons_zero, List.set_cons_succ, i64_w, i32_w]
                rfl
              refine pure_ (i := 14) (N := some 139) (v := ?_) (a' := ?_) #[true, true, true, true, true, true, true, true, true, true, true, true, true, true, true, false, false, false, false, false, false, false, false, false] rfl rfl (any_of HT_.out (by kernel_rfl)) (fun _ _ _ h => h) (Or.inl ⟨by rfl, ?_⟩) ?_ ?_
              rotate_left
              · intro w'
                go_simp
                with_reducible rfl
              rotate_left
              · simp only [Act.put, List.setIfInBounds_toArray, List.set_cons_zero, List.set_cons_succ, i64_w, i32_w]
                rfl
              refine pure_ (i := 16) (N := some 141) (v := ?_) (a' := ?_) #[true, true, true, true, true, true, true, true, true, true, true, true, true, true, true, false, true, false, false, false, false, false, false, false] rfl rfl (any_of HT_.out (by kernel_rfl)) (fun _ _ _ h => h) (Or.inl ⟨by rfl, ?_⟩) ?_ ?_
              rotate_left
              · intro w'
                go_simp
                with_reducible rfl
              rotate_left
              · simp only [Act.put, List.setIfInBounds_toArray, List.set_cons_zero, List.set_cons_succ, i64_w, i32_w]
                rfl
              refine pure_ (i := 17) (N := some 142) (v := ?_) (a' := ?_) #[true, true, true, true, true, true, true, true, true, true, true, true, true, true, true, false, true, true, false, false, false, false, false, false] rfl rfl (any_of HT_.out (by kernel_rfl)) (fun _ _ _ h => h) (Or.inl ⟨by rfl, ?_⟩) ?_ ?_
              rotate_left
              · intro w'
                go_simp
                with_reducible rfl
              rotate_left
              · simp only [Act.put, List.setIfInBounds_toArray, List.set_cons_zero, List.set_cons_succ, i64_w, i32_w]
                rfl
              refine pure_ (i := 18) (N := some 143) (v := ?_) (a' := ?_) #[true, true, true, true, true, true, true, true, true, true, true, true, true, true, true, false, true, true, true, false, false, false, false, false] rfl rfl (any_of HT_.out (by kernel_rfl)) (fun _ _ _ h => h) (Or.inl ⟨by rfl, ?_⟩) ?_ ?_
              rotate_left
              · intro w'
                go_simp
                with_reducible rfl
              rotate_left
              · simp only [Act.put, List.setIfInBounds_toArray, List.set_cons_zero, List.set_cons_succ, i64_w, i32_w]
                rfl
              refine take_ (i := 15) (N := some 140) (v := ?_) (a' := ?_) #[true, true, true, true, true, true, true, true, true, true, true, true, true, true, true, true, true, true, true, false, false, false, false, false] rfl rfl (take_ofW HT_.out HW_.out (by kernel_rfl)) (fun _ _ _ h => h) (Or.inl ⟨by rfl, ?_⟩) hHeld ?_ ?_
              rotate_left
              · rintro w' ⟨s0, s1, s2, s3, s4, s5, s6, s7⟩
                go_simp
                with_reducible rfl
              rotate_left
              · simp only [Act.put, List.setIfInBounds_toArray, List.set_cons_zero, List.set_cons_succ, i64_w, i32_w]
                rfl
              refine take_ (i := 19) (N := some 144) (v := ?_) (a' := ?_) #[true, true, true, true, true, true, true, true, true, true, true, true, true, true, true, true, true, true, true, true, false, false, false, false] rfl rfl (take_ofW HT_.out HW_.out (by kernel_rfl)) (fun _ _ _ h => h) (Or.inl ⟨by rfl, ?_⟩) hHeld ?_ ?_
              rotate_left
              · rintro w' ⟨s0, s1, s2, s3, s4, s5, s6, s7⟩
                go_simp
                with_reducible rfl
              rotate_left
              · simp only [Act.put, List.setIfInBounds_toArray, List.set_cons_zero, List.set_cons_succ, i64_w, i32_w]
                rfl
              refine pure_ (i := 20) (N := some 145) (v := ?_) (a' := ?_) #[true, true, true, true, true, true, true, true, true, true, true, true, true, true, true, true, true, true, true, true, true, false, false, false] rfl rfl (any_of HT_.out (by kernel_rfl)) (fun _ _ _ h => h) (Or.inl ⟨by rfl, ?_⟩) ?_ ?_
              rotate_left
              · intro w'
                go_simp
                with_reducible rfl
              rotate_left
              · simp only [Act.put, List.setIfInBounds_toArray, List.set_cons_zero, List.set_cons_succ, i64_w, i32_w]
                rfl
              refine pure_ (i := 21) (N := some 146) (v := ?_) (a' := ?_) #[true, true, true, true, true, true, true, true, true, true, true, true, true, true, true, true, true, true, true, true, true, true, false, false] rfl rfl (any_of HT_.out (by kernel_rfl)) (fun _ _ _ h => h) (Or.inl ⟨by rfl, ?_⟩) ?_ ?_
              rotate_left
              · intro w'
                go_simp
                with_reducible rfl
              rotate_left
              · simp only [Act.put, List.setIfInBounds_toArray, List.set_cons_zero, List.set_cons_succ, i64_w, i32_w]
                rfl
              refine pure_ (i := 22) (N := some 147) (v := ?_) (a' := ?_) #[true, true, true, true, true, true, true, true, true, true, true, true, true, true, true, true, true, true, true, true, true, true, true, false] rfl rfl (any_of HT_.out (by kernel_rfl)) (fun _ _ _ h => h) (Or.inl ⟨by rfl, ?_⟩) ?_ ?_
              rotate_left
              · intro w'
                go_simp
                with_reducible rfl
              rotate_left
              · simp only [Act.put, List.setIfInBounds_toArray, List.set_cons_zero, List.set_cons_succ, i64_w, i32_w]
                rfl
              refine pure_ (i := 23) (N := some 148) (v := ?_) (a' := ?_) #[true, true, true, true, true, true, true, true, true, true, true, true, true, true, true, true, true, true, true, true, true, true, true, true] rfl rfl (any_of HT_.out (by kernel_rfl)) (fun _ _ _ h => h) (Or.inl ⟨by rfl, ?_⟩) ?_ ?_
              rotate_left
              · intro w'
                go_simp
                with_reducible rfl
              rotate_left
              · simp only [Act.put, List.setIfInBounds_toArray, List.set_cons_zero, List.set_cons_succ, i64_w, i32_w]
                rfl
              refine done_ (done_of HT_.out (by kernel_rfl)) ?_
              go_wp2
              go_roundw
              case rel => exact ⟨j + 1, by have := HLJ.out; omega, by rw [HWj.out]; rfl, HP, HB⟩
              case measure => rw [HWj.out]; exact meas_up _ _ HLJ.out
theorem sextonlaw05_OplogKeeps.calls (k : Nat) (A0 : Option Addr) (c0 : Nat) (l0 : List S32) (r : Bool) (w : World) (hr0 : Kd.C k32 w A0 l0.length l0) (hc0 : l0.length ≤ c0) (h : sextonlaw05_OplogKeeps.f k l0 = some r) : Calls Try.prog 3 #[.slice A0 l0.length c0] w fun e w' => e = .returned (.bool r) ∧ Below w.heap.size w w' := by
  simp only [sextonlaw05_OplogKeeps.f, Option.some.injEq] at h
  subst h
  by_cases hb : (l0.length : Int) > 200
  · exact oplogKeeps_large A0 c0 l0 w hr0 hc0 hb
  · exact oplogKeeps_main A0 c0 l0 w hr0 hc0 hb
end Go.Proofs.Ytmapkneofccboaa.FA
