/- Written by hand (wip/tools/gen_inbox_once.py): the law InboxOnce: what was put is taken once, of one row in its order. -/
import Derived.Test.YthmeagbfoccnlaaHInboxNil
import Derived.Test.YthmeagbfoccnlaaHInboxDrain
import Derived.Test.YthmeagbfoccnlaaFAsextonplainTexts
import Derived.Test.YthmeagbfoccnlaaB
namespace Go.Proofs.Ythmeagbfoccnlaa.FA
open Go.Conc Go.RowKit Go.Proofs.YthmeagbfoccnlaaW.PrintWords Go.Proofs.YthmeagbfoccnlaaW.PrintLast Go.Proofs.YthmeagbfoccnlaaW.PrintMore Go.Proofs.Ythmeagbfoccnlaa.Hand Go.Proofs.Ythmeagbfoccnlaa.B
set_option linter.unusedVariables false
set_option linter.unusedSimpArgs false
theorem texts_l0 (l : List ByteArray) (hl : l.length ≤ 1000000) (n : Nat) : ∀ (i k : Nat), i ≤ l.length → l.length - i = n → n < k → sextonplain_Texts.l0 k l l (l.length : Int) (i : Int) = some true := by
  induction n with
  | zero =>
    intro i k hi hn hk
    obtain ⟨k, rfl⟩ : ∃ k', k = k' + 1 := ⟨k - 1, by omega⟩
    rw [sextonplain_Texts.l0, if_neg (by omega)]
    simp
  | succ n ih =>
    intro i k hi hn hk
    obtain ⟨k, rfl⟩ : ∃ k', k = k' + 1 := ⟨k - 1, by omega⟩
    have hw : wrap64 ((i : Int) + 1) = ((i + 1 : Nat) : Int) := by rw [wrap64_in (by omega) (by omega)]; omega
    rw [sextonplain_Texts.l0, if_pos (by omega), if_neg (by omega), if_pos (by omega), if_pos (by omega), if_pos (by omega), if_pos rfl, hw]
    exact ih (i + 1) k (by omega) (by omega) (by omega)
theorem texts_same (l : List ByteArray) (hl : l.length ≤ 1000000) : sextonplain_Texts.f (l.length + 1) l l = some true := texts_l0 l hl l.length 0 _ (by omega) (by omega) (by omega)
theorem cut_owner (A : Option Addr) (n c n' c' k m : Nat) : (Value.slice (if c = k then A else A.map (·.add m)) n' c').ownBlock = (Value.slice A n c).ownBlock := by
  cases A with
  | none => split <;> rfl
  | some ad =>
    split
    · rfl
    · simp only [Option.map_some, Value.ownBlock, Addr.add]
      split <;> rfl
theorem meas_step (a n : Nat) (h : n < a) : ((a : Int) - intOf (.int .i64 ((n + 1 : Nat) : Int))).toNat < ((a : Int) - intOf (.int .i64 (n : Int))).toNat := by simp only [intOf]; omega
/-- A row that is none of a block of another row's. -/
def Beside (v : Value) (k : Nat) : Prop := True ∧ some k ≠ v.ownBlock
theorem Box.setCell {w : World} {g a b room cl u v} (h : Box w g a b room cl u v) {k : Nat} (hk : k ≠ g ∧ k ≠ a ∧ k ≠ b) (i : Nat) (x : Value) : Box (w.setCell ⟨k, i, none⟩ x) g a b room cl u v :=
  h.move (fun j hj => Below.heap_setCell w ⟨k, i, none⟩ x j (by rintro rfl; rcases hj with h | h | h <;> simp_all))
theorem Keeps.blk {g a b : Nat} {w w' : World} (h : Keeps g a b w w') {k : Nat} {o : Obj} (hk : w.heap[k]? = some o) (hn : k ≠ g ∧ k ≠ a ∧ k ≠ b) : w'.heap[k]? = some o := (h.block k hn.1 hn.2.1 hn.2.2).trans hk
theorem info_str_parts : ∃ i, Try.prog.info? 9 = some i ∧ i.size = 1 := by
  have h : (Try.prog.info? 9).map (·.size) = some 1 := by kernel_rfl
  obtain ⟨i, hi, hb⟩ := Option.map_eq_some_iff.1 h
  exact ⟨i, hi, hb⟩
/-- A row of texts cut from its front. -/
theorem cut1 (A : Option Addr) (n c m : Nat) (hm : n = m + 1) (hc : n ≤ c) : ∀ W : World, (Instr.slice 28 (.slice A n c) (some (.int .i64 1)) none none).run Try.prog W = .ok (.slice (if c = 1 then A else A.map (·.add (1 * 1))) m (c - 1)) W := by
  obtain ⟨i, hi, hs⟩ := info_str_parts
  intro W
  have := cut_from (P := Try.prog) 28 9 .i64 Try.underlying28 hi 1 hs A n c 1 (by decide) (by omega) W
  rw [this]
  subst hm
  rfl
theorem cutTo (A : Option Addr) (n c j : Nat) (hj : j ≤ n) (hc : n ≤ c) : ∀ W : World, (Instr.slice 28 (.slice A n c) none (some (.int .i64 (j : Int))) none).run Try.prog W = .ok (.slice A j c) W := by
  obtain ⟨i, hi, hs⟩ := info_str_parts
  intro W
  have := cut_to (P := Try.prog) 28 9 .i64 Try.underlying28 hi A n c (j : Int) (by omega) (by omega) hc W
  rwa [Int.toNat_natCast] at this
theorem cutFrom (A : Option Addr) (n c j : Nat) (hj : j ≤ n) : ∀ W : World, (Instr.slice 28 (.slice A n c) (some (.int .i64 (j : Int))) none none).run Try.prog W = .ok (.slice (if c = j then A else A.map (·.add (j * 1))) (n - j) (c - j)) W := by
  obtain ⟨i, hi, hs⟩ := info_str_parts
  intro W
  have := cut_from (P := Try.prog) 28 9 .i64 Try.underlying28 hi 1 hs A n c (j : Int) (by omega) (by omega) W
  rwa [Int.toNat_natCast] at this
def sextonlaw23_InboxOnce.f (k : Nat) (l0 : List S30) : Option Bool := some true
set_option maxHeartbeats 4000000 in
theorem inboxOnce_large (A0 : Option Addr) (c0 : Nat) (l0 : List S30) (w : World) (hr0 : Kd.C k30 w A0 l0.length l0) (hc0 : l0.length ≤ c0) (h : (l0.length : Int) > 200) : Calls Try.prog 3 #[.slice A0 l0.length c0] w fun e w' => e = .returned (.bool true) ∧ Below w.heap.size w w' := by
  have HB := Aside0.mk (Below.refl w.heap.size w)
  have b1 : decide ((l0.length : Int) > 200) = true := decide_eq_true h
  clear h hr0 hc0
  go_enter Try.func3, Try.ntmps3
  go_wp2_with (first | (go_at_call 6; refine (inbox_new 256 (by decide) (by decide) _).mono ?_; rintro e_ w1_ ⟨g, a, b, rfl, hx, hg, ha, hb, hw⟩; have HX := Aside0.mk hx; have GG := Aside0.mk hg; have GA := Aside0.mk ha; have GB := Aside0.mk hb; have n1_ := Aside0.mk (below_step HB.out hw); clear HB; have HB := n1_; clear n1_ hx hg ha hb hw) | (go_at_call 7; refine (inbox_two _).mono ?_; rintro e_ w2_ ⟨rfl, hw⟩; have n1_ := Aside0.mk (below_step HB.out hw); clear HB; have HB := n1_; clear n1_ hw))
  go_ret
  exact ⟨rfl, HB.out⟩
set_option maxHeartbeats 16000000 in
set_option maxRecDepth 100000 in
theorem inboxOnce_main (A0 : Option Addr) (c0 : Nat) (l0 : List S30) (w : World) (hr0 : Kd.C k30 w A0 l0.length l0) (hc0 : l0.length ≤ c0) (h : ¬ (l0.length : Int) > 200) : Calls Try.prog 3 #[.slice A0 l0.length c0] w fun e w' => e = .returned (.bool true) ∧ Below w.heap.size w w' := by
  have HB := Aside0.mk (Below.refl w.heap.size w)
  have HL := Aside0.mk (show l0.length ≤ 200 by omega)
  have b1 : decide ((l0.length : Int) > 200) = false := decide_eq_false h
  have HR := Aside0.mk hr0
  have HC := Aside0.mk hc0
  clear h hr0 hc0
  go_enter Try.func3, Try.ntmps3
  go_wp2_with (first | (go_at_call 6; refine (inbox_new 256 (by decide) (by decide) _).mono ?_; rintro e_ w1_ ⟨g, a, b, rfl, hx, hg, ha, hb, hw⟩; have HX := Aside0.mk hx; have GG := Aside0.mk hg; have GA := Aside0.mk ha; have GB := Aside0.mk hb; have n1_ := Aside0.mk (below_step HB.out hw); clear HB; have HB := n1_; clear n1_ hx hg ha hb hw))
  clear b1
  go_loopw [5, 6, 39] (fun vu vn i w' => ∃ (n : Nat) (uu vv : List ByteArray), n ≤ l0.length ∧ uu.length + vv.length ≤ n ∧ i = .int .i64 (n : Int) ∧ Aside0 (Kd.Q Kd.string 9 w' w.heap.size (Beside vn) vu uu) ∧ Aside0 (Kd.Q Kd.string 9 w' w.heap.size (Beside vu) vn vv) ∧ Aside0 (Box w' g a b 256 false uu vv) ∧ Aside0 (Below w.heap.size w w')) (fun _ _ i _ => ((l0.length : Int) - intOf i).toNat)
  case atStart => exact ⟨0, [], [], by omega, by simp, rfl, ⟨Kd.Q_nil _ _ _ _ _⟩, ⟨Kd.Q_nil _ _ _ _ _⟩, HX, HB⟩
  case round =>
    clear HX HB
    obtain ⟨n, uu, vv, hn1, hs1, rfl, HU, HV, HX, HB⟩ := hrel
    obtain ⟨Au, cu, he1, hcu⟩ := Kd.Q_slice HU.out
    subst he1
    obtain ⟨An, cn, he2, hcn⟩ := Kd.Q_slice HV.out
    subst he2
    have HCu := Aside0.mk hcu
    have HCn := Aside0.mk hcn
    have HN := Aside0.mk hs1
    clear hcu hcn hs1
    by_cases hlt : n < l0.length
    case neg =>
      obtain rfl : n = l0.length := by omega
      have d0 : decide ((l0.length : Int) < (l0.length : Int)) = false := decide_eq_false (by omega)
      obtain ⟨rs, hrs⟩ : ∃ rs, rs = uu ++ vv := ⟨_, rfl⟩
      have hrl : rs.length = uu.length + vv.length := by rw [hrs, List.length_append]
      have HRS := Aside0.mk hrs
      have HRL := Aside0.mk hrl
      have HJ1 := Aside0.mk (show uu.length + vv.length ≤ 1000000 by have := HN.out; have := HL.out; omega)
      have HJ2 := Aside0.mk (show uu.length ≤ 1000000 by have := HJ1.out; omega)
      have HJ3 := Aside0.mk (show vv.length ≤ 1000000 by have := HJ1.out; omega)
      have HJ4 := Aside0.mk (show uu.length ≤ rs.length by omega)
      have HJ5 := Aside0.mk (show rs.length - uu.length = vv.length by omega)
      have B2 := Aside0.mk (show wrap64 ((uu.length : Int) + (vv.length : Int)) = (rs.length : Int) by have := HL.out; have := HN.out; rw [wrap64_in (by omega) (by omega)]; omega)
      clear hrs hrl hlt hn1
      have b2 := B2.out
      go_wp2_with (first | (go_at_call 10; refine (inbox_drain HX.out HJ1.out).mono ?_; rintro e_ w3_ ⟨r_, rfl, hr, hx, hm⟩; rw [← HRS.out] at hr; obtain ⟨Ar, cr, he3, hcr, hCr⟩ := Kd.R_reads hr; subst he3; have n1_ := Aside0.mk (Q_moves HU.out HX.out (by decide) hm); have n2_ := Aside0.mk (Q_moves HV.out HX.out (by decide) hm); have n3_ := Aside0.mk (hm.below HB.out HB.out.size GG.out GA.out GB.out); have HRR := Aside0.mk hr; have hk1 := cutTo Ar rs.length cr uu.length HJ4.out hcr; have hk2 := cutFrom Ar rs.length cr uu.length HJ4.out; rw [HJ5.out] at hk2; obtain ⟨A2, hA2⟩ : ∃ A1, A1 = (if cr = uu.length then Ar else Ar.map (·.add (uu.length * 1))) := ⟨_, rfl⟩; obtain ⟨c2, hc2⟩ : ∃ c1, c1 = cr - uu.length := ⟨_, rfl⟩; rw [← hA2, ← hc2] at hk2; have HA2 := Aside0.mk hA2; have HC2 := Aside0.mk hc2; clear hA2 hc2; have HCR := Aside0.mk hcr; clear HU HV HB HX; have HU := n1_; have HV := n2_; have HB := n3_; clear n1_ n2_ n3_ hr hx hm hcr hCr) | (go_at_call 11; with_reducible refine (sextonplain_Texts.calls (uu.length + 1) Ar cr uu Au cu uu true _ ?tc0 ?tc1 ?tc2 ?tc3 ?tc4).mono ?_; (case tc0 => have := Kd.C_take (m := uu.length) (Kd.R_reads' HRR.out).2.2 HJ4.out; rw [HRS.out, List.take_left'  rfl] at this; exact this); (case tc1 => exact Nat.le_trans HJ4.out HCR.out); (case tc2 => exact (Kd.Q_reads' HU.out).2.2); (case tc3 => exact HCu.out); (case tc4 => exact texts_same uu HJ2.out); rintro e_ w4_ ⟨rfl, hd⟩; have n1_ := Aside0.mk (Kd.Q_below HU.out hd.below); have n2_ := Aside0.mk (Kd.Q_below HV.out hd.below); have n3_ := Aside0.mk (below_step HB.out hd.below); have n4_ := Aside0.mk (Kd.R_below HRR.out hd.below); clear HU HV HB HRR; have HU := n1_; have HV := n2_; have HB := n3_; have HRR := n4_; clear n1_ n2_ n3_ n4_ hd) | (go_at_call 11; with_reducible refine (sextonplain_Texts.calls (vv.length + 1) A2 c2 vv An cn vv true _ ?tc0 ?tc1 ?tc2 ?tc3 ?tc4).mono ?_; (case tc0 => have := (Kd.Q_reads' (Kd.Q_drop (k := uu.length) (Kd.Q_of_R HRR.out) HJ4.out)).2.2; rw [show rs.drop uu.length = vv by rw [HRS.out, List.drop_left' rfl]] at this; rw [show Kd.string.sz = 1 from rfl] at this; rw [HA2.out]; exact this); (case tc1 => rw [HC2.out, ← HJ5.out]; exact Nat.sub_le_sub_right HCR.out _); (case tc2 => exact (Kd.Q_reads' HV.out).2.2); (case tc3 => exact HCn.out); (case tc4 => exact texts_same vv HJ3.out); rintro e_ w5_ ⟨rfl, hd⟩; have n3_ := Aside0.mk (below_step HB.out hd.below); clear HU HV HB HRR; have HB := n3_; clear n3_ hd) | (go_at_call 7; refine (inbox_two _).mono ?_; rintro e_ w2_ ⟨rfl, hw⟩; have n1_ := Aside0.mk (below_step HB.out hw); clear HB; have HB := n1_; clear n1_ hw))
      go_ret
      exact ⟨rfl, HB.out⟩
    case pos =>
      have d0 : decide ((n : Int) < (l0.length : Int)) = true := decide_eq_true (by omega)
      have d1 : decide ((0 : Int) ≤ (n : Int)) = true := decide_eq_true (by omega)
      have HW1 := Aside0.mk (show wrap64 ((n : Int) + 1) = ((n + 1 : Nat) : Int) by have := HL.out; rw [wrap64_in (by omega) (by omega)]; omega)
      obtain ⟨ad, eA, hx0, hx1⟩ := at_T30 (Kd.C_below HR.out HB.out) (n : Int) (by omega) (by omega)
      subst eA
      rw [Int.toNat_natCast] at hx0 hx1
      obtain ⟨t, ht⟩ : ∃ t, (rd_T30 l0 (n : Int)).f0 = t := ⟨_, rfl⟩
      obtain ⟨s, hs⟩ : ∃ s, (rd_T30 l0 (n : Int)).f1 = s := ⟨_, rfl⟩
      rw [ht] at hx0
      rw [hs] at hx1
      clear ht hs
      go_upto_region 9 with (first | ((with_reducible refine gate_dst (N := 8) rfl ?_); refine box_event ?hg (N := 8) ?hd (cs := #[.int .i64 0, .string ⟨#[]⟩]) (t := 30) ?hr ?_; (case hd => rfl); (case hg => rfl); (case hr => first | (go_simp; done) | (go_simp; rfl)); intro gb8 hg w8_ hbox hb; have BK8 := Aside0.mk hbox; have GE8 := Aside0.mk (show w.heap.size ≤ gb8 from by rw [hg]; exact below_size HB.out); have NE8 := Aside0.mk (show gb8 ≠ g ∧ gb8 ≠ a ∧ gb8 ≠ b from by have := HX.out.lt; omega); have NU8 := Aside0.mk (Kd.Q_elderB HU.out gb8 (by rw [hg]; exact Nat.le_refl _)); have NV8 := Aside0.mk (Kd.Q_elderB HV.out gb8 (by rw [hg]; exact Nat.le_refl _)); have n1_ := Aside0.mk (Kd.Q_below NU8.out hb); have n2_ := Aside0.mk (Kd.Q_below NV8.out hb); have n3_ := Aside0.mk (HX.out.below hb); have n4_ := Aside0.mk (below_step HB.out hb); clear HU HV HX HB NU8 NV8; have HU := n1_; have HV := n2_; have HX := n3_; have HB := n4_; clear n1_ n2_ n3_ n4_ hb hbox hg; have hz0 := (blk_cell BK8.out 0).trans rfl; have hf0 := blk_frozen BK8.out 0; have hz1 := (blk_cell BK8.out 1).trans rfl; have hf1 := blk_frozen BK8.out 1))
      have n0_ := Aside0.mk (show ((w8_.setCell ⟨gb8, 0, none⟩ (.int .i64 t)).setCell ⟨gb8, 1, none⟩ (.string s)).heap[gb8]? = some (.cells #[.int .i64 t, .string s] 30 (0, 0)) from blk_put (cs := #[.int .i64 t, .string ⟨#[]⟩]) (blk_put (cs := #[.int .i64 0, .string ⟨#[]⟩]) BK8.out 0 _ rfl) 1 _ rfl)
      have n1_ := Aside0.mk (Kd.Q_mono (Kd.Q_far (p := ⟨gb8, 1, none⟩) (Kd.Q_far (p := ⟨gb8, 0, none⟩) HU.out (fun _ hk => hk.2) (.int .i64 t)) (fun _ hk => hk.2) (.string s)) (fun _ hk => hk.1))
      have n2_ := Aside0.mk (Kd.Q_mono (Kd.Q_far (p := ⟨gb8, 1, none⟩) (Kd.Q_far (p := ⟨gb8, 0, none⟩) HV.out (fun _ hk => hk.2) (.int .i64 t)) (fun _ hk => hk.2) (.string s)) (fun _ hk => hk.1))
      have n3_ := Aside0.mk ((HX.out.setCell NE8.out 0 (.int .i64 t)).setCell NE8.out 1 (.string s))
      have n4_ := Aside0.mk (show Below w.heap.size w ((w8_.setCell ⟨gb8, 0, none⟩ (.int .i64 t)).setCell ⟨gb8, 1, none⟩ (.string s)) from below_set (below_set HB.out GE8.out) GE8.out)
      clear BK8 HU HV HX HB hz0 hf0 hz1 hf1 hx0 hx1 d0 d1
      have BK8 := n0_
      have HU := n1_
      have HV := n2_
      have HX := n3_
      have HB := n4_
      clear n0_ n1_ n2_ n3_ n4_
      generalize ((w8_.setCell ⟨gb8, 0, none⟩ (.int .i64 t)).setCell ⟨gb8, 1, none⟩ (.string s)) = w9_ at BK8 HU HV HX HB ⊢
      have hz0 := (blk_cell BK8.out 0).trans rfl
      have hz1 := (blk_cell BK8.out 1).trans rfl
      by_cases ht1 : t = 1
      case pos =>
        subst ht1
        have HP := Aside0.mk (show putV 256 false true s uu vv = (uu ++ [s], vv, 0) from by unfold putV; have := HL.out; have := HN.out; simp; omega)
        go_wp2_with (first | (go_at_call 8; with_reducible refine (inbox_put (room := 256) (cl := false) (u := uu) (v := vv) true s HX.out).mono ?_; rintro e_ w10_ ⟨he, hx, hk⟩; rw [HP.out] at he hx; dsimp only at he hx; subst he; have n0_ := Aside0.mk (hk.blk BK8.out NE8.out); have n1_ := Aside0.mk (Q_moves HU.out HX.out (by decide) hk.moves); have n2_ := Aside0.mk (Q_moves HV.out HX.out (by decide) hk.moves); have n3_ := Aside0.mk (hk.below HB.out GG.out GA.out GB.out); clear BK8 HU HV HX HB hz0 hz1; have BK8 := n0_; have HU := n1_; have HV := n2_; have HX := Aside0.mk hx; have HB := n3_; clear n0_ n1_ n2_ n3_ hx hk; have hz0 := (blk_cell BK8.out 0).trans rfl; have hz1 := (blk_cell BK8.out 1).trans rfl) | ((with_reducible refine gate_builtin (b := .append) (xs := #[.tmp 62, .tmp 65]) rfl ?_); at_builtin; refine Kd.Q_append Kd.string (w0 := w) w.heap.size rfl (.tmp 62) (.tmp 65) 28 9 (.string ⟨#[]⟩) 16 rfl Try.underlying28 infoStr rfl (by decide) (by omega) (.slice Au uu.length cu) uu s [.string s] (Beside (.slice An vv.length cn)) (fun _ => False) rfl rfl ?aP (fun _ hk => hk.elim) ?aF ?aO ?aB ?aS ?aL ?_; (case aP => exact rfl); (case aB => exact HB.out); (case aF => exact (fun k_ hk => ⟨trivial, fun he => by have := Kd.Q_lt HV.out k_ he.symm; omega⟩)); (case aO => exact HU.out); (case aS => exact HB.out.size); (case aL => have := HL.out; have := HN.out; have := hn1; omega); intro v3_ w11_ ho hb hg hat; have n1_ := Aside0.mk (HX.out.grown (Kd.Q_typed HU.out) hg); have n2_ := Aside0.mk (show Kd.Q Kd.string 9 w11_ w.heap.size (Beside v3_) _ _ from Kd.Q_after (ok := fun _ => True) HV.out hg hat); have n3_ := Aside0.mk hb; have n4_ := Aside0.mk ho; clear HX HU HV HB BK8 hz0 hz1; have HX := n1_; have HV := n2_; have HU := n4_; have HB := n3_; clear n1_ n2_ n3_ n4_ ho hb hg hat))
        go_roundw
        case rel => exact ⟨n + 1, uu ++ [s], vv, by omega, by have := HN.out; simp; omega, by rw [HW1.out], HU, HV, HX, HB⟩
        case measure => rw [HW1.out]; exact meas_step _ _ hlt
      case neg =>
        by_cases ht0 : t = 0
        case pos =>
          subst ht0
          have HP := Aside0.mk (show putV 256 false false s uu vv = (uu, vv ++ [s], 0) from by unfold putV; have := HL.out; have := HN.out; simp; omega)
          go_wp2_with (first | (go_at_call 8; with_reducible refine (inbox_put (room := 256) (cl := false) (u := uu) (v := vv) false s HX.out).mono ?_; rintro e_ w10_ ⟨he, hx, hk⟩; rw [HP.out] at he hx; dsimp only at he hx; subst he; have n0_ := Aside0.mk (hk.blk BK8.out NE8.out); have n1_ := Aside0.mk (Q_moves HU.out HX.out (by decide) hk.moves); have n2_ := Aside0.mk (Q_moves HV.out HX.out (by decide) hk.moves); have n3_ := Aside0.mk (hk.below HB.out GG.out GA.out GB.out); clear BK8 HU HV HX HB hz0 hz1; have BK8 := n0_; have HU := n1_; have HV := n2_; have HX := Aside0.mk hx; have HB := n3_; clear n0_ n1_ n2_ n3_ hx hk; have hz0 := (blk_cell BK8.out 0).trans rfl; have hz1 := (blk_cell BK8.out 1).trans rfl) | ((with_reducible refine gate_builtin (b := .append) (xs := #[.tmp 67, .tmp 70]) rfl ?_); at_builtin; refine Kd.Q_append Kd.string (w0 := w) w.heap.size rfl (.tmp 67) (.tmp 70) 28 9 (.string ⟨#[]⟩) 16 rfl Try.underlying28 infoStr rfl (by decide) (by omega) (.slice An vv.length cn) vv s [.string s] (Beside (.slice Au uu.length cu)) (fun _ => False) rfl rfl ?aP (fun _ hk => hk.elim) ?aF ?aO ?aB ?aS ?aL ?_; (case aP => exact rfl); (case aB => exact HB.out); (case aF => exact (fun k_ hk => ⟨trivial, fun he => by have := Kd.Q_lt HU.out k_ he.symm; omega⟩)); (case aO => exact HV.out); (case aS => exact HB.out.size); (case aL => have := HL.out; have := HN.out; have := hn1; omega); intro v3_ w11_ ho hb hg hat; have n1_ := Aside0.mk (HX.out.grown (Kd.Q_typed HV.out) hg); have n2_ := Aside0.mk (show Kd.Q Kd.string 9 w11_ w.heap.size (Beside v3_) _ _ from Kd.Q_after (ok := fun _ => True) HU.out hg hat); have n3_ := Aside0.mk hb; have n4_ := Aside0.mk ho; clear HX HU HV HB BK8 hz0 hz1; have HX := n1_; have HU := n2_; have HV := n4_; have HB := n3_; clear n1_ n2_ n3_ n4_ ho hb hg hat))
          go_roundw
          case rel => exact ⟨n + 1, uu, vv ++ [s], by omega, by have := HN.out; simp; omega, by rw [HW1.out], HU, HV, HX, HB⟩
          case measure => rw [HW1.out]; exact meas_step _ _ hlt
        case neg =>
          have b3 : (t == 0) = false := beq_eq_false_iff_ne.mpr ht0
          have b4 : (t == 1) = false := beq_eq_false_iff_ne.mpr ht1
          clear ht0 ht1
          cases uu with
          | cons x uu =>
            obtain ⟨m, hm⟩ : ∃ m, m = (x :: uu).length := ⟨_, rfl⟩
            rw [← hm] at HU HV HCu ⊢
            have HMM := Aside0.mk (show m = uu.length + 1 by rw [hm]; rfl)
            clear hm
            have b5 : ((m : Int) == 0) = false := beq_eq_false_iff_ne.mpr (by have := HMM.out; omega)
            have b6 : decide ((m : Int) > 0) = true := decide_eq_true (by have := HMM.out; omega)
            have b7 : decide ((0 : Int) < (m : Int)) = true := decide_eq_true (by have := HMM.out; omega)
            have b8 : 0 < m := by have := HMM.out; omega
            have b9 : decide (0 < m) = true := decide_eq_true b8
            have hk3 := cut1 Au m cu uu.length HMM.out HCu.out
            obtain ⟨A3, hA3⟩ : ∃ A1, A1 = (if cu = 1 then Au else Au.map (·.add (1 * 1))) := ⟨_, rfl⟩
            obtain ⟨c3, hc3⟩ : ∃ c1, c1 = cu - 1 := ⟨_, rfl⟩
            rw [← hA3, ← hc3] at hk3
            have HA3 := Aside0.mk hA3
            have HC3 := Aside0.mk hc3
            clear hA3 hc3
            go_wp2_with (first | (go_at_call 9; with_reducible refine (inbox_take (u := x :: uu) (v := vv) HX.out).mono ?_; rintro e_ w10_ ⟨he, hx, hk⟩; rw [show takeV (x :: uu) (vv) = (x, true, 0, uu, vv) from rfl] at he hx; dsimp only at he hx; subst he; have n1_ := Aside0.mk (Q_moves HU.out HX.out (by decide) hk.moves); have n2_ := Aside0.mk (Q_moves HV.out HX.out (by decide) hk.moves); have n3_ := Aside0.mk (hk.below HB.out GG.out GA.out GB.out); clear BK8 HU HV HX HB hz0 hz1; have HU := n1_; have HV := n2_; have HX := Aside0.mk hx; have HB := n3_; clear n1_ n2_ n3_ hx hk; obtain ⟨ad3, eA3, hx3⟩ := Kd.at_string (Kd.Q_reads' HU.out).2.2 0 (by omega) (by simp); subst eA3; rw [show rdOf ByteArray.empty (x :: uu) 0 = x from rfl] at hx3; replace hx3 := (show w10_.cell? ad3 = some (.string x) from by simpa [Addr.add] using hx3)))
            go_roundw
            case rel =>
              have hd := Kd.Q_drop (k := 1) HU.out (by simp)
              rw [show m - 1 = uu.length by rw [HMM.out]; rfl, show (x :: uu).drop 1 = uu from rfl, show Kd.string.sz = 1 from rfl, ← HA3.out, ← HC3.out] at hd
              have ho : (Value.slice A3 uu.length c3).ownBlock = (Value.slice (some ad3) m cu).ownBlock := by rw [HA3.out]; exact cut_owner _ _ _ _ _ _ _
              exact ⟨n + 1, uu, vv, by omega, by have := HN.out; simp at this; omega, by rw [HW1.out], ⟨hd⟩, ⟨Kd.Q_mono HV.out (fun k_ hk => ⟨trivial, by rw [ho]; exact hk.2⟩)⟩, HX, HB⟩
            case measure => rw [HW1.out]; exact meas_step _ _ hlt
          | nil =>
            cases vv with
            | cons x vv =>
              obtain ⟨m, hm⟩ : ∃ m, m = (x :: vv).length := ⟨_, rfl⟩
              rw [← hm] at HU HV HCn ⊢
              have HMM := Aside0.mk (show m = vv.length + 1 by rw [hm]; rfl)
              clear hm
              have b5 : ((m : Int) == 0) = false := beq_eq_false_iff_ne.mpr (by have := HMM.out; omega)
              have b7 : decide ((0 : Int) < (m : Int)) = true := decide_eq_true (by have := HMM.out; omega)
              have b8 : 0 < m := by have := HMM.out; omega
              have b9 : decide (0 < m) = true := decide_eq_true b8
              have hk3 := cut1 An m cn vv.length HMM.out HCn.out
              obtain ⟨A3, hA3⟩ : ∃ A1, A1 = (if cn = 1 then An else An.map (·.add (1 * 1))) := ⟨_, rfl⟩
              obtain ⟨c3, hc3⟩ : ∃ c1, c1 = cn - 1 := ⟨_, rfl⟩
              rw [← hA3, ← hc3] at hk3
              have HA3 := Aside0.mk hA3
              have HC3 := Aside0.mk hc3
              clear hA3 hc3
              go_wp2_with (first | (go_at_call 9; with_reducible refine (inbox_take (u := []) (v := x :: vv) HX.out).mono ?_; rintro e_ w10_ ⟨he, hx, hk⟩; rw [show takeV ([]) (x :: vv) = (x, false, 0, [], vv) from rfl] at he hx; dsimp only at he hx; subst he; have n1_ := Aside0.mk (Q_moves HU.out HX.out (by decide) hk.moves); have n2_ := Aside0.mk (Q_moves HV.out HX.out (by decide) hk.moves); have n3_ := Aside0.mk (hk.below HB.out GG.out GA.out GB.out); clear BK8 HU HV HX HB hz0 hz1; have HU := n1_; have HV := n2_; have HX := Aside0.mk hx; have HB := n3_; clear n1_ n2_ n3_ hx hk; obtain ⟨ad3, eA3, hx3⟩ := Kd.at_string (Kd.Q_reads' HV.out).2.2 0 (by omega) (by simp); subst eA3; rw [show rdOf ByteArray.empty (x :: vv) 0 = x from rfl] at hx3; replace hx3 := (show w10_.cell? ad3 = some (.string x) from by simpa [Addr.add] using hx3)))
              go_roundw
              case rel =>
                have hd := Kd.Q_drop (k := 1) HV.out (by simp)
                rw [show m - 1 = vv.length by rw [HMM.out]; rfl, show (x :: vv).drop 1 = vv from rfl, show Kd.string.sz = 1 from rfl, ← HA3.out, ← HC3.out] at hd
                have ho : (Value.slice A3 vv.length c3).ownBlock = (Value.slice (some ad3) m cn).ownBlock := by rw [HA3.out]; exact cut_owner _ _ _ _ _ _ _
                exact ⟨n + 1, [], vv, by omega, by have := HN.out; simp at this ⊢; omega, by rw [HW1.out], ⟨Kd.Q_mono HU.out (fun k_ hk => ⟨trivial, by rw [ho]; exact hk.2⟩)⟩, ⟨hd⟩, HX, HB⟩
              case measure => rw [HW1.out]; exact meas_step _ _ hlt
            | nil =>
              go_wp2_with (first | (go_at_call 9; with_reducible refine (inbox_take (u := []) (v := []) HX.out).mono ?_; rintro e_ w10_ ⟨he, hx, hk⟩; rw [show takeV ([]) ([]) = (⟨#[]⟩, false, 6, [], []) from rfl] at he hx; dsimp only at he hx; subst he; have n1_ := Aside0.mk (Q_moves HU.out HX.out (by decide) hk.moves); have n2_ := Aside0.mk (Q_moves HV.out HX.out (by decide) hk.moves); have n3_ := Aside0.mk (hk.below HB.out GG.out GA.out GB.out); clear BK8 HU HV HX HB hz0 hz1; have HU := n1_; have HV := n2_; have HX := Aside0.mk hx; have HB := n3_; clear n1_ n2_ n3_ hx hk))
              go_roundw
              case rel => exact ⟨n + 1, [], [], by omega, by simp, by rw [HW1.out], HU, HV, HX, HB⟩
              case measure => rw [HW1.out]; exact meas_step _ _ hlt
theorem sextonlaw23_InboxOnce.calls (k : Nat) (A0 : Option Addr) (c0 : Nat) (l0 : List S30) (r : Bool) (w : World) (hr0 : Kd.C k30 w A0 l0.length l0) (hc0 : l0.length ≤ c0) (h : sextonlaw23_InboxOnce.f k l0 = some r) : Calls Try.prog 3 #[.slice A0 l0.length c0] w fun e w' => e = .returned (.bool r) ∧ Below w.heap.size w w' := by
  simp only [sextonlaw23_InboxOnce.f, Option.some.injEq] at h
  subst h
  by_cases hb : (l0.length : Int) > 200
  · exact inboxOnce_large A0 c0 l0 w hr0 hc0 hb
  · exact inboxOnce_main A0 c0 l0 w hr0 hc0 hb
end Go.Proofs.Ythmeagbfoccnlaa.FA
