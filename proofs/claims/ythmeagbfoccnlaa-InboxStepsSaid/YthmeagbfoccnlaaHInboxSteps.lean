/- Written by hand (wip/tools/gen_inbox_steps.py): the law InboxSteps: every inbox, step by step. -/
import Derived.Test.YthmeagbfoccnlaaHInboxDoes
namespace Go.Proofs.Ythmeagbfoccnlaa.FA
open Go.Conc Go.RowKit Go.Proofs.YthmeagbfoccnlaaW.PrintWords Go.Proofs.YthmeagbfoccnlaaW.PrintLast Go.Proofs.YthmeagbfoccnlaaW.PrintMore Go.Proofs.Ythmeagbfoccnlaa.Hand Go.Proofs.Ythmeagbfoccnlaa.B
set_option linter.unusedVariables false
set_option linter.unusedSimpArgs false
theorem RBox.lower {w : World} {N N' h room cl u v Vu Vv} (r : RBox w N h room cl u v Vu Vv) (hn : N' ≤ N) : RBox w N' h room cl u v Vu Vv :=
  ⟨r.hb, Kd.Q_lower r.hu hn, Kd.Q_lower r.hv hn, Nat.le_trans hn r.hN, Nat.le_trans hn r.hs⟩
theorem RBox.setCell {w : World} {N h room cl u v Vu Vv} (r : RBox w N h room cl u v Vu Vv) {k t : Nat} {cells : Array Value} (hk : k ≠ h) (hb : w.heap[k]? = some (.cells cells t (0, 0))) (ht : ∀ q, q ∈ 9 :: (Kd.string : Kd ByteArray).E → q ≠ t) (i : Nat) (x : Value) : RBox (w.setCell ⟨k, i, none⟩ x) N h room cl u v Vu Vv :=
  ⟨(Below.heap_setCell w ⟨k, i, none⟩ x h (Ne.symm hk)).trans r.hb, Kd.Q_set r.hu hb ht i x, Kd.Q_set r.hv hb ht i x, r.hN, by simp; exact r.hs⟩
def sextonlaw23_InboxSteps.f (k : Nat) (a0 : Int) (l0 : List S30) : Option Bool := some true
set_option maxHeartbeats 4000000 in
theorem inboxSteps_bad (n : Int) (A0 : Option Addr) (c0 : Nat) (l0 : List S30) (w : World) (hr0 : Kd.C k30 w A0 l0.length l0) (hc0 : l0.length ≤ c0) (hn : n < 1 ∨ 256 < n) : Calls Try.prog 4 #[.int .i64 n, .slice A0 l0.length c0] w fun e w' => e = .returned (.bool true) ∧ Below w.heap.size w w' := by
  have HB := Aside0.mk (Below.refl w.heap.size w)
  have HN := Aside0.mk hn
  clear hn hr0 hc0
  go_enter Try.func4, Try.ntmps4
  go_wp2_with (first | (go_at_call 6; refine (inbox_new_bad n HN.out _).mono ?_; rintro e_ w1_ ⟨rfl, rfl⟩) | (go_at_call 12; refine (ref_new_bad n HN.out _).mono ?_; rintro e_ w1_ ⟨rfl, rfl⟩) | (go_at_call 7; refine (inbox_two _).mono ?_; rintro e_ w2_ ⟨rfl, hw⟩; have n1_ := Aside0.mk (below_step HB.out hw); clear HB; have HB := n1_; clear n1_ hw))
  go_ret
  exact ⟨rfl, HB.out⟩
set_option maxHeartbeats 16000000 in
set_option maxRecDepth 100000 in
theorem inboxSteps_large (m : Nat) (A0 : Option Addr) (c0 : Nat) (l0 : List S30) (w : World) (hr0 : Kd.C k30 w A0 l0.length l0) (hc0 : l0.length ≤ c0) (hm0 : 1 ≤ m) (hm : m ≤ 256) (h : (l0.length : Int) > 600) : Calls Try.prog 4 #[.int .i64 (m : Int), .slice A0 l0.length c0] w fun e w' => e = .returned (.bool true) ∧ Below w.heap.size w w' := by
  have HB := Aside0.mk (Below.refl w.heap.size w)
  have HM0 := Aside0.mk hm0
  have HM := Aside0.mk hm
  have b1 : decide ((l0.length : Int) > 600) = true := decide_eq_true h
  have HL := Aside0.mk h
  have HCr := Aside0.mk hr0
  have HC := Aside0.mk hc0
  clear hm0 hm h hr0 hc0
  go_enter Try.func4, Try.ntmps4
  go_wp2_with (first | (go_at_call 6; refine (inbox_new m HM0.out HM.out _).mono ?_; rintro e_ w1_ ⟨g, a, b, rfl, hx, hg, ha, hbb, hw⟩; have HX := Aside0.mk hx; have GG := Aside0.mk hg; have GA := Aside0.mk ha; have GB := Aside0.mk hbb; have n1_ := Aside0.mk (below_step HB.out hw); clear HB; have HB := n1_; clear n1_ hx hg ha hbb hw) | (go_at_call 12; refine (ref_new m HM0.out HM.out _).mono ?_; rintro e_ w2_ ⟨h, rfl, hr, hw⟩; have HR := Aside0.mk (hr.lower HB.out.size); have n0_ := Aside0.mk (HX.out.below hw); have n1_ := Aside0.mk (below_step HB.out hw); clear HB HX; have HX := n0_; have HB := n1_; clear n0_ n1_ hr hw) | (go_at_call 7; refine (inbox_two _).mono ?_; rintro e_ w2_ ⟨rfl, hw⟩; have n1_ := Aside0.mk (below_step HB.out hw); clear HB; have HB := n1_; clear n1_ hw))
  go_ret
  exact ⟨rfl, HB.out⟩
set_option maxHeartbeats 16000000 in
set_option maxRecDepth 100000 in
theorem inboxSteps_main (m : Nat) (A0 : Option Addr) (c0 : Nat) (l0 : List S30) (w : World) (hr0 : Kd.C k30 w A0 l0.length l0) (hc0 : l0.length ≤ c0) (hm0 : 1 ≤ m) (hm : m ≤ 256) (h : ¬ (l0.length : Int) > 600) : Calls Try.prog 4 #[.int .i64 (m : Int), .slice A0 l0.length c0] w fun e w' => e = .returned (.bool true) ∧ Below w.heap.size w w' := by
  have HB := Aside0.mk (Below.refl w.heap.size w)
  have HM0 := Aside0.mk hm0
  have HM := Aside0.mk hm
  have b1 : decide ((l0.length : Int) > 600) = false := decide_eq_false h
  have HL := Aside0.mk h
  have HCr := Aside0.mk hr0
  have HC := Aside0.mk hc0
  clear hm0 hm h hr0 hc0
  go_enter Try.func4, Try.ntmps4
  go_wp2_with (first | (go_at_call 6; refine (inbox_new m HM0.out HM.out _).mono ?_; rintro e_ w1_ ⟨g, a, b, rfl, hx, hg, ha, hbb, hw⟩; have HX := Aside0.mk hx; have GG := Aside0.mk hg; have GA := Aside0.mk ha; have GB := Aside0.mk hbb; have n1_ := Aside0.mk (below_step HB.out hw); clear HB; have HB := n1_; clear n1_ hx hg ha hbb hw) | (go_at_call 12; refine (ref_new m HM0.out HM.out _).mono ?_; rintro e_ w2_ ⟨h, rfl, hr, hw⟩; have HR := Aside0.mk (hr.lower HB.out.size); have n0_ := Aside0.mk (HX.out.below hw); have n1_ := Aside0.mk (below_step HB.out hw); clear HB HX; have HX := n0_; have HB := n1_; clear n0_ n1_ hr hw))
  clear b1
  have HBo := Aside0.mk (show Both w w.heap.size g a b h m w2_ from ⟨_, _, _, _, _, HX.out, HR.out, by simp, by simp, HB.out⟩)
  clear HX HR HB
  go_loopw [43] (fun i w' => ∃ n : Nat, n ≤ l0.length ∧ i = .int .i64 (n : Int) ∧ Aside0 (Both w w.heap.size g a b h m w')) (fun i _ => ((l0.length : Int) - intOf i).toNat)
  case atStart => exact ⟨0, by omega, rfl, HBo⟩
  case round =>
    clear HBo
    obtain ⟨n, hn1, rfl, HBo⟩ := hrel
    obtain ⟨cl, u, v, Vu, Vv, hx, hr, hu, hv, hb⟩ := HBo.out
    clear HBo
    have HX := Aside0.mk hx
    have HR := Aside0.mk hr
    have HU := Aside0.mk hu
    have HV := Aside0.mk hv
    have HB := Aside0.mk hb
    clear hx hr hu hv hb
    by_cases hlt : n < l0.length
    case neg =>
      obtain rfl : n = l0.length := by omega
      have d0 : decide ((l0.length : Int) < (l0.length : Int)) = false := decide_eq_false (by omega)
      go_wp2_with (first | (go_at_call 7; refine (inbox_two _).mono ?_; rintro e_ w2_ ⟨rfl, hw⟩; have n1_ := Aside0.mk (below_step HB.out hw); clear HB; have HB := n1_; clear n1_ hw))
      go_ret
      exact ⟨rfl, HB.out⟩
    case pos =>
      have d0 : decide ((n : Int) < (l0.length : Int)) = true := decide_eq_true (by omega)
      have d1 : decide ((0 : Int) ≤ (n : Int)) = true := decide_eq_true (by omega)
      have HW1 := Aside0.mk (show wrap64 ((n : Int) + 1) = ((n + 1 : Nat) : Int) by have := HL.out; rw [wrap64_in (by omega) (by omega)]; omega)
      obtain ⟨ad, eA, hx0, hx1⟩ := at_T30 (Kd.C_below HCr.out HB.out) (n : Int) (by omega) (by omega)
      subst eA
      rw [Int.toNat_natCast] at hx0 hx1
      obtain ⟨t, ht⟩ : ∃ t, (rd_T30 l0 (n : Int)).f0 = t := ⟨_, rfl⟩
      obtain ⟨s, hs⟩ : ∃ s, (rd_T30 l0 (n : Int)).f1 = s := ⟨_, rfl⟩
      rw [ht] at hx0
      rw [hs] at hx1
      clear ht hs
      go_upto_region 10 with (first | ((with_reducible refine gate_dst (N := 10) rfl ?_); refine box_event ?hg (N := 10) ?hd (cs := #[.int .i64 0, .string ⟨#[]⟩]) (t := 30) ?hr ?_; (case hd => rfl); (case hg => rfl); (case hr => first | (go_simp; done) | (go_simp; rfl)); intro gb8 hg w8_ hbox hb; have BK8 := Aside0.mk hbox; have GE8 := Aside0.mk (show w.heap.size ≤ gb8 from by rw [hg]; exact below_size HB.out); have NE8 := Aside0.mk (show gb8 ≠ g ∧ gb8 ≠ a ∧ gb8 ≠ b from by have := HX.out.lt; omega); have NH8 := Aside0.mk (show gb8 ≠ h from by have := blk_lt HR.out.hb; omega); have n1_ := Aside0.mk (HR.out.below hb); have n3_ := Aside0.mk (HX.out.below hb); have n4_ := Aside0.mk (below_step HB.out hb); clear HR HX HB; have HR := n1_; have HX := n3_; have HB := n4_; clear n1_ n3_ n4_ hb hbox hg; have hz0 := (blk_cell BK8.out 0).trans rfl; have hf0 := blk_frozen BK8.out 0; have hz1 := (blk_cell BK8.out 1).trans rfl; have hf1 := blk_frozen BK8.out 1))
      have n0_ := Aside0.mk (show ((w8_.setCell ⟨gb8, 0, none⟩ (.int .i64 t)).setCell ⟨gb8, 1, none⟩ (.string s)).heap[gb8]? = some (.cells #[.int .i64 t, .string s] 30 (0, 0)) from blk_put (cs := #[.int .i64 t, .string ⟨#[]⟩]) (blk_put (cs := #[.int .i64 0, .string ⟨#[]⟩]) BK8.out 0 _ rfl) 1 _ rfl)
      have n1_ := Aside0.mk (show RBox ((w8_.setCell ⟨gb8, 0, none⟩ (.int .i64 t)).setCell ⟨gb8, 1, none⟩ (.string s)) w.heap.size h m cl u v Vu Vv from (HR.out.setCell NH8.out BK8.out (by decide) 0 (.int .i64 t)).setCell NH8.out (blk_put (cs := #[.int .i64 0, .string ⟨#[]⟩]) BK8.out 0 _ rfl) (by decide) 1 (.string s))
      have n3_ := Aside0.mk ((HX.out.setCell NE8.out 0 (.int .i64 t)).setCell NE8.out 1 (.string s))
      have n4_ := Aside0.mk (show Below w.heap.size w ((w8_.setCell ⟨gb8, 0, none⟩ (.int .i64 t)).setCell ⟨gb8, 1, none⟩ (.string s)) from below_set (below_set HB.out GE8.out) GE8.out)
      clear BK8 HR HX HB hz0 hf0 hz1 hf1 hx0 hx1 d0 d1
      have BK8 := n0_
      have HR := n1_
      have HX := n3_
      have HB := n4_
      clear n0_ n1_ n3_ n4_
      generalize ((w8_.setCell ⟨gb8, 0, none⟩ (.int .i64 t)).setCell ⟨gb8, 1, none⟩ (.string s)) = w9_ at BK8 HR HX HB ⊢
      have hz0 := (blk_cell BK8.out 0).trans rfl
      have hz1 := (blk_cell BK8.out 1).trans rfl
      go_wp2_with (first | (go_at_call 13; (with_reducible refine (inbox_does t s HX.out HR.out HU.out HV.out HM.out HB.out GG.out GA.out GB.out).mono ?_); rintro e_ w10_ ⟨he, hbo⟩; subst he; obtain ⟨cl', u', v', Vu', Vv', hx, hr, hu, hv, hb⟩ := hbo; obtain ⟨A1, c1, he1, _⟩ := Kd.Q_slice hr.hu; subst he1; obtain ⟨A2, c2, he2, _⟩ := Kd.Q_slice hr.hv; subst he2; clear HX HR HU HV HB hz0 hz1 BK8; have HX := Aside0.mk hx; have HR := Aside0.mk hr; have HU := Aside0.mk hu; have HV := Aside0.mk hv; have HB := Aside0.mk hb; clear hx hr hu hv hb) | (go_at_call 14; (with_reducible refine (inbox_len HX.out).mono ?_); rintro e_ w11_ ⟨rfl, rfl⟩; have n1_ := Aside0.mk (HX.out.below (below_drew (Below.refl _ _))); have n2_ := Aside0.mk (HR.out.below (below_drew (Below.refl _ _))); have n3_ := Aside0.mk (below_step HB.out (below_drew (Below.refl _ _))); clear HX HR HB; have HX := n1_; have HR := n2_; have HB := n3_; clear n1_ n2_ n3_; have hz1 := (blk_cell HR.out.hb 1).trans rfl; have hz2 := (blk_cell HR.out.hb 2).trans rfl))
      go_roundw
      case rel => exact ⟨n + 1, by omega, by rw [HW1.out], ⟨⟨_, _, _, _, _, HX.out, HR.out, HU.out, HV.out, HB.out⟩⟩⟩
      case measure => rw [HW1.out]; exact meas_step _ _ hlt
theorem sextonlaw23_InboxSteps.calls (k : Nat) (a0 : Int) (A0 : Option Addr) (c0 : Nat) (l0 : List S30) (r : Bool) (w : World) (hr0 : Kd.C k30 w A0 l0.length l0) (hc0 : l0.length ≤ c0) (h : sextonlaw23_InboxSteps.f k a0 l0 = some r) : Calls Try.prog 4 #[.int .i64 a0, .slice A0 l0.length c0] w fun e w' => e = .returned (.bool r) ∧ Below w.heap.size w w' := by
  simp only [sextonlaw23_InboxSteps.f, Option.some.injEq] at h
  subst h
  by_cases hn : a0 < 1 ∨ 256 < a0
  · exact inboxSteps_bad a0 A0 c0 l0 w hr0 hc0 hn
  · obtain ⟨m, rfl⟩ : ∃ m : Nat, a0 = (m : Int) := ⟨a0.toNat, by omega⟩
    by_cases hb : (l0.length : Int) > 600
    · exact inboxSteps_large m A0 c0 l0 w hr0 hc0 (by omega) (by omega) hb
    · exact inboxSteps_main m A0 c0 l0 w hr0 hc0 (by omega) (by omega) hb
end Go.Proofs.Ythmeagbfoccnlaa.FA
