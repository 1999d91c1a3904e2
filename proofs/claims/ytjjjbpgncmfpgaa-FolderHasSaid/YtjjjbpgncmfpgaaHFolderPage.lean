/- Written by hand: folder.Page (a closure over a parameter). -/
import Derived.Test.YtjjjbpgncmfpgaaHFolderBase
import Derived.Test.YtjjjbpgncmfpgaaFAfolderCheck
import Derived.Outline
namespace Go.Proofs.Ytjjjbpgncmfpgaa.FA
open Go.RowKit Go.Proofs.YtjjjbpgncmfpgaaW.PrintWords Go.Proofs.YtjjjbpgncmfpgaaW.PrintLast Go.Proofs.YtjjjbpgncmfpgaaW.PrintMore Go.Proofs.Ytjjjbpgncmfpgaa.Hand Go.Proofs.Ytjjjbpgncmfpgaa.B
set_option linter.unusedVariables false
set_option linter.unusedSimpArgs false
def isBehind (cookie : Int) (x : S30) : Bool := decide (cookie < x.f1)
set_option maxHeartbeats 400000 in
theorem page_closure (x : S30) (cookie : Int) (g : Nat) (w : World) (hb : w.cell? ⟨g, 0, none⟩ = some (.int .i64 cookie)) :
    Calls Try.prog 36 #[.agg #[.string x.f0, .int .i64 x.f1, .int .i64 x.f2.f0, .int .i64 x.f2.f1], .pointer (some ⟨g, 0, none⟩)] w fun e w' => e = .returned (.bool (isBehind cookie x)) ∧ Below w.heap.size w w' := by
  have HB := Aside0.mk (Below.refl w.heap.size w)
  have HC := Aside0.mk hb
  go_enter Try.func36, Try.ntmps36
  go_wp2_with (first | ((with_reducible refine gate_dst (N := 2) rfl ?_); refine box_event ?hg (N := 2) ?hd (cs := #[.string x.f0, .int .i64 x.f1, .int .i64 x.f2.f0, .int .i64 x.f2.f1]) (t := 30) ?hr ?_; (case hd => rfl); (case hg => rfl); (case hr => first | (go_simp; done) | (go_simp; rfl)); intro gb hg w1 hbox hb1; have n1_ := Aside0.mk (below_step HB.out hb1); have hcap : w1.cell? ⟨g, 0, none⟩ = some (.int .i64 cookie) := pw_cell_below hb1 HC.out; have BK := Aside0.mk hbox; clear HB; have HB := n1_; clear n1_ hb1 hbox hg; have hz1 : w1.cell? ⟨gb, 1, none⟩ = some (.int .i64 x.f1) := (blk_cell BK.out 1).trans rfl))
  go_ret
  exact ⟨rfl, HB.out⟩
/-- What a page is, where a folder is right. -/
def pageOf (l : List S30) (cookie most : Int) : List S30 × Int :=
  if cookie < 0 ∨ most < 1 ∨ 64 < most then ([], 1)
  else if idxFrom (isBehind cookie) l 0 < 0 then ([], 0)
  else ((l.drop (idxFrom (isBehind cookie) l 0).toNat).take most.toNat, 0)
def folder_Page.f (k : Nat) (l : List S30) (nx cookie most : Int) : Option (List S30 × Int) :=
  (folder_Check.f k l nx).bind fun c => if c = 0 then (if l.length < 3518437208883 then some (pageOf l cookie most) else none) else some ([], c)
theorem folder_Page.mono : ∀ l nx cookie most k, LeO (folder_Page.f k l nx cookie most) (folder_Page.f (k + 1) l nx cookie most) := by
  intro l nx cookie most k
  unfold folder_Page.f
  exact LeO.bind (folder_Check.mono l nx k) (fun _ => LeO.refl _)
attribute [local go_sem] max2_int min2_int max_two min_two max_three min_three max_four min_four
theorem idxFrom_range {α : Type} (p : α → Bool) : ∀ (l : List α) (i : Int), 0 ≤ i → idxFrom p l i = -1 ∨ (i ≤ idxFrom p l i ∧ idxFrom p l i < i + l.length)
  | [], _, _ => .inl rfl
  | x :: t, i, hi => by
    unfold idxFrom
    by_cases hp : p x
    · rw [if_pos hp]; right; simp; omega
    · rw [if_neg hp]
      rcases idxFrom_range p t (i + 1) (by omega) with h | h
      · exact .inl h
      · right; simp only [List.length_cons]; omega
set_option maxHeartbeats 4000000 in
theorem folder_Page.ok (k : Nat) (A0_0 : Option Addr) (c0_0 : Nat) (l0_0 : List S30) (a0_1 a1 a2 : Int) (w : World) (hr0_0 : Kd.C k30 w A0_0 l0_0.length l0_0) (hc0_0 : l0_0.length ≤ c0_0) (h : folder_Check.f k l0_0 a0_1 = some 0) (hlen : l0_0.length < 3518437208883) :
    Calls Try.prog 24 #[.agg #[.slice A0_0 l0_0.length c0_0, .int .i64 a0_1], .int .i64 a1, .int .i64 a2] w fun e w' => ∃ v0_ : Value, e = .returned (.tuple #[v0_, .int .i64 (pageOf l0_0 a1 a2).2]) ∧ Kd.R k30 30 w' w.heap.size (fun _ => True) v0_ (pageOf l0_0 a1 a2).1 ∧ Below w.heap.size w w' := by
  have HR0 := Aside0.mk hr0_0
  have HC0 := Aside0.mk hc0_0
  have HF := Aside0.mk h
  have HN := Aside0.mk hlen
  clear hr0_0 hc0_0 h hlen
  have HP := Aside0.mk (show pageOf l0_0 a1 a2 = pageOf l0_0 a1 a2 from rfl)
  generalize hpg : pageOf l0_0 a1 a2 = pg at *
  clear HP
  have HP := Aside0.mk hpg
  clear hpg
  go_enter Try.func24, Try.ntmps24
  go_wp2_with (fail)
  have hB : Below w.heap.size w ((w.alloc (Obj.cells #[Value.slice A0_0 l0_0.length c0_0, Value.int IntKind.i64 a0_1] 24)).alloc (Obj.cells #[Value.int IntKind.i64 a1] 3)) := below_alloc (below_alloc (Below.refl _ _) _) _
  have hc := folder_Check.calls k A0_0 c0_0 l0_0 a0_1 0 _ (Kd.C_below HR0.out hB) HC0.out HF.out
  refine hc.mono ?_
  rintro e w1 ⟨rfl, hb1⟩
  have HB := Aside0.mk (hB.trans (hb1.mono (by simp; omega)))
  have hx0 : w1.cell? ⟨w.heap.size, 0, none⟩ = some (Value.slice A0_0 l0_0.length c0_0) := pw_cell_below hb1 (by simp)
  have hx1 : w1.cell? ⟨w.heap.size, 1, none⟩ = some (Value.int IntKind.i64 a0_1) := pw_cell_below hb1 (by simp)
  have hx2 : w1.cell? ⟨w.heap.size + 1, 0, none⟩ = some (Value.int IntKind.i64 a1) := pw_cell_below hb1 (by simp)
  clear hb1 hc hB
  by_cases d1 : a1 < 0
  · have d1b : decide (a1 < 0) = true := decide_eq_true d1
    have hpg : pg = ([], 1) := by rw [← HP.out, pageOf, if_pos (.inl d1)]
    subst hpg
    clear d1
    go_wp2
    (try go_wp2)
    go_ret2
    exact ⟨_, rfl, Kd.R_nil _ _ _ _ _, HB.out⟩
  have d1b : decide (a1 < 0) = false := decide_eq_false d1
  by_cases d2 : a2 < 1
  · have d2b : decide (a2 < 1) = true := decide_eq_true d2
    have hpg : pg = ([], 1) := by rw [← HP.out, pageOf, if_pos (.inr (.inl d2))]
    subst hpg
    clear d1 d2
    go_wp2
    (try go_wp2)
    go_ret2
    exact ⟨_, rfl, Kd.R_nil _ _ _ _ _, HB.out⟩
  have d2b : decide (a2 < 1) = false := decide_eq_false d2
  by_cases d3 : 64 < a2
  · have d3b : decide (64 < a2) = true := decide_eq_true d3
    have hpg : pg = ([], 1) := by rw [← HP.out, pageOf, if_pos (.inr (.inr d3))]
    subst hpg
    clear d1 d2 d3
    go_wp2
    (try go_wp2)
    go_ret2
    exact ⟨_, rfl, Kd.R_nil _ _ _ _ _, HB.out⟩
  have d3b : decide (64 < a2) = false := decide_eq_false d3
  have hpg : pg = (if idxFrom (isBehind a1) l0_0 0 < 0 then ([], 0) else ((l0_0.drop (idxFrom (isBehind a1) l0_0 0).toNat).take a2.toNat, 0)) := by
    rw [← HP.out, pageOf, if_neg (by omega)]
  have hrg := idxFrom_range (isBehind a1) l0_0 0 (by omega)
  obtain ⟨i, hi⟩ : ∃ i : Int, idxFrom (isBehind a1) l0_0 0 = i := ⟨_, rfl⟩
  rw [hi] at hpg hrg
  have HI := Aside0.mk hi
  have HG := Aside0.mk hrg
  have HPG := Aside0.mk hpg
  have HA2 := Aside0.mk (show 1 ≤ a2 ∧ a2 ≤ 64 by omega)
  have hX2 := Aside0.mk hx2
  clear hi hrg hpg d1 d2 d3 HP
  go_wp2_with (fail)
  have eg : ∀ args w, (callFunc 36 args).run Try.prog w = .ok (.enter 36 args) w := fun args w => enters_ Try.func36 (by kernel_rfl) rfl args w
  have hc := indexFunc_calls (isBehind a1) 36 #[.pointer (some ⟨w.heap.size + 1, 0, none⟩)] eg A0_0 c0_0 l0_0 w1 (fun W x hb => (page_closure x a1 (w.heap.size + 1) W (pw_cell_below hb hX2.out)).mono (fun e w' h => ⟨h.1, hb.trans (h.2.mono hb.size)⟩)) (by have := HN.out; omega) (Kd.C_below HR0.out HB.out) HC0.out
  rw [HI.out] at hc
  refine hc.mono ?_
  rintro e w2 ⟨rfl, hb2⟩
  have hy0 : w2.cell? ⟨w.heap.size, 0, none⟩ = some (Value.slice A0_0 l0_0.length c0_0) := pw_cell_below hb2 hx0
  clear hx0 hx1 hx2 hX2 eg hc
  have HB2 := Aside0.mk (HB.out.trans (hb2.mono (below_size HB.out)))
  clear HB hb2
  have hu := Try.underlying22
  by_cases d4 : i < 0
  · have d4b : decide (i < 0) = true := decide_eq_true d4
    have hpg := HPG.out
    rw [if_pos d4] at hpg
    subst hpg
    clear d4
    go_wp2
    (try go_wp2)
    go_ret2
    exact ⟨_, rfl, Kd.R_nil _ _ _ _ _, HB2.out⟩
  · have d4b : decide (i < 0) = false := decide_eq_false d4
    have hpg := HPG.out
    rw [if_neg d4] at hpg
    have hi0 : 0 ≤ i := by omega
    have hi1 : i ≤ (l0_0.length : Int) := by have := HG.out; omega
    have hi2 : i < (l0_0.length : Int) := by have := HG.out; omega
    have hL : (l0_0.drop i.toNat).length = l0_0.length - i.toNat := List.length_drop
    obtain ⟨ti, hti, htz⟩ := Option.map_eq_some_iff.1 info30
    simp only [Prod.mk.injEq] at htz
    have hcut := cut_from (P := Try.prog) 22 30 .i64 hu hti 4 htz.2.1 A0_0 l0_0.length c0_0 i hi0 hi1
    obtain ⟨A1, hA1⟩ : ∃ A1, (if c0_0 = i.toNat then A0_0 else A0_0.map (·.add (i.toNat * 4))) = A1 := ⟨_, rfl⟩
    have HR1 := Aside0.mk (Kd.C_drop (c := c0_0) (Kd.C_below HR0.out HB2.out) (m := i.toNat) (by omega) HC0.out)
    rw [show (k30).sz = 4 from rfl, hA1, hL] at HR1
    rw [hA1] at hcut
    have hi3 : i.toNat < l0_0.length := by omega
    obtain ⟨n1, hn1⟩ : ∃ n1, l0_0.length - i.toNat = n1 := ⟨_, rfl⟩
    obtain ⟨c1, hc1⟩ : ∃ c1, c0_0 - i.toNat = c1 := ⟨_, rfl⟩
    rw [hn1, hc1] at hcut
    rw [hn1] at HR1 hL
    have hnc : n1 ≤ c1 := by have := HC0.out; omega
    by_cases d5 : a2 ≤ (n1 : Int)
    · have d5b : decide (a2 ≤ (n1 : Int)) = true := decide_eq_true d5
      have hcut2 := cut_to (P := Try.prog) 22 30 .i64 hu hti A1 n1 c1 a2 (by have := HA2.out; omega) (by omega) hnc
      have HR2 := Aside0.mk (Kd.C_take (m := (a2).toNat) (show Kd.C k30 w2 A1 (l0_0.drop i.toNat).length (l0_0.drop i.toNat) by rw [hL]; exact HR1.out) (by rw [hL]; omega))
      have hL2 : ((l0_0.drop i.toNat).take (a2).toNat).length = (a2).toNat := by rw [List.length_take, hL]; omega
      rw [hL2] at HR2
      have hpg2 : pg = ((l0_0.drop i.toNat).take (a2).toNat, 0) := by
        rw [hpg]
      obtain ⟨qs, hqs⟩ : ∃ qs, (l0_0.drop i.toNat).take (a2).toNat = qs := ⟨_, rfl⟩
      rw [hqs] at hL2 HR2 hpg2
      subst hpg2
      have HL2 := Aside0.mk hL2
      have HNC := Aside0.mk hnc
      have HQN := Aside0.mk (show qs.length ≤ c1 by rw [hL2]; omega)
      have HQS := Aside0.mk (show qs.length < 3518437208883 by have := HN.out; have h2 := congrArg List.length hqs; rw [List.length_take, List.length_drop] at h2; omega)
      have hjj : 0 ≤ a2 := by have := HA2.out; omega
      clear hL2 hqs hpg hti htz hi0 hi1 hi2 hi3 d4 hA1 hL hn1 hc1 hnc HPG HG HI
      go_wp2_with (fail)
      have hcl := api_Entry_33.calls A1 c1 qs qs w2 (by rw [HL2.out]; exact HR2.out) HQN.out (by rw [api_Entry_33.f, if_pos HQS.out])
      rw [HL2.out] at hcl
      refine hcl.mono ?_
      rintro e w3 ⟨v0_, rfl, hv, hb3⟩
      have HV := Aside0.mk (Kd.R_lower hv (below_size HB2.out))
      have HB3 := Aside0.mk (HB2.out.trans (hb3.mono (below_size HB2.out)))
      clear hv hb3 hcl
      go_wp2
      (try go_wp2)
      go_ret2
      exact ⟨_, rfl, HV.out, HB3.out⟩
    · have d5b : decide (a2 ≤ (n1 : Int)) = false := decide_eq_false d5
      have hcut2 := cut_to (P := Try.prog) 22 30 .i64 hu hti A1 n1 c1 (n1 : Int) (by have := HA2.out; omega) (by omega) hnc
      have HR2 := Aside0.mk (Kd.C_take (m := ((n1 : Int)).toNat) (show Kd.C k30 w2 A1 (l0_0.drop i.toNat).length (l0_0.drop i.toNat) by rw [hL]; exact HR1.out) (by rw [hL]; omega))
      have hL2 : ((l0_0.drop i.toNat).take ((n1 : Int)).toNat).length = ((n1 : Int)).toNat := by rw [List.length_take, hL]; omega
      rw [hL2] at HR2
      have hpg2 : pg = ((l0_0.drop i.toNat).take ((n1 : Int)).toNat, 0) := by
        rw [hpg]; congr 1; rw [List.take_of_length_le (by rw [hL]; omega), List.take_of_length_le (by rw [hL]; omega)]
      obtain ⟨qs, hqs⟩ : ∃ qs, (l0_0.drop i.toNat).take ((n1 : Int)).toNat = qs := ⟨_, rfl⟩
      rw [hqs] at hL2 HR2 hpg2
      subst hpg2
      have HL2 := Aside0.mk hL2
      have HNC := Aside0.mk hnc
      have HQN := Aside0.mk (show qs.length ≤ c1 by rw [hL2]; omega)
      have HQS := Aside0.mk (show qs.length < 3518437208883 by have := HN.out; have h2 := congrArg List.length hqs; rw [List.length_take, List.length_drop] at h2; omega)
      have hjj : 0 ≤ (n1 : Int) := by have := HA2.out; omega
      clear hL2 hqs hpg hti htz hi0 hi1 hi2 hi3 d4 hA1 hL hn1 hc1 hnc HPG HG HI
      go_wp2_with (fail)
      have hcl := api_Entry_33.calls A1 c1 qs qs w2 (by rw [HL2.out]; exact HR2.out) HQN.out (by rw [api_Entry_33.f, if_pos HQS.out])
      rw [HL2.out] at hcl
      refine hcl.mono ?_
      rintro e w3 ⟨v0_, rfl, hv, hb3⟩
      have HV := Aside0.mk (Kd.R_lower hv (below_size HB2.out))
      have HB3 := Aside0.mk (HB2.out.trans (hb3.mono (below_size HB2.out)))
      clear hv hb3 hcl
      go_wp2
      (try go_wp2)
      go_ret2
      exact ⟨_, rfl, HV.out, HB3.out⟩
set_option maxHeartbeats 4000000 in
theorem folder_Page.bad (k : Nat) (A0_0 : Option Addr) (c0_0 : Nat) (l0_0 : List S30) (a0_1 a1 a2 c : Int) (w : World) (hr0_0 : Kd.C k30 w A0_0 l0_0.length l0_0) (hc0_0 : l0_0.length ≤ c0_0) (h : folder_Check.f k l0_0 a0_1 = some c) (hne : c ≠ 0) :
    Calls Try.prog 24 #[.agg #[.slice A0_0 l0_0.length c0_0, .int .i64 a0_1], .int .i64 a1, .int .i64 a2] w fun e w' => ∃ v0_ : Value, e = .returned (.tuple #[v0_, .int .i64 c]) ∧ Kd.R k30 30 w' w.heap.size (fun _ => True) v0_ [] ∧ Below w.heap.size w w' := by
  have HR0 := Aside0.mk hr0_0
  have HC0 := Aside0.mk hc0_0
  have HF := Aside0.mk h
  have hn1 : (c != 0) = true := bne_iff_ne.mpr hne
  have hn0 : (c == 0) = false := beq_eq_false_iff_ne.mpr hne
  clear hr0_0 hc0_0 h
  go_enter Try.func24, Try.ntmps24
  go_wp2_with (fail)
  have hB : Below w.heap.size w ((w.alloc (Obj.cells #[Value.slice A0_0 l0_0.length c0_0, Value.int IntKind.i64 a0_1] 24)).alloc (Obj.cells #[Value.int IntKind.i64 a1] 3)) := below_alloc (below_alloc (Below.refl _ _) _) _
  have hc := folder_Check.calls k A0_0 c0_0 l0_0 a0_1 c _ (Kd.C_below HR0.out hB) HC0.out HF.out
  refine hc.mono ?_
  rintro e w1 ⟨rfl, hb1⟩
  have HB := Aside0.mk (hB.trans (hb1.mono (by simp; omega)))
  clear hb1 hc hB
  go_wp2
  (try go_wp2)
  go_ret2
  exact ⟨_, rfl, Kd.R_nil _ _ _ _ _, HB.out⟩
theorem folder_Page.calls (k : Nat) (A0_0 : Option Addr) (c0_0 : Nat) (l0_0 : List S30) (a0_1 a1 a2 : Int) (r1 : List S30) (r2 : Int) (w : World) (hr0_0 : Kd.C k30 w A0_0 l0_0.length l0_0) (hc0_0 : l0_0.length ≤ c0_0) (h : folder_Page.f k l0_0 a0_1 a1 a2 = some (r1, r2)) :
    Calls Try.prog 24 #[.agg #[.slice A0_0 l0_0.length c0_0, .int .i64 a0_1], .int .i64 a1, .int .i64 a2] w fun e w' => ∃ v0_ : Value, e = .returned (.tuple #[v0_, .int .i64 r2]) ∧ Kd.R k30 30 w' w.heap.size (fun _ => True) v0_ r1 ∧ Below w.heap.size w w' := by
  unfold folder_Page.f at h
  obtain ⟨c, hc, h⟩ := Option.bind_eq_some_iff.mp h
  by_cases h0 : c = 0
  · subst h0
    simp only [if_true] at h
    by_cases hl : l0_0.length < 3518437208883
    · rw [if_pos hl] at h
      have h1 := Option.some.inj h
      have := folder_Page.ok k A0_0 c0_0 l0_0 a0_1 a1 a2 w hr0_0 hc0_0 hc hl
      rw [h1] at this
      exact this
    · rw [if_neg hl] at h; exact absurd h (by simp)
  · rw [if_neg h0] at h
    have h1 := Option.some.inj h
    injection h1 with h1 h2
    subst h1; subst h2
    exact folder_Page.bad k A0_0 c0_0 l0_0 a0_1 a1 a2 c w hr0_0 hc0_0 hc h0
end Go.Proofs.Ytjjjbpgncmfpgaa.FA
