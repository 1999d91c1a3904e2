/- Written by hand: slices.Delete at Entry (one element), upon a row of one's own. -/
import Derived.Test.YtjjjbpgncmfpgaaHFolderBase
import Derived.Test.YtjjjbpgncmfpgaaFAx0
import Derived.Outline
import Derived.StillTailTactics
import Derived.Laws.CopyOwn
import Derived.Laws.CopyRow
namespace Go.Proofs.Ytjjjbpgncmfpgaa.FA
open Go.RowKit Go.Proofs.YtjjjbpgncmfpgaaW.PrintWords Go.Proofs.YtjjjbpgncmfpgaaW.PrintLast Go.Proofs.YtjjjbpgncmfpgaaW.PrintMore Go.Proofs.Ytjjjbpgncmfpgaa.B
set_option linter.unusedVariables false
section
variable {P : Program} {α : Type}
theorem andThen_ok_inv {α β : Type} {r : Result α} {f : α → World → Result β} {b : β} {w' : World} (h : r.andThen f = .ok b w') : ∃ a w1, r = .ok a w1 ∧ f a w1 = .ok b w' := by
  cases r with
  | ok a w1 => exact ⟨a, w1, rfl, h⟩
  | halt x w1 => simp [Result.andThen] at h
theorem append_room (W : World) (t ty e : TypeId) (i0 : TypeInfo) (ht : P.underlying t = some (.slice e)) (hi : P.info? e = some i0) (a : Addr) (n cap : Nat) (A : Option Addr) (m c : Nat) (v1 : Value) (w1 : World) (hroom : n + m ≤ cap)
    (hr : (Builtin.append_ #[t, t] ty #[.slice (some a) n cap, .slice A m c]).run P W = .ok v1 w1) : v1 = .slice (some a) (n + m) cap := by
  simp [Builtin.append_, run_underlying ht, sizeOf, typeInfo, hi, Builtin.lenOf, hroom] at hr
  obtain ⟨x, w2, h1, h2⟩ := andThen_ok_inv hr
  obtain ⟨y, w3, h3, h4⟩ := andThen_ok_inv h2
  first | (injection h4 with h4 h5; exact h4.symm) | (simp at h4; exact h4.1.symm)
theorem R_append_room (d : Kd α) {Rr : α → List Value → Prop} {W : World} (base : Nat) (t ty e : TypeId) (z : Value) (bytes : Nat)
    (ht : P.underlying t = some (.slice e)) (hinfo : (P.info? e).map (fun i => (i.zero, i.size, i.bytes)) = some (some z, d.sz, bytes)) (hz : z.cells.size = d.sz) (hs0 : 0 < d.sz) (hb0 : 0 < bytes)
    (g cap : Nat) (xs ys : List α) (ad : Addr) (m c : Nat) (ok okp : Nat → Prop)
    (HO : d.R e W base ok (.slice (some ⟨g, 0, none⟩) xs.length cap) xs) (HR : ReadsRow Rr d.sz W (some ad) m ys) (hKM : ∀ x cs, Rr x cs → d.M W base okp x cs) (hokp : ∀ k, okp k → ok k ∧ k ≠ g)
    (hbase : base ≤ W.heap.size) (hl : (xs.length + m) * bytes ≤ 140737488355328) (hroom : xs.length + m ≤ cap) :
    ∃ w1, (Builtin.append_ #[t, t] ty #[.slice (some ⟨g, 0, none⟩) xs.length cap, .slice (some ad) m c]).run P W = .ok (.slice (some ⟨g, 0, none⟩) (xs.length + m) cap) w1 ∧ d.R e w1 base ok (.slice (some ⟨g, 0, none⟩) (xs.length + m) cap) (xs ++ ys) ∧ W.grownBy w1 (some g) := by
  obtain ⟨i0, hi, hzz⟩ := Option.map_eq_some_iff.1 hinfo
  simp only [Prod.mk.injEq] at hzz
  obtain ⟨hz0, hz1, hz2⟩ := hzz
  have hm : ys.length = m := HR.1
  have hlen : xs.length + m ≤ 140737488355328 := Nat.le_trans (Nat.le_mul_of_pos_right _ hb0) hl
  have hob : (Value.slice (some ⟨g, 0, none⟩) xs.length cap).ownBlock = some g := rfl
  have hob' : (Value.slice (some ⟨g, 0, none⟩) (xs.length + m) cap).ownBlock = some g := rfl
  obtain ⟨hok, inner, hown, hr⟩ := HO
  obtain ⟨news, hnr, hnc⟩ := ReadsRow.inner_ HR
  have hnM : Reps (d.M W base okp) d.sz ys news := hnr.imp_ (fun p c hp => hKM p c hp)
  have hone : ∀ u ∈ news, u.oneCell' = true := by
    intro u hu
    obtain ⟨q, hq, rfl⟩ := List.mem_iff_getElem.1 hu
    have hql : q / d.sz < ys.length := by
      rw [Nat.div_lt_iff_lt_mul hs0]
      rw [← hnM.1]
      exact hq
    have hc := hnM.2 (q / d.sz) _ (List.getElem?_eq_getElem hql)
    refine d.K_one (d.K_of_M hc) _ ?_
    rw [List.mem_iff_getElem?]
    refine ⟨q % d.sz, ?_⟩
    rw [List.getElem?_take, if_pos (Nat.mod_lt _ hs0), List.getElem?_drop, Nat.mul_comm, Nat.div_add_mod, List.getElem?_eq_getElem hq]
  obtain ⟨v1, w1, hrun, h2, hg, _, hat⟩ := run_append_own_at (P := P) W base t ty e i0 z d.sz bytes ht hi hz0 hz1 hz2 hz hs0 _ xs.length inner hown ad m c news (by rw [hnM.1, hm]) hnc hone (by simp only [maxLen]; omega) hl hbase
  obtain rfl := append_room W t ty e i0 ht hi _ _ _ _ _ _ _ _ hroom hrun
  rw [hob] at hg
  refine ⟨w1, hrun, ⟨fun k hk => hok k (by rw [hob]; rw [hob'] at hk; exact hk), inner ++ news, by rw [List.length_append, hm]; exact h2, ?_⟩, hg⟩
  have step : ∀ {q : α} {c : List Value} {o : Nat → Prop}, d.M W base o q c → (∀ k, o k → ok k ∧ k ≠ g) → d.M w1 base (fun k => ok k ∧ some k ≠ (Value.slice (some ⟨g, 0, none⟩) (xs.length + m) cap).ownBlock) q c := by
    intro q c o hq ho
    have h1 := d.M_move (w1 := w1) (fun k hk => hg.block k hk.2.2.1 (fun he => (ho k hk.1).2 (by injection he))) (d.M_bound hq)
    exact d.M_mono (fun k hk => ⟨(ho k hk.1).1, fun he => (ho k hk.1).2 (by rw [hob'] at he; injection he)⟩) h1
  exact Kd.reps_append (hr.imp_ (fun _ _ hq => step hq (fun k hk => ⟨hk.1, fun he => hk.2 (by rw [he, hob])⟩))) (hnM.imp_ (fun _ _ hq => step hq hokp))
/-- Cells behind a row's length may turn. -/
theorem R_tail (d : Kd α) {W : World} (base e g n cap : Nat) (xs : List α) (ok : Nat → Prop) (h : d.R e W base ok (.slice (some ⟨g, 0, none⟩) n cap) xs) (o : Nat) (vs : List Value) (ho : n * d.sz ≤ o) (hv : ∀ v ∈ vs, v.oneCell' = true) (hlen : o + vs.length ≤ cap * d.sz) :
    ∃ w1, (storeCells ⟨g, o, none⟩ vs).run P W = .ok () w1 ∧ d.R e w1 base ok (.slice (some ⟨g, 0, none⟩) n cap) xs ∧ (∀ B w0, B ≤ g → Below B w0 W → Below B w0 w1) := by
  obtain ⟨hok, inner, hown, hr⟩ := h
  rcases hown.2 with ⟨he, _⟩ | ⟨g', cap', cur, he, hb, hg, hn, hm, hsz, htk⟩
  · cases he
  · simp only [Value.slice.injEq, Option.some.injEq, Addr.mk.injEq] at he
    obtain ⟨⟨rfl, _⟩, hnn, rfl⟩ := he
    have hnx : xs.length = n := by first | exact hnn.symm | exact hnn | omega
    subst hnx
    have hst := run_storeCells_at (P := P) g o e vs 0 cur W hg (by rw [hsz]; omega) hv
    refine ⟨_, hst, ⟨hok, inner, ⟨hown.1, .inr ⟨g, cap, _, rfl, hb, setRow_heap _ _ _ _ _ _ hg, hn, hm, ?_, ?_⟩⟩, ?_⟩, fun B w0 hB hBl => below_setRow hBl hB _⟩
    · simp; omega
    · rw [← htk]
      simp only [List.append_assoc, Nat.add_zero]
      rw [List.take_append_of_le_length (by simp; omega), List.take_take, Nat.min_eq_left (by omega)]
    · refine hr.imp_ (fun p c hp => d.M_move (fun k hk => setRow_other _ _ _ _ (fun he => hk.2 (by rw [he]; rfl))) hp)
end
theorem delete_facts (g cap : Nat) (xs : List S30) (i j : Int) (ad : Addr) (base : Nat) (w0 w : World) (hr0 : Kd.R k30 30 w base (fun _ => True) (.slice (some ⟨g, 0, none⟩) xs.length cap) xs) (hi0 : 0 ≤ i) (hi1 : i < xs.length) (hj : j = i + 1) (hL : xs.length < 3518437208883) (hB : Below base w0 w) (hbs : base ≤ w.heap.size)
    (had : (if cap = j.toNat then (some ⟨g, 0, none⟩ : Option Addr) else (some (⟨g, 0, none⟩ : Addr)).map (·.add (j.toNat * 4))) = some ad) :
    ∃ w1 w2, (Builtin.append_ #[22, 22] 22 #[.slice (some ⟨g, 0, none⟩) i.toNat cap, .slice (some ad) (xs.length - j.toNat) (cap - j.toNat)]).run Try.prog w = .ok (.slice (some ⟨g, 0, none⟩) (xs.length - 1) cap) w1 ∧
      (storeCells ⟨g, (xs.length - 1) * 4, none⟩ [.string ⟨#[]⟩, .int .i64 0, .int .i64 0, .int .i64 0]).run Try.prog w1 = .ok () w2 ∧ Kd.R k30 30 w2 base (fun _ => True) (.slice (some ⟨g, 0, none⟩) (xs.length - 1) cap) (xs.take i.toNat ++ xs.drop j.toNat) ∧ Below base w0 w2 := by
  have hu := Try.underlying22
  have hcap : xs.length ≤ cap := (Kd.R_reads' hr0).2.1
  have hC := (Kd.R_reads' hr0).2.2
  have hRB := Kd.C_drop (c := cap) hC (m := j.toNat) (by omega) hcap
  rw [show (k30).sz = 4 from rfl, had] at hRB
  have hdl : (xs.drop j.toNat).length = xs.length - j.toNat := List.length_drop
  have htl : (xs.take i.toNat).length = i.toNat := by rw [List.length_take]; omega
  have hRA := Kd.R_take (m := i.toNat) hr0 (by omega)
  obtain ⟨w1, hap, hR1, hg1⟩ := R_append_room (P := Try.prog) k30 base 22 22 30 (.agg #[(.string ⟨#[]⟩), (.int .i64 0), (.int .i64 0), (.int .i64 0)]) 40 hu info30 rfl (by decide) (by omega) g cap (xs.take i.toNat) (xs.drop j.toNat) ad (xs.drop j.toNat).length (cap - j.toNat) (fun _ => True) (fun _ => False) (by rw [htl]; exact hRA) hRB (fun _ _ h => h) (fun _ h => h.elim) hbs (by rw [htl, hdl]; omega) (by rw [htl, hdl]; omega)
  rw [htl, hdl] at hap hR1
  rw [show i.toNat + (xs.length - j.toNat) = xs.length - 1 by omega] at hap hR1
  have hgb : base ≤ g := Kd.R_base hr0 g rfl
  have HB1 := (Below.grown hB hg1 hbs (fun k hk => by injection hk with hk; omega))
  obtain ⟨w2, hst, hR2, hbl⟩ := R_tail (P := Try.prog) k30 base 30 g (xs.length - 1) cap _ (fun _ => True) hR1 ((xs.length - 1) * 4) [.string ⟨#[]⟩, .int .i64 0, .int .i64 0, .int .i64 0] (Nat.le_refl _) (by decide) (by show (xs.length - 1) * 4 + 4 ≤ cap * 4; omega)
  exact ⟨w1, w2, hap, hst, hR2, hbl base w0 hgb HB1⟩
set_option maxHeartbeats 4000000 in
theorem delete_calls (g cap : Nat) (xs : List S30) (i j : Int) (base : Nat) (w0 w : World) (hr0 : Kd.R k30 30 w base (fun _ => True) (.slice (some ⟨g, 0, none⟩) xs.length cap) xs) (hi0 : 0 ≤ i) (hi1 : i < xs.length) (hj : j = i + 1) (hL : xs.length < 3518437208883) (hB : Below base w0 w) (hbs : base ≤ w.heap.size) :
    Calls Try.prog 34 #[.slice (some ⟨g, 0, none⟩) xs.length cap, .int .i64 i, .int .i64 j] w fun e w' => ∃ v0_ : Value, e = .returned v0_ ∧ Kd.R k30 30 w' base (fun _ => True) v0_ (xs.take i.toNat ++ xs.drop j.toNat) ∧ Below base w0 w' := by
  have hu := Try.underlying22
  have hcap : xs.length ≤ cap := (Kd.R_reads' hr0).2.1
  obtain ⟨ti, hti, htz⟩ := Option.map_eq_some_iff.1 info30
  simp only [Prod.mk.injEq] at htz
  have p1 := eq_true hi0
  have p2 := eq_true (show 0 ≤ j by omega)
  have p3 := eq_true (show i ≤ j by omega)
  have p4 := eq_true (show j ≤ (xs.length : Int) by omega)
  have p5 := eq_true (show (xs.length : Int) ≤ (cap : Int) by omega)
  have p6 := eq_true (show i ≤ (xs.length : Int) by omega)
  have p7 : (i == j) = false := beq_eq_false_iff_ne.mpr (by omega)
  have p8 := eq_true (show 0 ≤ (xs.length : Int) by omega)
  have p9 := eq_true (show i ≤ (cap : Int) by omega)
  have p10 := eq_false (show ¬ xs.length = i.toNat by omega)
  have hcutA := cut_to (P := Try.prog) 22 30 .i64 hu hti (some ⟨g, 0, none⟩) xs.length cap i hi0 (by omega) hcap
  have hcutB := cut_from (P := Try.prog) 22 30 .i64 hu hti 4 htz.2.1 (some ⟨g, 0, none⟩) xs.length cap j (by omega) (by omega)
  obtain ⟨ad, had⟩ : ∃ ad : Addr, (if cap = j.toNat then (some ⟨g, 0, none⟩ : Option Addr) else (some (⟨g, 0, none⟩ : Addr)).map (·.add (j.toNat * 4))) = some ad := by
    by_cases hc : cap = j.toNat
    · exact ⟨_, if_pos hc⟩
    · exact ⟨_, if_neg hc⟩
  rw [had] at hcutB
  obtain ⟨w1, w2, hap, hst, hR2, hB2⟩ := delete_facts g cap xs i j ad base w0 w.drew (Kd.R_drew hr0) hi0 hi1 hj hL (below_drew hB) (by simpa using hbs) had
  have HR2 := Aside0.mk hR2
  have HB2 := Aside0.mk hB2
  obtain ⟨n2, hn2⟩ : ∃ n2, xs.length - 1 = n2 := ⟨_, rfl⟩
  rw [hn2] at hap hst HR2
  have q1 := eq_true (show (0 : Int) ≤ (n2 : Int) by omega)
  have q2 := eq_true (show (n2 : Int) ≤ (xs.length : Int) by omega)
  have q3 := eq_true (show (n2 : Int) ≤ (cap : Int) by omega)
  have q4 := eq_false (show ¬ cap = n2 by omega)
  have q5 : xs.length - n2 = 1 := by omega
  have q6 : (xs.length : Int) - (n2 : Int) = 1 := by omega
  have hclr : (Builtin.clear_ #[22] 0 #[.slice (some ⟨g, n2 * 4, none⟩) 1 (cap - n2)]).run Try.prog w1 = .ok (.tuple #[]) w2 := by
    simp [Builtin.clear_, run_underlying hu, Builtin.zeroCells, Try.zeroValue30]
    show (Sem.run Try.prog (storeCells ⟨g, n2 * 4, none⟩ [.string ⟨#[]⟩, .int .i64 0, .int .i64 0, .int .i64 0]) w1).andThen _ = _
    rw [hst]
    rfl
  clear hr0 hB hR2 hB2 hn2 hst had hti htz hcap hi0 hi1 hj hL hbs
  go_enter Try.func34, Try.ntmps34
  go_upto_region 5 with (fail)
  go_still_tail 6, (by kernel_rfl)
  change wpList _ _ _ _ _ w.drew
  clear hcutA hcutB p1 p2 p3 p4 p6 p7 p8 p9 p10
  refine Kd.event_run rfl (w1 := w1) (v := .slice (some ⟨g, 0, none⟩) n2 cap) ?hrun ?_
  case hrun =>
    simp only [execOp, resolve, invoke, builtin, Sem.run_bind, Sem.run_pure, Result.andThen_ok, List.map_toArray, List.map_cons, List.map_nil]
    show ((Builtin.append_ #[22, 22] 22 #[.slice (some ⟨g, 0, none⟩) i.toNat cap, .slice (some ad) (xs.length - j.toNat) (cap - j.toNat)]).run Try.prog w.drew).andThen _ = _
    rw [hap]
    rfl
  go_wp2
  go_ret
  exact ⟨_, rfl, HR2.out, HB2.out⟩
def api_Entry_34.f (l0 : List S30) (a1 a2 : Int) : Option (List S30) := if 0 ≤ a1 ∧ a1 < (l0.length : Int) ∧ a2 = a1 + 1 ∧ l0.length < 3518437208883 then some (l0.take a1.toNat ++ l0.drop a2.toNat) else none
theorem api_Entry_34.calls (A0 : Option Addr) (c0 : Nat) (l0 : List S30) (a1 a2 : Int) (r : List S30) (base : Nat) (w0 w : World) (hr0 : Kd.R k30 30 w base (fun _ => True) (.slice A0 l0.length c0) l0) (hB : Below base w0 w) (hbs : base ≤ w.heap.size) (h : api_Entry_34.f l0 a1 a2 = some r) :
    Calls Try.prog 34 #[.slice A0 l0.length c0, .int .i64 a1, .int .i64 a2] w fun e w' => ∃ v0_ : Value, e = .returned v0_ ∧ Kd.R k30 30 w' base (fun _ => True) v0_ r ∧ Below base w0 w' := by
  unfold api_Entry_34.f at h
  by_cases hc : 0 ≤ a1 ∧ a1 < (l0.length : Int) ∧ a2 = a1 + 1 ∧ l0.length < 3518437208883
  · rw [if_pos hc] at h
    obtain rfl := Option.some.inj h
    obtain ⟨g, cap, he, _⟩ := Kd.R_form hr0 (by omega)
    injection he with e1 e2 e3
    subst e1; subst e3
    exact delete_calls g c0 l0 a1 a2 base w0 w hr0 hc.1 hc.2.1 hc.2.2.1 hc.2.2.2 hB hbs
  · rw [if_neg hc] at h; exact absurd h (by simp)
end Go.Proofs.Ytjjjbpgncmfpgaa.FA
