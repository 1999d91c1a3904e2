/- Written by hand (wip/tools/gen_log9.py): an append behind a full row; Behind and Put of a log. -/
import Derived.Test.YtmapkneofccboaaHLogFuncs
namespace Go.Proofs.Ytmapkneofccboaa.FA
open Go.RowKit Go.Proofs.YtmapkneofccboaaW.PrintWords Go.Proofs.YtmapkneofccboaaW.PrintLast Go.Proofs.YtmapkneofccboaaW.PrintMore Go.Proofs.Ytmapkneofccboaa.Hand Go.Proofs.Ytmapkneofccboaa.B
set_option linter.unusedVariables false
set_option linter.unusedSimpArgs false
attribute [local go_sem] max2_int min2_int max_two min_two
theorem cutToJ (A : Option Addr) (n c j : Nat) (hj : j ≤ n) (hc : n ≤ c) : ∀ W : World, (Instr.slice 28 (.slice A n c) none (some (.int .i64 (j : Int))) none).run Try.prog W = .ok (.slice A j c) W := by
  obtain ⟨i, hi, hs⟩ := info_item_parts
  intro W
  have := cut_to (P := Try.prog) 28 30 .i64 Try.underlying28 hi A n c (j : Int) (by omega) (by omega) hc W
  rwa [Int.toNat_natCast] at this
section
variable {P : Program} {ops : Array Oper} {o : Oper} {a : Act} {rest : List Oper} {Q' : Exit → Act → World → Prop}
theorem FR_append_rows {W : World} (N : Nat) (hgd : o.guard = none) (s x : Operand) (t : TypeId)
    (ho : o.op = .call { callee := .builtin .append, args := #[s, x], argTypes := #[t, t] })
    (ht : P.underlying t = some (.slice 30)) (hinfo : (P.info? 30).map (fun i => (i.zero, i.size, i.bytes)) = some (some (.agg #[.int .i64 0, .int .i64 0, .int .i64 0, .string ⟨#[]⟩]), 4, 40))
    (A0 : Option Addr) (n : Nat) (xs ys : List S30) (A : Option Addr) (m c : Nat) (ok : Nat → Prop) (hs : a.eval s = .slice A0 n n) (hx : a.eval x = .slice A m c) (hfresh : ∀ k, W.heap.size ≤ k → ok k)
    (HO : FR W N ok (.slice A0 n n) xs) (HR : Kd.C k30 W A m ys) (hbase : N ≤ W.heap.size) (hl : n + m ≤ 2000000)
    (h : ∀ v1 w1, FR w1 N ok v1 (xs ++ ys) → Below W.heap.size W w1 → (∀ k, v1.ownBlock = some k → (Value.slice A0 n n).ownBlock = some k ∨ W.heap.size ≤ k) → wpList P ops Q' rest (a.put o.dst v1) w1) :
    wpList P ops Q' (o :: rest) a W := by
  obtain ⟨i0, hi, hzz⟩ := Option.map_eq_some_iff.1 hinfo
  simp only [Prod.mk.injEq] at hzz
  obtain ⟨hz0, hz1, hz2⟩ := hzz
  have hr := FR_reads' HO
  have hn : n = xs.length := hr.1
  have hm : ys.length = m := HR.1
  rcases Nat.eq_zero_or_pos m with h0 | h0
  · subst h0
    obtain rfl : ys = [] := List.eq_nil_of_length_eq_zero hm
    rw [List.append_nil] at h
    refine Kd.event_run hgd (v := .slice A0 n n) (w1 := W) ?_ (h _ _ HO (Below.refl _ _) (fun k hk => .inl hk))
    have hrun : (Builtin.append_ #[t, t] o.type #[.slice A0 n n, .slice A 0 c]).run P W = .ok (.slice A0 n n) W := by
      rcases A0 with _ | a0
      · have : n = 0 := by
          rcases Nat.eq_zero_or_pos n with h1 | h1
          · exact h1
          · obtain ⟨ad, he, _⟩ := hr.2.2.2.2 (by omega)
            cases he
        subst this
        rcases A with _ | a1 <;> simp [Builtin.append_, run_underlying ht, sizeOf, typeInfo, hi, Builtin.lenOf, Builtin.firstCells, storeCells, loadCells, loadCellsFrom]
      · rcases A with _ | a1 <;> simp [Builtin.append_, run_underlying ht, sizeOf, typeInfo, hi, Builtin.lenOf, Builtin.firstCells, storeCells, loadCells, loadCellsFrom]
    unfold execOp
    simp only [ho, resolve, invoke, builtin, Sem.run_bind, Sem.run_pure, Result.andThen_ok, List.map_toArray, List.map_cons, List.map_nil, hs, hx, hrun]
  · obtain ⟨ad, he, _⟩ := HR.2.2 h0
    subst he
    obtain ⟨news, hnr, hnc⟩ := ReadsRow.inner_ HR
    have hone : ∀ u ∈ news, u.oneCell' = true := by
      intro u hu
      obtain ⟨q, hq, rfl⟩ := List.mem_iff_getElem.1 hu
      have hql : q / 4 < ys.length := by
        have := hnr.1
        have : news.length = ys.length * 4 := this
        omega
      have hc := hnr.2 (q / 4) _ (List.getElem?_eq_getElem hql)
      have hc2 := k30_open hc
      refine item_one ys[q / 4] _ ?_
      rw [← hc2, List.mem_iff_getElem?]
      refine ⟨q % 4, ?_⟩
      rw [List.getElem?_take]
      show (if q % 4 < 4 then (List.drop (q / 4 * 4) news)[q % 4]? else none) = some news[q]
      rw [if_pos (Nat.mod_lt _ (by decide)), List.getElem?_drop, Nat.mul_comm, Nat.div_add_mod, List.getElem?_eq_getElem hq]
    obtain ⟨olds, hol, hoc, hor⟩ : ∃ olds : List Value, olds.length = n * 4 ∧ (∀ b, A0 = some b → ∀ j u, olds[j]? = some u → W.cell? (b.add j) = some u) ∧ Reps ((k30).K W) 4 xs olds := by
      rcases A0 with _ | a0
      · have : n = 0 := by
          rcases Nat.eq_zero_or_pos n with h1 | h1
          · exact h1
          · obtain ⟨ad, he, _⟩ := hr.2.2.2.2 (by omega)
            cases he
        subst this
        obtain rfl : xs = [] := List.eq_nil_of_length_eq_zero hn.symm
        exact ⟨[], rfl, fun b hb => (by cases hb), Reps.none _ _⟩
      · obtain ⟨olds, h1, h2⟩ := ReadsRow.inner_ hr.2.2
        refine ⟨olds, by rw [hn]; exact h1.1, fun b hb => ?_, h1⟩
        obtain rfl : a0 = b := by injection hb
        exact h2
    refine wpList_append_grows (P := P) W hgd s x t ho 30 i0 _ 4 40 ht hi hz0 hz1 hz2 rfl (by decide) A0 n n olds hs (fun hn0 => ?_) hol hoc ad m c news hx (by rw [hnr.1, hm]; rfl) hnc hone (by omega) (by simp only [maxLen]; omega) (by omega) (fun v' w' r1 r2 => ?_)
    · subst hn0
      rcases Nat.eq_zero_or_pos n with h1 | h1
      · exact ⟨h1, h1⟩
      · obtain ⟨ad', he, _⟩ := hr.2.2.2.2 (by omega)
        cases he
    · have hown : ∀ k, v'.ownBlock = some k → W.heap.size ≤ k := fun k hk => own_base r1 k hk
      refine h v' w' (.inl (Kd.Q_of_R ⟨fun k hk => hfresh k (hown k hk), olds ++ news, ?_, ?_⟩)) ⟨r2.os, r2.tape, r2.output, r2.size, fun k hk => r2.block k hk (by simp)⟩ (fun k hk => .inr (hown k hk))
      · rw [List.length_append, ← hn, hm]
        exact own_weaken r1 hbase
      · refine Kd.reps_append (hor.imp_ (fun q c hq => ?_)) (hnr.imp_ (fun q c hq => ?_))
        · rw [k30_open hq]; exact k30_mkM _ _ _ _
        · rw [k30_open hq]; exact k30_mkM _ _ _ _
end
set_option maxHeartbeats 4000000 in
theorem log_behind_ok {w : World} {N g : Nat} {base : Int} {l : List S30} {V : Value} {ok : Nat → Prop} (r : LBox 58 w N g base l V ok) (hx : 0 ≤ base ∧ base + (l.length : Int) ≤ 1099511627776) (n : Int) (mst : Int) (hlen : l.length ≤ 1000000) (h : base ≤ n ∧ n ≤ base + (l.length : Int)) (hm : 0 ≤ mst) : Calls Try.prog 15 #[.pointer (some ⟨g, 0, none⟩), .int .i64 n, .int .i64 mst] w fun e w' => ∃ v, e = .returned (.tuple #[v, .int .i64 0]) ∧ Kd.R k30 30 w' w.heap.size (fun _ => True) v ((l.drop (n - base).toNat).take mst.toNat) ∧ Below w.heap.size w w' := by
  obtain ⟨A, c, he, hc⟩ := FR_slice r.hl
  subst he
  obtain ⟨i, hi⟩ : ∃ i : Nat, n - base = (i : Int) := ⟨(n - base).toNat, by omega⟩
  have hil : i ≤ l.length := by omega
  rw [show (n - base).toNat = i by omega]
  have hk := cutFromI A l.length c i hil hc
  obtain ⟨A2, hA2⟩ : ∃ A1, A1 = (if c = i then A else A.map (·.add (i * 4))) := ⟨_, rfl⟩
  obtain ⟨c2, hc2⟩ : ∃ c1, c1 = c - i := ⟨_, rfl⟩
  obtain ⟨ls, hls⟩ : ∃ ls, ls = l.drop i := ⟨_, rfl⟩
  have hll : ls.length = l.length - i := by rw [hls, List.length_drop]
  rw [← hA2, ← hc2, ← hll] at hk
  have hd := Kd.C_drop (m := i) (FR_reads' r.hl).2.2 hil hc
  rw [show (k30).sz = 4 from rfl, ← hA2, ← hls] at hd
  obtain ⟨q, hq⟩ : ∃ q : Nat, q = min mst.toNat ls.length := ⟨_, rfl⟩
  have hql : q ≤ ls.length := by rw [hq]; exact Nat.min_le_right _ _
  have hcc : ls.length ≤ c2 := by omega
  have hk2 := cutToJ A2 ls.length c2 q hql hcc
  have hmn : (if (ls.length : Int) < mst then (ls.length : Int) else mst) = (q : Int) := by split <;> omega
  have ht := Kd.C_take (m := q) hd hql
  obtain ⟨lt, hlt⟩ : ∃ lt, lt = ls.take q := ⟨_, rfl⟩
  have hltl : lt.length = q := by rw [hlt, List.length_take]; omega
  rw [← hlt] at ht
  have hres : ls.take mst.toNat = lt := by
    rw [hlt, hq]
    rcases Nat.le_total mst.toNat ls.length with h1 | h1
    · rw [Nat.min_eq_left h1]
    · rw [Nat.min_eq_right h1, List.take_of_length_le h1, List.take_of_length_le (Nat.le_refl _)]
  rw [← hls, hres]
  have bm : decide (mst < 0) = false := decide_eq_false (by omega)
  have HT := Aside0.mk ht
  have hq3 : q = lt.length := hltl.symm
  clear hltl
  subst hq3
  have HQC := Aside0.mk (show lt.length ≤ c2 by omega)
  have HQB := Aside0.mk (show lt.length ≤ 1000000 by omega)
  have HR := Aside0.mk r
  have HX := Aside0.mk hx
  have HH := Aside0.mk h
  have HI := Aside0.mk hi
  clear r hx h hi hil hc hA2 hc2 hls hll hd hq hql hcc ht hlt hres hlen hm
  go_enter Try.func15, Try.ntmps15
  go_wp2_with (first | (go_at_call 27; (refine (log_place_ok HR.out HX.out n HH.out).mono ?_); rintro e_ w1_ ⟨he, hb⟩; rw [HI.out] at he; subst he; have n0_ := Aside0.mk (HR.out.below hb); have HB := Aside0.mk hb; clear HR; have HR := n0_; clear n0_ hb; have hz1 := (blk_cell HR.out.hb 1).trans rfl) | (go_at_call 28; (refine (api_Item_28.calls A2 c2 lt lt _ ?ca ?cc ?cb).mono ?_); (case ca => exact Kd.C_below HT.out HB.out); (case cc => exact HQC.out); (case cb => rw [api_Item_28.f, if_pos (by have := HQB.out; omega)]); rintro e_ w2_ ⟨v_, rfl, ho, hb⟩; have HO := Aside0.mk ho; have n1_ := Aside0.mk (below_step HB.out hb); have HS := Aside0.mk (HB.out.size); clear HB; have HB := n1_; clear n1_ ho hb))
  go_ret2
  exact ⟨_, rfl, Kd.R_lower HO.out HS.out, HB.out⟩
end Go.Proofs.Ytmapkneofccboaa.FA
