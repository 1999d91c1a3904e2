/- Written by hand: a row of items of one's own, or one that is cut so that nothing more fits in (an append copies it). -/
import Derived.Test.YtmapkneofccboaaHLogClone
import Derived.ArgAppend
namespace Go.Proofs.Ytmapkneofccboaa.FA
open Go.RowKit Go.Proofs.YtmapkneofccboaaW.PrintWords Go.Proofs.YtmapkneofccboaaW.PrintLast Go.Proofs.YtmapkneofccboaaW.PrintMore Go.Proofs.Ytmapkneofccboaa.Hand Go.Proofs.Ytmapkneofccboaa.B
set_option linter.unusedVariables false
set_option linter.unusedSimpArgs false
/-- A full row: as many places as items. -/
def FullRow (w : World) (N : Nat) (ok : Nat → Prop) (V : Value) (l : List S30) : Prop :=
  ∃ ad, V = .slice (some ad) l.length l.length ∧ ok ad.block ∧ N ≤ ad.block ∧ (∃ cells, w.heap[ad.block]? = some (.cells cells 30 (0, 0))) ∧ Kd.C k30 w (some ad) l.length l
def FR (w : World) (N : Nat) (ok : Nat → Prop) (V : Value) (l : List S30) : Prop := Kd.Q k30 30 w N ok V l ∨ FullRow w N ok V l
theorem k_E : (k30).E = [] := rfl
theorem cell_same {w w' : World} {a : Addr} (h : w'.heap[a.block]? = w.heap[a.block]?) : w'.cell? a = w.cell? a := by unfold World.cell?; rw [h]
theorem C_heap {w w' : World} {ad : Addr} {n : Nat} {l : List S30} (h : Kd.C k30 w (some ad) n l) (hh : w'.heap[ad.block]? = w.heap[ad.block]?) : Kd.C k30 w' (some ad) n l := by
  refine ⟨h.1, h.2.1, fun hp => ?_⟩
  obtain ⟨ad', he, hc⟩ := h.2.2 hp
  obtain rfl : ad = ad' := by injection he
  refine ⟨ad, rfl, fun j p hj => ?_⟩
  obtain ⟨c, h1, h2, h3⟩ := hc j p hj
  refine ⟨c, h1, ?_, fun i u hu => ?_⟩
  · rw [k30_open h2]; exact k30_mk w' p
  · exact (cell_same (w := w) (w' := w') (a := ad.add _) (by rw [add_block]; exact hh)).trans (h3 i u hu)
section
variable {w w' : World} {N : Nat} {ok ok' : Nat → Prop} {V : Value} {l : List S30}
theorem FR_slice (h : FR w N ok V l) : ∃ A c, V = .slice A l.length c ∧ l.length ≤ c := by
  rcases h with h | ⟨ad, h, _⟩
  · exact Kd.Q_slice h
  · exact ⟨_, _, h, Nat.le_refl _⟩
theorem FR_reads' {A : Option Addr} {n c : Nat} (h : FR w N ok (.slice A n c) l) : n = l.length ∧ n ≤ c ∧ Kd.C k30 w A l.length l := by
  rcases h with h | ⟨ad, he, _, _, _, hc⟩
  · exact Kd.Q_reads' h
  · injection he with h1 h2 h3
    subst h1; subst h2; subst h3
    exact ⟨rfl, Nat.le_refl _, hc⟩
theorem FR_mono (h : FR w N ok V l) (hok : ∀ k, ok k → ok' k) : FR w N ok' V l := by
  rcases h with h | ⟨ad, h1, h2, h3⟩
  · exact .inl (Kd.Q_mono h hok)
  · exact .inr ⟨ad, h1, hok _ h2, h3⟩
theorem FR_lower {N' : Nat} (h : FR w N ok V l) (hn : N' ≤ N) : FR w N' ok V l := by
  rcases h with h | ⟨ad, h1, h2, h3, h4⟩
  · exact .inl (Kd.Q_lower h hn)
  · exact .inr ⟨ad, h1, h2, Nat.le_trans hn h3, h4⟩
theorem FR_bound (h : FR w N ok V l) : FR w N (fun k => ok k ∧ N ≤ k ∧ k < w.heap.size ∧ ∃ cells, w.heap[k]? = some (.cells cells 30 (0, 0))) V l := by
  rcases h with h | ⟨ad, h1, h2, h3, ⟨cells, h4⟩, h5⟩
  · refine .inl (Kd.Q_mono (Kd.Q_bound h) (fun k hk => ⟨hk.1, hk.2.1, hk.2.2.1, ?_⟩))
    obtain ⟨q, hq, cells, hc⟩ := hk.2.2.2
    rw [k_E, List.mem_singleton] at hq
    subst hq
    exact ⟨cells, hc⟩
  · exact .inr ⟨ad, h1, ⟨h2, h3, blk_lt h4, cells, h4⟩, h3, ⟨cells, h4⟩, h5⟩
theorem FR_step (h : FR w N ok V l) (hm : ∀ k, ok k → k < w.heap.size → w'.heap[k]? = w.heap[k]?) : FR w' N ok V l := by
  rcases h with h | ⟨ad, h1, h2, h3, ⟨cells, h4⟩, h5⟩
  · exact .inl (Kd.Q_step h hm)
  · have hh := hm _ h2 (blk_lt h4)
    exact .inr ⟨ad, h1, h2, h3, ⟨cells, hh.trans h4⟩, C_heap h5 hh⟩
theorem FR_below (h : FR w N ok V l) (hb : Below w.heap.size w w') : FR w' N ok V l := FR_step h (fun k _ hk => hb.block k hk)
theorem FR_drew (h : FR w N ok V l) : FR w.drew N ok V l := FR_below h (below_drew (Below.refl _ _))
theorem FR_far (h : FR w N ok V l) {p : Addr} (hok : ∀ k, ok k → k ≠ p.block) (u : Value) : FR (w.setCell p u) N ok V l := FR_step h (fun k hk _ => Below.heap_setCell w p u k (hok k hk))
theorem FR_set (h : FR w N ok V l) {g t : Nat} {cells : Array Value} (hb : w.heap[g]? = some (.cells cells t (0, 0))) (ht : t ≠ 30) (j : Nat) (u : Value) : FR (w.setCell ⟨g, j, none⟩ u) N ok V l :=
  FR_mono (FR_far (p := ⟨g, j, none⟩) (FR_bound h) (fun k hk => by
    obtain ⟨_, _, _, c, hc⟩ := hk
    rintro rfl
    rw [hc] at hb
    injection hb with hb
    injection hb with _ hb
    exact ht hb.symm) u) (fun _ hk => hk.1)
theorem FR_elderB (h : FR w N ok V l) (a : Nat) (ha : w.heap.size ≤ a) : FR w N (fun k => ok k ∧ k ≠ a) V l := FR_mono (FR_bound h) (fun k hk => ⟨hk.1, by have := hk.2.2.1; omega⟩)
theorem FR_own (h : FR w N ok V l) : ∀ k, V.ownBlock = some k → ok k ∧ N ≤ k ∧ k < w.heap.size ∧ ∃ cells, w.heap[k]? = some (.cells cells 30 (0, 0)) := by
  have hb := FR_bound h
  rcases hb with hb | ⟨ad, h1, h2, _⟩
  · exact hb.1
  · intro k hk
    subst h1
    obtain rfl : ad.block = k := by simpa [Value.ownBlock] using hk
    exact h2
theorem FR_lt (h : FR w N ok V l) : ∀ k, V.ownBlock = some k → k < w.heap.size := fun k hk => (FR_own h k hk).2.2.1
theorem FR_base (h : FR w N ok V l) : ∀ k, V.ownBlock = some k → N ≤ k := fun k hk => (FR_own h k hk).2.1
theorem FR_typed (h : FR w N ok V l) : ∀ k, V.ownBlock = some k → ∃ cells, w.heap[k]? = some (.cells cells 30 (0, 0)) := fun k hk => (FR_own h k hk).2.2.2
theorem FR_ne (h : FR w N ok V l) {g t : Nat} {cells : Array Value} (hb : w.heap[g]? = some (.cells cells t (0, 0))) (ht : 30 ≠ t) : some g ≠ V.ownBlock := fun he => by
  obtain ⟨c, hc⟩ := FR_typed h g he.symm
  rw [hc] at hb
  injection hb with hb
  injection hb with _ hb
  exact ht hb
/-- A row is cut behind its first i items, and nothing more fits in. -/
theorem FR_cut {A : Option Addr} {n c i : Nat} (h : FR w N ok (.slice A n c) l) (hi : i ≤ l.length) : FR w N ok (.slice A i i) (l.take i) := by
  have hr := FR_reads' h
  have ho := FR_own h
  have hc := Kd.C_take (m := i) hr.2.2 hi
  have hl : (l.take i).length = i := by rw [List.length_take]; omega
  rcases Nat.eq_zero_or_pos i with rfl | hp
  · rw [List.take_zero]
    rcases A with _ | ad
    · exact .inl (Kd.Q_nil _ _ _ _ _)
    · have := ho ad.block (by simp [Value.ownBlock])
      exact .inr ⟨ad, rfl, this.1, this.2.1, this.2.2.2, by rw [List.take_zero] at hc; exact hc⟩
  · rcases A with _ | ad
    · obtain ⟨ad, he, _⟩ := hr.2.2.2.2 (by omega)
      cases he
    · have := ho ad.block (by simp [Value.ownBlock])
      exact .inr ⟨ad, by rw [hl], this.1, this.2.1, this.2.2.2, hc⟩
end
theorem item_one (x : S30) : ∀ u ∈ [Value.int .i64 x.f0, .int .i64 x.f1, .int .i64 x.f2, .string x.f3], u.oneCell' = true := by
  intro u hu
  simp only [List.mem_cons, List.not_mem_nil, or_false] at hu
  rcases hu with rfl | rfl | rfl | rfl <;> rfl
theorem item_cells (w : World) (x : S30) : ∀ j u, [Value.int .i64 x.f0, .int .i64 x.f1, .int .i64 x.f2, .string x.f3][j]? = some u → (w.alloc (.cells #[.int .i64 x.f0, .int .i64 x.f1, .int .i64 x.f2, .string x.f3] 30)).cell? ((⟨w.heap.size, 0, none⟩ : Addr).add j) = some u := by
  intro j u hu
  rw [add_at, Nat.zero_add]
  have hb := blk_new w (.cells #[Value.int .i64 x.f0, .int .i64 x.f1, .int .i64 x.f2, .string x.f3] 30)
  have := blk_cell hb j
  rw [this]
  simpa using hu
section
variable {P : Program} {ops : Array Oper} {o : Oper} {a : Act} {Q' : Exit → Act → World → Prop} {Kc : Act → World → Prop}
theorem FR_append_step {w0 W : World} (base : Nat) (hw : Region.wanted o (yielded ops a.tmps) = true) (s x : Operand) (t : TypeId)
    (ho : o.op = .call { callee := .builtin .append, args := #[s, x], argTypes := #[t, t] })
    (ht : P.underlying t = some (.slice 30)) (hinfo : (P.info? 30).map (fun i => (i.zero, i.size, i.bytes)) = some (some (.agg #[.int .i64 0, .int .i64 0, .int .i64 0, .string ⟨#[]⟩]), 4, 40))
    (v : Value) (xs : List S30) (p : S30) (ok : Nat → Prop) (hs : a.eval s = v) (hx : a.eval x = .slice (some ⟨W.heap.size, 0, none⟩) 1 1) (hfresh : ∀ k, W.heap.size ≤ k → ok k)
    (HO : FR W base ok v xs) (HB : Below base w0 W) (hbase : base ≤ W.heap.size) (hl : (xs.length + 1) * 40 ≤ 140737488355328)
    (h : ∀ v1 w1, FR w1 base ok v1 (xs ++ [p]) → Below base w0 w1 → W.grownBy w1 v.ownBlock → (v1.ownBlock = v.ownBlock ∨ ∃ b, v1.ownBlock = some b ∧ W.heap.size ≤ b) → Kc (a.put o.dst v1) w1) :
    if Region.wanted o (yielded ops a.tmps) = true then Oper.wp P o a (W.alloc (.cells #[.int .i64 p.f0, .int .i64 p.f1, .int .i64 p.f2, .string p.f3] 30)) Kc Q' else Kc (a.put o.dst undef) (W.alloc (.cells #[.int .i64 p.f0, .int .i64 p.f1, .int .i64 p.f2, .string p.f3] 30)) := by
  rcases HO with HO | ⟨ad, hv, hok, hN, ⟨cells, hcl⟩, hC⟩
  · exact Kd.Q_append_step (P := P) k30 (w0 := w0) base hw s x t 30 (.agg #[.int .i64 0, .int .i64 0, .int .i64 0, .string ⟨#[]⟩]) 40 ho ht hinfo rfl (by decide) (by omega) v xs p [.int .i64 p.f0, .int .i64 p.f1, .int .i64 p.f2, .string p.f3] ok (fun _ => False) hs hx (k30_mkM _ _ _ _) (fun _ hk => hk.elim) hfresh HO HB hbase hl
      (fun v1 w1 h1 h2 h3 h4 => h v1 w1 (.inl h1) h2 h3 h4)
  · subst hv
    obtain ⟨i0, hi, hzz⟩ := Option.map_eq_some_iff.1 hinfo
    simp only [Prod.mk.injEq] at hzz
    obtain ⟨hz0, hz1, hz2⟩ := hzz
    obtain ⟨olds, hnr, hnc⟩ := ReadsRow.inner_ (Kd.C_below hC (below_alloc (Below.refl _ _) (.cells #[.int .i64 p.f0, .int .i64 p.f1, .int .i64 p.f2, .string p.f3] 30)))
    obtain ⟨v', w', hrun, r1, r2⟩ := run_append_arg_grows (P := P) (W.alloc (.cells #[.int .i64 p.f0, .int .i64 p.f1, .int .i64 p.f2, .string p.f3] 30)) t o.type 30 i0 _ 4 40 ht hi hz0 hz1 hz2 rfl (by decide) ad xs.length xs.length olds hnr.1 hnc ⟨W.heap.size, 0, none⟩ 1 1 [.int .i64 p.f0, .int .i64 p.f1, .int .i64 p.f2, .string p.f3] rfl (item_cells W p) (by omega) (by simp only [maxLen]; omega) hl
    have hsz : W.heap.size ≤ (W.alloc (.cells #[.int .i64 p.f0, .int .i64 p.f1, .int .i64 p.f2, .string p.f3] 30)).heap.size := by simp
    have hown : ∀ k, v'.ownBlock = some k → W.heap.size ≤ k := fun k hk => Nat.le_trans hsz (own_base r1 k hk)
    refine event_step hw (v := v') (w1 := w') ?_ (h v' w' (.inl (Kd.Q_of_R ⟨fun k hk => hfresh k (hown k hk), olds ++ [.int .i64 p.f0, .int .i64 p.f1, .int .i64 p.f2, .string p.f3], ?_, ?_⟩)) ?_ ?_ ?_)
    · unfold execOp
      simp only [ho, resolve, invoke, builtin, Sem.run_bind, Sem.run_pure, Result.andThen_ok, List.map_toArray, List.map_cons, List.map_nil, hs, hx, hrun]
    · have := own_weaken r1 (Nat.le_trans hbase hsz)
      rw [List.length_append, List.length_singleton]
      exact this
    · refine Kd.reps_append (hnr.imp_ (fun q c hq => ?_)) ⟨rfl, fun j q hj => ?_⟩
      · rw [k30_open hq]; exact k30_mkM _ _ _ _
      · rcases j with _ | j
        · simp at hj
          subst hj
          exact k30_mkM _ _ _ _
        · simp at hj
    · exact (HB.alloc hbase _).grown r2 (Nat.le_trans hbase hsz) (fun k hk => by cases hk)
    · have g1 := World.grownBy_alloc W (.cells #[.int .i64 p.f0, .int .i64 p.f1, .int .i64 p.f2, .string p.f3] 30) (none : Option Nat)
      have g2 := World.grownBy.trans g1 r2
      exact ⟨g2.os, g2.tape, g2.output, g2.size, fun k hk _ => g2.block k hk (by simp)⟩
    · rcases hvb : v'.ownBlock with _ | b
      · exfalso
        rcases r1.2 with ⟨_, h0⟩ | ⟨g, cap, cur, rfl, _⟩
        · omega
        · simp [Value.ownBlock] at hvb
      · exact .inr ⟨b, rfl, hown b hvb⟩
end
end Go.Proofs.Ytmapkneofccboaa.FA
