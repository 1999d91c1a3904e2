/- Written by hand (wip/tools/gen_inbox_ref2.py): Take and Drain of the inbox of the document's answer. -/
import Derived.Test.YthmeagbfoccnlaaHInboxRef
namespace Go.Proofs.Ythmeagbfoccnlaa.FA
open Go.Conc Go.RowKit Go.Proofs.YthmeagbfoccnlaaW.PrintWords Go.Proofs.YthmeagbfoccnlaaW.PrintLast Go.Proofs.YthmeagbfoccnlaaW.PrintMore Go.Proofs.Ythmeagbfoccnlaa.Hand Go.Proofs.Ythmeagbfoccnlaa.B
set_option linter.unusedVariables false
set_option linter.unusedSimpArgs false
theorem Kd.R_slice' {α : Type} {d : Kd α} {e base : Nat} {ok : Nat → Prop} {w : World} {v : Value} {xs : List α} (h : d.R e w base ok v xs) : ∃ A c, v = .slice A xs.length c ∧ xs.length ≤ c := by
  obtain ⟨A, c, h1, h2, _⟩ := Kd.R_reads h
  exact ⟨A, c, h1, h2⟩
set_option maxHeartbeats 2000000 in
theorem ref_take_u {w : World} {N h room : Nat} {cl : Bool} {x : ByteArray} {u v : List ByteArray} {Vu Vv : Value} (r : RBox w N h room cl (x :: u) v Vu Vv) : Calls Try.prog 17 #[.pointer (some ⟨h, 0, none⟩)] w fun e w' => ∃ V', e = .returned (.tuple #[.string x, .bool true, .int .i64 0]) ∧ RBox w' N h room cl u v V' Vv ∧ RMoves N h w w' := by
  obtain ⟨A, c, he, hc⟩ := Kd.Q_slice r.hu
  subst he
  obtain ⟨m, hm⟩ : ∃ m, m = (x :: u).length := ⟨_, rfl⟩
  rw [← hm] at r hc
  have HMM := Aside0.mk (show m = u.length + 1 by rw [hm]; rfl)
  clear hm
  have b6 : decide ((m : Int) > 0) = true := decide_eq_true (by have := HMM.out; omega)
  have b7 : decide ((0 : Int) < (m : Int)) = true := decide_eq_true (by have := HMM.out; omega)
  have b8 : 0 < m := by have := HMM.out; omega
  have b9 : decide (0 < m) = true := decide_eq_true b8
  obtain ⟨ad, eA, hx⟩ := Kd.at_string (Kd.Q_reads' r.hu).2.2 0 (by omega) (by simp)
  subst eA
  rw [show rdOf ByteArray.empty (x :: u) 0 = x from rfl] at hx
  replace hx := (show w.cell? ad = some (.string x) from by simpa [Addr.add] using hx)
  have hk3 := cut1 (some ad) m c u.length HMM.out hc
  obtain ⟨A3, hA3⟩ : ∃ A1, A1 = (if c = 1 then (some ad) else (some ad : Option Addr).map (·.add (1 * 1))) := ⟨_, rfl⟩
  obtain ⟨c3, hc3⟩ : ∃ c1, c1 = c - 1 := ⟨_, rfl⟩
  rw [← hA3, ← hc3] at hk3
  have HA3 := Aside0.mk hA3
  have HC3 := Aside0.mk hc3
  have HR := Aside0.mk r
  have hz1 := (blk_cell HR.out.hb 1).trans rfl
  have hz2 := (blk_cell HR.out.hb 2).trans rfl
  have hf1 := blk_frozen HR.out.hb 1
  clear r hA3 hc3 hc
  go_enter Try.func17, Try.ntmps17
  go_wp2
  go_ret3
  have hd := Kd.Q_drop (k := 1) HR.out.hu (by simp)
  rw [show m - 1 = u.length by rw [HMM.out]; rfl, show (x :: u).drop 1 = u from rfl, show Kd.string.sz = 1 from rfl, ← HA3.out, ← HC3.out] at hd
  have ho : (Value.slice A3 u.length c3).ownBlock = (Value.slice (some ad) m c).ownBlock := by rw [HA3.out]; exact cut_owner _ _ _ _ _ _ _
  exact ⟨_, rfl, ⟨blk_put (cs := #[.int .i64 (room : Int), .slice (some ad) m c, Vv, .bool cl]) HR.out.hb 1 _ rfl, Kd.Q_set hd HR.out.hb (by decide) 1 _, Kd.Q_set (Kd.Q_mono HR.out.hv (ok' := Beside (.slice A3 u.length c3)) (fun k_ hk => ⟨trivial, by rw [ho]; exact hk.2⟩)) HR.out.hb (by decide) 1 _, HR.out.hN, by simp; exact HR.out.hs⟩, RMoves.of_set _ HR.out.hN 1 _⟩
set_option maxHeartbeats 2000000 in
theorem ref_take_n {w : World} {N h room : Nat} {cl : Bool} {x : ByteArray} {v : List ByteArray} {Vu Vv : Value} (r : RBox w N h room cl [] (x :: v) Vu Vv) : Calls Try.prog 17 #[.pointer (some ⟨h, 0, none⟩)] w fun e w' => ∃ V', e = .returned (.tuple #[.string x, .bool false, .int .i64 0]) ∧ RBox w' N h room cl [] v Vu V' ∧ RMoves N h w w' := by
  obtain ⟨A, c, he, hc⟩ := Kd.Q_slice r.hv
  subst he
  obtain ⟨A0, c0, he0, hc0⟩ := Kd.Q_slice r.hu
  subst he0
  obtain ⟨m, hm⟩ : ∃ m, m = (x :: v).length := ⟨_, rfl⟩
  rw [← hm] at r hc
  have HMM := Aside0.mk (show m = v.length + 1 by rw [hm]; rfl)
  clear hm
  have b6 : decide ((m : Int) > 0) = true := decide_eq_true (by have := HMM.out; omega)
  have b7 : decide ((0 : Int) < (m : Int)) = true := decide_eq_true (by have := HMM.out; omega)
  have b8 : 0 < m := by have := HMM.out; omega
  have b9 : decide (0 < m) = true := decide_eq_true b8
  obtain ⟨ad, eA, hx⟩ := Kd.at_string (Kd.Q_reads' r.hv).2.2 0 (by omega) (by simp)
  subst eA
  rw [show rdOf ByteArray.empty (x :: v) 0 = x from rfl] at hx
  replace hx := (show w.cell? ad = some (.string x) from by simpa [Addr.add] using hx)
  have hk3 := cut1 (some ad) m c v.length HMM.out hc
  obtain ⟨A3, hA3⟩ : ∃ A1, A1 = (if c = 1 then (some ad) else (some ad : Option Addr).map (·.add (1 * 1))) := ⟨_, rfl⟩
  obtain ⟨c3, hc3⟩ : ∃ c1, c1 = c - 1 := ⟨_, rfl⟩
  rw [← hA3, ← hc3] at hk3
  have HA3 := Aside0.mk hA3
  have HC3 := Aside0.mk hc3
  have HR := Aside0.mk r
  have hz1 := (blk_cell HR.out.hb 1).trans rfl
  have hz2 := (blk_cell HR.out.hb 2).trans rfl
  have hf2 := blk_frozen HR.out.hb 2
  clear r hA3 hc3 hc
  go_enter Try.func17, Try.ntmps17
  go_wp2
  go_ret3
  have hd := Kd.Q_drop (k := 1) HR.out.hv (by simp)
  rw [show m - 1 = v.length by rw [HMM.out]; rfl, show (x :: v).drop 1 = v from rfl, show Kd.string.sz = 1 from rfl, ← HA3.out, ← HC3.out] at hd
  have ho : (Value.slice A3 v.length c3).ownBlock = (Value.slice (some ad) m c).ownBlock := by rw [HA3.out]; exact cut_owner _ _ _ _ _ _ _
  exact ⟨_, rfl, ⟨blk_put (cs := #[.int .i64 (room : Int), .slice A0 0 c0, .slice (some ad) m c, .bool cl]) HR.out.hb 2 _ rfl, Kd.Q_set (Kd.Q_mono HR.out.hu (ok' := Beside (.slice A3 v.length c3)) (fun k_ hk => ⟨trivial, by rw [ho]; exact hk.2⟩)) HR.out.hb (by decide) 2 _, Kd.Q_set hd HR.out.hb (by decide) 2 _, HR.out.hN, by simp; exact HR.out.hs⟩, RMoves.of_set _ HR.out.hN 2 _⟩
theorem ref_take_e {w : World} {N h room : Nat} {cl : Bool} {Vu Vv : Value} (r : RBox w N h room cl [] [] Vu Vv) : Calls Try.prog 17 #[.pointer (some ⟨h, 0, none⟩)] w fun e w' => e = .returned (.tuple #[.string ⟨#[]⟩, .bool false, .int .i64 6]) ∧ w' = w := by
  obtain ⟨A, c, he, hc⟩ := Kd.Q_slice r.hu
  subst he
  obtain ⟨A0, c0, he0, hc0⟩ := Kd.Q_slice r.hv
  subst he0
  have hz1 := (blk_cell r.hb 1).trans rfl
  have hz2 := (blk_cell r.hb 2).trans rfl
  clear r hc hc0
  go_enter Try.func17, Try.ntmps17
  go_wp2
  go_ret3
  exact ⟨rfl, rfl⟩
theorem ref_take {w : World} {N h room : Nat} {cl : Bool} {u v : List ByteArray} {Vu Vv : Value} (r : RBox w N h room cl u v Vu Vv) : Calls Try.prog 17 #[.pointer (some ⟨h, 0, none⟩)] w fun e w' =>
    ∃ Vu' Vv', e = .returned (.tuple #[.string (takeV u v).1, .bool (takeV u v).2.1, .int .i64 (takeV u v).2.2.1]) ∧ RBox w' N h room cl (takeV u v).2.2.2.1 (takeV u v).2.2.2.2 Vu' Vv' ∧ RMoves N h w w' := by
  cases u with
  | cons x u => exact (ref_take_u r).mono (by rintro e w' ⟨V', rfl, h1, h2⟩; exact ⟨_, _, rfl, h1, h2⟩)
  | nil =>
    cases v with
    | cons x v => exact (ref_take_n r).mono (by rintro e w' ⟨V', rfl, h1, h2⟩; exact ⟨_, _, rfl, h1, h2⟩)
    | nil => exact (ref_take_e r).mono (by rintro e w' ⟨rfl, rfl⟩; exact ⟨_, _, rfl, r, RMoves.refl _ _ _⟩)
set_option maxHeartbeats 4000000 in
theorem ref_drain {w : World} {N h room : Nat} {cl : Bool} {u v : List ByteArray} {Vu Vv : Value} (r : RBox w N h room cl u v Vu Vv) (hl : u.length + v.length ≤ 1000000) : Calls Try.prog 18 #[.pointer (some ⟨h, 0, none⟩)] w fun e w' => ∃ V, e = .returned V ∧ Kd.R Kd.string 9 w' w.heap.size (fun _ => True) V (u ++ v) ∧ RBox w' N h room cl [] [] (.slice none 0 0) (.slice none 0 0) ∧ RMoves N h w w' ∧ (∀ k, k < w.heap.size → k ≠ h → w'.heap[k]? = w.heap[k]?) := by
  obtain ⟨Au, cu, he, hcu⟩ := Kd.Q_slice r.hu
  subst he
  obtain ⟨Av, cv, he0, hcv⟩ := Kd.Q_slice r.hv
  subst he0
  have HL := Aside0.mk hl
  have HR := Aside0.mk r
  have HB := Aside0.mk (Below.refl w.heap.size w)
  have hz1 := (blk_cell HR.out.hb 1).trans rfl
  have hz2 := (blk_cell HR.out.hb 2).trans rfl
  have hf1 := blk_frozen HR.out.hb 1
  have hf2 := blk_frozen HR.out.hb 2
  clear r hl hcu hcv
  go_enter Try.func18, Try.ntmps18
  go_wp2_with (first | ((with_reducible refine gate_builtin (b := .append) (xs := #[.tmp 4, .tmp 8]) rfl ?_); at_builtin; refine Kd.R_append_rows Kd.string (w0 := w) w.heap.size rfl (.tmp 4) (.tmp 8) 28 9 (.string ⟨#[]⟩) 16 rfl Try.underlying28 infoStr rfl (by decide) (by omega) (.slice none 0 0) ([] : List ByteArray) u _ _ _ (fun _ => True) (fun _ => False) rfl rfl ?aO ?aR (fun _ _ h => h) (fun _ h => h.elim) ?aF ?aB ?aS ?aL ?_; (case aR => exact (Kd.Q_reads' (HR.out.below HB.out).hu).2.2); (case aB => exact HB.out); (case aF => exact (fun _ _ => trivial)); (case aO => exact Kd.R_nil _ _ _ _ _); (case aS => exact HB.out.size); (case aL => have := HL.out; simp; omega); intro v3_ w3_ ho hb hg hat; obtain ⟨A3, c3, he3, _⟩ := Kd.R_slice' ho; rw [show ([] ++ u : List ByteArray) = u from rfl] at he3 ho; subst he3; have n2_ := Aside0.mk hb; have n3_ := Aside0.mk ho; clear HB hz1 hz2 hf1 hf2; have HB := n2_; have HO := n3_; clear n2_ n3_ ho hb hg hat; have hz1 := (blk_cell (HR.out.below HB.out).hb 1).trans rfl; have hz2 := (blk_cell (HR.out.below HB.out).hb 2).trans rfl; have hf1 := blk_frozen (HR.out.below HB.out).hb 1; have hf2 := blk_frozen (HR.out.below HB.out).hb 2) | ((with_reducible refine gate_builtin (b := .append) (xs := #[.tmp 10, .tmp 14]) rfl ?_); at_builtin; refine Kd.R_append_rows Kd.string (w0 := w) w.heap.size rfl (.tmp 10) (.tmp 14) 28 9 (.string ⟨#[]⟩) 16 rfl Try.underlying28 infoStr rfl (by decide) (by omega) (.slice A3 u.length c3) u v _ _ _ (fun _ => True) (fun _ => False) rfl rfl ?aO ?aR (fun _ _ h => h) (fun _ h => h.elim) ?aF ?aB ?aS ?aL ?_; (case aR => exact (Kd.Q_reads' (HR.out.below HB.out).hv).2.2); (case aB => exact HB.out); (case aF => exact (fun _ _ => trivial)); (case aO => exact HO.out); (case aS => exact HB.out.size); (case aL => have := HL.out; omega); intro v3_ w3_ ho hb hg hat; obtain ⟨A4, c4, he3, _⟩ := Kd.R_slice' ho; rw [show (u ++ v).length = u.length + v.length from List.length_append] at he3; subst he3; have n2_ := Aside0.mk hb; have n3_ := Aside0.mk ho; clear HB hz1 hz2 hf1 hf2; have HB := n2_; have HO := n3_; clear n2_ n3_ ho hb hg hat; have hz1 := (blk_cell (HR.out.below HB.out).hb 1).trans rfl; have hz2 := (blk_cell (HR.out.below HB.out).hb 2).trans rfl; have hf1 := blk_frozen (HR.out.below HB.out).hb 1; have hf2 := blk_frozen (HR.out.below HB.out).hb 2))
  go_ret
  have HQ := HR.out.below HB.out
  exact ⟨_, rfl, Kd.R_set (Kd.R_set HO.out HQ.hb (by decide) 1 _) (blk_put (cs := #[.int .i64 (room : Int), .slice Au u.length cu, .slice Av v.length cv, .bool cl]) HQ.hb 1 _ rfl) (by decide) 2 _, ⟨blk_put (cs := #[.int .i64 (room : Int), .slice none 0 0, .slice Av v.length cv, .bool cl]) (blk_put (cs := #[.int .i64 (room : Int), .slice Au u.length cu, .slice Av v.length cv, .bool cl]) HQ.hb 1 _ rfl) 2 _ rfl, Kd.Q_nil _ _ _ _ _, Kd.Q_nil _ _ _ _ _, HQ.hN, by simp; exact HQ.hs⟩, ((RMoves.of_below HB.out HR.out.hs).trans (RMoves.of_set _ HQ.hN 1 _)).trans (RMoves.of_set _ HQ.hN 2 _), fun k hk hn => (Below.heap_setCell _ ⟨h, 2, none⟩ _ k hn).trans ((Below.heap_setCell _ ⟨h, 1, none⟩ _ k hn).trans (HB.out.block k hk))⟩
end Go.Proofs.Ythmeagbfoccnlaa.FA
