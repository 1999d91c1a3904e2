/- Written by hand (wip/tools/gen_log10.py): Put of a log. -/
import Derived.Test.YtmapkneofccboaaHLogPut
namespace Go.Proofs.Ytmapkneofccboaa.FA
open Go.RowKit Go.Proofs.YtmapkneofccboaaW.PrintWords Go.Proofs.YtmapkneofccboaaW.PrintLast Go.Proofs.YtmapkneofccboaaW.PrintMore Go.Proofs.Ytmapkneofccboaa.Hand Go.Proofs.Ytmapkneofccboaa.B
set_option linter.unusedVariables false
set_option linter.unusedSimpArgs false
attribute [local go_sem] max2_int min2_int max_two min_two
/-- What Put leaves: the log as it was, or others behind an operation. -/
def PutPost (w : World) (N g : Nat) (base : Int) (l : List S30) (V : Value) (ok : Nat → Prop) (n : Int) (xs : List S30) (e : Ending) (w' : World) : Prop :=
  ∃ (ee : Int) (l' : List S30) (V' : Value), e = .returned (.int .i64 ee) ∧ LBox 58 w' N g base l' V' ok ∧ LMoves N g V V' w w' ∧ ((ee ≠ 0 ∧ l' = l) ∨ (ee = 0 ∧ base ≤ n ∧ n ≤ base + (l.length : Int) ∧ l' = l.take (n - base).toNat ++ xs ∧ l'.length ≤ 256 ∧ base + (l'.length : Int) ≤ 1099511627776))
theorem log_put_bad {w : World} {N g : Nat} {base : Int} {l : List S30} {V : Value} {ok : Nat → Prop} (r : LBox 58 w N g base l V ok) (hf : ∀ k, w.heap.size ≤ k → ok k) (hx : 0 ≤ base ∧ base + (l.length : Int) ≤ 1099511627776) (n : Int) (Ax : Option Addr) (cx : Nat) (xs : List S30) (hxr : Kd.C k30 w Ax xs.length xs) (hcx : xs.length ≤ cx) (hlen : l.length ≤ 256) (hxs : xs.length ≤ 1000000) (h : n < 0 ∨ base + (l.length : Int) < n) : Calls Try.prog 16 #[.pointer (some ⟨g, 0, none⟩), .int .i64 n, .slice Ax xs.length cx] w (PutPost w N g base l V ok n xs) := by
  have HR := Aside0.mk r
  have HX := Aside0.mk hx
  have HH := Aside0.mk h
  clear h r hx hf hxr hcx hlen hxs
  go_enter Try.func16, Try.ntmps16
  go_wp2_with (first | (go_at_call 27; (refine (log_place_bad HR.out HX.out n (by have := HH.out; omega)).mono ?_); rintro e_ w1_ ⟨rfl, hb⟩; have HB := Aside0.mk hb; clear hb))
  go_ret
  exact ⟨_, l, V, rfl, HR.out.below HB.out, LMoves.of_below HB.out HR.out.hs, .inl ⟨by decide, rfl⟩⟩
theorem log_put_gone {w : World} {N g : Nat} {base : Int} {l : List S30} {V : Value} {ok : Nat → Prop} (r : LBox 58 w N g base l V ok) (hf : ∀ k, w.heap.size ≤ k → ok k) (hx : 0 ≤ base ∧ base + (l.length : Int) ≤ 1099511627776) (n : Int) (Ax : Option Addr) (cx : Nat) (xs : List S30) (hxr : Kd.C k30 w Ax xs.length xs) (hcx : xs.length ≤ cx) (hlen : l.length ≤ 256) (hxs : xs.length ≤ 1000000) (h : 0 ≤ n ∧ n < base) : Calls Try.prog 16 #[.pointer (some ⟨g, 0, none⟩), .int .i64 n, .slice Ax xs.length cx] w (PutPost w N g base l V ok n xs) := by
  have HR := Aside0.mk r
  have HX := Aside0.mk hx
  have HH := Aside0.mk h
  clear h r hx hf hxr hcx hlen hxs
  go_enter Try.func16, Try.ntmps16
  go_wp2_with (first | (go_at_call 27; (refine (log_place_gone HR.out HX.out n (by have := HH.out; omega)).mono ?_); rintro e_ w1_ ⟨rfl, hb⟩; have HB := Aside0.mk hb; clear hb))
  go_ret
  exact ⟨_, l, V, rfl, HR.out.below HB.out, LMoves.of_below HB.out HR.out.hs, .inl ⟨by decide, rfl⟩⟩
set_option maxHeartbeats 8000000 in
set_option maxRecDepth 100000 in
theorem log_put_in {w : World} {N g : Nat} {base : Int} {l : List S30} {V : Value} {ok : Nat → Prop} (r : LBox 58 w N g base l V ok) (hf : ∀ k, w.heap.size ≤ k → ok k) (hx : 0 ≤ base ∧ base + (l.length : Int) ≤ 1099511627776) (n : Int) (Ax : Option Addr) (cx : Nat) (xs : List S30) (hxr : Kd.C k30 w Ax xs.length xs) (hcx : xs.length ≤ cx) (hlen : l.length ≤ 256) (hxs : xs.length ≤ 1000000) (h : base ≤ n ∧ n ≤ base + (l.length : Int)) : Calls Try.prog 16 #[.pointer (some ⟨g, 0, none⟩), .int .i64 n, .slice Ax xs.length cx] w (PutPost w N g base l V ok n xs) := by
  obtain ⟨A, c, he, hc⟩ := FR_slice r.hl
  subst he
  obtain ⟨i, hi⟩ : ∃ i : Nat, n - base = (i : Int) := ⟨(n - base).toNat, by omega⟩
  have hil : i ≤ l.length := by omega
  have hk := cutHM A l.length c i hil hc
  obtain ⟨fr, hfr⟩ : ∃ fr : Nat, fr = i - 1 := ⟨_, rfl⟩
  have HMX := Aside0.mk (show (if wrap64 ((i : Int) - 1) < 0 then (0 : Int) else wrap64 ((i : Int) - 1)) = (fr : Int) by rw [wrap64_in (by omega) (by omega)]; split <;> omega)
  obtain ⟨lt, hlt⟩ : ∃ lt, lt = l.take i := ⟨_, rfl⟩
  obtain ⟨al, hal⟩ : ∃ al, al = lt ++ xs := ⟨_, rfl⟩
  have hltl : lt.length = i := by rw [hlt, List.length_take]; omega
  have hall : al.length = i + xs.length := by rw [hal, List.length_append, hltl]
  obtain ⟨q, hq⟩ : ∃ q, q = al.length := ⟨_, rfl⟩
  have HWq := Aside0.mk (show wrap64 (1099511627776 - (q : Int)) = 1099511627776 - (q : Int) from wrap64_in (by omega) (by omega))
  have HQ := Aside0.mk hq
  have HQL := Aside0.mk (show q = i + xs.length by omega)
  have HQB := Aside0.mk (show q ≤ 1000256 by omega)
  have HFQ := Aside0.mk (show fr ≤ q by omega)
  have HFI := Aside0.mk (show i ≤ 256 by omega)
  have HXS := Aside0.mk hxs
  have HAL := Aside0.mk hal
  have HLT := Aside0.mk hlt
  have HLTL := Aside0.mk hltl
  have HIL := Aside0.mk hil
  have HR := Aside0.mk r
  have HX := Aside0.mk hx
  have HH := Aside0.mk h
  have HI := Aside0.mk hi
  have HFr := Aside0.mk hf
  have HXR := Aside0.mk hxr
  have HCX := Aside0.mk hcx
  have hbq : decide ((q : Int) > 256) = decide (256 < q) := by by_cases h9 : 256 < q <;> simp [h9] <;> omega
  clear r hx h hi hf hxr hcx hlen hxs hil hc hfr hlt hal hltl hall hq hbq
  go_enter Try.func16, Try.ntmps16
  go_wp2_with (first | (go_at_call 27; (refine (log_place_ok HR.out HX.out n HH.out).mono ?_); rintro e_ w1_ ⟨he, hb⟩; rw [HI.out] at he; subst he; have HB := Aside0.mk hb; clear hb))
  refine (contains_some Ax cx xs _ (by have := HXS.out; omega) (Kd.C_below HXR.out HB.out) HCX.out).mono ?_
  rintro e_ w2_ ⟨⟨b, rfl⟩, hb⟩
  have n1_ := Aside0.mk (below_step HB.out hb)
  clear HB hb
  have HB := n1_
  clear n1_
  cases b with
  | true =>
    go_wp2
    go_ret
    exact ⟨_, l, _, rfl, HR.out.below HB.out, LMoves.of_below HB.out HR.out.hs, .inl ⟨by decide, rfl⟩⟩
  | false =>
    have hz1 := (blk_cell (HR.out.below HB.out).hb 1).trans rfl
    have hmx := HMX.out
    go_wp2_with (first | ((with_reducible refine gate_builtin (b := .append) (xs := #[.tmp 28, .tmp 29]) rfl ?_); at_builtin; refine FR_append_rows N rfl (.tmp 28) (.tmp 29) 28 rfl Try.underlying28 info30 A i lt xs Ax xs.length cx ok rfl rfl ?aF ?aO ?aR ?aS ?aL ?_; (case aF => exact (fun k_ hk_ => HFr.out k_ (Nat.le_trans HB.out.size hk_))); (case aO => rw [HLT.out]; exact FR_cut (HR.out.below HB.out).hl HIL.out); (case aR => exact Kd.C_below HXR.out HB.out); (case aS => exact Nat.le_trans HR.out.hs HB.out.size); (case aL => have h1_ := HFI.out; have h2_ := HXS.out; clear hmx; omega); intro v1_ w3_ ho hb hown; rw [← HAL.out] at ho; obtain ⟨A3, c3, he3, hc3⟩ := FR_slice ho; rw [← HQ.out] at he3 hc3; subst he3; have HO := Aside0.mk ho; have HOW := Aside0.mk hown; have HC3 := Aside0.mk hc3; have HB2 := HB; have n1_ := Aside0.mk (below_step HB.out hb); clear HB hz1; have HB := n1_; clear n1_ ho hb hown hc3; have hk3 := cutFromI A3 q c3 fr HFQ.out HC3.out; obtain ⟨A4, hA4⟩ : ∃ A1, A1 = (if c3 = fr then A3 else A3.map (·.add (fr * 4))) := ⟨_, rfl⟩; obtain ⟨c4, hc4⟩ : ∃ c1, c1 = c3 - fr := ⟨_, rfl⟩; obtain ⟨q4, hq4⟩ : ∃ c1, c1 = q - fr := ⟨_, rfl⟩; rw [← hA4, ← hc4, ← hq4] at hk3; have HA4 := Aside0.mk hA4; have HC4 := Aside0.mk hc4; have HQ4 := Aside0.mk hq4; clear hA4 hc4 hq4))
    clear hmx
    have HD := Aside0.mk (show Kd.C k30 _ A4 (al.drop fr).length (al.drop fr) from by
      have hd := Kd.C_drop (m := fr) (FR_reads' HO.out).2.2 (by rw [← HQ.out]; exact HFQ.out) (c := c3) (by rw [← HQ.out]; exact HC3.out)
      rw [show (k30).sz = 4 from rfl, ← HA4.out] at hd
      exact hd)
    have HDL := Aside0.mk (show q4 = (al.drop fr).length by rw [List.length_drop, HQ4.out, HQ.out])
    rw [HDL.out]
    refine (sorted_some A4 c4 (al.drop fr) _ (by rw [← HDL.out, HQ4.out]; have := HQB.out; omega) HD.out (by rw [← HDL.out, HQ4.out, HC4.out]; exact Nat.sub_le_sub_right HC3.out _)).mono ?_
    rintro e_ w4_ ⟨⟨b, rfl⟩, hb⟩
    have HBs := Aside0.mk (below_step HB.out hb)
    have n2_ := Aside0.mk (FR_below HO.out hb)
    clear HB HO hb
    have HB := HBs
    have HO := n2_
    clear n2_ HBs
    cases b with
    | false =>
      go_wp2
      go_ret
      exact ⟨_, l, _, rfl, HR.out.below HB.out, LMoves.of_below HB.out HR.out.hs, .inl ⟨by decide, rfl⟩⟩
    | true =>
      have hz0 := (blk_cell (HR.out.below HB.out).hb 0).trans rfl
      have hf1 := blk_frozen (HR.out.below HB.out).hb 1
      have hz1 := (blk_cell (HR.out.below HB.out).hb 1).trans rfl
      by_cases h256 : 256 < q
      · have e1 : decide ((q : Int) > 256) = true := decide_eq_true (by omega)
        have e2 : decide (256 < q) = true := decide_eq_true h256
        go_wp2
        go_ret
        exact ⟨_, l, _, rfl, HR.out.below HB.out, LMoves.of_below HB.out HR.out.hs, .inl ⟨by decide, rfl⟩⟩
      · have H256 := Aside0.mk (show q ≤ 256 by omega)
        have e1 : decide ((q : Int) > 256) = false := decide_eq_false (by omega)
        have e2 : decide (256 < q) = false := decide_eq_false h256
        by_cases hbq : base > 1099511627776 - (q : Int)
        · have e3 : decide (base > 1099511627776 - (q : Int)) = true := decide_eq_true hbq
          have hwq := HWq.out
          go_wp2
          go_ret
          exact ⟨_, l, _, rfl, HR.out.below HB.out, LMoves.of_below HB.out HR.out.hs, .inl ⟨by decide, rfl⟩⟩
        · have HBQ := Aside0.mk (show base + (q : Int) ≤ 1099511627776 by omega)
          have e3 : decide (base > 1099511627776 - (q : Int)) = false := decide_eq_false hbq
          have hwq := HWq.out
          go_wp2
          go_ret
          clear hwq
          have hr := HR.out.below HB.out
          have ho : (Value.slice A i i).ownBlock = (Value.slice A l.length c).ownBlock := by cases A <;> rfl
          have hm := (LMoves.of_below (N := N) (g := g) (V := .slice A l.length c) HB.out HR.out.hs).trans (LMoves.of_set (N := N) (g := g) (V := .slice A l.length c) w4_ HR.out.hN 1 (.slice A3 q c3))
          refine ⟨_, al, .slice A3 q c3, rfl, ⟨blk_put (cs := #[.int .i64 base, .slice A l.length c]) hr.hb 1 _ rfl, FR_set HO.out hr.hb (by decide) 1 _, HR.out.hN, by simp; exact hr.hs⟩, ⟨hm.os, hm.tape, hm.output, hm.size, hm.low, hm.block, fun k hk_ => ?_⟩, .inr ⟨rfl, HH.out.1, HH.out.2, ?_, ?_, ?_⟩⟩
          · rcases HOW.out k hk_ with h1 | h1
            · exact .inl (by rw [← ho]; exact h1)
            · exact .inr (Nat.le_trans HB2.out.size h1)
          · rw [HAL.out, HLT.out, show (n - base).toNat = i by have := HI.out; omega]
          · rw [← HQ.out]; exact H256.out
          · rw [← HQ.out]; exact HBQ.out
theorem log_put {w : World} {N g : Nat} {base : Int} {l : List S30} {V : Value} {ok : Nat → Prop} (r : LBox 58 w N g base l V ok) (hf : ∀ k, w.heap.size ≤ k → ok k) (hx : 0 ≤ base ∧ base + (l.length : Int) ≤ 1099511627776) (n : Int) (Ax : Option Addr) (cx : Nat) (xs : List S30) (hxr : Kd.C k30 w Ax xs.length xs) (hcx : xs.length ≤ cx) (hlen : l.length ≤ 256) (hxs : xs.length ≤ 1000000) : Calls Try.prog 16 #[.pointer (some ⟨g, 0, none⟩), .int .i64 n, .slice Ax xs.length cx] w (PutPost w N g base l V ok n xs) := by
  by_cases h1 : n < 0 ∨ base + (l.length : Int) < n
  · exact log_put_bad r hf hx n Ax cx xs hxr hcx hlen hxs h1
  · by_cases h2 : n < base
    · exact log_put_gone r hf hx n Ax cx xs hxr hcx hlen hxs ⟨by omega, h2⟩
    · exact log_put_in r hf hx n Ax cx xs hxr hcx hlen hxs ⟨by omega, by omega⟩
end Go.Proofs.Ytmapkneofccboaa.FA
