/- Joined by merge.py out of: HFolderPlace, HFolderClone. -/
import Derived.Test.YtjjjbpgncmfpgaaHand
import Derived.Test.YtjjjbpgncmfpgaaB
import Derived.Test.YtjjjbpgncmfpgaaFAx0
import Derived.Outline
import Derived.Lib.LazyBuf
section
/- Written by hand: Dir.place (slices.IndexFunc with a closure). -/
namespace Go.Proofs.Ytjjjbpgncmfpgaa.FA
open Go.RowKit Go.Proofs.YtjjjbpgncmfpgaaW.PrintWords Go.Proofs.YtjjjbpgncmfpgaaW.PrintLast Go.Proofs.YtjjjbpgncmfpgaaW.PrintMore Go.Proofs.Ytjjjbpgncmfpgaa.Hand Go.Proofs.Ytjjjbpgncmfpgaa.B
set_option linter.unusedVariables false
set_option linter.unusedSimpArgs false
/-- The place of the first that is so, from a number on; -1: there is none. -/
def idxFrom {α : Type} (p : α → Bool) : List α → Int → Int
  | [], _ => -1
  | x :: t, i => if p x then i else idxFrom p t (i + 1)
def isName (name : ByteArray) (x : S30) : Bool := x.f0.toList == name.toList
set_option maxHeartbeats 400000 in
theorem place_closure (x : S30) (name : ByteArray) (g : Nat) (w : World) (hb : w.cell? ⟨g, 0, none⟩ = some (.string name)) :
    Calls Try.prog 37 #[.agg #[.string x.f0, .int .i64 x.f1, .int .i64 x.f2.f0, .int .i64 x.f2.f1], .pointer (some ⟨g, 0, none⟩)] w fun e w' => e = .returned (.bool (isName name x)) ∧ Below w.heap.size w w' := by
  have HB := Aside0.mk (Below.refl w.heap.size w)
  have HC := Aside0.mk hb
  go_enter Try.func37, Try.ntmps37
  go_wp2_with (first | ((with_reducible refine gate_dst (N := 2) rfl ?_); refine box_event ?hg (N := 2) ?hd (cs := #[.string x.f0, .int .i64 x.f1, .int .i64 x.f2.f0, .int .i64 x.f2.f1]) (t := 30) ?hr ?_; (case hd => rfl); (case hg => rfl); (case hr => first | (go_simp; done) | (go_simp; rfl)); intro gb hg w1 hbox hb1; have n1_ := Aside0.mk (below_step HB.out hb1); have hcap : w1.cell? ⟨g, 0, none⟩ = some (.string name) := pw_cell_below hb1 HC.out; have BK := Aside0.mk hbox; clear HB; have HB := n1_; clear n1_ hb1 hbox hg; have hz0 : w1.cell? ⟨gb, 0, none⟩ = some (.string x.f0) := (blk_cell BK.out 0).trans rfl))
  go_ret
  exact ⟨rfl, HB.out⟩
theorem idxFrom_drop_step {α : Type} (p : α → Bool) (l : List α) (k : Nat) (hk : k < l.length) (x : α) (hx : x = l[k]) (i : Int) :
    idxFrom p (l.drop k) i = if p x then i else idxFrom p (l.drop (k + 1)) (i + 1) := by
  rw [List.drop_eq_getElem_cons hk, hx]
  rfl
set_option maxHeartbeats 4000000 in
theorem indexFunc_calls (p : S30 → Bool) (g : Nat) (lb : Array Value) (eg : ∀ args w, (callFunc g args).run Try.prog w = .ok (.enter g args) w) (A0 : Option Addr) (c0 : Nat) (l : List S30) (w : World)
    (hp : ∀ W x, Below w.heap.size w W → Calls Try.prog g (#[.agg #[.string x.f0, .int .i64 x.f1, .int .i64 x.f2.f0, .int .i64 x.f2.f1]] ++ lb) W fun e w' => e = .returned (.bool (p x)) ∧ Below w.heap.size w w')
    (hbig : l.length ≤ 9223372036854775807) (hr0 : Kd.C k30 w A0 l.length l) (hc0 : l.length ≤ c0) :
    Calls Try.prog 35 #[.slice A0 l.length c0, .func (.func g) #[] lb] w fun e w' => e = .returned (.int .i64 (idxFrom p l 0)) ∧ Below w.heap.size w w' := by
  have HR0 := Aside0.mk hr0
  have HC0 := Aside0.mk hc0
  clear hr0 hc0
  have HP := Aside0.mk hp
  have HN := Aside0.mk hbig
  clear hp hbig
  have hu := Try.underlying30
  go_enter Try.func35, Try.ntmps35
  go_wp2
  go_loopg [5, 8] l.length (fun gg _ s8 wr => ∃ x : Int, s8 = .int .i64 x ∧ Aside0 (0 ≤ x ∧ x ≤ (l.length : Int) ∧ l.length - x.toNat ≤ gg) ∧ Aside0 (Below w.heap.size w wr) ∧ Aside0 (idxFrom p l 0 = idxFrom p (l.drop x.toNat) x))
  case atStart => exact ⟨0, rfl, ⟨by omega, by omega, by omega⟩, ⟨Below.refl _ w⟩, ⟨rfl⟩⟩
  case round =>
    obtain ⟨x, rfl, HX, BW, A⟩ := hrel
    by_cases hlt : x < (l.length : Int)
    · have hp0 : (0 : Int) ≤ x := HX.out.1
      obtain ⟨ad, e0, hx0, hx1, hx2, hx3⟩ := at_T30 HR0.out x hp0 hlt
      cases e0
      replace hx0 := (BW.out.cell (World.block_lt_of_cell? w _ hx0)).trans hx0
      replace hx1 := (BW.out.cell (World.block_lt_of_cell? w _ hx1)).trans hx1
      replace hx2 := (BW.out.cell (World.block_lt_of_cell? w _ hx2)).trans hx2
      replace hx3 := (BW.out.cell (World.block_lt_of_cell? w _ hx3)).trans hx3
      have hcall := HP.out wr (rd_T30 l x) BW.out
      have hlt' : x.toNat < l.length := by omega
      have hstep := idxFrom_drop_step p l x.toNat hlt' (rd_T30 l x) (by simp [rd_T30, List.getD, hlt']) x
      have HS := Aside0.mk hstep
      have HL := Aside0.mk hlt
      clear hstep hlt'
      have hb0 : decide (x < (l.length : Int)) = true := decide_eq_true hlt
      replace hp0 := eq_true hp0
      replace hlt := eq_true hlt
      cases hq : p (rd_T30 l x) with
      | true =>
        rw [hq] at hcall
        have HQ := Aside0.mk hq
        clear hq
        go_wp2_with (fail)
        refine hcall.mono ?_
        rintro e w' ⟨rfl, hb'⟩
        have HB' := Aside0.mk hb'
        clear hb'
        go_wp2
        go_ret
        refine ⟨?_, HB'.out⟩
        rw [A.out, HS.out, HQ.out]; rfl
      | false =>
        rw [hq] at hcall
        have HQ := Aside0.mk hq
        clear hq
        have hw : wrap64 (x + 1) = x + 1 := by
          have h0 := HX.out; have h1 := HL.out; have h2 := HN.out
          exact wrap64_in (by omega) (by omega)
        have HW := Aside0.mk hw
        clear hw
        go_wp2_with (fail)
        refine hcall.mono ?_
        rintro e w' ⟨rfl, hb'⟩
        have HB' := Aside0.mk hb'
        clear hb'
        go_wp2
        go_roundg (l.length - (x.toNat + 1))
        case measure => have h1 := HL.out; have h2 := HX.out; omega
        case rel =>
          refine ⟨x + 1, by first | exact congrArg _ HW.out | rw [HW.out], ⟨by have h1 := HL.out; have h2 := HX.out; omega⟩, HB', ⟨?_⟩⟩
          rw [A.out, HS.out, HQ.out]
          have : (x + 1).toNat = x.toNat + 1 := by have h2 := HX.out; omega
          rw [this]; rfl
    · have hb0 : decide (x < (l.length : Int)) = false := decide_eq_false hlt
      have HL := Aside0.mk hlt
      clear hlt
      go_wp2
      go_ret
      refine ⟨?_, BW.out⟩
      have h1 := HL.out; have h2 := HX.out
      rw [A.out, show x.toNat = l.length by omega, List.drop_length]; rfl
def folder_Dir_place.f (l : List S30) (nx : Int) (name : ByteArray) : Option Int := if l.length ≤ 9223372036854775807 then some (idxFrom (isName name) l 0) else none
set_option maxHeartbeats 4000000 in
theorem folder_Dir_place.calls (A0 : Option Addr) (c0 : Nat) (l : List S30) (nx : Int) (name : ByteArray) (r : Int) (w : World) (hr0 : Kd.C k30 w A0 l.length l) (hc0 : l.length ≤ c0) (h : folder_Dir_place.f l nx name = some r) :
    Calls Try.prog 28 #[.agg #[.slice A0 l.length c0, .int .i64 nx], .string name] w fun e w' => e = .returned (.int .i64 r) ∧ Below w.heap.size w w' := by
  unfold folder_Dir_place.f at h
  by_cases hb : l.length ≤ 9223372036854775807
  · rw [if_pos hb] at h
    have hr := Option.some.inj h
    have HR := Aside0.mk hr
    have HB := Aside0.mk hb
    have HR0 := Aside0.mk hr0
    have HC0 := Aside0.mk hc0
    clear hr h hb hr0 hc0
    have eg : ∀ args w, (callFunc 37 args).run Try.prog w = .ok (.enter 37 args) w := fun args w => enters_ Try.func37 (by kernel_rfl) rfl args w
    have EG := Aside0.mk eg
    clear eg
    go_enter Try.func28, Try.ntmps28
    go_wp2_with (fail)
    have hB : Below w.heap.size w ((w.alloc (Obj.cells #[Value.slice A0 l.length c0, Value.int IntKind.i64 nx] 24)).alloc (Obj.cells #[Value.string name] 9)) := below_alloc (below_alloc (Below.refl _ _) _) _
    have hc := indexFunc_calls (isName name) 37 #[.pointer (some ⟨w.heap.size + 1, 0, none⟩)] EG.out A0 c0 l _ (fun W x hb => (place_closure x name (w.heap.size + 1) W (pw_cell_below hb (by simp))).mono (fun e w' h => ⟨h.1, hb.trans (h.2.mono hb.size)⟩)) HB.out (Kd.C_below HR0.out hB) HC0.out
    rw [HR.out] at hc
    refine hc.mono ?_
    rintro e w' ⟨rfl, hb'⟩
    have HB' := Aside0.mk (hB.trans (hb'.mono (by simp; omega)))
    clear hb' hc hB
    go_wp2
    go_ret
    exact ⟨rfl, HB'.out⟩
  · rw [if_neg hb] at h; exact absurd h (by simp)
end Go.Proofs.Ytjjjbpgncmfpgaa.FA
end

section
/- Written by hand: slices.Clone at Entry. -/
namespace Go.Proofs.Ytjjjbpgncmfpgaa.FA
open Go.RowKit Go.Proofs.YtjjjbpgncmfpgaaW.PrintWords Go.Proofs.YtjjjbpgncmfpgaaW.PrintLast Go.Proofs.YtjjjbpgncmfpgaaW.PrintMore
theorem R_empty {α : Type} (d : Kd α) (e base : Nat) (W : World) (hb : base ≤ W.heap.size) : Kd.R d e (W.alloc (.cells #[] e)) base (fun _ => True) (.slice (some ⟨W.heap.size, 0, none⟩) 0 0) [] :=
  ⟨fun _ _ => trivial, [], by simpa using World.ownsRow_lit (base := base) (e := e) (size := d.sz) W #[] 0 hb (by decide) (by simp), by first | exact ⟨rfl, fun i p h => absurd h (by simp)⟩ | simp [Reps]⟩
def api_Entry_33.f (l0 : List S30) : Option (List S30) := if l0.length < 3518437208883 then some l0 else none
set_option maxHeartbeats 1000000 in
theorem api_Entry_33.calls (A0 : Option Addr) (c0 : Nat) (l0 : List S30) (r : List S30) (w : World) (hr0 : Kd.C k30 w A0 l0.length l0) (hc0 : l0.length ≤ c0) (h : api_Entry_33.f l0 = some r) :
    Calls Try.prog 33 #[.slice A0 l0.length c0] w fun e w' => ∃ v0_ : Value, e = .returned v0_ ∧ Kd.R k30 30 w' w.heap.size (fun _ => True) v0_ r ∧ Below w.heap.size w w' := by
  unfold api_Entry_33.f at h
  by_cases hL : l0.length < 3518437208883
  case neg => rw [if_neg hL] at h; exact absurd h (by simp)
  rw [if_pos hL] at h
  obtain rfl := Option.some.inj h
  clear h
  have hu := Try.underlying22
  have HR0 := Aside0.mk hr0
  have HL := Aside0.mk hL
  clear hr0 hL
  cases A0 with
  | none =>
    have hl : l0 = [] := by
      rcases l0 with _ | ⟨x, t⟩
      · rfl
      · exact absurd (HR0.out.2.2 (by simp)) (by simp)
    subst hl
    have HB := Aside0.mk (Below.refl w.heap.size w)
    have hn : ∀ (W : World) (n c : Nat), (Go.binOp .eql 22 (.slice none n c) (.slice none 0 0)).run Try.prog W = .ok (.bool true) W := fun W n c => Go.run_eql_slice_nil W 22 30 none n c hu
    go_enter Try.func33, Try.ntmps33
    go_wp2
    go_ret
    exact ⟨_, rfl, Kd.R_nil _ _ _ _ _, HB.out⟩
  | some ad =>
    have HB := Aside0.mk (Below.refl w.heap.size w)
    have hn : ∀ (W : World) (n c : Nat), (Go.binOp .eql 22 (.slice (some ad) n c) (.slice none 0 0)).run Try.prog W = .ok (.bool false) W := fun W n c => Go.run_eql_slice_nil W 22 30 (some ad) n c hu
    go_enter Try.func33, Try.ntmps33
    have HE := Aside0.mk (R_empty k30 30 w.heap.size w (Nat.le_refl _))
    go_wp2_with (first | ((with_reducible refine gate_builtin (b := .append) (xs := #[.tmp 5, .tmp 6]) rfl ?_); at_builtin; refine Kd.R_append_rows k30 (w0 := w) w.heap.size rfl (.tmp 5) (.tmp 6) 22 30 (.agg #[(.string ⟨#[]⟩), (.int .i64 0), (.int .i64 0), (.int .i64 0)]) 40 rfl Try.underlying22 info30 rfl (by decide) (by omega) (.slice (some ⟨w.heap.size, 0, none⟩) 0 0) ([] : List (S30)) l0 _ _ _ (fun _ => True) (fun _ => False) rfl rfl ?aO ?aR (fun _ _ h => h) (fun _ h => h.elim) ?aF ?aB ?aS ?aL ?_; (case aR => exact Kd.C_below HR0.out (below_alloc HB.out _)); (case aB => exact below_alloc HB.out _); (case aF => exact (fun _ _ => trivial)); (case aO => exact HE.out); (case aS => exact below_size (below_alloc HB.out _)); (case aL => have := HL.out; simp; omega); intro v1 w1 ho hb hg hat; have HO := Aside0.mk ho; have HB1 := Aside0.mk hb; clear ho hb hg hat))
    go_ret
    exact ⟨_, rfl, HO.out, HB1.out⟩
end Go.Proofs.Ytjjjbpgncmfpgaa.FA
end
