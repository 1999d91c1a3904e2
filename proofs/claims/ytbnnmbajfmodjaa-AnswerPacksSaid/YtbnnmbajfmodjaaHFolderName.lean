/- Written by hand: folder.Name (a range over a string). -/
import Derived.Test.YtbnnmbajfmodjaaRunes
import Derived.Test.YtbnnmbajfmodjaaHandAll
import Derived.Test.YtbnnmbajfmodjaaFAx0
import Derived.Laws.RangeAny
namespace Go.Proofs.Ytbnnmbajfmodjaa.FA
open Go.RowKit Go.Proofs.YtbnnmbajfmodjaaW.PrintWords Go.Proofs.YtbnnmbajfmodjaaW.PrintLast Go.Proofs.YtbnnmbajfmodjaaW.PrintMore Go.Proofs.Ytbnnmbajfmodjaa.Hand Go.Proofs.Ytbnnmbajfmodjaa.Runes Go.Proofs.Ytbnnmbajfmodjaa.B
set_option linter.unusedVariables false
set_option linter.unusedSimpArgs false
/-- Neither empty, nor too long, nor one of the two dots. -/
def plainName (s : ByteArray) : Bool := ((s.toList != ([] : List UInt8)) && (decide ((s.size : Int) ≤ 32))) && (s.toList != ([46] : List UInt8)) && (s.toList != ([46, 46] : List UInt8))
def folder_Name.f (s : ByteArray) : Option Int := some (if (plainName s && clean s s.size) = true then 0 else 409)
set_option maxHeartbeats 4000000 in
set_option maxRecDepth 100000 in
theorem folder_Name.calls (s : ByteArray) (r : Int) (w : World) (h : folder_Name.f s = some r) :
    Calls Try.prog 26 #[.string s] w fun e w' => e = .returned (.int .i64 r) ∧ Below w.heap.size w w' := by
  have hr := Option.some.inj h
  have HR := Aside0.mk hr
  clear hr h
  go_enter Try.func26, Try.ntmps26
  go_upto_region 1 with (fail)
  go_cut [3] (fun v3 wc => v3 = .bool (plainName s) ∧ w = wc)
  case first =>
    by_cases c1 : s.toList = []
    · have c1b0 : (s.toList == ([] : List UInt8)) = true := beq_iff_eq.mpr c1
      have c1b1 : (s.toList != ([] : List UInt8)) = false := bne_eq_false_iff_eq.mpr c1
      have hp := Aside0.mk (show plainName s = false by unfold plainName; rw [c1b1]; rfl)
      clear c1
      go_wp2
      go_meet
      case rel => exact ⟨by rw [hp.out], rfl⟩
    · have c1b0 : (s.toList == ([] : List UInt8)) = false := beq_eq_false_iff_ne.mpr c1
      have c1b1 : (s.toList != ([] : List UInt8)) = true := bne_iff_ne.mpr c1
      clear c1
      by_cases c2 : (s.size : Int) ≤ 32
      · have c2b0 : decide ((s.size : Int) ≤ 32) = true := decide_eq_true c2
        have c2b1 : decide (s.size ≤ 32) = true := decide_eq_true (by omega)
        clear c2
        by_cases c3 : s.toList = [46]
        · have c3b0 : (s.toList == ([46] : List UInt8)) = true := beq_iff_eq.mpr c3
          have c3b1 : (s.toList != ([46] : List UInt8)) = false := bne_eq_false_iff_eq.mpr c3
          have hp := Aside0.mk (show plainName s = false by unfold plainName; rw [c1b1, c2b0, c3b1]; rfl)
          clear c3
          go_wp2
          go_meet
          case rel => exact ⟨by rw [hp.out], rfl⟩
        · have c3b0 : (s.toList == ([46] : List UInt8)) = false := beq_eq_false_iff_ne.mpr c3
          have c3b1 : (s.toList != ([46] : List UInt8)) = true := bne_iff_ne.mpr c3
          clear c3
          by_cases c4 : s.toList = [46, 46]
          · have c4b0 : (s.toList == ([46, 46] : List UInt8)) = true := beq_iff_eq.mpr c4
            have c4b1 : (s.toList != ([46, 46] : List UInt8)) = false := bne_eq_false_iff_eq.mpr c4
            have hp := Aside0.mk (show plainName s = false by unfold plainName; rw [c1b1, c2b0, c3b1, c4b1]; rfl)
            clear c4
            go_wp2
            go_meet
            case rel => exact ⟨by rw [hp.out], rfl⟩
          · have c4b0 : (s.toList == ([46, 46] : List UInt8)) = false := beq_eq_false_iff_ne.mpr c4
            have c4b1 : (s.toList != ([46, 46] : List UInt8)) = true := bne_iff_ne.mpr c4
            have hp := Aside0.mk (show plainName s = true by unfold plainName; rw [c1b1, c2b0, c3b1, c4b1]; rfl)
            clear c4
            go_wp2
            go_meet
            case rel => exact ⟨by rw [hp.out], rfl⟩
      · have c2b0 : decide ((s.size : Int) ≤ 32) = false := decide_eq_false c2
        have c2b1 : decide (s.size ≤ 32) = false := decide_eq_false (by omega)
        have hp := Aside0.mk (show plainName s = false by unfold plainName; rw [c1b1, c2b0]; rfl)
        clear c2
        go_wp2
        go_meet
        case rel => exact ⟨by rw [hp.out], rfl⟩
  case rest =>
    obtain ⟨rfl, rfl⟩ := hcut
    obtain ⟨q0, hq0⟩ : ∃ q, plainName s = q := ⟨_, rfl⟩
    have HQ0 := Aside0.mk hq0
    rw [hq0]
    clear hq0
    go_wp2
    go_loopw [3] (fun v w' => ∃ (pos : Nat) (q : Bool), w' = w.iter s pos ∧ v = .bool q ∧ Aside0 (q = (q0 && clean s pos)) ∧ pos ≤ s.size) (fun _ w' => s.size - w'.iterPos w.heap.size)
    case atStart => exact ⟨0, q0, rfl, rfl, ⟨by rw [clean_zero]; simp⟩, Nat.zero_le _⟩
    case round =>
      obtain ⟨pos, q, rfl, rfl, HQ, hle⟩ := hrel
      by_cases hp : pos < s.size
      · obtain ⟨hstep, hbound, hpos⟩ := clean_step s pos hp
        have HS := Aside0.mk hstep
        clear hstep
        have hnx : ∀ ty, (Instr.next (.pointer (some ⟨w.heap.size, 0, none⟩)) true ty).run Try.prog (w.iter s pos) = _ := fun ty => run_next_any w s pos ty hp
        obtain ⟨rn, hrn⟩ : ∃ rn : Int, ((Utf8.decode s pos).1 : Int) = rn := ⟨_, rfl⟩
        rw [hrn] at hnx HS
        clear hrn
        cases q with
        | false =>
          go_wp2
          go_roundw
          case rel => exact ⟨_, false, rfl, rfl, ⟨by rw [HS.out, ← Bool.and_assoc, ← HQ.out]; rfl⟩, hbound⟩
          case measure => simp; omega
        | true =>
          by_cases r1 : rn = 47
          · have r1b0 : (rn == 47) = true := beq_iff_eq.mpr r1
            have r1b1 : (rn != 47) = false := bne_eq_false_iff_eq.mpr r1
            clear r1
            go_wp2
            go_roundw
            case rel => exact ⟨_, false, rfl, rfl, ⟨by rw [HS.out, ← Bool.and_assoc, ← HQ.out, r1b1]; rfl⟩, hbound⟩
            case measure => simp; omega
          · have r1b0 : (rn == 47) = false := beq_eq_false_iff_ne.mpr r1
            have r1b1 : (rn != 47) = true := bne_iff_ne.mpr r1
            clear r1
            by_cases r2 : rn = 0
            · have r2b0 : (rn == 0) = true := beq_iff_eq.mpr r2
              have r2b1 : (rn != 0) = false := bne_eq_false_iff_eq.mpr r2
              clear r2
              go_wp2
              go_roundw
              case rel => exact ⟨_, false, rfl, rfl, ⟨by rw [HS.out, ← Bool.and_assoc, ← HQ.out, r1b1, r2b1]; rfl⟩, hbound⟩
              case measure => simp; omega
            · have r2b0 : (rn == 0) = false := beq_eq_false_iff_ne.mpr r2
              have r2b1 : (rn != 0) = true := bne_iff_ne.mpr r2
              clear r2
              go_wp2
              go_roundw
              case rel => exact ⟨_, true, rfl, rfl, ⟨by rw [HS.out, ← Bool.and_assoc, ← HQ.out, r1b1, r2b1]; rfl⟩, hbound⟩
              case measure => simp; omega
      · have hnx : ∀ ty, (Instr.next (.pointer (some ⟨w.heap.size, 0, none⟩)) true ty).run Try.prog (w.iter s pos) = _ := fun ty => run_next_end w s pos ty hp
        obtain rfl : pos = s.size := by omega
        have hf := HR.out
        rw [HQ0.out, ← HQ.out] at hf
        have HF := Aside0.mk hf
        clear hf
        have hb : Below w.heap.size w (w.iter s s.size) := below_alloc (Below.refl _ _) _
        have HB := Aside0.mk hb
        clear hb
        cases q with
        | false =>
          have hr : (409 : Int) = r := HF.out
          subst hr
          go_wp2
          go_ret
          exact ⟨rfl, HB.out⟩
        | true =>
          have hr : (0 : Int) = r := HF.out
          subst hr
          go_wp2
          go_ret
          exact ⟨rfl, HB.out⟩
end Go.Proofs.Ytbnnmbajfmodjaa.FA
