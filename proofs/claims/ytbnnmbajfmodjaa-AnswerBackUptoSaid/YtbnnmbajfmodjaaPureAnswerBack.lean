/- There and back: what was packed is unpacked, what is unpacked is packed so, and the zero reply has no bytes. -/
import Derived.Test.YtbnnmbajfmodjaaRdAnswerBack
import Derived.Test.YtbnnmbajfmodjaaAnsPlain
namespace Go.Proofs.Ytbnnmbajfmodjaa.answerBack
open Go.RowKit Go.Proofs.Ytbnnmbajfmodjaa.FA Go.Proofs.YtbnnmbajfmodjaaW.PrintWords Go.Proofs.Ytbnnmbajfmodjaa.Rd Go.Proofs.Ytbnnmbajfmodjaa.B Go.Proofs.Ytbnnmbajfmodjaa.TlvFns Go.Proofs.Ytbnnmbajfmodjaa.AnsFns
set_option linter.unusedVariables false
theorem bs_len {α : Type} {b : α → Nat} (hb : ∀ x, 1 ≤ b x) : ∀ l : List α, l.length ≤ Rd.bs b l
  | [] => Nat.zero_le _
  | x :: l => by
    have := bs_len hb l
    have := hb x
    simp only [Rd.bs, List.length_cons]
    omega
theorem back_j0 (s : ByteArray) (hs : s.size ≤ 1048576) (k : Nat) (hk : s.size + 800 ≤ k) : sextonlaw14_AnswerBack.j0 (k + 1) s = some true := by
  simp only [sextonlaw14_AnswerBack.j0]
  rw [unpack_is14 s (by omega) k (by omega), Option.bind_some, stale_is k (by omega)]
  rcases unF_two readA loop_flds s with ⟨r, h1, h2, h3⟩ | ⟨_, h3⟩
  · rw [h3]
    have hl := (right_parts14 h1).len
    have hp := pack_is14 r.e r.no r.gen r.ki r.li r.si r.st r.d r.xs r.n (by omega) k (by omega)
    have h4 := pack_of_right h1
    show (if (0 : Int) = 0 then ((answer_Pack.f k r.e r.no r.gen r.ki r.li r.si r.st r.d r.xs r.n).bind fun bt354 => _) else _) = _
    rw [if_pos rfl, hp, Option.bind_some]
    show (if (Rep.pack r).2 = 0 then if (Rep.pack r).1.toList = s.toList then _ else _ else _) = _
    rw [if_pos (by rw [h4]), if_pos (by rw [h2])]
    rfl
  · rw [h3]
    have h := reply_zero Rep.zero k (by omega)
    show (if (4 : Int) = 0 then _ else ((sextonplain_Reply.f k Rep.zero.e Rep.zero.no Rep.zero.gen Rep.zero.ki Rep.zero.li Rep.zero.si Rep.zero.st Rep.zero.d Rep.zero.xs Rep.zero.n 0 0 0 0 0 0 0 ⟨#[]⟩ [] 0).bind fun t357 => _)) = _
    rw [if_neg (by decide), h, Option.bind_some]
    have hz : (Rep.flds Rep.zero).isEmpty = true := by
      have e0 : (⟨#[]⟩ : ByteArray).toList = [] := mk_toList []
      show (flds 0 0 0 0 0 0 0 ⟨#[]⟩ [] 0).isEmpty = true
      unfold flds headF
      rw [e0]
      rfl
    rw [if_pos hz]
    rfl
theorem pure_AnswerBack : ∀ (a0 : S29) (o0 : r29.ok a0) (a1 : ByteArray) (o1 : r9.ok a1) (bk : r29.b a0 + r9.b a1 ≤ 1048576), ∃ k, sextonlaw14_AnswerBack.f k a0.f0 a0.f1.f0 a0.f1.f1 a0.f2.f0 a0.f2.f1 a0.f2.f2 a0.f2.f3 a0.f3 a0.f4 a0.f5 a1 = some true := by
  intro a _ s _ bk
  have hb : r9.b s ≤ 1048576 := by omega
  have hs : s.size + 1 ≤ 1048576 := hb
  have hB : r29.b a = (1 + ((1 + 1 + 1) + ((1 + (1 + (1 + 1)) + 1) + ((a.f3.size + 1) + ((Rd.bs r52.b a.f4 + 1) + 1))))) + 1 := rfl
  have hx := bs_len (b := r52.b) (fun x => Nat.le_add_left 1 _) a.f4
  have hl : a.f4.length ≤ 1048576 := by omega
  obtain ⟨r, hr⟩ : ∃ r : Rep, r = ⟨a.f0, a.f1.f0, a.f1.f1, a.f2.f0, a.f2.f1, a.f2.f2, a.f2.f3, a.f3, a.f4, a.f5⟩ := ⟨_, rfl⟩
  have hrl : r.xs.length ≤ 1048576 := by rw [hr]; exact hl
  obtain ⟨k, hk⟩ : ∃ k : Nat, k = s.size + a.f4.length + 100000 := ⟨_, rfl⟩
  have hk2 : r.xs.length + 100000 ≤ k := by rw [hr, hk]; show a.f4.length + 100000 ≤ _; omega
  have e1 : answer_Pack.f (k + 1) a.f0 a.f1.f0 a.f1.f1 a.f2.f0 a.f2.f1 a.f2.f2 a.f2.f3 a.f3 a.f4 a.f5 = some (Rep.pack r) := by
    have h := pack_is14 r.e r.no r.gen r.ki r.li r.si r.st r.d r.xs r.n (by omega) (k + 1) (by omega)
    rw [hr] at h ⊢
    exact h
  have e2 := back_j0 s (by omega) k (by omega)
  refine ⟨k + 1, ?_⟩
  unfold sextonlaw14_AnswerBack.f
  rw [e1, Option.bind_some, e2]
  by_cases h : Rep.right r = true
  · have h2 := pack_of_right h
    have hb := flds_bytes (right_parts14 h)
    have hz : (Rep.pack r).1.size ≤ 35535 := by
      rw [h2]
      show (⟨(packB (Rep.flds r)).toArray⟩ : ByteArray).size ≤ 35535
      rw [mk_size (packB (Rep.flds r))]
      exact hb
    have e3 := unpack_is14 (Rep.pack r).1 (by omega) (k + 1) (by omega)
    rw [unF_good readA loop_flds r h] at e3
    have e4 := reply_self r (by omega) (k + 1) (by omega)
    have e5 := reply_zero r (k + 1) (by omega)
    rw [if_pos (by rw [h2]), e3, Option.bind_some]
    have e4' : sextonplain_Reply.f (k + 1) (r.out 0).1 (r.out 0).2.1 (r.out 0).2.2.1 (r.out 0).2.2.2.1 (r.out 0).2.2.2.2.1 (r.out 0).2.2.2.2.2.1 (r.out 0).2.2.2.2.2.2.1 (r.out 0).2.2.2.2.2.2.2.1 (r.out 0).2.2.2.2.2.2.2.2.1 (r.out 0).2.2.2.2.2.2.2.2.2.1 a.f0 a.f1.f0 a.f1.f1 a.f2.f0 a.f2.f1 a.f2.f2 a.f2.f3 a.f3 a.f4 a.f5 = some true := by
      rw [hr] at e4 ⊢
      exact e4
    have e5' : sextonplain_Reply.f (k + 1) a.f0 a.f1.f0 a.f1.f1 a.f2.f0 a.f2.f1 a.f2.f2 a.f2.f3 a.f3 a.f4 a.f5 0 0 0 0 0 0 0 ⟨#[]⟩ [] 0 = some (Rep.flds r).isEmpty := by
      rw [hr] at e5 ⊢
      exact e5
    rw [if_pos (show (r.out 0).2.2.2.2.2.2.2.2.2.2 = 0 from rfl), e4', Option.bind_some, if_pos rfl, e5', Option.bind_some, if_neg]
    rw [h2, mk_toList (packB (Rep.flds r)), packB_empty]
    simp
  · have h2 : (Rep.pack r).2 ≠ 0 := fun h3 => h (pack_right h3)
    rw [if_neg h2]
end Go.Proofs.Ytbnnmbajfmodjaa.answerBack
