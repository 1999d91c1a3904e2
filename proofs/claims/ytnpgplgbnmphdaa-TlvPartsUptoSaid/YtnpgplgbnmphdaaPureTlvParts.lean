/- Fields one behind the other, if no tag falls, have their bytes one behind the other. -/
import Derived.Test.YtnpgplgbnmphdaaRdTlvParts
import Derived.Test.YtnpgplgbnmphdaaLawFns
import Derived.Test.YtnpgplgbnmphdaaPackFns
import Derived.Test.YtnpgplgbnmphdaaSmall
namespace Go.Proofs.Ytnpgplgbnmphdaa.tlvParts
open Go.RowKit Go.Proofs.Ytnpgplgbnmphdaa.FA Go.Proofs.YtnpgplgbnmphdaaW.PrintWords Go.Proofs.Ytnpgplgbnmphdaa.Rd Go.Proofs.Ytnpgplgbnmphdaa.B Go.Proofs.Ytnpgplgbnmphdaa.TlvFns
set_option linter.unusedVariables false
/-- What the last tag is; 0: there is none. -/
def lastTag (b : Int) : List (Int × ByteArray) → Int
  | [] => b
  | x :: l => lastTag x.1 l
theorem packE_app (a : List (Int × ByteArray)) : ∀ (b : Int) (m : List (Int × ByteArray)), (packE b a = 0 → packE b (a ++ m) = packE (lastTag b a) m) ∧ (packE b a ≠ 0 → packE b (a ++ m) = packE b a) := by
  induction a with
  | nil => intro b m; exact ⟨fun _ => rfl, fun h => absurd rfl h⟩
  | cons x a ih =>
    intro b m
    simp only [List.cons_append, packE, lastTag]
    by_cases h1 : x.1 < 1 ∨ 255 < x.1
    · rw [if_pos h1, if_pos h1]
      exact ⟨fun h => absurd h (by decide), fun _ => rfl⟩
    · rw [if_neg h1, if_neg h1]
      by_cases h2 : 65535 < x.2.size
      · rw [if_pos h2, if_pos h2]
        exact ⟨fun h => absurd h (by decide), fun _ => rfl⟩
      · rw [if_neg h2, if_neg h2]
        by_cases h3 : x.1 < b
        · rw [if_pos h3, if_pos h3]
          exact ⟨fun h => absurd h (by decide), fun _ => rfl⟩
        · rw [if_neg h3, if_neg h3]
          exact ih x.1 m
/-- Behind another tag the fields are wrong only if they are so by themselves, or the first falls. -/
theorem packE_behind (m : List (Int × ByteArray)) (b : Int) (hb : 0 ≤ b) : (packE 0 m ≠ 0 → packE b m ≠ 0) ∧ (packE 0 m = 0 → packE b m ≠ 0 → ∃ x l, m = x :: l ∧ x.1 < b) := by
  cases m with
  | nil => exact ⟨fun h => absurd rfl h, fun _ h => absurd rfl h⟩
  | cons x l =>
    simp only [packE]
    by_cases h1 : x.1 < 1 ∨ 255 < x.1
    · rw [if_pos h1, if_pos h1]
      exact ⟨fun h => h, fun h _ => absurd h (by decide)⟩
    · rw [if_neg h1, if_neg h1]
      by_cases h2 : 65535 < x.2.size
      · rw [if_pos h2, if_pos h2]
        exact ⟨fun h => h, fun h _ => absurd h (by decide)⟩
      · rw [if_neg h2, if_neg h2, if_neg (show ¬ x.1 < 0 by omega)]
        by_cases h3 : x.1 < b
        · rw [if_pos h3]
          exact ⟨fun _ => by decide, fun _ _ => ⟨x, l, rfl, h3⟩⟩
        · rw [if_neg h3]
          exact ⟨fun h => h, fun h h' => absurd h h'⟩
theorem lastTag_nonneg (a : List (Int × ByteArray)) : ∀ b : Int, 0 ≤ b → packE b a = 0 → 0 ≤ lastTag b a := by
  induction a with
  | nil => intro b h _; exact h
  | cons x a ih =>
    intro b h he
    simp only [packE] at he
    by_cases h1 : x.1 < 1 ∨ 255 < x.1
    · rw [if_pos h1] at he; omega
    · rw [if_neg h1] at he
      by_cases h2 : 65535 < x.2.size
      · rw [if_pos h2] at he; omega
      · rw [if_neg h2] at he
        by_cases h3 : x.1 < b
        · rw [if_pos h3] at he; omega
        · rw [if_neg h3] at he
          exact ih x.1 (by omega) he
theorem lastTag_get (a : List S37) : ∀ (h : 0 < a.length) (b : Int), lastTag b (fl a) = (a[a.length - 1]'(by omega)).f0 := by
  induction a with
  | nil => intro h; simp at h
  | cons x a ih =>
    intro h b
    cases a with
    | nil => rfl
    | cons y t =>
      have := ih (by simp) x.f0
      have e : fl (x :: y :: t) = (x.f0, x.f1) :: fl (y :: t) := rfl
      rw [e]
      simp only [lastTag]
      rw [this]
      rfl
theorem fl_append (a b : List S37) : fl (a ++ b) = fl a ++ fl b := by simp [fl]
theorem parts_j0 (k : Nat) (hk : 12 ≤ k) (a b : List S37) (ha : a.length ≤ 9223372036854775806) (x y u : ByteArray) (g : Int) (q : Bool)
    (h1 : q = true → g ≠ 0) (h2 : q = false → g = 0 → x.size + y.size ≤ 9223372036854775807 ∧ u = x ++ y) (h3 : q = false → g ≠ 0 → ∃ (p : 0 < a.length) (p2 : 0 < b.length), (a[a.length - 1]'(by omega)).f0 > b[0].f0) :
    sextonlaw01_TlvParts.j0 (k + 1) a b x y u g q = some true := by
  simp only [sextonlaw01_TlvParts.j0]
  cases q with
  | true =>
    rw [if_pos rfl, if_neg (h1 rfl), small_is k hk]
    rfl
  | false =>
    rw [if_neg (by decide)]
    by_cases hg : g = 0
    · obtain ⟨e1, e2⟩ := h2 rfl hg
      rw [if_pos hg, if_pos e1, e2, if_pos rfl, small_is k hk]
      rfl
    · obtain ⟨p, p2, e⟩ := h3 rfl hg
      have hw : wrap64 ((a.length : Int) - 1) = ((a.length - 1 : Nat) : Int) := by rw [wrap64_in (by omega) (by omega)]; omega
      rw [if_neg hg, if_pos (by omega), if_pos (by omega), hw]
      clear hw
      rw [if_pos (by omega), if_pos (by omega), if_pos (by omega), rd_get (show a.length - 1 < a.length by omega)]
      have e0 : rd_T37 b 0 = b[0] := rd_get (i := 0) p2
      rw [e0, if_pos e, small_is k hk]
      rfl
theorem bulk_of (l : List S37) : (packB (fl l)).length ≤ r34.b l ∧ l.length ≤ r34.b l := by
  have := packed_le r37.b (fun _ => rfl) l
  have h' : bs r37.b l + 1 = r34.b l := rfl
  omega
theorem pure_TlvParts : ∀ (a0 : (List S37)) (o0 : r34.ok a0) (a1 : (List S37)) (o1 : r34.ok a1) (bk : r34.b a0 + r34.b a1 ≤ 1048576), ∃ k, sextonlaw01_TlvParts.f k a0 a1 = some true := by
  intro a _ b _ bk
  obtain ⟨a1, a2⟩ := bulk_of a
  obtain ⟨b1, b2⟩ := bulk_of b
  refine ⟨(a.length + b.length + 14) + 1, ?_⟩
  unfold sextonlaw01_TlvParts.f
  have hab : (packB (fl (a ++ b))).length ≤ 1048576 := by rw [fl_append, packB_append, List.length_append]; omega
  rw [pack_is a (by omega) _ (by omega), pack_is b (by omega) _ (by omega)]
  simp only [Option.bind_some, List.nil_append, List.length_nil]
  rw [if_pos (by omega), if_pos (by omega), pack_is (a ++ b) (by omega) _ (by rw [List.length_append]; omega)]
  simp only [Option.bind_some]
  have hE := packE_app (fl a) 0 (fl b)
  rw [← fl_append] at hE
  unfold packVal
  by_cases ea : packE 0 (fl a) = 0
  · have hE := hE.1 ea
    have ht := lastTag_nonneg (fl a) 0 (by decide) ea
    obtain ⟨q1, q2⟩ := packE_behind (fl b) (lastTag 0 (fl a)) ht
    rw [if_pos ea, if_pos rfl]
    by_cases eb : packE 0 (fl b) = 0
    · rw [if_pos eb]
      refine parts_j0 _ (by omega) a b (by omega) _ _ _ _ _ (fun h => by simp at h) ?_ ?_
      · intro _ hg
        have hz : packE 0 (fl (a ++ b)) = 0 := by
          by_cases h : packE 0 (fl (a ++ b)) = 0
          · exact h
          · rw [if_neg h] at hg
            exact hg
        rw [if_pos hz]
        have s1 : (⟨(packB (fl a)).toArray⟩ : ByteArray).size = (packB (fl a)).length := mk_size _
        have s2 : (⟨(packB (fl b)).toArray⟩ : ByteArray).size = (packB (fl b)).length := mk_size _
        refine ⟨by show (⟨(packB (fl a)).toArray⟩ : ByteArray).size + (⟨(packB (fl b)).toArray⟩ : ByteArray).size ≤ _; rw [s1, s2]; omega, ?_⟩
        apply ext_list
        show (⟨(packB (fl (a ++ b))).toArray⟩ : ByteArray).toList = _
        rw [mk_toList (packB (fl (a ++ b))), app_list, fl_append, packB_append]
        show _ = (⟨(packB (fl a)).toArray⟩ : ByteArray).toList ++ (⟨(packB (fl b)).toArray⟩ : ByteArray).toList
        rw [mk_toList (packB (fl a)), mk_toList (packB (fl b))]
      · intro _ hg
        have hz : packE 0 (fl (a ++ b)) ≠ 0 := fun h => hg (by rw [if_pos h])
        rw [hE] at hz
        obtain ⟨x, l, hb, hlt⟩ := q2 eb hz
        cases b with
        | nil => simp [fl] at hb
        | cons y t =>
          have h0 : fl (y :: t) = (y.f0, y.f1) :: fl t := rfl
          have hy : y.f0 = x.1 := by
            rw [h0] at hb
            injection hb with hb _
            rw [← hb]
          have hpos : 1 ≤ y.f0 := by
            rw [h0] at eb
            simp only [packE] at eb
            by_cases g1 : y.f0 < 1 ∨ 255 < y.f0
            · rw [if_pos g1] at eb; omega
            · omega
          cases a with
          | nil =>
            simp only [fl, List.map_nil, lastTag] at hlt
            omega
          | cons z r =>
            refine ⟨by simp, by simp, ?_⟩
            have hl := lastTag_get (z :: r) (by simp) 0
            rw [hl, ← hy] at hlt
            exact hlt
    · rw [if_neg eb]
      have hq : ((((⟨#[]⟩ : ByteArray), packE 0 (fl b)).2 != 0) : Bool) = true := bne_iff_ne.2 eb
      rw [hq]
      refine parts_j0 _ (by omega) a b (by omega) _ _ _ _ _ ?_ (fun h => by cases h) (fun h => by cases h)
      intro _
      have hz : packE 0 (fl (a ++ b)) ≠ 0 := by rw [hE]; exact q1 eb
      rw [if_neg hz]
      exact hz
  · have hE := hE.2 ea
    rw [if_neg ea, if_neg ea]
    refine parts_j0 _ (by omega) a b (by omega) _ _ _ _ _ ?_ (fun h => by cases h) (fun h => by cases h)
    intro _
    rw [if_neg (by rw [hE]; exact ea), hE]
    exact ea
end Go.Proofs.Ytnpgplgbnmphdaa.tlvParts
