/- The printed functions of ask and of its reference, in plain words. -/
import Derived.Test.YtellcdiifpdonaaTlvAllFns
import Derived.Test.YtellcdiifpdonaaHAskUnpack
import Derived.Test.YtellcdiifpdonaaFAaskNeeds
import Derived.Test.YtellcdiifpdonaaFARef13
import Derived.Test.YtellcdiifpdonaaFAsextonref13Needs
import Derived.Test.YtellcdiifpdonaaFAsextonplainInts
import Derived.Test.YtellcdiifpdonaaFAsextonlaw13look
namespace Go.Proofs.Ytellcdiifpdonaa.TlvFns
open Go.RowKit Go.Proofs.Ytellcdiifpdonaa.FA Go.Proofs.YtellcdiifpdonaaW.PrintWords Go.Proofs.YtellcdiifpdonaaW.PrintLast Go.Proofs.YtellcdiifpdonaaW.PrintMore Go.Proofs.Ytellcdiifpdonaa.B
set_option linter.unusedVariables false
set_option linter.unusedSimpArgs false
theorem callOk_is (c : Cl) : callOk c.kd c.hn c.hg c.gn c.gg c.nm c.nn c.at_ c.n c.dt = rightCl c := rfl
theorem ref_handle_is (a b : Int) : sextonref13_handle.f a b = some (upP a 255 && upP b 1099511627776) := by
  unfold sextonref13_handle.f upP
  by_cases h1 : a ≥ 0 <;> by_cases h2 : a ≤ 255 <;> by_cases h3 : b ≥ 0 <;> by_cases h4 : b ≤ 1099511627776 <;> simp [h1, h2, h3, h4] <;> omega
theorem upP_true {n m : Int} (h0 : 0 ≤ n) (h1 : n ≤ m) : upP n m = true := decide_eq_true ⟨h0, h1⟩
theorem upP_false0 {n m : Int} (h0 : ¬ 0 ≤ n) : upP n m = false := decide_eq_false (fun h => h0 h.1)
theorem upP_false1 {n m : Int} (h1 : ¬ n ≤ m) : upP n m = false := decide_eq_false (fun h => h1 h.2)
theorem ref_right_is (c : Cl) : sextonref13_Right.f c.kd c.hn c.hg c.gn c.gg c.nm c.nn c.at_ c.n c.dt = some (rightCl c) := by
  unfold sextonref13_Right.f
  rw [ref_handle_is, ref_handle_is]
  simp only [Option.bind_some]
  by_cases p1 : c.kd ≥ 1
  case neg => simp [p1, rightCl]
  by_cases p2 : c.kd ≤ 14
  case neg => simp [p2, rightCl]
  rw [if_pos p1, if_pos p2]
  by_cases p3 : (upP c.hn 255 && upP c.hg 1099511627776) = true
  case neg =>
    rw [if_neg p3]
    congr 1
    rw [Bool.not_eq_true, Bool.and_eq_false_iff] at p3
    rcases p3 with p | p <;> simp [rightCl, p]
  rw [if_pos p3]
  by_cases p4 : (upP c.gn 255 && upP c.gg 1099511627776) = true
  case neg =>
    rw [if_neg p4]
    congr 1
    rw [Bool.not_eq_true, Bool.and_eq_false_iff] at p4
    rcases p4 with p | p <;> simp [rightCl, p]
  rw [if_pos p4]
  rw [Bool.and_eq_true] at p3 p4
  by_cases p5 : (c.nm.size : Int) ≤ 255
  case neg => rw [if_neg p5]; congr 1; simp [rightCl, p5]
  by_cases p6 : (c.nn.size : Int) ≤ 255
  case neg => rw [if_pos p5, if_neg p6]; congr 1; simp [rightCl, p6]
  rw [if_pos p5, if_pos p6]
  by_cases p7 : c.at_ ≥ 0
  case neg => rw [if_neg p7]; congr 1; simp [rightCl, upP_false0 p7]
  by_cases p8 : c.at_ < 4294967296
  case neg => rw [if_pos p7, if_neg p8]; congr 1; simp [rightCl, upP_false1 (show ¬ c.at_ ≤ 4294967295 by omega)]
  by_cases p9 : c.n ≥ 0
  case neg => rw [if_pos p7, if_pos p8, if_neg p9]; congr 1; simp [rightCl, upP_false0 p9]
  by_cases p10 : c.n < 65536
  case neg => rw [if_pos p7, if_pos p8, if_pos p9, if_neg p10]; congr 1; simp [rightCl, upP_false1 (show ¬ c.n ≤ 65535 by omega)]
  rw [if_pos p7, if_pos p8, if_pos p9, if_pos p10]
  congr 1
  simp [rightCl, p1, p2, p3.1, p3.2, p4.1, p4.2, p5, p6, upP_true p7 (show c.at_ ≤ 4294967295 by omega), upP_true p9 (show c.n ≤ 65535 by omega)]
theorem ask_num_is (n size : Int) (hn : n ≤ 9223372036854775807) (k : Nat) (hk : 12 ≤ k) : ask_num.f k n size = some (numB n size) := by
  unfold ask_num.f numB
  by_cases h : n = 0
  · rw [if_pos h, if_pos h]
  · rw [if_neg h, if_neg h, num_is n size hn k hk]
    rfl
theorem ref_numB_is (n size : Int) (hn : n ≤ 9223372036854775807) (k : Nat) (hk : 12 ≤ k) : sextonref13_Num.f k n size = some (numB n size) := by
  unfold sextonref13_Num.f numB
  by_cases h : n = 0
  · rw [if_pos h, if_pos h]
  · rw [if_neg h, if_neg h, ref_num_is n size hn k hk]
    rfl
theorem two_small (a b : Int) : (numVal a 1).1.size + (numVal b 6).1.size ≤ 9223372036854775807 := by
  have h1 := numVal_size a 1
  have h2 := numVal_size b 6
  omega
theorem ask_handle_is (a b : Int) (ha : a ≤ 9223372036854775807) (hb : b ≤ 9223372036854775807) (k : Nat) (hk : 12 ≤ k) : ask_handle.f k a b = some (handB a b) := by
  unfold ask_handle.f handB
  by_cases h : a = 0 ∧ b = 0
  · rw [if_pos (by simp [h.1, h.2]), if_pos h]
  · rw [if_neg (by simpa using h), if_neg h, num_is a 1 ha k hk, num_is b 6 hb k hk]
    simp only [Option.bind_some]
    rw [if_pos (two_small a b)]
theorem ref_handB_is (a b : Int) (ha : a ≤ 9223372036854775807) (hb : b ≤ 9223372036854775807) (k : Nat) (hk : 13 ≤ k) : sextonref13_Handle.f k a b = some (handB a b) := by
  obtain ⟨k, rfl⟩ : ∃ m, k = m + 1 := ⟨k - 1, by omega⟩
  have hf : sextonref13_Handle.j0 (k + 1) false a b = some ((numVal a 1).1 ++ (numVal b 6).1) := by
    simp only [sextonref13_Handle.j0]
    rw [if_neg (by decide), ref_num_is a 1 ha k (by omega), ref_num_is b 6 hb k (by omega)]
    simp only [Option.bind_some]
    rw [if_pos (two_small a b)]
  unfold sextonref13_Handle.f handB
  by_cases h : a = 0
  · rw [if_pos h]
    by_cases h2 : b = 0
    · rw [if_pos ⟨h, h2⟩, h2]
      simp [sextonref13_Handle.j0]
    · rw [if_neg (fun h3 => h2 h3.2), show (b == 0) = false from beq_eq_false_iff_ne.mpr h2, hf]
  · rw [if_neg h, if_neg (fun h3 => h h3.1), hf]
theorem tagged_is : ∀ (l : List ByteArray) (t : Int), fl (tagged t l) = tagP t l
  | [], t => rfl
  | s :: l, t => by
    have ih := tagged_is l (t + 1)
    by_cases h : s.toList = []
    · simp only [tagged, tagP, h, if_true]; exact ih
    · simp only [tagged, tagP, h, if_false]
      rw [← ih]; rfl
theorem packVal_tagP (l : List ByteArray) (h : l.length ≤ 100) (hs : ∀ s ∈ l, s.size ≤ 65535) : packVal (tagP 1 l) = (⟨(pieces 1 l).toArray⟩, 0) := by
  unfold packVal
  rw [if_pos (packE_tagP l 1 0 (by decide) (by decide) (by omega) hs), packB_tagP]
theorem ask_pack_is (c : Cl) (k : Nat) (hk : 20 ≤ k) (h1 : c.kd ≤ 9223372036854775807) : ask_Pack.f k c.kd c.hn c.hg c.gn c.gg c.nm c.nn c.at_ c.n c.dt = some (packCl c) := by
  unfold ask_Pack.f ask_Check.f packCl
  rw [callOk_is]
  simp only [Option.bind_some]
  by_cases h : rightCl c = true
  · have hp := right_parts h
    have hs := parts_small h
    rw [if_pos h, if_pos h, if_pos rfl, ask_num_is _ _ (by omega) k (by omega), ask_handle_is _ _ (by omega) (by omega) k (by omega), ask_handle_is _ _ (by omega) (by omega) k (by omega), ask_num_is _ _ (by omega) k (by omega), ask_num_is _ _ (by omega) k (by omega)]
    simp only [Option.bind_some]
    have hlen := pieces_len 1024 (partsCl c) 1 hs
    have h8 : (partsCl c).length = 8 := rfl
    have ht := tagged_len (partsCl c) 1
    show tlv_Pack.f k (tagged 1 (partsCl c)) = _
    rw [pack_is _ (by rw [tagged_is, packB_tagP]; omega) k (by omega), tagged_is, packVal_tagP _ (by omega) (fun s h2 => by have := hs s h2; omega)]
  · rw [if_neg h, if_neg h, if_neg (by decide)]
/-- A field's bytes; nothing of an empty value. -/
def fieldV (t : Int) (v : ByteArray) : ByteArray := if v.toList = [] then ⟨#[]⟩ else ⟨(fieldB t v).toArray⟩
theorem field_is (t : Int) (v : ByteArray) (h0 : 1 ≤ t) (h1 : t ≤ 255) (hv : v.size ≤ 65535) (k : Nat) (hk : 4 ≤ k) : sextonref13_field.f k t v = some (fieldV t v) := by
  unfold sextonref13_field.f fieldV
  by_cases h : v.toList = []
  · rw [if_pos h, if_pos h]
  · rw [if_neg h, if_neg h]
    have hfr : fr ([⟨t, v⟩] : List S74) = [(t, v)] := rfl
    have hb : packB [(t, v)] = fieldB t v := by simp [packB]
    have hpv : packVal [(t, v)] = (⟨(fieldB t v).toArray⟩, 0) := by
      unfold packVal
      rw [if_pos (by simp only [packE]; rw [if_neg (by omega), if_neg (by omega), if_neg (by omega)]), hb]
    rw [ref_pack_is _ (by rw [hfr, hb, fieldB_length]; omega) k (by simp; omega), hfr, hpv]
    rfl
theorem fieldV_list (t : Int) (v : ByteArray) : (fieldV t v).toList = if v.toList = [] then [] else fieldB t v := by
  unfold fieldV
  by_cases h : v.toList = []
  · rw [if_pos h, if_pos h]; exact mk_toList []
  · rw [if_neg h, if_neg h]; exact mk_toList (fieldB t v)
theorem fieldV_size (t : Int) (v : ByteArray) : (fieldV t v).size ≤ v.size + 3 := by
  rw [← len_eq, fieldV_list]
  split
  · simp
  · rw [fieldB_length]; omega
theorem ref_pack_is13 (c : Cl) (k : Nat) (hk : 20 ≤ k) : sextonref13_Pack.f k c.kd c.hn c.hg c.gn c.gg c.nm c.nn c.at_ c.n c.dt = some (packCl c) := by
  unfold sextonref13_Pack.f packCl
  rw [ref_right_is]
  simp only [Option.bind_some]
  by_cases h : rightCl c = true
  · have hp := right_parts h
    rw [if_pos h, if_pos h]
    have z1 := numB_size c.kd 1
    have z2 := handB_size c.hn c.hg
    have z3 := handB_size c.gn c.gg
    have z6 := numB_size c.at_ 4
    have z7 := numB_size c.n 2
    rw [ref_numB_is _ _ (by omega) k (by omega), ref_handB_is _ _ (by omega) (by omega) k (by omega), ref_handB_is _ _ (by omega) (by omega) k (by omega), ref_numB_is _ _ (by omega) k (by omega), ref_numB_is _ _ (by omega) k (by omega)]
    simp only [Option.bind_some]
    rw [field_is 1 _ (by decide) (by decide) (by omega) k (by omega), field_is 2 _ (by decide) (by decide) (by omega) k (by omega), field_is 3 _ (by decide) (by decide) (by omega) k (by omega), field_is 4 _ (by decide) (by decide) (by omega) k (by omega), field_is 5 _ (by decide) (by decide) (by omega) k (by omega), field_is 6 _ (by decide) (by decide) (by omega) k (by omega), field_is 7 _ (by decide) (by decide) (by omega) k (by omega), field_is 8 _ (by decide) (by decide) (by omega) k (by omega)]
    simp only [Option.bind_some]
    have f1 := fieldV_size 1 (numB c.kd 1)
    have f2 := fieldV_size 2 (handB c.hn c.hg)
    have f3 := fieldV_size 3 (handB c.gn c.gg)
    have f4 := fieldV_size 4 c.nm
    have f5 := fieldV_size 5 c.nn
    have f6 := fieldV_size 6 (numB c.at_ 4)
    have f7 := fieldV_size 7 (numB c.n 2)
    have f8 := fieldV_size 8 c.dt
    simp only [ByteArray.size_append]
    rw [if_pos (by omega), if_pos (by omega), if_pos (by omega), if_pos (by omega), if_pos (by omega), if_pos (by omega), if_pos (by omega)]
    congr 2
    apply ext_list
    simp only [app_list, fieldV_list]
    rw [mk_toList (pieces 1 (partsCl c))]
    simp only [partsCl, pieces, List.append_assoc, List.append_nil]
    rfl
  · rw [if_neg h, if_neg h]
theorem slotV_is (l : List (Int × ByteArray)) (t : Nat) : slotV (l.map toF) t = lastV l (t : Int) := by
  unfold slotV lastV
  rw [List.foldl_map]
  rfl
theorem value_loop (l : List S74) (hl : l.length ≤ 9223372036854775806) (t : Int) (d : Nat) : ∀ (k i : Nat) (acc : ByteArray), i + d = l.length → d < k →
    sextonref13_Value.l0 k t acc l (l.length : Int) (i : Int) = some ((fr (l.drop i)).foldl (fun acc p => if p.1 = t then p.2 else acc) acc) := by
  induction d with
  | zero =>
    intro k i acc hd hk
    obtain ⟨k, rfl⟩ : ∃ m, k = m + 1 := ⟨k - 1, by omega⟩
    simp only [sextonref13_Value.l0]
    rw [if_neg (by omega), List.drop_of_length_le (by omega)]
    rfl
  | succ d ih =>
    intro k i acc hd hk
    obtain ⟨k, rfl⟩ : ∃ m, k = m + 1 := ⟨k - 1, by omega⟩
    have hlt : i < l.length := by omega
    simp only [sextonref13_Value.l0]
    rw [if_pos (by omega), if_pos (by omega), if_pos (by omega), wrap64_in (by omega) (by omega), show (i : Int) + 1 = ((i + 1 : Nat) : Int) by omega, rd_get' hlt, List.drop_eq_getElem_cons hlt]
    have e : fr (l[i] :: l.drop (i + 1)) = (l[i].f0, l[i].f1) :: fr (l.drop (i + 1)) := rfl
    rw [e, List.foldl_cons]
    by_cases h : l[i].f0 = t
    · rw [if_pos h, if_pos h]; exact ih k (i + 1) _ (by omega) (by omega)
    · rw [if_neg h, if_neg h]; exact ih k (i + 1) _ (by omega) (by omega)
theorem value_is (l : List (Int × ByteArray)) (hl : l.length ≤ 9223372036854775806) (t : Int) (k : Nat) (hk : l.length < k) : sextonref13_Value.f k (l.map toR) t = some (lastV l t) := by
  unfold sextonref13_Value.f lastV
  have := value_loop (l.map toR) (by rw [List.length_map]; exact hl) t (l.map toR).length k 0 ⟨#[]⟩ (by omega) (by rw [List.length_map]; exact hk)
  rw [List.drop_zero, fr_toR] at this
  exact this
theorem ref_numberB_is (s : ByteArray) (k : Nat) (hk : 14 ≤ k) : sextonref13_Number.f k s = some (numberOf s).1 := by
  unfold sextonref13_Number.f
  rw [ref_number_is s k hk]
  rfl
theorem namedV_is (s : ByteArray) (k : Nat) (hk : 12 ≤ k) : namedV k s = some (namedP s) := by
  unfold namedV namedP
  by_cases h : s.size = 7
  · rw [if_pos h, if_pos h, number_is _ k hk, number_is _ k hk]
    rfl
  · rw [if_neg h, if_neg h]
theorem ref_named_is (s : ByteArray) (k : Nat) (hk : 14 ≤ k) : sextonref13_Named.f k s = some (namedP s) := by
  unfold sextonref13_Named.f namedP
  by_cases h : s.size = 7
  · rw [if_pos (by omega), if_pos (by decide), if_pos (by omega), if_pos h, ref_numberB_is _ k hk, ref_numberB_is _ k hk]
    rfl
  · rw [if_neg (by omega), if_neg h]
def unT (p : Cl × Int) : Int × Int × Int × Int × Int × ByteArray × ByteArray × Int × Int × ByteArray × Int := (p.1.kd, p.1.hn, p.1.hg, p.1.gn, p.1.gg, p.1.nm, p.1.nn, p.1.at_, p.1.n, p.1.dt, p.2)
theorem numberOf_max (s : ByteArray) : (numberOf s).1 ≤ 9223372036854775807 := by
  unfold numberOf
  split
  · decide
  · split
    · decide
    · rename_i h; show bval s.toList ≤ _; omega
theorem ask_unpack_is (s : ByteArray) (hs : s.size < 5864062014805) (k : Nat) (hk : s.size + 20 ≤ k) : ask_Unpack.f k s = some (unT (unpackCl s)) := by
  unfold ask_Unpack.f unpackCl
  rw [unpack_is s hs k (by omega)]
  simp only [Option.bind_some]
  by_cases h : (unpackVal s.toList).2 = 0
  · rw [if_pos h, if_pos h, if_pos (by
      intro x hx
      obtain ⟨p, hp, rfl⟩ := List.mem_map.1 hx
      exact unpackVal_pos _ p hp)]
    generalize (unpackVal s.toList).1 = l
    rw [number_is _ k (by omega), namedV_is _ k (by omega), namedV_is _ k (by omega), number_is _ k (by omega), number_is _ k (by omega)]
    simp only [Option.bind_some, slotV_is]
    have hp := ask_pack_is (clOf l) k (by omega) (numberOf_max _)
    have hp2 : ask_Pack.f k (numberOf (lastV l ((1 : Nat) : Int))).1 (namedP (lastV l ((2 : Nat) : Int))).1 (namedP (lastV l ((2 : Nat) : Int))).2 (namedP (lastV l ((3 : Nat) : Int))).1 (namedP (lastV l ((3 : Nat) : Int))).2 (lastV l ((4 : Nat) : Int)) (lastV l ((5 : Nat) : Int)) (numberOf (lastV l ((6 : Nat) : Int))).1 (numberOf (lastV l ((7 : Nat) : Int))).1 (lastV l ((8 : Nat) : Int)) = some (packCl (clOf l)) := hp
    rw [hp2]
    simp only [Option.bind_some]
    by_cases hq : (packCl (clOf l)).2 = 0 ∧ (packCl (clOf l)).1.toList = s.toList
    · rw [if_pos hq, if_pos hq]; rfl
    · rw [if_neg hq, if_neg hq]; rfl
  · rw [if_neg h, if_neg h]; rfl
theorem ref_unpack_is13 (s : ByteArray) (hs : s.size < 5864062014805) (k : Nat) (hk : s.size + 20 ≤ k) : sextonref13_Unpack.f k s = some (unT (unpackCl s)) := by
  unfold sextonref13_Unpack.f unpackCl
  rw [ref_unpack_is s hs k (by omega)]
  simp only [Option.bind_some]
  by_cases h : (unpackVal s.toList).2 = 0
  · rw [if_pos h, if_pos h]
    have hn : (unpackVal s.toList).1.length ≤ s.size := by rw [← len_eq]; exact unpackVal_length _
    generalize (unpackVal s.toList).1 = l at hn
    simp only [value_is l (by omega) _ k (by omega), Option.bind_some, ref_numberB_is _ k (show 14 ≤ k by omega), ref_named_is _ k (show 14 ≤ k by omega)]
    have hp := ref_pack_is13 (clOf l) k (by omega)
    have hp2 : sextonref13_Pack.f k (numberOf (lastV l 1)).1 (namedP (lastV l 2)).1 (namedP (lastV l 2)).2 (namedP (lastV l 3)).1 (namedP (lastV l 3)).2 (lastV l 4) (lastV l 5) (numberOf (lastV l 6)).1 (numberOf (lastV l 7)).1 (lastV l 8) = some (packCl (clOf l)) := hp
    rw [hp2]
    simp only [Option.bind_some]
    by_cases hq : (packCl (clOf l)).2 = 0
    · by_cases hq2 : (packCl (clOf l)).1.toList = s.toList
      · rw [if_pos hq, if_pos hq2, if_pos ⟨hq, hq2⟩]; rfl
      · rw [if_pos hq, if_neg hq2, if_neg (fun h3 => hq2 h3.2)]; rfl
    · rw [if_neg hq, if_neg (fun h3 => hq h3.1)]; rfl
  · rw [if_neg h, if_neg h]; rfl
def lookCl : Cl := ⟨1, 0, 1, 0, 0, ⟨#[97]⟩, ⟨#[]⟩, 0, 0, ⟨#[]⟩⟩
theorem look_is (k : Nat) (hk : 20 ≤ k) : sextonlaw13_look.f k = some true := by
  unfold sextonlaw13_look.f
  have hp := ask_pack_is lookCl k hk (by decide)
  have hp2 : ask_Pack.f k 1 0 1 0 0 (⟨#[97]⟩ : ByteArray) (⟨#[]⟩ : ByteArray) 0 0 (⟨#[]⟩ : ByteArray) = some (packCl lookCl) := hp
  rw [hp2]
  simp only [Option.bind_some]
  have hr : rightCl lookCl = true := by decide
  have e0 : (⟨#[]⟩ : ByteArray).toList = [] := mk_toList []
  have e1 : (⟨#[97]⟩ : ByteArray).toList = [97] := mk_toList [97]
  have n1 : numB 1 1 = ⟨#[1]⟩ := by rfl
  have n2 : handB 0 1 = ⟨#[0, 0, 0, 0, 0, 0, 1]⟩ := by rfl
  have n3 : handB 0 0 = ⟨#[]⟩ := by rfl
  have n4 : numB 0 4 = ⟨#[]⟩ := by rfl
  have n5 : numB 0 2 = ⟨#[]⟩ := by rfl
  have m1 : (⟨#[1]⟩ : ByteArray).toList = [1] := mk_toList [1]
  have m2 : (⟨#[0, 0, 0, 0, 0, 0, 1]⟩ : ByteArray).toList = [0, 0, 0, 0, 0, 0, 1] := mk_toList [0, 0, 0, 0, 0, 0, 1]
  have hpc : partsCl lookCl = [⟨#[1]⟩, ⟨#[0, 0, 0, 0, 0, 0, 1]⟩, ⟨#[]⟩, ⟨#[97]⟩, ⟨#[]⟩, ⟨#[]⟩, ⟨#[]⟩, ⟨#[]⟩] := by
    unfold partsCl lookCl
    simp only [n1, n2, n3, n4, n5]
  have hpi : pieces 1 (partsCl lookCl) = [1, 0, 1, 1, 2, 0, 7, 0, 0, 0, 0, 0, 0, 1, 4, 0, 1, 97] := by
    rw [hpc]
    simp only [pieces, e0, e1, m1, m2, fieldB]
    decide
  unfold packCl
  rw [if_pos hr, if_pos rfl, hpi, mk_toList [1, 0, 1, 1, 2, 0, 7, 0, 0, 0, 0, 0, 0, 1, 4, 0, 1, 97]]
  rfl
end Go.Proofs.Ytellcdiifpdonaa.TlvFns
