/- Joined by merge.py out of: Poly, PolySum, JoinFns. -/
import Derived.Test.YtoclacnhckpkfaaDoorTlv
import Derived.Test.YtoclacnhckpkfaaDoorFAPolyAll
import Derived.Test.YtoclacnhckpkfaaDoorFARefAll
section
/- The sum by which turned bytes are found, in plain Lean, with no program in sight: a step a bit, and what follows from its linearity. -/
namespace Go.Proofs.YtoclacnhckpkfaaDoor.B
open Go.RowKit Go.Proofs.YtoclacnhckpkfaaDoorW.PrintWords
/-- The lowest bit is taken away; if it was 1, the polynomial is xored. -/
def stepN (r : Nat) : Nat := r / 2 ^^^ (if r % 2 = 1 then 3988292384 else 0)
def s4 (r : Nat) : Nat := stepN (stepN (stepN (stepN r)))
/-- A remainder behind a byte. -/
def bitN (r c : Nat) : Nat := s4 (s4 (r ^^^ c))
def rollsN (r : Nat) (l : List UInt8) : Nat := l.foldl (fun r c => bitN r c.toNat) r
def sumN (l : List UInt8) : Nat := rollsN 4294967295 l ^^^ 4294967295
theorem stepN_xor (a b : Nat) : stepN (a ^^^ b) = stepN a ^^^ stepN b := by
  unfold stepN
  have h1 : (a ^^^ b) / 2 = a / 2 ^^^ b / 2 := Nat.xor_div_two
  have h2 : (a ^^^ b) % 2 = a % 2 ^^^ b % 2 := by
    rw [show (2 : Nat) = 2 ^ 1 from rfl]
    exact Nat.xor_mod_two_pow
  rw [h1, h2]
  have hs : ∀ x y z : Nat, (x ^^^ z) ^^^ (y ^^^ z) = x ^^^ y := fun x y z => by
    rw [show (x ^^^ z) ^^^ (y ^^^ z) = (x ^^^ y) ^^^ (z ^^^ z) by ac_rfl, Nat.xor_self, Nat.xor_zero]
  rcases Nat.mod_two_eq_zero_or_one a with ha | ha <;> rcases Nat.mod_two_eq_zero_or_one b with hb | hb <;> rw [ha, hb]
  · simp
  · simp only [Nat.zero_xor, if_true, show ((0 : Nat) = 1) = False by simp, if_false, Nat.xor_zero]; ac_rfl
  · simp only [Nat.xor_zero, if_true, show ((0 : Nat) = 1) = False by simp, if_false]; ac_rfl
  · simp only [Nat.xor_self, if_true, show ((0 : Nat) = 1) = False by simp, if_false, Nat.xor_zero]; rw [hs]
theorem stepN_lt {r : Nat} (h : r < 2 ^ 32) : stepN r < 2 ^ 32 := by
  unfold stepN
  refine Nat.xor_lt_two_pow (by omega) ?_
  split <;> decide
theorem s4_xor (a b : Nat) : s4 (a ^^^ b) = s4 a ^^^ s4 b := by simp only [s4, stepN_xor]
theorem s4_lt {r : Nat} (h : r < 2 ^ 32) : s4 r < 2 ^ 32 := stepN_lt (stepN_lt (stepN_lt (stepN_lt h)))
theorem stepN_two (m : Nat) : stepN (2 * m) = m := by
  unfold stepN
  rw [if_neg (by omega), Nat.xor_zero]
  omega
theorem s4_sixteen (q : Nat) : s4 (16 * q) = q := by
  unfold s4
  rw [show 16 * q = 2 * (2 * (2 * (2 * q))) by omega, stepN_two, stepN_two, stepN_two, stepN_two]
theorem halves (r : Nat) : r = (16 * (r / 16)) ^^^ (r % 16) := by
  apply Nat.eq_of_testBit_eq
  intro i
  rw [Nat.testBit_xor, show 16 * (r / 16) = 2 ^ 4 * (r / 2 ^ 4) from rfl, Nat.testBit_two_pow_mul, show r % 16 = r % 2 ^ 4 from rfl, Nat.testBit_mod_two_pow, Nat.testBit_div_two_pow]
  by_cases h : i < 4
  · have h2 : ¬ 4 ≤ i := by omega
    simp [h, h2]
  · have h2 : 4 ≤ i := by omega
    have h3 : i - 4 + 4 = i := by omega
    simp [h, h2, h3]
/-- Half a byte at once, by what its lower half adds. -/
theorem s4_halves (r : Nat) : s4 r = (r / 16) ^^^ s4 (r % 16) := by
  conv => lhs; rw [halves r]
  rw [s4_xor, s4_sixteen]
theorem bitN_lt {r c : Nat} (hr : r < 2 ^ 32) (hc : c < 256) : bitN r c < 2 ^ 32 := s4_lt (s4_lt (Nat.xor_lt_two_pow hr (by omega)))
theorem rollsN_lt (l : List UInt8) : ∀ {r : Nat}, r < 2 ^ 32 → rollsN r l < 2 ^ 32 := by
  induction l with
  | nil => intro r h; exact h
  | cons c l ih => intro r h; exact ih (bitN_lt h c.toNat_lt)
theorem sumN_lt (l : List UInt8) : sumN l < 2 ^ 32 := Nat.xor_lt_two_pow (rollsN_lt l (by decide)) (by decide)
theorem rollsN_app (r : Nat) (l m : List UInt8) : rollsN r (l ++ m) = rollsN (rollsN r l) m := List.foldl_append
theorem bitN_xor (a b x y : Nat) : bitN (a ^^^ b) (x ^^^ y) = bitN a x ^^^ bitN b y := by
  unfold bitN
  rw [show a ^^^ b ^^^ (x ^^^ y) = (a ^^^ x) ^^^ (b ^^^ y) by ac_rfl, s4_xor, s4_xor]
def xor3 : List UInt8 → List UInt8 → List UInt8 → List UInt8
  | a :: l, b :: m, c :: n => (a ^^^ b ^^^ c) :: xor3 l m n
  | _, _, _ => []
theorem xor_ones (x : Nat) : x ^^^ 4294967295 ^^^ 4294967295 = x := by rw [Nat.xor_assoc, Nat.xor_self, Nat.xor_zero]
/-- A sum goes on. -/
theorem sumN_app (l m : List UInt8) : sumN (l ++ m) = rollsN (sumN l ^^^ 4294967295) m ^^^ 4294967295 := by
  unfold sumN
  rw [xor_ones, rollsN_app]
/-- A sum's bytes. -/
def tailB (n : Nat) : List UInt8 := [UInt8.ofNat (n % 256), UInt8.ofNat (n / 256 % 256), UInt8.ofNat (n / 65536 % 256), UInt8.ofNat (n / 16777216 % 256)]
end Go.Proofs.YtoclacnhckpkfaaDoor.B
end

section
/- The sums of poly and of its reference. -/
namespace Go.Proofs.YtoclacnhckpkfaaDoor.FA
open Go.RowKit Go.Proofs.YtoclacnhckpkfaaDoorW.PrintWords Go.Proofs.YtoclacnhckpkfaaDoorW.PrintLast Go.Proofs.YtoclacnhckpkfaaDoorW.PrintMore Go.Proofs.YtoclacnhckpkfaaDoor.B
set_option linter.unusedVariables false
set_option linter.unusedSimpArgs false
theorem bits_xor_nat (k : IntKind) (j : Nat) (hj : j ≤ k.bits) (hk : ∀ n : Int, 0 ≤ n → n < 2 ^ j → k.wrap n = n) (a b : Nat) (ha : a < 2 ^ j) (hb : b < 2 ^ j) : Go.bits .xor k a b = ((a ^^^ b : Nat) : Int) := by
  have hp : 2 ^ j ≤ 2 ^ k.bits := Nat.pow_le_pow_right (by decide) hj
  have ha' : a % 2 ^ k.bits = a := Nat.mod_eq_of_lt (Nat.lt_of_lt_of_le ha hp)
  have hb' : b % 2 ^ k.bits = b := Nat.mod_eq_of_lt (Nat.lt_of_lt_of_le hb hp)
  have cast : ∀ n : Nat, n < 2 ^ j → ((n : Nat) : Int) < 2 ^ j := fun n h => by exact_mod_cast h
  simp only [Go.bits, BitVec.ofInt_natCast, BitVec.toNat_xor, BitVec.toNat_ofNat, ha', hb']
  exact hk _ (Int.natCast_nonneg _) (cast _ (Nat.xor_lt_two_pow ha hb))
theorem wraps_u32 (n : Int) (h0 : 0 ≤ n) (h1 : n < 2 ^ 32) : IntKind.u32.wrap n = n := by rw [IntKind.wrap_u32]; omega
theorem xor_u32 {a b : Nat} (ha : a < 2 ^ 32) (hb : b < 2 ^ 32) : Go.bits .xor .u32 (a : Int) (b : Int) = ((a ^^^ b : Nat) : Int) := bits_xor_nat .u32 32 (by decide) wraps_u32 a b ha hb
theorem xor_i64 {a b : Nat} (ha : a < 2 ^ 63) (hb : b < 2 ^ 63) : Go.bits .xor .i64 (a : Int) (b : Int) = ((a ^^^ b : Nat) : Int) := bits_xor_nat .i64 63 (by decide) wraps_i64 a b ha hb
theorem tab_is : ∀ m : Nat, m < 16 → tabL.getD m 0 = ((s4 m : Nat) : Int) := by decide
theorem mixI_is {r : Nat} (hr : r < 2 ^ 32) : mixI (r : Int) = ((s4 r : Nat) : Int) := by
  unfold mixI tabAt
  have hm : Go.bits .and .u32 (r : Int) 15 = ((r % 16 : Nat) : Int) := by
    have := bits_mask .u32 32 (by decide) wraps_u32 4 (by decide) (r : Int) (by omega) (by omega)
    rw [show (2 : Int) ^ 4 - 1 = 15 by decide, show (2 : Int) ^ 4 = 16 by decide] at this
    rw [this]
    omega
  rw [hm, Int.toNat_natCast, tab_is _ (Nat.mod_lt _ (by decide)), show (r : Int) / 16 = ((r / 16 : Nat) : Int) by omega, xor_u32 (by omega) (s4_lt (by omega)), ← s4_halves]
theorem rollI_is {r c : Nat} (hr : r < 2 ^ 32) (hc : c < 256) : rollI (r : Int) (c : Int) = ((bitN r c : Nat) : Int) := by
  unfold rollI bitN
  rw [show (c : Int) % 4294967296 = ((c : Nat) : Int) by omega, xor_u32 hr (by omega), mixI_is (Nat.xor_lt_two_pow hr (by omega)), mixI_is (s4_lt (Nat.xor_lt_two_pow hr (by omega)))]
theorem drop_at (s : ByteArray) (i : Nat) (h : i < s.size) : s.toList.drop i = s.toList[i]'(by rw [len_eq]; exact h) :: s.toList.drop (i + 1) := by
  rw [List.drop_eq_getElem_cons (by rw [len_eq]; exact h)]
theorem not_u32 {r : Nat} (hr : r < 2 ^ 32) : Go.bits .xor .u32 4294967295 (r : Int) = ((r ^^^ 4294967295 : Nat) : Int) := by
  rw [show (4294967295 : Int) = ((4294967295 : Nat) : Int) from rfl, xor_u32 (by decide) hr, Nat.xor_comm]
theorem not_i64 {r : Nat} (hr : r < 2 ^ 32) : Go.bits .xor .i64 (r : Int) 4294967295 = ((r ^^^ 4294967295 : Nat) : Int) := by
  rw [show (4294967295 : Int) = ((4294967295 : Nat) : Int) from rfl, xor_i64 (by omega) (by decide)]
theorem more_loop (s : ByteArray) (hs : s.size ≤ 9223372036854775806) (d : Nat) : ∀ (k i r : Nat), s.size - i = d → i ≤ s.size → d < k → r < 2 ^ 32 →
    poly_More.l0 k s (r : Int) (s.size : Int) (i : Int) = some (((rollsN r (s.toList.drop i) ^^^ 4294967295 : Nat) : Int), 0) := by
  induction d with
  | zero =>
    intro k i r hd hi hk hr
    obtain ⟨k, rfl⟩ : ∃ m, k = m + 1 := ⟨k - 1, by omega⟩
    have e : s.toList.drop i = [] := List.drop_of_length_le (by rw [len_eq]; omega)
    have hlt := Nat.xor_lt_two_pow hr (show 4294967295 < 2 ^ 32 by decide)
    simp only [poly_More.l0]
    rw [if_neg (by omega), e, not_u32 hr, wrap64_in (by omega) (by omega)]
    rfl
  | succ d ih =>
    intro k i r hd hi hk hr
    obtain ⟨k, rfl⟩ : ∃ m, k = m + 1 := ⟨k - 1, by omega⟩
    have hlt : i < s.toList.length := by rw [len_eq]; omega
    simp only [poly_More.l0]
    rw [if_pos (by omega), if_pos (by omega), if_pos (by omega), poly_roll.f, bt_get s i hlt, rollI_is hr (UInt8.toNat_lt _)]
    simp only [Option.bind_some]
    rw [wrap64_in (by omega) (by omega), show (i : Int) + 1 = ((i + 1 : Nat) : Int) by omega, ih k (i + 1) _ (by omega) (by omega) (by omega) (bitN_lt hr (UInt8.toNat_lt _)), drop_at s i (by omega)]
    rfl
def moreV (a : Int) (l : List UInt8) : Int × Int := if 0 ≤ a ∧ a < 4294967296 then (((rollsN (a.toNat ^^^ 4294967295) l ^^^ 4294967295 : Nat) : Int), 0) else (0, 1)
theorem more_is (a : Int) (s : ByteArray) (hs : s.size ≤ 9223372036854775806) (k : Nat) (hk : s.size < k) : poly_More.f k a s = some (moreV a s.toList) := by
  unfold poly_More.f moreV poly_sum32.f
  by_cases h0 : a ≥ 0
  · rw [if_pos h0]
    simp only [Option.bind_some]
    by_cases h1 : a < 4294967296
    · rw [if_pos (by simpa using h1), if_pos ⟨h0, h1⟩]
      obtain ⟨n, rfl⟩ := Int.eq_ofNat_of_zero_le h0
      have hn : n < 2 ^ 32 := by omega
      rw [show ((n : Int)) % 4294967296 = ((n : Nat) : Int) by omega, not_u32 hn]
      have := more_loop s hs s.size k 0 (n ^^^ 4294967295) (by omega) (by omega) hk (Nat.xor_lt_two_pow hn (by decide))
      rw [List.drop_zero] at this
      rw [Int.toNat_natCast]
      exact this
    · rw [if_neg (by simpa using h1), if_neg (by omega)]
  · rw [if_neg h0]
    simp only [Option.bind_some]
    rw [if_neg (by simp), if_neg (by omega)]
theorem sum_is (s : ByteArray) (hs : s.size ≤ 9223372036854775806) (k : Nat) (hk : s.size < k) : poly_Sum.f k s = some ((sumN s.toList : Nat) : Int) := by
  unfold poly_Sum.f
  rw [more_is 0 s hs k hk]
  simp only [Option.bind_some, moreV]
  rw [if_pos (by decide)]
  rfl
theorem bits_one (k r : Nat) (i : Int) (hr : r < 2 ^ 32) (h0 : 0 ≤ i) (hi : i < 8) : sextonref02_bits.l0 (k + 1) (r : Int) i = sextonref02_bits.l0 k ((stepN r : Nat) : Int) (i + 1) := by
  simp only [sextonref02_bits.l0]
  have e1 : Int.tmod (r : Int) 2 = ((r % 2 : Nat) : Int) := rfl
  have e2 : Int.tdiv (r : Int) 2 = ((r / 2 : Nat) : Int) := rfl
  rw [if_pos hi, e1, e2, wrap64_in (n := i + 1) (by omega) (by omega), wrap64_in (by omega) (by omega)]
  unfold stepN
  by_cases h : r % 2 = 1
  · rw [if_pos (by omega), if_pos h, show (3988292384 : Int) = ((3988292384 : Nat) : Int) from rfl, xor_i64 (by omega) (by decide)]
  · rw [if_neg (by omega), if_neg h, Nat.xor_zero]
theorem ref_bits_is {r c : Nat} (hr : r < 2 ^ 32) (hc : c < 256) (k : Nat) (hk : 9 ≤ k) : sextonref02_bits.f k (r : Int) (c : Int) = some ((bitN r c : Nat) : Int) := by
  obtain ⟨k, rfl⟩ : ∃ m, k = m + 9 := ⟨k - 9, by omega⟩
  unfold sextonref02_bits.f
  have h0 := Nat.xor_lt_two_pow hr (show c < 2 ^ 32 by omega)
  have h1 := stepN_lt h0
  have h2 := stepN_lt h1
  have h3 := stepN_lt h2
  have h4 := stepN_lt h3
  have h5 := stepN_lt h4
  have h6 := stepN_lt h5
  have h7 := stepN_lt h6
  rw [xor_i64 (by omega) (by omega), bits_one _ _ _ h0 (by decide) (by decide), bits_one _ _ _ h1 (by decide) (by decide), bits_one _ _ _ h2 (by decide) (by decide), bits_one _ _ _ h3 (by decide) (by decide), bits_one _ _ _ h4 (by decide) (by decide), bits_one _ _ _ h5 (by decide) (by decide), bits_one _ _ _ h6 (by decide) (by decide), bits_one _ _ _ h7 (by decide) (by decide)]
  simp only [sextonref02_bits.l0]
  rw [if_neg (by decide)]
  rfl
theorem w64_byte (b : UInt8) : wrap64 (b.toNat : Int) = (b.toNat : Int) := by
  have := b.toNat_lt
  exact wrap64_in (by omega) (by omega)
theorem ref_sum_loop (s : ByteArray) (hs : s.size ≤ 9223372036854775806) (d : Nat) : ∀ (k i r : Nat), s.size - i = d → i ≤ s.size → d + 9 < k → r < 2 ^ 32 →
    sextonref02_Sum.l0 k s (r : Int) (i : Int) = some ((rollsN r (s.toList.drop i) ^^^ 4294967295 : Nat) : Int) := by
  induction d with
  | zero =>
    intro k i r hd hi hk hr
    obtain ⟨k, rfl⟩ : ∃ m, k = m + 1 := ⟨k - 1, by omega⟩
    have e : s.toList.drop i = [] := List.drop_of_length_le (by rw [len_eq]; omega)
    simp only [sextonref02_Sum.l0]
    rw [if_neg (by omega), e, not_i64 hr]
    rfl
  | succ d ih =>
    intro k i r hd hi hk hr
    obtain ⟨k, rfl⟩ : ∃ m, k = m + 1 := ⟨k - 1, by omega⟩
    have hlt : i < s.toList.length := by rw [len_eq]; omega
    simp only [sextonref02_Sum.l0]
    rw [if_pos (by omega), if_pos (by omega), bt_get s i hlt, w64_byte, ref_bits_is hr (UInt8.toNat_lt _) k (by omega)]
    simp only [Option.bind_some]
    rw [wrap64_in (by omega) (by omega), show (i : Int) + 1 = ((i + 1 : Nat) : Int) by omega, ih k (i + 1) _ (by omega) (by omega) (by omega) (bitN_lt hr (UInt8.toNat_lt _)), drop_at s i (by omega)]
    rfl
theorem ref_sum_is (s : ByteArray) (hs : s.size ≤ 9223372036854775806) (k : Nat) (hk : s.size + 9 < k) : sextonref02_Sum.f k s = some ((sumN s.toList : Nat) : Int) := by
  unfold sextonref02_Sum.f
  have := ref_sum_loop s hs s.size k 0 4294967295 (by omega) (by omega) hk (by decide)
  rw [List.drop_zero] at this
  exact this
end Go.Proofs.YtoclacnhckpkfaaDoor.FA
end

section
/- poly.Join, and the sum of two texts. -/
namespace Go.Proofs.YtoclacnhckpkfaaDoor.FA
open Go.RowKit Go.Proofs.YtoclacnhckpkfaaDoorW.PrintWords Go.Proofs.YtoclacnhckpkfaaDoorW.PrintLast Go.Proofs.YtoclacnhckpkfaaDoorW.PrintMore Go.Proofs.YtoclacnhckpkfaaDoor.B
set_option linter.unusedVariables false
set_option linter.unusedSimpArgs false
/-- A remainder behind n zero bytes. -/
def zerosN (r : Nat) : Nat → Nat
  | 0 => r
  | n + 1 => zerosN (bitN r 0) n
theorem rolls_xor2 : ∀ (l : List UInt8) (a b : Nat), rollsN (a ^^^ b) l = zerosN a l.length ^^^ rollsN b l
  | [], a, b => rfl
  | c :: l, a, b => by
    show rollsN (bitN (a ^^^ b) c.toNat) l = zerosN (bitN a 0) l.length ^^^ rollsN (bitN b c.toNat) l
    have h := bitN_xor a b 0 c.toNat
    rw [Nat.zero_xor] at h
    rw [h, rolls_xor2 l]
theorem sum_join (l m : List UInt8) : sumN (l ++ m) = zerosN (sumN l) m.length ^^^ sumN m := by
  rw [sumN_app, rolls_xor2, Nat.xor_assoc]
  rfl
theorem join_loop (b n : Nat) (hn : n ≤ 1048576) (hb : b < 2 ^ 32) (d : Nat) : ∀ (k i r : Nat), i + d = n → d < k → r < 2 ^ 32 →
    poly_Join.l0 k (b : Int) (r : Int) (n : Int) (i : Int) = some (((zerosN r d ^^^ b : Nat) : Int), 0) := by
  induction d with
  | zero =>
    intro k i r hd hk hr
    obtain ⟨k, rfl⟩ : ∃ m, k = m + 1 := ⟨k - 1, by omega⟩
    have hlt := Nat.xor_lt_two_pow hr hb
    simp only [poly_Join.l0]
    rw [if_neg (by omega), show ((b : Int)) % 4294967296 = ((b : Nat) : Int) by omega, xor_u32 hr hb, wrap64_in (by omega) (by omega)]
    rfl
  | succ d ih =>
    intro k i r hd hk hr
    obtain ⟨k, rfl⟩ : ∃ m, k = m + 1 := ⟨k - 1, by omega⟩
    simp only [poly_Join.l0]
    rw [if_pos (by omega), poly_roll.f, show (0 : Int) = ((0 : Nat) : Int) from rfl, rollI_is hr (by decide)]
    simp only [Option.bind_some]
    rw [wrap64_in (by omega) (by omega), show (i : Int) + 1 = ((i + 1 : Nat) : Int) by omega, ih k (i + 1) _ (by omega) (by omega) (bitN_lt hr (by decide))]
    rfl
theorem join_is (a b n : Nat) (ha : a < 2 ^ 32) (hb : b < 2 ^ 32) (hn : n ≤ 1048576) (k : Nat) (hk : n + 2 ≤ k) : poly_Join.f k (a : Int) (b : Int) (n : Int) = some (((zerosN a n ^^^ b : Nat) : Int), 0) := by
  obtain ⟨k, rfl⟩ : ∃ m, k = m + 1 := ⟨k - 1, by omega⟩
  have h32 : ∀ x : Nat, x < 2 ^ 32 → poly_sum32.f (x : Int) = some true := by
    intro x hx
    unfold poly_sum32.f
    rw [if_pos (by omega), decide_eq_true (by omega)]
  unfold poly_Join.f
  rw [h32 a ha, Option.bind_some, if_pos rfl, h32 b hb, Option.bind_some, if_pos rfl, if_neg (by omega), decide_eq_false (by omega)]
  simp only [poly_Join.j0]
  rw [if_neg (by decide), show ((a : Int)) % 4294967296 = ((a : Nat) : Int) by omega]
  have := join_loop b n hn hb n k 0 a (by omega) (by omega) ha
  exact this
end Go.Proofs.YtoclacnhckpkfaaDoor.FA
end
