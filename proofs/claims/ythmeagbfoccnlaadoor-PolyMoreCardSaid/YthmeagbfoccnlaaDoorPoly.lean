/- The sum by which turned bytes are found, in plain Lean, with no program in sight: a step a bit, and what follows from its linearity. -/
import Derived.Test.YthmeagbfoccnlaaDoorTlv
namespace Go.Proofs.YthmeagbfoccnlaaDoor.B
open Go.RowKit Go.Proofs.YthmeagbfoccnlaaDoorW.PrintWords
/-- The lowest bit is taken away; if it was 1, the polynomial is xored. -/
def stepN (r : Nat) : Nat := r / 2 ^^^ (if r % 2 = 1 then 3988292384 else 0)
def s4 (r : Nat) : Nat := stepN (stepN (stepN (stepN r)))
/-- A remainder behind a byte. -/
def bitN (r c : Nat) : Nat := s4 (s4 (r ^^^ c))
def rollsN (r : Nat) (l : List UInt8) : Nat := l.foldl (fun r c => bitN r c.toNat) r
def sumN (l : List UInt8) : Nat := rollsN 4294967295 l ^^^ 4294967295
theorem stepN_xor (a b : Nat) : stepN (a ^^^ b) = stepN a ^^^ stepN b := by
  unfold stepN
  have h1 : (a ^^^ b) / 2 = a / 2 ^^^ b / 2 := Nat.xor_div_two
  have h2 : (a ^^^ b) % 2 = a % 2 ^^^ b % 2 := by
    rw [show (2 : Nat) = 2 ^ 1 from rfl]
    exact Nat.xor_mod_two_pow
  rw [h1, h2]
  have hs : ∀ x y z : Nat, (x ^^^ z) ^^^ (y ^^^ z) = x ^^^ y := fun x y z => by
    rw [show (x ^^^ z) ^^^ (y ^^^ z) = (x ^^^ y) ^^^ (z ^^^ z) by ac_rfl, Nat.xor_self, Nat.xor_zero]
  rcases Nat.mod_two_eq_zero_or_one a with ha | ha <;> rcases Nat.mod_two_eq_zero_or_one b with hb | hb <;> rw [ha, hb]
  · simp
  · simp only [Nat.zero_xor, if_true, show ((0 : Nat) = 1) = False by simp, if_false, Nat.xor_zero]; ac_rfl
  · simp only [Nat.xor_zero, if_true, show ((0 : Nat) = 1) = False by simp, if_false]; ac_rfl
  · simp only [Nat.xor_self, if_true, show ((0 : Nat) = 1) = False by simp, if_false, Nat.xor_zero]; rw [hs]
theorem stepN_lt {r : Nat} (h : r < 2 ^ 32) : stepN r < 2 ^ 32 := by
  unfold stepN
  refine Nat.xor_lt_two_pow (by omega) ?_
  split <;> decide
theorem s4_xor (a b : Nat) : s4 (a ^^^ b) = s4 a ^^^ s4 b := by simp only [s4, stepN_xor]
theorem s4_lt {r : Nat} (h : r < 2 ^ 32) : s4 r < 2 ^ 32 := stepN_lt (stepN_lt (stepN_lt (stepN_lt h)))
theorem stepN_two (m : Nat) : stepN (2 * m) = m := by
  unfold stepN
  rw [if_neg (by omega), Nat.xor_zero]
  omega
theorem s4_sixteen (q : Nat) : s4 (16 * q) = q := by
  unfold s4
  rw [show 16 * q = 2 * (2 * (2 * (2 * q))) by omega, stepN_two, stepN_two, stepN_two, stepN_two]
theorem halves (r : Nat) : r = (16 * (r / 16)) ^^^ (r % 16) := by
  apply Nat.eq_of_testBit_eq
  intro i
  rw [Nat.testBit_xor, show 16 * (r / 16) = 2 ^ 4 * (r / 2 ^ 4) from rfl, Nat.testBit_two_pow_mul, show r % 16 = r % 2 ^ 4 from rfl, Nat.testBit_mod_two_pow, Nat.testBit_div_two_pow]
  by_cases h : i < 4
  · have h2 : ¬ 4 ≤ i := by omega
    simp [h, h2]
  · have h2 : 4 ≤ i := by omega
    have h3 : i - 4 + 4 = i := by omega
    simp [h, h2, h3]
/-- Half a byte at once, by what its lower half adds. -/
theorem s4_halves (r : Nat) : s4 r = (r / 16) ^^^ s4 (r % 16) := by
  conv => lhs; rw [halves r]
  rw [s4_xor, s4_sixteen]
theorem bitN_lt {r c : Nat} (hr : r < 2 ^ 32) (hc : c < 256) : bitN r c < 2 ^ 32 := s4_lt (s4_lt (Nat.xor_lt_two_pow hr (by omega)))
theorem rollsN_lt (l : List UInt8) : ∀ {r : Nat}, r < 2 ^ 32 → rollsN r l < 2 ^ 32 := by
  induction l with
  | nil => intro r h; exact h
  | cons c l ih => intro r h; exact ih (bitN_lt h c.toNat_lt)
theorem sumN_lt (l : List UInt8) : sumN l < 2 ^ 32 := Nat.xor_lt_two_pow (rollsN_lt l (by decide)) (by decide)
theorem rollsN_app (r : Nat) (l m : List UInt8) : rollsN r (l ++ m) = rollsN (rollsN r l) m := List.foldl_append
theorem bitN_xor (a b x y : Nat) : bitN (a ^^^ b) (x ^^^ y) = bitN a x ^^^ bitN b y := by
  unfold bitN
  rw [show a ^^^ b ^^^ (x ^^^ y) = (a ^^^ x) ^^^ (b ^^^ y) by ac_rfl, s4_xor, s4_xor]
def xor3 : List UInt8 → List UInt8 → List UInt8 → List UInt8
  | a :: l, b :: m, c :: n => (a ^^^ b ^^^ c) :: xor3 l m n
  | _, _, _ => []
theorem rollsN_xor3 : ∀ (l m n : List UInt8), m.length = l.length → n.length = l.length → ∀ a b c : Nat, rollsN (a ^^^ b ^^^ c) (xor3 l m n) = rollsN a l ^^^ rollsN b m ^^^ rollsN c n
  | [], m, n, hm, hn, a, b, c => by
    obtain rfl := List.length_eq_zero_iff.1 hm
    obtain rfl := List.length_eq_zero_iff.1 hn
    rfl
  | x :: l, [], n, hm, hn, a, b, c => by simp at hm
  | x :: l, y :: m, [], hm, hn, a, b, c => by simp at hn
  | x :: l, y :: m, z :: n, hm, hn, a, b, c => by
    have ih := rollsN_xor3 l m n (by simpa using hm) (by simpa using hn) (bitN a x.toNat) (bitN b y.toNat) (bitN c z.toNat)
    have e : rollsN (a ^^^ b ^^^ c) (xor3 (x :: l) (y :: m) (z :: n)) = rollsN (bitN (a ^^^ b ^^^ c) (x ^^^ y ^^^ z).toNat) (xor3 l m n) := rfl
    rw [e, UInt8.toNat_xor, UInt8.toNat_xor, bitN_xor, bitN_xor, ih]
    rfl
theorem sumN_xor3 (l m n : List UInt8) (hm : m.length = l.length) (hn : n.length = l.length) : sumN (xor3 l m n) = sumN l ^^^ sumN m ^^^ sumN n := by
  have h := rollsN_xor3 l m n hm hn 4294967295 4294967295 4294967295
  rw [show (4294967295 ^^^ 4294967295 ^^^ 4294967295 : Nat) = 4294967295 by decide] at h
  unfold sumN
  rw [h]
  generalize rollsN 4294967295 l = p
  generalize rollsN 4294967295 m = q
  generalize rollsN 4294967295 n = r
  rw [show p ^^^ 4294967295 ^^^ (q ^^^ 4294967295) ^^^ (r ^^^ 4294967295) = p ^^^ q ^^^ r ^^^ (4294967295 ^^^ 4294967295 ^^^ 4294967295) by ac_rfl]
  rw [show (4294967295 ^^^ 4294967295 ^^^ 4294967295 : Nat) = 4294967295 by decide]
theorem xor_ones (x : Nat) : x ^^^ 4294967295 ^^^ 4294967295 = x := by rw [Nat.xor_assoc, Nat.xor_self, Nat.xor_zero]
/-- A sum goes on. -/
theorem sumN_app (l m : List UInt8) : sumN (l ++ m) = rollsN (sumN l ^^^ 4294967295) m ^^^ 4294967295 := by
  unfold sumN
  rw [xor_ones, rollsN_app]
/-- A sum's bytes. -/
def tailB (n : Nat) : List UInt8 := [UInt8.ofNat (n % 256), UInt8.ofNat (n / 256 % 256), UInt8.ofNat (n / 65536 % 256), UInt8.ofNat (n / 16777216 % 256)]
set_option maxRecDepth 100000 in
theorem sum_nine : sumN [49, 50, 51, 52, 53, 54, 55, 56, 57] = 3421780262 := by decide +kernel
end Go.Proofs.YthmeagbfoccnlaaDoor.B
