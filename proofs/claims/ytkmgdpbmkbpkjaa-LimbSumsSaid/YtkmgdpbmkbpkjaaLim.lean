/-
  Plain laws of the forms that the walks over package limb leave: 64-bit words, limbs of 51 bits. No program.
-/
import Derived.Test.YtkmgdpbmkbpkjaaBase
set_option linter.unusedVariables false
namespace Go.Proofs.Ytkmgdpbmkbpkjaa
open Go.RowKit

theorem and_mask (z : Nat) (h : z < 18446744073709551616) : bits .and .u64 (z : Int) 2251799813685247 = ((z % 2251799813685248 : Nat) : Int) := by
  have e := u64_and_nat z 2251799813685247 h (by omega)
  have e2 : z &&& 2251799813685247 = z % 2251799813685248 := Nat.and_two_pow_sub_one_eq_mod z 51
  rw [e2] at e
  exact e
theorem or_add (x k j : Nat) (hj : j < 2 ^ k) (hs : x * 2 ^ k + j < 18446744073709551616) : bits .or .u64 ((x * 2 ^ k : Nat) : Int) (j : Int) = ((x * 2 ^ k + j : Nat) : Int) := by
  rw [u64_or_nat _ _ (by omega) (by omega)]
  rw [Nat.mul_comm, Nat.two_pow_add_eq_or_of_lt hj]
theorem or_add' (x k j : Nat) (hj : j < 2 ^ k) (hs : x * 2 ^ k + j < 18446744073709551616) : bits .or .u64 (j : Int) ((x * 2 ^ k : Nat) : Int) = ((x * 2 ^ k + j : Nat) : Int) := by
  rw [u64_or_nat _ _ (by omega) (by omega)]
  rw [Nat.or_comm, Nat.mul_comm, Nat.two_pow_add_eq_or_of_lt hj]
theorem wrap_nat (z : Nat) : IntKind.u64.wrap (z : Int) = ((z % 18446744073709551616 : Nat) : Int) := by
  rw [IntKind.wrap_u64]; omega
theorem wrap_id (z : Nat) (h : z < 18446744073709551616) : IntKind.u64.wrap (z : Int) = (z : Int) := by
  rw [wrap_nat, Nat.mod_eq_of_lt h]

/-- What carried does to five limbs. -/
def Car (e0 e1 e2 e3 e4 r0 r1 r2 r3 r4 : Nat) : Prop :=
  ∃ f0 f1 f2 f3, f0 = e0 + 19 * (e4 / 2251799813685248) ∧ f1 = e1 + f0 / 2251799813685248 ∧ f2 = e2 + f1 / 2251799813685248 ∧ f3 = e3 + f2 / 2251799813685248 ∧
    r0 = f0 % 2251799813685248 ∧ r1 = f1 % 2251799813685248 ∧ r2 = f2 % 2251799813685248 ∧ r3 = f3 % 2251799813685248 ∧ r4 = e4 % 2251799813685248 + f3 / 2251799813685248
/-- The number of five limbs. -/
def val5 (a b c d e : Nat) : Nat := a + b * 2251799813685248 + c * 5070602400912917605986812821504 + d * 11417981541647679048466287755595961091061972992 + e * 25711008708143844408671393477458601640355247900524685364822016
/-- 2^255 - 19. -/
def p25 : Nat := 57896044618658097711785492504343953926634992332820282019728792003956564819949
/-- Below 2^63. -/
def Lt63 (x : Nat) : Prop := x < 9223372036854775808
/-- Below 2^52. -/
def Lt52 (x : Nat) : Prop := x < 4503599627370496

theorem Car.val {e0 e1 e2 e3 e4 r0 r1 r2 r3 r4 : Nat} (h : Car e0 e1 e2 e3 e4 r0 r1 r2 r3 r4) :
    val5 r0 r1 r2 r3 r4 + e4 / 2251799813685248 * p25 = val5 e0 e1 e2 e3 e4 := by
  obtain ⟨f0, f1, f2, f3, h0, h1, h2, h3, k0, k1, k2, k3, k4⟩ := h
  unfold val5 p25
  omega
theorem Car.small {e0 e1 e2 e3 e4 r0 r1 r2 r3 r4 : Nat} (h : Car e0 e1 e2 e3 e4 r0 r1 r2 r3 r4) (h3 : Lt63 e3) (h2 : Lt63 e2) (h1 : Lt63 e1) (h0 : Lt63 e0) (h4 : Lt63 e4) :
    r0 < 2251799813685248 ∧ r1 < 2251799813685248 ∧ r2 < 2251799813685248 ∧ r3 < 2251799813685248 ∧ r4 < 2251799813685248 + 8192 := by
  obtain ⟨f0, f1, f2, f3, g0, g1, g2, g3, k0, k1, k2, k3, k4⟩ := h
  unfold Lt63 at *
  omega
theorem Car.mod {e0 e1 e2 e3 e4 r0 r1 r2 r3 r4 : Nat} (h : Car e0 e1 e2 e3 e4 r0 r1 r2 r3 r4) : val5 r0 r1 r2 r3 r4 % p25 = val5 e0 e1 e2 e3 e4 % p25 := by
  rw [← h.val, Nat.add_mul_mod_self_right]
end Go.Proofs.Ytkmgdpbmkbpkjaa
