/-
  Plain laws of numbers modulo 2^255 - 19: inverses, zero, opposites. No program.
-/
import Derived.Test.YtkmgdpbmkbpkjaaPrime
import Derived.Test.YtkmgdpbmkbpkjaaInv
set_option linter.unusedVariables false
namespace Go.Proofs.Ytkmgdpbmkbpkjaa
open Go.RowKit

theorem p25_prime : Pn.Pr p25 := Pn.pr_57896044618658097711785492504343953926634992332820282019728792003956564819949
theorem p25_sub : p25 - 1 = eInv + 1 := by rw [eInv_val]; decide +kernel
theorem eInv_pos : eInv ≠ 0 := by rw [eInv_val]; decide +kernel
theorem p25_pos : 0 < p25 := by decide +kernel
theorem p25_one : 1 % p25 = 1 := by decide +kernel
theorem lt_p25 (n : Nat) : n % p25 < p25 := Nat.mod_lt _ p25_pos
theorem pinv_lt (a : Nat) : pinv a < p25 := lt_p25 _
theorem pinv_256 (a : Nat) : N256 (pinv a) := N256.mod _
theorem pinv_self (a : Nat) : pinv a % p25 = pinv a := Nat.mod_mod _ _
theorem dvd_iff (a : Nat) : p25 ∣ a ↔ a % p25 = 0 := ⟨Nat.mod_eq_zero_of_dvd, Nat.dvd_of_mod_eq_zero⟩
theorem mul_pinv {a : Nat} (h : a % p25 ≠ 0) : a * pinv a % p25 = 1 := by
  have f := p25_prime.fermat (a := a) (fun hd => h ((dvd_iff a).1 hd))
  rw [p25_sub, Nat.pow_succ', Nat.mul_mod] at f
  unfold pinv
  rw [Nat.mul_mod, Nat.mod_mod]
  exact f
theorem pinv_zero {a : Nat} (h : a % p25 = 0) : pinv a = 0 := by
  unfold pinv
  rw [Nat.pow_mod, h, Nat.zero_pow (Nat.pos_of_ne_zero eInv_pos), Nat.zero_mod]
theorem pinv_mod (a : Nat) : pinv (a % p25) = pinv a := by
  unfold pinv
  rw [← Nat.pow_mod]
theorem pinv_mul (a b : Nat) : pinv (a * b % p25) = pinv a * pinv b % p25 := by
  rw [pinv_mod]
  unfold pinv
  rw [Nat.mul_pow, ← Nat.mul_mod]
theorem mul_zero_iff (a b : Nat) : a * b % p25 = 0 ↔ a % p25 = 0 ∨ b % p25 = 0 := by
  constructor
  · intro h
    rcases p25_prime.dvd_mul ((dvd_iff _).2 h) with h | h
    · exact .inl ((dvd_iff a).1 h)
    · exact .inr ((dvd_iff b).1 h)
  · rintro (h | h)
    · rw [Nat.mul_mod, h, Nat.zero_mul, Nat.zero_mod]
    · rw [Nat.mul_mod, h, Nat.mul_zero, Nat.zero_mod]
/-- What is the same behind a factor that is not 0. -/
theorem cancel {a b c : Nat} (hc : c % p25 ≠ 0) (h : a * c % p25 = b * c % p25) : a % p25 = b % p25 := by
  have k : ∀ x, x % p25 = x * c % p25 * pinv c % p25 := fun x => by
    rw [Nat.mod_mul_mod, Nat.mul_assoc, Nat.mul_mod, mul_pinv hc, Nat.mul_one, Nat.mod_mod]
  rw [k a, k b, h]
theorem pinv_ne {a : Nat} (h : a % p25 ≠ 0) : pinv a % p25 ≠ 0 := by
  intro h0
  have h1 := mul_pinv h
  rw [Nat.mul_mod, h0, Nat.mul_zero, Nat.zero_mod] at h1
  omega
theorem pinv_pinv (a : Nat) : pinv (pinv a) = a % p25 := by
  by_cases h : a % p25 = 0
  · rw [pinv_zero h, h, pinv_zero (Nat.zero_mod _)]
  · have h1 := mul_pinv h
    have h2 := mul_pinv (pinv_ne h)
    rw [← pinv_self (pinv a)]
    refine cancel (pinv_ne h) ?_
    rw [h1, Nat.mul_comm, h2]
/-- The opposite. -/
def neg (a : Nat) : Nat := (0 + 4 * p25 - a) % p25
theorem neg_add {a : Nat} (h : a ≤ 4 * p25) : (neg a + a) % p25 = 0 := by
  unfold neg
  rw [Nat.mod_add_mod, show 0 + 4 * p25 - a + a = p25 * 4 by omega, Nat.mul_mod_right]
theorem add_cancel {a b c : Nat} (h : (a + c) % p25 = (b + c) % p25) : a % p25 = b % p25 := by
  obtain ⟨d, hd⟩ : ∃ d, (c + d) % p25 = 0 := ⟨p25 - c % p25, by
    have := lt_p25 c
    rw [← Nat.mod_add_mod, show c % p25 + (p25 - c % p25) = p25 by omega, Nat.mod_self]⟩
  have k : ∀ x, x % p25 = (x + c + d) % p25 := fun x => by
    rw [Nat.add_assoc, Nat.add_mod x, hd, Nat.add_zero, Nat.mod_mod]
  rw [k a, k b, Nat.add_mod, h, ← Nat.add_mod]
theorem mul_neg {a b : Nat} (h : b ≤ 4 * p25) (h' : a * b % p25 ≤ 4 * p25) : a * neg b % p25 = neg (a * b % p25) := by
  have e1 : (a * neg b + a * b) % p25 = 0 := by rw [← Nat.mul_add, Nat.mul_mod, neg_add h, Nat.mul_zero, Nat.zero_mod]
  have e2 : (neg (a * b % p25) + a * b) % p25 = 0 := by
    have := neg_add h'
    rwa [Nat.add_mod_mod] at this
  have := add_cancel (e1.trans e2.symm)
  rw [this]
  exact Nat.mod_mod _ _
theorem le_4 {n : Nat} (h : n < p25) : n ≤ 4 * p25 := by omega
theorem N256.le4 {n : Nat} (h : N256 n) : n ≤ 4 * p25 := by unfold N256 at h; unfold p25; omega
theorem neg_lt (a : Nat) : neg a < p25 := lt_p25 _
theorem neg_self (a : Nat) : neg a % p25 = neg a := Nat.mod_mod _ _
theorem neg_256 (a : Nat) : N256 (neg a) := N256.mod _
theorem neg_ne {a : Nat} (h : a ≤ 4 * p25) (h0 : a % p25 ≠ 0) : neg a % p25 ≠ 0 := by
  intro h1
  have h2 := neg_add h
  rw [Nat.add_mod, h1, Nat.zero_add, Nat.mod_mod] at h2
  exact h0 h2
theorem neg_neg {a : Nat} (h : a ≤ 4 * p25) : neg (neg a) = a % p25 := by
  have e1 := neg_add (le_4 (neg_lt a))
  have e2 := neg_add h
  rw [Nat.add_comm] at e2
  have := add_cancel (e1.trans e2.symm)
  rw [neg_self] at this
  exact this
theorem neg_mul_neg {a b : Nat} (ha : a ≤ 4 * p25) (hb : b ≤ 4 * p25) : neg a * neg b % p25 = a * b % p25 := by
  rw [mul_neg hb (le_4 (lt_p25 _)), Nat.mul_comm (neg a), mul_neg ha (le_4 (lt_p25 _)), neg_neg (le_4 (lt_p25 _)), Nat.mod_mod, Nat.mul_comm]
theorem pinv_neg {a : Nat} (h : a ≤ 4 * p25) : pinv (neg a) = neg (pinv a) := by
  by_cases h0 : a % p25 = 0
  · have e : neg a % p25 = 0 := by
      have h2 := neg_add h
      rw [Nat.add_mod, h0, Nat.add_zero, Nat.mod_mod] at h2
      exact h2
    rw [pinv_zero e, pinv_zero h0]
    decide +kernel
  · have h1 := mul_pinv (neg_ne h h0)
    have h2 : neg (pinv a) * neg a % p25 = 1 := by rw [neg_mul_neg (le_4 (pinv_lt a)) h, Nat.mul_comm, mul_pinv h0]
    rw [Nat.mul_comm] at h1
    have := cancel (neg_ne h h0) (h1.trans h2.symm)
    rwa [pinv_self, neg_self] at this
end Go.Proofs.Ytkmgdpbmkbpkjaa
