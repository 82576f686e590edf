/-
  Plain laws for limb's element.store: words and bytes of a number of five limbs. No program.
-/
import Derived.Test.YtkmgdpbmkbpkjaaLim
set_option linter.unusedVariables false
namespace Go.Proofs.Ytkmgdpbmkbpkjaa
open Go.RowKit

theorem Car.top {e0 e1 e2 e3 e4 r0 r1 r2 r3 r4 s0 s1 s2 s3 s4 : Nat} (b0 : Lt63 e0) (b1 : Lt63 e1) (b2 : Lt63 e2) (b3 : Lt63 e3) (b4 : Lt63 e4) (h : Car e0 e1 e2 e3 e4 r0 r1 r2 r3 r4) (k : Car r0 r1 r2 r3 r4 s0 s1 s2 s3 s4) :
    s0 < 2251799813685248 ∧ s1 < 2251799813685248 ∧ s2 < 2251799813685248 ∧ s3 < 2251799813685248 ∧ s4 ≤ 2251799813685248 := by
  have sm := h.small b3 b2 b1 b0 b4
  obtain ⟨f0, f1, f2, f3, g0, g1, g2, g3, k0, k1, k2, k3, k4⟩ := k
  omega
/-- How store goes on from limbs that were carried twice. -/
def St (s0 s1 s2 s3 s4 u0 u1 u2 u3 u4 : Nat) : Prop := ∃ q0 q1 q2 q3 q4 t0 t1 t2 t3 t4 : Nat,
  (q0 = (s0 + 19) / 2251799813685248 ∧ q1 = (s1 + q0) / 2251799813685248 ∧ q2 = (s2 + q1) / 2251799813685248 ∧ q3 = (s3 + q2) / 2251799813685248 ∧ q4 = (s4 + q3) / 2251799813685248) ∧
  (t0 = s0 + 19 * q4 ∧ t1 = s1 + t0 / 2251799813685248 ∧ t2 = s2 + t1 / 2251799813685248 ∧ t3 = s3 + t2 / 2251799813685248 ∧ t4 = s4 + t3 / 2251799813685248) ∧
  (u0 = t0 % 2251799813685248 ∧ u1 = t1 % 2251799813685248 ∧ u2 = t2 % 2251799813685248 ∧ u3 = t3 % 2251799813685248 ∧ u4 = t4 % 2251799813685248)
theorem div_up (a b k : Nat) (h : b = a / k) : ((a : Int) / (k : Int)) = (b : Int) := by subst h; exact (Int.natCast_ediv a k).symm
theorem add_up (a b c : Nat) (h : c = a + b) (hc : c < 18446744073709551616) : IntKind.u64.wrap ((a : Int) + (b : Int)) = (c : Int) := by subst h; rw [← Int.natCast_add, wrap_id _ hc]
theorem and_up (a b : Nat) (h : b = a % 2251799813685248) (ha : a < 18446744073709551616) : bits .and .u64 (a : Int) 2251799813685247 = (b : Int) := by subst h; exact and_mask a ha

/-- The i-th word of 64 bits. -/
def wo (R i : Nat) : Nat := R / 18446744073709551616 ^ i % 18446744073709551616
/-- The first n bytes, zeros behind. -/
def c8p (R n : Nat) : Array Value := ((List.range 32).map fun j => Value.int .u8 (if j < n then ((R / 256 ^ j % 256 : Nat) : Int) else 0)).toArray
theorem c8p_zero (R : Nat) : c8p R 0 = #[.int .u8 0, .int .u8 0, .int .u8 0, .int .u8 0, .int .u8 0, .int .u8 0, .int .u8 0, .int .u8 0, .int .u8 0, .int .u8 0, .int .u8 0, .int .u8 0, .int .u8 0, .int .u8 0, .int .u8 0, .int .u8 0, .int .u8 0, .int .u8 0, .int .u8 0, .int .u8 0, .int .u8 0, .int .u8 0, .int .u8 0, .int .u8 0, .int .u8 0, .int .u8 0, .int .u8 0, .int .u8 0, .int .u8 0, .int .u8 0, .int .u8 0, .int .u8 0] := by
  simp [c8p, List.range_succ]
theorem c8p_all (R : Nat) : c8p R 32 = c8 R := by
  unfold c8p c8
  refine congrArg List.toArray (List.map_congr_left fun j hj => ?_)
  rw [if_pos (List.mem_range.1 hj)]
theorem size_c8p (R n : Nat) : (c8p R n).size = 32 := by simp [c8p]
theorem get_c8p (R n j : Nat) (h : j < 32) : (c8p R n)[j]? = some (.int .u8 (if j < n then ((R / 256 ^ j % 256 : Nat) : Int) else 0)) := by
  simp [c8p, h]
theorem put_c8p (R n : Nat) (h : n < 32) : (c8p R n).setIfInBounds n (.int .u8 ((R / 256 ^ n % 256 : Nat) : Int)) = c8p R (n + 1) := by
  apply Array.ext
  · simp [size_c8p]
  · intro j h1 h2
    have hj : j < 32 := by simpa [size_c8p] using h2
    have g1 := get_c8p R n j hj
    have g2 := get_c8p R (n + 1) j hj
    rw [Array.getElem?_eq_getElem (by simpa [size_c8p] using hj)] at g1
    rw [Array.getElem?_eq_getElem h2] at g2
    rw [Option.some.inj g2, Array.getElem_setIfInBounds (by simpa [size_c8p] using hj)]
    by_cases e : n = j
    · subst e; simp
    · rw [if_neg e, Option.some.inj g1]
      by_cases hl : j < n
      · rw [if_pos hl, if_pos (by omega)]
      · rw [if_neg hl, if_neg (by omega)]
theorem byte_wo (R i k : Nat) (hk : k < 8) : IntKind.u8.wrap (((wo R i : Nat) : Int) / 2 ^ (8 * k)) = ((R / 256 ^ (8 * i + k) % 256 : Nat) : Int) := by
  rw [IntKind.wrap_u8']
  have e : (((wo R i : Nat) : Int) / 2 ^ (8 * k)) = ((wo R i / 256 ^ k : Nat) : Int) := by
    rw [Int.natCast_ediv, Int.natCast_pow, Int.pow_mul]; rfl
  rw [e]
  have e2 : wo R i / 256 ^ k % 256 = R / 256 ^ (8 * i + k) % 256 := by
    unfold wo
    have e3 : (18446744073709551616 : Nat) = 256 ^ k * 256 ^ (8 - k) := by rw [← Nat.pow_add, show k + (8 - k) = 8 by omega]
    have e4 : (18446744073709551616 : Nat) ^ i = 256 ^ (8 * i) := by rw [Nat.pow_mul]
    rw [e4, Nat.pow_add, ← Nat.div_div_eq_div_mul]
    generalize R / 256 ^ (8 * i) = X
    rw [e3, Nat.mod_mul_right_div_self, Nat.mod_mod_of_dvd]
    exact ⟨256 ^ (7 - k), by rw [← Nat.pow_succ']; congr 1; omega⟩
  rw [← e2]
  omega

theorem wo_val {u0 u1 u2 u3 u4 : Nat} (h0 : u0 < 2251799813685248) (h1 : u1 < 2251799813685248) (h2 : u2 < 2251799813685248) (h3 : u3 < 2251799813685248) (h4 : u4 < 2251799813685248) :
    wo (val5 u0 u1 u2 u3 u4) 0 = u1 % 8192 * 2251799813685248 + u0 ∧ wo (val5 u0 u1 u2 u3 u4) 1 = u2 % 67108864 * 274877906944 + u1 / 8192 ∧
    wo (val5 u0 u1 u2 u3 u4) 2 = u3 % 549755813888 * 33554432 + u2 / 67108864 ∧ wo (val5 u0 u1 u2 u3 u4) 3 = u4 * 4096 + u3 / 549755813888 := by
  obtain ⟨A, hA⟩ : ∃ A, A = u1 % 8192 * 2251799813685248 + u0 := ⟨_, rfl⟩
  obtain ⟨B, hB⟩ : ∃ B, B = u2 % 67108864 * 274877906944 + u1 / 8192 := ⟨_, rfl⟩
  obtain ⟨C, hC⟩ : ∃ C, C = u3 % 549755813888 * 33554432 + u2 / 67108864 := ⟨_, rfl⟩
  obtain ⟨D, hD⟩ : ∃ D, D = u4 * 4096 + u3 / 549755813888 := ⟨_, rfl⟩
  have lA : A < 18446744073709551616 := by omega
  have lB : B < 18446744073709551616 := by omega
  have lC : C < 18446744073709551616 := by omega
  have lD : D < 18446744073709551616 := by omega
  have hV : val5 u0 u1 u2 u3 u4 = A + 18446744073709551616 * (B + 18446744073709551616 * (C + 18446744073709551616 * D)) := by
    unfold val5; omega
  rw [← hA, ← hB, ← hC, ← hD, hV]
  clear hA hB hC hD hV h0 h1 h2 h3 h4
  have d1 : ∀ a b : Nat, a < 18446744073709551616 → (a + 18446744073709551616 * b) / 18446744073709551616 = b := fun a b h => by omega
  have m1 : ∀ a b : Nat, a < 18446744073709551616 → (a + 18446744073709551616 * b) % 18446744073709551616 = a := fun a b h => by omega
  unfold wo
  have p2 : ∀ x : Nat, x / 18446744073709551616 ^ 2 = x / 18446744073709551616 / 18446744073709551616 := fun x => by rw [Nat.div_div_eq_div_mul]
  have p3 : ∀ x : Nat, x / 18446744073709551616 ^ 3 = x / 18446744073709551616 / 18446744073709551616 / 18446744073709551616 := fun x => by rw [Nat.div_div_eq_div_mul, Nat.div_div_eq_div_mul]
  rw [p2, p3, Nat.pow_zero, Nat.pow_one, Nat.div_one, d1 _ _ lA, d1 _ _ lB, d1 _ _ lC, m1 _ _ lA, m1 _ _ lB, m1 _ _ lC, Nat.mod_eq_of_lt lD]
  exact ⟨rfl, rfl, rfl, rfl⟩
end Go.Proofs.Ytkmgdpbmkbpkjaa
