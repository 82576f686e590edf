/-
  limb's element.store, told by numbers.
-/
import Derived.Test.YtkmgdpbmkbpkjaaStore
set_option linter.unusedVariables false
namespace Go.Proofs.Ytkmgdpbmkbpkjaa
open Go.RowKit

theorem St.val {s0 s1 s2 s3 s4 u0 u1 u2 u3 u4 : Nat} (h0 : s0 < 2251799813685248) (h1 : s1 < 2251799813685248) (h2 : s2 < 2251799813685248) (h3 : s3 < 2251799813685248) (h4 : s4 ≤ 2251799813685248)
    (h : St s0 s1 s2 s3 s4 u0 u1 u2 u3 u4) : val5 u0 u1 u2 u3 u4 = val5 s0 s1 s2 s3 s4 % p25 := by
  obtain ⟨q0, q1, q2, q3, q4, t0, t1, t2, t3, t4, ⟨a0, a1, a2, a3, a4⟩, ⟨b0, b1, b2, b3, b4⟩, ⟨c0, c1, c2, c3, c4⟩⟩ := h
  obtain ⟨V, hV⟩ : ∃ V, V = val5 s0 s1 s2 s3 s4 := ⟨_, rfl⟩
  have hq : q4 = (V + 19) / 57896044618658097711785492504343953926634992332820282019728792003956564819968 := by
    rw [hV]; unfold val5; omega
  have hu : val5 u0 u1 u2 u3 u4 = (V + 19 * q4) % 57896044618658097711785492504343953926634992332820282019728792003956564819968 := by
    rw [hV]; unfold val5; omega
  have hlt : V < 2 * p25 := by rw [hV]; unfold val5 p25; omega
  rw [hu, ← hV]
  clear hu hV a0 a1 a2 a3 a4 b0 b1 b2 b3 b4 c0 c1 c2 c3 c4
  unfold p25 at *
  by_cases hp : V < 57896044618658097711785492504343953926634992332820282019728792003956564819949
  · have q0 : q4 = 0 := by omega
    subst q0
    rw [Nat.mod_eq_of_lt hp, Nat.mul_zero, Nat.add_zero, Nat.mod_eq_of_lt (by omega)]
  · have q1 : q4 = 1 := by omega
    subst q1
    obtain ⟨X, rfl⟩ : ∃ X, V = X + 57896044618658097711785492504343953926634992332820282019728792003956564819949 := ⟨V - 57896044618658097711785492504343953926634992332820282019728792003956564819949, by omega⟩
    rw [Nat.add_mod_right, Nat.mod_eq_of_lt (show X < 57896044618658097711785492504343953926634992332820282019728792003956564819949 by omega)]
    rw [show X + 57896044618658097711785492504343953926634992332820282019728792003956564819949 + 19 * 1 = X + 57896044618658097711785492504343953926634992332820282019728792003956564819968 by omega, Nat.add_mod_right, Nat.mod_eq_of_lt (by omega)]

theorem store_any (e0 e1 e2 e3 e4 : Nat) (b0 : Lt63 e0) (b1 : Lt63 e1) (b2 : Lt63 e2) (b3 : Lt63 e3) (b4 : Lt63 e4) (w : World) :
    Calls Try.prog 27 #[.agg (c5 e0 e1 e2 e3 e4)] w fun e w' => e = .returned (.agg (c8 (val5 e0 e1 e2 e3 e4 % p25))) ∧ Below w.heap.size w w' := by
  refine (store_raw e0 e1 e2 e3 e4 b0 b1 b2 b3 b4 w).mono fun e w' ⟨u0, u1, u2, u3, u4, hs, he, hb⟩ => ⟨?_, hb⟩
  obtain ⟨r0, r1, r2, r3, r4, s0, s1, s2, s3, s4, h1, h2, h3⟩ := hs.out
  obtain ⟨t0, t1, t2, t3, t4⟩ := Car.top b0 b1 b2 b3 b4 h1 h2
  rw [he, h3.val t0 t1 t2 t3 t4, h2.mod, h1.mod]
end Go.Proofs.Ytkmgdpbmkbpkjaa
