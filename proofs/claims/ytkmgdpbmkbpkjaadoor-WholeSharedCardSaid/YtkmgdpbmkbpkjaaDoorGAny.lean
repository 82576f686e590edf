/-
  limb.load, told by numbers: the five limbs of a number below 2^256.
  limb's element.times, told by numbers.
  limb's element.store, told by numbers.
  limb.Reduce, limb.Zero, limb.Mul, told by numbers.
  limb.Reduce, limb.Zero, told by numbers.
  limb.Inv, told by numbers: a to the power of p - 2.
  Plain laws of numbers modulo 2^255 - 19: inverses, zero, opposites. No program.
-/
import Derived.Test.YtkmgdpbmkbpkjaaDoorLoad
import Derived.Test.YtkmgdpbmkbpkjaaDoorGNum
import Derived.Test.YtkmgdpbmkbpkjaaDoorTimes
import Derived.Test.YtkmgdpbmkbpkjaaDoorStore
import Derived.Test.YtkmgdpbmkbpkjaaDoorGBase
set_option linter.unusedVariables false
set_option linter.unusedSimpArgs false
namespace Go.Proofs.YtkmgdpbmkbpkjaaDoor
open Go.RowKit

theorem c8_lit (n : Nat) : c8 n = #[.int .u8 ((n / 256 ^ 0 % 256 : Nat) : Int), .int .u8 ((n / 256 ^ 1 % 256 : Nat) : Int), .int .u8 ((n / 256 ^ 2 % 256 : Nat) : Int), .int .u8 ((n / 256 ^ 3 % 256 : Nat) : Int), .int .u8 ((n / 256 ^ 4 % 256 : Nat) : Int), .int .u8 ((n / 256 ^ 5 % 256 : Nat) : Int), .int .u8 ((n / 256 ^ 6 % 256 : Nat) : Int), .int .u8 ((n / 256 ^ 7 % 256 : Nat) : Int), .int .u8 ((n / 256 ^ 8 % 256 : Nat) : Int), .int .u8 ((n / 256 ^ 9 % 256 : Nat) : Int), .int .u8 ((n / 256 ^ 10 % 256 : Nat) : Int), .int .u8 ((n / 256 ^ 11 % 256 : Nat) : Int), .int .u8 ((n / 256 ^ 12 % 256 : Nat) : Int), .int .u8 ((n / 256 ^ 13 % 256 : Nat) : Int), .int .u8 ((n / 256 ^ 14 % 256 : Nat) : Int), .int .u8 ((n / 256 ^ 15 % 256 : Nat) : Int), .int .u8 ((n / 256 ^ 16 % 256 : Nat) : Int), .int .u8 ((n / 256 ^ 17 % 256 : Nat) : Int), .int .u8 ((n / 256 ^ 18 % 256 : Nat) : Int), .int .u8 ((n / 256 ^ 19 % 256 : Nat) : Int), .int .u8 ((n / 256 ^ 20 % 256 : Nat) : Int), .int .u8 ((n / 256 ^ 21 % 256 : Nat) : Int), .int .u8 ((n / 256 ^ 22 % 256 : Nat) : Int), .int .u8 ((n / 256 ^ 23 % 256 : Nat) : Int), .int .u8 ((n / 256 ^ 24 % 256 : Nat) : Int), .int .u8 ((n / 256 ^ 25 % 256 : Nat) : Int), .int .u8 ((n / 256 ^ 26 % 256 : Nat) : Int), .int .u8 ((n / 256 ^ 27 % 256 : Nat) : Int), .int .u8 ((n / 256 ^ 28 % 256 : Nat) : Int), .int .u8 ((n / 256 ^ 29 % 256 : Nat) : Int), .int .u8 ((n / 256 ^ 30 % 256 : Nat) : Int), .int .u8 ((n / 256 ^ 31 % 256 : Nat) : Int)] := rfl

theorem or_byte (x b : Nat) (hx : x < 72057594037927936) (hb : b < 256) : bits .or .u64 (IntKind.u64.wrap ((x : Int) * 256)) (IntKind.u64.wrap (b : Int)) = ((x * 256 + b : Nat) : Int) := by
  have e : ((x : Int) * 256) = ((x * 2 ^ 8 : Nat) : Int) := by omega
  rw [e, wrap_id _ (by omega), wrap_id _ (by omega)]
  exact or_add x 8 b hb (by omega)
theorem or_byte0 (b : Nat) (hb : b < 256) : bits .or .u64 0 (IntKind.u64.wrap (b : Int)) = (b : Int) := by
  rw [wrap_id _ (by omega)]
  have := u64_or_nat 0 b (by omega) (by omega)
  simpa using this
theorem wd_nat (h g f e d c b a : Nat) (hh : h < 256) (hg : g < 256) (hf : f < 256) (he : e < 256) (hd : d < 256) (hc : c < 256) (hb : b < 256) (ha : a < 256) :
    wd (h : Int) g f e d c b a = ((((((((h * 256 + g) * 256 + f) * 256 + e) * 256 + d) * 256 + c) * 256 + b) * 256 + a : Nat) : Int) := by
  unfold wd
  rw [or_byte0 h hh, or_byte _ g (by omega) hg, or_byte _ f (by omega) hf, or_byte _ e (by omega) he, or_byte _ d (by omega) hd, or_byte _ c (by omega) hc, or_byte _ b (by omega) hb, or_byte _ a (by omega) ha]
theorem word_bytes (n : Nat) : ((((((((n / 256 ^ 7 % 256) * 256 + n / 256 ^ 6 % 256) * 256 + n / 256 ^ 5 % 256) * 256 + n / 256 ^ 4 % 256) * 256 + n / 256 ^ 3 % 256) * 256 + n / 256 ^ 2 % 256) * 256 + n / 256 ^ 1 % 256) * 256 + n / 256 ^ 0 % 256) = n % 18446744073709551616 := by
  simp only [Nat.reducePow, Nat.div_one]
  omega
theorem wd_c8 (n i : Nat) : wd ((n / 256 ^ (8 * i + 7) % 256 : Nat) : Int) ((n / 256 ^ (8 * i + 6) % 256 : Nat) : Int) ((n / 256 ^ (8 * i + 5) % 256 : Nat) : Int) ((n / 256 ^ (8 * i + 4) % 256 : Nat) : Int)
    ((n / 256 ^ (8 * i + 3) % 256 : Nat) : Int) ((n / 256 ^ (8 * i + 2) % 256 : Nat) : Int) ((n / 256 ^ (8 * i + 1) % 256 : Nat) : Int) ((n / 256 ^ (8 * i + 0) % 256 : Nat) : Int) = ((wo n i : Nat) : Int) := by
  have m : ∀ x : Nat, x % 256 < 256 := fun x => Nat.mod_lt _ (by omega)
  rw [wd_nat _ _ _ _ _ _ _ _ (m _) (m _) (m _) (m _) (m _) (m _) (m _) (m _)]
  have e4 : (18446744073709551616 : Nat) ^ i = 256 ^ (8 * i) := by rw [Nat.pow_mul]
  unfold wo
  rw [e4, ← word_bytes (n / 256 ^ (8 * i))]
  simp only [Nat.pow_add, Nat.div_div_eq_div_mul]

theorem wo_lt (n i : Nat) : wo n i < 18446744073709551616 := Nat.mod_lt _ (by omega)
theorem two_words (a b k m : Nat) (ha : a < 18446744073709551616) (hb : b < 18446744073709551616) (hk : 2 ^ k * m = 18446744073709551616) (hk51 : k ≤ 51) (hm : 0 < m) :
    bits .and .u64 (bits .or .u64 ((a : Int) / (m : Int)) (IntKind.u64.wrap ((b : Int) * ((2 ^ k : Nat) : Int)))) 2251799813685247 = (((a / m + b * 2 ^ k) % 2251799813685248 : Nat) : Int) := by
  have e1 : ((a : Int) / (m : Int)) = ((a / m : Nat) : Int) := (Int.natCast_ediv a m).symm
  have e2 : ((b : Int) * ((2 ^ k : Nat) : Int)) = ((b * 2 ^ k : Nat) : Int) := (Int.natCast_mul b (2 ^ k)).symm
  have e3 : b * 2 ^ k % 18446744073709551616 = b % m * 2 ^ k := by
    rw [← hk, Nat.mul_comm b, Nat.mul_mod_mul_left, Nat.mul_comm]
  have l1 : a / m < 2 ^ k := by rw [Nat.div_lt_iff_lt_mul hm, hk]; exact ha
  have l2 : b % m < m := Nat.mod_lt _ hm
  have l3 : b % m * 2 ^ k + a / m < 18446744073709551616 := by
    have : (b % m + 1) * 2 ^ k ≤ m * 2 ^ k := Nat.mul_le_mul_right _ (by omega)
    rw [Nat.mul_comm m, hk, Nat.add_mul] at this
    omega
  rw [e1, e2, wrap_nat, e3, or_add' _ k _ l1 l3, and_mask _ l3]
  congr 1
  rw [← e3]
  obtain ⟨c, hc⟩ : ∃ c, (18446744073709551616 : Nat) = 2251799813685248 * c := ⟨8192, rfl⟩
  rw [Nat.add_mod, hc, Nat.mod_mod_of_dvd _ ⟨c, rfl⟩, ← Nat.add_mod, Nat.add_comm]

theorem limbs_of (n : Nat) (hn : n < 115792089237316195423570985008687907853269984665640564039457584007913129639936) :
    wo n 0 % 2251799813685248 = n % 2251799813685248 ∧
    (wo n 0 / 2251799813685248 + wo n 1 * 2 ^ 13) % 2251799813685248 = n / 2251799813685248 % 2251799813685248 ∧
    (wo n 1 / 274877906944 + wo n 2 * 2 ^ 26) % 2251799813685248 = n / 5070602400912917605986812821504 % 2251799813685248 ∧
    (wo n 2 / 33554432 + wo n 3 * 2 ^ 39) % 2251799813685248 = n / 11417981541647679048466287755595961091061972992 % 2251799813685248 ∧
    wo n 3 / 4096 = n / 25711008708143844408671393477458601640355247900524685364822016 := by
  obtain ⟨A, hA⟩ : ∃ A, A = wo n 0 := ⟨_, rfl⟩
  obtain ⟨B, hB⟩ : ∃ A, A = wo n 1 := ⟨_, rfl⟩
  obtain ⟨C, hC⟩ : ∃ A, A = wo n 2 := ⟨_, rfl⟩
  obtain ⟨D, hD⟩ : ∃ A, A = wo n 3 := ⟨_, rfl⟩
  have lA := wo_lt n 0
  have lB := wo_lt n 1
  have lC := wo_lt n 2
  have lD := wo_lt n 3
  have hV : n = A + 18446744073709551616 * B + 340282366920938463463374607431768211456 * C + 6277101735386680763835789423207666416102355444464034512896 * D := by
    rw [hA, hB, hC, hD]
    unfold wo
    simp only [Nat.reducePow, Nat.div_one]
    omega
  rw [← hA] at lA ⊢
  rw [← hB] at lB ⊢
  rw [← hC] at lC ⊢
  rw [← hD] at lD ⊢
  clear hA hB hC hD hn
  refine ⟨?_, ?_, ?_, ?_, ?_⟩
  · omega
  · omega
  · omega
  · omega
  · omega

/-- Limbs that hold a number modulo 2^255 - 19, each below 2^52. -/
def Elt (v : Value) (n : Nat) : Prop := ∃ a b c d e : Nat, v = .agg (c5 a b c d e) ∧ Hid (Lt52 a ∧ Lt52 b ∧ Lt52 c ∧ Lt52 d ∧ Lt52 e ∧ val5 a b c d e % p25 = n % p25)

theorem load_any (n : Nat) (hn : n < 115792089237316195423570985008687907853269984665640564039457584007913129639936) (w : World) :
    Calls Tryd.prog 40 #[.agg (c8 n)] w fun e w' => ∃ a b c d f : Nat, e = .returned (.agg (c5 a b c d f)) ∧ Hid (Lt52 a ∧ Lt52 b ∧ Lt52 c ∧ Lt52 d ∧ Lt52 f ∧ val5 a b c d f = n) ∧ Below w.heap.size w w' := by
  rw [c8_lit]
  refine (load_raw ((n / 256 ^ 0 % 256 : Nat) : Int) ((n / 256 ^ 1 % 256 : Nat) : Int) ((n / 256 ^ 2 % 256 : Nat) : Int) ((n / 256 ^ 3 % 256 : Nat) : Int) ((n / 256 ^ 4 % 256 : Nat) : Int) ((n / 256 ^ 5 % 256 : Nat) : Int) ((n / 256 ^ 6 % 256 : Nat) : Int) ((n / 256 ^ 7 % 256 : Nat) : Int) ((n / 256 ^ 8 % 256 : Nat) : Int) ((n / 256 ^ 9 % 256 : Nat) : Int) ((n / 256 ^ 10 % 256 : Nat) : Int) ((n / 256 ^ 11 % 256 : Nat) : Int) ((n / 256 ^ 12 % 256 : Nat) : Int) ((n / 256 ^ 13 % 256 : Nat) : Int) ((n / 256 ^ 14 % 256 : Nat) : Int) ((n / 256 ^ 15 % 256 : Nat) : Int) ((n / 256 ^ 16 % 256 : Nat) : Int) ((n / 256 ^ 17 % 256 : Nat) : Int) ((n / 256 ^ 18 % 256 : Nat) : Int) ((n / 256 ^ 19 % 256 : Nat) : Int) ((n / 256 ^ 20 % 256 : Nat) : Int) ((n / 256 ^ 21 % 256 : Nat) : Int) ((n / 256 ^ 22 % 256 : Nat) : Int) ((n / 256 ^ 23 % 256 : Nat) : Int) ((n / 256 ^ 24 % 256 : Nat) : Int) ((n / 256 ^ 25 % 256 : Nat) : Int) ((n / 256 ^ 26 % 256 : Nat) : Int) ((n / 256 ^ 27 % 256 : Nat) : Int) ((n / 256 ^ 28 % 256 : Nat) : Int) ((n / 256 ^ 29 % 256 : Nat) : Int) ((n / 256 ^ 30 % 256 : Nat) : Int) ((n / 256 ^ 31 % 256 : Nat) : Int) w).mono fun e w' ⟨W0, W1, W2, W3, h0, h1, h2, h3, he, hb⟩ => ?_
  rw [wd_c8 n 0] at h0
  rw [wd_c8 n 1] at h1
  rw [wd_c8 n 2] at h2
  rw [wd_c8 n 3] at h3
  subst h0 h1 h2 h3
  have k1 := two_words (wo n 0) (wo n 1) 13 2251799813685248 (wo_lt _ _) (wo_lt _ _) (by decide) (by omega) (by omega)
  have k2 := two_words (wo n 1) (wo n 2) 26 274877906944 (wo_lt _ _) (wo_lt _ _) (by decide) (by omega) (by omega)
  have k3 := two_words (wo n 2) (wo n 3) 39 33554432 (wo_lt _ _) (wo_lt _ _) (by decide) (by omega) (by omega)
  obtain ⟨l0, l1, l2, l3, l4⟩ := limbs_of n hn
  rw [l1] at k1
  rw [l2] at k2
  rw [l3] at k3
  have k4 : (((wo n 3 : Nat) : Int) / 4096) = ((n / 25711008708143844408671393477458601640355247900524685364822016 : Nat) : Int) := by rw [← l4]; exact (Int.natCast_ediv _ 4096).symm
  have k0 := and_mask (wo n 0) (wo_lt n 0)
  rw [l0] at k0
  refine ⟨n % 2251799813685248, n / 2251799813685248 % 2251799813685248, n / 5070602400912917605986812821504 % 2251799813685248, n / 11417981541647679048466287755595961091061972992 % 2251799813685248, n / 25711008708143844408671393477458601640355247900524685364822016, ?_, ?_, hb⟩
  · rw [he]
    unfold c5
    rw [k0, k4]
    refine congrArg _ (congrArg _ ?_)
    rw [← k1, ← k2, ← k3]
    rfl
  · unfold Hid Lt52 val5
    refine ⟨?_, ?_, ?_, ?_, ?_, ?_⟩
    · omega
    · omega
    · omega
    · omega
    · omega
    · omega
end Go.Proofs.YtkmgdpbmkbpkjaaDoor
set_option linter.unusedVariables false
set_option linter.unusedSimpArgs false
namespace Go.Proofs.YtkmgdpbmkbpkjaaDoor
open Go.RowKit

theorem prod_split (E0 E1 E2 E3 E4 F0 F1 F2 F3 F4 : Nat) : val5 E0 E1 E2 E3 E4 * val5 F0 F1 F2 F3 F4 =
    val5 (Sm0 E0 E1 E2 E3 E4 F0 F1 F2 F3 F4) (Sm1 E0 E1 E2 E3 E4 F0 F1 F2 F3 F4) (Sm2 E0 E1 E2 E3 E4 F0 F1 F2 F3 F4) (Sm3 E0 E1 E2 E3 E4 F0 F1 F2 F3 F4) (Sm4 E0 E1 E2 E3 E4 F0 F1 F2 F3 F4) +
    p25 * (E1 * F4 + E2 * F3 + E3 * F2 + E4 * F1 + (E2 * F4 + E3 * F3 + E4 * F2) * 2251799813685248 + (E3 * F4 + E4 * F3) * 5070602400912917605986812821504 + E4 * F4 * 11417981541647679048466287755595961091061972992) := by
  unfold Sm0 Sm1 Sm2 Sm3 Sm4 val5 p25
  grind

theorem carries {S0 S1 S2 S3 S4 c1 c2 c3 c4 c5 z0 z1 z2 z3 z4 : Nat}
    (h : c1 = S0 / 2251799813685248 ∧ c2 = (S1 + c1) / 2251799813685248 ∧ c3 = (S2 + c2) / 2251799813685248 ∧ c4 = (S3 + c3) / 2251799813685248 ∧ c5 = (S4 + c4) / 2251799813685248)
    (h0 : z0 = (c5 * 19 + S0 % 2251799813685248) % 2251799813685248) (h1 : z1 = (S1 + c1) % 2251799813685248 + (c5 * 19 + S0 % 2251799813685248) / 2251799813685248)
    (h2 : z2 = (S2 + c2) % 2251799813685248) (h3 : z3 = (S3 + c3) % 2251799813685248) (h4 : z4 = (S4 + c4) % 2251799813685248) :
    val5 z0 z1 z2 z3 z4 + c5 * p25 = val5 S0 S1 S2 S3 S4 := by
  unfold val5 p25
  omega

theorem times_any (E0 E1 E2 E3 E4 F0 F1 F2 F3 F4 : Nat) (w : World)
    (he : Lt52 E0 ∧ Lt52 E1 ∧ Lt52 E2 ∧ Lt52 E3 ∧ Lt52 E4) (hf : Lt52 F0 ∧ Lt52 F1 ∧ Lt52 F2 ∧ Lt52 F3 ∧ Lt52 F4) :
    Calls Tryd.prog 55 #[.agg (c5 E0 E1 E2 E3 E4), .agg (c5 F0 F1 F2 F3 F4)] w fun e w' => ∃ a b c d f : Nat, e = .returned (.agg (c5 a b c d f)) ∧
      Hid (Lt52 a ∧ Lt52 b ∧ Lt52 c ∧ Lt52 d ∧ Lt52 f ∧ val5 a b c d f % p25 = val5 E0 E1 E2 E3 E4 * val5 F0 F1 F2 F3 F4 % p25) ∧ Below w.heap.size w w' := by
  obtain ⟨e0, e1, e2, e3, e4⟩ := he
  obtain ⟨f0, f1, f2, f3, f4⟩ := hf
  refine (times_raw (E0 : Int) E1 E2 E3 E4 F0 F1 F2 F3 F4 E0 E1 E2 E3 E4 F0 F1 F2 F3 F4 w ⟨rfl, e0⟩ ⟨rfl, e1⟩ ⟨rfl, e2⟩ ⟨rfl, e3⟩ ⟨rfl, e4⟩ ⟨rfl, f0⟩ ⟨rfl, f1⟩ ⟨rfl, f2⟩ ⟨rfl, f3⟩ ⟨rfl, f4⟩).mono
    fun e w' ⟨z0, z1, z2, z3, z4, r0, r1, r2, r3, r4, hz, hc, he, hb⟩ => ⟨r0, r1, r2, r3, r4, he, ?_, hb⟩
  obtain ⟨S0, S1, S2, S3, S4, c1, c2, c3, c4, c5, ⟨s0, s1, s2, s3, s4⟩, hk, h5, k0, k1, k2, k3, k4⟩ := hz.out
  have hc := hc.out
  have hv := carries hk k0 k1 k2 k3 k4
  have b : Lt63 z0 ∧ Lt63 z1 ∧ Lt63 z2 ∧ Lt63 z3 ∧ Lt63 z4 := by
    unfold Lt63
    refine ⟨?_, ?_, ?_, ?_, ?_⟩
    · omega
    · omega
    · omega
    · omega
    · omega
  have sm := hc.small b.2.2.2.1 b.2.2.1 b.2.1 b.1 b.2.2.2.2
  refine ⟨?_, ?_, ?_, ?_, ?_, ?_⟩
  · unfold Lt52; omega
  · unfold Lt52; omega
  · unfold Lt52; omega
  · unfold Lt52; omega
  · unfold Lt52; omega
  · rw [hc.mod, prod_split, ← s0, ← s1, ← s2, ← s3, ← s4, Nat.add_mul_mod_self_left, ← hv, Nat.add_mul_mod_self_right]
end Go.Proofs.YtkmgdpbmkbpkjaaDoor
set_option linter.unusedVariables false
set_option linter.unusedSimpArgs false
namespace Go.Proofs.YtkmgdpbmkbpkjaaDoor
open Go.RowKit

theorem St.val {s0 s1 s2 s3 s4 u0 u1 u2 u3 u4 : Nat} (h0 : s0 < 2251799813685248) (h1 : s1 < 2251799813685248) (h2 : s2 < 2251799813685248) (h3 : s3 < 2251799813685248) (h4 : s4 ≤ 2251799813685248)
    (h : St s0 s1 s2 s3 s4 u0 u1 u2 u3 u4) : val5 u0 u1 u2 u3 u4 = val5 s0 s1 s2 s3 s4 % p25 := by
  obtain ⟨q0, q1, q2, q3, q4, t0, t1, t2, t3, t4, ⟨a0, a1, a2, a3, a4⟩, ⟨b0, b1, b2, b3, b4⟩, ⟨c0, c1, c2, c3, c4⟩⟩ := h
  obtain ⟨V, hV⟩ : ∃ V, V = val5 s0 s1 s2 s3 s4 := ⟨_, rfl⟩
  have hq : q4 = (V + 19) / 57896044618658097711785492504343953926634992332820282019728792003956564819968 := by
    rw [hV]; unfold val5; omega
  have hu : val5 u0 u1 u2 u3 u4 = (V + 19 * q4) % 57896044618658097711785492504343953926634992332820282019728792003956564819968 := by
    rw [hV]; unfold val5; omega
  have hlt : V < 2 * p25 := by rw [hV]; unfold val5 p25; omega
  rw [hu, ← hV]
  clear hu hV a0 a1 a2 a3 a4 b0 b1 b2 b3 b4 c0 c1 c2 c3 c4
  unfold p25 at *
  by_cases hp : V < 57896044618658097711785492504343953926634992332820282019728792003956564819949
  · have q0 : q4 = 0 := by omega
    subst q0
    rw [Nat.mod_eq_of_lt hp, Nat.mul_zero, Nat.add_zero, Nat.mod_eq_of_lt (by omega)]
  · have q1 : q4 = 1 := by omega
    subst q1
    obtain ⟨X, rfl⟩ : ∃ X, V = X + 57896044618658097711785492504343953926634992332820282019728792003956564819949 := ⟨V - 57896044618658097711785492504343953926634992332820282019728792003956564819949, by omega⟩
    rw [Nat.add_mod_right, Nat.mod_eq_of_lt (show X < 57896044618658097711785492504343953926634992332820282019728792003956564819949 by omega)]
    rw [show X + 57896044618658097711785492504343953926634992332820282019728792003956564819949 + 19 * 1 = X + 57896044618658097711785492504343953926634992332820282019728792003956564819968 by omega, Nat.add_mod_right, Nat.mod_eq_of_lt (by omega)]

theorem store_any (e0 e1 e2 e3 e4 : Nat) (b0 : Lt63 e0) (b1 : Lt63 e1) (b2 : Lt63 e2) (b3 : Lt63 e3) (b4 : Lt63 e4) (w : World) :
    Calls Tryd.prog 41 #[.agg (c5 e0 e1 e2 e3 e4)] w fun e w' => e = .returned (.agg (c8 (val5 e0 e1 e2 e3 e4 % p25))) ∧ Below w.heap.size w w' := by
  refine (store_raw e0 e1 e2 e3 e4 b0 b1 b2 b3 b4 w).mono fun e w' ⟨u0, u1, u2, u3, u4, hs, he, hb⟩ => ⟨?_, hb⟩
  obtain ⟨r0, r1, r2, r3, r4, s0, s1, s2, s3, s4, h1, h2, h3⟩ := hs.out
  obtain ⟨t0, t1, t2, t3, t4⟩ := Car.top b0 b1 b2 b3 b4 h1 h2
  rw [he, h3.val t0 t1 t2 t3 t4, h2.mod, h1.mod]
end Go.Proofs.YtkmgdpbmkbpkjaaDoor
set_option linter.unusedVariables false
set_option linter.unusedSimpArgs false
namespace Go.Proofs.YtkmgdpbmkbpkjaaDoor
open Go.RowKit

theorem Lt52.five {a b c d e n : Nat} (h : Hid (Lt52 a ∧ Lt52 b ∧ Lt52 c ∧ Lt52 d ∧ Lt52 e ∧ val5 a b c d e = n)) : Lt52 a ∧ Lt52 b ∧ Lt52 c ∧ Lt52 d ∧ Lt52 e := ⟨h.out.1, h.out.2.1, h.out.2.2.1, h.out.2.2.2.1, h.out.2.2.2.2.1⟩
theorem Lt52.up {a : Nat} (h : Lt52 a) : Lt63 a := by unfold Lt52 at h; unfold Lt63; omega

/-- Two numbers' boxes, and the place of the answer. -/
def S3 (w : World) (a b : Nat) (w' : World) : Prop := Bk w' w.heap.size 22 (c8 a) ∧ Bk w' (w.heap.size + 1) 22 (c8 b) ∧ (∃ z, z.size = 32 ∧ Bk w' (w.heap.size + 1 + 1) 22 z) ∧ Below w.heap.size w w'
theorem S3.start (w : World) (a b : Nat) : S3 w a b (((w.alloc (.cells (c8 a) 22)).alloc (.cells (c8 b) 22)).alloc (.cells (c8p 0 0) 22)).drew := by
  refine ⟨?_, ?_, ?_, ?_⟩
  · repeat (first | (refine Bk.at_ _ _ _ _ ?_; simp; done) | refine Bk.drew ?_ | refine Bk.alloc ?_ _)
  · repeat (first | (refine Bk.at_ _ _ _ _ ?_; simp; done) | refine Bk.drew ?_ | refine Bk.alloc ?_ _)
  · refine ⟨c8p 0 0, size_c8p _ _, ?_⟩
    repeat (first | (refine Bk.at_ _ _ _ _ ?_; simp; done) | refine Bk.drew ?_ | refine Bk.alloc ?_ _)
  · repeat (first | exact Below.refl _ _ | assumption | refine Below.drew ?_ | refine bl_alloc ?_ _ | refine bl_drewN ?_ _)
theorem S3.call {w : World} {a b : Nat} {w1 w2 : World} (h : S3 w a b w1) (hb : Below w1.heap.size w1 w2) : S3 w a b w2 :=
  ⟨h.1.under hb, h.2.1.under hb, ⟨h.2.2.1.choose, h.2.2.1.choose_spec.1, h.2.2.1.choose_spec.2.under hb⟩, bl_call h.2.2.2 hb⟩
theorem S3.there {w : World} {a b : Nat} {w1 : World} (h : S3 w a b w1) (r : Nat) : w1.there (w.heap.size + 1 + 1) 0 (c8 r).size := by
  obtain ⟨z, hz, hk⟩ := h.2.2.1
  have := hk.there
  rwa [hz, ← size_c8 r] at this
theorem S3.answer {w : World} {a b : Nat} {w1 : World} (h : S3 w a b w1) (r : Nat) : Bk (w1.setCells (w.heap.size + 1 + 1) 0 (c8 r).toList) (w.heap.size + 1 + 1) 22 (c8 r) := by
  obtain ⟨z, hz, hk⟩ := h.2.2.1
  exact hk.all (by rw [hz, size_c8])
theorem S3.store {w : World} {a b : Nat} {w1 : World} (h : S3 w a b w1) (r : Nat) : S3 w a b (w1.setCells (w.heap.size + 1 + 1) 0 (c8 r).toList) :=
  ⟨Bk.offs (by omega) _ _ _ h.1, Bk.offs (by omega) _ _ _ h.2.1, ⟨c8 r, size_c8 r, h.answer r⟩, bl_cells (by omega) _ _ _ h.2.2.2⟩

theorem S3.alloc {w : World} {a b : Nat} {w1 : World} (h : S3 w a b w1) (o : Obj) : S3 w a b (w1.alloc o) :=
  ⟨h.1.alloc o, h.2.1.alloc o, ⟨h.2.2.1.choose, h.2.2.1.choose_spec.1, h.2.2.1.choose_spec.2.alloc o⟩, bl_alloc h.2.2.2 o⟩
theorem S3.drew {w : World} {a b : Nat} {w1 : World} (h : S3 w a b w1) : S3 w a b w1.drew := ⟨h.1, h.2.1, h.2.2.1, h.2.2.2.drew⟩
theorem S3.room {w : World} {a b : Nat} {w1 : World} (h : S3 w a b w1) : w.heap.size + 1 + 1 < w1.heap.size := h.2.2.1.choose_spec.2.lt
theorem S3.cells {w : World} {a b : Nat} {w1 : World} (h : S3 w a b w1) {g : Nat} (hg : w.heap.size + 1 + 1 < g) (l : List Value) : S3 w a b (w1.setCells g 0 l) :=
  ⟨Bk.offs (by omega) _ _ _ h.1, Bk.offs (by omega) _ _ _ h.2.1, ⟨h.2.2.1.choose, h.2.2.1.choose_spec.1, Bk.offs (by omega) _ _ _ h.2.2.1.choose_spec.2⟩, bl_cells (by omega) _ _ _ h.2.2.2⟩
theorem S3.put {w : World} {a b : Nat} {w1 : World} (h : S3 w a b w1) {g : Nat} (hg : w.heap.size + 1 + 1 < g) (i : Nat) (u : Value) : S3 w a b (w1.setCell ⟨g, i, none⟩ u) :=
  ⟨h.1.off (by omega) _ _, h.2.1.off (by omega) _ _, ⟨h.2.2.1.choose, h.2.2.1.choose_spec.1, h.2.2.1.choose_spec.2.off (by omega) _ _⟩, bl_put h.2.2.2 (by omega) _⟩

set_option maxRecDepth 100000 in
set_option maxHeartbeats 1000000 in
theorem mul_any (a b : Nat) (ha : N256 a) (hb : N256 b) (w : World) :
    Calls Tryd.prog 38 #[.agg (c8 a), .agg (c8 b)] w fun e w' => e = .returned (.agg (c8 (a * b % p25))) ∧ Below w.heap.size w w' := by
  go_enter Tryd.func38, Tryd.ntmps38
  go_wp2_with fail
  rw [← c8p_zero 0]
  refine held_start (S3 w a b) (by kernel_rfl) (S3.start w a b) fun hS => ?_
  refine held_row 0 (c8 a) rfl (by kernel_rfl) (by kernel_rfl) (by kernel_rfl) (fun _ _ _ h => h) rfl 22 (.tmp 2) rfl w.heap.size rfl 22 _ (fun _ h => h.1) Tryd.underlying22 rfl (inum_c8 a) hS ?_
  refine held_row 2 (c8 b) rfl (by kernel_rfl) (by kernel_rfl) (by kernel_rfl) (fun _ _ _ h => h) rfl 22 (.tmp 3) rfl (w.heap.size + 1) rfl 22 _ (fun _ h => h.2.1) Tryd.underlying22 rfl (inum_c8 b) hS ?_
  refine held_one 1 (by kernel_rfl) rfl rfl fun K hK => ?_
  (try simp only [Act.put, List.setIfInBounds_toArray, List.set_cons_zero, List.set_cons_succ])
  go_wp2_with fail
  refine (load_any _ ha _).mono ?_
  rintro e w1 ⟨x0, x1, x2, x3, x4, rfl, hx, hbl⟩
  refine hK _ _ (hS.call hbl) ?_
  have hS1 := hS.call hbl
  clear hK K hbl hS
  refine held_one 3 (by kernel_rfl) rfl rfl fun K hK => ?_
  (try simp only [Act.put, List.setIfInBounds_toArray, List.set_cons_zero, List.set_cons_succ])
  go_wp2_with fail
  refine (load_any _ hb _).mono ?_
  rintro e w2 ⟨y0, y1, y2, y3, y4, rfl, hy, hbl⟩
  refine hK _ _ (hS1.call hbl) ?_
  have hS2 := hS1.call hbl
  clear hK K hbl hS1
  refine held_one 4 (by kernel_rfl) rfl rfl fun K hK => ?_
  (try simp only [Act.put, List.setIfInBounds_toArray, List.set_cons_zero, List.set_cons_succ])
  go_wp2_with fail
  refine (times_any _ _ _ _ _ _ _ _ _ _ _ (Lt52.five hx) (Lt52.five hy)).mono ?_
  rintro e w3 ⟨z0, z1, z2, z3, z4, rfl, hz, hbl⟩
  refine hK _ _ (hS2.call hbl) ?_
  have hS3 := hS2.call hbl
  clear hK K hbl hS2
  refine held_one 5 (by kernel_rfl) rfl rfl fun K hK => ?_
  (try simp only [Act.put, List.setIfInBounds_toArray, List.set_cons_zero, List.set_cons_succ])
  go_wp2_with fail
  refine (store_any z0 z1 z2 z3 z4 hz.out.1.up hz.out.2.1.up hz.out.2.2.1.up hz.out.2.2.2.1.up hz.out.2.2.2.2.1.up _).mono ?_
  rintro e w4 ⟨rfl, hbl⟩
  refine hK _ _ (hS3.call hbl) ?_
  have hS4 := hS3.call hbl
  clear hK K hbl hS3
  have hv : val5 z0 z1 z2 z3 z4 % p25 = a * b % p25 := by
    rw [hz.out.2.2.2.2.2, hx.out.2.2.2.2.2, hy.out.2.2.2.2.2]
  rw [hv]
  clear hv hx hy hz
  refine held_one 6 (by kernel_rfl) rfl rfl fun K hK => ?_
  refine wp_store_mid 22 (.tmp 4) (.tmp 10) rfl (w.heap.size + 1 + 1) 0 (c8 (a * b % p25)) rfl rfl (hS4.there _) (inum_c8 _) (one_c8 _) ?_
  refine hK _ _ (hS4.store _) ?_
  refine wpAnyH_done (by kernel_rfl) ?_ _
  (try simp only [Act.put, List.setIfInBounds_toArray, List.set_cons_zero, List.set_cons_succ])
  go_wp2_with fail
  refine bodyPost_ret (results_cell_row rfl _ _ (w.heap.size + 1 + 1) 22 (c8 (a * b % p25)) (0, 0) _ rfl (hS4.answer _) Tryd.underlying22 rfl (inum_c8 _)) rfl ?_
  exact ⟨rfl, (hS4.store _).2.2.2⟩
end Go.Proofs.YtkmgdpbmkbpkjaaDoor
set_option linter.unusedVariables false
set_option linter.unusedSimpArgs false
namespace Go.Proofs.YtkmgdpbmkbpkjaaDoor
open Go.RowKit

theorem bk_1 (w : World) (t : TypeId) (c : Array Value) (o : Obj) : Bk ((w.alloc (.cells c t)).alloc o) w.heap.size t c := (Bk.new w t c).alloc o
theorem bk_2 (w : World) (t : TypeId) (c : Array Value) (o : Obj) : Bk ((w.alloc o).alloc (.cells c t)) (w.heap.size + 1) t c := Bk.at_ _ _ _ _ (by simp)
theorem N256.mod (n : Nat) : N256 (n % p25) := by unfold N256 p25; omega

set_option maxRecDepth 100000 in
set_option maxHeartbeats 1000000 in
theorem reduce_any (n : Nat) (hn : N256 n) (w : World) :
    Calls Tryd.prog 22 #[.agg (c8 n)] w fun e w' => e = .returned (.agg (c8 (n % p25))) ∧ Below w.heap.size w w' := by
  go_enter Tryd.func22, Tryd.ntmps22
  go_wp2_with (refine wpList_load_row rfl 22 (.tmp 1) rfl w.heap.size rfl 22 (c8 n) (0, 0) _ (bk_1 _ _ _ _) Tryd.underlying22 rfl (inum_c8 n) ?_)
  rw [← c8p_zero 0]
  refine (load_any n hn _).mono ?_
  rintro e w1 ⟨x0, x1, x2, x3, x4, rfl, hx, hbl⟩
  have q := (bk_2 _ _ _ _).under hbl
  have L := bl_call (bl_alloc (bl_alloc (Below.refl w.heap.size w) _) _) hbl
  clear hbl
  have hv := hx.out.2.2.2.2.2
  have l0 := hx.out.1.up
  have l1 := hx.out.2.1.up
  have l2 := hx.out.2.2.1.up
  have l3 := hx.out.2.2.2.1.up
  have l4 := hx.out.2.2.2.2.1.up
  have HV := Lib.hid hv
  clear hx hv
  go_wp2_with fail
  refine (store_any x0 x1 x2 x3 x4 l0 l1 l2 l3 l4 _).mono ?_
  rintro e w2 ⟨rfl, hbl⟩
  have q2 := q.under hbl
  have L2 := bl_call L hbl
  clear hbl q L
  have hv := HV.out
  rw [hv]
  clear hv
  have hth : w2.there (w.heap.size + 1) 0 (c8 (n % p25)).size := by rw [size_c8, ← size_c8p 0 0]; exact q2.there
  go_wp2_with (refine wpList_store_mid rfl 22 (.tmp 2) (.tmp 5) rfl (w.heap.size + 1) 0 (c8 (n % p25)) rfl rfl hth (inum_c8 _) (one_c8 _) ?_)
  refine bodyPost_ret (results_cell_row rfl _ _ (w.heap.size + 1) 22 (c8 (n % p25)) (0, 0) _ rfl (q2.all (by rw [size_c8, size_c8p])) Tryd.underlying22 rfl (inum_c8 _)) rfl ?_
  exact ⟨rfl, bl_cells (by omega) _ _ _ L2⟩

end Go.Proofs.YtkmgdpbmkbpkjaaDoor
set_option linter.unusedVariables false
set_option linter.unusedSimpArgs false
namespace Go.Proofs.YtkmgdpbmkbpkjaaDoor
open Go.RowKit

/-- The exponent behind the bits down to the i-th. -/
def exq (i : Nat) : Nat := 57896044618658097711785492504343953926634992332820282019728792003956564819947 / 2 ^ i
theorem exq_step : ∀ i, i < 255 → exq i = 2 * exq (i + 1) + (if i = 2 ∨ i = 4 then 0 else 1) := by decide +kernel
/-- p - 2. -/
@[irreducible] def eInv : Nat := 57896044618658097711785492504343953926634992332820282019728792003956564819947
theorem eInv_val : eInv = 57896044618658097711785492504343953926634992332820282019728792003956564819947 := by unfold eInv; rfl
theorem exq_fin : exq ((-1 : Int) + 1).toNat = eInv := by rw [eInv_val]; decide +kernel
/-- a to the power of p - 2, modulo p. -/
def pinv (a : Nat) : Nat := a ^ eInv % p25
/-- Limbs that hold a to the power of what is under way before the i-th bit. -/
def InvAt (a : Nat) (i : Int) (r0 r1 r2 r3 r4 : Nat) : Prop := Lt52 r0 ∧ Lt52 r1 ∧ Lt52 r2 ∧ Lt52 r3 ∧ Lt52 r4 ∧ val5 r0 r1 r2 r3 r4 % p25 = a ^ exq (i + 1).toNat % p25

theorem InvAt.start (a : Nat) : InvAt a 254 1 0 0 0 0 := by
  refine ⟨by unfold Lt52; omega, by unfold Lt52; omega, by unfold Lt52; omega, by unfold Lt52; omega, by unfold Lt52; omega, ?_⟩
  have : exq ((254 : Int) + 1).toNat = 0 := by decide +kernel
  rw [this]
  rfl
theorem InvAt.fin {a r0 r1 r2 r3 r4 : Nat} (h : InvAt a (-1) r0 r1 r2 r3 r4) : val5 r0 r1 r2 r3 r4 % p25 = pinv a := by
  rw [h.2.2.2.2.2, exq_fin]
  rfl
theorem InvAt.sq {a r0 r1 r2 r3 r4 s0 s1 s2 s3 s4 : Nat} {i : Int} (h0 : 0 ≤ i) (hi : i ≤ 254) (h24 : i = 2 ∨ i = 4) (h : InvAt a i r0 r1 r2 r3 r4)
    (hs : Lt52 s0 ∧ Lt52 s1 ∧ Lt52 s2 ∧ Lt52 s3 ∧ Lt52 s4 ∧ val5 s0 s1 s2 s3 s4 % p25 = val5 r0 r1 r2 r3 r4 * val5 r0 r1 r2 r3 r4 % p25) : InvAt a (i - 1) s0 s1 s2 s3 s4 := by
  refine ⟨hs.1, hs.2.1, hs.2.2.1, hs.2.2.2.1, hs.2.2.2.2.1, ?_⟩
  obtain ⟨n, rfl⟩ := Int.eq_ofNat_of_zero_le h0
  have e := exq_step n (by omega)
  rw [if_pos (by omega)] at e
  rw [hs.2.2.2.2.2, Nat.mul_mod, h.2.2.2.2.2, show ((n : Int) + 1).toNat = n + 1 by omega, show ((n : Int) - 1 + 1).toNat = n by omega, e, ← Nat.mul_mod, ← Nat.pow_add]
  congr 2
  omega
theorem InvAt.mul {a x0 x1 x2 x3 x4 r0 r1 r2 r3 r4 s0 s1 s2 s3 s4 t0 t1 t2 t3 t4 : Nat} {i : Int} (h0 : 0 ≤ i) (hi : i ≤ 254) (h2 : i ≠ 2) (h4 : i ≠ 4) (h : InvAt a i r0 r1 r2 r3 r4)
    (hs : Lt52 s0 ∧ Lt52 s1 ∧ Lt52 s2 ∧ Lt52 s3 ∧ Lt52 s4 ∧ val5 s0 s1 s2 s3 s4 % p25 = val5 r0 r1 r2 r3 r4 * val5 r0 r1 r2 r3 r4 % p25) (hx : val5 x0 x1 x2 x3 x4 = a)
    (ht : Lt52 t0 ∧ Lt52 t1 ∧ Lt52 t2 ∧ Lt52 t3 ∧ Lt52 t4 ∧ val5 t0 t1 t2 t3 t4 % p25 = val5 s0 s1 s2 s3 s4 * val5 x0 x1 x2 x3 x4 % p25) : InvAt a (i - 1) t0 t1 t2 t3 t4 := by
  refine ⟨ht.1, ht.2.1, ht.2.2.1, ht.2.2.2.1, ht.2.2.2.2.1, ?_⟩
  obtain ⟨n, rfl⟩ := Int.eq_ofNat_of_zero_le h0
  have e := exq_step n (by omega)
  rw [if_neg (by omega)] at e
  have k : val5 s0 s1 s2 s3 s4 % p25 = a ^ (2 * exq (n + 1)) % p25 := by
    rw [hs.2.2.2.2.2, Nat.mul_mod, h.2.2.2.2.2, show ((n : Int) + 1).toNat = n + 1 by omega, ← Nat.mul_mod, ← Nat.pow_add]
    congr 2
    omega
  rw [ht.2.2.2.2.2, Nat.mul_mod, k, show ((n : Int) - 1 + 1).toNat = n by omega, e, hx, ← Nat.mul_mod, ← Nat.pow_succ]
theorem InvAt.five {a r0 r1 r2 r3 r4 : Nat} {i : Int} (h : InvAt a i r0 r1 r2 r3 r4) : Lt52 r0 ∧ Lt52 r1 ∧ Lt52 r2 ∧ Lt52 r3 ∧ Lt52 r4 := ⟨h.1, h.2.1, h.2.2.1, h.2.2.2.1, h.2.2.2.2.1⟩
theorem five_of {r0 r1 r2 r3 r4 : Nat} {p : Prop} (h : Lt52 r0 ∧ Lt52 r1 ∧ Lt52 r2 ∧ Lt52 r3 ∧ Lt52 r4 ∧ p) : Lt52 r0 ∧ Lt52 r1 ∧ Lt52 r2 ∧ Lt52 r3 ∧ Lt52 r4 := ⟨h.1, h.2.1, h.2.2.1, h.2.2.2.1, h.2.2.2.2.1⟩

set_option maxRecDepth 100000 in
set_option maxHeartbeats 4000000 in
theorem inv_any (a : Nat) (ha : N256 a) (w : World) :
    Calls Tryd.prog 39 #[.agg (c8 a)] w fun e w' => e = .returned (.agg (c8 (pinv a))) ∧ Below w.heap.size w w' := by
  go_enter Tryd.func39, Tryd.ntmps39
  go_wp2_with (refine wpList_load_row rfl 22 (.tmp 1) rfl w.heap.size rfl 22 (c8 a) (0, 0) _ (bk_1 _ _ _ _) Tryd.underlying22 rfl (inum_c8 a) ?_)
  rw [← c8p_zero 0]
  refine (load_any a ha _).mono ?_
  rintro e w1 ⟨x0, x1, x2, x3, x4, rfl, hx, hbl⟩
  have q := (bk_2 _ _ _ _).under hbl
  have L := bl_call (bl_alloc (bl_alloc (Below.refl w.heap.size w) _) _) hbl
  have hq := q.lt
  clear hbl
  simp only [c5]
  go_wp2_with fail
  have hl1 := L.size
  go_loopw [5] (fun iv wr => ∃ (i : Int) (r0 r1 r2 r3 r4 : Nat), -1 ≤ i ∧ i ≤ 254 ∧ iv = .int .i64 i ∧ Hid (InvAt a i r0 r1 r2 r3 r4) ∧ Bk wr (w.heap.size + 1) 22 (c8p 0 0) ∧ Bk wr w1.heap.size 70 (c5 x0 x1 x2 x3 x4) ∧ Bk wr (w1.heap.size + 1) 70 (c5 r0 r1 r2 r3 r4) ∧ Below w.heap.size w wr) (fun iv _ => (intOf iv + 1).toNat)
  case atStart =>
    refine ⟨254, 1, 0, 0, 0, 0, by omega, by omega, rfl, InvAt.start a, (q.alloc _).alloc _, (Bk.new _ _ _).alloc _, Bk.at_ _ _ _ _ (by simp), bl_alloc (bl_alloc L _) _⟩
  case round =>
    clear q L
    obtain ⟨i, r0, r1, r2, r3, r4, hi0, hi1, rfl, hI, q2, q3, q4, L⟩ := hrel
    by_cases hlt : 0 ≤ i
    · have fz : ∀ j, wr.frozen? ⟨(w1.heap.size + 1), j, none⟩ = false := q4.frozen
      have c0 : wr.cell? ⟨(w1.heap.size + 1), 0, none⟩ = some (.int .u64 (r0 : Int)) := q4.cell 0
      have c1 : wr.cell? ⟨(w1.heap.size + 1), 1, none⟩ = some (.int .u64 (r1 : Int)) := q4.cell 1
      have c2 : wr.cell? ⟨(w1.heap.size + 1), 2, none⟩ = some (.int .u64 (r2 : Int)) := q4.cell 2
      have c3 : wr.cell? ⟨(w1.heap.size + 1), 3, none⟩ = some (.int .u64 (r3 : Int)) := q4.cell 3
      have c4 : wr.cell? ⟨(w1.heap.size + 1), 4, none⟩ = some (.int .u64 (r4 : Int)) := q4.cell 4
      go_wp2_with fail
      refine (times_any r0 r1 r2 r3 r4 r0 r1 r2 r3 r4 _ hI.out.five hI.out.five).mono ?_
      rintro e w2 ⟨s0, s1, s2, s3, s4, rfl, hs, hbl⟩
      have p2 := q2.under hbl
      have p3 := q3.under hbl
      have p4 := q4.under hbl
      have L2 := bl_call L hbl
      clear hbl q2 q3 q4 L fz c0 c1 c2 c3 c4
      simp only [c5]
      have fz : ∀ j, w2.frozen? ⟨(w1.heap.size + 1), j, none⟩ = false := p4.frozen
      have c0 : w2.cell? ⟨(w1.heap.size + 1), 0, none⟩ = some (.int .u64 (r0 : Int)) := p4.cell 0
      have c1 : w2.cell? ⟨(w1.heap.size + 1), 1, none⟩ = some (.int .u64 (r1 : Int)) := p4.cell 1
      have c2 : w2.cell? ⟨(w1.heap.size + 1), 2, none⟩ = some (.int .u64 (r2 : Int)) := p4.cell 2
      have c3 : w2.cell? ⟨(w1.heap.size + 1), 3, none⟩ = some (.int .u64 (r3 : Int)) := p4.cell 3
      have c4 : w2.cell? ⟨(w1.heap.size + 1), 4, none⟩ = some (.int .u64 (r4 : Int)) := p4.cell 4
      have o2 : Bk _ (w.heap.size + 1) 22 (c8p 0 0) := (Bk.off (Bk.off (Bk.off (Bk.off (Bk.off p2 (g' := (w1.heap.size + 1)) (by omega) 0 (.int .u64 (s0 : Int))) (g' := (w1.heap.size + 1)) (by omega) 1 (.int .u64 (s1 : Int))) (g' := (w1.heap.size + 1)) (by omega) 2 (.int .u64 (s2 : Int))) (g' := (w1.heap.size + 1)) (by omega) 3 (.int .u64 (s3 : Int))) (g' := (w1.heap.size + 1)) (by omega) 4 (.int .u64 (s4 : Int)))
      have o3 : Bk _ w1.heap.size 70 (c5 x0 x1 x2 x3 x4) := (Bk.off (Bk.off (Bk.off (Bk.off (Bk.off p3 (g' := (w1.heap.size + 1)) (by omega) 0 (.int .u64 (s0 : Int))) (g' := (w1.heap.size + 1)) (by omega) 1 (.int .u64 (s1 : Int))) (g' := (w1.heap.size + 1)) (by omega) 2 (.int .u64 (s2 : Int))) (g' := (w1.heap.size + 1)) (by omega) 3 (.int .u64 (s3 : Int))) (g' := (w1.heap.size + 1)) (by omega) 4 (.int .u64 (s4 : Int)))
      have o4 : Bk _ (w1.heap.size + 1) 70 (c5 s0 s1 s2 s3 s4) := (Bk.put (Bk.put (Bk.put (Bk.put (Bk.put p4 0 (.int .u64 (s0 : Int))) 1 (.int .u64 (s1 : Int))) 2 (.int .u64 (s2 : Int))) 3 (.int .u64 (s3 : Int))) 4 (.int .u64 (s4 : Int)))
      have L3 := (bl_put (bl_put (bl_put (bl_put (bl_put L2 (g := (w1.heap.size + 1)) (i := 0) (by omega) (.int .u64 (s0 : Int))) (g := (w1.heap.size + 1)) (i := 1) (by omega) (.int .u64 (s1 : Int))) (g := (w1.heap.size + 1)) (i := 2) (by omega) (.int .u64 (s2 : Int))) (g := (w1.heap.size + 1)) (i := 3) (by omega) (.int .u64 (s3 : Int))) (g := (w1.heap.size + 1)) (i := 4) (by omega) (.int .u64 (s4 : Int)))
      by_cases h24 : i = 2 ∨ i = 4
      · have fin := InvAt.sq hlt hi1 h24 hI.out hs.out
        clear p2 p3 p4 L2 hI hs
        rcases h24 with rfl | rfl
        all_goals
          go_wp2_with fail
          go_roundw
          case rel => exact ⟨_, s0, s1, s2, s3, s4, by omega, by omega, rfl, fin, o2, o3, o4, L3⟩
          case measure => simp [intOf]
      · have ne2 : (i != 2) = true := by rw [bne_iff_ne]; omega
        have ne4 : (i != 4) = true := by rw [bne_iff_ne]; omega
        have d0 : w2.cell? ⟨w1.heap.size, 0, none⟩ = some (.int .u64 (x0 : Int)) := p3.cell 0
        have d1 : w2.cell? ⟨w1.heap.size, 1, none⟩ = some (.int .u64 (x1 : Int)) := p3.cell 1
        have d2 : w2.cell? ⟨w1.heap.size, 2, none⟩ = some (.int .u64 (x2 : Int)) := p3.cell 2
        have d3 : w2.cell? ⟨w1.heap.size, 3, none⟩ = some (.int .u64 (x3 : Int)) := p3.cell 3
        have d4 : w2.cell? ⟨w1.heap.size, 4, none⟩ = some (.int .u64 (x4 : Int)) := p3.cell 4
        go_wp2_with fail
        refine (times_any s0 s1 s2 s3 s4 x0 x1 x2 x3 x4 _ (five_of hs.out) (five_of hx.out)).mono ?_
        rintro e w3 ⟨t0, t1, t2, t3, t4, rfl, ht, hbl⟩
        have fin := InvAt.mul hlt hi1 (fun h => h24 (Or.inl h)) (fun h => h24 (Or.inr h)) hI.out hs.out hx.out.2.2.2.2.2 ht.out
        have u2 := o2.under hbl
        have u3 := o3.under hbl
        have u4 := o4.under hbl
        have L4 := bl_call L3 hbl
        clear hbl p2 p3 p4 L2 hI hs ht o2 o3 o4 L3 fz c0 c1 c2 c3 c4 d0 d1 d2 d3 d4 ne2 ne4 h24
        simp only [c5]
        have fz : ∀ j, w3.frozen? ⟨(w1.heap.size + 1), j, none⟩ = false := u4.frozen
        have c0 : w3.cell? ⟨(w1.heap.size + 1), 0, none⟩ = some (.int .u64 (s0 : Int)) := u4.cell 0
        have c1 : w3.cell? ⟨(w1.heap.size + 1), 1, none⟩ = some (.int .u64 (s1 : Int)) := u4.cell 1
        have c2 : w3.cell? ⟨(w1.heap.size + 1), 2, none⟩ = some (.int .u64 (s2 : Int)) := u4.cell 2
        have c3 : w3.cell? ⟨(w1.heap.size + 1), 3, none⟩ = some (.int .u64 (s3 : Int)) := u4.cell 3
        have c4 : w3.cell? ⟨(w1.heap.size + 1), 4, none⟩ = some (.int .u64 (s4 : Int)) := u4.cell 4
        go_wp2_with fail
        go_roundw
        case rel => exact ⟨i - 1, t0, t1, t2, t3, t4, by omega, by omega, rfl, fin, (Bk.off (Bk.off (Bk.off (Bk.off (Bk.off u2 (g' := (w1.heap.size + 1)) (by omega) 0 (.int .u64 (t0 : Int))) (g' := (w1.heap.size + 1)) (by omega) 1 (.int .u64 (t1 : Int))) (g' := (w1.heap.size + 1)) (by omega) 2 (.int .u64 (t2 : Int))) (g' := (w1.heap.size + 1)) (by omega) 3 (.int .u64 (t3 : Int))) (g' := (w1.heap.size + 1)) (by omega) 4 (.int .u64 (t4 : Int))), (Bk.off (Bk.off (Bk.off (Bk.off (Bk.off u3 (g' := (w1.heap.size + 1)) (by omega) 0 (.int .u64 (t0 : Int))) (g' := (w1.heap.size + 1)) (by omega) 1 (.int .u64 (t1 : Int))) (g' := (w1.heap.size + 1)) (by omega) 2 (.int .u64 (t2 : Int))) (g' := (w1.heap.size + 1)) (by omega) 3 (.int .u64 (t3 : Int))) (g' := (w1.heap.size + 1)) (by omega) 4 (.int .u64 (t4 : Int))), (Bk.put (Bk.put (Bk.put (Bk.put (Bk.put u4 0 (.int .u64 (t0 : Int))) 1 (.int .u64 (t1 : Int))) 2 (.int .u64 (t2 : Int))) 3 (.int .u64 (t3 : Int))) 4 (.int .u64 (t4 : Int))), (bl_put (bl_put (bl_put (bl_put (bl_put L4 (g := (w1.heap.size + 1)) (i := 0) (by omega) (.int .u64 (t0 : Int))) (g := (w1.heap.size + 1)) (i := 1) (by omega) (.int .u64 (t1 : Int))) (g := (w1.heap.size + 1)) (i := 2) (by omega) (.int .u64 (t2 : Int))) (g := (w1.heap.size + 1)) (i := 3) (by omega) (.int .u64 (t3 : Int))) (g := (w1.heap.size + 1)) (i := 4) (by omega) (.int .u64 (t4 : Int)))⟩
        case measure => simp [intOf]; omega
    · obtain rfl : i = -1 := by omega
      have c0 : wr.cell? ⟨(w1.heap.size + 1), 0, none⟩ = some (.int .u64 (r0 : Int)) := q4.cell 0
      have c1 : wr.cell? ⟨(w1.heap.size + 1), 1, none⟩ = some (.int .u64 (r1 : Int)) := q4.cell 1
      have c2 : wr.cell? ⟨(w1.heap.size + 1), 2, none⟩ = some (.int .u64 (r2 : Int)) := q4.cell 2
      have c3 : wr.cell? ⟨(w1.heap.size + 1), 3, none⟩ = some (.int .u64 (r3 : Int)) := q4.cell 3
      have c4 : wr.cell? ⟨(w1.heap.size + 1), 4, none⟩ = some (.int .u64 (r4 : Int)) := q4.cell 4
      have l0 := hI.out.1.up
      have l1 := hI.out.2.1.up
      have l2 := hI.out.2.2.1.up
      have l3 := hI.out.2.2.2.1.up
      have l4 := hI.out.2.2.2.2.1.up
      have hv := hI.out.fin
      have HV := Lib.hid hv
      clear hv hI
      go_wp2_with fail
      refine (store_any r0 r1 r2 r3 r4 l0 l1 l2 l3 l4 _).mono ?_
      rintro e w2 ⟨rfl, hbl⟩
      have p2 := q2.under hbl
      have L2 := bl_call L hbl
      clear hbl q2 q3 q4 L c0 c1 c2 c3 c4
      have hv := HV.out
      rw [hv]
      clear hv
      have hth : w2.there (w.heap.size + 1) 0 (c8 (pinv a)).size := by rw [size_c8, ← size_c8p 0 0]; exact p2.there
      go_wp2_with (refine wpList_store_mid rfl 22 (.tmp 2) (.tmp 26) rfl (w.heap.size + 1) 0 (c8 (pinv a)) rfl rfl hth (inum_c8 _) (one_c8 _) ?_)
      refine bodyPost_ret (results_cell_row rfl _ _ (w.heap.size + 1) 22 (c8 (pinv a)) (0, 0) _ rfl (p2.all (by rw [size_c8, size_c8p])) Tryd.underlying22 rfl (inum_c8 _)) rfl ?_
      exact ⟨rfl, bl_cells (by omega) _ _ _ L2⟩
end Go.Proofs.YtkmgdpbmkbpkjaaDoor
set_option linter.unusedVariables false
namespace Go.Proofs.YtkmgdpbmkbpkjaaDoor
open Go.RowKit

theorem p25_prime : Pn.Pr p25 := Pn.pr_57896044618658097711785492504343953926634992332820282019728792003956564819949
theorem p25_sub : p25 - 1 = eInv + 1 := by rw [eInv_val]; decide +kernel
theorem eInv_pos : eInv ≠ 0 := by rw [eInv_val]; decide +kernel
theorem p25_pos : 0 < p25 := by decide +kernel
theorem p25_one : 1 % p25 = 1 := by decide +kernel
theorem lt_p25 (n : Nat) : n % p25 < p25 := Nat.mod_lt _ p25_pos
theorem pinv_lt (a : Nat) : pinv a < p25 := lt_p25 _
theorem pinv_256 (a : Nat) : N256 (pinv a) := N256.mod _
theorem pinv_self (a : Nat) : pinv a % p25 = pinv a := Nat.mod_mod _ _
theorem dvd_iff (a : Nat) : p25 ∣ a ↔ a % p25 = 0 := ⟨Nat.mod_eq_zero_of_dvd, Nat.dvd_of_mod_eq_zero⟩
theorem mul_pinv {a : Nat} (h : a % p25 ≠ 0) : a * pinv a % p25 = 1 := by
  have f := p25_prime.fermat (a := a) (fun hd => h ((dvd_iff a).1 hd))
  rw [p25_sub, Nat.pow_succ', Nat.mul_mod] at f
  unfold pinv
  rw [Nat.mul_mod, Nat.mod_mod]
  exact f
theorem pinv_zero {a : Nat} (h : a % p25 = 0) : pinv a = 0 := by
  unfold pinv
  rw [Nat.pow_mod, h, Nat.zero_pow (Nat.pos_of_ne_zero eInv_pos), Nat.zero_mod]
theorem pinv_mod (a : Nat) : pinv (a % p25) = pinv a := by
  unfold pinv
  rw [← Nat.pow_mod]
theorem pinv_mul (a b : Nat) : pinv (a * b % p25) = pinv a * pinv b % p25 := by
  rw [pinv_mod]
  unfold pinv
  rw [Nat.mul_pow, ← Nat.mul_mod]
theorem mul_zero_iff (a b : Nat) : a * b % p25 = 0 ↔ a % p25 = 0 ∨ b % p25 = 0 := by
  constructor
  · intro h
    rcases p25_prime.dvd_mul ((dvd_iff _).2 h) with h | h
    · exact .inl ((dvd_iff a).1 h)
    · exact .inr ((dvd_iff b).1 h)
  · rintro (h | h)
    · rw [Nat.mul_mod, h, Nat.zero_mul, Nat.zero_mod]
    · rw [Nat.mul_mod, h, Nat.mul_zero, Nat.zero_mod]
/-- What is the same behind a factor that is not 0. -/
theorem cancel {a b c : Nat} (hc : c % p25 ≠ 0) (h : a * c % p25 = b * c % p25) : a % p25 = b % p25 := by
  have k : ∀ x, x % p25 = x * c % p25 * pinv c % p25 := fun x => by
    rw [Nat.mod_mul_mod, Nat.mul_assoc, Nat.mul_mod, mul_pinv hc, Nat.mul_one, Nat.mod_mod]
  rw [k a, k b, h]
theorem pinv_ne {a : Nat} (h : a % p25 ≠ 0) : pinv a % p25 ≠ 0 := by
  intro h0
  have h1 := mul_pinv h
  rw [Nat.mul_mod, h0, Nat.mul_zero, Nat.zero_mod] at h1
  omega
theorem pinv_pinv (a : Nat) : pinv (pinv a) = a % p25 := by
  by_cases h : a % p25 = 0
  · rw [pinv_zero h, h, pinv_zero (Nat.zero_mod _)]
  · have h1 := mul_pinv h
    have h2 := mul_pinv (pinv_ne h)
    rw [← pinv_self (pinv a)]
    refine cancel (pinv_ne h) ?_
    rw [h1, Nat.mul_comm, h2]
/-- The opposite. -/
def neg (a : Nat) : Nat := (0 + 4 * p25 - a) % p25
theorem neg_add {a : Nat} (h : a ≤ 4 * p25) : (neg a + a) % p25 = 0 := by
  unfold neg
  rw [Nat.mod_add_mod, show 0 + 4 * p25 - a + a = p25 * 4 by omega, Nat.mul_mod_right]
theorem add_cancel {a b c : Nat} (h : (a + c) % p25 = (b + c) % p25) : a % p25 = b % p25 := by
  obtain ⟨d, hd⟩ : ∃ d, (c + d) % p25 = 0 := ⟨p25 - c % p25, by
    have := lt_p25 c
    rw [← Nat.mod_add_mod, show c % p25 + (p25 - c % p25) = p25 by omega, Nat.mod_self]⟩
  have k : ∀ x, x % p25 = (x + c + d) % p25 := fun x => by
    rw [Nat.add_assoc, Nat.add_mod x, hd, Nat.add_zero, Nat.mod_mod]
  rw [k a, k b, Nat.add_mod, h, ← Nat.add_mod]
theorem mul_neg {a b : Nat} (h : b ≤ 4 * p25) (h' : a * b % p25 ≤ 4 * p25) : a * neg b % p25 = neg (a * b % p25) := by
  have e1 : (a * neg b + a * b) % p25 = 0 := by rw [← Nat.mul_add, Nat.mul_mod, neg_add h, Nat.mul_zero, Nat.zero_mod]
  have e2 : (neg (a * b % p25) + a * b) % p25 = 0 := by
    have := neg_add h'
    rwa [Nat.add_mod_mod] at this
  have := add_cancel (e1.trans e2.symm)
  rw [this]
  exact Nat.mod_mod _ _
theorem le_4 {n : Nat} (h : n < p25) : n ≤ 4 * p25 := by omega
theorem N256.le4 {n : Nat} (h : N256 n) : n ≤ 4 * p25 := by unfold N256 at h; unfold p25; omega
theorem neg_lt (a : Nat) : neg a < p25 := lt_p25 _
theorem neg_self (a : Nat) : neg a % p25 = neg a := Nat.mod_mod _ _
theorem neg_256 (a : Nat) : N256 (neg a) := N256.mod _
theorem neg_ne {a : Nat} (h : a ≤ 4 * p25) (h0 : a % p25 ≠ 0) : neg a % p25 ≠ 0 := by
  intro h1
  have h2 := neg_add h
  rw [Nat.add_mod, h1, Nat.zero_add, Nat.mod_mod] at h2
  exact h0 h2
theorem neg_neg {a : Nat} (h : a ≤ 4 * p25) : neg (neg a) = a % p25 := by
  have e1 := neg_add (le_4 (neg_lt a))
  have e2 := neg_add h
  rw [Nat.add_comm] at e2
  have := add_cancel (e1.trans e2.symm)
  rw [neg_self] at this
  exact this
theorem neg_mul_neg {a b : Nat} (ha : a ≤ 4 * p25) (hb : b ≤ 4 * p25) : neg a * neg b % p25 = a * b % p25 := by
  rw [mul_neg hb (le_4 (lt_p25 _)), Nat.mul_comm (neg a), mul_neg ha (le_4 (lt_p25 _)), neg_neg (le_4 (lt_p25 _)), Nat.mod_mod, Nat.mul_comm]
theorem pinv_neg {a : Nat} (h : a ≤ 4 * p25) : pinv (neg a) = neg (pinv a) := by
  by_cases h0 : a % p25 = 0
  · have e : neg a % p25 = 0 := by
      have h2 := neg_add h
      rw [Nat.add_mod, h0, Nat.add_zero, Nat.mod_mod] at h2
      exact h2
    rw [pinv_zero e, pinv_zero h0]
    decide +kernel
  · have h1 := mul_pinv (neg_ne h h0)
    have h2 : neg (pinv a) * neg a % p25 = 1 := by rw [neg_mul_neg (le_4 (pinv_lt a)) h, Nat.mul_comm, mul_pinv h0]
    rw [Nat.mul_comm] at h1
    have := cancel (neg_ne h h0) (h1.trans h2.symm)
    rwa [pinv_self, neg_self] at this
end Go.Proofs.YtkmgdpbmkbpkjaaDoor
