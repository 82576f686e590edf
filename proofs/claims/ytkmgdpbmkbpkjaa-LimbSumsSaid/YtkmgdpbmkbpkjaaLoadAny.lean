/-
  limb.load, told by numbers: the five limbs of a number below 2^256.
-/
import Derived.Test.YtkmgdpbmkbpkjaaLoad
import Derived.Test.YtkmgdpbmkbpkjaaStoreLaw
set_option linter.unusedVariables false
namespace Go.Proofs.Ytkmgdpbmkbpkjaa
open Go.RowKit

theorem c8_lit (n : Nat) : c8 n = #[.int .u8 ((n / 256 ^ 0 % 256 : Nat) : Int), .int .u8 ((n / 256 ^ 1 % 256 : Nat) : Int), .int .u8 ((n / 256 ^ 2 % 256 : Nat) : Int), .int .u8 ((n / 256 ^ 3 % 256 : Nat) : Int), .int .u8 ((n / 256 ^ 4 % 256 : Nat) : Int), .int .u8 ((n / 256 ^ 5 % 256 : Nat) : Int), .int .u8 ((n / 256 ^ 6 % 256 : Nat) : Int), .int .u8 ((n / 256 ^ 7 % 256 : Nat) : Int), .int .u8 ((n / 256 ^ 8 % 256 : Nat) : Int), .int .u8 ((n / 256 ^ 9 % 256 : Nat) : Int), .int .u8 ((n / 256 ^ 10 % 256 : Nat) : Int), .int .u8 ((n / 256 ^ 11 % 256 : Nat) : Int), .int .u8 ((n / 256 ^ 12 % 256 : Nat) : Int), .int .u8 ((n / 256 ^ 13 % 256 : Nat) : Int), .int .u8 ((n / 256 ^ 14 % 256 : Nat) : Int), .int .u8 ((n / 256 ^ 15 % 256 : Nat) : Int), .int .u8 ((n / 256 ^ 16 % 256 : Nat) : Int), .int .u8 ((n / 256 ^ 17 % 256 : Nat) : Int), .int .u8 ((n / 256 ^ 18 % 256 : Nat) : Int), .int .u8 ((n / 256 ^ 19 % 256 : Nat) : Int), .int .u8 ((n / 256 ^ 20 % 256 : Nat) : Int), .int .u8 ((n / 256 ^ 21 % 256 : Nat) : Int), .int .u8 ((n / 256 ^ 22 % 256 : Nat) : Int), .int .u8 ((n / 256 ^ 23 % 256 : Nat) : Int), .int .u8 ((n / 256 ^ 24 % 256 : Nat) : Int), .int .u8 ((n / 256 ^ 25 % 256 : Nat) : Int), .int .u8 ((n / 256 ^ 26 % 256 : Nat) : Int), .int .u8 ((n / 256 ^ 27 % 256 : Nat) : Int), .int .u8 ((n / 256 ^ 28 % 256 : Nat) : Int), .int .u8 ((n / 256 ^ 29 % 256 : Nat) : Int), .int .u8 ((n / 256 ^ 30 % 256 : Nat) : Int), .int .u8 ((n / 256 ^ 31 % 256 : Nat) : Int)] := rfl

theorem or_byte (x b : Nat) (hx : x < 72057594037927936) (hb : b < 256) : bits .or .u64 (IntKind.u64.wrap ((x : Int) * 256)) (IntKind.u64.wrap (b : Int)) = ((x * 256 + b : Nat) : Int) := by
  have e : ((x : Int) * 256) = ((x * 2 ^ 8 : Nat) : Int) := by omega
  rw [e, wrap_id _ (by omega), wrap_id _ (by omega)]
  exact or_add x 8 b hb (by omega)
theorem or_byte0 (b : Nat) (hb : b < 256) : bits .or .u64 0 (IntKind.u64.wrap (b : Int)) = (b : Int) := by
  rw [wrap_id _ (by omega)]
  have := u64_or_nat 0 b (by omega) (by omega)
  simpa using this
theorem wd_nat (h g f e d c b a : Nat) (hh : h < 256) (hg : g < 256) (hf : f < 256) (he : e < 256) (hd : d < 256) (hc : c < 256) (hb : b < 256) (ha : a < 256) :
    wd (h : Int) g f e d c b a = ((((((((h * 256 + g) * 256 + f) * 256 + e) * 256 + d) * 256 + c) * 256 + b) * 256 + a : Nat) : Int) := by
  unfold wd
  rw [or_byte0 h hh, or_byte _ g (by omega) hg, or_byte _ f (by omega) hf, or_byte _ e (by omega) he, or_byte _ d (by omega) hd, or_byte _ c (by omega) hc, or_byte _ b (by omega) hb, or_byte _ a (by omega) ha]
theorem word_bytes (n : Nat) : ((((((((n / 256 ^ 7 % 256) * 256 + n / 256 ^ 6 % 256) * 256 + n / 256 ^ 5 % 256) * 256 + n / 256 ^ 4 % 256) * 256 + n / 256 ^ 3 % 256) * 256 + n / 256 ^ 2 % 256) * 256 + n / 256 ^ 1 % 256) * 256 + n / 256 ^ 0 % 256) = n % 18446744073709551616 := by
  simp only [Nat.reducePow, Nat.div_one]
  omega
theorem wd_c8 (n i : Nat) : wd ((n / 256 ^ (8 * i + 7) % 256 : Nat) : Int) ((n / 256 ^ (8 * i + 6) % 256 : Nat) : Int) ((n / 256 ^ (8 * i + 5) % 256 : Nat) : Int) ((n / 256 ^ (8 * i + 4) % 256 : Nat) : Int)
    ((n / 256 ^ (8 * i + 3) % 256 : Nat) : Int) ((n / 256 ^ (8 * i + 2) % 256 : Nat) : Int) ((n / 256 ^ (8 * i + 1) % 256 : Nat) : Int) ((n / 256 ^ (8 * i + 0) % 256 : Nat) : Int) = ((wo n i : Nat) : Int) := by
  have m : ∀ x : Nat, x % 256 < 256 := fun x => Nat.mod_lt _ (by omega)
  rw [wd_nat _ _ _ _ _ _ _ _ (m _) (m _) (m _) (m _) (m _) (m _) (m _) (m _)]
  have e4 : (18446744073709551616 : Nat) ^ i = 256 ^ (8 * i) := by rw [Nat.pow_mul]
  unfold wo
  rw [e4, ← word_bytes (n / 256 ^ (8 * i))]
  simp only [Nat.pow_add, Nat.div_div_eq_div_mul]

theorem wo_lt (n i : Nat) : wo n i < 18446744073709551616 := Nat.mod_lt _ (by omega)
theorem two_words (a b k m : Nat) (ha : a < 18446744073709551616) (hb : b < 18446744073709551616) (hk : 2 ^ k * m = 18446744073709551616) (hk51 : k ≤ 51) (hm : 0 < m) :
    bits .and .u64 (bits .or .u64 ((a : Int) / (m : Int)) (IntKind.u64.wrap ((b : Int) * ((2 ^ k : Nat) : Int)))) 2251799813685247 = (((a / m + b * 2 ^ k) % 2251799813685248 : Nat) : Int) := by
  have e1 : ((a : Int) / (m : Int)) = ((a / m : Nat) : Int) := (Int.natCast_ediv a m).symm
  have e2 : ((b : Int) * ((2 ^ k : Nat) : Int)) = ((b * 2 ^ k : Nat) : Int) := (Int.natCast_mul b (2 ^ k)).symm
  have e3 : b * 2 ^ k % 18446744073709551616 = b % m * 2 ^ k := by
    rw [← hk, Nat.mul_comm b, Nat.mul_mod_mul_left, Nat.mul_comm]
  have l1 : a / m < 2 ^ k := by rw [Nat.div_lt_iff_lt_mul hm, hk]; exact ha
  have l2 : b % m < m := Nat.mod_lt _ hm
  have l3 : b % m * 2 ^ k + a / m < 18446744073709551616 := by
    have : (b % m + 1) * 2 ^ k ≤ m * 2 ^ k := Nat.mul_le_mul_right _ (by omega)
    rw [Nat.mul_comm m, hk, Nat.add_mul] at this
    omega
  rw [e1, e2, wrap_nat, e3, or_add' _ k _ l1 l3, and_mask _ l3]
  congr 1
  rw [← e3]
  obtain ⟨c, hc⟩ : ∃ c, (18446744073709551616 : Nat) = 2251799813685248 * c := ⟨8192, rfl⟩
  rw [Nat.add_mod, hc, Nat.mod_mod_of_dvd _ ⟨c, rfl⟩, ← Nat.add_mod, Nat.add_comm]

theorem limbs_of (n : Nat) (hn : n < 115792089237316195423570985008687907853269984665640564039457584007913129639936) :
    wo n 0 % 2251799813685248 = n % 2251799813685248 ∧
    (wo n 0 / 2251799813685248 + wo n 1 * 2 ^ 13) % 2251799813685248 = n / 2251799813685248 % 2251799813685248 ∧
    (wo n 1 / 274877906944 + wo n 2 * 2 ^ 26) % 2251799813685248 = n / 5070602400912917605986812821504 % 2251799813685248 ∧
    (wo n 2 / 33554432 + wo n 3 * 2 ^ 39) % 2251799813685248 = n / 11417981541647679048466287755595961091061972992 % 2251799813685248 ∧
    wo n 3 / 4096 = n / 25711008708143844408671393477458601640355247900524685364822016 := by
  obtain ⟨A, hA⟩ : ∃ A, A = wo n 0 := ⟨_, rfl⟩
  obtain ⟨B, hB⟩ : ∃ A, A = wo n 1 := ⟨_, rfl⟩
  obtain ⟨C, hC⟩ : ∃ A, A = wo n 2 := ⟨_, rfl⟩
  obtain ⟨D, hD⟩ : ∃ A, A = wo n 3 := ⟨_, rfl⟩
  have lA := wo_lt n 0
  have lB := wo_lt n 1
  have lC := wo_lt n 2
  have lD := wo_lt n 3
  have hV : n = A + 18446744073709551616 * B + 340282366920938463463374607431768211456 * C + 6277101735386680763835789423207666416102355444464034512896 * D := by
    rw [hA, hB, hC, hD]
    unfold wo
    simp only [Nat.reducePow, Nat.div_one]
    omega
  rw [← hA] at lA ⊢
  rw [← hB] at lB ⊢
  rw [← hC] at lC ⊢
  rw [← hD] at lD ⊢
  clear hA hB hC hD hn
  refine ⟨?_, ?_, ?_, ?_, ?_⟩
  · omega
  · omega
  · omega
  · omega
  · omega

/-- Limbs that hold a number modulo 2^255 - 19, each below 2^52. -/
def Elt (v : Value) (n : Nat) : Prop := ∃ a b c d e : Nat, v = .agg (c5 a b c d e) ∧ Hid (Lt52 a ∧ Lt52 b ∧ Lt52 c ∧ Lt52 d ∧ Lt52 e ∧ val5 a b c d e % p25 = n % p25)

theorem load_any (n : Nat) (hn : n < 115792089237316195423570985008687907853269984665640564039457584007913129639936) (w : World) :
    Calls Try.prog 25 #[.agg (c8 n)] w fun e w' => ∃ a b c d f : Nat, e = .returned (.agg (c5 a b c d f)) ∧ Hid (Lt52 a ∧ Lt52 b ∧ Lt52 c ∧ Lt52 d ∧ Lt52 f ∧ val5 a b c d f = n) ∧ Below w.heap.size w w' := by
  rw [c8_lit]
  refine (load_raw ((n / 256 ^ 0 % 256 : Nat) : Int) ((n / 256 ^ 1 % 256 : Nat) : Int) ((n / 256 ^ 2 % 256 : Nat) : Int) ((n / 256 ^ 3 % 256 : Nat) : Int) ((n / 256 ^ 4 % 256 : Nat) : Int) ((n / 256 ^ 5 % 256 : Nat) : Int) ((n / 256 ^ 6 % 256 : Nat) : Int) ((n / 256 ^ 7 % 256 : Nat) : Int) ((n / 256 ^ 8 % 256 : Nat) : Int) ((n / 256 ^ 9 % 256 : Nat) : Int) ((n / 256 ^ 10 % 256 : Nat) : Int) ((n / 256 ^ 11 % 256 : Nat) : Int) ((n / 256 ^ 12 % 256 : Nat) : Int) ((n / 256 ^ 13 % 256 : Nat) : Int) ((n / 256 ^ 14 % 256 : Nat) : Int) ((n / 256 ^ 15 % 256 : Nat) : Int) ((n / 256 ^ 16 % 256 : Nat) : Int) ((n / 256 ^ 17 % 256 : Nat) : Int) ((n / 256 ^ 18 % 256 : Nat) : Int) ((n / 256 ^ 19 % 256 : Nat) : Int) ((n / 256 ^ 20 % 256 : Nat) : Int) ((n / 256 ^ 21 % 256 : Nat) : Int) ((n / 256 ^ 22 % 256 : Nat) : Int) ((n / 256 ^ 23 % 256 : Nat) : Int) ((n / 256 ^ 24 % 256 : Nat) : Int) ((n / 256 ^ 25 % 256 : Nat) : Int) ((n / 256 ^ 26 % 256 : Nat) : Int) ((n / 256 ^ 27 % 256 : Nat) : Int) ((n / 256 ^ 28 % 256 : Nat) : Int) ((n / 256 ^ 29 % 256 : Nat) : Int) ((n / 256 ^ 30 % 256 : Nat) : Int) ((n / 256 ^ 31 % 256 : Nat) : Int) w).mono fun e w' ⟨W0, W1, W2, W3, h0, h1, h2, h3, he, hb⟩ => ?_
  rw [wd_c8 n 0] at h0
  rw [wd_c8 n 1] at h1
  rw [wd_c8 n 2] at h2
  rw [wd_c8 n 3] at h3
  subst h0 h1 h2 h3
  have k1 := two_words (wo n 0) (wo n 1) 13 2251799813685248 (wo_lt _ _) (wo_lt _ _) (by decide) (by omega) (by omega)
  have k2 := two_words (wo n 1) (wo n 2) 26 274877906944 (wo_lt _ _) (wo_lt _ _) (by decide) (by omega) (by omega)
  have k3 := two_words (wo n 2) (wo n 3) 39 33554432 (wo_lt _ _) (wo_lt _ _) (by decide) (by omega) (by omega)
  obtain ⟨l0, l1, l2, l3, l4⟩ := limbs_of n hn
  rw [l1] at k1
  rw [l2] at k2
  rw [l3] at k3
  have k4 : (((wo n 3 : Nat) : Int) / 4096) = ((n / 25711008708143844408671393477458601640355247900524685364822016 : Nat) : Int) := by rw [← l4]; exact (Int.natCast_ediv _ 4096).symm
  have k0 := and_mask (wo n 0) (wo_lt n 0)
  rw [l0] at k0
  refine ⟨n % 2251799813685248, n / 2251799813685248 % 2251799813685248, n / 5070602400912917605986812821504 % 2251799813685248, n / 11417981541647679048466287755595961091061972992 % 2251799813685248, n / 25711008708143844408671393477458601640355247900524685364822016, ?_, ?_, hb⟩
  · rw [he]
    unfold c5
    rw [k0, k4]
    refine congrArg _ (congrArg _ ?_)
    rw [← k1, ← k2, ← k3]
    rfl
  · unfold Hid Lt52 val5
    refine ⟨?_, ?_, ?_, ?_, ?_, ?_⟩
    · omega
    · omega
    · omega
    · omega
    · omega
    · omega
end Go.Proofs.Ytkmgdpbmkbpkjaa
