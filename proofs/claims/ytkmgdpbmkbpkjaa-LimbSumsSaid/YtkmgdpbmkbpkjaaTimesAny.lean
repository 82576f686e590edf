/-
  limb's element.times, told by numbers.
-/
import Derived.Test.YtkmgdpbmkbpkjaaTimes
import Derived.Test.YtkmgdpbmkbpkjaaLoadAny
set_option linter.unusedVariables false
namespace Go.Proofs.Ytkmgdpbmkbpkjaa
open Go.RowKit

theorem prod_split (E0 E1 E2 E3 E4 F0 F1 F2 F3 F4 : Nat) : val5 E0 E1 E2 E3 E4 * val5 F0 F1 F2 F3 F4 =
    val5 (Sm0 E0 E1 E2 E3 E4 F0 F1 F2 F3 F4) (Sm1 E0 E1 E2 E3 E4 F0 F1 F2 F3 F4) (Sm2 E0 E1 E2 E3 E4 F0 F1 F2 F3 F4) (Sm3 E0 E1 E2 E3 E4 F0 F1 F2 F3 F4) (Sm4 E0 E1 E2 E3 E4 F0 F1 F2 F3 F4) +
    p25 * (E1 * F4 + E2 * F3 + E3 * F2 + E4 * F1 + (E2 * F4 + E3 * F3 + E4 * F2) * 2251799813685248 + (E3 * F4 + E4 * F3) * 5070602400912917605986812821504 + E4 * F4 * 11417981541647679048466287755595961091061972992) := by
  unfold Sm0 Sm1 Sm2 Sm3 Sm4 val5 p25
  grind

theorem carries {S0 S1 S2 S3 S4 c1 c2 c3 c4 c5 z0 z1 z2 z3 z4 : Nat}
    (h : c1 = S0 / 2251799813685248 ∧ c2 = (S1 + c1) / 2251799813685248 ∧ c3 = (S2 + c2) / 2251799813685248 ∧ c4 = (S3 + c3) / 2251799813685248 ∧ c5 = (S4 + c4) / 2251799813685248)
    (h0 : z0 = (c5 * 19 + S0 % 2251799813685248) % 2251799813685248) (h1 : z1 = (S1 + c1) % 2251799813685248 + (c5 * 19 + S0 % 2251799813685248) / 2251799813685248)
    (h2 : z2 = (S2 + c2) % 2251799813685248) (h3 : z3 = (S3 + c3) % 2251799813685248) (h4 : z4 = (S4 + c4) % 2251799813685248) :
    val5 z0 z1 z2 z3 z4 + c5 * p25 = val5 S0 S1 S2 S3 S4 := by
  unfold val5 p25
  omega

theorem times_any (E0 E1 E2 E3 E4 F0 F1 F2 F3 F4 : Nat) (w : World)
    (he : Lt52 E0 ∧ Lt52 E1 ∧ Lt52 E2 ∧ Lt52 E3 ∧ Lt52 E4) (hf : Lt52 F0 ∧ Lt52 F1 ∧ Lt52 F2 ∧ Lt52 F3 ∧ Lt52 F4) :
    Calls Try.prog 26 #[.agg (c5 E0 E1 E2 E3 E4), .agg (c5 F0 F1 F2 F3 F4)] w fun e w' => ∃ a b c d f : Nat, e = .returned (.agg (c5 a b c d f)) ∧
      Hid (Lt52 a ∧ Lt52 b ∧ Lt52 c ∧ Lt52 d ∧ Lt52 f ∧ val5 a b c d f % p25 = val5 E0 E1 E2 E3 E4 * val5 F0 F1 F2 F3 F4 % p25) ∧ Below w.heap.size w w' := by
  obtain ⟨e0, e1, e2, e3, e4⟩ := he
  obtain ⟨f0, f1, f2, f3, f4⟩ := hf
  refine (times_raw (E0 : Int) E1 E2 E3 E4 F0 F1 F2 F3 F4 E0 E1 E2 E3 E4 F0 F1 F2 F3 F4 w ⟨rfl, e0⟩ ⟨rfl, e1⟩ ⟨rfl, e2⟩ ⟨rfl, e3⟩ ⟨rfl, e4⟩ ⟨rfl, f0⟩ ⟨rfl, f1⟩ ⟨rfl, f2⟩ ⟨rfl, f3⟩ ⟨rfl, f4⟩).mono
    fun e w' ⟨z0, z1, z2, z3, z4, r0, r1, r2, r3, r4, hz, hc, he, hb⟩ => ⟨r0, r1, r2, r3, r4, he, ?_, hb⟩
  obtain ⟨S0, S1, S2, S3, S4, c1, c2, c3, c4, c5, ⟨s0, s1, s2, s3, s4⟩, hk, h5, k0, k1, k2, k3, k4⟩ := hz.out
  have hc := hc.out
  have hv := carries hk k0 k1 k2 k3 k4
  have b : Lt63 z0 ∧ Lt63 z1 ∧ Lt63 z2 ∧ Lt63 z3 ∧ Lt63 z4 := by
    unfold Lt63
    refine ⟨?_, ?_, ?_, ?_, ?_⟩
    · omega
    · omega
    · omega
    · omega
    · omega
  have sm := hc.small b.2.2.2.1 b.2.2.1 b.2.1 b.1 b.2.2.2.2
  refine ⟨?_, ?_, ?_, ?_, ?_, ?_⟩
  · unfold Lt52; omega
  · unfold Lt52; omega
  · unfold Lt52; omega
  · unfold Lt52; omega
  · unfold Lt52; omega
  · rw [hc.mod, prod_split, ← s0, ← s1, ← s2, ← s3, ← s4, Nat.add_mul_mod_self_left, ← hv, Nat.add_mul_mod_self_right]
end Go.Proofs.Ytkmgdpbmkbpkjaa
