/-
  limb's wide.more, told by the number that it gathers.
-/
import Derived.Test.YtkmgdpbmkbpkjaaMore
import Derived.Test.YtkmgdpbmkbpkjaaLim
set_option linter.unusedVariables false
namespace Go.Proofs.Ytkmgdpbmkbpkjaa
open Go.RowKit

/-- Two words that hold s, gathered of at most k products. -/
def Ac (k : Nat) (h l : Int) (s : Nat) : Prop := 0 ≤ l ∧ l < 18446744073709551616 ∧ 0 ≤ h ∧ h * 18446744073709551616 + l = (s : Int) ∧ s ≤ k * 649037107316853453566312041152512
theorem Ac.zero : Ac 0 0 0 0 := by unfold Ac; omega
/-- An Int that is a number below 2^52 (a limb), or below 2^57 (19 times one). -/
def Lm (x : Int) (a : Nat) : Prop := x = (a : Int) ∧ a < 4503599627370496
def Lp (x : Int) (a : Nat) : Prop := x = (a : Int) ∧ a < 144115188075855872

theorem more_nat {h l a b s k : Nat} (hs : h * 18446744073709551616 + l = s) (hl : l < 18446744073709551616) (hk : s ≤ k * 649037107316853453566312041152512) (hk2 : k ≤ 8)
    (ha : a < 4503599627370496) (hb : b < 144115188075855872) : Ac (k + 1) (moH h l a b : Nat) (moL l a b : Nat) (s + a * b) := by
  have hab : a * b ≤ 4503599627370496 * 144115188075855872 := Nat.mul_le_mul (by omega) (by omega)
  unfold Ac moH moL addS addC mulH mulL
  generalize a * b = m at *
  omega

theorem more_v {h l a b : Int} {A B s k : Nat} (hA : Ac k h l s) (hk : k ≤ 8) (ha : Lm a A) (hb : Lp b B) (w : World) :
    Calls Try.prog 31 #[.agg #[.int .u64 h, .int .u64 l], .int .u64 a, .int .u64 b] w fun e w' => ∃ h' l' : Nat,
      e = .returned (.agg #[.int .u64 h', .int .u64 l']) ∧ Ac (k + 1) h' l' (s + A * B) ∧ Below w.heap.size w w' := by
  obtain ⟨l0, l1, h0, hs, hb'⟩ := hA
  obtain ⟨rfl, ha'⟩ := ha
  obtain ⟨rfl, hb''⟩ := hb
  obtain ⟨L, rfl⟩ := Int.eq_ofNat_of_zero_le l0
  obtain ⟨K, rfl⟩ := Int.eq_ofNat_of_zero_le h0
  have hs' : K * 18446744073709551616 + L = s := by omega
  refine (more_any K L A B (by unfold U; omega) (by unfold U; omega) (by unfold U; omega) w).mono fun e w' ⟨he, hbl⟩ => ⟨_, _, he, ?_, hbl⟩
  exact more_nat hs' (by omega) hb' hk ha' hb''

theorem car_or {H L c S : Nat} (hA : Ac 5 H L S) (hc : Lt63 c) :
    bits .or .u64 (IntKind.u64.wrap (IntKind.u64.wrap ((H : Int) + (addC L c 0 : Nat)) * 8192)) (((addS L c 0 : Nat) : Int) / 2251799813685248) = (((S + c) / 2251799813685248 : Nat) : Int) := by
  unfold Ac Lt63 addC addS at *
  obtain ⟨g, hg⟩ : ∃ g, g = H + (L + c + 0) / 18446744073709551616 := ⟨_, rfl⟩
  obtain ⟨l, hl⟩ : ∃ l, l = (L + c + 0) % 18446744073709551616 := ⟨_, rfl⟩
  rw [← Int.natCast_add, ← hg, ← hl, wrap_id g (by omega)]
  have e1 : ((g : Int) * 8192) = ((g * 2 ^ 13 : Nat) : Int) := by omega
  have e2 : ((l : Int) / 2251799813685248) = ((l / 2251799813685248 : Nat) : Int) := by omega
  rw [e1, e2, wrap_id _ (by omega), or_add g 13 _ (by omega) (by omega)]
  congr 1
  omega
theorem car_and {H L c S : Nat} (hA : Ac 5 H L S) (hc : Lt63 c) :
    bits .and .u64 ((addS L c 0 : Nat) : Int) 2251799813685247 = (((S + c) % 2251799813685248 : Nat) : Int) := by
  rw [and_mask _ (addS_lt _ _ _)]
  unfold Ac Lt63 addS at *
  congr 1
  omega
theorem ac_mul (c : Nat) (hc : Lt63 c) : Ac 5 (mulH c 19 : Nat) (mulL c 19 : Nat) (c * 19) := by
  unfold Ac mulH mulL Lt63 at *
  omega
theorem ac_lt {H L c S : Nat} (hA : Ac 5 H L S) (hc : Lt63 c) : Lt63 ((S + c) / 2251799813685248) := by
  unfold Ac Lt63 at *
  omega
theorem add64_00 (x : Nat) (w : World) : (callFunc 32 #[.int .u64 x, .int .u64 0, .int .u64 0]).run Try.prog w =
      .ok (.value (.tuple #[.int .u64 (addS x 0 0 : Nat), .int .u64 (addC x 0 0 : Nat)])) w := add64_c x 0 0 (by omega) w
end Go.Proofs.Ytkmgdpbmkbpkjaa
