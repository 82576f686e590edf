/-
  limb's element.carried, told by numbers.
-/
import Derived.Test.YtkmgdpbmkbpkjaaCarried
import Derived.Test.YtkmgdpbmkbpkjaaLim
set_option linter.unusedVariables false
namespace Go.Proofs.Ytkmgdpbmkbpkjaa
open Go.RowKit

theorem rs0_nat (e0 e4 : Nat) (h0 : Lt63 e0) (h4 : Lt63 e4) : rs0 (e0 : Int) (e4 : Int) = ((e0 + 19 * (e4 / 2251799813685248) : Nat) : Int) := by
  unfold rs0 Lt63 at *
  have e : (19 * ((e4 : Int) / 2251799813685248)) = ((19 * (e4 / 2251799813685248) : Nat) : Int) := by omega
  rw [e, wrap_id _ (by omega), ← Int.natCast_add, wrap_id _ (by omega)]
theorem rs_nat (e f : Nat) (he : Lt63 e) (hf : f < 18446744073709551616) : rs (e : Int) (f : Int) = ((e + f / 2251799813685248 : Nat) : Int) := by
  unfold rs Lt63 at *
  have e' : ((f : Int) / 2251799813685248) = ((f / 2251799813685248 : Nat) : Int) := by omega
  rw [e', ← Int.natCast_add, wrap_id _ (by omega)]
theorem ra_nat (f : Nat) (hf : f < 18446744073709551616) : ra (f : Int) = ((f % 2251799813685248 : Nat) : Int) := and_mask f hf

theorem cr_nat (e0 e1 e2 e3 e4 : Nat) (h0 : Lt63 e0) (h1 : Lt63 e1) (h2 : Lt63 e2) (h3 : Lt63 e3) (h4 : Lt63 e4) :
    ∃ r0 r1 r2 r3 r4, Car e0 e1 e2 e3 e4 r0 r1 r2 r3 r4 ∧ cr (e0 : Int) e1 e2 e3 e4 = c5 r0 r1 r2 r3 r4 := by
  obtain ⟨f0, g0⟩ : ∃ f0, f0 = e0 + 19 * (e4 / 2251799813685248) := ⟨_, rfl⟩
  obtain ⟨f1, g1⟩ : ∃ f1, f1 = e1 + f0 / 2251799813685248 := ⟨_, rfl⟩
  obtain ⟨f2, g2⟩ : ∃ f2, f2 = e2 + f1 / 2251799813685248 := ⟨_, rfl⟩
  obtain ⟨f3, g3⟩ : ∃ f3, f3 = e3 + f2 / 2251799813685248 := ⟨_, rfl⟩
  refine ⟨_, _, _, _, _, ⟨f0, f1, f2, f3, g0, g1, g2, g3, rfl, rfl, rfl, rfl, rfl⟩, ?_⟩
  have b0 : f0 < 18446744073709551616 := by unfold Lt63 at *; omega
  have b1 : f1 < 18446744073709551616 := by unfold Lt63 at *; omega
  have b2 : f2 < 18446744073709551616 := by unfold Lt63 at *; omega
  have b3 : f3 < 18446744073709551616 := by unfold Lt63 at *; omega
  have b4 : e4 < 18446744073709551616 := by unfold Lt63 at *; omega
  have bm : Lt63 (e4 % 2251799813685248) := by unfold Lt63 at *; omega
  unfold cr c5
  rw [rs0_nat e0 e4 h0 h4, ← g0, rs_nat e1 f0 h1 b0, ← g1, rs_nat e2 f1 h2 b1, ← g2, rs_nat e3 f2 h3 b2, ← g3, ra_nat _ b0, ra_nat _ b1, ra_nat _ b2, ra_nat _ b3, ra_nat _ b4, rs_nat _ _ bm b3]

theorem carried_any (e0 e1 e2 e3 e4 : Nat) (h0 : Lt63 e0) (h1 : Lt63 e1) (h2 : Lt63 e2) (h3 : Lt63 e3) (h4 : Lt63 e4) (w : World) :
    Calls Try.prog 34 #[.agg (c5 e0 e1 e2 e3 e4)] w fun e w' => ∃ r0 r1 r2 r3 r4 : Nat, Car e0 e1 e2 e3 e4 r0 r1 r2 r3 r4 ∧ e = .returned (.agg (c5 r0 r1 r2 r3 r4)) ∧
      w' = (((((w.alloc (.cells (c5 r0 r1 r2 r3 r4) 37)).alloc (.cells (c5 r0 r1 r2 r3 r4) 37)).drew).drew).drew).drew := by
  obtain ⟨r0, r1, r2, r3, r4, hc, he⟩ := cr_nat e0 e1 e2 e3 e4 h0 h1 h2 h3 h4
  refine (carried_raw e0 e1 e2 e3 e4 w).mono fun e w' ⟨h1, h2⟩ => ?_
  rw [he] at h1 h2
  exact ⟨r0, r1, r2, r3, r4, hc, h1, h2⟩
theorem carried_bl (e0 e1 e2 e3 e4 : Nat) (h0 : Lt63 e0) (h1 : Lt63 e1) (h2 : Lt63 e2) (h3 : Lt63 e3) (h4 : Lt63 e4) (w : World) :
    Calls Try.prog 34 #[.agg (c5 e0 e1 e2 e3 e4)] w fun e w' => ∃ r0 r1 r2 r3 r4 : Nat, Hid (Car e0 e1 e2 e3 e4 r0 r1 r2 r3 r4) ∧ e = .returned (.agg (c5 r0 r1 r2 r3 r4)) ∧
      Below w.heap.size w w' := by
  refine (carried_any e0 e1 e2 e3 e4 h0 h1 h2 h3 h4 w).mono fun e w' ⟨r0, r1, r2, r3, r4, hc, h1, h2⟩ => ⟨r0, r1, r2, r3, r4, hc, h1, ?_⟩
  subst h2
  repeat (first | exact Below.refl _ _ | assumption | refine Below.drew ?_ | refine bl_alloc ?_ _ | refine bl_drewN ?_ _)
end Go.Proofs.Ytkmgdpbmkbpkjaa
