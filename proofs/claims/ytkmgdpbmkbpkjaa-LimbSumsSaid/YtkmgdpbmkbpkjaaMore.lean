/-
  math/bits.Mul64, math/bits.Add64 and limb's wide.more: a number of 128 bits, and a product, together.
-/
import Derived.Test.YtkmgdpbmkbpkjaaBase
namespace Go.Proofs.Ytkmgdpbmkbpkjaa
open Go.RowKit

def mulH (x y : Nat) : Nat := x * y / 18446744073709551616
def mulL (x y : Nat) : Nat := x * y % 18446744073709551616
def addS (x y c : Nat) : Nat := (x + y + c) % 18446744073709551616
def addC (x y c : Nat) : Nat := (x + y + c) / 18446744073709551616
/-- Below 2^64. -/
def U (x : Nat) : Prop := x < 18446744073709551616

set_option maxRecDepth 100000 in
set_option maxHeartbeats 400000 in
theorem mul64_any (x y : Nat) (hx : U x) (hy : U y) (w : World) :
    Calls Try.prog 33 #[.int .u64 x, .int .u64 y] w fun e w' => e = .returned (.tuple #[.int .u64 (mulH x y : Nat), .int .u64 (mulL x y : Nat)]) ∧ w = w' := by
  go_enter Try.func33, Try.ntmps33
  go_wp2
  go_ret2
  unfold U at hx hy
  refine ⟨?_, rfl⟩
  have h0 : ∀ z : Int, 0 ≤ z % 18446744073709551616 ∧ z % 18446744073709551616 < 18446744073709551616 := fun z => by omega
  have k := mul64_arith x y (by omega) (by omega) (by omega) (by omega)
  simp only [IntKind.wrap_u64]
  rw [and_low32 (x : Int) (by omega) (by omega), and_low32 (y : Int) (by omega) (by omega), and_low32 _ (h0 _).1 (h0 _).2, k]
  simp [mulH, mulL]

theorem add64_c (x y c : Nat) (hc : c ≤ 1) (w : World) : (callFunc 32 #[.int .u64 x, .int .u64 y, .int .u64 c]).run Try.prog w =
      .ok (.value (.tuple #[.int .u64 (addS x y c : Nat), .int .u64 (addC x y c : Nat)])) w := by
  rw [run_callFunc_extern Try.func32 (by kernel_rfl) (by kernel_rfl) (by kernel_rfl) (e := add64Entry) (by kernel_rfl), run_add64 x y c (by omega) (by omega) (by omega) (by omega)]
  simp only [Result.andThen, addS, addC]
  congr 5 <;> omega
theorem add64_0 (x y : Nat) (w : World) : (callFunc 32 #[.int .u64 x, .int .u64 y, .int .u64 0]).run Try.prog w =
      .ok (.value (.tuple #[.int .u64 (addS x y 0 : Nat), .int .u64 (addC x y 0 : Nat)])) w := add64_c x y 0 (by omega) w

theorem mulH_lt (x y : Nat) (hx : U x) (hy : U y) : U (mulH x y) := by
  unfold U mulH at *
  have : x * y < 18446744073709551616 * 18446744073709551616 := Nat.mul_lt_mul'' hx hy
  omega
theorem mulL_lt (x y : Nat) : U (mulL x y) := by unfold U mulL; omega
theorem addS_lt (x y c : Nat) : U (addS x y c) := by unfold U addS; omega
theorem addC_le (x y c : Nat) (hx : U x) (hy : U y) (hc : c ≤ 1) : addC x y c ≤ 1 := by unfold addC U at *; omega

/-- What more answers. -/
def moH (h l a b : Nat) : Nat := addS h (mulH a b) (addC l (mulL a b) 0)
def moL (l a b : Nat) : Nat := addS l (mulL a b) 0

set_option maxRecDepth 100000 in
set_option maxHeartbeats 400000 in
theorem more_any (h l a b : Nat) (hl : U l) (ha : U a) (hb : U b) (w : World) :
    Calls Try.prog 31 #[.agg #[.int .u64 h, .int .u64 l], .int .u64 a, .int .u64 b] w fun e w' =>
      e = .returned (.agg #[.int .u64 (moH h l a b : Nat), .int .u64 (moL l a b : Nat)]) ∧ Below w.heap.size w w' := by
  have a1 := add64_0 l (mulL a b)
  have a2 := add64_c h (mulH a b) (addC l (mulL a b) 0) (addC_le _ _ _ hl (mulL_lt _ _) (by omega))
  go_enter Try.func31, Try.ntmps31
  go_wp2_with (go_at_call 33; refine (mul64_any a b ha hb _).mono ?_; rintro e w1 ⟨rfl, rfl⟩)
  refine bodyPost_ret (v := ?v) ?h rfl ?_
  case h => simp [results, Try.results31, go_sem]; rfl
  refine ⟨rfl, ?_⟩
  repeat (first | exact Below.refl _ _ | assumption | refine Below.drew ?_ | refine bl_alloc ?_ _ | refine bl_drewN ?_ _)
end Go.Proofs.Ytkmgdpbmkbpkjaa
