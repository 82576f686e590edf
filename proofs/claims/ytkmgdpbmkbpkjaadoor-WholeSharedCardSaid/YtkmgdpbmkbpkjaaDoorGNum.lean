/-
  math/bits.Mul64, math/bits.Add64 and limb's wide.more: a number of 128 bits, and a product, together.
  Plain laws of the forms that the walks over package limb leave: 64-bit words, limbs of 51 bits. No program.
  limb's wide.more, told by the number that it gathers.
  limb's element.carried: the same number in limbs that are hardly above 51 bits.
  limb's element.carried, told by numbers.
  Plain laws for limb's element.store: words and bytes of a number of five limbs. No program.
  Prime numbers: Euclid, Fermat, Pocklington; that 2^255 - 19 and the order of the base point are prime. No program.
-/
import Derived.Test.YtkmgdpbmkbpkjaaDoorGBase
namespace Go.Proofs.YtkmgdpbmkbpkjaaDoor
open Go.RowKit

def mulH (x y : Nat) : Nat := x * y / 18446744073709551616
def mulL (x y : Nat) : Nat := x * y % 18446744073709551616
def addS (x y c : Nat) : Nat := (x + y + c) % 18446744073709551616
def addC (x y c : Nat) : Nat := (x + y + c) / 18446744073709551616
/-- Below 2^64. -/
def U (x : Nat) : Prop := x < 18446744073709551616

set_option maxRecDepth 100000 in
set_option maxHeartbeats 400000 in
theorem mul64_any (x y : Nat) (hx : U x) (hy : U y) (w : World) :
    Calls Tryd.prog 71 #[.int .u64 x, .int .u64 y] w fun e w' => e = .returned (.tuple #[.int .u64 (mulH x y : Nat), .int .u64 (mulL x y : Nat)]) ∧ w = w' := by
  go_enter Tryd.func71, Tryd.ntmps71
  go_wp2
  go_ret2
  unfold U at hx hy
  refine ⟨?_, rfl⟩
  have h0 : ∀ z : Int, 0 ≤ z % 18446744073709551616 ∧ z % 18446744073709551616 < 18446744073709551616 := fun z => by omega
  have k := mul64_arith x y (by omega) (by omega) (by omega) (by omega)
  simp only [IntKind.wrap_u64]
  rw [and_low32 (x : Int) (by omega) (by omega), and_low32 (y : Int) (by omega) (by omega), and_low32 _ (h0 _).1 (h0 _).2, k]
  simp [mulH, mulL]

theorem add64_c (x y c : Nat) (hc : c ≤ 1) (w : World) : (callFunc 70 #[.int .u64 x, .int .u64 y, .int .u64 c]).run Tryd.prog w =
      .ok (.value (.tuple #[.int .u64 (addS x y c : Nat), .int .u64 (addC x y c : Nat)])) w := by
  rw [run_callFunc_extern Tryd.func70 (by kernel_rfl) (by kernel_rfl) (by kernel_rfl) (e := add64Entry) (by kernel_rfl), run_add64 x y c (by omega) (by omega) (by omega) (by omega)]
  simp only [Result.andThen, addS, addC]
  congr 5 <;> omega
theorem add64_0 (x y : Nat) (w : World) : (callFunc 70 #[.int .u64 x, .int .u64 y, .int .u64 0]).run Tryd.prog w =
      .ok (.value (.tuple #[.int .u64 (addS x y 0 : Nat), .int .u64 (addC x y 0 : Nat)])) w := add64_c x y 0 (by omega) w

theorem mulH_lt (x y : Nat) (hx : U x) (hy : U y) : U (mulH x y) := by
  unfold U mulH at *
  have : x * y < 18446744073709551616 * 18446744073709551616 := Nat.mul_lt_mul'' hx hy
  omega
theorem mulL_lt (x y : Nat) : U (mulL x y) := by unfold U mulL; omega
theorem addS_lt (x y c : Nat) : U (addS x y c) := by unfold U addS; omega
theorem addC_le (x y c : Nat) (hx : U x) (hy : U y) (hc : c ≤ 1) : addC x y c ≤ 1 := by unfold addC U at *; omega

/-- What more answers. -/
def moH (h l a b : Nat) : Nat := addS h (mulH a b) (addC l (mulL a b) 0)
def moL (l a b : Nat) : Nat := addS l (mulL a b) 0

set_option maxRecDepth 100000 in
set_option maxHeartbeats 400000 in
theorem more_any (h l a b : Nat) (hl : U l) (ha : U a) (hb : U b) (w : World) :
    Calls Tryd.prog 69 #[.agg #[.int .u64 h, .int .u64 l], .int .u64 a, .int .u64 b] w fun e w' =>
      e = .returned (.agg #[.int .u64 (moH h l a b : Nat), .int .u64 (moL l a b : Nat)]) ∧ Below w.heap.size w w' := by
  have a1 := add64_0 l (mulL a b)
  have a2 := add64_c h (mulH a b) (addC l (mulL a b) 0) (addC_le _ _ _ hl (mulL_lt _ _) (by omega))
  go_enter Tryd.func69, Tryd.ntmps69
  go_wp2_with (go_at_call 71; refine (mul64_any a b ha hb _).mono ?_; rintro e w1 ⟨rfl, rfl⟩)
  refine bodyPost_ret (v := ?v) ?h rfl ?_
  case h => simp [results, Tryd.results69, go_sem]; rfl
  refine ⟨rfl, ?_⟩
  repeat (first | exact Below.refl _ _ | assumption | refine Below.drew ?_ | refine bl_alloc ?_ _ | refine bl_drewN ?_ _)
end Go.Proofs.YtkmgdpbmkbpkjaaDoor
set_option linter.unusedVariables false
set_option linter.unusedSimpArgs false
namespace Go.Proofs.YtkmgdpbmkbpkjaaDoor
open Go.RowKit

theorem and_mask (z : Nat) (h : z < 18446744073709551616) : bits .and .u64 (z : Int) 2251799813685247 = ((z % 2251799813685248 : Nat) : Int) := by
  have e := u64_and_nat z 2251799813685247 h (by omega)
  have e2 : z &&& 2251799813685247 = z % 2251799813685248 := Nat.and_two_pow_sub_one_eq_mod z 51
  rw [e2] at e
  exact e
theorem or_add (x k j : Nat) (hj : j < 2 ^ k) (hs : x * 2 ^ k + j < 18446744073709551616) : bits .or .u64 ((x * 2 ^ k : Nat) : Int) (j : Int) = ((x * 2 ^ k + j : Nat) : Int) := by
  rw [u64_or_nat _ _ (by omega) (by omega)]
  rw [Nat.mul_comm, Nat.two_pow_add_eq_or_of_lt hj]
theorem or_add' (x k j : Nat) (hj : j < 2 ^ k) (hs : x * 2 ^ k + j < 18446744073709551616) : bits .or .u64 (j : Int) ((x * 2 ^ k : Nat) : Int) = ((x * 2 ^ k + j : Nat) : Int) := by
  rw [u64_or_nat _ _ (by omega) (by omega)]
  rw [Nat.or_comm, Nat.mul_comm, Nat.two_pow_add_eq_or_of_lt hj]
theorem wrap_nat (z : Nat) : IntKind.u64.wrap (z : Int) = ((z % 18446744073709551616 : Nat) : Int) := by
  rw [IntKind.wrap_u64]; omega
theorem wrap_id (z : Nat) (h : z < 18446744073709551616) : IntKind.u64.wrap (z : Int) = (z : Int) := by
  rw [wrap_nat, Nat.mod_eq_of_lt h]

/-- What carried does to five limbs. -/
def Car (e0 e1 e2 e3 e4 r0 r1 r2 r3 r4 : Nat) : Prop :=
  ∃ f0 f1 f2 f3, f0 = e0 + 19 * (e4 / 2251799813685248) ∧ f1 = e1 + f0 / 2251799813685248 ∧ f2 = e2 + f1 / 2251799813685248 ∧ f3 = e3 + f2 / 2251799813685248 ∧
    r0 = f0 % 2251799813685248 ∧ r1 = f1 % 2251799813685248 ∧ r2 = f2 % 2251799813685248 ∧ r3 = f3 % 2251799813685248 ∧ r4 = e4 % 2251799813685248 + f3 / 2251799813685248
/-- The number of five limbs. -/
def val5 (a b c d e : Nat) : Nat := a + b * 2251799813685248 + c * 5070602400912917605986812821504 + d * 11417981541647679048466287755595961091061972992 + e * 25711008708143844408671393477458601640355247900524685364822016
/-- 2^255 - 19. -/
def p25 : Nat := 57896044618658097711785492504343953926634992332820282019728792003956564819949
/-- Below 2^63. -/
def Lt63 (x : Nat) : Prop := x < 9223372036854775808
/-- Below 2^52. -/
def Lt52 (x : Nat) : Prop := x < 4503599627370496

theorem Car.val {e0 e1 e2 e3 e4 r0 r1 r2 r3 r4 : Nat} (h : Car e0 e1 e2 e3 e4 r0 r1 r2 r3 r4) :
    val5 r0 r1 r2 r3 r4 + e4 / 2251799813685248 * p25 = val5 e0 e1 e2 e3 e4 := by
  obtain ⟨f0, f1, f2, f3, h0, h1, h2, h3, k0, k1, k2, k3, k4⟩ := h
  unfold val5 p25
  omega
theorem Car.small {e0 e1 e2 e3 e4 r0 r1 r2 r3 r4 : Nat} (h : Car e0 e1 e2 e3 e4 r0 r1 r2 r3 r4) (h3 : Lt63 e3) (h2 : Lt63 e2) (h1 : Lt63 e1) (h0 : Lt63 e0) (h4 : Lt63 e4) :
    r0 < 2251799813685248 ∧ r1 < 2251799813685248 ∧ r2 < 2251799813685248 ∧ r3 < 2251799813685248 ∧ r4 < 2251799813685248 + 8192 := by
  obtain ⟨f0, f1, f2, f3, g0, g1, g2, g3, k0, k1, k2, k3, k4⟩ := h
  unfold Lt63 at *
  omega
theorem Car.mod {e0 e1 e2 e3 e4 r0 r1 r2 r3 r4 : Nat} (h : Car e0 e1 e2 e3 e4 r0 r1 r2 r3 r4) : val5 r0 r1 r2 r3 r4 % p25 = val5 e0 e1 e2 e3 e4 % p25 := by
  rw [← h.val, Nat.add_mul_mod_self_right]
end Go.Proofs.YtkmgdpbmkbpkjaaDoor
set_option linter.unusedVariables false
set_option linter.unusedSimpArgs false
namespace Go.Proofs.YtkmgdpbmkbpkjaaDoor
open Go.RowKit

/-- Two words that hold s, gathered of at most k products. -/
def Ac (k : Nat) (h l : Int) (s : Nat) : Prop := 0 ≤ l ∧ l < 18446744073709551616 ∧ 0 ≤ h ∧ h * 18446744073709551616 + l = (s : Int) ∧ s ≤ k * 649037107316853453566312041152512
theorem Ac.zero : Ac 0 0 0 0 := by unfold Ac; omega
/-- An Int that is a number below 2^52 (a limb), or below 2^57 (19 times one). -/
def Lm (x : Int) (a : Nat) : Prop := x = (a : Int) ∧ a < 4503599627370496
def Lp (x : Int) (a : Nat) : Prop := x = (a : Int) ∧ a < 144115188075855872

theorem more_nat {h l a b s k : Nat} (hs : h * 18446744073709551616 + l = s) (hl : l < 18446744073709551616) (hk : s ≤ k * 649037107316853453566312041152512) (hk2 : k ≤ 8)
    (ha : a < 4503599627370496) (hb : b < 144115188075855872) : Ac (k + 1) (moH h l a b : Nat) (moL l a b : Nat) (s + a * b) := by
  have hab : a * b ≤ 4503599627370496 * 144115188075855872 := Nat.mul_le_mul (by omega) (by omega)
  unfold Ac moH moL addS addC mulH mulL
  generalize a * b = m at *
  omega

theorem more_v {h l a b : Int} {A B s k : Nat} (hA : Ac k h l s) (hk : k ≤ 8) (ha : Lm a A) (hb : Lp b B) (w : World) :
    Calls Tryd.prog 69 #[.agg #[.int .u64 h, .int .u64 l], .int .u64 a, .int .u64 b] w fun e w' => ∃ h' l' : Nat,
      e = .returned (.agg #[.int .u64 h', .int .u64 l']) ∧ Ac (k + 1) h' l' (s + A * B) ∧ Below w.heap.size w w' := by
  obtain ⟨l0, l1, h0, hs, hb'⟩ := hA
  obtain ⟨rfl, ha'⟩ := ha
  obtain ⟨rfl, hb''⟩ := hb
  obtain ⟨L, rfl⟩ := Int.eq_ofNat_of_zero_le l0
  obtain ⟨K, rfl⟩ := Int.eq_ofNat_of_zero_le h0
  have hs' : K * 18446744073709551616 + L = s := by omega
  refine (more_any K L A B (by unfold U; omega) (by unfold U; omega) (by unfold U; omega) w).mono fun e w' ⟨he, hbl⟩ => ⟨_, _, he, ?_, hbl⟩
  exact more_nat hs' (by omega) hb' hk ha' hb''

theorem car_or {H L c S : Nat} (hA : Ac 5 H L S) (hc : Lt63 c) :
    bits .or .u64 (IntKind.u64.wrap (IntKind.u64.wrap ((H : Int) + (addC L c 0 : Nat)) * 8192)) (((addS L c 0 : Nat) : Int) / 2251799813685248) = (((S + c) / 2251799813685248 : Nat) : Int) := by
  unfold Ac Lt63 addC addS at *
  obtain ⟨g, hg⟩ : ∃ g, g = H + (L + c + 0) / 18446744073709551616 := ⟨_, rfl⟩
  obtain ⟨l, hl⟩ : ∃ l, l = (L + c + 0) % 18446744073709551616 := ⟨_, rfl⟩
  rw [← Int.natCast_add, ← hg, ← hl, wrap_id g (by omega)]
  have e1 : ((g : Int) * 8192) = ((g * 2 ^ 13 : Nat) : Int) := by omega
  have e2 : ((l : Int) / 2251799813685248) = ((l / 2251799813685248 : Nat) : Int) := by omega
  rw [e1, e2, wrap_id _ (by omega), or_add g 13 _ (by omega) (by omega)]
  congr 1
  omega
theorem car_and {H L c S : Nat} (hA : Ac 5 H L S) (hc : Lt63 c) :
    bits .and .u64 ((addS L c 0 : Nat) : Int) 2251799813685247 = (((S + c) % 2251799813685248 : Nat) : Int) := by
  rw [and_mask _ (addS_lt _ _ _)]
  unfold Ac Lt63 addS at *
  congr 1
  omega
theorem ac_mul (c : Nat) (hc : Lt63 c) : Ac 5 (mulH c 19 : Nat) (mulL c 19 : Nat) (c * 19) := by
  unfold Ac mulH mulL Lt63 at *
  omega
theorem ac_lt {H L c S : Nat} (hA : Ac 5 H L S) (hc : Lt63 c) : Lt63 ((S + c) / 2251799813685248) := by
  unfold Ac Lt63 at *
  omega
theorem add64_00 (x : Nat) (w : World) : (callFunc 70 #[.int .u64 x, .int .u64 0, .int .u64 0]).run Tryd.prog w =
      .ok (.value (.tuple #[.int .u64 (addS x 0 0 : Nat), .int .u64 (addC x 0 0 : Nat)])) w := add64_c x 0 0 (by omega) w
end Go.Proofs.YtkmgdpbmkbpkjaaDoor
namespace Go.Proofs.YtkmgdpbmkbpkjaaDoor
open Go.RowKit

/-- The five limbs as the walk leaves them. -/
def ra (x : Int) : Int := bits .and .u64 x 2251799813685247
def rs0 (e0 e4 : Int) : Int := IntKind.u64.wrap (e0 + IntKind.u64.wrap (19 * (e4 / 2251799813685248)))
def rs (e f : Int) : Int := IntKind.u64.wrap (e + f / 2251799813685248)
def cr (e0 e1 e2 e3 e4 : Int) : Array Value :=
  #[.int .u64 (ra (rs0 e0 e4)), .int .u64 (ra (rs e1 (rs0 e0 e4))), .int .u64 (ra (rs e2 (rs e1 (rs0 e0 e4)))),
    .int .u64 (ra (rs e3 (rs e2 (rs e1 (rs0 e0 e4))))), .int .u64 (rs (ra e4) (rs e3 (rs e2 (rs e1 (rs0 e0 e4)))))]

set_option maxRecDepth 100000 in
set_option maxHeartbeats 2000000 in
theorem carried_raw (e0 e1 e2 e3 e4 : Int) (w : World) :
    Calls Tryd.prog 56 #[.agg #[.int .u64 e0, .int .u64 e1, .int .u64 e2, .int .u64 e3, .int .u64 e4]] w fun e w' =>
      e = .returned (.agg (cr e0 e1 e2 e3 e4)) ∧ w' = (((((w.alloc (.cells (cr e0 e1 e2 e3 e4) 70)).alloc (.cells (cr e0 e1 e2 e3 e4) 70)).drew).drew).drew).drew := by
  go_enter Tryd.func56, Tryd.ntmps56
  go_wp2
  refine wp_loop_rounds 5 ?_
  rw [rounds_succ]
  go_wp2
  refine drawn_region 9 (by kernel_rfl) (by kernel_rfl) ?_
  simp only [List.take_succ_cons, List.take_zero, List.drop_succ_cons, List.drop_zero]
  repeat (refine wpStill_step (fun K hK => ?_); go_simp; (try go_bits); refine hK _ ?_; clear hK K)
  refine wpStill_nil ?_
  go_wp2
  rw [rounds_succ]
  go_wp2
  refine drawn_region 9 (by kernel_rfl) (by kernel_rfl) ?_
  simp only [List.take_succ_cons, List.take_zero, List.drop_succ_cons, List.drop_zero]
  repeat (refine wpStill_step (fun K hK => ?_); go_simp; (try go_bits); refine hK _ ?_; clear hK K)
  refine wpStill_nil ?_
  go_wp2
  rw [rounds_succ]
  go_wp2
  refine drawn_region 9 (by kernel_rfl) (by kernel_rfl) ?_
  simp only [List.take_succ_cons, List.take_zero, List.drop_succ_cons, List.drop_zero]
  repeat (refine wpStill_step (fun K hK => ?_); go_simp; (try go_bits); refine hK _ ?_; clear hK K)
  refine wpStill_nil ?_
  go_wp2
  rw [rounds_succ]
  go_wp2
  refine drawn_region 9 (by kernel_rfl) (by kernel_rfl) ?_
  simp only [List.take_succ_cons, List.take_zero, List.drop_succ_cons, List.drop_zero]
  repeat (refine wpStill_step (fun K hK => ?_); go_simp; (try go_bits); refine hK _ ?_; clear hK K)
  refine wpStill_nil ?_
  go_wp2
  rw [rounds_succ]
  go_wp2
  refine bodyPost_ret (v := ?v) ?h rfl ?_
  case h => simp [results, Tryd.results56, go_sem]; rfl
  exact ⟨rfl, rfl⟩
end Go.Proofs.YtkmgdpbmkbpkjaaDoor
set_option linter.unusedVariables false
set_option linter.unusedSimpArgs false
namespace Go.Proofs.YtkmgdpbmkbpkjaaDoor
open Go.RowKit

theorem rs0_nat (e0 e4 : Nat) (h0 : Lt63 e0) (h4 : Lt63 e4) : rs0 (e0 : Int) (e4 : Int) = ((e0 + 19 * (e4 / 2251799813685248) : Nat) : Int) := by
  unfold rs0 Lt63 at *
  have e : (19 * ((e4 : Int) / 2251799813685248)) = ((19 * (e4 / 2251799813685248) : Nat) : Int) := by omega
  rw [e, wrap_id _ (by omega), ← Int.natCast_add, wrap_id _ (by omega)]
theorem rs_nat (e f : Nat) (he : Lt63 e) (hf : f < 18446744073709551616) : rs (e : Int) (f : Int) = ((e + f / 2251799813685248 : Nat) : Int) := by
  unfold rs Lt63 at *
  have e' : ((f : Int) / 2251799813685248) = ((f / 2251799813685248 : Nat) : Int) := by omega
  rw [e', ← Int.natCast_add, wrap_id _ (by omega)]
theorem ra_nat (f : Nat) (hf : f < 18446744073709551616) : ra (f : Int) = ((f % 2251799813685248 : Nat) : Int) := and_mask f hf

theorem cr_nat (e0 e1 e2 e3 e4 : Nat) (h0 : Lt63 e0) (h1 : Lt63 e1) (h2 : Lt63 e2) (h3 : Lt63 e3) (h4 : Lt63 e4) :
    ∃ r0 r1 r2 r3 r4, Car e0 e1 e2 e3 e4 r0 r1 r2 r3 r4 ∧ cr (e0 : Int) e1 e2 e3 e4 = c5 r0 r1 r2 r3 r4 := by
  obtain ⟨f0, g0⟩ : ∃ f0, f0 = e0 + 19 * (e4 / 2251799813685248) := ⟨_, rfl⟩
  obtain ⟨f1, g1⟩ : ∃ f1, f1 = e1 + f0 / 2251799813685248 := ⟨_, rfl⟩
  obtain ⟨f2, g2⟩ : ∃ f2, f2 = e2 + f1 / 2251799813685248 := ⟨_, rfl⟩
  obtain ⟨f3, g3⟩ : ∃ f3, f3 = e3 + f2 / 2251799813685248 := ⟨_, rfl⟩
  refine ⟨_, _, _, _, _, ⟨f0, f1, f2, f3, g0, g1, g2, g3, rfl, rfl, rfl, rfl, rfl⟩, ?_⟩
  have b0 : f0 < 18446744073709551616 := by unfold Lt63 at *; omega
  have b1 : f1 < 18446744073709551616 := by unfold Lt63 at *; omega
  have b2 : f2 < 18446744073709551616 := by unfold Lt63 at *; omega
  have b3 : f3 < 18446744073709551616 := by unfold Lt63 at *; omega
  have b4 : e4 < 18446744073709551616 := by unfold Lt63 at *; omega
  have bm : Lt63 (e4 % 2251799813685248) := by unfold Lt63 at *; omega
  unfold cr c5
  rw [rs0_nat e0 e4 h0 h4, ← g0, rs_nat e1 f0 h1 b0, ← g1, rs_nat e2 f1 h2 b1, ← g2, rs_nat e3 f2 h3 b2, ← g3, ra_nat _ b0, ra_nat _ b1, ra_nat _ b2, ra_nat _ b3, ra_nat _ b4, rs_nat _ _ bm b3]

theorem carried_any (e0 e1 e2 e3 e4 : Nat) (h0 : Lt63 e0) (h1 : Lt63 e1) (h2 : Lt63 e2) (h3 : Lt63 e3) (h4 : Lt63 e4) (w : World) :
    Calls Tryd.prog 56 #[.agg (c5 e0 e1 e2 e3 e4)] w fun e w' => ∃ r0 r1 r2 r3 r4 : Nat, Car e0 e1 e2 e3 e4 r0 r1 r2 r3 r4 ∧ e = .returned (.agg (c5 r0 r1 r2 r3 r4)) ∧
      w' = (((((w.alloc (.cells (c5 r0 r1 r2 r3 r4) 70)).alloc (.cells (c5 r0 r1 r2 r3 r4) 70)).drew).drew).drew).drew := by
  obtain ⟨r0, r1, r2, r3, r4, hc, he⟩ := cr_nat e0 e1 e2 e3 e4 h0 h1 h2 h3 h4
  refine (carried_raw e0 e1 e2 e3 e4 w).mono fun e w' ⟨h1, h2⟩ => ?_
  rw [he] at h1 h2
  exact ⟨r0, r1, r2, r3, r4, hc, h1, h2⟩
theorem carried_bl (e0 e1 e2 e3 e4 : Nat) (h0 : Lt63 e0) (h1 : Lt63 e1) (h2 : Lt63 e2) (h3 : Lt63 e3) (h4 : Lt63 e4) (w : World) :
    Calls Tryd.prog 56 #[.agg (c5 e0 e1 e2 e3 e4)] w fun e w' => ∃ r0 r1 r2 r3 r4 : Nat, Hid (Car e0 e1 e2 e3 e4 r0 r1 r2 r3 r4) ∧ e = .returned (.agg (c5 r0 r1 r2 r3 r4)) ∧
      Below w.heap.size w w' := by
  refine (carried_any e0 e1 e2 e3 e4 h0 h1 h2 h3 h4 w).mono fun e w' ⟨r0, r1, r2, r3, r4, hc, h1, h2⟩ => ⟨r0, r1, r2, r3, r4, hc, h1, ?_⟩
  subst h2
  repeat (first | exact Below.refl _ _ | assumption | refine Below.drew ?_ | refine bl_alloc ?_ _ | refine bl_drewN ?_ _)
end Go.Proofs.YtkmgdpbmkbpkjaaDoor
set_option linter.unusedVariables false
set_option linter.unusedSimpArgs false
namespace Go.Proofs.YtkmgdpbmkbpkjaaDoor
open Go.RowKit

theorem Car.top {e0 e1 e2 e3 e4 r0 r1 r2 r3 r4 s0 s1 s2 s3 s4 : Nat} (b0 : Lt63 e0) (b1 : Lt63 e1) (b2 : Lt63 e2) (b3 : Lt63 e3) (b4 : Lt63 e4) (h : Car e0 e1 e2 e3 e4 r0 r1 r2 r3 r4) (k : Car r0 r1 r2 r3 r4 s0 s1 s2 s3 s4) :
    s0 < 2251799813685248 ∧ s1 < 2251799813685248 ∧ s2 < 2251799813685248 ∧ s3 < 2251799813685248 ∧ s4 ≤ 2251799813685248 := by
  have sm := h.small b3 b2 b1 b0 b4
  obtain ⟨f0, f1, f2, f3, g0, g1, g2, g3, k0, k1, k2, k3, k4⟩ := k
  omega
/-- How store goes on from limbs that were carried twice. -/
def St (s0 s1 s2 s3 s4 u0 u1 u2 u3 u4 : Nat) : Prop := ∃ q0 q1 q2 q3 q4 t0 t1 t2 t3 t4 : Nat,
  (q0 = (s0 + 19) / 2251799813685248 ∧ q1 = (s1 + q0) / 2251799813685248 ∧ q2 = (s2 + q1) / 2251799813685248 ∧ q3 = (s3 + q2) / 2251799813685248 ∧ q4 = (s4 + q3) / 2251799813685248) ∧
  (t0 = s0 + 19 * q4 ∧ t1 = s1 + t0 / 2251799813685248 ∧ t2 = s2 + t1 / 2251799813685248 ∧ t3 = s3 + t2 / 2251799813685248 ∧ t4 = s4 + t3 / 2251799813685248) ∧
  (u0 = t0 % 2251799813685248 ∧ u1 = t1 % 2251799813685248 ∧ u2 = t2 % 2251799813685248 ∧ u3 = t3 % 2251799813685248 ∧ u4 = t4 % 2251799813685248)
theorem div_up (a b k : Nat) (h : b = a / k) : ((a : Int) / (k : Int)) = (b : Int) := by subst h; exact (Int.natCast_ediv a k).symm
theorem add_up (a b c : Nat) (h : c = a + b) (hc : c < 18446744073709551616) : IntKind.u64.wrap ((a : Int) + (b : Int)) = (c : Int) := by subst h; rw [← Int.natCast_add, wrap_id _ hc]
theorem and_up (a b : Nat) (h : b = a % 2251799813685248) (ha : a < 18446744073709551616) : bits .and .u64 (a : Int) 2251799813685247 = (b : Int) := by subst h; exact and_mask a ha

/-- The i-th word of 64 bits. -/
def wo (R i : Nat) : Nat := R / 18446744073709551616 ^ i % 18446744073709551616
/-- The first n bytes, zeros behind. -/
def c8p (R n : Nat) : Array Value := ((List.range 32).map fun j => Value.int .u8 (if j < n then ((R / 256 ^ j % 256 : Nat) : Int) else 0)).toArray
theorem c8p_zero (R : Nat) : c8p R 0 = #[.int .u8 0, .int .u8 0, .int .u8 0, .int .u8 0, .int .u8 0, .int .u8 0, .int .u8 0, .int .u8 0, .int .u8 0, .int .u8 0, .int .u8 0, .int .u8 0, .int .u8 0, .int .u8 0, .int .u8 0, .int .u8 0, .int .u8 0, .int .u8 0, .int .u8 0, .int .u8 0, .int .u8 0, .int .u8 0, .int .u8 0, .int .u8 0, .int .u8 0, .int .u8 0, .int .u8 0, .int .u8 0, .int .u8 0, .int .u8 0, .int .u8 0, .int .u8 0] := by
  simp [c8p, List.range_succ]
theorem c8p_all (R : Nat) : c8p R 32 = c8 R := by
  unfold c8p c8
  refine congrArg List.toArray (List.map_congr_left fun j hj => ?_)
  rw [if_pos (List.mem_range.1 hj)]
theorem size_c8p (R n : Nat) : (c8p R n).size = 32 := by simp [c8p]
theorem get_c8p (R n j : Nat) (h : j < 32) : (c8p R n)[j]? = some (.int .u8 (if j < n then ((R / 256 ^ j % 256 : Nat) : Int) else 0)) := by
  simp [c8p, h]
theorem put_c8p (R n : Nat) (h : n < 32) : (c8p R n).setIfInBounds n (.int .u8 ((R / 256 ^ n % 256 : Nat) : Int)) = c8p R (n + 1) := by
  apply Array.ext
  · simp [size_c8p]
  · intro j h1 h2
    have hj : j < 32 := by simpa [size_c8p] using h2
    have g1 := get_c8p R n j hj
    have g2 := get_c8p R (n + 1) j hj
    rw [Array.getElem?_eq_getElem (by simpa [size_c8p] using hj)] at g1
    rw [Array.getElem?_eq_getElem h2] at g2
    rw [Option.some.inj g2, Array.getElem_setIfInBounds (by simpa [size_c8p] using hj)]
    by_cases e : n = j
    · subst e; simp
    · rw [if_neg e, Option.some.inj g1]
      by_cases hl : j < n
      · rw [if_pos hl, if_pos (by omega)]
      · rw [if_neg hl, if_neg (by omega)]
theorem byte_wo (R i k : Nat) (hk : k < 8) : IntKind.u8.wrap (((wo R i : Nat) : Int) / 2 ^ (8 * k)) = ((R / 256 ^ (8 * i + k) % 256 : Nat) : Int) := by
  rw [IntKind.wrap_u8']
  have e : (((wo R i : Nat) : Int) / 2 ^ (8 * k)) = ((wo R i / 256 ^ k : Nat) : Int) := by
    rw [Int.natCast_ediv, Int.natCast_pow, Int.pow_mul]; rfl
  rw [e]
  have e2 : wo R i / 256 ^ k % 256 = R / 256 ^ (8 * i + k) % 256 := by
    unfold wo
    have e3 : (18446744073709551616 : Nat) = 256 ^ k * 256 ^ (8 - k) := by rw [← Nat.pow_add, show k + (8 - k) = 8 by omega]
    have e4 : (18446744073709551616 : Nat) ^ i = 256 ^ (8 * i) := by rw [Nat.pow_mul]
    rw [e4, Nat.pow_add, ← Nat.div_div_eq_div_mul]
    generalize R / 256 ^ (8 * i) = X
    rw [e3, Nat.mod_mul_right_div_self, Nat.mod_mod_of_dvd]
    exact ⟨256 ^ (7 - k), by rw [← Nat.pow_succ']; congr 1; omega⟩
  rw [← e2]
  omega

theorem wo_val {u0 u1 u2 u3 u4 : Nat} (h0 : u0 < 2251799813685248) (h1 : u1 < 2251799813685248) (h2 : u2 < 2251799813685248) (h3 : u3 < 2251799813685248) (h4 : u4 < 2251799813685248) :
    wo (val5 u0 u1 u2 u3 u4) 0 = u1 % 8192 * 2251799813685248 + u0 ∧ wo (val5 u0 u1 u2 u3 u4) 1 = u2 % 67108864 * 274877906944 + u1 / 8192 ∧
    wo (val5 u0 u1 u2 u3 u4) 2 = u3 % 549755813888 * 33554432 + u2 / 67108864 ∧ wo (val5 u0 u1 u2 u3 u4) 3 = u4 * 4096 + u3 / 549755813888 := by
  obtain ⟨A, hA⟩ : ∃ A, A = u1 % 8192 * 2251799813685248 + u0 := ⟨_, rfl⟩
  obtain ⟨B, hB⟩ : ∃ B, B = u2 % 67108864 * 274877906944 + u1 / 8192 := ⟨_, rfl⟩
  obtain ⟨C, hC⟩ : ∃ C, C = u3 % 549755813888 * 33554432 + u2 / 67108864 := ⟨_, rfl⟩
  obtain ⟨D, hD⟩ : ∃ D, D = u4 * 4096 + u3 / 549755813888 := ⟨_, rfl⟩
  have lA : A < 18446744073709551616 := by omega
  have lB : B < 18446744073709551616 := by omega
  have lC : C < 18446744073709551616 := by omega
  have lD : D < 18446744073709551616 := by omega
  have hV : val5 u0 u1 u2 u3 u4 = A + 18446744073709551616 * (B + 18446744073709551616 * (C + 18446744073709551616 * D)) := by
    unfold val5; omega
  rw [← hA, ← hB, ← hC, ← hD, hV]
  clear hA hB hC hD hV h0 h1 h2 h3 h4
  have d1 : ∀ a b : Nat, a < 18446744073709551616 → (a + 18446744073709551616 * b) / 18446744073709551616 = b := fun a b h => by omega
  have m1 : ∀ a b : Nat, a < 18446744073709551616 → (a + 18446744073709551616 * b) % 18446744073709551616 = a := fun a b h => by omega
  unfold wo
  have p2 : ∀ x : Nat, x / 18446744073709551616 ^ 2 = x / 18446744073709551616 / 18446744073709551616 := fun x => by rw [Nat.div_div_eq_div_mul]
  have p3 : ∀ x : Nat, x / 18446744073709551616 ^ 3 = x / 18446744073709551616 / 18446744073709551616 / 18446744073709551616 := fun x => by rw [Nat.div_div_eq_div_mul, Nat.div_div_eq_div_mul]
  rw [p2, p3, Nat.pow_zero, Nat.pow_one, Nat.div_one, d1 _ _ lA, d1 _ _ lB, d1 _ _ lC, m1 _ _ lA, m1 _ _ lB, m1 _ _ lC, Nat.mod_eq_of_lt lD]
  exact ⟨rfl, rfl, rfl, rfl⟩
end Go.Proofs.YtkmgdpbmkbpkjaaDoor
namespace Go.Proofs.YtkmgdpbmkbpkjaaDoor.Pn

/-- A prime number. -/
def Pr (p : Nat) : Prop := 2 ≤ p ∧ ∀ m, m ∣ p → m = 1 ∨ m = p

theorem Pr.coprime {p : Nat} (h : Pr p) {a : Nat} (ha : ¬ p ∣ a) : Nat.gcd p a = 1 := by
  rcases h.2 _ (Nat.gcd_dvd_left p a) with h1 | h1
  · exact h1
  · exact absurd (h1 ▸ Nat.gcd_dvd_right p a) ha

theorem Pr.dvd_mul {p : Nat} (h : Pr p) {a b : Nat} (hab : p ∣ a * b) : p ∣ a ∨ p ∣ b := by
  by_cases ha : p ∣ a
  · exact .inl ha
  · have hc : Nat.Coprime p a := h.coprime ha
    exact .inr (hc.dvd_of_dvd_mul_left hab)

theorem Pr.dvd_pow {p : Nat} (h : Pr p) {a : Nat} (n : Nat) (hd : p ∣ a ^ n) : p ∣ a := by
  induction n with
  | zero =>
    have h1 := Nat.dvd_one.1 (by simpa using hd)
    have := h.1
    omega
  | succ n ih =>
    rw [Nat.pow_succ] at hd
    rcases h.dvd_mul hd with h1 | h1
    · exact ih h1
    · exact h1

/-- Binomial coefficients. -/
def C : Nat → Nat → Nat
  | _, 0 => 1
  | 0, _ + 1 => 0
  | n + 1, k + 1 => C n k + C n (k + 1)

theorem C_zero (n : Nat) : C n 0 = 1 := by cases n <;> rfl
theorem C_over (n : Nat) : ∀ k, n < k → C n k = 0 := by
  induction n with
  | zero => intro k hk; cases k with
    | zero => omega
    | succ k => rfl
  | succ n ih => intro k hk; cases k with
    | zero => omega
    | succ k => rw [C, ih k (by omega), ih (k + 1) (by omega)]
theorem C_self (n : Nat) : C n n = 1 := by
  induction n with
  | zero => rfl
  | succ n ih => rw [C, ih, C_over n (n + 1) (by omega)]

theorem C_mul (n : Nat) : ∀ k, (k + 1) * C (n + 1) (k + 1) = (n + 1) * C n k := by
  induction n with
  | zero =>
    intro k
    cases k with
    | zero => rfl
    | succ k => rw [C_over 1 (k + 2) (by omega), C_over 0 (k + 1) (by omega), Nat.mul_zero, Nat.mul_zero]
  | succ n ih =>
    intro k
    cases k with
    | zero =>
      have h0 := ih 0
      rw [C_zero] at *
      rw [C, C_zero]
      omega
    | succ k =>
      have h1 := ih k
      have h2 := ih (k + 1)
      have e : C (n + 2) (k + 2) = C (n + 1) (k + 1) + C (n + 1) (k + 2) := rfl
      have e2 : C (n + 1) (k + 1) = C n k + C n (k + 1) := rfl
      rw [e]
      generalize C (n + 1) (k + 1) = x at *
      generalize C (n + 1) (k + 2) = y at *
      generalize C n k = u at *
      generalize C n (k + 1) = v at *
      subst e2
      grind

/-- The first m terms of the binomial sum. -/
def S (n a : Nat) : Nat → Nat
  | 0 => 0
  | m + 1 => S n a m + C n m * a ^ m

theorem S_succ (n a : Nat) : ∀ m, S (n + 1) a (m + 1) = S n a (m + 1) + a * S n a m := by
  intro m
  induction m with
  | zero => simp [S, C_zero]
  | succ m ih =>
    have e : S (n + 1) a (m + 2) = S (n + 1) a (m + 1) + C (n + 1) (m + 1) * a ^ (m + 1) := rfl
    have e2 : S n a (m + 2) = S n a (m + 1) + C n (m + 1) * a ^ (m + 1) := rfl
    have e3 : S n a (m + 1) = S n a m + C n m * a ^ m := rfl
    have e4 : C (n + 1) (m + 1) = C n m + C n (m + 1) := rfl
    rw [e, e2, ih, e4, e3, Nat.pow_succ]
    grind

theorem binom (a : Nat) : ∀ n, (1 + a) ^ n = S n a (n + 1) := by
  intro n
  induction n with
  | zero => simp [S, C]
  | succ n ih =>
    rw [S_succ]
    have e : S n a (n + 2) = S n a (n + 1) + C n (n + 1) * a ^ (n + 1) := rfl
    rw [e, C_over n (n + 1) (by omega), ← ih, Nat.pow_succ]
    grind

theorem Pr.dvd_C {p : Nat} (h : Pr p) {k : Nat} (h0 : 0 < k) (hk : k < p) : p ∣ C p k := by
  obtain ⟨n, rfl⟩ : ∃ n, p = n + 1 := ⟨p - 1, by omega⟩
  obtain ⟨j, rfl⟩ : ∃ j, k = j + 1 := ⟨k - 1, by omega⟩
  have hd : (n + 1) ∣ (j + 1) * C (n + 1) (j + 1) := ⟨C n j, C_mul n j⟩
  rcases h.dvd_mul hd with h1 | h1
  · have := Nat.le_of_dvd (by omega) h1
    omega
  · exact h1

theorem Pr.S_mod {p : Nat} (h : Pr p) (a : Nat) : ∀ m, m < p → S p a (m + 1) % p = 1 % p := by
  intro m
  induction m with
  | zero => intro _; simp [S, C_zero]
  | succ m ih =>
    intro hm
    have e : S p a (m + 2) = S p a (m + 1) + C p (m + 1) * a ^ (m + 1) := rfl
    obtain ⟨c, hc⟩ := h.dvd_C (k := m + 1) (by omega) hm
    rw [e, hc, Nat.mul_assoc, Nat.add_mul_mod_self_left]
    exact ih (by omega)

theorem Pr.step {p : Nat} (h : Pr p) (a : Nat) : (1 + a) ^ p % p = (1 + a ^ p) % p := by
  have h2 := h.1
  obtain ⟨n, rfl⟩ : ∃ n, p = n + 1 := ⟨p - 1, by omega⟩
  rw [binom]
  have e : S (n + 1) a (n + 2) = S (n + 1) a (n + 1) + C (n + 1) (n + 1) * a ^ (n + 1) := rfl
  rw [e, C_self, Nat.one_mul, Nat.add_mod, h.S_mod a n (by omega), ← Nat.add_mod]

theorem Pr.fermat_self {p : Nat} (h : Pr p) (a : Nat) : a ^ p % p = a % p := by
  induction a with
  | zero => rw [Nat.zero_pow (by have := h.1; omega)]
  | succ a ih => rw [Nat.add_comm a 1, h.step, Nat.add_mod, ih, ← Nat.add_mod]

/-- Fermat. -/
theorem Pr.fermat {p : Nat} (h : Pr p) {a : Nat} (ha : ¬ p ∣ a) : a ^ (p - 1) % p = 1 := by
  have h2 := h.1
  have h1 := h.fermat_self a
  have hc : p ∣ a * (a ^ (p - 1) - 1) := by
    have e : a * (a ^ (p - 1) - 1) = a ^ p - a := by
      obtain ⟨n, rfl⟩ : ∃ n, p = n + 1 := ⟨p - 1, by omega⟩
      rw [Nat.mul_sub, Nat.pow_succ, Nat.add_sub_cancel, Nat.mul_one, Nat.mul_comm]
    rw [e]
    refine Nat.dvd_of_mod_eq_zero ?_
    exact Nat.sub_mod_eq_zero_of_mod_eq h1
  rcases h.dvd_mul hc with h3 | h3
  · exact absurd h3 ha
  · have hpos : 0 < a ^ (p - 1) := Nat.pow_pos (by
      rcases Nat.eq_zero_or_pos a with h0 | h0
      · subst h0; exact absurd (Nat.dvd_zero p) ha
      · exact h0)
    obtain ⟨c, hc⟩ := h3
    have : a ^ (p - 1) = 1 + p * c := by omega
    rw [this, Nat.add_mul_mod_self_left]
    exact Nat.mod_eq_of_lt (by omega)

/-- Every number from 2 on has a prime factor. -/
theorem exists_prime (n : Nat) : 2 ≤ n → ∃ r, Pr r ∧ r ∣ n := by
  induction n using Nat.strongRecOn with
  | _ n ih =>
    intro h2
    by_cases hp : Pr n
    · exact ⟨n, hp, Nat.dvd_refl n⟩
    · have : ∃ m, m ∣ n ∧ m ≠ 1 ∧ m ≠ n := by
        refine Classical.byContradiction fun hn => hp ⟨h2, fun m hm => ?_⟩
        refine Classical.byContradiction fun hm2 => hn ⟨m, hm, fun h => hm2 (.inl h), fun h => hm2 (.inr h)⟩
      obtain ⟨m, hm, h1, hne⟩ := this
      have hle := Nat.le_of_dvd (by omega) hm
      have h0 : m ≠ 0 := by rintro rfl; have := Nat.eq_zero_of_zero_dvd hm; omega
      obtain ⟨r, hr, hrm⟩ := ih m (by omega) (by omega)
      exact ⟨r, hr, Nat.dvd_trans hrm hm⟩

theorem prime_of_factors {n F : Nat} (h2 : 2 ≤ n) (hF : n < (F + 1) * (F + 1)) (h : ∀ r, Pr r → r ∣ n → F < r) : Pr n := by
  refine ⟨h2, fun m hm => ?_⟩
  refine Classical.byContradiction fun hne => ?_
  obtain ⟨k, hk⟩ := hm
  have hm1 : m ≠ 1 := fun h => hne (.inl h)
  have hmn : m ≠ n := fun h => hne (.inr h)
  have hm0 : m ≠ 0 := by rintro rfl; omega
  have hk0 : k ≠ 0 := by rintro rfl; omega
  have hk1 : k ≠ 1 := by rintro rfl; omega
  obtain ⟨r, hr, hrm⟩ := exists_prime m (by omega)
  obtain ⟨s, hs, hsk⟩ := exists_prime k (by omega)
  have h1 := h r hr (hk ▸ Nat.dvd_trans hrm (Nat.dvd_mul_right m k))
  have h3 := h s hs (hk ▸ Nat.dvd_trans hsk (Nat.dvd_mul_left k m))
  have l1 := Nat.le_of_dvd (by omega) hrm
  have l2 := Nat.le_of_dvd (by omega) hsk
  have : (F + 1) * (F + 1) ≤ m * k := Nat.mul_le_mul (by omega) (by omega)
  omega

theorem pow_one_of {x n : Nat} (k : Nat) (h : x % n = 1 % n) : x ^ k % n = 1 % n := by
  rw [Nat.pow_mod, h, ← Nat.pow_mod, Nat.one_pow]

/-- A prime factor r of n: q divides r - 1. -/
theorem pock_dvd {n q m a : Nat} (hq : Pr q) (hn : n = q * m + 1) (h1 : a ^ (q * m) % n = 1 % n) (hg : Nat.gcd (a ^ m % n + (n - 1)) n = 1) {r : Nat} (hr : Pr r) (hrn : r ∣ n) : q ∣ r - 1 := by
  refine Classical.byContradiction fun hd => ?_
  have r2 := hr.1
  have q2 := hq.1
  have e1 : a ^ (q * m) % r = 1 % r := by
    have := congrArg (· % r) h1
    simpa only [Nat.mod_mod_of_dvd _ hrn] using this
  have hra : ¬ r ∣ a := by
    intro hra
    have hm0 : q * m ≠ 0 := by
      intro h0
      rw [h0] at hn
      have := Nat.le_of_dvd (by omega) hrn
      omega
    have : a ^ (q * m) % r = 0 := Nat.mod_eq_zero_of_dvd (Nat.dvd_trans hra ⟨a ^ (q * m - 1), by rw [← Nat.pow_succ']; congr 1; omega⟩)
    rw [this, Nat.mod_eq_of_lt (by omega)] at e1
    omega
  have hx : ¬ r ∣ a ^ m := fun h => hra (hr.dvd_pow m h)
  have f1 := hr.fermat hx
  have f2 : (r - 1) ^ (q - 1) % q = 1 := hq.fermat hd
  obtain ⟨t, ht⟩ : ∃ t, (r - 1) ^ (q - 1) = 1 + q * t := ⟨(r - 1) ^ (q - 1) / q, by have := Nat.div_add_mod ((r - 1) ^ (q - 1)) q; omega⟩
  have g1 : (a ^ m) ^ ((r - 1) ^ (q - 1)) % r = 1 % r := by
    obtain ⟨u, hu⟩ : ∃ u, q - 1 = u + 1 := ⟨q - 2, by omega⟩
    rw [hu, Nat.pow_succ, Nat.mul_comm, Nat.pow_mul]
    exact pow_one_of _ (by rw [f1, Nat.mod_eq_of_lt (by omega)])
  have g2 : (a ^ m) ^ ((r - 1) ^ (q - 1)) % r = a ^ m % r := by
    rw [ht, Nat.pow_add, Nat.pow_one, Nat.pow_mul, ← Nat.pow_mul a m q, Nat.mul_comm m q, Nat.mul_mod, pow_one_of t e1, ← Nat.mul_mod, Nat.mul_one]
  have g3 : a ^ m % r = 1 % r := g2.symm.trans g1
  have hdv : r ∣ Nat.gcd (a ^ m % n + (n - 1)) n := by
    refine Nat.dvd_gcd (Nat.dvd_of_mod_eq_zero ?_) hrn
    have n0 : 1 ≤ n := by omega
    have e : (a ^ m % n + (n - 1)) % r = (a ^ m % r + (n - 1)) % r := by
      rw [Nat.add_mod, Nat.mod_mod_of_dvd _ hrn, ← Nat.mod_mod (a ^ m) r, ← Nat.add_mod, Nat.mod_mod]
    rw [e, g3, Nat.add_mod, Nat.mod_mod, ← Nat.add_mod, show 1 + (n - 1) = n by omega]
    exact Nat.mod_eq_zero_of_dvd hrn
  rw [hg] at hdv
  have := Nat.le_of_dvd (by omega) hdv
  omega

/-- Powers modulo n, by squaring. -/
def pm (n : Nat) : Nat → Nat → Nat → Nat
  | 0, _, _ => 1 % n
  | f + 1, a, e => if e = 0 then 1 % n else
    let h := pm n f (a * a % n) (e / 2)
    if e % 2 = 1 then a * h % n else h
theorem pm_eq (n : Nat) : ∀ f a e, e < 2 ^ f → pm n f a e = a ^ e % n
  | 0, a, e, h => by
    have : e = 0 := by simpa using h
    subst this
    simp [pm]
  | f + 1, a, e, h => by
    unfold pm
    by_cases h0 : e = 0
    · subst h0; simp
    · have hlt : e / 2 < 2 ^ f := by rw [Nat.pow_succ] at h; omega
      have ih := pm_eq n f (a * a % n) (e / 2) hlt
      have e2 : (a * a % n) ^ (e / 2) % n = a ^ (2 * (e / 2)) % n := by
        rw [← Nat.pow_mod, Nat.pow_mul, Nat.pow_two]
      simp only [h0, if_false, ih, e2]
      by_cases h1 : e % 2 = 1
      · rw [if_pos h1, Nat.mul_mod, Nat.mod_mod, ← Nat.mul_mod, ← Nat.pow_succ', show (2 * (e / 2)).succ = e by omega]
      · rw [if_neg h1, show 2 * (e / 2) = e by omega]

/-- No factor up to k. -/
def noFactor (n : Nat) : Nat → Bool
  | 0 => true
  | 1 => true
  | k + 2 => n % (k + 2) != 0 && noFactor n (k + 1)
theorem noFactor_spec (n : Nat) : ∀ k, noFactor n k = true → ∀ m, 2 ≤ m → m ≤ k → ¬ m ∣ n
  | 0, _, m, h2, hk => by omega
  | 1, _, m, h2, hk => by omega
  | k + 2, h, m, h2, hk => by
    simp only [noFactor, Bool.and_eq_true, bne_iff_ne] at h
    intro hd
    by_cases e : m = k + 2
    · subst e; exact h.1 (Nat.mod_eq_zero_of_dvd hd)
    · exact noFactor_spec n (k + 1) h.2 m h2 (by omega) hd
theorem small_prime (n k : Nat) (h2 : 2 ≤ n) (hk : n < (k + 1) * (k + 1)) (h : noFactor n k = true) : Pr n :=
  prime_of_factors h2 hk fun r hr hd => Classical.byContradiction fun hn => noFactor_spec n k h r hr.1 (by omega) hd

theorem pock1 {n q m : Nat} (f : Nat) (hq : Pr q) (hn : n = q * m + 1) (h2 : 2 ≤ n) (hs : n < (q + 1) * (q + 1)) (hf : q * m < 2 ^ f) (h1 : pm n f 2 (q * m) = 1 % n) (hg : Nat.gcd (pm n f 2 m + (n - 1)) n = 1) : Pr n := by
  have q2 := hq.1
  have hm : m < 2 ^ f := Nat.lt_of_le_of_lt (Nat.le_mul_of_pos_left m (by omega)) hf
  rw [pm_eq n f 2 _ hf] at h1
  rw [pm_eq n f 2 _ hm] at hg
  refine prime_of_factors h2 hs fun r hr hd => ?_
  have := pock_dvd hq hn h1 hg hr hd
  have r2 := hr.1
  have := Nat.le_of_dvd (by omega) this
  omega
theorem dvd_both {p q x : Nat} (hp : Pr p) (hq : Pr q) (hne : p ≠ q) (h1 : p ∣ x) (h2 : q ∣ x) : p * q ∣ x := by
  obtain ⟨y, rfl⟩ := h1
  rcases hq.dvd_mul h2 with h | h
  · rcases hp.2 q h with h | h
    · have := hq.1; omega
    · exact absurd h.symm hne
  · exact Nat.mul_dvd_mul_left p h
theorem pock2 {n p q m m' : Nat} (f : Nat) (hp : Pr p) (hq : Pr q) (hne : p ≠ q) (hn : n = q * m + 1) (hn' : n = p * m' + 1) (h2 : 2 ≤ n) (hs : n < (p * q + 1) * (p * q + 1)) (hf : q * m < 2 ^ f)
    (h1 : pm n f 2 (q * m) = 1 % n) (hg : Nat.gcd (pm n f 2 m + (n - 1)) n = 1) (hg' : Nat.gcd (pm n f 2 m' + (n - 1)) n = 1) : Pr n := by
  have q2 := hq.1
  have p2 := hp.1
  have hf' : p * m' < 2 ^ f := by omega
  have hm : m < 2 ^ f := Nat.lt_of_le_of_lt (Nat.le_mul_of_pos_left m (by omega)) hf
  have hm' : m' < 2 ^ f := Nat.lt_of_le_of_lt (Nat.le_mul_of_pos_left m' (by omega)) hf'
  rw [pm_eq n f 2 _ hf] at h1
  rw [pm_eq n f 2 _ hm] at hg
  rw [pm_eq n f 2 _ hm'] at hg'
  have h1' : 2 ^ (p * m') % n = 1 % n := by rw [show p * m' = q * m by omega]; exact h1
  refine prime_of_factors h2 hs fun r hr hd => ?_
  have d1 := pock_dvd hq hn h1 hg hr hd
  have d2 := pock_dvd hp hn' h1' hg' hr hd
  have := dvd_both hp hq hne d2 d1
  have r2 := hr.1
  have := Nat.le_of_dvd (by omega) this
  omega

theorem pr_97 : Pr 97 := small_prime 97 9 (by omega) (by omega) (by decide +kernel)
theorem pr_103 : Pr 103 := small_prime 103 10 (by omega) (by omega) (by decide +kernel)
theorem pr_127 : Pr 127 := small_prime 127 11 (by omega) (by omega) (by decide +kernel)
theorem pr_419 : Pr 419 := small_prime 419 20 (by omega) (by omega) (by decide +kernel)
theorem pr_991 : Pr 991 := small_prime 991 31 (by omega) (by omega) (by decide +kernel)
theorem pr_1723 : Pr 1723 := small_prime 1723 41 (by omega) (by omega) (by decide +kernel)
theorem pr_2551 : Pr 2551 := small_prime 2551 50 (by omega) (by omega) (by decide +kernel)
theorem pr_3797 : Pr 3797 := small_prime 3797 61 (by omega) (by omega) (by decide +kernel)
theorem pr_4153 : Pr 4153 := small_prime 4153 64 (by omega) (by omega) (by decide +kernel)
theorem pr_430751 : Pr 430751 := pock1 (m := 250) 19 pr_1723 (by decide +kernel) (by decide +kernel) (by decide +kernel) (by decide +kernel) (by decide +kernel) (by decide +kernel)
theorem pr_531581 : Pr 531581 := pock1 (m := 140) 20 pr_3797 (by decide +kernel) (by decide +kernel) (by decide +kernel) (by decide +kernel) (by decide +kernel) (by decide +kernel)
theorem pr_569003 : Pr 569003 := pock2 (m := 5866) (m' := 1358) 20 pr_419 pr_97 (by decide +kernel) (by decide +kernel) (by decide +kernel) (by decide +kernel) (by decide +kernel) (by decide +kernel) (by decide +kernel) (by decide +kernel) (by decide +kernel)
theorem pr_1224481 : Pr 1224481 := pock1 (m := 480) 21 pr_2551 (by decide +kernel) (by decide +kernel) (by decide +kernel) (by decide +kernel) (by decide +kernel) (by decide +kernel)
theorem pr_8574133 : Pr 8574133 := pock2 (m := 83244) (m' := 8652) 24 pr_991 pr_103 (by decide +kernel) (by decide +kernel) (by decide +kernel) (by decide +kernel) (by decide +kernel) (by decide +kernel) (by decide +kernel) (by decide +kernel) (by decide +kernel)
theorem pr_2773320623 : Pr 2773320623 := pock1 (m := 4874) 32 pr_569003 (by decide +kernel) (by decide +kernel) (by decide +kernel) (by decide +kernel) (by decide +kernel) (by decide +kernel)
theorem pr_72106336199 : Pr 72106336199 := pock1 (m := 26) 37 pr_2773320623 (by decide +kernel) (by decide +kernel) (by decide +kernel) (by decide +kernel) (by decide +kernel) (by decide +kernel)
theorem pr_1257559732178653 : Pr 1257559732178653 := pock2 (m := 2365697292) (m' := 1027014492) 51 pr_1224481 pr_531581 (by decide +kernel) (by decide +kernel) (by decide +kernel) (by decide +kernel) (by decide +kernel) (by decide +kernel) (by decide +kernel) (by decide +kernel) (by decide +kernel)
theorem pr_1919519569386763 : Pr 1919519569386763 := pock2 (m := 15114327318006) (m' := 223873314) 51 pr_8574133 pr_127 (by decide +kernel) (by decide +kernel) (by decide +kernel) (by decide +kernel) (by decide +kernel) (by decide +kernel) (by decide +kernel) (by decide +kernel) (by decide +kernel)
theorem pr_31757755568855353 : Pr 31757755568855353 := pock2 (m := 7646943310584) (m' := 73726481352) 55 pr_430751 pr_4153 (by decide +kernel) (by decide +kernel) (by decide +kernel) (by decide +kernel) (by decide +kernel) (by decide +kernel) (by decide +kernel) (by decide +kernel) (by decide +kernel)
theorem pr_4434155615661930479 : Pr 4434155615661930479 := pock1 (m := 3526) 62 pr_1257559732178653 (by decide +kernel) (by decide +kernel) (by decide +kernel) (by decide +kernel) (by decide +kernel) (by decide +kernel)
theorem pr_172054593956031949258510691 : Pr 172054593956031949258510691 := pock1 (m := 38802110) 88 pr_4434155615661930479 (by decide +kernel) (by decide +kernel) (by decide +kernel) (by decide +kernel) (by decide +kernel) (by decide +kernel)
theorem pr_75445702479781427272750846543864801 : Pr 75445702479781427272750846543864801 := pock2 (m := 1046311689884858398375200) (m' := 39304471641247389600) 116 pr_1919519569386763 pr_72106336199 (by decide +kernel) (by decide +kernel) (by decide +kernel) (by decide +kernel) (by decide +kernel) (by decide +kernel) (by decide +kernel) (by decide +kernel) (by decide +kernel)
theorem pr_19757330305831588566944191468367130476339 : Pr 19757330305831588566944191468367130476339 := pock1 (m := 114831751082918) 134 pr_172054593956031949258510691 (by decide +kernel) (by decide +kernel) (by decide +kernel) (by decide +kernel) (by decide +kernel) (by decide +kernel)
theorem pr_276602624281642239937218680557139826668747 : Pr 276602624281642239937218680557139826668747 := pock1 (m := 14) 138 pr_19757330305831588566944191468367130476339 (by decide +kernel) (by decide +kernel) (by decide +kernel) (by decide +kernel) (by decide +kernel) (by decide +kernel)
theorem pr_74058212732561358302231226437062788676166966415465897661863160754340907 : Pr 74058212732561358302231226437062788676166966415465897661863160754340907 := pock2 (m := 2331972502653487852620185443007392165117953542933313402) (m' := 981609426360740691344999861639072106) 236 pr_75445702479781427272750846543864801 pr_31757755568855353 (by decide +kernel) (by decide +kernel) (by decide +kernel) (by decide +kernel) (by decide +kernel) (by decide +kernel) (by decide +kernel) (by decide +kernel) (by decide +kernel)
theorem pr_7237005577332262213973186563042994240857116359379907606001950938285454250989 : Pr 7237005577332262213973186563042994240857116359379907606001950938285454250989 := pock1 (m := 26163907866482859529727157400808004) 253 pr_276602624281642239937218680557139826668747 (by decide +kernel) (by decide +kernel) (by decide +kernel) (by decide +kernel) (by decide +kernel) (by decide +kernel)
theorem pr_57896044618658097711785492504343953926634992332820282019728792003956564819949 : Pr 57896044618658097711785492504343953926634992332820282019728792003956564819949 := pock1 (m := 781764) 255 pr_74058212732561358302231226437062788676166966415465897661863160754340907 (by decide +kernel) (by decide +kernel) (by decide +kernel) (by decide +kernel) (by decide +kernel) (by decide +kernel)
end Go.Proofs.YtkmgdpbmkbpkjaaDoor.Pn
