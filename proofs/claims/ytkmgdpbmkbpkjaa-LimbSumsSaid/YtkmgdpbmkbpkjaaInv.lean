/-
  limb.Inv, told by numbers: a to the power of p - 2.
-/
import Derived.Test.YtkmgdpbmkbpkjaaOps
set_option linter.unusedVariables false
set_option linter.unusedSimpArgs false
namespace Go.Proofs.Ytkmgdpbmkbpkjaa
open Go.RowKit

/-- The exponent behind the bits down to the i-th. -/
def exq (i : Nat) : Nat := 57896044618658097711785492504343953926634992332820282019728792003956564819947 / 2 ^ i
theorem exq_step : ∀ i, i < 255 → exq i = 2 * exq (i + 1) + (if i = 2 ∨ i = 4 then 0 else 1) := by decide +kernel
/-- p - 2. -/
@[irreducible] def eInv : Nat := 57896044618658097711785492504343953926634992332820282019728792003956564819947
theorem eInv_val : eInv = 57896044618658097711785492504343953926634992332820282019728792003956564819947 := by unfold eInv; rfl
theorem exq_fin : exq ((-1 : Int) + 1).toNat = eInv := by rw [eInv_val]; decide +kernel
/-- a to the power of p - 2, modulo p. -/
def pinv (a : Nat) : Nat := a ^ eInv % p25
/-- Limbs that hold a to the power of what is under way before the i-th bit. -/
def InvAt (a : Nat) (i : Int) (r0 r1 r2 r3 r4 : Nat) : Prop := Lt52 r0 ∧ Lt52 r1 ∧ Lt52 r2 ∧ Lt52 r3 ∧ Lt52 r4 ∧ val5 r0 r1 r2 r3 r4 % p25 = a ^ exq (i + 1).toNat % p25

theorem InvAt.start (a : Nat) : InvAt a 254 1 0 0 0 0 := by
  refine ⟨by unfold Lt52; omega, by unfold Lt52; omega, by unfold Lt52; omega, by unfold Lt52; omega, by unfold Lt52; omega, ?_⟩
  have : exq ((254 : Int) + 1).toNat = 0 := by decide +kernel
  rw [this]
  rfl
theorem InvAt.fin {a r0 r1 r2 r3 r4 : Nat} (h : InvAt a (-1) r0 r1 r2 r3 r4) : val5 r0 r1 r2 r3 r4 % p25 = pinv a := by
  rw [h.2.2.2.2.2, exq_fin]
  rfl
theorem InvAt.sq {a r0 r1 r2 r3 r4 s0 s1 s2 s3 s4 : Nat} {i : Int} (h0 : 0 ≤ i) (hi : i ≤ 254) (h24 : i = 2 ∨ i = 4) (h : InvAt a i r0 r1 r2 r3 r4)
    (hs : Lt52 s0 ∧ Lt52 s1 ∧ Lt52 s2 ∧ Lt52 s3 ∧ Lt52 s4 ∧ val5 s0 s1 s2 s3 s4 % p25 = val5 r0 r1 r2 r3 r4 * val5 r0 r1 r2 r3 r4 % p25) : InvAt a (i - 1) s0 s1 s2 s3 s4 := by
  refine ⟨hs.1, hs.2.1, hs.2.2.1, hs.2.2.2.1, hs.2.2.2.2.1, ?_⟩
  obtain ⟨n, rfl⟩ := Int.eq_ofNat_of_zero_le h0
  have e := exq_step n (by omega)
  rw [if_pos (by omega)] at e
  rw [hs.2.2.2.2.2, Nat.mul_mod, h.2.2.2.2.2, show ((n : Int) + 1).toNat = n + 1 by omega, show ((n : Int) - 1 + 1).toNat = n by omega, e, ← Nat.mul_mod, ← Nat.pow_add]
  congr 2
  omega
theorem InvAt.mul {a x0 x1 x2 x3 x4 r0 r1 r2 r3 r4 s0 s1 s2 s3 s4 t0 t1 t2 t3 t4 : Nat} {i : Int} (h0 : 0 ≤ i) (hi : i ≤ 254) (h2 : i ≠ 2) (h4 : i ≠ 4) (h : InvAt a i r0 r1 r2 r3 r4)
    (hs : Lt52 s0 ∧ Lt52 s1 ∧ Lt52 s2 ∧ Lt52 s3 ∧ Lt52 s4 ∧ val5 s0 s1 s2 s3 s4 % p25 = val5 r0 r1 r2 r3 r4 * val5 r0 r1 r2 r3 r4 % p25) (hx : val5 x0 x1 x2 x3 x4 = a)
    (ht : Lt52 t0 ∧ Lt52 t1 ∧ Lt52 t2 ∧ Lt52 t3 ∧ Lt52 t4 ∧ val5 t0 t1 t2 t3 t4 % p25 = val5 s0 s1 s2 s3 s4 * val5 x0 x1 x2 x3 x4 % p25) : InvAt a (i - 1) t0 t1 t2 t3 t4 := by
  refine ⟨ht.1, ht.2.1, ht.2.2.1, ht.2.2.2.1, ht.2.2.2.2.1, ?_⟩
  obtain ⟨n, rfl⟩ := Int.eq_ofNat_of_zero_le h0
  have e := exq_step n (by omega)
  rw [if_neg (by omega)] at e
  have k : val5 s0 s1 s2 s3 s4 % p25 = a ^ (2 * exq (n + 1)) % p25 := by
    rw [hs.2.2.2.2.2, Nat.mul_mod, h.2.2.2.2.2, show ((n : Int) + 1).toNat = n + 1 by omega, ← Nat.mul_mod, ← Nat.pow_add]
    congr 2
    omega
  rw [ht.2.2.2.2.2, Nat.mul_mod, k, show ((n : Int) - 1 + 1).toNat = n by omega, e, hx, ← Nat.mul_mod, ← Nat.pow_succ]
theorem InvAt.five {a r0 r1 r2 r3 r4 : Nat} {i : Int} (h : InvAt a i r0 r1 r2 r3 r4) : Lt52 r0 ∧ Lt52 r1 ∧ Lt52 r2 ∧ Lt52 r3 ∧ Lt52 r4 := ⟨h.1, h.2.1, h.2.2.1, h.2.2.2.1, h.2.2.2.2.1⟩
theorem five_of {r0 r1 r2 r3 r4 : Nat} {p : Prop} (h : Lt52 r0 ∧ Lt52 r1 ∧ Lt52 r2 ∧ Lt52 r3 ∧ Lt52 r4 ∧ p) : Lt52 r0 ∧ Lt52 r1 ∧ Lt52 r2 ∧ Lt52 r3 ∧ Lt52 r4 := ⟨h.1, h.2.1, h.2.2.1, h.2.2.2.1, h.2.2.2.2.1⟩

set_option maxRecDepth 100000 in
set_option maxHeartbeats 4000000 in
theorem inv_any (a : Nat) (ha : N256 a) (w : World) :
    Calls Try.prog 12 #[.agg (c8 a)] w fun e w' => e = .returned (.agg (c8 (pinv a))) ∧ Below w.heap.size w w' := by
  go_enter Try.func12, Try.ntmps12
  go_wp2_with (refine wpList_load_row rfl 22 (.tmp 1) rfl w.heap.size rfl 22 (c8 a) (0, 0) _ (bk_1 _ _ _ _) Try.underlying22 rfl (inum_c8 a) ?_)
  rw [← c8p_zero 0]
  refine (load_any a ha _).mono ?_
  rintro e w1 ⟨x0, x1, x2, x3, x4, rfl, hx, hbl⟩
  have q := (bk_2 _ _ _ _).under hbl
  have L := bl_call (bl_alloc (bl_alloc (Below.refl w.heap.size w) _) _) hbl
  have hq := q.lt
  clear hbl
  simp only [c5]
  go_wp2_with fail
  have hl1 := L.size
  go_loopw [5] (fun iv wr => ∃ (i : Int) (r0 r1 r2 r3 r4 : Nat), -1 ≤ i ∧ i ≤ 254 ∧ iv = .int .i64 i ∧ Hid (InvAt a i r0 r1 r2 r3 r4) ∧ Bk wr (w.heap.size + 1) 22 (c8p 0 0) ∧ Bk wr w1.heap.size 37 (c5 x0 x1 x2 x3 x4) ∧ Bk wr (w1.heap.size + 1) 37 (c5 r0 r1 r2 r3 r4) ∧ Below w.heap.size w wr) (fun iv _ => (intOf iv + 1).toNat)
  case atStart =>
    refine ⟨254, 1, 0, 0, 0, 0, by omega, by omega, rfl, InvAt.start a, (q.alloc _).alloc _, (Bk.new _ _ _).alloc _, Bk.at_ _ _ _ _ (by simp), bl_alloc (bl_alloc L _) _⟩
  case round =>
    clear q L
    obtain ⟨i, r0, r1, r2, r3, r4, hi0, hi1, rfl, hI, q2, q3, q4, L⟩ := hrel
    by_cases hlt : 0 ≤ i
    · have fz : ∀ j, wr.frozen? ⟨(w1.heap.size + 1), j, none⟩ = false := q4.frozen
      have c0 : wr.cell? ⟨(w1.heap.size + 1), 0, none⟩ = some (.int .u64 (r0 : Int)) := q4.cell 0
      have c1 : wr.cell? ⟨(w1.heap.size + 1), 1, none⟩ = some (.int .u64 (r1 : Int)) := q4.cell 1
      have c2 : wr.cell? ⟨(w1.heap.size + 1), 2, none⟩ = some (.int .u64 (r2 : Int)) := q4.cell 2
      have c3 : wr.cell? ⟨(w1.heap.size + 1), 3, none⟩ = some (.int .u64 (r3 : Int)) := q4.cell 3
      have c4 : wr.cell? ⟨(w1.heap.size + 1), 4, none⟩ = some (.int .u64 (r4 : Int)) := q4.cell 4
      go_wp2_with fail
      refine (times_any r0 r1 r2 r3 r4 r0 r1 r2 r3 r4 _ hI.out.five hI.out.five).mono ?_
      rintro e w2 ⟨s0, s1, s2, s3, s4, rfl, hs, hbl⟩
      have p2 := q2.under hbl
      have p3 := q3.under hbl
      have p4 := q4.under hbl
      have L2 := bl_call L hbl
      clear hbl q2 q3 q4 L fz c0 c1 c2 c3 c4
      simp only [c5]
      have fz : ∀ j, w2.frozen? ⟨(w1.heap.size + 1), j, none⟩ = false := p4.frozen
      have c0 : w2.cell? ⟨(w1.heap.size + 1), 0, none⟩ = some (.int .u64 (r0 : Int)) := p4.cell 0
      have c1 : w2.cell? ⟨(w1.heap.size + 1), 1, none⟩ = some (.int .u64 (r1 : Int)) := p4.cell 1
      have c2 : w2.cell? ⟨(w1.heap.size + 1), 2, none⟩ = some (.int .u64 (r2 : Int)) := p4.cell 2
      have c3 : w2.cell? ⟨(w1.heap.size + 1), 3, none⟩ = some (.int .u64 (r3 : Int)) := p4.cell 3
      have c4 : w2.cell? ⟨(w1.heap.size + 1), 4, none⟩ = some (.int .u64 (r4 : Int)) := p4.cell 4
      have o2 : Bk _ (w.heap.size + 1) 22 (c8p 0 0) := (Bk.off (Bk.off (Bk.off (Bk.off (Bk.off p2 (g' := (w1.heap.size + 1)) (by omega) 0 (.int .u64 (s0 : Int))) (g' := (w1.heap.size + 1)) (by omega) 1 (.int .u64 (s1 : Int))) (g' := (w1.heap.size + 1)) (by omega) 2 (.int .u64 (s2 : Int))) (g' := (w1.heap.size + 1)) (by omega) 3 (.int .u64 (s3 : Int))) (g' := (w1.heap.size + 1)) (by omega) 4 (.int .u64 (s4 : Int)))
      have o3 : Bk _ w1.heap.size 37 (c5 x0 x1 x2 x3 x4) := (Bk.off (Bk.off (Bk.off (Bk.off (Bk.off p3 (g' := (w1.heap.size + 1)) (by omega) 0 (.int .u64 (s0 : Int))) (g' := (w1.heap.size + 1)) (by omega) 1 (.int .u64 (s1 : Int))) (g' := (w1.heap.size + 1)) (by omega) 2 (.int .u64 (s2 : Int))) (g' := (w1.heap.size + 1)) (by omega) 3 (.int .u64 (s3 : Int))) (g' := (w1.heap.size + 1)) (by omega) 4 (.int .u64 (s4 : Int)))
      have o4 : Bk _ (w1.heap.size + 1) 37 (c5 s0 s1 s2 s3 s4) := (Bk.put (Bk.put (Bk.put (Bk.put (Bk.put p4 0 (.int .u64 (s0 : Int))) 1 (.int .u64 (s1 : Int))) 2 (.int .u64 (s2 : Int))) 3 (.int .u64 (s3 : Int))) 4 (.int .u64 (s4 : Int)))
      have L3 := (bl_put (bl_put (bl_put (bl_put (bl_put L2 (g := (w1.heap.size + 1)) (i := 0) (by omega) (.int .u64 (s0 : Int))) (g := (w1.heap.size + 1)) (i := 1) (by omega) (.int .u64 (s1 : Int))) (g := (w1.heap.size + 1)) (i := 2) (by omega) (.int .u64 (s2 : Int))) (g := (w1.heap.size + 1)) (i := 3) (by omega) (.int .u64 (s3 : Int))) (g := (w1.heap.size + 1)) (i := 4) (by omega) (.int .u64 (s4 : Int)))
      by_cases h24 : i = 2 ∨ i = 4
      · have fin := InvAt.sq hlt hi1 h24 hI.out hs.out
        clear p2 p3 p4 L2 hI hs
        rcases h24 with rfl | rfl
        all_goals
          go_wp2_with fail
          go_roundw
          case rel => exact ⟨_, s0, s1, s2, s3, s4, by omega, by omega, rfl, fin, o2, o3, o4, L3⟩
          case measure => simp [intOf]
      · have ne2 : (i != 2) = true := by rw [bne_iff_ne]; omega
        have ne4 : (i != 4) = true := by rw [bne_iff_ne]; omega
        have d0 : w2.cell? ⟨w1.heap.size, 0, none⟩ = some (.int .u64 (x0 : Int)) := p3.cell 0
        have d1 : w2.cell? ⟨w1.heap.size, 1, none⟩ = some (.int .u64 (x1 : Int)) := p3.cell 1
        have d2 : w2.cell? ⟨w1.heap.size, 2, none⟩ = some (.int .u64 (x2 : Int)) := p3.cell 2
        have d3 : w2.cell? ⟨w1.heap.size, 3, none⟩ = some (.int .u64 (x3 : Int)) := p3.cell 3
        have d4 : w2.cell? ⟨w1.heap.size, 4, none⟩ = some (.int .u64 (x4 : Int)) := p3.cell 4
        go_wp2_with fail
        refine (times_any s0 s1 s2 s3 s4 x0 x1 x2 x3 x4 _ (five_of hs.out) (five_of hx.out)).mono ?_
        rintro e w3 ⟨t0, t1, t2, t3, t4, rfl, ht, hbl⟩
        have fin := InvAt.mul hlt hi1 (fun h => h24 (Or.inl h)) (fun h => h24 (Or.inr h)) hI.out hs.out hx.out.2.2.2.2.2 ht.out
        have u2 := o2.under hbl
        have u3 := o3.under hbl
        have u4 := o4.under hbl
        have L4 := bl_call L3 hbl
        clear hbl p2 p3 p4 L2 hI hs ht o2 o3 o4 L3 fz c0 c1 c2 c3 c4 d0 d1 d2 d3 d4 ne2 ne4 h24
        simp only [c5]
        have fz : ∀ j, w3.frozen? ⟨(w1.heap.size + 1), j, none⟩ = false := u4.frozen
        have c0 : w3.cell? ⟨(w1.heap.size + 1), 0, none⟩ = some (.int .u64 (s0 : Int)) := u4.cell 0
        have c1 : w3.cell? ⟨(w1.heap.size + 1), 1, none⟩ = some (.int .u64 (s1 : Int)) := u4.cell 1
        have c2 : w3.cell? ⟨(w1.heap.size + 1), 2, none⟩ = some (.int .u64 (s2 : Int)) := u4.cell 2
        have c3 : w3.cell? ⟨(w1.heap.size + 1), 3, none⟩ = some (.int .u64 (s3 : Int)) := u4.cell 3
        have c4 : w3.cell? ⟨(w1.heap.size + 1), 4, none⟩ = some (.int .u64 (s4 : Int)) := u4.cell 4
        go_wp2_with fail
        go_roundw
        case rel => exact ⟨i - 1, t0, t1, t2, t3, t4, by omega, by omega, rfl, fin, (Bk.off (Bk.off (Bk.off (Bk.off (Bk.off u2 (g' := (w1.heap.size + 1)) (by omega) 0 (.int .u64 (t0 : Int))) (g' := (w1.heap.size + 1)) (by omega) 1 (.int .u64 (t1 : Int))) (g' := (w1.heap.size + 1)) (by omega) 2 (.int .u64 (t2 : Int))) (g' := (w1.heap.size + 1)) (by omega) 3 (.int .u64 (t3 : Int))) (g' := (w1.heap.size + 1)) (by omega) 4 (.int .u64 (t4 : Int))), (Bk.off (Bk.off (Bk.off (Bk.off (Bk.off u3 (g' := (w1.heap.size + 1)) (by omega) 0 (.int .u64 (t0 : Int))) (g' := (w1.heap.size + 1)) (by omega) 1 (.int .u64 (t1 : Int))) (g' := (w1.heap.size + 1)) (by omega) 2 (.int .u64 (t2 : Int))) (g' := (w1.heap.size + 1)) (by omega) 3 (.int .u64 (t3 : Int))) (g' := (w1.heap.size + 1)) (by omega) 4 (.int .u64 (t4 : Int))), (Bk.put (Bk.put (Bk.put (Bk.put (Bk.put u4 0 (.int .u64 (t0 : Int))) 1 (.int .u64 (t1 : Int))) 2 (.int .u64 (t2 : Int))) 3 (.int .u64 (t3 : Int))) 4 (.int .u64 (t4 : Int))), (bl_put (bl_put (bl_put (bl_put (bl_put L4 (g := (w1.heap.size + 1)) (i := 0) (by omega) (.int .u64 (t0 : Int))) (g := (w1.heap.size + 1)) (i := 1) (by omega) (.int .u64 (t1 : Int))) (g := (w1.heap.size + 1)) (i := 2) (by omega) (.int .u64 (t2 : Int))) (g := (w1.heap.size + 1)) (i := 3) (by omega) (.int .u64 (t3 : Int))) (g := (w1.heap.size + 1)) (i := 4) (by omega) (.int .u64 (t4 : Int)))⟩
        case measure => simp [intOf]; omega
    · obtain rfl : i = -1 := by omega
      have c0 : wr.cell? ⟨(w1.heap.size + 1), 0, none⟩ = some (.int .u64 (r0 : Int)) := q4.cell 0
      have c1 : wr.cell? ⟨(w1.heap.size + 1), 1, none⟩ = some (.int .u64 (r1 : Int)) := q4.cell 1
      have c2 : wr.cell? ⟨(w1.heap.size + 1), 2, none⟩ = some (.int .u64 (r2 : Int)) := q4.cell 2
      have c3 : wr.cell? ⟨(w1.heap.size + 1), 3, none⟩ = some (.int .u64 (r3 : Int)) := q4.cell 3
      have c4 : wr.cell? ⟨(w1.heap.size + 1), 4, none⟩ = some (.int .u64 (r4 : Int)) := q4.cell 4
      have l0 := hI.out.1.up
      have l1 := hI.out.2.1.up
      have l2 := hI.out.2.2.1.up
      have l3 := hI.out.2.2.2.1.up
      have l4 := hI.out.2.2.2.2.1.up
      have hv := hI.out.fin
      have HV := Lib.hid hv
      clear hv hI
      go_wp2_with fail
      refine (store_any r0 r1 r2 r3 r4 l0 l1 l2 l3 l4 _).mono ?_
      rintro e w2 ⟨rfl, hbl⟩
      have p2 := q2.under hbl
      have L2 := bl_call L hbl
      clear hbl q2 q3 q4 L c0 c1 c2 c3 c4
      have hv := HV.out
      rw [hv]
      clear hv
      have hth : w2.there (w.heap.size + 1) 0 (c8 (pinv a)).size := by rw [size_c8, ← size_c8p 0 0]; exact p2.there
      go_wp2_with (refine wpList_store_mid rfl 22 (.tmp 2) (.tmp 26) rfl (w.heap.size + 1) 0 (c8 (pinv a)) rfl rfl hth (inum_c8 _) (one_c8 _) ?_)
      refine bodyPost_ret (results_cell_row rfl _ _ (w.heap.size + 1) 22 (c8 (pinv a)) (0, 0) _ rfl (p2.all (by rw [size_c8, size_c8p])) Try.underlying22 rfl (inum_c8 _)) rfl ?_
      exact ⟨rfl, bl_cells (by omega) _ _ _ L2⟩
end Go.Proofs.Ytkmgdpbmkbpkjaa
