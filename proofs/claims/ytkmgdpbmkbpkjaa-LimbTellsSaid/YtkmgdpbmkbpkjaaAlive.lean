/-
  The law's own answers for layer 1: the number with all bits; that the answers which the document fixes are given.
-/
import Derived.Test.YtkmgdpbmkbpkjaaGAny
import Derived.Test.YtkmgdpbmkbpkjaaGBase
import Derived.Test.YtkmgdpbmkbpkjaaAdd
import Derived.Test.YtkmgdpbmkbpkjaaSub
import Derived.Test.YtkmgdpbmkbpkjaaSwap
set_option linter.unusedVariables false
set_option linter.unusedSimpArgs false
namespace Go.Proofs.Ytkmgdpbmkbpkjaa
open Go.RowKit

theorem all_bits : ∀ i, i < 32 → 115792089237316195423570985008687907853269984665640564039457584007913129639935 / 256 ^ i % 256 = 255 := by decide +kernel

set_option maxRecDepth 100000 in
set_option maxHeartbeats 1000000 in
theorem top_any (w : World) :
    Calls Try.prog 24 #[] w fun e w' => e = .returned (.agg (c8 115792089237316195423570985008687907853269984665640564039457584007913129639935)) ∧ Below w.heap.size w w' := by
  obtain ⟨T, hT⟩ : ∃ T, T = 115792089237316195423570985008687907853269984665640564039457584007913129639935 := ⟨_, rfl⟩
  have hb : ∀ i, i < 32 → T / 256 ^ i % 256 = 255 := by rw [hT]; exact all_bits
  rw [← hT]
  clear hT
  go_enter Try.func24, Try.ntmps24
  go_wp2_with fail
  rw [← c8p_zero 0]
  have HB := Lib.hid hb
  clear hb
  go_loopw [3] (fun iv wr => ∃ i : Nat, i ≤ 32 ∧ iv = .int .i64 i ∧ Bk wr (w.heap.size + 1) 22 (c8m T 0 i) ∧ Bk wr w.heap.size 22 (c8p 0 0) ∧ Below w.heap.size w wr) (fun iv _ => 32 - (intOf iv).toNat)
  case atStart =>
    refine ⟨0, by omega, rfl, ?_, ?_, ?_⟩
    · rw [c8m_zero, show c8 0 = c8p 0 0 by kernel_rfl]; repeat (first | (refine Bk.at_ _ _ _ _ ?_; simp; done) | refine Bk.drew ?_ | refine Bk.alloc ?_ _)
    · repeat (first | (refine Bk.at_ _ _ _ _ ?_; simp; done) | refine Bk.drew ?_ | refine Bk.alloc ?_ _)
    · repeat (first | exact Below.refl _ _ | assumption | refine Below.drew ?_ | refine bl_alloc ?_ _ | refine bl_drewN ?_ _)
  case round =>
    obtain ⟨i, hi, rfl, q, q0, L⟩ := hrel
    by_cases hlt : i < 32
    · have c := (q.cell i).trans (get_c8m T 0 i i hlt)
      have fz : ∀ j, wr.frozen? ⟨w.heap.size + 1, j, none⟩ = false := q.frozen
      go_wp2_with fail
      go_roundw
      case rel =>
        have p := q.put i (.int .u8 ((T / 256 ^ i % 256 : Nat) : Int))
        rw [put_c8m T 0 i hlt, HB.out i hlt] at p
        exact ⟨i + 1, by omega, by go_num, p, q0.off (by omega) i (.int .u8 255), bl_put L (by omega) _⟩
      case measure => simp [intOf]; omega
    · obtain rfl : i = 32 := by omega
      rw [c8m_all] at q
      have hth : wr.there w.heap.size 0 (c8 T).size := by rw [size_c8, ← size_c8p 0 0]; exact q0.there
      go_wp2_with (first | (refine wpList_load_row rfl 22 (.tmp 1) rfl (w.heap.size + 1) rfl 22 (c8 T) (0, 0) _ q Try.underlying22 rfl (inum_c8 _) ?_) | (refine wpList_store_mid rfl 22 (.tmp 0) (.tmp 9) rfl w.heap.size 0 (c8 T) rfl rfl hth (inum_c8 _) (one_c8 _) ?_))
      refine bodyPost_ret (results_cell_row rfl _ _ w.heap.size 22 (c8 T) (0, 0) _ rfl (q0.all (by rw [size_c8, size_c8p])) Try.underlying22 rfl (inum_c8 _)) rfl ?_
      exact ⟨rfl, bl_cells (Nat.le_refl _) _ _ _ L⟩

theorem zero_true {n : Nat} (hn : N256 n) (h : n % p25 = 0) (w : World) : Ret Try.prog 13 #[.agg (c8 n)] w (.bool true) := by
  have := zero_any n hn w
  rw [decide_eq_true h] at this
  exact this
theorem zero_false {n : Nat} (hn : N256 n) (h : n % p25 ≠ 0) (w : World) : Ret Try.prog 13 #[.agg (c8 n)] w (.bool false) := by
  have := zero_any n hn w
  rw [decide_eq_false h] at this
  exact this

set_option maxRecDepth 100000 in
set_option maxHeartbeats 4000000 in
theorem alive_any (w : World) : Ret Try.prog 11 #[] w (.bool true) := by
  refine calls_of_wp Try.func11 rfl ?_
  simp only [Try.ntmps11, List.size_toArray, List.length_cons, List.length_nil, Nat.reduceAdd, Nat.reduceSub, Array.replicate_succ, Array.replicate_zero, List.push_toArray, List.append_toArray, List.nil_append, List.cons_append]
  have hO := Own.nil w
  refine wp_seq ?_
  refine wp_region_lit ?_
  refine pl_pure (.bool false) rfl (by kernel_rfl) ?_
  (try simp only [Act.put, List.setIfInBounds_toArray, List.set_cons_zero, List.set_cons_succ])
  refine pl_nil ?_
  show Code.wp _ _ _ _ _
  refine wp_seq ?_
  refine wp_region_lit ?_
  refine pl_pure (.agg (c8 1)) rfl (by kernel_rfl) ?_
  (try simp only [Act.put, List.setIfInBounds_toArray, List.set_cons_zero, List.set_cons_succ])
  refine pl_pure (.agg (c8 2)) rfl (by kernel_rfl) ?_
  (try simp only [Act.put, List.setIfInBounds_toArray, List.set_cons_zero, List.set_cons_succ])
  refine pl_new 22 (c8 0) rfl (by kernel_rfl) hO fun w1 hO1 => ?_
  clear hO
  (try simp only [Act.put, List.setIfInBounds_toArray, List.set_cons_zero, List.set_cons_succ])
  refine pl_new 22 (c8 0) rfl (by kernel_rfl) hO1 fun w2 hO2 => ?_
  clear hO1
  (try simp only [Act.put, List.setIfInBounds_toArray, List.set_cons_zero, List.set_cons_succ])
  refine pl_store (L1 := [(w1.heap.size, 22, (c8 0))]) (L2 := []) (cs := (c8 0)) (c8 1) rfl 22 (.tmp 1) (.tmp 4) rfl rfl rfl hO2 (by simp only [size_c8]) (inum_c8 _) (one_c8 _) fun w3 hO3 => ?_
  clear hO2
  simp only [List.nil_append, List.cons_append] at hO3
  (try simp only [Act.put, List.setIfInBounds_toArray, List.set_cons_zero, List.set_cons_succ])
  refine pl_store (L1 := []) (L2 := [(w.heap.size, 22, (c8 1))]) (cs := (c8 0)) (c8 2) rfl 22 (.tmp 2) (.tmp 5) rfl rfl rfl hO3 (by simp only [size_c8]) (inum_c8 _) (one_c8 _) fun w4 hO4 => ?_
  clear hO3
  simp only [List.nil_append] at hO4
  (try simp only [Act.put, List.setIfInBounds_toArray, List.set_cons_zero, List.set_cons_succ])
  refine pl_nil ?_
  show Code.wp _ _ _ _ _
  refine wp_seq ?_
  refine wp_region_lit ?_
  refine pl_load (c8 2) rfl 22 (.tmp 2) rfl w1.heap.size rfl 22 _ (hO4.get (.head _)) Try.underlying22 rfl (inum_c8 _) ?_
  (try simp only [Act.put, List.setIfInBounds_toArray, List.set_cons_zero, List.set_cons_succ])
  refine pl_call (.agg (c8 (pinv 2))) rfl (by kernel_rfl) (inv_any 2 (by unfold N256; omega) _) hO4 fun w5 hO5 => ?_
  clear hO4
  (try simp only [Act.put, List.setIfInBounds_toArray, List.set_cons_zero, List.set_cons_succ])
  refine pl_new 22 (c8 0) rfl (by kernel_rfl) hO5 fun w6 hO6 => ?_
  clear hO5
  (try simp only [Act.put, List.setIfInBounds_toArray, List.set_cons_zero, List.set_cons_succ])
  refine pl_store (L1 := []) (L2 := [(w1.heap.size, 22, (c8 2)), (w.heap.size, 22, (c8 1))]) (cs := (c8 0)) (c8 (pinv 2)) rfl 22 (.tmp 3) (.tmp 7) rfl rfl rfl hO6 (by simp only [size_c8]) (inum_c8 _) (one_c8 _) fun w7 hO7 => ?_
  clear hO6
  simp only [List.nil_append] at hO7
  (try simp only [Act.put, List.setIfInBounds_toArray, List.set_cons_zero, List.set_cons_succ])
  refine pl_nil ?_
  show Code.wp _ _ _ _ _
  refine wp_seq ?_
  refine hl_start #[false, false, false, false, false, false, false, false, false, false, false, false, false, false, false, false, false, false, false, false, false, false, false, false, false, false, false, false, false, false, false, false, false, false, false] (by kernel_rfl) (by kernel_rfl) hO7 fun w8 hO8 => ?_
  clear hO7
  refine hl_pure 2 #[false, false, true, false, false, false, false, false, false, false, false, false, false, false, false, false, false, false, false, false, false, false, false, false, false, false, false, false, false, false, false, false, false, false, false] (by kernel_rfl) rfl (some 10) (by kernel_rfl) (by kernel_rfl) (by kernel_rfl) (by kernel_rfl) (.agg (c8 37)) (by kernel_rfl) (fun _ => by kernel_rfl) hO8 ?_
  (try simp only [Act.put, List.setIfInBounds_toArray, List.set_cons_zero, List.set_cons_succ])
  refine hl_call 0 #[true, false, true, false, false, false, false, false, false, false, false, false, false, false, false, false, false, false, false, false, false, false, false, false, false, false, false, false, false, false, false, false, false, false, false] (by kernel_rfl) rfl (some 8) (by kernel_rfl) (.agg (c8 115792089237316195423570985008687907853269984665640564039457584007913129639935)) (by kernel_rfl) (by kernel_rfl) (by kernel_rfl) (top_any _) hO8 fun w9 hO9 => ?_
  clear hO8
  (try simp only [Act.put, List.setIfInBounds_toArray, List.set_cons_zero, List.set_cons_succ])
  refine hl_call 1 #[true, true, true, false, false, false, false, false, false, false, false, false, false, false, false, false, false, false, false, false, false, false, false, false, false, false, false, false, false, false, false, false, false, false, false] (by kernel_rfl) rfl (some 9) (by kernel_rfl) (.agg (c8 (115792089237316195423570985008687907853269984665640564039457584007913129639935 % p25))) (by kernel_rfl) (by kernel_rfl) (by kernel_rfl) (reduce_any 115792089237316195423570985008687907853269984665640564039457584007913129639935 (by unfold N256; omega) _) hO9 fun w10 hO10 => ?_
  clear hO9
  (try simp only [Act.put, List.setIfInBounds_toArray, List.set_cons_zero, List.set_cons_succ])
  refine hl_eql 3 #[true, true, true, true, false, false, false, false, false, false, false, false, false, false, false, false, false, false, false, false, false, false, false, false, false, false, false, false, false, false, false, false, false, false, false] (by kernel_rfl) rfl (some 11) (by kernel_rfl) (by kernel_rfl) (by kernel_rfl) (by kernel_rfl) (x := (115792089237316195423570985008687907853269984665640564039457584007913129639935 % p25)) (y := 37) .true (N256.mod _) (by unfold N256; omega) (decide_eq_true (by decide +kernel)) (by kernel_rfl) (.tmp 9) (.tmp 10) 22 (by kernel_rfl) (by kernel_rfl) (by kernel_rfl) hO10 ?_
  (try simp only [Act.put, List.setIfInBounds_toArray, List.set_cons_zero, List.set_cons_succ])
  refine hl_pure 4 #[true, true, true, true, true, false, false, false, false, false, false, false, false, false, false, false, false, false, false, false, false, false, false, false, false, false, false, false, false, false, false, false, false, false, false] (by kernel_rfl) rfl (some 12) (by kernel_rfl) (by kernel_rfl) (by kernel_rfl) (by kernel_rfl) (.bool true) (by kernel_rfl) (fun _ => by kernel_rfl) hO10 ?_
  (try simp only [Act.put, List.setIfInBounds_toArray, List.set_cons_zero, List.set_cons_succ])
  refine hl_load 5 #[true, true, true, true, true, true, false, false, false, false, false, false, false, false, false, false, false, false, false, false, false, false, false, false, false, false, false, false, false, false, false, false, false, false, false] (by kernel_rfl) rfl (some 13) (by kernel_rfl) (by kernel_rfl) (by kernel_rfl) (by kernel_rfl) (c8 1) (by kernel_rfl) 22 (.tmp 1) (by kernel_rfl) w.heap.size (by kernel_rfl) 22 _ (.tail _ (.tail _ (.head _))) Try.underlying22 rfl (inum_c8 _) hO10 ?_
  (try simp only [Act.put, List.setIfInBounds_toArray, List.set_cons_zero, List.set_cons_succ])
  refine hl_load 6 #[true, true, true, true, true, true, true, false, false, false, false, false, false, false, false, false, false, false, false, false, false, false, false, false, false, false, false, false, false, false, false, false, false, false, false] (by kernel_rfl) rfl (some 14) (by kernel_rfl) (by kernel_rfl) (by kernel_rfl) (by kernel_rfl) (c8 1) (by kernel_rfl) 22 (.tmp 1) (by kernel_rfl) w.heap.size (by kernel_rfl) 22 _ (.tail _ (.tail _ (.head _))) Try.underlying22 rfl (inum_c8 _) hO10 ?_
  (try simp only [Act.put, List.setIfInBounds_toArray, List.set_cons_zero, List.set_cons_succ])
  refine hl_load 8 #[true, true, true, true, true, true, true, false, true, false, false, false, false, false, false, false, false, false, false, false, false, false, false, false, false, false, false, false, false, false, false, false, false, false, false] (by kernel_rfl) rfl (some 16) (by kernel_rfl) (by kernel_rfl) (by kernel_rfl) (by kernel_rfl) (c8 2) (by kernel_rfl) 22 (.tmp 2) (by kernel_rfl) w1.heap.size (by kernel_rfl) 22 _ (.tail _ (.head _)) Try.underlying22 rfl (inum_c8 _) hO10 ?_
  (try simp only [Act.put, List.setIfInBounds_toArray, List.set_cons_zero, List.set_cons_succ])
  refine hl_call 7 #[true, true, true, true, true, true, true, true, true, false, false, false, false, false, false, false, false, false, false, false, false, false, false, false, false, false, false, false, false, false, false, false, false, false, false] (by kernel_rfl) rfl (some 15) (by kernel_rfl) (.agg (c8 ((1 + 1) % p25))) (by kernel_rfl) (by kernel_rfl) (by kernel_rfl) (add_any 1 1 (by unfold N256; omega) (by unfold N256; omega) _) hO10 fun w11 hO11 => ?_
  clear hO10
  (try simp only [Act.put, List.setIfInBounds_toArray, List.set_cons_zero, List.set_cons_succ])
  refine hl_eql 9 #[true, true, true, true, true, true, true, true, true, true, false, false, false, false, false, false, false, false, false, false, false, false, false, false, false, false, false, false, false, false, false, false, false, false, false] (by kernel_rfl) rfl (some 17) (by kernel_rfl) (by kernel_rfl) (by kernel_rfl) (by kernel_rfl) (x := ((1 + 1) % p25)) (y := 2) .true (N256.mod _) (by unfold N256; omega) (decide_eq_true (by decide +kernel)) (by kernel_rfl) (.tmp 15) (.tmp 16) 22 (by kernel_rfl) (by kernel_rfl) (by kernel_rfl) hO11 ?_
  (try simp only [Act.put, List.setIfInBounds_toArray, List.set_cons_zero, List.set_cons_succ])
  refine hl_pure 10 #[true, true, true, true, true, true, true, true, true, true, true, false, false, false, false, false, false, false, false, false, false, false, false, false, false, false, false, false, false, false, false, false, false, false, false] (by kernel_rfl) rfl (some 18) (by kernel_rfl) (by kernel_rfl) (by kernel_rfl) (by kernel_rfl) (.bool true) (by kernel_rfl) (fun _ => by kernel_rfl) hO11 ?_
  (try simp only [Act.put, List.setIfInBounds_toArray, List.set_cons_zero, List.set_cons_succ])
  refine hl_pure 11 #[true, true, true, true, true, true, true, true, true, true, true, true, false, false, false, false, false, false, false, false, false, false, false, false, false, false, false, false, false, false, false, false, false, false, false] (by kernel_rfl) rfl (some 19) (by kernel_rfl) (by kernel_rfl) (by kernel_rfl) (by kernel_rfl) (.bool true) (by kernel_rfl) (fun _ => by kernel_rfl) hO11 ?_
  (try simp only [Act.put, List.setIfInBounds_toArray, List.set_cons_zero, List.set_cons_succ])
  refine hl_load 12 #[true, true, true, true, true, true, true, true, true, true, true, true, true, false, false, false, false, false, false, false, false, false, false, false, false, false, false, false, false, false, false, false, false, false, false] (by kernel_rfl) rfl (some 20) (by kernel_rfl) (by kernel_rfl) (by kernel_rfl) (by kernel_rfl) (c8 2) (by kernel_rfl) 22 (.tmp 2) (by kernel_rfl) w1.heap.size (by kernel_rfl) 22 _ (.tail _ (.head _)) Try.underlying22 rfl (inum_c8 _) hO11 ?_
  (try simp only [Act.put, List.setIfInBounds_toArray, List.set_cons_zero, List.set_cons_succ])
  refine hl_load 13 #[true, true, true, true, true, true, true, true, true, true, true, true, true, true, false, false, false, false, false, false, false, false, false, false, false, false, false, false, false, false, false, false, false, false, false] (by kernel_rfl) rfl (some 21) (by kernel_rfl) (by kernel_rfl) (by kernel_rfl) (by kernel_rfl) (c8 1) (by kernel_rfl) 22 (.tmp 1) (by kernel_rfl) w.heap.size (by kernel_rfl) 22 _ (.tail _ (.tail _ (.head _))) Try.underlying22 rfl (inum_c8 _) hO11 ?_
  (try simp only [Act.put, List.setIfInBounds_toArray, List.set_cons_zero, List.set_cons_succ])
  refine hl_load 15 #[true, true, true, true, true, true, true, true, true, true, true, true, true, true, false, true, false, false, false, false, false, false, false, false, false, false, false, false, false, false, false, false, false, false, false] (by kernel_rfl) rfl (some 23) (by kernel_rfl) (by kernel_rfl) (by kernel_rfl) (by kernel_rfl) (c8 1) (by kernel_rfl) 22 (.tmp 1) (by kernel_rfl) w.heap.size (by kernel_rfl) 22 _ (.tail _ (.tail _ (.head _))) Try.underlying22 rfl (inum_c8 _) hO11 ?_
  (try simp only [Act.put, List.setIfInBounds_toArray, List.set_cons_zero, List.set_cons_succ])
  refine hl_call 14 #[true, true, true, true, true, true, true, true, true, true, true, true, true, true, true, true, false, false, false, false, false, false, false, false, false, false, false, false, false, false, false, false, false, false, false] (by kernel_rfl) rfl (some 22) (by kernel_rfl) (.agg (c8 ((2 + 4 * p25 - 1) % p25))) (by kernel_rfl) (by kernel_rfl) (by kernel_rfl) (sub_any 2 1 (by unfold N256; omega) (by unfold N256; omega) _) hO11 fun w12 hO12 => ?_
  clear hO11
  (try simp only [Act.put, List.setIfInBounds_toArray, List.set_cons_zero, List.set_cons_succ])
  refine hl_eql 16 #[true, true, true, true, true, true, true, true, true, true, true, true, true, true, true, true, true, false, false, false, false, false, false, false, false, false, false, false, false, false, false, false, false, false, false] (by kernel_rfl) rfl (some 24) (by kernel_rfl) (by kernel_rfl) (by kernel_rfl) (by kernel_rfl) (x := ((2 + 4 * p25 - 1) % p25)) (y := 1) .true (N256.mod _) (by unfold N256; omega) (decide_eq_true (by decide +kernel)) (by kernel_rfl) (.tmp 22) (.tmp 23) 22 (by kernel_rfl) (by kernel_rfl) (by kernel_rfl) hO12 ?_
  (try simp only [Act.put, List.setIfInBounds_toArray, List.set_cons_zero, List.set_cons_succ])
  refine hl_pure 17 #[true, true, true, true, true, true, true, true, true, true, true, true, true, true, true, true, true, true, false, false, false, false, false, false, false, false, false, false, false, false, false, false, false, false, false] (by kernel_rfl) rfl (some 25) (by kernel_rfl) (by kernel_rfl) (by kernel_rfl) (by kernel_rfl) (.bool true) (by kernel_rfl) (fun _ => by kernel_rfl) hO12 ?_
  (try simp only [Act.put, List.setIfInBounds_toArray, List.set_cons_zero, List.set_cons_succ])
  refine hl_pure 18 #[true, true, true, true, true, true, true, true, true, true, true, true, true, true, true, true, true, true, true, false, false, false, false, false, false, false, false, false, false, false, false, false, false, false, false] (by kernel_rfl) rfl (some 26) (by kernel_rfl) (by kernel_rfl) (by kernel_rfl) (by kernel_rfl) (.bool true) (by kernel_rfl) (fun _ => by kernel_rfl) hO12 ?_
  (try simp only [Act.put, List.setIfInBounds_toArray, List.set_cons_zero, List.set_cons_succ])
  refine hl_load 19 #[true, true, true, true, true, true, true, true, true, true, true, true, true, true, true, true, true, true, true, true, false, false, false, false, false, false, false, false, false, false, false, false, false, false, false] (by kernel_rfl) rfl (some 27) (by kernel_rfl) (by kernel_rfl) (by kernel_rfl) (by kernel_rfl) (c8 2) (by kernel_rfl) 22 (.tmp 2) (by kernel_rfl) w1.heap.size (by kernel_rfl) 22 _ (.tail _ (.head _)) Try.underlying22 rfl (inum_c8 _) hO12 ?_
  (try simp only [Act.put, List.setIfInBounds_toArray, List.set_cons_zero, List.set_cons_succ])
  refine hl_load 20 #[true, true, true, true, true, true, true, true, true, true, true, true, true, true, true, true, true, true, true, true, true, false, false, false, false, false, false, false, false, false, false, false, false, false, false] (by kernel_rfl) rfl (some 28) (by kernel_rfl) (by kernel_rfl) (by kernel_rfl) (by kernel_rfl) (c8 (pinv 2)) (by kernel_rfl) 22 (.tmp 3) (by kernel_rfl) w5.heap.size (by kernel_rfl) 22 _ (.head _) Try.underlying22 rfl (inum_c8 _) hO12 ?_
  (try simp only [Act.put, List.setIfInBounds_toArray, List.set_cons_zero, List.set_cons_succ])
  refine hl_load 22 #[true, true, true, true, true, true, true, true, true, true, true, true, true, true, true, true, true, true, true, true, true, false, true, false, false, false, false, false, false, false, false, false, false, false, false] (by kernel_rfl) rfl (some 30) (by kernel_rfl) (by kernel_rfl) (by kernel_rfl) (by kernel_rfl) (c8 1) (by kernel_rfl) 22 (.tmp 1) (by kernel_rfl) w.heap.size (by kernel_rfl) 22 _ (.tail _ (.tail _ (.head _))) Try.underlying22 rfl (inum_c8 _) hO12 ?_
  (try simp only [Act.put, List.setIfInBounds_toArray, List.set_cons_zero, List.set_cons_succ])
  refine hl_call 21 #[true, true, true, true, true, true, true, true, true, true, true, true, true, true, true, true, true, true, true, true, true, true, true, false, false, false, false, false, false, false, false, false, false, false, false] (by kernel_rfl) rfl (some 29) (by kernel_rfl) (.agg (c8 (2 * (pinv 2) % p25))) (by kernel_rfl) (by kernel_rfl) (by kernel_rfl) (mul_any 2 (pinv 2) (by unfold N256; omega) (pinv_256 _) _) hO12 fun w13 hO13 => ?_
  clear hO12
  (try simp only [Act.put, List.setIfInBounds_toArray, List.set_cons_zero, List.set_cons_succ])
  refine hl_eql 23 #[true, true, true, true, true, true, true, true, true, true, true, true, true, true, true, true, true, true, true, true, true, true, true, true, false, false, false, false, false, false, false, false, false, false, false] (by kernel_rfl) rfl (some 31) (by kernel_rfl) (by kernel_rfl) (by kernel_rfl) (by kernel_rfl) (x := (2 * (pinv 2) % p25)) (y := 1) .true (N256.mod _) (by unfold N256; omega) (decide_eq_true (mul_pinv (by decide +kernel))) (by kernel_rfl) (.tmp 29) (.tmp 30) 22 (by kernel_rfl) (by kernel_rfl) (by kernel_rfl) hO13 ?_
  (try simp only [Act.put, List.setIfInBounds_toArray, List.set_cons_zero, List.set_cons_succ])
  refine hl_pure 24 #[true, true, true, true, true, true, true, true, true, true, true, true, true, true, true, true, true, true, true, true, true, true, true, true, true, false, false, false, false, false, false, false, false, false, false] (by kernel_rfl) rfl (some 32) (by kernel_rfl) (by kernel_rfl) (by kernel_rfl) (by kernel_rfl) (.bool true) (by kernel_rfl) (fun _ => by kernel_rfl) hO13 ?_
  (try simp only [Act.put, List.setIfInBounds_toArray, List.set_cons_zero, List.set_cons_succ])
  refine hl_pure 25 #[true, true, true, true, true, true, true, true, true, true, true, true, true, true, true, true, true, true, true, true, true, true, true, true, true, true, false, false, false, false, false, false, false, false, false] (by kernel_rfl) rfl (some 33) (by kernel_rfl) (by kernel_rfl) (by kernel_rfl) (by kernel_rfl) (.bool true) (by kernel_rfl) (fun _ => by kernel_rfl) hO13 ?_
  (try simp only [Act.put, List.setIfInBounds_toArray, List.set_cons_zero, List.set_cons_succ])
  refine hl_pure 26 #[true, true, true, true, true, true, true, true, true, true, true, true, true, true, true, true, true, true, true, true, true, true, true, true, true, true, true, false, false, false, false, false, false, false, false] (by kernel_rfl) rfl (some 34) (by kernel_rfl) (by kernel_rfl) (by kernel_rfl) (by kernel_rfl) (.agg (c8 0)) (by kernel_rfl) (fun _ => by kernel_rfl) hO13 ?_
  (try simp only [Act.put, List.setIfInBounds_toArray, List.set_cons_zero, List.set_cons_succ])
  refine hl_call 27 #[true, true, true, true, true, true, true, true, true, true, true, true, true, true, true, true, true, true, true, true, true, true, true, true, true, true, true, true, false, false, false, false, false, false, false] (by kernel_rfl) rfl (some 35) (by kernel_rfl) (.bool true) (by kernel_rfl) (by kernel_rfl) (by kernel_rfl) (zero_true (n := 0) (by unfold N256; omega) (by decide +kernel) _) hO13 fun w14 hO14 => ?_
  clear hO13
  (try simp only [Act.put, List.setIfInBounds_toArray, List.set_cons_zero, List.set_cons_succ])
  refine hl_pure 28 #[true, true, true, true, true, true, true, true, true, true, true, true, true, true, true, true, true, true, true, true, true, true, true, true, true, true, true, true, true, false, false, false, false, false, false] (by kernel_rfl) rfl (some 36) (by kernel_rfl) (by kernel_rfl) (by kernel_rfl) (by kernel_rfl) (.bool true) (by kernel_rfl) (fun _ => by kernel_rfl) hO14 ?_
  (try simp only [Act.put, List.setIfInBounds_toArray, List.set_cons_zero, List.set_cons_succ])
  refine hl_pure 29 #[true, true, true, true, true, true, true, true, true, true, true, true, true, true, true, true, true, true, true, true, true, true, true, true, true, true, true, true, true, true, false, false, false, false, false] (by kernel_rfl) rfl (some 37) (by kernel_rfl) (by kernel_rfl) (by kernel_rfl) (by kernel_rfl) (.bool true) (by kernel_rfl) (fun _ => by kernel_rfl) hO14 ?_
  (try simp only [Act.put, List.setIfInBounds_toArray, List.set_cons_zero, List.set_cons_succ])
  refine hl_load 30 #[true, true, true, true, true, true, true, true, true, true, true, true, true, true, true, true, true, true, true, true, true, true, true, true, true, true, true, true, true, true, true, false, false, false, false] (by kernel_rfl) rfl (some 38) (by kernel_rfl) (by kernel_rfl) (by kernel_rfl) (by kernel_rfl) (c8 1) (by kernel_rfl) 22 (.tmp 1) (by kernel_rfl) w.heap.size (by kernel_rfl) 22 _ (.tail _ (.tail _ (.head _))) Try.underlying22 rfl (inum_c8 _) hO14 ?_
  (try simp only [Act.put, List.setIfInBounds_toArray, List.set_cons_zero, List.set_cons_succ])
  refine hl_call 31 #[true, true, true, true, true, true, true, true, true, true, true, true, true, true, true, true, true, true, true, true, true, true, true, true, true, true, true, true, true, true, true, true, false, false, false] (by kernel_rfl) rfl (some 39) (by kernel_rfl) (.bool false) (by kernel_rfl) (by kernel_rfl) (by kernel_rfl) (zero_false (n := 1) (by unfold N256; omega) (by decide +kernel) _) hO14 fun w15 hO15 => ?_
  clear hO14
  (try simp only [Act.put, List.setIfInBounds_toArray, List.set_cons_zero, List.set_cons_succ])
  refine hl_pure 32 #[true, true, true, true, true, true, true, true, true, true, true, true, true, true, true, true, true, true, true, true, true, true, true, true, true, true, true, true, true, true, true, true, true, false, false] (by kernel_rfl) rfl (some 40) (by kernel_rfl) (by kernel_rfl) (by kernel_rfl) (by kernel_rfl) (.bool true) (by kernel_rfl) (fun _ => by kernel_rfl) hO15 ?_
  (try simp only [Act.put, List.setIfInBounds_toArray, List.set_cons_zero, List.set_cons_succ])
  refine hl_pure 33 #[true, true, true, true, true, true, true, true, true, true, true, true, true, true, true, true, true, true, true, true, true, true, true, true, true, true, true, true, true, true, true, true, true, true, false] (by kernel_rfl) rfl (some 41) (by kernel_rfl) (by kernel_rfl) (by kernel_rfl) (by kernel_rfl) (.bool true) (by kernel_rfl) (fun _ => by kernel_rfl) hO15 ?_
  (try simp only [Act.put, List.setIfInBounds_toArray, List.set_cons_zero, List.set_cons_succ])
  refine hl_pure 34 #[true, true, true, true, true, true, true, true, true, true, true, true, true, true, true, true, true, true, true, true, true, true, true, true, true, true, true, true, true, true, true, true, true, true, true] (by kernel_rfl) rfl (some 0) (by kernel_rfl) (by kernel_rfl) (by kernel_rfl) (by kernel_rfl) (.bool true) (by kernel_rfl) (fun _ => by kernel_rfl) hO15 ?_
  (try simp only [Act.put, List.setIfInBounds_toArray, List.set_cons_zero, List.set_cons_succ])
  refine hl_done (by kernel_rfl) ?_
  show Code.wp _ _ _ _ _
  refine wp_ret ?_
  refine bodyPost_ret (results_tmp rfl _ _ _) rfl ?_
  exact ⟨rfl, hO15.bl⟩
end Go.Proofs.Ytkmgdpbmkbpkjaa
