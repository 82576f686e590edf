/-
  LimbField, walked: whatever three numbers, the answer is true.
-/
import Derived.Test.YtkmgdpbmkbpkjaaAlive
set_option linter.unusedVariables false
set_option linter.unusedSimpArgs false
namespace Go.Proofs.Ytkmgdpbmkbpkjaa
open Go.RowKit

theorem fld1 (a b : Nat) : (a + b) % p25 = (b + a) % p25 := by rw [Nat.add_comm]
theorem fld2 (a b : Nat) : a * b % p25 = b * a % p25 := by rw [Nat.mul_comm]
theorem fld3 (a b c : Nat) : ((a + b) % p25 + c) % p25 = (a + (b + c) % p25) % p25 := by
  rw [Nat.mod_add_mod, Nat.add_mod_mod, Nat.add_assoc]
theorem fld4 (a b c : Nat) : (a * b % p25) * c % p25 = a * (b * c % p25) % p25 := by
  rw [Nat.mod_mul_mod, Nat.mul_mod_mod, Nat.mul_assoc]
theorem fld5 (a b c : Nat) : a * ((b + c) % p25) % p25 = (a * b % p25 + a * c % p25) % p25 := by
  rw [Nat.mul_mod_mod, Nat.mul_add, ← Nat.add_mod]
theorem fld6 (a b : Nat) (hb : N256 b) : ((a + 4 * p25 - b) % p25 + b) % p25 = a % p25 := by
  unfold N256 at hb
  have : b ≤ a + 4 * p25 := by unfold p25; omega
  rw [Nat.mod_add_mod, Nat.sub_add_cancel this, Nat.add_mul_mod_self_right]
theorem fld7 (a : Nat) : (a + 4 * p25 - a) % p25 % p25 = 0 := by
  rw [Nat.add_sub_cancel_left, Nat.mod_mod, Nat.mul_mod_left]

set_option maxRecDepth 100000 in
set_option maxHeartbeats 4000000 in
theorem field_any {a b c : Nat} (ha : N256 a) (hb : N256 b) (hc : N256 c) (w : World) : Ret Try.prog 4 #[.agg (c8 a), .agg (c8 b), .agg (c8 c)] w (.bool true) := by
  refine calls_of_wp Try.func4 rfl ?_
  simp only [Try.ntmps4, List.size_toArray, List.length_cons, List.length_nil, Nat.reduceAdd, Nat.reduceSub, Array.replicate_succ, Array.replicate_zero, List.push_toArray, List.append_toArray, List.nil_append, List.cons_append]
  have hO := Own.nil w
  refine wp_seq ?_
  refine wp_region_lit ?_
  refine pl_new 22 (c8 a) rfl (by kernel_rfl) hO fun w1 hO1 => ?_
  clear hO
  (try simp only [Act.put, List.setIfInBounds_toArray, List.set_cons_zero, List.set_cons_succ])
  refine pl_new 22 (c8 b) rfl (by kernel_rfl) hO1 fun w2 hO2 => ?_
  clear hO1
  (try simp only [Act.put, List.setIfInBounds_toArray, List.set_cons_zero, List.set_cons_succ])
  refine pl_new 22 (c8 c) rfl (by kernel_rfl) hO2 fun w3 hO3 => ?_
  clear hO2
  (try simp only [Act.put, List.setIfInBounds_toArray, List.set_cons_zero, List.set_cons_succ])
  refine pl_pure (.bool false) rfl (by kernel_rfl) ?_
  (try simp only [Act.put, List.setIfInBounds_toArray, List.set_cons_zero, List.set_cons_succ])
  refine pl_nil ?_
  show Code.wp _ _ _ _ _
  refine wp_seq ?_
  refine wp_seq ?_
  refine wp_region_lit ?_
  refine pl_call (.bool true) rfl (by kernel_rfl) (alive_any _) hO3 fun w4 hO4 => ?_
  clear hO3
  (try simp only [Act.put, List.setIfInBounds_toArray, List.set_cons_zero, List.set_cons_succ])
  refine pl_pure (.bool false) rfl (by kernel_rfl) ?_
  (try simp only [Act.put, List.setIfInBounds_toArray, List.set_cons_zero, List.set_cons_succ])
  refine pl_nil ?_
  show Code.wp _ _ _ _ _
  refine wp_cond_false rfl ?_
  refine wp_skip ?_
  show Code.wp _ _ _ _ _
  refine wp_seq ?_
  refine wp_seq ?_
  refine hl_start #[false, false, false, false, false, false, false, false, false, false, false, false, false, false, false, false] (by kernel_rfl) (by kernel_rfl) hO4 fun w5 hO5 => ?_
  clear hO4
  refine hl_load 0 #[true, false, false, false, false, false, false, false, false, false, false, false, false, false, false, false] (by kernel_rfl) rfl (some 9) (by kernel_rfl) (by kernel_rfl) (by kernel_rfl) (by kernel_rfl) (c8 a) (by kernel_rfl) 22 (.tmp 3) (by kernel_rfl) w.heap.size (by kernel_rfl) 22 _ (.tail _ (.tail _ (.head _))) Try.underlying22 rfl (inum_c8 _) hO5 ?_
  (try simp only [Act.put, List.setIfInBounds_toArray, List.set_cons_zero, List.set_cons_succ])
  refine hl_load 1 #[true, true, false, false, false, false, false, false, false, false, false, false, false, false, false, false] (by kernel_rfl) rfl (some 10) (by kernel_rfl) (by kernel_rfl) (by kernel_rfl) (by kernel_rfl) (c8 b) (by kernel_rfl) 22 (.tmp 4) (by kernel_rfl) w1.heap.size (by kernel_rfl) 22 _ (.tail _ (.head _)) Try.underlying22 rfl (inum_c8 _) hO5 ?_
  (try simp only [Act.put, List.setIfInBounds_toArray, List.set_cons_zero, List.set_cons_succ])
  refine hl_load 3 #[true, true, false, true, false, false, false, false, false, false, false, false, false, false, false, false] (by kernel_rfl) rfl (some 12) (by kernel_rfl) (by kernel_rfl) (by kernel_rfl) (by kernel_rfl) (c8 b) (by kernel_rfl) 22 (.tmp 4) (by kernel_rfl) w1.heap.size (by kernel_rfl) 22 _ (.tail _ (.head _)) Try.underlying22 rfl (inum_c8 _) hO5 ?_
  (try simp only [Act.put, List.setIfInBounds_toArray, List.set_cons_zero, List.set_cons_succ])
  refine hl_load 4 #[true, true, false, true, true, false, false, false, false, false, false, false, false, false, false, false] (by kernel_rfl) rfl (some 13) (by kernel_rfl) (by kernel_rfl) (by kernel_rfl) (by kernel_rfl) (c8 a) (by kernel_rfl) 22 (.tmp 3) (by kernel_rfl) w.heap.size (by kernel_rfl) 22 _ (.tail _ (.tail _ (.head _))) Try.underlying22 rfl (inum_c8 _) hO5 ?_
  (try simp only [Act.put, List.setIfInBounds_toArray, List.set_cons_zero, List.set_cons_succ])
  refine hl_call 2 #[true, true, true, true, true, false, false, false, false, false, false, false, false, false, false, false] (by kernel_rfl) rfl (some 11) (by kernel_rfl) (.agg (c8 ((a + b) % p25))) (by kernel_rfl) (by kernel_rfl) (by kernel_rfl) (add_any a b ha hb _) hO5 fun w6 hO6 => ?_
  clear hO5
  (try simp only [Act.put, List.setIfInBounds_toArray, List.set_cons_zero, List.set_cons_succ])
  refine hl_call 5 #[true, true, true, true, true, true, false, false, false, false, false, false, false, false, false, false] (by kernel_rfl) rfl (some 14) (by kernel_rfl) (.agg (c8 ((b + a) % p25))) (by kernel_rfl) (by kernel_rfl) (by kernel_rfl) (add_any b a hb ha _) hO6 fun w7 hO7 => ?_
  clear hO6
  (try simp only [Act.put, List.setIfInBounds_toArray, List.set_cons_zero, List.set_cons_succ])
  refine hl_neq 6 #[true, true, true, true, true, true, true, false, false, false, false, false, false, false, false, false] (by kernel_rfl) rfl (some 15) (by kernel_rfl) (by kernel_rfl) (by kernel_rfl) (by kernel_rfl) (x := ((a + b) % p25)) (y := ((b + a) % p25)) .false (N256.mod _) (N256.mod _) (by rw [decide_eq_true (fld1 _ _)]; rfl) (by kernel_rfl) (.tmp 11) (.tmp 14) 22 (by kernel_rfl) (by kernel_rfl) (by kernel_rfl) hO7 ?_
  (try simp only [Act.put, List.setIfInBounds_toArray, List.set_cons_zero, List.set_cons_succ])
  refine hl_pure 7 #[true, true, true, true, true, true, true, true, false, false, false, false, false, false, false, false] (by kernel_rfl) rfl (some 16) (by kernel_rfl) (by kernel_rfl) (by kernel_rfl) (by kernel_rfl) (.bool false) (by kernel_rfl) (fun _ => by kernel_rfl) hO7 ?_
  (try simp only [Act.put, List.setIfInBounds_toArray, List.set_cons_zero, List.set_cons_succ])
  refine hl_load 8 #[true, true, true, true, true, true, true, true, true, false, false, false, false, false, false, false] (by kernel_rfl) rfl (some 17) (by kernel_rfl) (by kernel_rfl) (by kernel_rfl) (by kernel_rfl) (c8 a) (by kernel_rfl) 22 (.tmp 3) (by kernel_rfl) w.heap.size (by kernel_rfl) 22 _ (.tail _ (.tail _ (.head _))) Try.underlying22 rfl (inum_c8 _) hO7 ?_
  (try simp only [Act.put, List.setIfInBounds_toArray, List.set_cons_zero, List.set_cons_succ])
  refine hl_load 9 #[true, true, true, true, true, true, true, true, true, true, false, false, false, false, false, false] (by kernel_rfl) rfl (some 18) (by kernel_rfl) (by kernel_rfl) (by kernel_rfl) (by kernel_rfl) (c8 b) (by kernel_rfl) 22 (.tmp 4) (by kernel_rfl) w1.heap.size (by kernel_rfl) 22 _ (.tail _ (.head _)) Try.underlying22 rfl (inum_c8 _) hO7 ?_
  (try simp only [Act.put, List.setIfInBounds_toArray, List.set_cons_zero, List.set_cons_succ])
  refine hl_load 11 #[true, true, true, true, true, true, true, true, true, true, false, true, false, false, false, false] (by kernel_rfl) rfl (some 20) (by kernel_rfl) (by kernel_rfl) (by kernel_rfl) (by kernel_rfl) (c8 b) (by kernel_rfl) 22 (.tmp 4) (by kernel_rfl) w1.heap.size (by kernel_rfl) 22 _ (.tail _ (.head _)) Try.underlying22 rfl (inum_c8 _) hO7 ?_
  (try simp only [Act.put, List.setIfInBounds_toArray, List.set_cons_zero, List.set_cons_succ])
  refine hl_load 12 #[true, true, true, true, true, true, true, true, true, true, false, true, true, false, false, false] (by kernel_rfl) rfl (some 21) (by kernel_rfl) (by kernel_rfl) (by kernel_rfl) (by kernel_rfl) (c8 a) (by kernel_rfl) 22 (.tmp 3) (by kernel_rfl) w.heap.size (by kernel_rfl) 22 _ (.tail _ (.tail _ (.head _))) Try.underlying22 rfl (inum_c8 _) hO7 ?_
  (try simp only [Act.put, List.setIfInBounds_toArray, List.set_cons_zero, List.set_cons_succ])
  refine hl_call 10 #[true, true, true, true, true, true, true, true, true, true, true, true, true, false, false, false] (by kernel_rfl) rfl (some 19) (by kernel_rfl) (.agg (c8 (a * b % p25))) (by kernel_rfl) (by kernel_rfl) (by kernel_rfl) (mul_any a b ha hb _) hO7 fun w8 hO8 => ?_
  clear hO7
  (try simp only [Act.put, List.setIfInBounds_toArray, List.set_cons_zero, List.set_cons_succ])
  refine hl_call 13 #[true, true, true, true, true, true, true, true, true, true, true, true, true, true, false, false] (by kernel_rfl) rfl (some 22) (by kernel_rfl) (.agg (c8 (b * a % p25))) (by kernel_rfl) (by kernel_rfl) (by kernel_rfl) (mul_any b a hb ha _) hO8 fun w9 hO9 => ?_
  clear hO8
  (try simp only [Act.put, List.setIfInBounds_toArray, List.set_cons_zero, List.set_cons_succ])
  refine hl_neq 14 #[true, true, true, true, true, true, true, true, true, true, true, true, true, true, true, false] (by kernel_rfl) rfl (some 23) (by kernel_rfl) (by kernel_rfl) (by kernel_rfl) (by kernel_rfl) (x := (a * b % p25)) (y := (b * a % p25)) .false (N256.mod _) (N256.mod _) (by rw [decide_eq_true (fld2 _ _)]; rfl) (by kernel_rfl) (.tmp 19) (.tmp 22) 22 (by kernel_rfl) (by kernel_rfl) (by kernel_rfl) hO9 ?_
  (try simp only [Act.put, List.setIfInBounds_toArray, List.set_cons_zero, List.set_cons_succ])
  refine hl_pure 15 #[true, true, true, true, true, true, true, true, true, true, true, true, true, true, true, true] (by kernel_rfl) rfl (some 24) (by kernel_rfl) (by kernel_rfl) (by kernel_rfl) (by kernel_rfl) (.bool false) (by kernel_rfl) (fun _ => by kernel_rfl) hO9 ?_
  (try simp only [Act.put, List.setIfInBounds_toArray, List.set_cons_zero, List.set_cons_succ])
  refine hl_done (by kernel_rfl) ?_
  show Code.wp _ _ _ _ _
  refine wp_cond_false rfl ?_
  refine wp_skip ?_
  show Code.wp _ _ _ _ _
  refine wp_seq ?_
  refine wp_seq ?_
  refine hl_start #[false, false, false, false, false, false, false, false, false, false, false, false, false, false, false, false, false, false, false, false, false, false, false, false] (by kernel_rfl) (by kernel_rfl) hO9 fun w10 hO10 => ?_
  clear hO9
  refine hl_load 0 #[true, false, false, false, false, false, false, false, false, false, false, false, false, false, false, false, false, false, false, false, false, false, false, false] (by kernel_rfl) rfl (some 25) (by kernel_rfl) (by kernel_rfl) (by kernel_rfl) (by kernel_rfl) (c8 a) (by kernel_rfl) 22 (.tmp 3) (by kernel_rfl) w.heap.size (by kernel_rfl) 22 _ (.tail _ (.tail _ (.head _))) Try.underlying22 rfl (inum_c8 _) hO10 ?_
  (try simp only [Act.put, List.setIfInBounds_toArray, List.set_cons_zero, List.set_cons_succ])
  refine hl_load 1 #[true, true, false, false, false, false, false, false, false, false, false, false, false, false, false, false, false, false, false, false, false, false, false, false] (by kernel_rfl) rfl (some 26) (by kernel_rfl) (by kernel_rfl) (by kernel_rfl) (by kernel_rfl) (c8 b) (by kernel_rfl) 22 (.tmp 4) (by kernel_rfl) w1.heap.size (by kernel_rfl) 22 _ (.tail _ (.head _)) Try.underlying22 rfl (inum_c8 _) hO10 ?_
  (try simp only [Act.put, List.setIfInBounds_toArray, List.set_cons_zero, List.set_cons_succ])
  refine hl_load 3 #[true, true, false, true, false, false, false, false, false, false, false, false, false, false, false, false, false, false, false, false, false, false, false, false] (by kernel_rfl) rfl (some 28) (by kernel_rfl) (by kernel_rfl) (by kernel_rfl) (by kernel_rfl) (c8 c) (by kernel_rfl) 22 (.tmp 5) (by kernel_rfl) w2.heap.size (by kernel_rfl) 22 _ (.head _) Try.underlying22 rfl (inum_c8 _) hO10 ?_
  (try simp only [Act.put, List.setIfInBounds_toArray, List.set_cons_zero, List.set_cons_succ])
  refine hl_load 5 #[true, true, false, true, false, true, false, false, false, false, false, false, false, false, false, false, false, false, false, false, false, false, false, false] (by kernel_rfl) rfl (some 30) (by kernel_rfl) (by kernel_rfl) (by kernel_rfl) (by kernel_rfl) (c8 a) (by kernel_rfl) 22 (.tmp 3) (by kernel_rfl) w.heap.size (by kernel_rfl) 22 _ (.tail _ (.tail _ (.head _))) Try.underlying22 rfl (inum_c8 _) hO10 ?_
  (try simp only [Act.put, List.setIfInBounds_toArray, List.set_cons_zero, List.set_cons_succ])
  refine hl_load 6 #[true, true, false, true, false, true, true, false, false, false, false, false, false, false, false, false, false, false, false, false, false, false, false, false] (by kernel_rfl) rfl (some 31) (by kernel_rfl) (by kernel_rfl) (by kernel_rfl) (by kernel_rfl) (c8 b) (by kernel_rfl) 22 (.tmp 4) (by kernel_rfl) w1.heap.size (by kernel_rfl) 22 _ (.tail _ (.head _)) Try.underlying22 rfl (inum_c8 _) hO10 ?_
  (try simp only [Act.put, List.setIfInBounds_toArray, List.set_cons_zero, List.set_cons_succ])
  refine hl_load 7 #[true, true, false, true, false, true, true, true, false, false, false, false, false, false, false, false, false, false, false, false, false, false, false, false] (by kernel_rfl) rfl (some 32) (by kernel_rfl) (by kernel_rfl) (by kernel_rfl) (by kernel_rfl) (c8 c) (by kernel_rfl) 22 (.tmp 5) (by kernel_rfl) w2.heap.size (by kernel_rfl) 22 _ (.head _) Try.underlying22 rfl (inum_c8 _) hO10 ?_
  (try simp only [Act.put, List.setIfInBounds_toArray, List.set_cons_zero, List.set_cons_succ])
  refine hl_call 2 #[true, true, true, true, false, true, true, true, false, false, false, false, false, false, false, false, false, false, false, false, false, false, false, false] (by kernel_rfl) rfl (some 27) (by kernel_rfl) (.agg (c8 ((a + b) % p25))) (by kernel_rfl) (by kernel_rfl) (by kernel_rfl) (add_any a b ha hb _) hO10 fun w11 hO11 => ?_
  clear hO10
  (try simp only [Act.put, List.setIfInBounds_toArray, List.set_cons_zero, List.set_cons_succ])
  refine hl_call 4 #[true, true, true, true, true, true, true, true, false, false, false, false, false, false, false, false, false, false, false, false, false, false, false, false] (by kernel_rfl) rfl (some 29) (by kernel_rfl) (.agg (c8 ((((a + b) % p25) + c) % p25))) (by kernel_rfl) (by kernel_rfl) (by kernel_rfl) (add_any ((a + b) % p25) c (N256.mod _) hc _) hO11 fun w12 hO12 => ?_
  clear hO11
  (try simp only [Act.put, List.setIfInBounds_toArray, List.set_cons_zero, List.set_cons_succ])
  refine hl_call 8 #[true, true, true, true, true, true, true, true, true, false, false, false, false, false, false, false, false, false, false, false, false, false, false, false] (by kernel_rfl) rfl (some 33) (by kernel_rfl) (.agg (c8 ((b + c) % p25))) (by kernel_rfl) (by kernel_rfl) (by kernel_rfl) (add_any b c hb hc _) hO12 fun w13 hO13 => ?_
  clear hO12
  (try simp only [Act.put, List.setIfInBounds_toArray, List.set_cons_zero, List.set_cons_succ])
  refine hl_call 9 #[true, true, true, true, true, true, true, true, true, true, false, false, false, false, false, false, false, false, false, false, false, false, false, false] (by kernel_rfl) rfl (some 34) (by kernel_rfl) (.agg (c8 ((a + ((b + c) % p25)) % p25))) (by kernel_rfl) (by kernel_rfl) (by kernel_rfl) (add_any a ((b + c) % p25) ha (N256.mod _) _) hO13 fun w14 hO14 => ?_
  clear hO13
  (try simp only [Act.put, List.setIfInBounds_toArray, List.set_cons_zero, List.set_cons_succ])
  refine hl_neq 10 #[true, true, true, true, true, true, true, true, true, true, true, false, false, false, false, false, false, false, false, false, false, false, false, false] (by kernel_rfl) rfl (some 35) (by kernel_rfl) (by kernel_rfl) (by kernel_rfl) (by kernel_rfl) (x := ((((a + b) % p25) + c) % p25)) (y := ((a + ((b + c) % p25)) % p25)) .false (N256.mod _) (N256.mod _) (by rw [decide_eq_true (fld3 _ _ _)]; rfl) (by kernel_rfl) (.tmp 29) (.tmp 34) 22 (by kernel_rfl) (by kernel_rfl) (by kernel_rfl) hO14 ?_
  (try simp only [Act.put, List.setIfInBounds_toArray, List.set_cons_zero, List.set_cons_succ])
  refine hl_pure 11 #[true, true, true, true, true, true, true, true, true, true, true, true, false, false, false, false, false, false, false, false, false, false, false, false] (by kernel_rfl) rfl (some 36) (by kernel_rfl) (by kernel_rfl) (by kernel_rfl) (by kernel_rfl) (.bool false) (by kernel_rfl) (fun _ => by kernel_rfl) hO14 ?_
  (try simp only [Act.put, List.setIfInBounds_toArray, List.set_cons_zero, List.set_cons_succ])
  refine hl_load 12 #[true, true, true, true, true, true, true, true, true, true, true, true, true, false, false, false, false, false, false, false, false, false, false, false] (by kernel_rfl) rfl (some 37) (by kernel_rfl) (by kernel_rfl) (by kernel_rfl) (by kernel_rfl) (c8 a) (by kernel_rfl) 22 (.tmp 3) (by kernel_rfl) w.heap.size (by kernel_rfl) 22 _ (.tail _ (.tail _ (.head _))) Try.underlying22 rfl (inum_c8 _) hO14 ?_
  (try simp only [Act.put, List.setIfInBounds_toArray, List.set_cons_zero, List.set_cons_succ])
  refine hl_load 13 #[true, true, true, true, true, true, true, true, true, true, true, true, true, true, false, false, false, false, false, false, false, false, false, false] (by kernel_rfl) rfl (some 38) (by kernel_rfl) (by kernel_rfl) (by kernel_rfl) (by kernel_rfl) (c8 b) (by kernel_rfl) 22 (.tmp 4) (by kernel_rfl) w1.heap.size (by kernel_rfl) 22 _ (.tail _ (.head _)) Try.underlying22 rfl (inum_c8 _) hO14 ?_
  (try simp only [Act.put, List.setIfInBounds_toArray, List.set_cons_zero, List.set_cons_succ])
  refine hl_load 15 #[true, true, true, true, true, true, true, true, true, true, true, true, true, true, false, true, false, false, false, false, false, false, false, false] (by kernel_rfl) rfl (some 40) (by kernel_rfl) (by kernel_rfl) (by kernel_rfl) (by kernel_rfl) (c8 c) (by kernel_rfl) 22 (.tmp 5) (by kernel_rfl) w2.heap.size (by kernel_rfl) 22 _ (.head _) Try.underlying22 rfl (inum_c8 _) hO14 ?_
  (try simp only [Act.put, List.setIfInBounds_toArray, List.set_cons_zero, List.set_cons_succ])
  refine hl_load 17 #[true, true, true, true, true, true, true, true, true, true, true, true, true, true, false, true, false, true, false, false, false, false, false, false] (by kernel_rfl) rfl (some 42) (by kernel_rfl) (by kernel_rfl) (by kernel_rfl) (by kernel_rfl) (c8 a) (by kernel_rfl) 22 (.tmp 3) (by kernel_rfl) w.heap.size (by kernel_rfl) 22 _ (.tail _ (.tail _ (.head _))) Try.underlying22 rfl (inum_c8 _) hO14 ?_
  (try simp only [Act.put, List.setIfInBounds_toArray, List.set_cons_zero, List.set_cons_succ])
  refine hl_load 18 #[true, true, true, true, true, true, true, true, true, true, true, true, true, true, false, true, false, true, true, false, false, false, false, false] (by kernel_rfl) rfl (some 43) (by kernel_rfl) (by kernel_rfl) (by kernel_rfl) (by kernel_rfl) (c8 b) (by kernel_rfl) 22 (.tmp 4) (by kernel_rfl) w1.heap.size (by kernel_rfl) 22 _ (.tail _ (.head _)) Try.underlying22 rfl (inum_c8 _) hO14 ?_
  (try simp only [Act.put, List.setIfInBounds_toArray, List.set_cons_zero, List.set_cons_succ])
  refine hl_load 19 #[true, true, true, true, true, true, true, true, true, true, true, true, true, true, false, true, false, true, true, true, false, false, false, false] (by kernel_rfl) rfl (some 44) (by kernel_rfl) (by kernel_rfl) (by kernel_rfl) (by kernel_rfl) (c8 c) (by kernel_rfl) 22 (.tmp 5) (by kernel_rfl) w2.heap.size (by kernel_rfl) 22 _ (.head _) Try.underlying22 rfl (inum_c8 _) hO14 ?_
  (try simp only [Act.put, List.setIfInBounds_toArray, List.set_cons_zero, List.set_cons_succ])
  refine hl_call 14 #[true, true, true, true, true, true, true, true, true, true, true, true, true, true, true, true, false, true, true, true, false, false, false, false] (by kernel_rfl) rfl (some 39) (by kernel_rfl) (.agg (c8 (a * b % p25))) (by kernel_rfl) (by kernel_rfl) (by kernel_rfl) (mul_any a b ha hb _) hO14 fun w15 hO15 => ?_
  clear hO14
  (try simp only [Act.put, List.setIfInBounds_toArray, List.set_cons_zero, List.set_cons_succ])
  refine hl_call 16 #[true, true, true, true, true, true, true, true, true, true, true, true, true, true, true, true, true, true, true, true, false, false, false, false] (by kernel_rfl) rfl (some 41) (by kernel_rfl) (.agg (c8 ((a * b % p25) * c % p25))) (by kernel_rfl) (by kernel_rfl) (by kernel_rfl) (mul_any (a * b % p25) c (N256.mod _) hc _) hO15 fun w16 hO16 => ?_
  clear hO15
  (try simp only [Act.put, List.setIfInBounds_toArray, List.set_cons_zero, List.set_cons_succ])
  refine hl_call 20 #[true, true, true, true, true, true, true, true, true, true, true, true, true, true, true, true, true, true, true, true, true, false, false, false] (by kernel_rfl) rfl (some 45) (by kernel_rfl) (.agg (c8 (b * c % p25))) (by kernel_rfl) (by kernel_rfl) (by kernel_rfl) (mul_any b c hb hc _) hO16 fun w17 hO17 => ?_
  clear hO16
  (try simp only [Act.put, List.setIfInBounds_toArray, List.set_cons_zero, List.set_cons_succ])
  refine hl_call 21 #[true, true, true, true, true, true, true, true, true, true, true, true, true, true, true, true, true, true, true, true, true, true, false, false] (by kernel_rfl) rfl (some 46) (by kernel_rfl) (.agg (c8 (a * (b * c % p25) % p25))) (by kernel_rfl) (by kernel_rfl) (by kernel_rfl) (mul_any a (b * c % p25) ha (N256.mod _) _) hO17 fun w18 hO18 => ?_
  clear hO17
  (try simp only [Act.put, List.setIfInBounds_toArray, List.set_cons_zero, List.set_cons_succ])
  refine hl_neq 22 #[true, true, true, true, true, true, true, true, true, true, true, true, true, true, true, true, true, true, true, true, true, true, true, false] (by kernel_rfl) rfl (some 47) (by kernel_rfl) (by kernel_rfl) (by kernel_rfl) (by kernel_rfl) (x := ((a * b % p25) * c % p25)) (y := (a * (b * c % p25) % p25)) .false (N256.mod _) (N256.mod _) (by rw [decide_eq_true (fld4 _ _ _)]; rfl) (by kernel_rfl) (.tmp 41) (.tmp 46) 22 (by kernel_rfl) (by kernel_rfl) (by kernel_rfl) hO18 ?_
  (try simp only [Act.put, List.setIfInBounds_toArray, List.set_cons_zero, List.set_cons_succ])
  refine hl_pure 23 #[true, true, true, true, true, true, true, true, true, true, true, true, true, true, true, true, true, true, true, true, true, true, true, true] (by kernel_rfl) rfl (some 48) (by kernel_rfl) (by kernel_rfl) (by kernel_rfl) (by kernel_rfl) (.bool false) (by kernel_rfl) (fun _ => by kernel_rfl) hO18 ?_
  (try simp only [Act.put, List.setIfInBounds_toArray, List.set_cons_zero, List.set_cons_succ])
  refine hl_done (by kernel_rfl) ?_
  show Code.wp _ _ _ _ _
  refine wp_cond_false rfl ?_
  refine wp_skip ?_
  show Code.wp _ _ _ _ _
  refine wp_seq ?_
  refine hl_start #[false, false, false, false, false, false, false, false, false, false, false, false, false, false, false, false, false, false, false, false, false, false, false, false, false, false, false, false, false, false] (by kernel_rfl) (by kernel_rfl) hO18 fun w19 hO19 => ?_
  clear hO18
  refine hl_load 0 #[true, false, false, false, false, false, false, false, false, false, false, false, false, false, false, false, false, false, false, false, false, false, false, false, false, false, false, false, false, false] (by kernel_rfl) rfl (some 49) (by kernel_rfl) (by kernel_rfl) (by kernel_rfl) (by kernel_rfl) (c8 a) (by kernel_rfl) 22 (.tmp 3) (by kernel_rfl) w.heap.size (by kernel_rfl) 22 _ (.tail _ (.tail _ (.head _))) Try.underlying22 rfl (inum_c8 _) hO19 ?_
  (try simp only [Act.put, List.setIfInBounds_toArray, List.set_cons_zero, List.set_cons_succ])
  refine hl_load 1 #[true, true, false, false, false, false, false, false, false, false, false, false, false, false, false, false, false, false, false, false, false, false, false, false, false, false, false, false, false, false] (by kernel_rfl) rfl (some 50) (by kernel_rfl) (by kernel_rfl) (by kernel_rfl) (by kernel_rfl) (c8 b) (by kernel_rfl) 22 (.tmp 4) (by kernel_rfl) w1.heap.size (by kernel_rfl) 22 _ (.tail _ (.head _)) Try.underlying22 rfl (inum_c8 _) hO19 ?_
  (try simp only [Act.put, List.setIfInBounds_toArray, List.set_cons_zero, List.set_cons_succ])
  refine hl_load 2 #[true, true, true, false, false, false, false, false, false, false, false, false, false, false, false, false, false, false, false, false, false, false, false, false, false, false, false, false, false, false] (by kernel_rfl) rfl (some 51) (by kernel_rfl) (by kernel_rfl) (by kernel_rfl) (by kernel_rfl) (c8 c) (by kernel_rfl) 22 (.tmp 5) (by kernel_rfl) w2.heap.size (by kernel_rfl) 22 _ (.head _) Try.underlying22 rfl (inum_c8 _) hO19 ?_
  (try simp only [Act.put, List.setIfInBounds_toArray, List.set_cons_zero, List.set_cons_succ])
  refine hl_load 5 #[true, true, true, false, false, true, false, false, false, false, false, false, false, false, false, false, false, false, false, false, false, false, false, false, false, false, false, false, false, false] (by kernel_rfl) rfl (some 54) (by kernel_rfl) (by kernel_rfl) (by kernel_rfl) (by kernel_rfl) (c8 a) (by kernel_rfl) 22 (.tmp 3) (by kernel_rfl) w.heap.size (by kernel_rfl) 22 _ (.tail _ (.tail _ (.head _))) Try.underlying22 rfl (inum_c8 _) hO19 ?_
  (try simp only [Act.put, List.setIfInBounds_toArray, List.set_cons_zero, List.set_cons_succ])
  refine hl_load 6 #[true, true, true, false, false, true, true, false, false, false, false, false, false, false, false, false, false, false, false, false, false, false, false, false, false, false, false, false, false, false] (by kernel_rfl) rfl (some 55) (by kernel_rfl) (by kernel_rfl) (by kernel_rfl) (by kernel_rfl) (c8 b) (by kernel_rfl) 22 (.tmp 4) (by kernel_rfl) w1.heap.size (by kernel_rfl) 22 _ (.tail _ (.head _)) Try.underlying22 rfl (inum_c8 _) hO19 ?_
  (try simp only [Act.put, List.setIfInBounds_toArray, List.set_cons_zero, List.set_cons_succ])
  refine hl_load 8 #[true, true, true, false, false, true, true, false, true, false, false, false, false, false, false, false, false, false, false, false, false, false, false, false, false, false, false, false, false, false] (by kernel_rfl) rfl (some 57) (by kernel_rfl) (by kernel_rfl) (by kernel_rfl) (by kernel_rfl) (c8 a) (by kernel_rfl) 22 (.tmp 3) (by kernel_rfl) w.heap.size (by kernel_rfl) 22 _ (.tail _ (.tail _ (.head _))) Try.underlying22 rfl (inum_c8 _) hO19 ?_
  (try simp only [Act.put, List.setIfInBounds_toArray, List.set_cons_zero, List.set_cons_succ])
  refine hl_load 9 #[true, true, true, false, false, true, true, false, true, true, false, false, false, false, false, false, false, false, false, false, false, false, false, false, false, false, false, false, false, false] (by kernel_rfl) rfl (some 58) (by kernel_rfl) (by kernel_rfl) (by kernel_rfl) (by kernel_rfl) (c8 c) (by kernel_rfl) 22 (.tmp 5) (by kernel_rfl) w2.heap.size (by kernel_rfl) 22 _ (.head _) Try.underlying22 rfl (inum_c8 _) hO19 ?_
  (try simp only [Act.put, List.setIfInBounds_toArray, List.set_cons_zero, List.set_cons_succ])
  refine hl_call 3 #[true, true, true, true, false, true, true, false, true, true, false, false, false, false, false, false, false, false, false, false, false, false, false, false, false, false, false, false, false, false] (by kernel_rfl) rfl (some 52) (by kernel_rfl) (.agg (c8 ((b + c) % p25))) (by kernel_rfl) (by kernel_rfl) (by kernel_rfl) (add_any b c hb hc _) hO19 fun w20 hO20 => ?_
  clear hO19
  (try simp only [Act.put, List.setIfInBounds_toArray, List.set_cons_zero, List.set_cons_succ])
  refine hl_call 4 #[true, true, true, true, true, true, true, false, true, true, false, false, false, false, false, false, false, false, false, false, false, false, false, false, false, false, false, false, false, false] (by kernel_rfl) rfl (some 53) (by kernel_rfl) (.agg (c8 (a * ((b + c) % p25) % p25))) (by kernel_rfl) (by kernel_rfl) (by kernel_rfl) (mul_any a ((b + c) % p25) ha (N256.mod _) _) hO20 fun w21 hO21 => ?_
  clear hO20
  (try simp only [Act.put, List.setIfInBounds_toArray, List.set_cons_zero, List.set_cons_succ])
  refine hl_call 7 #[true, true, true, true, true, true, true, true, true, true, false, false, false, false, false, false, false, false, false, false, false, false, false, false, false, false, false, false, false, false] (by kernel_rfl) rfl (some 56) (by kernel_rfl) (.agg (c8 (a * b % p25))) (by kernel_rfl) (by kernel_rfl) (by kernel_rfl) (mul_any a b ha hb _) hO21 fun w22 hO22 => ?_
  clear hO21
  (try simp only [Act.put, List.setIfInBounds_toArray, List.set_cons_zero, List.set_cons_succ])
  refine hl_call 10 #[true, true, true, true, true, true, true, true, true, true, true, false, false, false, false, false, false, false, false, false, false, false, false, false, false, false, false, false, false, false] (by kernel_rfl) rfl (some 59) (by kernel_rfl) (.agg (c8 (a * c % p25))) (by kernel_rfl) (by kernel_rfl) (by kernel_rfl) (mul_any a c ha hc _) hO22 fun w23 hO23 => ?_
  clear hO22
  (try simp only [Act.put, List.setIfInBounds_toArray, List.set_cons_zero, List.set_cons_succ])
  refine hl_call 11 #[true, true, true, true, true, true, true, true, true, true, true, true, false, false, false, false, false, false, false, false, false, false, false, false, false, false, false, false, false, false] (by kernel_rfl) rfl (some 60) (by kernel_rfl) (.agg (c8 (((a * b % p25) + (a * c % p25)) % p25))) (by kernel_rfl) (by kernel_rfl) (by kernel_rfl) (add_any (a * b % p25) (a * c % p25) (N256.mod _) (N256.mod _) _) hO23 fun w24 hO24 => ?_
  clear hO23
  (try simp only [Act.put, List.setIfInBounds_toArray, List.set_cons_zero, List.set_cons_succ])
  refine hl_eql 12 #[true, true, true, true, true, true, true, true, true, true, true, true, true, false, false, false, false, false, false, false, false, false, false, false, false, false, false, false, false, false] (by kernel_rfl) rfl (some 61) (by kernel_rfl) (by kernel_rfl) (by kernel_rfl) (by kernel_rfl) (x := (a * ((b + c) % p25) % p25)) (y := (((a * b % p25) + (a * c % p25)) % p25)) .true (N256.mod _) (N256.mod _) (decide_eq_true (fld5 _ _ _)) (by kernel_rfl) (.tmp 53) (.tmp 60) 22 (by kernel_rfl) (by kernel_rfl) (by kernel_rfl) hO24 ?_
  (try simp only [Act.put, List.setIfInBounds_toArray, List.set_cons_zero, List.set_cons_succ])
  refine hl_pure 13 #[true, true, true, true, true, true, true, true, true, true, true, true, true, true, false, false, false, false, false, false, false, false, false, false, false, false, false, false, false, false] (by kernel_rfl) rfl (some 62) (by kernel_rfl) (by kernel_rfl) (by kernel_rfl) (by kernel_rfl) (.bool true) (by kernel_rfl) (fun _ => by kernel_rfl) hO24 ?_
  (try simp only [Act.put, List.setIfInBounds_toArray, List.set_cons_zero, List.set_cons_succ])
  refine hl_load 14 #[true, true, true, true, true, true, true, true, true, true, true, true, true, true, true, false, false, false, false, false, false, false, false, false, false, false, false, false, false, false] (by kernel_rfl) rfl (some 63) (by kernel_rfl) (by kernel_rfl) (by kernel_rfl) (by kernel_rfl) (c8 a) (by kernel_rfl) 22 (.tmp 3) (by kernel_rfl) w.heap.size (by kernel_rfl) 22 _ (.tail _ (.tail _ (.head _))) Try.underlying22 rfl (inum_c8 _) hO24 ?_
  (try simp only [Act.put, List.setIfInBounds_toArray, List.set_cons_zero, List.set_cons_succ])
  refine hl_load 15 #[true, true, true, true, true, true, true, true, true, true, true, true, true, true, true, true, false, false, false, false, false, false, false, false, false, false, false, false, false, false] (by kernel_rfl) rfl (some 64) (by kernel_rfl) (by kernel_rfl) (by kernel_rfl) (by kernel_rfl) (c8 b) (by kernel_rfl) 22 (.tmp 4) (by kernel_rfl) w1.heap.size (by kernel_rfl) 22 _ (.tail _ (.head _)) Try.underlying22 rfl (inum_c8 _) hO24 ?_
  (try simp only [Act.put, List.setIfInBounds_toArray, List.set_cons_zero, List.set_cons_succ])
  refine hl_load 17 #[true, true, true, true, true, true, true, true, true, true, true, true, true, true, true, true, false, true, false, false, false, false, false, false, false, false, false, false, false, false] (by kernel_rfl) rfl (some 66) (by kernel_rfl) (by kernel_rfl) (by kernel_rfl) (by kernel_rfl) (c8 b) (by kernel_rfl) 22 (.tmp 4) (by kernel_rfl) w1.heap.size (by kernel_rfl) 22 _ (.tail _ (.head _)) Try.underlying22 rfl (inum_c8 _) hO24 ?_
  (try simp only [Act.put, List.setIfInBounds_toArray, List.set_cons_zero, List.set_cons_succ])
  refine hl_load 19 #[true, true, true, true, true, true, true, true, true, true, true, true, true, true, true, true, false, true, false, true, false, false, false, false, false, false, false, false, false, false] (by kernel_rfl) rfl (some 68) (by kernel_rfl) (by kernel_rfl) (by kernel_rfl) (by kernel_rfl) (c8 a) (by kernel_rfl) 22 (.tmp 3) (by kernel_rfl) w.heap.size (by kernel_rfl) 22 _ (.tail _ (.tail _ (.head _))) Try.underlying22 rfl (inum_c8 _) hO24 ?_
  (try simp only [Act.put, List.setIfInBounds_toArray, List.set_cons_zero, List.set_cons_succ])
  refine hl_call 16 #[true, true, true, true, true, true, true, true, true, true, true, true, true, true, true, true, true, true, false, true, false, false, false, false, false, false, false, false, false, false] (by kernel_rfl) rfl (some 65) (by kernel_rfl) (.agg (c8 ((a + 4 * p25 - b) % p25))) (by kernel_rfl) (by kernel_rfl) (by kernel_rfl) (sub_any a b ha hb _) hO24 fun w25 hO25 => ?_
  clear hO24
  (try simp only [Act.put, List.setIfInBounds_toArray, List.set_cons_zero, List.set_cons_succ])
  refine hl_call 18 #[true, true, true, true, true, true, true, true, true, true, true, true, true, true, true, true, true, true, true, true, false, false, false, false, false, false, false, false, false, false] (by kernel_rfl) rfl (some 67) (by kernel_rfl) (.agg (c8 ((((a + 4 * p25 - b) % p25) + b) % p25))) (by kernel_rfl) (by kernel_rfl) (by kernel_rfl) (add_any ((a + 4 * p25 - b) % p25) b (N256.mod _) hb _) hO25 fun w26 hO26 => ?_
  clear hO25
  (try simp only [Act.put, List.setIfInBounds_toArray, List.set_cons_zero, List.set_cons_succ])
  refine hl_call 20 #[true, true, true, true, true, true, true, true, true, true, true, true, true, true, true, true, true, true, true, true, true, false, false, false, false, false, false, false, false, false] (by kernel_rfl) rfl (some 69) (by kernel_rfl) (.agg (c8 (a % p25))) (by kernel_rfl) (by kernel_rfl) (by kernel_rfl) (reduce_any a ha _) hO26 fun w27 hO27 => ?_
  clear hO26
  (try simp only [Act.put, List.setIfInBounds_toArray, List.set_cons_zero, List.set_cons_succ])
  refine hl_eql 21 #[true, true, true, true, true, true, true, true, true, true, true, true, true, true, true, true, true, true, true, true, true, true, false, false, false, false, false, false, false, false] (by kernel_rfl) rfl (some 70) (by kernel_rfl) (by kernel_rfl) (by kernel_rfl) (by kernel_rfl) (x := ((((a + 4 * p25 - b) % p25) + b) % p25)) (y := (a % p25)) .true (N256.mod _) (N256.mod _) (decide_eq_true (fld6 _ _ hb)) (by kernel_rfl) (.tmp 67) (.tmp 69) 22 (by kernel_rfl) (by kernel_rfl) (by kernel_rfl) hO27 ?_
  (try simp only [Act.put, List.setIfInBounds_toArray, List.set_cons_zero, List.set_cons_succ])
  refine hl_pure 22 #[true, true, true, true, true, true, true, true, true, true, true, true, true, true, true, true, true, true, true, true, true, true, true, false, false, false, false, false, false, false] (by kernel_rfl) rfl (some 71) (by kernel_rfl) (by kernel_rfl) (by kernel_rfl) (by kernel_rfl) (.bool true) (by kernel_rfl) (fun _ => by kernel_rfl) hO27 ?_
  (try simp only [Act.put, List.setIfInBounds_toArray, List.set_cons_zero, List.set_cons_succ])
  refine hl_pure 23 #[true, true, true, true, true, true, true, true, true, true, true, true, true, true, true, true, true, true, true, true, true, true, true, true, false, false, false, false, false, false] (by kernel_rfl) rfl (some 72) (by kernel_rfl) (by kernel_rfl) (by kernel_rfl) (by kernel_rfl) (.bool true) (by kernel_rfl) (fun _ => by kernel_rfl) hO27 ?_
  (try simp only [Act.put, List.setIfInBounds_toArray, List.set_cons_zero, List.set_cons_succ])
  refine hl_load 24 #[true, true, true, true, true, true, true, true, true, true, true, true, true, true, true, true, true, true, true, true, true, true, true, true, true, false, false, false, false, false] (by kernel_rfl) rfl (some 73) (by kernel_rfl) (by kernel_rfl) (by kernel_rfl) (by kernel_rfl) (c8 a) (by kernel_rfl) 22 (.tmp 3) (by kernel_rfl) w.heap.size (by kernel_rfl) 22 _ (.tail _ (.tail _ (.head _))) Try.underlying22 rfl (inum_c8 _) hO27 ?_
  (try simp only [Act.put, List.setIfInBounds_toArray, List.set_cons_zero, List.set_cons_succ])
  refine hl_load 25 #[true, true, true, true, true, true, true, true, true, true, true, true, true, true, true, true, true, true, true, true, true, true, true, true, true, true, false, false, false, false] (by kernel_rfl) rfl (some 74) (by kernel_rfl) (by kernel_rfl) (by kernel_rfl) (by kernel_rfl) (c8 a) (by kernel_rfl) 22 (.tmp 3) (by kernel_rfl) w.heap.size (by kernel_rfl) 22 _ (.tail _ (.tail _ (.head _))) Try.underlying22 rfl (inum_c8 _) hO27 ?_
  (try simp only [Act.put, List.setIfInBounds_toArray, List.set_cons_zero, List.set_cons_succ])
  refine hl_call 26 #[true, true, true, true, true, true, true, true, true, true, true, true, true, true, true, true, true, true, true, true, true, true, true, true, true, true, true, false, false, false] (by kernel_rfl) rfl (some 75) (by kernel_rfl) (.agg (c8 ((a + 4 * p25 - a) % p25))) (by kernel_rfl) (by kernel_rfl) (by kernel_rfl) (sub_any a a ha ha _) hO27 fun w28 hO28 => ?_
  clear hO27
  (try simp only [Act.put, List.setIfInBounds_toArray, List.set_cons_zero, List.set_cons_succ])
  refine hl_call 27 #[true, true, true, true, true, true, true, true, true, true, true, true, true, true, true, true, true, true, true, true, true, true, true, true, true, true, true, true, false, false] (by kernel_rfl) rfl (some 76) (by kernel_rfl) (.bool true) (by kernel_rfl) (by kernel_rfl) (by kernel_rfl) (zero_true (n := ((a + 4 * p25 - a) % p25)) (N256.mod _) (fld7 _) _) hO28 fun w29 hO29 => ?_
  clear hO28
  (try simp only [Act.put, List.setIfInBounds_toArray, List.set_cons_zero, List.set_cons_succ])
  refine hl_pure 28 #[true, true, true, true, true, true, true, true, true, true, true, true, true, true, true, true, true, true, true, true, true, true, true, true, true, true, true, true, true, false] (by kernel_rfl) rfl (some 77) (by kernel_rfl) (by kernel_rfl) (by kernel_rfl) (by kernel_rfl) (.bool true) (by kernel_rfl) (fun _ => by kernel_rfl) hO29 ?_
  (try simp only [Act.put, List.setIfInBounds_toArray, List.set_cons_zero, List.set_cons_succ])
  refine hl_pure 29 #[true, true, true, true, true, true, true, true, true, true, true, true, true, true, true, true, true, true, true, true, true, true, true, true, true, true, true, true, true, true] (by kernel_rfl) rfl (some 6) (by kernel_rfl) (by kernel_rfl) (by kernel_rfl) (by kernel_rfl) (.bool true) (by kernel_rfl) (fun _ => by kernel_rfl) hO29 ?_
  (try simp only [Act.put, List.setIfInBounds_toArray, List.set_cons_zero, List.set_cons_succ])
  refine hl_done (by kernel_rfl) ?_
  show Code.wp _ _ _ _ _
  refine wp_ret ?_
  refine bodyPost_ret (results_tmp rfl _ _ _) rfl ?_
  exact ⟨rfl, hO29.bl⟩
end Go.Proofs.Ytkmgdpbmkbpkjaa
