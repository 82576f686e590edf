/-
  LimbBelow, walked: whatever the numbers, the answer is true.
-/
import Derived.Test.YtkmgdpbmkbpkjaaEngB
import Derived.LoopN
set_option linter.unusedVariables false
set_option linter.unusedSimpArgs false
namespace Go.Proofs.Ytkmgdpbmkbpkjaa
open Go.RowKit

theorem blw_add (a b : Nat) : (a + b) % p25 = (a % p25 + b) % p25 := (Nat.mod_add_mod _ _ _).symm
theorem blw_mul (a b : Nat) : a * b % p25 = (a % p25) * (b % p25) % p25 := Nat.mul_mod _ _ _
theorem blw_sub (a b : Nat) (hb : N256 b) : (a + 4 * p25 - b) % p25 = (a % p25 + 4 * p25 - b % p25) % p25 := by
  have hb4 := hb.le4
  have hq := lt_p25 b
  have e1 : ((a + 4 * p25 - b) % p25 + b) % p25 = a % p25 := by
    rw [Nat.mod_add_mod, show a + 4 * p25 - b + b = a + p25 * 4 by omega, Nat.add_mul_mod_self_left]
  have e2 : ((a % p25 + 4 * p25 - b % p25) % p25 + b) % p25 = a % p25 := by
    rw [Nat.mod_add_mod, ← Nat.add_mod_mod, show a % p25 + 4 * p25 - b % p25 + b % p25 = a % p25 + p25 * 4 by omega, Nat.add_mul_mod_self_left, Nat.mod_mod]
  have := add_cancel (e1.trans e2.symm)
  rwa [Nat.mod_mod, Nat.mod_mod] at this

set_option maxRecDepth 100000 in
set_option maxHeartbeats 8000000 in
theorem below_any {a b : Nat} (ha : N256 a) (hb : N256 b) (w : World) : Ret Try.prog 5 #[.agg (c8 a), .agg (c8 b)] w (.bool true) := by
  refine calls_of_wp Try.func5 rfl ?_
  simp only [Try.ntmps5, List.size_toArray, List.length_cons, List.length_nil, Nat.reduceAdd, Nat.reduceSub, Array.replicate_succ, Array.replicate_zero, List.push_toArray, List.append_toArray, List.nil_append, List.cons_append]
  have hO := Own.nil w
  refine wp_seq ?_
  refine wp_region_lit ?_
  refine pl_new 22 (c8 a) rfl (by kernel_rfl) hO fun w1 hO1 => ?_
  clear hO
  (try simp only [Act.put, List.setIfInBounds_toArray, List.set_cons_zero, List.set_cons_succ])
  refine pl_new 22 (c8 b) rfl (by kernel_rfl) hO1 fun w2 hO2 => ?_
  clear hO1
  (try simp only [Act.put, List.setIfInBounds_toArray, List.set_cons_zero, List.set_cons_succ])
  refine pl_pure (.bool false) rfl (by kernel_rfl) ?_
  (try simp only [Act.put, List.setIfInBounds_toArray, List.set_cons_zero, List.set_cons_succ])
  refine pl_nil ?_
  show Code.wp _ _ _ _ _
  refine wp_seq ?_
  refine wp_seq ?_
  refine wp_region_lit ?_
  refine pl_call (.bool true) rfl (by kernel_rfl) (alive_any _) hO2 fun w3 hO3 => ?_
  clear hO2
  (try simp only [Act.put, List.setIfInBounds_toArray, List.set_cons_zero, List.set_cons_succ])
  refine pl_pure (.bool false) rfl (by kernel_rfl) ?_
  (try simp only [Act.put, List.setIfInBounds_toArray, List.set_cons_zero, List.set_cons_succ])
  refine pl_nil ?_
  show Code.wp _ _ _ _ _
  refine wp_cond_false rfl ?_
  refine wp_skip ?_
  show Code.wp _ _ _ _ _
  refine wp_seq ?_
  refine wp_seq ?_
  refine hl_start #[false, false, false, false, false, false, false, false, false, false, false, false, false, false, false, false] (by kernel_rfl) (by kernel_rfl) hO3 fun w4 hO4 => ?_
  clear hO3
  refine hl_load 0 #[true, false, false, false, false, false, false, false, false, false, false, false, false, false, false, false] (by kernel_rfl) rfl (some 10) (by kernel_rfl) (by kernel_rfl) (by kernel_rfl) (by kernel_rfl) (c8 a) (by kernel_rfl) 22 (.tmp 2) (by kernel_rfl) w.heap.size (by kernel_rfl) 22 _ (.tail _ (.head _)) Try.underlying22 rfl (inum_c8 _) hO4 ?_
  (try simp only [Act.put, List.setIfInBounds_toArray, List.set_cons_zero, List.set_cons_succ])
  refine hl_load 2 #[true, false, true, false, false, false, false, false, false, false, false, false, false, false, false, false] (by kernel_rfl) rfl (some 12) (by kernel_rfl) (by kernel_rfl) (by kernel_rfl) (by kernel_rfl) (c8 a) (by kernel_rfl) 22 (.tmp 2) (by kernel_rfl) w.heap.size (by kernel_rfl) 22 _ (.tail _ (.head _)) Try.underlying22 rfl (inum_c8 _) hO4 ?_
  (try simp only [Act.put, List.setIfInBounds_toArray, List.set_cons_zero, List.set_cons_succ])
  refine hl_load 3 #[true, false, true, true, false, false, false, false, false, false, false, false, false, false, false, false] (by kernel_rfl) rfl (some 13) (by kernel_rfl) (by kernel_rfl) (by kernel_rfl) (by kernel_rfl) (c8 b) (by kernel_rfl) 22 (.tmp 3) (by kernel_rfl) w1.heap.size (by kernel_rfl) 22 _ (.head _) Try.underlying22 rfl (inum_c8 _) hO4 ?_
  (try simp only [Act.put, List.setIfInBounds_toArray, List.set_cons_zero, List.set_cons_succ])
  refine hl_load 5 #[true, false, true, true, false, true, false, false, false, false, false, false, false, false, false, false] (by kernel_rfl) rfl (some 15) (by kernel_rfl) (by kernel_rfl) (by kernel_rfl) (by kernel_rfl) (c8 a) (by kernel_rfl) 22 (.tmp 2) (by kernel_rfl) w.heap.size (by kernel_rfl) 22 _ (.tail _ (.head _)) Try.underlying22 rfl (inum_c8 _) hO4 ?_
  (try simp only [Act.put, List.setIfInBounds_toArray, List.set_cons_zero, List.set_cons_succ])
  refine hl_load 6 #[true, false, true, true, false, true, true, false, false, false, false, false, false, false, false, false] (by kernel_rfl) rfl (some 16) (by kernel_rfl) (by kernel_rfl) (by kernel_rfl) (by kernel_rfl) (c8 b) (by kernel_rfl) 22 (.tmp 3) (by kernel_rfl) w1.heap.size (by kernel_rfl) 22 _ (.head _) Try.underlying22 rfl (inum_c8 _) hO4 ?_
  (try simp only [Act.put, List.setIfInBounds_toArray, List.set_cons_zero, List.set_cons_succ])
  refine hl_load 8 #[true, false, true, true, false, true, true, false, true, false, false, false, false, false, false, false] (by kernel_rfl) rfl (some 18) (by kernel_rfl) (by kernel_rfl) (by kernel_rfl) (by kernel_rfl) (c8 a) (by kernel_rfl) 22 (.tmp 2) (by kernel_rfl) w.heap.size (by kernel_rfl) 22 _ (.tail _ (.head _)) Try.underlying22 rfl (inum_c8 _) hO4 ?_
  (try simp only [Act.put, List.setIfInBounds_toArray, List.set_cons_zero, List.set_cons_succ])
  refine hl_load 9 #[true, false, true, true, false, true, true, false, true, true, false, false, false, false, false, false] (by kernel_rfl) rfl (some 19) (by kernel_rfl) (by kernel_rfl) (by kernel_rfl) (by kernel_rfl) (c8 b) (by kernel_rfl) 22 (.tmp 3) (by kernel_rfl) w1.heap.size (by kernel_rfl) 22 _ (.head _) Try.underlying22 rfl (inum_c8 _) hO4 ?_
  (try simp only [Act.put, List.setIfInBounds_toArray, List.set_cons_zero, List.set_cons_succ])
  refine hl_load 11 #[true, false, true, true, false, true, true, false, true, true, false, true, false, false, false, false] (by kernel_rfl) rfl (some 21) (by kernel_rfl) (by kernel_rfl) (by kernel_rfl) (by kernel_rfl) (c8 a) (by kernel_rfl) 22 (.tmp 2) (by kernel_rfl) w.heap.size (by kernel_rfl) 22 _ (.tail _ (.head _)) Try.underlying22 rfl (inum_c8 _) hO4 ?_
  (try simp only [Act.put, List.setIfInBounds_toArray, List.set_cons_zero, List.set_cons_succ])
  refine hl_pure 15 #[true, false, true, true, false, true, true, false, true, true, false, true, false, false, false, true] (by kernel_rfl) rfl (some 25) (by kernel_rfl) (by kernel_rfl) (by kernel_rfl) (by kernel_rfl) (.int .i64 0) (by kernel_rfl) (fun _ => by kernel_rfl) hO4 ?_
  (try simp only [Act.put, List.setIfInBounds_toArray, List.set_cons_zero, List.set_cons_succ])
  refine hl_call 1 #[true, true, true, true, false, true, true, false, true, true, false, true, false, false, false, true] (by kernel_rfl) rfl (some 11) (by kernel_rfl) (.agg (c8 (a % p25))) (by kernel_rfl) (by kernel_rfl) (by kernel_rfl) (reduce_any a ha _) hO4 fun w5 hO5 => ?_
  clear hO4
  (try simp only [Act.put, List.setIfInBounds_toArray, List.set_cons_zero, List.set_cons_succ])
  refine hl_call 4 #[true, true, true, true, true, true, true, false, true, true, false, true, false, false, false, true] (by kernel_rfl) rfl (some 14) (by kernel_rfl) (.agg (c8 ((a + b) % p25))) (by kernel_rfl) (by kernel_rfl) (by kernel_rfl) (add_any a b ha hb _) hO5 fun w6 hO6 => ?_
  clear hO5
  (try simp only [Act.put, List.setIfInBounds_toArray, List.set_cons_zero, List.set_cons_succ])
  refine hl_call 7 #[true, true, true, true, true, true, true, true, true, true, false, true, false, false, false, true] (by kernel_rfl) rfl (some 17) (by kernel_rfl) (.agg (c8 ((a + 4 * p25 - b) % p25))) (by kernel_rfl) (by kernel_rfl) (by kernel_rfl) (sub_any a b ha hb _) hO6 fun w7 hO7 => ?_
  clear hO6
  (try simp only [Act.put, List.setIfInBounds_toArray, List.set_cons_zero, List.set_cons_succ])
  refine hl_call 10 #[true, true, true, true, true, true, true, true, true, true, true, true, false, false, false, true] (by kernel_rfl) rfl (some 20) (by kernel_rfl) (.agg (c8 (a * b % p25))) (by kernel_rfl) (by kernel_rfl) (by kernel_rfl) (mul_any a b ha hb _) hO7 fun w8 hO8 => ?_
  clear hO7
  (try simp only [Act.put, List.setIfInBounds_toArray, List.set_cons_zero, List.set_cons_succ])
  refine hl_call 12 #[true, true, true, true, true, true, true, true, true, true, true, true, true, false, false, true] (by kernel_rfl) rfl (some 22) (by kernel_rfl) (.agg (c8 (pinv a))) (by kernel_rfl) (by kernel_rfl) (by kernel_rfl) (inv_any a ha _) hO8 fun w9 hO9 => ?_
  clear hO8
  (try simp only [Act.put, List.setIfInBounds_toArray, List.set_cons_zero, List.set_cons_succ])
  refine hl_one 13 (by kernel_rfl) ?_
  refine st_slice 13 #[true, true, true, true, true, true, true, true, true, true, true, true, true, true, false, true] (by kernel_rfl) rfl (some 23) (by kernel_rfl) rfl 22 (slab [(a % p25), ((a + b) % p25), ((a + 4 * p25 - b) % p25), (a * b % p25), (pinv a)]).toArray 5 (by kernel_rfl) hO9 (fun _ h => h) fun gs w10 hO10 => ?_
  clear hO9
  (try simp only [Act.put, List.setIfInBounds_toArray, List.set_cons_zero, List.set_cons_succ])
  refine hl_pure 14 #[true, true, true, true, true, true, true, true, true, true, true, true, true, true, true, true] (by kernel_rfl) rfl (some 24) (by kernel_rfl) (by kernel_rfl) (by kernel_rfl) (by kernel_rfl) (.int .i64 5) (by kernel_rfl) (fun _ => by kernel_rfl) hO10.tail ?_
  (try simp only [Act.put, List.setIfInBounds_toArray, List.set_cons_zero, List.set_cons_succ])
  refine hl_done (by kernel_rfl) ?_
  show Code.wp _ _ _ _ _
  refine wp_block ?_
  refine wp_loop_rounds 6 ?_
  rw [rounds_succ]
  refine wp_seq ?_
  refine wp_region_lit ?_
  refine pl_pure (.bool true) rfl (by kernel_rfl) ?_
  (try simp only [Act.put, List.setIfInBounds_toArray, List.set_cons_zero, List.set_cons_succ])
  refine pl_nil ?_
  show Code.wp _ _ _ _ _
  refine wp_seq ?_
  refine wp_cond_true rfl ?_
  refine wp_skip ?_
  show Code.wp _ _ _ _ _
  refine wp_seq ?_
  refine wp_block ?_
  refine wp_seq ?_
  refine wp_region_lit ?_
  refine pl_pure (.pointer (some ⟨gs, 0, none⟩)) rfl (by kernel_rfl) ?_
  (try simp only [Act.put, List.setIfInBounds_toArray, List.set_cons_zero, List.set_cons_succ])
  refine pl_nth (l := [(a % p25), ((a + b) % p25), ((a + 4 * p25 - b) % p25), (a * b % p25), (pinv a)]) 0 (a % p25) rfl 22 (.tmp 27) rfl rfl _ (.head _) rfl hO10 Try.underlying22 rfl (by rw [len_c8]; exact inum) ?_
  (try simp only [Act.put, List.setIfInBounds_toArray, List.set_cons_zero, List.set_cons_succ])
  refine pl_new 22 (c8 0) rfl (by kernel_rfl) hO10 fun w11 hO11 => ?_
  clear hO10
  (try simp only [Act.put, List.setIfInBounds_toArray, List.set_cons_zero, List.set_cons_succ])
  refine pl_store (L1 := []) (L2 := [(gs, 22, (slab [(a % p25), ((a + b) % p25), ((a + 4 * p25 - b) % p25), (a * b % p25), (pinv a)]).toArray), (w1.heap.size, 22, (c8 b)), (w.heap.size, 22, (c8 a))]) (cs := (c8 0)) (c8 (a % p25)) rfl 22 (.tmp 6) (.tmp 28) rfl rfl rfl hO11 (by simp only [size_c8]) (inum_c8 _) (one_c8 _) fun w12 hO12 => ?_
  clear hO11
  simp only [List.nil_append] at hO12
  (try simp only [Act.put, List.setIfInBounds_toArray, List.set_cons_zero, List.set_cons_succ])
  refine pl_nil ?_
  show Code.wp _ _ _ _ _
  refine wp_seq ?_
  refine hl_start #[false, false, false, false, false, false, false, false, false] (by kernel_rfl) (by kernel_rfl) hO12 fun w13 hO13 => ?_
  clear hO12
  refine hl_pure 0 #[true, false, false, false, false, false, false, false, false] (by kernel_rfl) rfl (some 29) (by kernel_rfl) (by kernel_rfl) (by kernel_rfl) (by kernel_rfl) (.pointer (some ⟨w10.heap.size, 31, none⟩)) (by kernel_rfl) (fun _ => by kernel_rfl) hO13 ?_
  (try simp only [Act.put, List.setIfInBounds_toArray, List.set_cons_zero, List.set_cons_succ])
  refine hl_byte 1 #[true, true, false, false, false, false, false, false, false] (by kernel_rfl) rfl (some 30) (by kernel_rfl) (by kernel_rfl) (by kernel_rfl) (by kernel_rfl) (g := w10.heap.size) (n := (a % p25)) 31 (by omega) (by kernel_rfl) 5 (.tmp 29) (by kernel_rfl) (by kernel_rfl) (.head _) (fun _ => by kernel_rfl) hO13 ?_
  (try simp only [Act.put, List.setIfInBounds_toArray, List.set_cons_zero, List.set_cons_succ])
  refine hl_gtr 2 #[true, true, true, false, false, false, false, false, false] (by kernel_rfl) rfl (some 31) (by kernel_rfl) (by kernel_rfl) (by kernel_rfl) (by kernel_rfl) (n := (a % p25) / 256 ^ 31 % 256) (top_low (lt_p25 _)) (by kernel_rfl) (.tmp 30) (.const (.int .u8 127)) 5 5 (by kernel_rfl) (by kernel_rfl) (by kernel_rfl) hO13 ?_
  (try simp only [Act.put, List.setIfInBounds_toArray, List.set_cons_zero, List.set_cons_succ])
  refine hl_pure 3 #[true, true, true, true, false, false, false, false, false] (by kernel_rfl) rfl (some 32) (by kernel_rfl) (by kernel_rfl) (by kernel_rfl) (by kernel_rfl) (.bool false) (by kernel_rfl) (fun _ => by kernel_rfl) hO13 ?_
  (try simp only [Act.put, List.setIfInBounds_toArray, List.set_cons_zero, List.set_cons_succ])
  refine hl_load 4 #[true, true, true, true, true, false, false, false, false] (by kernel_rfl) rfl (some 33) (by kernel_rfl) (by kernel_rfl) (by kernel_rfl) (by kernel_rfl) (c8 (a % p25)) (by kernel_rfl) 22 (.tmp 6) (by kernel_rfl) w10.heap.size (by kernel_rfl) 22 _ (.head _) Try.underlying22 rfl (inum_c8 _) hO13 ?_
  (try simp only [Act.put, List.setIfInBounds_toArray, List.set_cons_zero, List.set_cons_succ])
  refine hl_load 6 #[true, true, true, true, true, false, true, false, false] (by kernel_rfl) rfl (some 35) (by kernel_rfl) (by kernel_rfl) (by kernel_rfl) (by kernel_rfl) (c8 (a % p25)) (by kernel_rfl) 22 (.tmp 6) (by kernel_rfl) w10.heap.size (by kernel_rfl) 22 _ (.head _) Try.underlying22 rfl (inum_c8 _) hO13 ?_
  (try simp only [Act.put, List.setIfInBounds_toArray, List.set_cons_zero, List.set_cons_succ])
  refine hl_call 5 #[true, true, true, true, true, true, true, false, false] (by kernel_rfl) rfl (some 34) (by kernel_rfl) (.agg (c8 ((a % p25) % p25))) (by kernel_rfl) (by kernel_rfl) (by kernel_rfl) (reduce_any (a % p25) (N256.mod _) _) hO13 fun w14 hO14 => ?_
  clear hO13
  (try simp only [Act.put, List.setIfInBounds_toArray, List.set_cons_zero, List.set_cons_succ])
  refine hl_neq 7 #[true, true, true, true, true, true, true, true, false] (by kernel_rfl) rfl (some 36) (by kernel_rfl) (by kernel_rfl) (by kernel_rfl) (by kernel_rfl) (x := ((a % p25) % p25)) (y := (a % p25)) .false (N256.mod _) (N256.mod _) (by rw [decide_eq_true (Nat.mod_mod _ _)]; rfl) (by kernel_rfl) (.tmp 34) (.tmp 35) 22 (by kernel_rfl) (by kernel_rfl) (by kernel_rfl) hO14 ?_
  (try simp only [Act.put, List.setIfInBounds_toArray, List.set_cons_zero, List.set_cons_succ])
  refine hl_pure 8 #[true, true, true, true, true, true, true, true, true] (by kernel_rfl) rfl (some 37) (by kernel_rfl) (by kernel_rfl) (by kernel_rfl) (by kernel_rfl) (.bool false) (by kernel_rfl) (fun _ => by kernel_rfl) hO14 ?_
  (try simp only [Act.put, List.setIfInBounds_toArray, List.set_cons_zero, List.set_cons_succ])
  refine hl_done (by kernel_rfl) ?_
  show Code.wp _ _ _ _ _
  refine wp_cond_false rfl ?_
  refine wp_skip ?_
  show Code.wp _ _ _ _ _
  refine wp_region_lit ?_
  refine pl_pure (.int .i64 1) rfl (by kernel_rfl) ?_
  (try simp only [Act.put, List.setIfInBounds_toArray, List.set_cons_zero, List.set_cons_succ])
  refine pl_pure (.int .i64 1) rfl (by kernel_rfl) ?_
  (try simp only [Act.put, List.setIfInBounds_toArray, List.set_cons_zero, List.set_cons_succ])
  refine pl_nil ?_
  show Code.rounds _ _ _ _ _ _
  rw [rounds_succ]
  refine wp_seq ?_
  refine wp_region_lit ?_
  refine pl_pure (.bool true) rfl (by kernel_rfl) ?_
  (try simp only [Act.put, List.setIfInBounds_toArray, List.set_cons_zero, List.set_cons_succ])
  refine pl_nil ?_
  show Code.wp _ _ _ _ _
  refine wp_seq ?_
  refine wp_cond_true rfl ?_
  refine wp_skip ?_
  show Code.wp _ _ _ _ _
  refine wp_seq ?_
  refine wp_block ?_
  refine wp_seq ?_
  refine wp_region_lit ?_
  refine pl_pure (.pointer (some ⟨gs, 32, none⟩)) rfl (by kernel_rfl) ?_
  (try simp only [Act.put, List.setIfInBounds_toArray, List.set_cons_zero, List.set_cons_succ])
  refine pl_nth (l := [(a % p25), ((a + b) % p25), ((a + 4 * p25 - b) % p25), (a * b % p25), (pinv a)]) 1 ((a + b) % p25) rfl 22 (.tmp 27) rfl rfl _ (.tail _ (.head _)) rfl hO14 Try.underlying22 rfl (by rw [len_c8]; exact inum) ?_
  (try simp only [Act.put, List.setIfInBounds_toArray, List.set_cons_zero, List.set_cons_succ])
  refine pl_new 22 (c8 0) rfl (by kernel_rfl) hO14 fun w15 hO15 => ?_
  clear hO14
  (try simp only [Act.put, List.setIfInBounds_toArray, List.set_cons_zero, List.set_cons_succ])
  refine pl_store (L1 := []) (L2 := [(w10.heap.size, 22, (c8 (a % p25))), (gs, 22, (slab [(a % p25), ((a + b) % p25), ((a + 4 * p25 - b) % p25), (a * b % p25), (pinv a)]).toArray), (w1.heap.size, 22, (c8 b)), (w.heap.size, 22, (c8 a))]) (cs := (c8 0)) (c8 ((a + b) % p25)) rfl 22 (.tmp 6) (.tmp 28) rfl rfl rfl hO15 (by simp only [size_c8]) (inum_c8 _) (one_c8 _) fun w16 hO16 => ?_
  clear hO15
  simp only [List.nil_append] at hO16
  (try simp only [Act.put, List.setIfInBounds_toArray, List.set_cons_zero, List.set_cons_succ])
  refine pl_nil ?_
  show Code.wp _ _ _ _ _
  refine wp_seq ?_
  refine hl_start #[false, false, false, false, false, false, false, false, false] (by kernel_rfl) (by kernel_rfl) hO16 fun w17 hO17 => ?_
  clear hO16
  refine hl_pure 0 #[true, false, false, false, false, false, false, false, false] (by kernel_rfl) rfl (some 29) (by kernel_rfl) (by kernel_rfl) (by kernel_rfl) (by kernel_rfl) (.pointer (some ⟨w14.heap.size, 31, none⟩)) (by kernel_rfl) (fun _ => by kernel_rfl) hO17 ?_
  (try simp only [Act.put, List.setIfInBounds_toArray, List.set_cons_zero, List.set_cons_succ])
  refine hl_byte 1 #[true, true, false, false, false, false, false, false, false] (by kernel_rfl) rfl (some 30) (by kernel_rfl) (by kernel_rfl) (by kernel_rfl) (by kernel_rfl) (g := w14.heap.size) (n := ((a + b) % p25)) 31 (by omega) (by kernel_rfl) 5 (.tmp 29) (by kernel_rfl) (by kernel_rfl) (.head _) (fun _ => by kernel_rfl) hO17 ?_
  (try simp only [Act.put, List.setIfInBounds_toArray, List.set_cons_zero, List.set_cons_succ])
  refine hl_gtr 2 #[true, true, true, false, false, false, false, false, false] (by kernel_rfl) rfl (some 31) (by kernel_rfl) (by kernel_rfl) (by kernel_rfl) (by kernel_rfl) (n := ((a + b) % p25) / 256 ^ 31 % 256) (top_low (lt_p25 _)) (by kernel_rfl) (.tmp 30) (.const (.int .u8 127)) 5 5 (by kernel_rfl) (by kernel_rfl) (by kernel_rfl) hO17 ?_
  (try simp only [Act.put, List.setIfInBounds_toArray, List.set_cons_zero, List.set_cons_succ])
  refine hl_pure 3 #[true, true, true, true, false, false, false, false, false] (by kernel_rfl) rfl (some 32) (by kernel_rfl) (by kernel_rfl) (by kernel_rfl) (by kernel_rfl) (.bool false) (by kernel_rfl) (fun _ => by kernel_rfl) hO17 ?_
  (try simp only [Act.put, List.setIfInBounds_toArray, List.set_cons_zero, List.set_cons_succ])
  refine hl_load 4 #[true, true, true, true, true, false, false, false, false] (by kernel_rfl) rfl (some 33) (by kernel_rfl) (by kernel_rfl) (by kernel_rfl) (by kernel_rfl) (c8 ((a + b) % p25)) (by kernel_rfl) 22 (.tmp 6) (by kernel_rfl) w14.heap.size (by kernel_rfl) 22 _ (.head _) Try.underlying22 rfl (inum_c8 _) hO17 ?_
  (try simp only [Act.put, List.setIfInBounds_toArray, List.set_cons_zero, List.set_cons_succ])
  refine hl_load 6 #[true, true, true, true, true, false, true, false, false] (by kernel_rfl) rfl (some 35) (by kernel_rfl) (by kernel_rfl) (by kernel_rfl) (by kernel_rfl) (c8 ((a + b) % p25)) (by kernel_rfl) 22 (.tmp 6) (by kernel_rfl) w14.heap.size (by kernel_rfl) 22 _ (.head _) Try.underlying22 rfl (inum_c8 _) hO17 ?_
  (try simp only [Act.put, List.setIfInBounds_toArray, List.set_cons_zero, List.set_cons_succ])
  refine hl_call 5 #[true, true, true, true, true, true, true, false, false] (by kernel_rfl) rfl (some 34) (by kernel_rfl) (.agg (c8 (((a + b) % p25) % p25))) (by kernel_rfl) (by kernel_rfl) (by kernel_rfl) (reduce_any ((a + b) % p25) (N256.mod _) _) hO17 fun w18 hO18 => ?_
  clear hO17
  (try simp only [Act.put, List.setIfInBounds_toArray, List.set_cons_zero, List.set_cons_succ])
  refine hl_neq 7 #[true, true, true, true, true, true, true, true, false] (by kernel_rfl) rfl (some 36) (by kernel_rfl) (by kernel_rfl) (by kernel_rfl) (by kernel_rfl) (x := (((a + b) % p25) % p25)) (y := ((a + b) % p25)) .false (N256.mod _) (N256.mod _) (by rw [decide_eq_true (Nat.mod_mod _ _)]; rfl) (by kernel_rfl) (.tmp 34) (.tmp 35) 22 (by kernel_rfl) (by kernel_rfl) (by kernel_rfl) hO18 ?_
  (try simp only [Act.put, List.setIfInBounds_toArray, List.set_cons_zero, List.set_cons_succ])
  refine hl_pure 8 #[true, true, true, true, true, true, true, true, true] (by kernel_rfl) rfl (some 37) (by kernel_rfl) (by kernel_rfl) (by kernel_rfl) (by kernel_rfl) (.bool false) (by kernel_rfl) (fun _ => by kernel_rfl) hO18 ?_
  (try simp only [Act.put, List.setIfInBounds_toArray, List.set_cons_zero, List.set_cons_succ])
  refine hl_done (by kernel_rfl) ?_
  show Code.wp _ _ _ _ _
  refine wp_cond_false rfl ?_
  refine wp_skip ?_
  show Code.wp _ _ _ _ _
  refine wp_region_lit ?_
  refine pl_pure (.int .i64 2) rfl (by kernel_rfl) ?_
  (try simp only [Act.put, List.setIfInBounds_toArray, List.set_cons_zero, List.set_cons_succ])
  refine pl_pure (.int .i64 2) rfl (by kernel_rfl) ?_
  (try simp only [Act.put, List.setIfInBounds_toArray, List.set_cons_zero, List.set_cons_succ])
  refine pl_nil ?_
  show Code.rounds _ _ _ _ _ _
  rw [rounds_succ]
  refine wp_seq ?_
  refine wp_region_lit ?_
  refine pl_pure (.bool true) rfl (by kernel_rfl) ?_
  (try simp only [Act.put, List.setIfInBounds_toArray, List.set_cons_zero, List.set_cons_succ])
  refine pl_nil ?_
  show Code.wp _ _ _ _ _
  refine wp_seq ?_
  refine wp_cond_true rfl ?_
  refine wp_skip ?_
  show Code.wp _ _ _ _ _
  refine wp_seq ?_
  refine wp_block ?_
  refine wp_seq ?_
  refine wp_region_lit ?_
  refine pl_pure (.pointer (some ⟨gs, 64, none⟩)) rfl (by kernel_rfl) ?_
  (try simp only [Act.put, List.setIfInBounds_toArray, List.set_cons_zero, List.set_cons_succ])
  refine pl_nth (l := [(a % p25), ((a + b) % p25), ((a + 4 * p25 - b) % p25), (a * b % p25), (pinv a)]) 2 ((a + 4 * p25 - b) % p25) rfl 22 (.tmp 27) rfl rfl _ (.tail _ (.tail _ (.head _))) rfl hO18 Try.underlying22 rfl (by rw [len_c8]; exact inum) ?_
  (try simp only [Act.put, List.setIfInBounds_toArray, List.set_cons_zero, List.set_cons_succ])
  refine pl_new 22 (c8 0) rfl (by kernel_rfl) hO18 fun w19 hO19 => ?_
  clear hO18
  (try simp only [Act.put, List.setIfInBounds_toArray, List.set_cons_zero, List.set_cons_succ])
  refine pl_store (L1 := []) (L2 := [(w14.heap.size, 22, (c8 ((a + b) % p25))), (w10.heap.size, 22, (c8 (a % p25))), (gs, 22, (slab [(a % p25), ((a + b) % p25), ((a + 4 * p25 - b) % p25), (a * b % p25), (pinv a)]).toArray), (w1.heap.size, 22, (c8 b)), (w.heap.size, 22, (c8 a))]) (cs := (c8 0)) (c8 ((a + 4 * p25 - b) % p25)) rfl 22 (.tmp 6) (.tmp 28) rfl rfl rfl hO19 (by simp only [size_c8]) (inum_c8 _) (one_c8 _) fun w20 hO20 => ?_
  clear hO19
  simp only [List.nil_append] at hO20
  (try simp only [Act.put, List.setIfInBounds_toArray, List.set_cons_zero, List.set_cons_succ])
  refine pl_nil ?_
  show Code.wp _ _ _ _ _
  refine wp_seq ?_
  refine hl_start #[false, false, false, false, false, false, false, false, false] (by kernel_rfl) (by kernel_rfl) hO20 fun w21 hO21 => ?_
  clear hO20
  refine hl_pure 0 #[true, false, false, false, false, false, false, false, false] (by kernel_rfl) rfl (some 29) (by kernel_rfl) (by kernel_rfl) (by kernel_rfl) (by kernel_rfl) (.pointer (some ⟨w18.heap.size, 31, none⟩)) (by kernel_rfl) (fun _ => by kernel_rfl) hO21 ?_
  (try simp only [Act.put, List.setIfInBounds_toArray, List.set_cons_zero, List.set_cons_succ])
  refine hl_byte 1 #[true, true, false, false, false, false, false, false, false] (by kernel_rfl) rfl (some 30) (by kernel_rfl) (by kernel_rfl) (by kernel_rfl) (by kernel_rfl) (g := w18.heap.size) (n := ((a + 4 * p25 - b) % p25)) 31 (by omega) (by kernel_rfl) 5 (.tmp 29) (by kernel_rfl) (by kernel_rfl) (.head _) (fun _ => by kernel_rfl) hO21 ?_
  (try simp only [Act.put, List.setIfInBounds_toArray, List.set_cons_zero, List.set_cons_succ])
  refine hl_gtr 2 #[true, true, true, false, false, false, false, false, false] (by kernel_rfl) rfl (some 31) (by kernel_rfl) (by kernel_rfl) (by kernel_rfl) (by kernel_rfl) (n := ((a + 4 * p25 - b) % p25) / 256 ^ 31 % 256) (top_low (lt_p25 _)) (by kernel_rfl) (.tmp 30) (.const (.int .u8 127)) 5 5 (by kernel_rfl) (by kernel_rfl) (by kernel_rfl) hO21 ?_
  (try simp only [Act.put, List.setIfInBounds_toArray, List.set_cons_zero, List.set_cons_succ])
  refine hl_pure 3 #[true, true, true, true, false, false, false, false, false] (by kernel_rfl) rfl (some 32) (by kernel_rfl) (by kernel_rfl) (by kernel_rfl) (by kernel_rfl) (.bool false) (by kernel_rfl) (fun _ => by kernel_rfl) hO21 ?_
  (try simp only [Act.put, List.setIfInBounds_toArray, List.set_cons_zero, List.set_cons_succ])
  refine hl_load 4 #[true, true, true, true, true, false, false, false, false] (by kernel_rfl) rfl (some 33) (by kernel_rfl) (by kernel_rfl) (by kernel_rfl) (by kernel_rfl) (c8 ((a + 4 * p25 - b) % p25)) (by kernel_rfl) 22 (.tmp 6) (by kernel_rfl) w18.heap.size (by kernel_rfl) 22 _ (.head _) Try.underlying22 rfl (inum_c8 _) hO21 ?_
  (try simp only [Act.put, List.setIfInBounds_toArray, List.set_cons_zero, List.set_cons_succ])
  refine hl_load 6 #[true, true, true, true, true, false, true, false, false] (by kernel_rfl) rfl (some 35) (by kernel_rfl) (by kernel_rfl) (by kernel_rfl) (by kernel_rfl) (c8 ((a + 4 * p25 - b) % p25)) (by kernel_rfl) 22 (.tmp 6) (by kernel_rfl) w18.heap.size (by kernel_rfl) 22 _ (.head _) Try.underlying22 rfl (inum_c8 _) hO21 ?_
  (try simp only [Act.put, List.setIfInBounds_toArray, List.set_cons_zero, List.set_cons_succ])
  refine hl_call 5 #[true, true, true, true, true, true, true, false, false] (by kernel_rfl) rfl (some 34) (by kernel_rfl) (.agg (c8 (((a + 4 * p25 - b) % p25) % p25))) (by kernel_rfl) (by kernel_rfl) (by kernel_rfl) (reduce_any ((a + 4 * p25 - b) % p25) (N256.mod _) _) hO21 fun w22 hO22 => ?_
  clear hO21
  (try simp only [Act.put, List.setIfInBounds_toArray, List.set_cons_zero, List.set_cons_succ])
  refine hl_neq 7 #[true, true, true, true, true, true, true, true, false] (by kernel_rfl) rfl (some 36) (by kernel_rfl) (by kernel_rfl) (by kernel_rfl) (by kernel_rfl) (x := (((a + 4 * p25 - b) % p25) % p25)) (y := ((a + 4 * p25 - b) % p25)) .false (N256.mod _) (N256.mod _) (by rw [decide_eq_true (Nat.mod_mod _ _)]; rfl) (by kernel_rfl) (.tmp 34) (.tmp 35) 22 (by kernel_rfl) (by kernel_rfl) (by kernel_rfl) hO22 ?_
  (try simp only [Act.put, List.setIfInBounds_toArray, List.set_cons_zero, List.set_cons_succ])
  refine hl_pure 8 #[true, true, true, true, true, true, true, true, true] (by kernel_rfl) rfl (some 37) (by kernel_rfl) (by kernel_rfl) (by kernel_rfl) (by kernel_rfl) (.bool false) (by kernel_rfl) (fun _ => by kernel_rfl) hO22 ?_
  (try simp only [Act.put, List.setIfInBounds_toArray, List.set_cons_zero, List.set_cons_succ])
  refine hl_done (by kernel_rfl) ?_
  show Code.wp _ _ _ _ _
  refine wp_cond_false rfl ?_
  refine wp_skip ?_
  show Code.wp _ _ _ _ _
  refine wp_region_lit ?_
  refine pl_pure (.int .i64 3) rfl (by kernel_rfl) ?_
  (try simp only [Act.put, List.setIfInBounds_toArray, List.set_cons_zero, List.set_cons_succ])
  refine pl_pure (.int .i64 3) rfl (by kernel_rfl) ?_
  (try simp only [Act.put, List.setIfInBounds_toArray, List.set_cons_zero, List.set_cons_succ])
  refine pl_nil ?_
  show Code.rounds _ _ _ _ _ _
  rw [rounds_succ]
  refine wp_seq ?_
  refine wp_region_lit ?_
  refine pl_pure (.bool true) rfl (by kernel_rfl) ?_
  (try simp only [Act.put, List.setIfInBounds_toArray, List.set_cons_zero, List.set_cons_succ])
  refine pl_nil ?_
  show Code.wp _ _ _ _ _
  refine wp_seq ?_
  refine wp_cond_true rfl ?_
  refine wp_skip ?_
  show Code.wp _ _ _ _ _
  refine wp_seq ?_
  refine wp_block ?_
  refine wp_seq ?_
  refine wp_region_lit ?_
  refine pl_pure (.pointer (some ⟨gs, 96, none⟩)) rfl (by kernel_rfl) ?_
  (try simp only [Act.put, List.setIfInBounds_toArray, List.set_cons_zero, List.set_cons_succ])
  refine pl_nth (l := [(a % p25), ((a + b) % p25), ((a + 4 * p25 - b) % p25), (a * b % p25), (pinv a)]) 3 (a * b % p25) rfl 22 (.tmp 27) rfl rfl _ (.tail _ (.tail _ (.tail _ (.head _)))) rfl hO22 Try.underlying22 rfl (by rw [len_c8]; exact inum) ?_
  (try simp only [Act.put, List.setIfInBounds_toArray, List.set_cons_zero, List.set_cons_succ])
  refine pl_new 22 (c8 0) rfl (by kernel_rfl) hO22 fun w23 hO23 => ?_
  clear hO22
  (try simp only [Act.put, List.setIfInBounds_toArray, List.set_cons_zero, List.set_cons_succ])
  refine pl_store (L1 := []) (L2 := [(w18.heap.size, 22, (c8 ((a + 4 * p25 - b) % p25))), (w14.heap.size, 22, (c8 ((a + b) % p25))), (w10.heap.size, 22, (c8 (a % p25))), (gs, 22, (slab [(a % p25), ((a + b) % p25), ((a + 4 * p25 - b) % p25), (a * b % p25), (pinv a)]).toArray), (w1.heap.size, 22, (c8 b)), (w.heap.size, 22, (c8 a))]) (cs := (c8 0)) (c8 (a * b % p25)) rfl 22 (.tmp 6) (.tmp 28) rfl rfl rfl hO23 (by simp only [size_c8]) (inum_c8 _) (one_c8 _) fun w24 hO24 => ?_
  clear hO23
  simp only [List.nil_append] at hO24
  (try simp only [Act.put, List.setIfInBounds_toArray, List.set_cons_zero, List.set_cons_succ])
  refine pl_nil ?_
  show Code.wp _ _ _ _ _
  refine wp_seq ?_
  refine hl_start #[false, false, false, false, false, false, false, false, false] (by kernel_rfl) (by kernel_rfl) hO24 fun w25 hO25 => ?_
  clear hO24
  refine hl_pure 0 #[true, false, false, false, false, false, false, false, false] (by kernel_rfl) rfl (some 29) (by kernel_rfl) (by kernel_rfl) (by kernel_rfl) (by kernel_rfl) (.pointer (some ⟨w22.heap.size, 31, none⟩)) (by kernel_rfl) (fun _ => by kernel_rfl) hO25 ?_
  (try simp only [Act.put, List.setIfInBounds_toArray, List.set_cons_zero, List.set_cons_succ])
  refine hl_byte 1 #[true, true, false, false, false, false, false, false, false] (by kernel_rfl) rfl (some 30) (by kernel_rfl) (by kernel_rfl) (by kernel_rfl) (by kernel_rfl) (g := w22.heap.size) (n := (a * b % p25)) 31 (by omega) (by kernel_rfl) 5 (.tmp 29) (by kernel_rfl) (by kernel_rfl) (.head _) (fun _ => by kernel_rfl) hO25 ?_
  (try simp only [Act.put, List.setIfInBounds_toArray, List.set_cons_zero, List.set_cons_succ])
  refine hl_gtr 2 #[true, true, true, false, false, false, false, false, false] (by kernel_rfl) rfl (some 31) (by kernel_rfl) (by kernel_rfl) (by kernel_rfl) (by kernel_rfl) (n := (a * b % p25) / 256 ^ 31 % 256) (top_low (lt_p25 _)) (by kernel_rfl) (.tmp 30) (.const (.int .u8 127)) 5 5 (by kernel_rfl) (by kernel_rfl) (by kernel_rfl) hO25 ?_
  (try simp only [Act.put, List.setIfInBounds_toArray, List.set_cons_zero, List.set_cons_succ])
  refine hl_pure 3 #[true, true, true, true, false, false, false, false, false] (by kernel_rfl) rfl (some 32) (by kernel_rfl) (by kernel_rfl) (by kernel_rfl) (by kernel_rfl) (.bool false) (by kernel_rfl) (fun _ => by kernel_rfl) hO25 ?_
  (try simp only [Act.put, List.setIfInBounds_toArray, List.set_cons_zero, List.set_cons_succ])
  refine hl_load 4 #[true, true, true, true, true, false, false, false, false] (by kernel_rfl) rfl (some 33) (by kernel_rfl) (by kernel_rfl) (by kernel_rfl) (by kernel_rfl) (c8 (a * b % p25)) (by kernel_rfl) 22 (.tmp 6) (by kernel_rfl) w22.heap.size (by kernel_rfl) 22 _ (.head _) Try.underlying22 rfl (inum_c8 _) hO25 ?_
  (try simp only [Act.put, List.setIfInBounds_toArray, List.set_cons_zero, List.set_cons_succ])
  refine hl_load 6 #[true, true, true, true, true, false, true, false, false] (by kernel_rfl) rfl (some 35) (by kernel_rfl) (by kernel_rfl) (by kernel_rfl) (by kernel_rfl) (c8 (a * b % p25)) (by kernel_rfl) 22 (.tmp 6) (by kernel_rfl) w22.heap.size (by kernel_rfl) 22 _ (.head _) Try.underlying22 rfl (inum_c8 _) hO25 ?_
  (try simp only [Act.put, List.setIfInBounds_toArray, List.set_cons_zero, List.set_cons_succ])
  refine hl_call 5 #[true, true, true, true, true, true, true, false, false] (by kernel_rfl) rfl (some 34) (by kernel_rfl) (.agg (c8 ((a * b % p25) % p25))) (by kernel_rfl) (by kernel_rfl) (by kernel_rfl) (reduce_any (a * b % p25) (N256.mod _) _) hO25 fun w26 hO26 => ?_
  clear hO25
  (try simp only [Act.put, List.setIfInBounds_toArray, List.set_cons_zero, List.set_cons_succ])
  refine hl_neq 7 #[true, true, true, true, true, true, true, true, false] (by kernel_rfl) rfl (some 36) (by kernel_rfl) (by kernel_rfl) (by kernel_rfl) (by kernel_rfl) (x := ((a * b % p25) % p25)) (y := (a * b % p25)) .false (N256.mod _) (N256.mod _) (by rw [decide_eq_true (Nat.mod_mod _ _)]; rfl) (by kernel_rfl) (.tmp 34) (.tmp 35) 22 (by kernel_rfl) (by kernel_rfl) (by kernel_rfl) hO26 ?_
  (try simp only [Act.put, List.setIfInBounds_toArray, List.set_cons_zero, List.set_cons_succ])
  refine hl_pure 8 #[true, true, true, true, true, true, true, true, true] (by kernel_rfl) rfl (some 37) (by kernel_rfl) (by kernel_rfl) (by kernel_rfl) (by kernel_rfl) (.bool false) (by kernel_rfl) (fun _ => by kernel_rfl) hO26 ?_
  (try simp only [Act.put, List.setIfInBounds_toArray, List.set_cons_zero, List.set_cons_succ])
  refine hl_done (by kernel_rfl) ?_
  show Code.wp _ _ _ _ _
  refine wp_cond_false rfl ?_
  refine wp_skip ?_
  show Code.wp _ _ _ _ _
  refine wp_region_lit ?_
  refine pl_pure (.int .i64 4) rfl (by kernel_rfl) ?_
  (try simp only [Act.put, List.setIfInBounds_toArray, List.set_cons_zero, List.set_cons_succ])
  refine pl_pure (.int .i64 4) rfl (by kernel_rfl) ?_
  (try simp only [Act.put, List.setIfInBounds_toArray, List.set_cons_zero, List.set_cons_succ])
  refine pl_nil ?_
  show Code.rounds _ _ _ _ _ _
  rw [rounds_succ]
  refine wp_seq ?_
  refine wp_region_lit ?_
  refine pl_pure (.bool true) rfl (by kernel_rfl) ?_
  (try simp only [Act.put, List.setIfInBounds_toArray, List.set_cons_zero, List.set_cons_succ])
  refine pl_nil ?_
  show Code.wp _ _ _ _ _
  refine wp_seq ?_
  refine wp_cond_true rfl ?_
  refine wp_skip ?_
  show Code.wp _ _ _ _ _
  refine wp_seq ?_
  refine wp_block ?_
  refine wp_seq ?_
  refine wp_region_lit ?_
  refine pl_pure (.pointer (some ⟨gs, 128, none⟩)) rfl (by kernel_rfl) ?_
  (try simp only [Act.put, List.setIfInBounds_toArray, List.set_cons_zero, List.set_cons_succ])
  refine pl_nth (l := [(a % p25), ((a + b) % p25), ((a + 4 * p25 - b) % p25), (a * b % p25), (pinv a)]) 4 (pinv a) rfl 22 (.tmp 27) rfl rfl _ (.tail _ (.tail _ (.tail _ (.tail _ (.head _))))) rfl hO26 Try.underlying22 rfl (by rw [len_c8]; exact inum) ?_
  (try simp only [Act.put, List.setIfInBounds_toArray, List.set_cons_zero, List.set_cons_succ])
  refine pl_new 22 (c8 0) rfl (by kernel_rfl) hO26 fun w27 hO27 => ?_
  clear hO26
  (try simp only [Act.put, List.setIfInBounds_toArray, List.set_cons_zero, List.set_cons_succ])
  refine pl_store (L1 := []) (L2 := [(w22.heap.size, 22, (c8 (a * b % p25))), (w18.heap.size, 22, (c8 ((a + 4 * p25 - b) % p25))), (w14.heap.size, 22, (c8 ((a + b) % p25))), (w10.heap.size, 22, (c8 (a % p25))), (gs, 22, (slab [(a % p25), ((a + b) % p25), ((a + 4 * p25 - b) % p25), (a * b % p25), (pinv a)]).toArray), (w1.heap.size, 22, (c8 b)), (w.heap.size, 22, (c8 a))]) (cs := (c8 0)) (c8 (pinv a)) rfl 22 (.tmp 6) (.tmp 28) rfl rfl rfl hO27 (by simp only [size_c8]) (inum_c8 _) (one_c8 _) fun w28 hO28 => ?_
  clear hO27
  simp only [List.nil_append] at hO28
  (try simp only [Act.put, List.setIfInBounds_toArray, List.set_cons_zero, List.set_cons_succ])
  refine pl_nil ?_
  show Code.wp _ _ _ _ _
  refine wp_seq ?_
  refine hl_start #[false, false, false, false, false, false, false, false, false] (by kernel_rfl) (by kernel_rfl) hO28 fun w29 hO29 => ?_
  clear hO28
  refine hl_pure 0 #[true, false, false, false, false, false, false, false, false] (by kernel_rfl) rfl (some 29) (by kernel_rfl) (by kernel_rfl) (by kernel_rfl) (by kernel_rfl) (.pointer (some ⟨w26.heap.size, 31, none⟩)) (by kernel_rfl) (fun _ => by kernel_rfl) hO29 ?_
  (try simp only [Act.put, List.setIfInBounds_toArray, List.set_cons_zero, List.set_cons_succ])
  refine hl_byte 1 #[true, true, false, false, false, false, false, false, false] (by kernel_rfl) rfl (some 30) (by kernel_rfl) (by kernel_rfl) (by kernel_rfl) (by kernel_rfl) (g := w26.heap.size) (n := (pinv a)) 31 (by omega) (by kernel_rfl) 5 (.tmp 29) (by kernel_rfl) (by kernel_rfl) (.head _) (fun _ => by kernel_rfl) hO29 ?_
  (try simp only [Act.put, List.setIfInBounds_toArray, List.set_cons_zero, List.set_cons_succ])
  refine hl_gtr 2 #[true, true, true, false, false, false, false, false, false] (by kernel_rfl) rfl (some 31) (by kernel_rfl) (by kernel_rfl) (by kernel_rfl) (by kernel_rfl) (n := (pinv a) / 256 ^ 31 % 256) (top_low (pinv_lt _)) (by kernel_rfl) (.tmp 30) (.const (.int .u8 127)) 5 5 (by kernel_rfl) (by kernel_rfl) (by kernel_rfl) hO29 ?_
  (try simp only [Act.put, List.setIfInBounds_toArray, List.set_cons_zero, List.set_cons_succ])
  refine hl_pure 3 #[true, true, true, true, false, false, false, false, false] (by kernel_rfl) rfl (some 32) (by kernel_rfl) (by kernel_rfl) (by kernel_rfl) (by kernel_rfl) (.bool false) (by kernel_rfl) (fun _ => by kernel_rfl) hO29 ?_
  (try simp only [Act.put, List.setIfInBounds_toArray, List.set_cons_zero, List.set_cons_succ])
  refine hl_load 4 #[true, true, true, true, true, false, false, false, false] (by kernel_rfl) rfl (some 33) (by kernel_rfl) (by kernel_rfl) (by kernel_rfl) (by kernel_rfl) (c8 (pinv a)) (by kernel_rfl) 22 (.tmp 6) (by kernel_rfl) w26.heap.size (by kernel_rfl) 22 _ (.head _) Try.underlying22 rfl (inum_c8 _) hO29 ?_
  (try simp only [Act.put, List.setIfInBounds_toArray, List.set_cons_zero, List.set_cons_succ])
  refine hl_load 6 #[true, true, true, true, true, false, true, false, false] (by kernel_rfl) rfl (some 35) (by kernel_rfl) (by kernel_rfl) (by kernel_rfl) (by kernel_rfl) (c8 (pinv a)) (by kernel_rfl) 22 (.tmp 6) (by kernel_rfl) w26.heap.size (by kernel_rfl) 22 _ (.head _) Try.underlying22 rfl (inum_c8 _) hO29 ?_
  (try simp only [Act.put, List.setIfInBounds_toArray, List.set_cons_zero, List.set_cons_succ])
  refine hl_call 5 #[true, true, true, true, true, true, true, false, false] (by kernel_rfl) rfl (some 34) (by kernel_rfl) (.agg (c8 ((pinv a) % p25))) (by kernel_rfl) (by kernel_rfl) (by kernel_rfl) (reduce_any (pinv a) (pinv_256 _) _) hO29 fun w30 hO30 => ?_
  clear hO29
  (try simp only [Act.put, List.setIfInBounds_toArray, List.set_cons_zero, List.set_cons_succ])
  refine hl_neq 7 #[true, true, true, true, true, true, true, true, false] (by kernel_rfl) rfl (some 36) (by kernel_rfl) (by kernel_rfl) (by kernel_rfl) (by kernel_rfl) (x := ((pinv a) % p25)) (y := (pinv a)) .false (N256.mod _) (pinv_256 _) (by rw [decide_eq_true (Nat.mod_eq_of_lt (pinv_lt a))]; rfl) (by kernel_rfl) (.tmp 34) (.tmp 35) 22 (by kernel_rfl) (by kernel_rfl) (by kernel_rfl) hO30 ?_
  (try simp only [Act.put, List.setIfInBounds_toArray, List.set_cons_zero, List.set_cons_succ])
  refine hl_pure 8 #[true, true, true, true, true, true, true, true, true] (by kernel_rfl) rfl (some 37) (by kernel_rfl) (by kernel_rfl) (by kernel_rfl) (by kernel_rfl) (.bool false) (by kernel_rfl) (fun _ => by kernel_rfl) hO30 ?_
  (try simp only [Act.put, List.setIfInBounds_toArray, List.set_cons_zero, List.set_cons_succ])
  refine hl_done (by kernel_rfl) ?_
  show Code.wp _ _ _ _ _
  refine wp_cond_false rfl ?_
  refine wp_skip ?_
  show Code.wp _ _ _ _ _
  refine wp_region_lit ?_
  refine pl_pure (.int .i64 5) rfl (by kernel_rfl) ?_
  (try simp only [Act.put, List.setIfInBounds_toArray, List.set_cons_zero, List.set_cons_succ])
  refine pl_pure (.int .i64 5) rfl (by kernel_rfl) ?_
  (try simp only [Act.put, List.setIfInBounds_toArray, List.set_cons_zero, List.set_cons_succ])
  refine pl_nil ?_
  show Code.rounds _ _ _ _ _ _
  rw [rounds_succ]
  refine wp_seq ?_
  refine wp_region_lit ?_
  refine pl_pure (.bool false) rfl (by kernel_rfl) ?_
  (try simp only [Act.put, List.setIfInBounds_toArray, List.set_cons_zero, List.set_cons_succ])
  refine pl_nil ?_
  show Code.wp _ _ _ _ _
  refine wp_seq ?_
  refine wp_cond_false rfl ?_
  refine wp_exit ?_
  show Code.wp _ _ _ _ _
  refine wp_seq ?_
  refine wp_region_lit ?_
  refine pl_load (c8 a) rfl 22 (.tmp 2) rfl w.heap.size rfl 22 _ (hO30.get (.tail _ (.tail _ (.tail _ (.tail _ (.tail _ (.tail _ (.tail _ (.head _))))))))) Try.underlying22 rfl (inum_c8 _) ?_
  (try simp only [Act.put, List.setIfInBounds_toArray, List.set_cons_zero, List.set_cons_succ])
  refine pl_call (.agg (c8 (a % p25))) rfl (by kernel_rfl) (reduce_any a ha _) hO30 fun w31 hO31 => ?_
  clear hO30
  (try simp only [Act.put, List.setIfInBounds_toArray, List.set_cons_zero, List.set_cons_succ])
  refine pl_new 22 (c8 0) rfl (by kernel_rfl) hO31 fun w32 hO32 => ?_
  clear hO31
  (try simp only [Act.put, List.setIfInBounds_toArray, List.set_cons_zero, List.set_cons_succ])
  refine pl_store (L1 := []) (L2 := [(w26.heap.size, 22, (c8 (pinv a))), (w22.heap.size, 22, (c8 (a * b % p25))), (w18.heap.size, 22, (c8 ((a + 4 * p25 - b) % p25))), (w14.heap.size, 22, (c8 ((a + b) % p25))), (w10.heap.size, 22, (c8 (a % p25))), (gs, 22, (slab [(a % p25), ((a + b) % p25), ((a + 4 * p25 - b) % p25), (a * b % p25), (pinv a)]).toArray), (w1.heap.size, 22, (c8 b)), (w.heap.size, 22, (c8 a))]) (cs := (c8 0)) (c8 (a % p25)) rfl 22 (.tmp 7) (.tmp 40) rfl rfl rfl hO32 (by simp only [size_c8]) (inum_c8 _) (one_c8 _) fun w33 hO33 => ?_
  clear hO32
  simp only [List.nil_append] at hO33
  (try simp only [Act.put, List.setIfInBounds_toArray, List.set_cons_zero, List.set_cons_succ])
  refine pl_nil ?_
  show Code.wp _ _ _ _ _
  refine wp_seq ?_
  refine hl_start #[false, false, false, false, false, false, false, false, false, false, false, false, false, false, false, false, false, false, false, false, false, false, false, false, false, false, false, false] (by kernel_rfl) (by kernel_rfl) hO33 fun w34 hO34 => ?_
  clear hO33
  refine hl_load 0 #[true, false, false, false, false, false, false, false, false, false, false, false, false, false, false, false, false, false, false, false, false, false, false, false, false, false, false, false] (by kernel_rfl) rfl (some 41) (by kernel_rfl) (by kernel_rfl) (by kernel_rfl) (by kernel_rfl) (c8 a) (by kernel_rfl) 22 (.tmp 2) (by kernel_rfl) w.heap.size (by kernel_rfl) 22 _ (.tail _ (.tail _ (.tail _ (.tail _ (.tail _ (.tail _ (.tail _ (.tail _ (.head _))))))))) Try.underlying22 rfl (inum_c8 _) hO34 ?_
  (try simp only [Act.put, List.setIfInBounds_toArray, List.set_cons_zero, List.set_cons_succ])
  refine hl_load 1 #[true, true, false, false, false, false, false, false, false, false, false, false, false, false, false, false, false, false, false, false, false, false, false, false, false, false, false, false] (by kernel_rfl) rfl (some 42) (by kernel_rfl) (by kernel_rfl) (by kernel_rfl) (by kernel_rfl) (c8 b) (by kernel_rfl) 22 (.tmp 3) (by kernel_rfl) w1.heap.size (by kernel_rfl) 22 _ (.tail _ (.tail _ (.tail _ (.tail _ (.tail _ (.tail _ (.tail _ (.head _)))))))) Try.underlying22 rfl (inum_c8 _) hO34 ?_
  (try simp only [Act.put, List.setIfInBounds_toArray, List.set_cons_zero, List.set_cons_succ])
  refine hl_load 3 #[true, true, false, true, false, false, false, false, false, false, false, false, false, false, false, false, false, false, false, false, false, false, false, false, false, false, false, false] (by kernel_rfl) rfl (some 44) (by kernel_rfl) (by kernel_rfl) (by kernel_rfl) (by kernel_rfl) (c8 (a % p25)) (by kernel_rfl) 22 (.tmp 7) (by kernel_rfl) w31.heap.size (by kernel_rfl) 22 _ (.head _) Try.underlying22 rfl (inum_c8 _) hO34 ?_
  (try simp only [Act.put, List.setIfInBounds_toArray, List.set_cons_zero, List.set_cons_succ])
  refine hl_load 4 #[true, true, false, true, true, false, false, false, false, false, false, false, false, false, false, false, false, false, false, false, false, false, false, false, false, false, false, false] (by kernel_rfl) rfl (some 45) (by kernel_rfl) (by kernel_rfl) (by kernel_rfl) (by kernel_rfl) (c8 b) (by kernel_rfl) 22 (.tmp 3) (by kernel_rfl) w1.heap.size (by kernel_rfl) 22 _ (.tail _ (.tail _ (.tail _ (.tail _ (.tail _ (.tail _ (.tail _ (.head _)))))))) Try.underlying22 rfl (inum_c8 _) hO34 ?_
  (try simp only [Act.put, List.setIfInBounds_toArray, List.set_cons_zero, List.set_cons_succ])
  refine hl_call 2 #[true, true, true, true, true, false, false, false, false, false, false, false, false, false, false, false, false, false, false, false, false, false, false, false, false, false, false, false] (by kernel_rfl) rfl (some 43) (by kernel_rfl) (.agg (c8 ((a + b) % p25))) (by kernel_rfl) (by kernel_rfl) (by kernel_rfl) (add_any a b ha hb _) hO34 fun w35 hO35 => ?_
  clear hO34
  (try simp only [Act.put, List.setIfInBounds_toArray, List.set_cons_zero, List.set_cons_succ])
  refine hl_call 5 #[true, true, true, true, true, true, false, false, false, false, false, false, false, false, false, false, false, false, false, false, false, false, false, false, false, false, false, false] (by kernel_rfl) rfl (some 46) (by kernel_rfl) (.agg (c8 (((a % p25) + b) % p25))) (by kernel_rfl) (by kernel_rfl) (by kernel_rfl) (add_any (a % p25) b (N256.mod _) hb _) hO35 fun w36 hO36 => ?_
  clear hO35
  (try simp only [Act.put, List.setIfInBounds_toArray, List.set_cons_zero, List.set_cons_succ])
  refine hl_eql 6 #[true, true, true, true, true, true, true, false, false, false, false, false, false, false, false, false, false, false, false, false, false, false, false, false, false, false, false, false] (by kernel_rfl) rfl (some 47) (by kernel_rfl) (by kernel_rfl) (by kernel_rfl) (by kernel_rfl) (x := ((a + b) % p25)) (y := (((a % p25) + b) % p25)) .true (N256.mod _) (N256.mod _) (decide_eq_true (blw_add a b)) (by kernel_rfl) (.tmp 43) (.tmp 46) 22 (by kernel_rfl) (by kernel_rfl) (by kernel_rfl) hO36 ?_
  (try simp only [Act.put, List.setIfInBounds_toArray, List.set_cons_zero, List.set_cons_succ])
  refine hl_pure 7 #[true, true, true, true, true, true, true, true, false, false, false, false, false, false, false, false, false, false, false, false, false, false, false, false, false, false, false, false] (by kernel_rfl) rfl (some 48) (by kernel_rfl) (by kernel_rfl) (by kernel_rfl) (by kernel_rfl) (.bool true) (by kernel_rfl) (fun _ => by kernel_rfl) hO36 ?_
  (try simp only [Act.put, List.setIfInBounds_toArray, List.set_cons_zero, List.set_cons_succ])
  refine hl_load 8 #[true, true, true, true, true, true, true, true, true, false, false, false, false, false, false, false, false, false, false, false, false, false, false, false, false, false, false, false] (by kernel_rfl) rfl (some 49) (by kernel_rfl) (by kernel_rfl) (by kernel_rfl) (by kernel_rfl) (c8 a) (by kernel_rfl) 22 (.tmp 2) (by kernel_rfl) w.heap.size (by kernel_rfl) 22 _ (.tail _ (.tail _ (.tail _ (.tail _ (.tail _ (.tail _ (.tail _ (.tail _ (.head _))))))))) Try.underlying22 rfl (inum_c8 _) hO36 ?_
  (try simp only [Act.put, List.setIfInBounds_toArray, List.set_cons_zero, List.set_cons_succ])
  refine hl_load 9 #[true, true, true, true, true, true, true, true, true, true, false, false, false, false, false, false, false, false, false, false, false, false, false, false, false, false, false, false] (by kernel_rfl) rfl (some 50) (by kernel_rfl) (by kernel_rfl) (by kernel_rfl) (by kernel_rfl) (c8 b) (by kernel_rfl) 22 (.tmp 3) (by kernel_rfl) w1.heap.size (by kernel_rfl) 22 _ (.tail _ (.tail _ (.tail _ (.tail _ (.tail _ (.tail _ (.tail _ (.head _)))))))) Try.underlying22 rfl (inum_c8 _) hO36 ?_
  (try simp only [Act.put, List.setIfInBounds_toArray, List.set_cons_zero, List.set_cons_succ])
  refine hl_load 11 #[true, true, true, true, true, true, true, true, true, true, false, true, false, false, false, false, false, false, false, false, false, false, false, false, false, false, false, false] (by kernel_rfl) rfl (some 52) (by kernel_rfl) (by kernel_rfl) (by kernel_rfl) (by kernel_rfl) (c8 (a % p25)) (by kernel_rfl) 22 (.tmp 7) (by kernel_rfl) w31.heap.size (by kernel_rfl) 22 _ (.head _) Try.underlying22 rfl (inum_c8 _) hO36 ?_
  (try simp only [Act.put, List.setIfInBounds_toArray, List.set_cons_zero, List.set_cons_succ])
  refine hl_load 12 #[true, true, true, true, true, true, true, true, true, true, false, true, true, false, false, false, false, false, false, false, false, false, false, false, false, false, false, false] (by kernel_rfl) rfl (some 53) (by kernel_rfl) (by kernel_rfl) (by kernel_rfl) (by kernel_rfl) (c8 b) (by kernel_rfl) 22 (.tmp 3) (by kernel_rfl) w1.heap.size (by kernel_rfl) 22 _ (.tail _ (.tail _ (.tail _ (.tail _ (.tail _ (.tail _ (.tail _ (.head _)))))))) Try.underlying22 rfl (inum_c8 _) hO36 ?_
  (try simp only [Act.put, List.setIfInBounds_toArray, List.set_cons_zero, List.set_cons_succ])
  refine hl_call 10 #[true, true, true, true, true, true, true, true, true, true, true, true, true, false, false, false, false, false, false, false, false, false, false, false, false, false, false, false] (by kernel_rfl) rfl (some 51) (by kernel_rfl) (.agg (c8 (a * b % p25))) (by kernel_rfl) (by kernel_rfl) (by kernel_rfl) (mul_any a b ha hb _) hO36 fun w37 hO37 => ?_
  clear hO36
  (try simp only [Act.put, List.setIfInBounds_toArray, List.set_cons_zero, List.set_cons_succ])
  refine hl_call 13 #[true, true, true, true, true, true, true, true, true, true, true, true, true, true, false, false, false, false, false, false, false, false, false, false, false, false, false, false] (by kernel_rfl) rfl (some 54) (by kernel_rfl) (.agg (c8 (b % p25))) (by kernel_rfl) (by kernel_rfl) (by kernel_rfl) (reduce_any b hb _) hO37 fun w38 hO38 => ?_
  clear hO37
  (try simp only [Act.put, List.setIfInBounds_toArray, List.set_cons_zero, List.set_cons_succ])
  refine hl_call 14 #[true, true, true, true, true, true, true, true, true, true, true, true, true, true, true, false, false, false, false, false, false, false, false, false, false, false, false, false] (by kernel_rfl) rfl (some 55) (by kernel_rfl) (.agg (c8 ((a % p25) * (b % p25) % p25))) (by kernel_rfl) (by kernel_rfl) (by kernel_rfl) (mul_any (a % p25) (b % p25) (N256.mod _) (N256.mod _) _) hO38 fun w39 hO39 => ?_
  clear hO38
  (try simp only [Act.put, List.setIfInBounds_toArray, List.set_cons_zero, List.set_cons_succ])
  refine hl_eql 15 #[true, true, true, true, true, true, true, true, true, true, true, true, true, true, true, true, false, false, false, false, false, false, false, false, false, false, false, false] (by kernel_rfl) rfl (some 56) (by kernel_rfl) (by kernel_rfl) (by kernel_rfl) (by kernel_rfl) (x := (a * b % p25)) (y := ((a % p25) * (b % p25) % p25)) .true (N256.mod _) (N256.mod _) (decide_eq_true (blw_mul a b)) (by kernel_rfl) (.tmp 51) (.tmp 55) 22 (by kernel_rfl) (by kernel_rfl) (by kernel_rfl) hO39 ?_
  (try simp only [Act.put, List.setIfInBounds_toArray, List.set_cons_zero, List.set_cons_succ])
  refine hl_pure 16 #[true, true, true, true, true, true, true, true, true, true, true, true, true, true, true, true, true, false, false, false, false, false, false, false, false, false, false, false] (by kernel_rfl) rfl (some 57) (by kernel_rfl) (by kernel_rfl) (by kernel_rfl) (by kernel_rfl) (.bool true) (by kernel_rfl) (fun _ => by kernel_rfl) hO39 ?_
  (try simp only [Act.put, List.setIfInBounds_toArray, List.set_cons_zero, List.set_cons_succ])
  refine hl_pure 17 #[true, true, true, true, true, true, true, true, true, true, true, true, true, true, true, true, true, true, false, false, false, false, false, false, false, false, false, false] (by kernel_rfl) rfl (some 58) (by kernel_rfl) (by kernel_rfl) (by kernel_rfl) (by kernel_rfl) (.bool true) (by kernel_rfl) (fun _ => by kernel_rfl) hO39 ?_
  (try simp only [Act.put, List.setIfInBounds_toArray, List.set_cons_zero, List.set_cons_succ])
  refine hl_load 18 #[true, true, true, true, true, true, true, true, true, true, true, true, true, true, true, true, true, true, true, false, false, false, false, false, false, false, false, false] (by kernel_rfl) rfl (some 59) (by kernel_rfl) (by kernel_rfl) (by kernel_rfl) (by kernel_rfl) (c8 a) (by kernel_rfl) 22 (.tmp 2) (by kernel_rfl) w.heap.size (by kernel_rfl) 22 _ (.tail _ (.tail _ (.tail _ (.tail _ (.tail _ (.tail _ (.tail _ (.tail _ (.head _))))))))) Try.underlying22 rfl (inum_c8 _) hO39 ?_
  (try simp only [Act.put, List.setIfInBounds_toArray, List.set_cons_zero, List.set_cons_succ])
  refine hl_load 19 #[true, true, true, true, true, true, true, true, true, true, true, true, true, true, true, true, true, true, true, true, false, false, false, false, false, false, false, false] (by kernel_rfl) rfl (some 60) (by kernel_rfl) (by kernel_rfl) (by kernel_rfl) (by kernel_rfl) (c8 b) (by kernel_rfl) 22 (.tmp 3) (by kernel_rfl) w1.heap.size (by kernel_rfl) 22 _ (.tail _ (.tail _ (.tail _ (.tail _ (.tail _ (.tail _ (.tail _ (.head _)))))))) Try.underlying22 rfl (inum_c8 _) hO39 ?_
  (try simp only [Act.put, List.setIfInBounds_toArray, List.set_cons_zero, List.set_cons_succ])
  refine hl_load 21 #[true, true, true, true, true, true, true, true, true, true, true, true, true, true, true, true, true, true, true, true, false, true, false, false, false, false, false, false] (by kernel_rfl) rfl (some 62) (by kernel_rfl) (by kernel_rfl) (by kernel_rfl) (by kernel_rfl) (c8 (a % p25)) (by kernel_rfl) 22 (.tmp 7) (by kernel_rfl) w31.heap.size (by kernel_rfl) 22 _ (.head _) Try.underlying22 rfl (inum_c8 _) hO39 ?_
  (try simp only [Act.put, List.setIfInBounds_toArray, List.set_cons_zero, List.set_cons_succ])
  refine hl_load 22 #[true, true, true, true, true, true, true, true, true, true, true, true, true, true, true, true, true, true, true, true, false, true, true, false, false, false, false, false] (by kernel_rfl) rfl (some 63) (by kernel_rfl) (by kernel_rfl) (by kernel_rfl) (by kernel_rfl) (c8 b) (by kernel_rfl) 22 (.tmp 3) (by kernel_rfl) w1.heap.size (by kernel_rfl) 22 _ (.tail _ (.tail _ (.tail _ (.tail _ (.tail _ (.tail _ (.tail _ (.head _)))))))) Try.underlying22 rfl (inum_c8 _) hO39 ?_
  (try simp only [Act.put, List.setIfInBounds_toArray, List.set_cons_zero, List.set_cons_succ])
  refine hl_call 20 #[true, true, true, true, true, true, true, true, true, true, true, true, true, true, true, true, true, true, true, true, true, true, true, false, false, false, false, false] (by kernel_rfl) rfl (some 61) (by kernel_rfl) (.agg (c8 ((a + 4 * p25 - b) % p25))) (by kernel_rfl) (by kernel_rfl) (by kernel_rfl) (sub_any a b ha hb _) hO39 fun w40 hO40 => ?_
  clear hO39
  (try simp only [Act.put, List.setIfInBounds_toArray, List.set_cons_zero, List.set_cons_succ])
  refine hl_call 23 #[true, true, true, true, true, true, true, true, true, true, true, true, true, true, true, true, true, true, true, true, true, true, true, true, false, false, false, false] (by kernel_rfl) rfl (some 64) (by kernel_rfl) (.agg (c8 (b % p25))) (by kernel_rfl) (by kernel_rfl) (by kernel_rfl) (reduce_any b hb _) hO40 fun w41 hO41 => ?_
  clear hO40
  (try simp only [Act.put, List.setIfInBounds_toArray, List.set_cons_zero, List.set_cons_succ])
  refine hl_call 24 #[true, true, true, true, true, true, true, true, true, true, true, true, true, true, true, true, true, true, true, true, true, true, true, true, true, false, false, false] (by kernel_rfl) rfl (some 65) (by kernel_rfl) (.agg (c8 (((a % p25) + 4 * p25 - (b % p25)) % p25))) (by kernel_rfl) (by kernel_rfl) (by kernel_rfl) (sub_any (a % p25) (b % p25) (N256.mod _) (N256.mod _) _) hO41 fun w42 hO42 => ?_
  clear hO41
  (try simp only [Act.put, List.setIfInBounds_toArray, List.set_cons_zero, List.set_cons_succ])
  refine hl_eql 25 #[true, true, true, true, true, true, true, true, true, true, true, true, true, true, true, true, true, true, true, true, true, true, true, true, true, true, false, false] (by kernel_rfl) rfl (some 66) (by kernel_rfl) (by kernel_rfl) (by kernel_rfl) (by kernel_rfl) (x := ((a + 4 * p25 - b) % p25)) (y := (((a % p25) + 4 * p25 - (b % p25)) % p25)) .true (N256.mod _) (N256.mod _) (decide_eq_true (blw_sub a b hb)) (by kernel_rfl) (.tmp 61) (.tmp 65) 22 (by kernel_rfl) (by kernel_rfl) (by kernel_rfl) hO42 ?_
  (try simp only [Act.put, List.setIfInBounds_toArray, List.set_cons_zero, List.set_cons_succ])
  refine hl_pure 26 #[true, true, true, true, true, true, true, true, true, true, true, true, true, true, true, true, true, true, true, true, true, true, true, true, true, true, true, false] (by kernel_rfl) rfl (some 67) (by kernel_rfl) (by kernel_rfl) (by kernel_rfl) (by kernel_rfl) (.bool true) (by kernel_rfl) (fun _ => by kernel_rfl) hO42 ?_
  (try simp only [Act.put, List.setIfInBounds_toArray, List.set_cons_zero, List.set_cons_succ])
  refine hl_pure 27 #[true, true, true, true, true, true, true, true, true, true, true, true, true, true, true, true, true, true, true, true, true, true, true, true, true, true, true, true] (by kernel_rfl) rfl (some 4) (by kernel_rfl) (by kernel_rfl) (by kernel_rfl) (by kernel_rfl) (.bool true) (by kernel_rfl) (fun _ => by kernel_rfl) hO42 ?_
  (try simp only [Act.put, List.setIfInBounds_toArray, List.set_cons_zero, List.set_cons_succ])
  refine hl_done (by kernel_rfl) ?_
  show Code.wp _ _ _ _ _
  refine wp_ret ?_
  (try simp only [Exit.then, Exit.inBlock])
  refine bodyPost_ret (results_tmp rfl _ _ _) rfl ?_
  exact ⟨rfl, hO42.bl⟩
end Go.Proofs.Ytkmgdpbmkbpkjaa
