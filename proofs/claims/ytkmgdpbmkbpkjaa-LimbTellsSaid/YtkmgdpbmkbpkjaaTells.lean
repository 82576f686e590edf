/-
  LimbInverts, walked: whatever the numbers, the answer is true.
-/
import Derived.Test.YtkmgdpbmkbpkjaaGRef
import Derived.Test.YtkmgdpbmkbpkjaaGBase
import Derived.Test.YtkmgdpbmkbpkjaaProducts
set_option linter.unusedVariables false
set_option linter.unusedSimpArgs false
namespace Go.Proofs.Ytkmgdpbmkbpkjaa
open Go.RowKit

theorem swap_t (a b : Nat) (w : World) : Ret Try.prog 19 #[.bool true, .agg (c8 a), .agg (c8 b)] w (.tuple #[.agg (c8 b), .agg (c8 a)]) := swap_any true a b w
theorem swap_f (a b : Nat) (w : World) : Ret Try.prog 19 #[.bool false, .agg (c8 a), .agg (c8 b)] w (.tuple #[.agg (c8 a), .agg (c8 b)]) := swap_any false a b w
theorem mul_pinv_zero {a : Nat} (h : a % p25 = 0) : a * pinv a % p25 = 0 := by rw [Nat.mul_mod, h, Nat.zero_mul, Nat.zero_mod]

set_option maxRecDepth 100000 in
set_option maxHeartbeats 8000000 in
theorem inverts_any {a : Nat} (ha : N256 a) (w : World) : Ret Try.prog 3 #[.agg (c8 a)] w (.bool true) := by
  by_cases h : a % p25 = 0
  · refine calls_of_wp Try.func3 rfl ?_
    simp only [Try.ntmps3, List.size_toArray, List.length_cons, List.length_nil, Nat.reduceAdd, Nat.reduceSub, Array.replicate_succ, Array.replicate_zero, List.push_toArray, List.append_toArray, List.nil_append, List.cons_append]
    have hO := Own.nil w
    refine wp_seq ?_
    refine wp_region_lit ?_
    refine pl_new 22 (c8 a) rfl (by kernel_rfl) hO fun w1 hO1 => ?_
    clear hO
    (try simp only [Act.put, List.setIfInBounds_toArray, List.set_cons_zero, List.set_cons_succ])
    refine pl_pure (.bool false) rfl (by kernel_rfl) ?_
    (try simp only [Act.put, List.setIfInBounds_toArray, List.set_cons_zero, List.set_cons_succ])
    refine pl_nil ?_
    show Code.wp _ _ _ _ _
    refine wp_seq ?_
    refine wp_seq ?_
    refine wp_region_lit ?_
    refine pl_call (.bool true) rfl (by kernel_rfl) (alive_any _) hO1 fun w2 hO2 => ?_
    clear hO1
    (try simp only [Act.put, List.setIfInBounds_toArray, List.set_cons_zero, List.set_cons_succ])
    refine pl_pure (.bool false) rfl (by kernel_rfl) ?_
    (try simp only [Act.put, List.setIfInBounds_toArray, List.set_cons_zero, List.set_cons_succ])
    refine pl_nil ?_
    show Code.wp _ _ _ _ _
    refine wp_cond_false rfl ?_
    refine wp_skip ?_
    show Code.wp _ _ _ _ _
    refine wp_seq ?_
    refine wp_region_lit ?_
    refine pl_load (c8 a) rfl 22 (.tmp 1) rfl w.heap.size rfl 22 _ (hO2.get (.head _)) Try.underlying22 rfl (inum_c8 _) ?_
    (try simp only [Act.put, List.setIfInBounds_toArray, List.set_cons_zero, List.set_cons_succ])
    refine pl_call (.agg (c8 (pinv a))) rfl (by kernel_rfl) (inv_any a ha _) hO2 fun w3 hO3 => ?_
    clear hO2
    (try simp only [Act.put, List.setIfInBounds_toArray, List.set_cons_zero, List.set_cons_succ])
    refine pl_new 22 (c8 0) rfl (by kernel_rfl) hO3 fun w4 hO4 => ?_
    clear hO3
    (try simp only [Act.put, List.setIfInBounds_toArray, List.set_cons_zero, List.set_cons_succ])
    refine pl_store (L1 := []) (L2 := [(w.heap.size, 22, (c8 a))]) (cs := (c8 0)) (c8 (pinv a)) rfl 22 (.tmp 3) (.tmp 8) rfl rfl rfl hO4 (by simp only [size_c8]) (inum_c8 _) (one_c8 _) fun w5 hO5 => ?_
    clear hO4
    simp only [List.nil_append] at hO5
    (try simp only [Act.put, List.setIfInBounds_toArray, List.set_cons_zero, List.set_cons_succ])
    refine pl_nil ?_
    show Code.wp _ _ _ _ _
    refine wp_seq ?_
    refine wp_region_lit ?_
    refine pl_pure (.agg (c8 1)) rfl (by kernel_rfl) ?_
    (try simp only [Act.put, List.setIfInBounds_toArray, List.set_cons_zero, List.set_cons_succ])
    refine pl_new 22 (c8 0) rfl (by kernel_rfl) hO5 fun w6 hO6 => ?_
    clear hO5
    (try simp only [Act.put, List.setIfInBounds_toArray, List.set_cons_zero, List.set_cons_succ])
    refine pl_store (L1 := []) (L2 := [(w3.heap.size, 22, (c8 (pinv a))), (w.heap.size, 22, (c8 a))]) (cs := (c8 0)) (c8 1) rfl 22 (.tmp 4) (.tmp 9) rfl rfl rfl hO6 (by simp only [size_c8]) (inum_c8 _) (one_c8 _) fun w7 hO7 => ?_
    clear hO6
    simp only [List.nil_append] at hO7
    (try simp only [Act.put, List.setIfInBounds_toArray, List.set_cons_zero, List.set_cons_succ])
    refine pl_nil ?_
    show Code.wp _ _ _ _ _
    refine wp_seq ?_
    refine wp_seq ?_
    refine wp_region_lit ?_
    refine pl_load (c8 a) rfl 22 (.tmp 1) rfl w.heap.size rfl 22 _ (hO7.get (.tail _ (.tail _ (.head _)))) Try.underlying22 rfl (inum_c8 _) ?_
    (try simp only [Act.put, List.setIfInBounds_toArray, List.set_cons_zero, List.set_cons_succ])
    refine pl_call (.bool true) rfl (by kernel_rfl) (zero_true (n := a) ha h _) hO7 fun w8 hO8 => ?_
    clear hO7
    (try simp only [Act.put, List.setIfInBounds_toArray, List.set_cons_zero, List.set_cons_succ])
    refine pl_nil ?_
    show Code.wp _ _ _ _ _
    refine wp_cond_true rfl ?_
    refine wp_region_lit ?_
    refine pl_pure (.agg (c8 0)) rfl (by kernel_rfl) ?_
    (try simp only [Act.put, List.setIfInBounds_toArray, List.set_cons_zero, List.set_cons_succ])
    refine pl_store (L1 := []) (L2 := [(w3.heap.size, 22, (c8 (pinv a))), (w.heap.size, 22, (c8 a))]) (cs := (c8 1)) (c8 0) rfl 22 (.tmp 4) (.tmp 12) rfl rfl rfl hO8 (by simp only [size_c8]) (inum_c8 _) (one_c8 _) fun w9 hO9 => ?_
    clear hO8
    simp only [List.nil_append] at hO9
    (try simp only [Act.put, List.setIfInBounds_toArray, List.set_cons_zero, List.set_cons_succ])
    refine pl_nil ?_
    show Code.wp _ _ _ _ _
    refine wp_seq ?_
    refine hl_start #[false, false, false, false, false, false, false, false, false, false, false, false] (by kernel_rfl) (by kernel_rfl) hO9 fun w10 hO10 => ?_
    clear hO9
    refine hl_load 0 #[true, false, false, false, false, false, false, false, false, false, false, false] (by kernel_rfl) rfl (some 13) (by kernel_rfl) (by kernel_rfl) (by kernel_rfl) (by kernel_rfl) (c8 (pinv a)) (by kernel_rfl) 22 (.tmp 3) (by kernel_rfl) w3.heap.size (by kernel_rfl) 22 _ (.tail _ (.head _)) Try.underlying22 rfl (inum_c8 _) hO10 ?_
    (try simp only [Act.put, List.setIfInBounds_toArray, List.set_cons_zero, List.set_cons_succ])
    refine hl_load 1 #[true, true, false, false, false, false, false, false, false, false, false, false] (by kernel_rfl) rfl (some 14) (by kernel_rfl) (by kernel_rfl) (by kernel_rfl) (by kernel_rfl) (c8 a) (by kernel_rfl) 22 (.tmp 1) (by kernel_rfl) w.heap.size (by kernel_rfl) 22 _ (.tail _ (.tail _ (.head _))) Try.underlying22 rfl (inum_c8 _) hO10 ?_
    (try simp only [Act.put, List.setIfInBounds_toArray, List.set_cons_zero, List.set_cons_succ])
    refine hl_call 2 #[true, true, true, false, false, false, false, false, false, false, false, false] (by kernel_rfl) rfl (some 15) (by kernel_rfl) (.agg (c8 (pinv a))) (by kernel_rfl) (by kernel_rfl) (by kernel_rfl) (refInv_any a ha _) hO10 fun w11 hO11 => ?_
    clear hO10
    (try simp only [Act.put, List.setIfInBounds_toArray, List.set_cons_zero, List.set_cons_succ])
    refine hl_eql 3 #[true, true, true, true, false, false, false, false, false, false, false, false] (by kernel_rfl) rfl (some 16) (by kernel_rfl) (by kernel_rfl) (by kernel_rfl) (by kernel_rfl) (x := (pinv a)) (y := (pinv a)) .true (pinv_256 _) (pinv_256 _) (decide_eq_true rfl) (by kernel_rfl) (.tmp 13) (.tmp 15) 22 (by kernel_rfl) (by kernel_rfl) (by kernel_rfl) hO11 ?_
    (try simp only [Act.put, List.setIfInBounds_toArray, List.set_cons_zero, List.set_cons_succ])
    refine hl_pure 4 #[true, true, true, true, true, false, false, false, false, false, false, false] (by kernel_rfl) rfl (some 17) (by kernel_rfl) (by kernel_rfl) (by kernel_rfl) (by kernel_rfl) (.bool true) (by kernel_rfl) (fun _ => by kernel_rfl) hO11 ?_
    (try simp only [Act.put, List.setIfInBounds_toArray, List.set_cons_zero, List.set_cons_succ])
    refine hl_load 5 #[true, true, true, true, true, true, false, false, false, false, false, false] (by kernel_rfl) rfl (some 18) (by kernel_rfl) (by kernel_rfl) (by kernel_rfl) (by kernel_rfl) (c8 a) (by kernel_rfl) 22 (.tmp 1) (by kernel_rfl) w.heap.size (by kernel_rfl) 22 _ (.tail _ (.tail _ (.head _))) Try.underlying22 rfl (inum_c8 _) hO11 ?_
    (try simp only [Act.put, List.setIfInBounds_toArray, List.set_cons_zero, List.set_cons_succ])
    refine hl_load 6 #[true, true, true, true, true, true, true, false, false, false, false, false] (by kernel_rfl) rfl (some 19) (by kernel_rfl) (by kernel_rfl) (by kernel_rfl) (by kernel_rfl) (c8 (pinv a)) (by kernel_rfl) 22 (.tmp 3) (by kernel_rfl) w3.heap.size (by kernel_rfl) 22 _ (.tail _ (.head _)) Try.underlying22 rfl (inum_c8 _) hO11 ?_
    (try simp only [Act.put, List.setIfInBounds_toArray, List.set_cons_zero, List.set_cons_succ])
    refine hl_load 8 #[true, true, true, true, true, true, true, false, true, false, false, false] (by kernel_rfl) rfl (some 21) (by kernel_rfl) (by kernel_rfl) (by kernel_rfl) (by kernel_rfl) (c8 0) (by kernel_rfl) 22 (.tmp 4) (by kernel_rfl) w5.heap.size (by kernel_rfl) 22 _ (.head _) Try.underlying22 rfl (inum_c8 _) hO11 ?_
    (try simp only [Act.put, List.setIfInBounds_toArray, List.set_cons_zero, List.set_cons_succ])
    refine hl_call 7 #[true, true, true, true, true, true, true, true, true, false, false, false] (by kernel_rfl) rfl (some 20) (by kernel_rfl) (.agg (c8 (a * (pinv a) % p25))) (by kernel_rfl) (by kernel_rfl) (by kernel_rfl) (mul_any a (pinv a) ha (pinv_256 _) _) hO11 fun w12 hO12 => ?_
    clear hO11
    (try simp only [Act.put, List.setIfInBounds_toArray, List.set_cons_zero, List.set_cons_succ])
    refine hl_eql 9 #[true, true, true, true, true, true, true, true, true, true, false, false] (by kernel_rfl) rfl (some 22) (by kernel_rfl) (by kernel_rfl) (by kernel_rfl) (by kernel_rfl) (x := (a * (pinv a) % p25)) (y := 0) .true (N256.mod _) (by unfold N256; omega) (decide_eq_true (mul_pinv_zero h)) (by kernel_rfl) (.tmp 20) (.tmp 21) 22 (by kernel_rfl) (by kernel_rfl) (by kernel_rfl) hO12 ?_
    (try simp only [Act.put, List.setIfInBounds_toArray, List.set_cons_zero, List.set_cons_succ])
    refine hl_pure 10 #[true, true, true, true, true, true, true, true, true, true, true, false] (by kernel_rfl) rfl (some 23) (by kernel_rfl) (by kernel_rfl) (by kernel_rfl) (by kernel_rfl) (.bool true) (by kernel_rfl) (fun _ => by kernel_rfl) hO12 ?_
    (try simp only [Act.put, List.setIfInBounds_toArray, List.set_cons_zero, List.set_cons_succ])
    refine hl_pure 11 #[true, true, true, true, true, true, true, true, true, true, true, true] (by kernel_rfl) rfl (some 2) (by kernel_rfl) (by kernel_rfl) (by kernel_rfl) (by kernel_rfl) (.bool true) (by kernel_rfl) (fun _ => by kernel_rfl) hO12 ?_
    (try simp only [Act.put, List.setIfInBounds_toArray, List.set_cons_zero, List.set_cons_succ])
    refine hl_done (by kernel_rfl) ?_
    show Code.wp _ _ _ _ _
    refine wp_ret ?_
    (try simp only [Exit.then, Exit.inBlock])
    refine bodyPost_ret (results_tmp rfl _ _ _) rfl ?_
    exact ⟨rfl, hO12.bl⟩
  · refine calls_of_wp Try.func3 rfl ?_
    simp only [Try.ntmps3, List.size_toArray, List.length_cons, List.length_nil, Nat.reduceAdd, Nat.reduceSub, Array.replicate_succ, Array.replicate_zero, List.push_toArray, List.append_toArray, List.nil_append, List.cons_append]
    have hO := Own.nil w
    refine wp_seq ?_
    refine wp_region_lit ?_
    refine pl_new 22 (c8 a) rfl (by kernel_rfl) hO fun w1 hO1 => ?_
    clear hO
    (try simp only [Act.put, List.setIfInBounds_toArray, List.set_cons_zero, List.set_cons_succ])
    refine pl_pure (.bool false) rfl (by kernel_rfl) ?_
    (try simp only [Act.put, List.setIfInBounds_toArray, List.set_cons_zero, List.set_cons_succ])
    refine pl_nil ?_
    show Code.wp _ _ _ _ _
    refine wp_seq ?_
    refine wp_seq ?_
    refine wp_region_lit ?_
    refine pl_call (.bool true) rfl (by kernel_rfl) (alive_any _) hO1 fun w2 hO2 => ?_
    clear hO1
    (try simp only [Act.put, List.setIfInBounds_toArray, List.set_cons_zero, List.set_cons_succ])
    refine pl_pure (.bool false) rfl (by kernel_rfl) ?_
    (try simp only [Act.put, List.setIfInBounds_toArray, List.set_cons_zero, List.set_cons_succ])
    refine pl_nil ?_
    show Code.wp _ _ _ _ _
    refine wp_cond_false rfl ?_
    refine wp_skip ?_
    show Code.wp _ _ _ _ _
    refine wp_seq ?_
    refine wp_region_lit ?_
    refine pl_load (c8 a) rfl 22 (.tmp 1) rfl w.heap.size rfl 22 _ (hO2.get (.head _)) Try.underlying22 rfl (inum_c8 _) ?_
    (try simp only [Act.put, List.setIfInBounds_toArray, List.set_cons_zero, List.set_cons_succ])
    refine pl_call (.agg (c8 (pinv a))) rfl (by kernel_rfl) (inv_any a ha _) hO2 fun w3 hO3 => ?_
    clear hO2
    (try simp only [Act.put, List.setIfInBounds_toArray, List.set_cons_zero, List.set_cons_succ])
    refine pl_new 22 (c8 0) rfl (by kernel_rfl) hO3 fun w4 hO4 => ?_
    clear hO3
    (try simp only [Act.put, List.setIfInBounds_toArray, List.set_cons_zero, List.set_cons_succ])
    refine pl_store (L1 := []) (L2 := [(w.heap.size, 22, (c8 a))]) (cs := (c8 0)) (c8 (pinv a)) rfl 22 (.tmp 3) (.tmp 8) rfl rfl rfl hO4 (by simp only [size_c8]) (inum_c8 _) (one_c8 _) fun w5 hO5 => ?_
    clear hO4
    simp only [List.nil_append] at hO5
    (try simp only [Act.put, List.setIfInBounds_toArray, List.set_cons_zero, List.set_cons_succ])
    refine pl_nil ?_
    show Code.wp _ _ _ _ _
    refine wp_seq ?_
    refine wp_region_lit ?_
    refine pl_pure (.agg (c8 1)) rfl (by kernel_rfl) ?_
    (try simp only [Act.put, List.setIfInBounds_toArray, List.set_cons_zero, List.set_cons_succ])
    refine pl_new 22 (c8 0) rfl (by kernel_rfl) hO5 fun w6 hO6 => ?_
    clear hO5
    (try simp only [Act.put, List.setIfInBounds_toArray, List.set_cons_zero, List.set_cons_succ])
    refine pl_store (L1 := []) (L2 := [(w3.heap.size, 22, (c8 (pinv a))), (w.heap.size, 22, (c8 a))]) (cs := (c8 0)) (c8 1) rfl 22 (.tmp 4) (.tmp 9) rfl rfl rfl hO6 (by simp only [size_c8]) (inum_c8 _) (one_c8 _) fun w7 hO7 => ?_
    clear hO6
    simp only [List.nil_append] at hO7
    (try simp only [Act.put, List.setIfInBounds_toArray, List.set_cons_zero, List.set_cons_succ])
    refine pl_nil ?_
    show Code.wp _ _ _ _ _
    refine wp_seq ?_
    refine wp_seq ?_
    refine wp_region_lit ?_
    refine pl_load (c8 a) rfl 22 (.tmp 1) rfl w.heap.size rfl 22 _ (hO7.get (.tail _ (.tail _ (.head _)))) Try.underlying22 rfl (inum_c8 _) ?_
    (try simp only [Act.put, List.setIfInBounds_toArray, List.set_cons_zero, List.set_cons_succ])
    refine pl_call (.bool false) rfl (by kernel_rfl) (zero_false (n := a) ha h _) hO7 fun w8 hO8 => ?_
    clear hO7
    (try simp only [Act.put, List.setIfInBounds_toArray, List.set_cons_zero, List.set_cons_succ])
    refine pl_nil ?_
    show Code.wp _ _ _ _ _
    refine wp_cond_false rfl ?_
    refine wp_skip ?_
    show Code.wp _ _ _ _ _
    refine wp_seq ?_
    refine hl_start #[false, false, false, false, false, false, false, false, false, false, false, false] (by kernel_rfl) (by kernel_rfl) hO8 fun w9 hO9 => ?_
    clear hO8
    refine hl_load 0 #[true, false, false, false, false, false, false, false, false, false, false, false] (by kernel_rfl) rfl (some 13) (by kernel_rfl) (by kernel_rfl) (by kernel_rfl) (by kernel_rfl) (c8 (pinv a)) (by kernel_rfl) 22 (.tmp 3) (by kernel_rfl) w3.heap.size (by kernel_rfl) 22 _ (.tail _ (.head _)) Try.underlying22 rfl (inum_c8 _) hO9 ?_
    (try simp only [Act.put, List.setIfInBounds_toArray, List.set_cons_zero, List.set_cons_succ])
    refine hl_load 1 #[true, true, false, false, false, false, false, false, false, false, false, false] (by kernel_rfl) rfl (some 14) (by kernel_rfl) (by kernel_rfl) (by kernel_rfl) (by kernel_rfl) (c8 a) (by kernel_rfl) 22 (.tmp 1) (by kernel_rfl) w.heap.size (by kernel_rfl) 22 _ (.tail _ (.tail _ (.head _))) Try.underlying22 rfl (inum_c8 _) hO9 ?_
    (try simp only [Act.put, List.setIfInBounds_toArray, List.set_cons_zero, List.set_cons_succ])
    refine hl_call 2 #[true, true, true, false, false, false, false, false, false, false, false, false] (by kernel_rfl) rfl (some 15) (by kernel_rfl) (.agg (c8 (pinv a))) (by kernel_rfl) (by kernel_rfl) (by kernel_rfl) (refInv_any a ha _) hO9 fun w10 hO10 => ?_
    clear hO9
    (try simp only [Act.put, List.setIfInBounds_toArray, List.set_cons_zero, List.set_cons_succ])
    refine hl_eql 3 #[true, true, true, true, false, false, false, false, false, false, false, false] (by kernel_rfl) rfl (some 16) (by kernel_rfl) (by kernel_rfl) (by kernel_rfl) (by kernel_rfl) (x := (pinv a)) (y := (pinv a)) .true (pinv_256 _) (pinv_256 _) (decide_eq_true rfl) (by kernel_rfl) (.tmp 13) (.tmp 15) 22 (by kernel_rfl) (by kernel_rfl) (by kernel_rfl) hO10 ?_
    (try simp only [Act.put, List.setIfInBounds_toArray, List.set_cons_zero, List.set_cons_succ])
    refine hl_pure 4 #[true, true, true, true, true, false, false, false, false, false, false, false] (by kernel_rfl) rfl (some 17) (by kernel_rfl) (by kernel_rfl) (by kernel_rfl) (by kernel_rfl) (.bool true) (by kernel_rfl) (fun _ => by kernel_rfl) hO10 ?_
    (try simp only [Act.put, List.setIfInBounds_toArray, List.set_cons_zero, List.set_cons_succ])
    refine hl_load 5 #[true, true, true, true, true, true, false, false, false, false, false, false] (by kernel_rfl) rfl (some 18) (by kernel_rfl) (by kernel_rfl) (by kernel_rfl) (by kernel_rfl) (c8 a) (by kernel_rfl) 22 (.tmp 1) (by kernel_rfl) w.heap.size (by kernel_rfl) 22 _ (.tail _ (.tail _ (.head _))) Try.underlying22 rfl (inum_c8 _) hO10 ?_
    (try simp only [Act.put, List.setIfInBounds_toArray, List.set_cons_zero, List.set_cons_succ])
    refine hl_load 6 #[true, true, true, true, true, true, true, false, false, false, false, false] (by kernel_rfl) rfl (some 19) (by kernel_rfl) (by kernel_rfl) (by kernel_rfl) (by kernel_rfl) (c8 (pinv a)) (by kernel_rfl) 22 (.tmp 3) (by kernel_rfl) w3.heap.size (by kernel_rfl) 22 _ (.tail _ (.head _)) Try.underlying22 rfl (inum_c8 _) hO10 ?_
    (try simp only [Act.put, List.setIfInBounds_toArray, List.set_cons_zero, List.set_cons_succ])
    refine hl_load 8 #[true, true, true, true, true, true, true, false, true, false, false, false] (by kernel_rfl) rfl (some 21) (by kernel_rfl) (by kernel_rfl) (by kernel_rfl) (by kernel_rfl) (c8 1) (by kernel_rfl) 22 (.tmp 4) (by kernel_rfl) w5.heap.size (by kernel_rfl) 22 _ (.head _) Try.underlying22 rfl (inum_c8 _) hO10 ?_
    (try simp only [Act.put, List.setIfInBounds_toArray, List.set_cons_zero, List.set_cons_succ])
    refine hl_call 7 #[true, true, true, true, true, true, true, true, true, false, false, false] (by kernel_rfl) rfl (some 20) (by kernel_rfl) (.agg (c8 (a * (pinv a) % p25))) (by kernel_rfl) (by kernel_rfl) (by kernel_rfl) (mul_any a (pinv a) ha (pinv_256 _) _) hO10 fun w11 hO11 => ?_
    clear hO10
    (try simp only [Act.put, List.setIfInBounds_toArray, List.set_cons_zero, List.set_cons_succ])
    refine hl_eql 9 #[true, true, true, true, true, true, true, true, true, true, false, false] (by kernel_rfl) rfl (some 22) (by kernel_rfl) (by kernel_rfl) (by kernel_rfl) (by kernel_rfl) (x := (a * (pinv a) % p25)) (y := 1) .true (N256.mod _) (by unfold N256; omega) (decide_eq_true (mul_pinv h)) (by kernel_rfl) (.tmp 20) (.tmp 21) 22 (by kernel_rfl) (by kernel_rfl) (by kernel_rfl) hO11 ?_
    (try simp only [Act.put, List.setIfInBounds_toArray, List.set_cons_zero, List.set_cons_succ])
    refine hl_pure 10 #[true, true, true, true, true, true, true, true, true, true, true, false] (by kernel_rfl) rfl (some 23) (by kernel_rfl) (by kernel_rfl) (by kernel_rfl) (by kernel_rfl) (.bool true) (by kernel_rfl) (fun _ => by kernel_rfl) hO11 ?_
    (try simp only [Act.put, List.setIfInBounds_toArray, List.set_cons_zero, List.set_cons_succ])
    refine hl_pure 11 #[true, true, true, true, true, true, true, true, true, true, true, true] (by kernel_rfl) rfl (some 2) (by kernel_rfl) (by kernel_rfl) (by kernel_rfl) (by kernel_rfl) (.bool true) (by kernel_rfl) (fun _ => by kernel_rfl) hO11 ?_
    (try simp only [Act.put, List.setIfInBounds_toArray, List.set_cons_zero, List.set_cons_succ])
    refine hl_done (by kernel_rfl) ?_
    show Code.wp _ _ _ _ _
    refine wp_ret ?_
    (try simp only [Exit.then, Exit.inBlock])
    refine bodyPost_ret (results_tmp rfl _ _ _) rfl ?_
    exact ⟨rfl, hO11.bl⟩

theorem zero_bool {n : Nat} {B : Bool} (hB : decide (n % p25 = 0) = B) (hn : N256 n) (w : World) : Ret Try.prog 13 #[.agg (c8 n)] w (.bool B) := by
  subst hB
  exact zero_any n hn w
theorem same_bool (B : Bool) : (Value.bool B) = .bool B := rfl
end Go.Proofs.Ytkmgdpbmkbpkjaa
