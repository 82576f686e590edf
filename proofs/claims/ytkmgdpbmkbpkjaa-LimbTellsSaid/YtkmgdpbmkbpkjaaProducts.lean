/-
  LimbProducts, walked (with laws of numbers for LimbSquares and LimbQuotients): whatever the numbers, the answer is true.
-/
import Derived.Test.YtkmgdpbmkbpkjaaAlive
set_option linter.unusedVariables false
set_option linter.unusedSimpArgs false
namespace Go.Proofs.Ytkmgdpbmkbpkjaa
open Go.RowKit

theorem prd0 {a b : Nat} (h : a % p25 = 0 ∨ b % p25 = 0) : a * b % p25 % p25 = 0 := by
  rw [Nat.mod_mod]; exact (mul_zero_iff a b).2 h
theorem prd1 {a b : Nat} (h : a % p25 ≠ 0) (h' : b % p25 ≠ 0) : a * b % p25 % p25 ≠ 0 := by
  rw [Nat.mod_mod]; intro e; cases (mul_zero_iff a b).1 e <;> contradiction
theorem sqr1 (a b : Nat) (hb : N256 b) : (a * a % p25 + 4 * p25 - b * b % p25) % p25 = ((a + b) % p25) * ((a + 4 * p25 - b) % p25) % p25 := by
  have hb4 := hb.le4
  have hq := lt_p25 (b * b)
  have e1 : ((a * a % p25 + 4 * p25 - b * b % p25) % p25 + b * b) % p25 = a * a % p25 := by
    rw [Nat.mod_add_mod, ← Nat.add_mod_mod, show a * a % p25 + 4 * p25 - b * b % p25 + b * b % p25 = a * a % p25 + p25 * 4 by omega, Nat.add_mul_mod_self_left, Nat.mod_mod]
  have e2 : (((a + b) % p25) * ((a + 4 * p25 - b) % p25) % p25 + b * b) % p25 = a * a % p25 := by
    rw [← Nat.mul_mod, Nat.mod_add_mod]
    obtain ⟨c, hc⟩ : ∃ c, c = a + 4 * p25 - b := ⟨_, rfl⟩
    have hcb : c + b = a + p25 * 4 := by omega
    rw [← hc]
    have : (a + b) * c + b * b = a * a + p25 * (4 * a + 4 * b) := by
      have h1 : (a + b) * c + b * b = a * c + b * (c + b) := by rw [Nat.add_mul, Nat.mul_add, Nat.add_assoc]
      have h2 : a * c + a * b = a * (c + b) := by rw [Nat.mul_add]
      rw [hcb] at h1 h2
      rw [Nat.mul_add] at h1 h2
      have h3 : p25 * (4 * a + 4 * b) = a * (p25 * 4) + b * (p25 * 4) := by
        rw [Nat.mul_add, Nat.mul_left_comm, Nat.mul_left_comm p25 4 b, Nat.mul_comm p25 a, Nat.mul_comm p25 b, Nat.mul_left_comm, Nat.mul_left_comm 4 b, Nat.mul_comm 4 p25]
      have h4 : b * a = a * b := Nat.mul_comm _ _
      omega
    rw [this, Nat.add_mul_mod_self_left]
  have := add_cancel (e1.trans e2.symm)
  rwa [Nat.mod_mod, Nat.mod_mod] at this
theorem sqr0 (a : Nat) (ha : N256 a) : (a + (0 + 4 * p25 - a) % p25) % p25 % p25 = 0 := by
  rw [Nat.mod_mod, Nat.add_comm]; exact neg_add ha.le4
theorem quo1 {a b : Nat} (hb : b % p25 ≠ 0) : (a * pinv b % p25) * b % p25 = a % p25 := by
  rw [Nat.mod_mul_mod, Nat.mul_assoc, Nat.mul_comm (pinv b), Nat.mul_mod, mul_pinv hb, Nat.mul_one, Nat.mod_mod]

set_option maxRecDepth 100000 in
set_option maxHeartbeats 4000000 in
theorem products_0 {a b : Nat} (ha : N256 a) (hb : N256 b) (h : a % p25 = 0) (w : World) : Ret Try.prog 6 #[.agg (c8 a), .agg (c8 b)] w (.bool true) := by
  refine calls_of_wp Try.func6 rfl ?_
  simp only [Try.ntmps6, List.size_toArray, List.length_cons, List.length_nil, Nat.reduceAdd, Nat.reduceSub, Array.replicate_succ, Array.replicate_zero, List.push_toArray, List.append_toArray, List.nil_append, List.cons_append]
  have hO := Own.nil w
  refine wp_seq ?_
  refine wp_region_lit ?_
  refine pl_new 22 (c8 a) rfl (by kernel_rfl) hO fun w1 hO1 => ?_
  clear hO
  (try simp only [Act.put, List.setIfInBounds_toArray, List.set_cons_zero, List.set_cons_succ])
  refine pl_new 22 (c8 b) rfl (by kernel_rfl) hO1 fun w2 hO2 => ?_
  clear hO1
  (try simp only [Act.put, List.setIfInBounds_toArray, List.set_cons_zero, List.set_cons_succ])
  refine pl_pure (.bool false) rfl (by kernel_rfl) ?_
  (try simp only [Act.put, List.setIfInBounds_toArray, List.set_cons_zero, List.set_cons_succ])
  refine pl_nil ?_
  show Code.wp _ _ _ _ _
  refine wp_seq ?_
  refine wp_seq ?_
  refine wp_region_lit ?_
  refine pl_call (.bool true) rfl (by kernel_rfl) (alive_any _) hO2 fun w3 hO3 => ?_
  clear hO2
  (try simp only [Act.put, List.setIfInBounds_toArray, List.set_cons_zero, List.set_cons_succ])
  refine pl_pure (.bool false) rfl (by kernel_rfl) ?_
  (try simp only [Act.put, List.setIfInBounds_toArray, List.set_cons_zero, List.set_cons_succ])
  refine pl_nil ?_
  show Code.wp _ _ _ _ _
  refine wp_cond_false rfl ?_
  refine wp_skip ?_
  show Code.wp _ _ _ _ _
  refine wp_seq ?_
  refine hl_start #[false, false, false, false, false, false, false, false, false, false, false, false, false, false, false, false, false, false, false, false, false, false, false, false, false, false, false, false, false, false, false, false] (by kernel_rfl) (by kernel_rfl) hO3 fun w4 hO4 => ?_
  clear hO3
  refine hl_load 0 #[true, false, false, false, false, false, false, false, false, false, false, false, false, false, false, false, false, false, false, false, false, false, false, false, false, false, false, false, false, false, false, false] (by kernel_rfl) rfl (some 7) (by kernel_rfl) (by kernel_rfl) (by kernel_rfl) (by kernel_rfl) (c8 a) (by kernel_rfl) 22 (.tmp 2) (by kernel_rfl) w.heap.size (by kernel_rfl) 22 _ (.tail _ (.head _)) Try.underlying22 rfl (inum_c8 _) hO4 ?_
  (try simp only [Act.put, List.setIfInBounds_toArray, List.set_cons_zero, List.set_cons_succ])
  refine hl_load 1 #[true, true, false, false, false, false, false, false, false, false, false, false, false, false, false, false, false, false, false, false, false, false, false, false, false, false, false, false, false, false, false, false] (by kernel_rfl) rfl (some 8) (by kernel_rfl) (by kernel_rfl) (by kernel_rfl) (by kernel_rfl) (c8 b) (by kernel_rfl) 22 (.tmp 3) (by kernel_rfl) w1.heap.size (by kernel_rfl) 22 _ (.head _) Try.underlying22 rfl (inum_c8 _) hO4 ?_
  (try simp only [Act.put, List.setIfInBounds_toArray, List.set_cons_zero, List.set_cons_succ])
  refine hl_load 4 #[true, true, false, false, true, false, false, false, false, false, false, false, false, false, false, false, false, false, false, false, false, false, false, false, false, false, false, false, false, false, false, false] (by kernel_rfl) rfl (some 11) (by kernel_rfl) (by kernel_rfl) (by kernel_rfl) (by kernel_rfl) (c8 a) (by kernel_rfl) 22 (.tmp 2) (by kernel_rfl) w.heap.size (by kernel_rfl) 22 _ (.tail _ (.head _)) Try.underlying22 rfl (inum_c8 _) hO4 ?_
  (try simp only [Act.put, List.setIfInBounds_toArray, List.set_cons_zero, List.set_cons_succ])
  refine hl_call 2 #[true, true, true, false, true, false, false, false, false, false, false, false, false, false, false, false, false, false, false, false, false, false, false, false, false, false, false, false, false, false, false, false] (by kernel_rfl) rfl (some 9) (by kernel_rfl) (.agg (c8 (a * b % p25))) (by kernel_rfl) (by kernel_rfl) (by kernel_rfl) (mul_any a b ha hb _) hO4 fun w5 hO5 => ?_
  clear hO4
  (try simp only [Act.put, List.setIfInBounds_toArray, List.set_cons_zero, List.set_cons_succ])
  refine hl_call 3 #[true, true, true, true, true, false, false, false, false, false, false, false, false, false, false, false, false, false, false, false, false, false, false, false, false, false, false, false, false, false, false, false] (by kernel_rfl) rfl (some 10) (by kernel_rfl) (.bool true) (by kernel_rfl) (by kernel_rfl) (by kernel_rfl) (zero_true (n := (a * b % p25)) (N256.mod _) (prd0 (Or.inl h)) _) hO5 fun w6 hO6 => ?_
  clear hO5
  (try simp only [Act.put, List.setIfInBounds_toArray, List.set_cons_zero, List.set_cons_succ])
  refine hl_call 5 #[true, true, true, true, true, true, false, false, false, false, false, false, false, false, false, false, false, false, false, false, false, false, false, false, false, false, false, false, false, false, false, false] (by kernel_rfl) rfl (some 12) (by kernel_rfl) (.bool true) (by kernel_rfl) (by kernel_rfl) (by kernel_rfl) (zero_true (n := a) ha h _) hO6 fun w7 hO7 => ?_
  clear hO6
  (try simp only [Act.put, List.setIfInBounds_toArray, List.set_cons_zero, List.set_cons_succ])
  refine hl_pure 6 #[true, true, true, true, true, true, true, false, false, false, false, false, false, false, false, false, false, false, false, false, false, false, false, false, false, false, false, false, false, false, false, false] (by kernel_rfl) rfl (some 13) (by kernel_rfl) (by kernel_rfl) (by kernel_rfl) (by kernel_rfl) (.bool true) (by kernel_rfl) (fun _ => by kernel_rfl) hO7 ?_
  (try simp only [Act.put, List.setIfInBounds_toArray, List.set_cons_zero, List.set_cons_succ])
  refine hl_skip 7 #[true, true, true, true, true, true, true, true, false, false, false, false, false, false, false, false, false, false, false, false, false, false, false, false, false, false, false, false, false, false, false, false] (by kernel_rfl) rfl (some 14) (by kernel_rfl) (by kernel_rfl) (by kernel_rfl) (by kernel_rfl) (by kernel_rfl) hO7 ?_
  (try simp only [Act.put, List.setIfInBounds_toArray, List.set_cons_zero, List.set_cons_succ])
  refine hl_skip 8 #[true, true, true, true, true, true, true, true, true, false, false, false, false, false, false, false, false, false, false, false, false, false, false, false, false, false, false, false, false, false, false, false] (by kernel_rfl) rfl (some 15) (by kernel_rfl) (by kernel_rfl) (by kernel_rfl) (by kernel_rfl) (by kernel_rfl) hO7 ?_
  (try simp only [Act.put, List.setIfInBounds_toArray, List.set_cons_zero, List.set_cons_succ])
  refine hl_pure 9 #[true, true, true, true, true, true, true, true, true, true, false, false, false, false, false, false, false, false, false, false, false, false, false, false, false, false, false, false, false, false, false, false] (by kernel_rfl) rfl (some 16) (by kernel_rfl) (by kernel_rfl) (by kernel_rfl) (by kernel_rfl) (.bool true) (by kernel_rfl) (fun _ => by kernel_rfl) hO7 ?_
  (try simp only [Act.put, List.setIfInBounds_toArray, List.set_cons_zero, List.set_cons_succ])
  refine hl_pure 10 #[true, true, true, true, true, true, true, true, true, true, true, false, false, false, false, false, false, false, false, false, false, false, false, false, false, false, false, false, false, false, false, false] (by kernel_rfl) rfl (some 17) (by kernel_rfl) (by kernel_rfl) (by kernel_rfl) (by kernel_rfl) (.bool true) (by kernel_rfl) (fun _ => by kernel_rfl) hO7 ?_
  (try simp only [Act.put, List.setIfInBounds_toArray, List.set_cons_zero, List.set_cons_succ])
  refine hl_pure 11 #[true, true, true, true, true, true, true, true, true, true, true, true, false, false, false, false, false, false, false, false, false, false, false, false, false, false, false, false, false, false, false, false] (by kernel_rfl) rfl (some 18) (by kernel_rfl) (by kernel_rfl) (by kernel_rfl) (by kernel_rfl) (.bool true) (by kernel_rfl) (fun _ => by kernel_rfl) hO7 ?_
  (try simp only [Act.put, List.setIfInBounds_toArray, List.set_cons_zero, List.set_cons_succ])
  refine hl_load 12 #[true, true, true, true, true, true, true, true, true, true, true, true, true, false, false, false, false, false, false, false, false, false, false, false, false, false, false, false, false, false, false, false] (by kernel_rfl) rfl (some 19) (by kernel_rfl) (by kernel_rfl) (by kernel_rfl) (by kernel_rfl) (c8 a) (by kernel_rfl) 22 (.tmp 2) (by kernel_rfl) w.heap.size (by kernel_rfl) 22 _ (.tail _ (.head _)) Try.underlying22 rfl (inum_c8 _) hO7 ?_
  (try simp only [Act.put, List.setIfInBounds_toArray, List.set_cons_zero, List.set_cons_succ])
  refine hl_load 13 #[true, true, true, true, true, true, true, true, true, true, true, true, true, true, false, false, false, false, false, false, false, false, false, false, false, false, false, false, false, false, false, false] (by kernel_rfl) rfl (some 20) (by kernel_rfl) (by kernel_rfl) (by kernel_rfl) (by kernel_rfl) (c8 b) (by kernel_rfl) 22 (.tmp 3) (by kernel_rfl) w1.heap.size (by kernel_rfl) 22 _ (.head _) Try.underlying22 rfl (inum_c8 _) hO7 ?_
  (try simp only [Act.put, List.setIfInBounds_toArray, List.set_cons_zero, List.set_cons_succ])
  refine hl_load 16 #[true, true, true, true, true, true, true, true, true, true, true, true, true, true, false, false, true, false, false, false, false, false, false, false, false, false, false, false, false, false, false, false] (by kernel_rfl) rfl (some 23) (by kernel_rfl) (by kernel_rfl) (by kernel_rfl) (by kernel_rfl) (c8 a) (by kernel_rfl) 22 (.tmp 2) (by kernel_rfl) w.heap.size (by kernel_rfl) 22 _ (.tail _ (.head _)) Try.underlying22 rfl (inum_c8 _) hO7 ?_
  (try simp only [Act.put, List.setIfInBounds_toArray, List.set_cons_zero, List.set_cons_succ])
  refine hl_load 18 #[true, true, true, true, true, true, true, true, true, true, true, true, true, true, false, false, true, false, true, false, false, false, false, false, false, false, false, false, false, false, false, false] (by kernel_rfl) rfl (some 25) (by kernel_rfl) (by kernel_rfl) (by kernel_rfl) (by kernel_rfl) (c8 b) (by kernel_rfl) 22 (.tmp 3) (by kernel_rfl) w1.heap.size (by kernel_rfl) 22 _ (.head _) Try.underlying22 rfl (inum_c8 _) hO7 ?_
  (try simp only [Act.put, List.setIfInBounds_toArray, List.set_cons_zero, List.set_cons_succ])
  refine hl_call 14 #[true, true, true, true, true, true, true, true, true, true, true, true, true, true, true, false, true, false, true, false, false, false, false, false, false, false, false, false, false, false, false, false] (by kernel_rfl) rfl (some 21) (by kernel_rfl) (.agg (c8 (a * b % p25))) (by kernel_rfl) (by kernel_rfl) (by kernel_rfl) (mul_any a b ha hb _) hO7 fun w8 hO8 => ?_
  clear hO7
  (try simp only [Act.put, List.setIfInBounds_toArray, List.set_cons_zero, List.set_cons_succ])
  refine hl_call 15 #[true, true, true, true, true, true, true, true, true, true, true, true, true, true, true, true, true, false, true, false, false, false, false, false, false, false, false, false, false, false, false, false] (by kernel_rfl) rfl (some 22) (by kernel_rfl) (.agg (c8 (pinv (a * b % p25)))) (by kernel_rfl) (by kernel_rfl) (by kernel_rfl) (inv_any (a * b % p25) (N256.mod _) _) hO8 fun w9 hO9 => ?_
  clear hO8
  (try simp only [Act.put, List.setIfInBounds_toArray, List.set_cons_zero, List.set_cons_succ])
  refine hl_call 17 #[true, true, true, true, true, true, true, true, true, true, true, true, true, true, true, true, true, true, true, false, false, false, false, false, false, false, false, false, false, false, false, false] (by kernel_rfl) rfl (some 24) (by kernel_rfl) (.agg (c8 (pinv a))) (by kernel_rfl) (by kernel_rfl) (by kernel_rfl) (inv_any a ha _) hO9 fun w10 hO10 => ?_
  clear hO9
  (try simp only [Act.put, List.setIfInBounds_toArray, List.set_cons_zero, List.set_cons_succ])
  refine hl_call 19 #[true, true, true, true, true, true, true, true, true, true, true, true, true, true, true, true, true, true, true, true, false, false, false, false, false, false, false, false, false, false, false, false] (by kernel_rfl) rfl (some 26) (by kernel_rfl) (.agg (c8 (pinv b))) (by kernel_rfl) (by kernel_rfl) (by kernel_rfl) (inv_any b hb _) hO10 fun w11 hO11 => ?_
  clear hO10
  (try simp only [Act.put, List.setIfInBounds_toArray, List.set_cons_zero, List.set_cons_succ])
  refine hl_call 20 #[true, true, true, true, true, true, true, true, true, true, true, true, true, true, true, true, true, true, true, true, true, false, false, false, false, false, false, false, false, false, false, false] (by kernel_rfl) rfl (some 27) (by kernel_rfl) (.agg (c8 ((pinv a) * (pinv b) % p25))) (by kernel_rfl) (by kernel_rfl) (by kernel_rfl) (mul_any (pinv a) (pinv b) (pinv_256 _) (pinv_256 _) _) hO11 fun w12 hO12 => ?_
  clear hO11
  (try simp only [Act.put, List.setIfInBounds_toArray, List.set_cons_zero, List.set_cons_succ])
  refine hl_eql 21 #[true, true, true, true, true, true, true, true, true, true, true, true, true, true, true, true, true, true, true, true, true, true, false, false, false, false, false, false, false, false, false, false] (by kernel_rfl) rfl (some 28) (by kernel_rfl) (by kernel_rfl) (by kernel_rfl) (by kernel_rfl) (x := (pinv (a * b % p25))) (y := ((pinv a) * (pinv b) % p25)) .true (pinv_256 _) (N256.mod _) (decide_eq_true (pinv_mul _ _)) (by kernel_rfl) (.tmp 22) (.tmp 27) 22 (by kernel_rfl) (by kernel_rfl) (by kernel_rfl) hO12 ?_
  (try simp only [Act.put, List.setIfInBounds_toArray, List.set_cons_zero, List.set_cons_succ])
  refine hl_pure 22 #[true, true, true, true, true, true, true, true, true, true, true, true, true, true, true, true, true, true, true, true, true, true, true, false, false, false, false, false, false, false, false, false] (by kernel_rfl) rfl (some 29) (by kernel_rfl) (by kernel_rfl) (by kernel_rfl) (by kernel_rfl) (.bool true) (by kernel_rfl) (fun _ => by kernel_rfl) hO12 ?_
  (try simp only [Act.put, List.setIfInBounds_toArray, List.set_cons_zero, List.set_cons_succ])
  refine hl_pure 23 #[true, true, true, true, true, true, true, true, true, true, true, true, true, true, true, true, true, true, true, true, true, true, true, true, false, false, false, false, false, false, false, false] (by kernel_rfl) rfl (some 30) (by kernel_rfl) (by kernel_rfl) (by kernel_rfl) (by kernel_rfl) (.bool true) (by kernel_rfl) (fun _ => by kernel_rfl) hO12 ?_
  (try simp only [Act.put, List.setIfInBounds_toArray, List.set_cons_zero, List.set_cons_succ])
  refine hl_load 24 #[true, true, true, true, true, true, true, true, true, true, true, true, true, true, true, true, true, true, true, true, true, true, true, true, true, false, false, false, false, false, false, false] (by kernel_rfl) rfl (some 31) (by kernel_rfl) (by kernel_rfl) (by kernel_rfl) (by kernel_rfl) (c8 a) (by kernel_rfl) 22 (.tmp 2) (by kernel_rfl) w.heap.size (by kernel_rfl) 22 _ (.tail _ (.head _)) Try.underlying22 rfl (inum_c8 _) hO12 ?_
  (try simp only [Act.put, List.setIfInBounds_toArray, List.set_cons_zero, List.set_cons_succ])
  refine hl_load 27 #[true, true, true, true, true, true, true, true, true, true, true, true, true, true, true, true, true, true, true, true, true, true, true, true, true, false, false, true, false, false, false, false] (by kernel_rfl) rfl (some 34) (by kernel_rfl) (by kernel_rfl) (by kernel_rfl) (by kernel_rfl) (c8 a) (by kernel_rfl) 22 (.tmp 2) (by kernel_rfl) w.heap.size (by kernel_rfl) 22 _ (.tail _ (.head _)) Try.underlying22 rfl (inum_c8 _) hO12 ?_
  (try simp only [Act.put, List.setIfInBounds_toArray, List.set_cons_zero, List.set_cons_succ])
  refine hl_call 25 #[true, true, true, true, true, true, true, true, true, true, true, true, true, true, true, true, true, true, true, true, true, true, true, true, true, true, false, true, false, false, false, false] (by kernel_rfl) rfl (some 32) (by kernel_rfl) (.agg (c8 (pinv a))) (by kernel_rfl) (by kernel_rfl) (by kernel_rfl) (inv_any a ha _) hO12 fun w13 hO13 => ?_
  clear hO12
  (try simp only [Act.put, List.setIfInBounds_toArray, List.set_cons_zero, List.set_cons_succ])
  refine hl_call 26 #[true, true, true, true, true, true, true, true, true, true, true, true, true, true, true, true, true, true, true, true, true, true, true, true, true, true, true, true, false, false, false, false] (by kernel_rfl) rfl (some 33) (by kernel_rfl) (.agg (c8 (pinv (pinv a)))) (by kernel_rfl) (by kernel_rfl) (by kernel_rfl) (inv_any (pinv a) (pinv_256 _) _) hO13 fun w14 hO14 => ?_
  clear hO13
  (try simp only [Act.put, List.setIfInBounds_toArray, List.set_cons_zero, List.set_cons_succ])
  refine hl_call 28 #[true, true, true, true, true, true, true, true, true, true, true, true, true, true, true, true, true, true, true, true, true, true, true, true, true, true, true, true, true, false, false, false] (by kernel_rfl) rfl (some 35) (by kernel_rfl) (.agg (c8 (a % p25))) (by kernel_rfl) (by kernel_rfl) (by kernel_rfl) (reduce_any a ha _) hO14 fun w15 hO15 => ?_
  clear hO14
  (try simp only [Act.put, List.setIfInBounds_toArray, List.set_cons_zero, List.set_cons_succ])
  refine hl_eql 29 #[true, true, true, true, true, true, true, true, true, true, true, true, true, true, true, true, true, true, true, true, true, true, true, true, true, true, true, true, true, true, false, false] (by kernel_rfl) rfl (some 36) (by kernel_rfl) (by kernel_rfl) (by kernel_rfl) (by kernel_rfl) (x := (pinv (pinv a))) (y := (a % p25)) .true (pinv_256 _) (N256.mod _) (decide_eq_true (pinv_pinv _)) (by kernel_rfl) (.tmp 33) (.tmp 35) 22 (by kernel_rfl) (by kernel_rfl) (by kernel_rfl) hO15 ?_
  (try simp only [Act.put, List.setIfInBounds_toArray, List.set_cons_zero, List.set_cons_succ])
  refine hl_pure 30 #[true, true, true, true, true, true, true, true, true, true, true, true, true, true, true, true, true, true, true, true, true, true, true, true, true, true, true, true, true, true, true, false] (by kernel_rfl) rfl (some 37) (by kernel_rfl) (by kernel_rfl) (by kernel_rfl) (by kernel_rfl) (.bool true) (by kernel_rfl) (fun _ => by kernel_rfl) hO15 ?_
  (try simp only [Act.put, List.setIfInBounds_toArray, List.set_cons_zero, List.set_cons_succ])
  refine hl_pure 31 #[true, true, true, true, true, true, true, true, true, true, true, true, true, true, true, true, true, true, true, true, true, true, true, true, true, true, true, true, true, true, true, true] (by kernel_rfl) rfl (some 4) (by kernel_rfl) (by kernel_rfl) (by kernel_rfl) (by kernel_rfl) (.bool true) (by kernel_rfl) (fun _ => by kernel_rfl) hO15 ?_
  (try simp only [Act.put, List.setIfInBounds_toArray, List.set_cons_zero, List.set_cons_succ])
  refine hl_done (by kernel_rfl) ?_
  show Code.wp _ _ _ _ _
  refine wp_ret ?_
  (try simp only [Exit.then, Exit.inBlock])
  refine bodyPost_ret (results_tmp rfl _ _ _) rfl ?_
  exact ⟨rfl, hO15.bl⟩
set_option maxRecDepth 100000 in
set_option maxHeartbeats 4000000 in
theorem products_1 {a b : Nat} (ha : N256 a) (hb : N256 b) (h : a % p25 ≠ 0) (k : b % p25 = 0) (w : World) : Ret Try.prog 6 #[.agg (c8 a), .agg (c8 b)] w (.bool true) := by
  refine calls_of_wp Try.func6 rfl ?_
  simp only [Try.ntmps6, List.size_toArray, List.length_cons, List.length_nil, Nat.reduceAdd, Nat.reduceSub, Array.replicate_succ, Array.replicate_zero, List.push_toArray, List.append_toArray, List.nil_append, List.cons_append]
  have hO := Own.nil w
  refine wp_seq ?_
  refine wp_region_lit ?_
  refine pl_new 22 (c8 a) rfl (by kernel_rfl) hO fun w1 hO1 => ?_
  clear hO
  (try simp only [Act.put, List.setIfInBounds_toArray, List.set_cons_zero, List.set_cons_succ])
  refine pl_new 22 (c8 b) rfl (by kernel_rfl) hO1 fun w2 hO2 => ?_
  clear hO1
  (try simp only [Act.put, List.setIfInBounds_toArray, List.set_cons_zero, List.set_cons_succ])
  refine pl_pure (.bool false) rfl (by kernel_rfl) ?_
  (try simp only [Act.put, List.setIfInBounds_toArray, List.set_cons_zero, List.set_cons_succ])
  refine pl_nil ?_
  show Code.wp _ _ _ _ _
  refine wp_seq ?_
  refine wp_seq ?_
  refine wp_region_lit ?_
  refine pl_call (.bool true) rfl (by kernel_rfl) (alive_any _) hO2 fun w3 hO3 => ?_
  clear hO2
  (try simp only [Act.put, List.setIfInBounds_toArray, List.set_cons_zero, List.set_cons_succ])
  refine pl_pure (.bool false) rfl (by kernel_rfl) ?_
  (try simp only [Act.put, List.setIfInBounds_toArray, List.set_cons_zero, List.set_cons_succ])
  refine pl_nil ?_
  show Code.wp _ _ _ _ _
  refine wp_cond_false rfl ?_
  refine wp_skip ?_
  show Code.wp _ _ _ _ _
  refine wp_seq ?_
  refine hl_start #[false, false, false, false, false, false, false, false, false, false, false, false, false, false, false, false, false, false, false, false, false, false, false, false, false, false, false, false, false, false, false, false] (by kernel_rfl) (by kernel_rfl) hO3 fun w4 hO4 => ?_
  clear hO3
  refine hl_load 0 #[true, false, false, false, false, false, false, false, false, false, false, false, false, false, false, false, false, false, false, false, false, false, false, false, false, false, false, false, false, false, false, false] (by kernel_rfl) rfl (some 7) (by kernel_rfl) (by kernel_rfl) (by kernel_rfl) (by kernel_rfl) (c8 a) (by kernel_rfl) 22 (.tmp 2) (by kernel_rfl) w.heap.size (by kernel_rfl) 22 _ (.tail _ (.head _)) Try.underlying22 rfl (inum_c8 _) hO4 ?_
  (try simp only [Act.put, List.setIfInBounds_toArray, List.set_cons_zero, List.set_cons_succ])
  refine hl_load 1 #[true, true, false, false, false, false, false, false, false, false, false, false, false, false, false, false, false, false, false, false, false, false, false, false, false, false, false, false, false, false, false, false] (by kernel_rfl) rfl (some 8) (by kernel_rfl) (by kernel_rfl) (by kernel_rfl) (by kernel_rfl) (c8 b) (by kernel_rfl) 22 (.tmp 3) (by kernel_rfl) w1.heap.size (by kernel_rfl) 22 _ (.head _) Try.underlying22 rfl (inum_c8 _) hO4 ?_
  (try simp only [Act.put, List.setIfInBounds_toArray, List.set_cons_zero, List.set_cons_succ])
  refine hl_load 4 #[true, true, false, false, true, false, false, false, false, false, false, false, false, false, false, false, false, false, false, false, false, false, false, false, false, false, false, false, false, false, false, false] (by kernel_rfl) rfl (some 11) (by kernel_rfl) (by kernel_rfl) (by kernel_rfl) (by kernel_rfl) (c8 a) (by kernel_rfl) 22 (.tmp 2) (by kernel_rfl) w.heap.size (by kernel_rfl) 22 _ (.tail _ (.head _)) Try.underlying22 rfl (inum_c8 _) hO4 ?_
  (try simp only [Act.put, List.setIfInBounds_toArray, List.set_cons_zero, List.set_cons_succ])
  refine hl_call 2 #[true, true, true, false, true, false, false, false, false, false, false, false, false, false, false, false, false, false, false, false, false, false, false, false, false, false, false, false, false, false, false, false] (by kernel_rfl) rfl (some 9) (by kernel_rfl) (.agg (c8 (a * b % p25))) (by kernel_rfl) (by kernel_rfl) (by kernel_rfl) (mul_any a b ha hb _) hO4 fun w5 hO5 => ?_
  clear hO4
  (try simp only [Act.put, List.setIfInBounds_toArray, List.set_cons_zero, List.set_cons_succ])
  refine hl_call 3 #[true, true, true, true, true, false, false, false, false, false, false, false, false, false, false, false, false, false, false, false, false, false, false, false, false, false, false, false, false, false, false, false] (by kernel_rfl) rfl (some 10) (by kernel_rfl) (.bool true) (by kernel_rfl) (by kernel_rfl) (by kernel_rfl) (zero_true (n := (a * b % p25)) (N256.mod _) (prd0 (Or.inr k)) _) hO5 fun w6 hO6 => ?_
  clear hO5
  (try simp only [Act.put, List.setIfInBounds_toArray, List.set_cons_zero, List.set_cons_succ])
  refine hl_call 5 #[true, true, true, true, true, true, false, false, false, false, false, false, false, false, false, false, false, false, false, false, false, false, false, false, false, false, false, false, false, false, false, false] (by kernel_rfl) rfl (some 12) (by kernel_rfl) (.bool false) (by kernel_rfl) (by kernel_rfl) (by kernel_rfl) (zero_false (n := a) ha h _) hO6 fun w7 hO7 => ?_
  clear hO6
  (try simp only [Act.put, List.setIfInBounds_toArray, List.set_cons_zero, List.set_cons_succ])
  refine hl_pure 6 #[true, true, true, true, true, true, true, false, false, false, false, false, false, false, false, false, false, false, false, false, false, false, false, false, false, false, false, false, false, false, false, false] (by kernel_rfl) rfl (some 13) (by kernel_rfl) (by kernel_rfl) (by kernel_rfl) (by kernel_rfl) (.bool false) (by kernel_rfl) (fun _ => by kernel_rfl) hO7 ?_
  (try simp only [Act.put, List.setIfInBounds_toArray, List.set_cons_zero, List.set_cons_succ])
  refine hl_load 7 #[true, true, true, true, true, true, true, true, false, false, false, false, false, false, false, false, false, false, false, false, false, false, false, false, false, false, false, false, false, false, false, false] (by kernel_rfl) rfl (some 14) (by kernel_rfl) (by kernel_rfl) (by kernel_rfl) (by kernel_rfl) (c8 b) (by kernel_rfl) 22 (.tmp 3) (by kernel_rfl) w1.heap.size (by kernel_rfl) 22 _ (.head _) Try.underlying22 rfl (inum_c8 _) hO7 ?_
  (try simp only [Act.put, List.setIfInBounds_toArray, List.set_cons_zero, List.set_cons_succ])
  refine hl_call 8 #[true, true, true, true, true, true, true, true, true, false, false, false, false, false, false, false, false, false, false, false, false, false, false, false, false, false, false, false, false, false, false, false] (by kernel_rfl) rfl (some 15) (by kernel_rfl) (.bool true) (by kernel_rfl) (by kernel_rfl) (by kernel_rfl) (zero_true (n := b) hb k _) hO7 fun w8 hO8 => ?_
  clear hO7
  (try simp only [Act.put, List.setIfInBounds_toArray, List.set_cons_zero, List.set_cons_succ])
  refine hl_pure 9 #[true, true, true, true, true, true, true, true, true, true, false, false, false, false, false, false, false, false, false, false, false, false, false, false, false, false, false, false, false, false, false, false] (by kernel_rfl) rfl (some 16) (by kernel_rfl) (by kernel_rfl) (by kernel_rfl) (by kernel_rfl) (.bool true) (by kernel_rfl) (fun _ => by kernel_rfl) hO8 ?_
  (try simp only [Act.put, List.setIfInBounds_toArray, List.set_cons_zero, List.set_cons_succ])
  refine hl_pure 10 #[true, true, true, true, true, true, true, true, true, true, true, false, false, false, false, false, false, false, false, false, false, false, false, false, false, false, false, false, false, false, false, false] (by kernel_rfl) rfl (some 17) (by kernel_rfl) (by kernel_rfl) (by kernel_rfl) (by kernel_rfl) (.bool true) (by kernel_rfl) (fun _ => by kernel_rfl) hO8 ?_
  (try simp only [Act.put, List.setIfInBounds_toArray, List.set_cons_zero, List.set_cons_succ])
  refine hl_pure 11 #[true, true, true, true, true, true, true, true, true, true, true, true, false, false, false, false, false, false, false, false, false, false, false, false, false, false, false, false, false, false, false, false] (by kernel_rfl) rfl (some 18) (by kernel_rfl) (by kernel_rfl) (by kernel_rfl) (by kernel_rfl) (.bool true) (by kernel_rfl) (fun _ => by kernel_rfl) hO8 ?_
  (try simp only [Act.put, List.setIfInBounds_toArray, List.set_cons_zero, List.set_cons_succ])
  refine hl_load 12 #[true, true, true, true, true, true, true, true, true, true, true, true, true, false, false, false, false, false, false, false, false, false, false, false, false, false, false, false, false, false, false, false] (by kernel_rfl) rfl (some 19) (by kernel_rfl) (by kernel_rfl) (by kernel_rfl) (by kernel_rfl) (c8 a) (by kernel_rfl) 22 (.tmp 2) (by kernel_rfl) w.heap.size (by kernel_rfl) 22 _ (.tail _ (.head _)) Try.underlying22 rfl (inum_c8 _) hO8 ?_
  (try simp only [Act.put, List.setIfInBounds_toArray, List.set_cons_zero, List.set_cons_succ])
  refine hl_load 13 #[true, true, true, true, true, true, true, true, true, true, true, true, true, true, false, false, false, false, false, false, false, false, false, false, false, false, false, false, false, false, false, false] (by kernel_rfl) rfl (some 20) (by kernel_rfl) (by kernel_rfl) (by kernel_rfl) (by kernel_rfl) (c8 b) (by kernel_rfl) 22 (.tmp 3) (by kernel_rfl) w1.heap.size (by kernel_rfl) 22 _ (.head _) Try.underlying22 rfl (inum_c8 _) hO8 ?_
  (try simp only [Act.put, List.setIfInBounds_toArray, List.set_cons_zero, List.set_cons_succ])
  refine hl_load 16 #[true, true, true, true, true, true, true, true, true, true, true, true, true, true, false, false, true, false, false, false, false, false, false, false, false, false, false, false, false, false, false, false] (by kernel_rfl) rfl (some 23) (by kernel_rfl) (by kernel_rfl) (by kernel_rfl) (by kernel_rfl) (c8 a) (by kernel_rfl) 22 (.tmp 2) (by kernel_rfl) w.heap.size (by kernel_rfl) 22 _ (.tail _ (.head _)) Try.underlying22 rfl (inum_c8 _) hO8 ?_
  (try simp only [Act.put, List.setIfInBounds_toArray, List.set_cons_zero, List.set_cons_succ])
  refine hl_load 18 #[true, true, true, true, true, true, true, true, true, true, true, true, true, true, false, false, true, false, true, false, false, false, false, false, false, false, false, false, false, false, false, false] (by kernel_rfl) rfl (some 25) (by kernel_rfl) (by kernel_rfl) (by kernel_rfl) (by kernel_rfl) (c8 b) (by kernel_rfl) 22 (.tmp 3) (by kernel_rfl) w1.heap.size (by kernel_rfl) 22 _ (.head _) Try.underlying22 rfl (inum_c8 _) hO8 ?_
  (try simp only [Act.put, List.setIfInBounds_toArray, List.set_cons_zero, List.set_cons_succ])
  refine hl_call 14 #[true, true, true, true, true, true, true, true, true, true, true, true, true, true, true, false, true, false, true, false, false, false, false, false, false, false, false, false, false, false, false, false] (by kernel_rfl) rfl (some 21) (by kernel_rfl) (.agg (c8 (a * b % p25))) (by kernel_rfl) (by kernel_rfl) (by kernel_rfl) (mul_any a b ha hb _) hO8 fun w9 hO9 => ?_
  clear hO8
  (try simp only [Act.put, List.setIfInBounds_toArray, List.set_cons_zero, List.set_cons_succ])
  refine hl_call 15 #[true, true, true, true, true, true, true, true, true, true, true, true, true, true, true, true, true, false, true, false, false, false, false, false, false, false, false, false, false, false, false, false] (by kernel_rfl) rfl (some 22) (by kernel_rfl) (.agg (c8 (pinv (a * b % p25)))) (by kernel_rfl) (by kernel_rfl) (by kernel_rfl) (inv_any (a * b % p25) (N256.mod _) _) hO9 fun w10 hO10 => ?_
  clear hO9
  (try simp only [Act.put, List.setIfInBounds_toArray, List.set_cons_zero, List.set_cons_succ])
  refine hl_call 17 #[true, true, true, true, true, true, true, true, true, true, true, true, true, true, true, true, true, true, true, false, false, false, false, false, false, false, false, false, false, false, false, false] (by kernel_rfl) rfl (some 24) (by kernel_rfl) (.agg (c8 (pinv a))) (by kernel_rfl) (by kernel_rfl) (by kernel_rfl) (inv_any a ha _) hO10 fun w11 hO11 => ?_
  clear hO10
  (try simp only [Act.put, List.setIfInBounds_toArray, List.set_cons_zero, List.set_cons_succ])
  refine hl_call 19 #[true, true, true, true, true, true, true, true, true, true, true, true, true, true, true, true, true, true, true, true, false, false, false, false, false, false, false, false, false, false, false, false] (by kernel_rfl) rfl (some 26) (by kernel_rfl) (.agg (c8 (pinv b))) (by kernel_rfl) (by kernel_rfl) (by kernel_rfl) (inv_any b hb _) hO11 fun w12 hO12 => ?_
  clear hO11
  (try simp only [Act.put, List.setIfInBounds_toArray, List.set_cons_zero, List.set_cons_succ])
  refine hl_call 20 #[true, true, true, true, true, true, true, true, true, true, true, true, true, true, true, true, true, true, true, true, true, false, false, false, false, false, false, false, false, false, false, false] (by kernel_rfl) rfl (some 27) (by kernel_rfl) (.agg (c8 ((pinv a) * (pinv b) % p25))) (by kernel_rfl) (by kernel_rfl) (by kernel_rfl) (mul_any (pinv a) (pinv b) (pinv_256 _) (pinv_256 _) _) hO12 fun w13 hO13 => ?_
  clear hO12
  (try simp only [Act.put, List.setIfInBounds_toArray, List.set_cons_zero, List.set_cons_succ])
  refine hl_eql 21 #[true, true, true, true, true, true, true, true, true, true, true, true, true, true, true, true, true, true, true, true, true, true, false, false, false, false, false, false, false, false, false, false] (by kernel_rfl) rfl (some 28) (by kernel_rfl) (by kernel_rfl) (by kernel_rfl) (by kernel_rfl) (x := (pinv (a * b % p25))) (y := ((pinv a) * (pinv b) % p25)) .true (pinv_256 _) (N256.mod _) (decide_eq_true (pinv_mul _ _)) (by kernel_rfl) (.tmp 22) (.tmp 27) 22 (by kernel_rfl) (by kernel_rfl) (by kernel_rfl) hO13 ?_
  (try simp only [Act.put, List.setIfInBounds_toArray, List.set_cons_zero, List.set_cons_succ])
  refine hl_pure 22 #[true, true, true, true, true, true, true, true, true, true, true, true, true, true, true, true, true, true, true, true, true, true, true, false, false, false, false, false, false, false, false, false] (by kernel_rfl) rfl (some 29) (by kernel_rfl) (by kernel_rfl) (by kernel_rfl) (by kernel_rfl) (.bool true) (by kernel_rfl) (fun _ => by kernel_rfl) hO13 ?_
  (try simp only [Act.put, List.setIfInBounds_toArray, List.set_cons_zero, List.set_cons_succ])
  refine hl_pure 23 #[true, true, true, true, true, true, true, true, true, true, true, true, true, true, true, true, true, true, true, true, true, true, true, true, false, false, false, false, false, false, false, false] (by kernel_rfl) rfl (some 30) (by kernel_rfl) (by kernel_rfl) (by kernel_rfl) (by kernel_rfl) (.bool true) (by kernel_rfl) (fun _ => by kernel_rfl) hO13 ?_
  (try simp only [Act.put, List.setIfInBounds_toArray, List.set_cons_zero, List.set_cons_succ])
  refine hl_load 24 #[true, true, true, true, true, true, true, true, true, true, true, true, true, true, true, true, true, true, true, true, true, true, true, true, true, false, false, false, false, false, false, false] (by kernel_rfl) rfl (some 31) (by kernel_rfl) (by kernel_rfl) (by kernel_rfl) (by kernel_rfl) (c8 a) (by kernel_rfl) 22 (.tmp 2) (by kernel_rfl) w.heap.size (by kernel_rfl) 22 _ (.tail _ (.head _)) Try.underlying22 rfl (inum_c8 _) hO13 ?_
  (try simp only [Act.put, List.setIfInBounds_toArray, List.set_cons_zero, List.set_cons_succ])
  refine hl_load 27 #[true, true, true, true, true, true, true, true, true, true, true, true, true, true, true, true, true, true, true, true, true, true, true, true, true, false, false, true, false, false, false, false] (by kernel_rfl) rfl (some 34) (by kernel_rfl) (by kernel_rfl) (by kernel_rfl) (by kernel_rfl) (c8 a) (by kernel_rfl) 22 (.tmp 2) (by kernel_rfl) w.heap.size (by kernel_rfl) 22 _ (.tail _ (.head _)) Try.underlying22 rfl (inum_c8 _) hO13 ?_
  (try simp only [Act.put, List.setIfInBounds_toArray, List.set_cons_zero, List.set_cons_succ])
  refine hl_call 25 #[true, true, true, true, true, true, true, true, true, true, true, true, true, true, true, true, true, true, true, true, true, true, true, true, true, true, false, true, false, false, false, false] (by kernel_rfl) rfl (some 32) (by kernel_rfl) (.agg (c8 (pinv a))) (by kernel_rfl) (by kernel_rfl) (by kernel_rfl) (inv_any a ha _) hO13 fun w14 hO14 => ?_
  clear hO13
  (try simp only [Act.put, List.setIfInBounds_toArray, List.set_cons_zero, List.set_cons_succ])
  refine hl_call 26 #[true, true, true, true, true, true, true, true, true, true, true, true, true, true, true, true, true, true, true, true, true, true, true, true, true, true, true, true, false, false, false, false] (by kernel_rfl) rfl (some 33) (by kernel_rfl) (.agg (c8 (pinv (pinv a)))) (by kernel_rfl) (by kernel_rfl) (by kernel_rfl) (inv_any (pinv a) (pinv_256 _) _) hO14 fun w15 hO15 => ?_
  clear hO14
  (try simp only [Act.put, List.setIfInBounds_toArray, List.set_cons_zero, List.set_cons_succ])
  refine hl_call 28 #[true, true, true, true, true, true, true, true, true, true, true, true, true, true, true, true, true, true, true, true, true, true, true, true, true, true, true, true, true, false, false, false] (by kernel_rfl) rfl (some 35) (by kernel_rfl) (.agg (c8 (a % p25))) (by kernel_rfl) (by kernel_rfl) (by kernel_rfl) (reduce_any a ha _) hO15 fun w16 hO16 => ?_
  clear hO15
  (try simp only [Act.put, List.setIfInBounds_toArray, List.set_cons_zero, List.set_cons_succ])
  refine hl_eql 29 #[true, true, true, true, true, true, true, true, true, true, true, true, true, true, true, true, true, true, true, true, true, true, true, true, true, true, true, true, true, true, false, false] (by kernel_rfl) rfl (some 36) (by kernel_rfl) (by kernel_rfl) (by kernel_rfl) (by kernel_rfl) (x := (pinv (pinv a))) (y := (a % p25)) .true (pinv_256 _) (N256.mod _) (decide_eq_true (pinv_pinv _)) (by kernel_rfl) (.tmp 33) (.tmp 35) 22 (by kernel_rfl) (by kernel_rfl) (by kernel_rfl) hO16 ?_
  (try simp only [Act.put, List.setIfInBounds_toArray, List.set_cons_zero, List.set_cons_succ])
  refine hl_pure 30 #[true, true, true, true, true, true, true, true, true, true, true, true, true, true, true, true, true, true, true, true, true, true, true, true, true, true, true, true, true, true, true, false] (by kernel_rfl) rfl (some 37) (by kernel_rfl) (by kernel_rfl) (by kernel_rfl) (by kernel_rfl) (.bool true) (by kernel_rfl) (fun _ => by kernel_rfl) hO16 ?_
  (try simp only [Act.put, List.setIfInBounds_toArray, List.set_cons_zero, List.set_cons_succ])
  refine hl_pure 31 #[true, true, true, true, true, true, true, true, true, true, true, true, true, true, true, true, true, true, true, true, true, true, true, true, true, true, true, true, true, true, true, true] (by kernel_rfl) rfl (some 4) (by kernel_rfl) (by kernel_rfl) (by kernel_rfl) (by kernel_rfl) (.bool true) (by kernel_rfl) (fun _ => by kernel_rfl) hO16 ?_
  (try simp only [Act.put, List.setIfInBounds_toArray, List.set_cons_zero, List.set_cons_succ])
  refine hl_done (by kernel_rfl) ?_
  show Code.wp _ _ _ _ _
  refine wp_ret ?_
  (try simp only [Exit.then, Exit.inBlock])
  refine bodyPost_ret (results_tmp rfl _ _ _) rfl ?_
  exact ⟨rfl, hO16.bl⟩
set_option maxRecDepth 100000 in
set_option maxHeartbeats 4000000 in
theorem products_2 {a b : Nat} (ha : N256 a) (hb : N256 b) (h : a % p25 ≠ 0) (k : b % p25 ≠ 0) (w : World) : Ret Try.prog 6 #[.agg (c8 a), .agg (c8 b)] w (.bool true) := by
  refine calls_of_wp Try.func6 rfl ?_
  simp only [Try.ntmps6, List.size_toArray, List.length_cons, List.length_nil, Nat.reduceAdd, Nat.reduceSub, Array.replicate_succ, Array.replicate_zero, List.push_toArray, List.append_toArray, List.nil_append, List.cons_append]
  have hO := Own.nil w
  refine wp_seq ?_
  refine wp_region_lit ?_
  refine pl_new 22 (c8 a) rfl (by kernel_rfl) hO fun w1 hO1 => ?_
  clear hO
  (try simp only [Act.put, List.setIfInBounds_toArray, List.set_cons_zero, List.set_cons_succ])
  refine pl_new 22 (c8 b) rfl (by kernel_rfl) hO1 fun w2 hO2 => ?_
  clear hO1
  (try simp only [Act.put, List.setIfInBounds_toArray, List.set_cons_zero, List.set_cons_succ])
  refine pl_pure (.bool false) rfl (by kernel_rfl) ?_
  (try simp only [Act.put, List.setIfInBounds_toArray, List.set_cons_zero, List.set_cons_succ])
  refine pl_nil ?_
  show Code.wp _ _ _ _ _
  refine wp_seq ?_
  refine wp_seq ?_
  refine wp_region_lit ?_
  refine pl_call (.bool true) rfl (by kernel_rfl) (alive_any _) hO2 fun w3 hO3 => ?_
  clear hO2
  (try simp only [Act.put, List.setIfInBounds_toArray, List.set_cons_zero, List.set_cons_succ])
  refine pl_pure (.bool false) rfl (by kernel_rfl) ?_
  (try simp only [Act.put, List.setIfInBounds_toArray, List.set_cons_zero, List.set_cons_succ])
  refine pl_nil ?_
  show Code.wp _ _ _ _ _
  refine wp_cond_false rfl ?_
  refine wp_skip ?_
  show Code.wp _ _ _ _ _
  refine wp_seq ?_
  refine hl_start #[false, false, false, false, false, false, false, false, false, false, false, false, false, false, false, false, false, false, false, false, false, false, false, false, false, false, false, false, false, false, false, false] (by kernel_rfl) (by kernel_rfl) hO3 fun w4 hO4 => ?_
  clear hO3
  refine hl_load 0 #[true, false, false, false, false, false, false, false, false, false, false, false, false, false, false, false, false, false, false, false, false, false, false, false, false, false, false, false, false, false, false, false] (by kernel_rfl) rfl (some 7) (by kernel_rfl) (by kernel_rfl) (by kernel_rfl) (by kernel_rfl) (c8 a) (by kernel_rfl) 22 (.tmp 2) (by kernel_rfl) w.heap.size (by kernel_rfl) 22 _ (.tail _ (.head _)) Try.underlying22 rfl (inum_c8 _) hO4 ?_
  (try simp only [Act.put, List.setIfInBounds_toArray, List.set_cons_zero, List.set_cons_succ])
  refine hl_load 1 #[true, true, false, false, false, false, false, false, false, false, false, false, false, false, false, false, false, false, false, false, false, false, false, false, false, false, false, false, false, false, false, false] (by kernel_rfl) rfl (some 8) (by kernel_rfl) (by kernel_rfl) (by kernel_rfl) (by kernel_rfl) (c8 b) (by kernel_rfl) 22 (.tmp 3) (by kernel_rfl) w1.heap.size (by kernel_rfl) 22 _ (.head _) Try.underlying22 rfl (inum_c8 _) hO4 ?_
  (try simp only [Act.put, List.setIfInBounds_toArray, List.set_cons_zero, List.set_cons_succ])
  refine hl_load 4 #[true, true, false, false, true, false, false, false, false, false, false, false, false, false, false, false, false, false, false, false, false, false, false, false, false, false, false, false, false, false, false, false] (by kernel_rfl) rfl (some 11) (by kernel_rfl) (by kernel_rfl) (by kernel_rfl) (by kernel_rfl) (c8 a) (by kernel_rfl) 22 (.tmp 2) (by kernel_rfl) w.heap.size (by kernel_rfl) 22 _ (.tail _ (.head _)) Try.underlying22 rfl (inum_c8 _) hO4 ?_
  (try simp only [Act.put, List.setIfInBounds_toArray, List.set_cons_zero, List.set_cons_succ])
  refine hl_call 2 #[true, true, true, false, true, false, false, false, false, false, false, false, false, false, false, false, false, false, false, false, false, false, false, false, false, false, false, false, false, false, false, false] (by kernel_rfl) rfl (some 9) (by kernel_rfl) (.agg (c8 (a * b % p25))) (by kernel_rfl) (by kernel_rfl) (by kernel_rfl) (mul_any a b ha hb _) hO4 fun w5 hO5 => ?_
  clear hO4
  (try simp only [Act.put, List.setIfInBounds_toArray, List.set_cons_zero, List.set_cons_succ])
  refine hl_call 3 #[true, true, true, true, true, false, false, false, false, false, false, false, false, false, false, false, false, false, false, false, false, false, false, false, false, false, false, false, false, false, false, false] (by kernel_rfl) rfl (some 10) (by kernel_rfl) (.bool false) (by kernel_rfl) (by kernel_rfl) (by kernel_rfl) (zero_false (n := (a * b % p25)) (N256.mod _) (prd1 h k) _) hO5 fun w6 hO6 => ?_
  clear hO5
  (try simp only [Act.put, List.setIfInBounds_toArray, List.set_cons_zero, List.set_cons_succ])
  refine hl_call 5 #[true, true, true, true, true, true, false, false, false, false, false, false, false, false, false, false, false, false, false, false, false, false, false, false, false, false, false, false, false, false, false, false] (by kernel_rfl) rfl (some 12) (by kernel_rfl) (.bool false) (by kernel_rfl) (by kernel_rfl) (by kernel_rfl) (zero_false (n := a) ha h _) hO6 fun w7 hO7 => ?_
  clear hO6
  (try simp only [Act.put, List.setIfInBounds_toArray, List.set_cons_zero, List.set_cons_succ])
  refine hl_pure 6 #[true, true, true, true, true, true, true, false, false, false, false, false, false, false, false, false, false, false, false, false, false, false, false, false, false, false, false, false, false, false, false, false] (by kernel_rfl) rfl (some 13) (by kernel_rfl) (by kernel_rfl) (by kernel_rfl) (by kernel_rfl) (.bool false) (by kernel_rfl) (fun _ => by kernel_rfl) hO7 ?_
  (try simp only [Act.put, List.setIfInBounds_toArray, List.set_cons_zero, List.set_cons_succ])
  refine hl_load 7 #[true, true, true, true, true, true, true, true, false, false, false, false, false, false, false, false, false, false, false, false, false, false, false, false, false, false, false, false, false, false, false, false] (by kernel_rfl) rfl (some 14) (by kernel_rfl) (by kernel_rfl) (by kernel_rfl) (by kernel_rfl) (c8 b) (by kernel_rfl) 22 (.tmp 3) (by kernel_rfl) w1.heap.size (by kernel_rfl) 22 _ (.head _) Try.underlying22 rfl (inum_c8 _) hO7 ?_
  (try simp only [Act.put, List.setIfInBounds_toArray, List.set_cons_zero, List.set_cons_succ])
  refine hl_call 8 #[true, true, true, true, true, true, true, true, true, false, false, false, false, false, false, false, false, false, false, false, false, false, false, false, false, false, false, false, false, false, false, false] (by kernel_rfl) rfl (some 15) (by kernel_rfl) (.bool false) (by kernel_rfl) (by kernel_rfl) (by kernel_rfl) (zero_false (n := b) hb k _) hO7 fun w8 hO8 => ?_
  clear hO7
  (try simp only [Act.put, List.setIfInBounds_toArray, List.set_cons_zero, List.set_cons_succ])
  refine hl_pure 9 #[true, true, true, true, true, true, true, true, true, true, false, false, false, false, false, false, false, false, false, false, false, false, false, false, false, false, false, false, false, false, false, false] (by kernel_rfl) rfl (some 16) (by kernel_rfl) (by kernel_rfl) (by kernel_rfl) (by kernel_rfl) (.bool false) (by kernel_rfl) (fun _ => by kernel_rfl) hO8 ?_
  (try simp only [Act.put, List.setIfInBounds_toArray, List.set_cons_zero, List.set_cons_succ])
  refine hl_pure 10 #[true, true, true, true, true, true, true, true, true, true, true, false, false, false, false, false, false, false, false, false, false, false, false, false, false, false, false, false, false, false, false, false] (by kernel_rfl) rfl (some 17) (by kernel_rfl) (by kernel_rfl) (by kernel_rfl) (by kernel_rfl) (.bool true) (by kernel_rfl) (fun _ => by kernel_rfl) hO8 ?_
  (try simp only [Act.put, List.setIfInBounds_toArray, List.set_cons_zero, List.set_cons_succ])
  refine hl_pure 11 #[true, true, true, true, true, true, true, true, true, true, true, true, false, false, false, false, false, false, false, false, false, false, false, false, false, false, false, false, false, false, false, false] (by kernel_rfl) rfl (some 18) (by kernel_rfl) (by kernel_rfl) (by kernel_rfl) (by kernel_rfl) (.bool true) (by kernel_rfl) (fun _ => by kernel_rfl) hO8 ?_
  (try simp only [Act.put, List.setIfInBounds_toArray, List.set_cons_zero, List.set_cons_succ])
  refine hl_load 12 #[true, true, true, true, true, true, true, true, true, true, true, true, true, false, false, false, false, false, false, false, false, false, false, false, false, false, false, false, false, false, false, false] (by kernel_rfl) rfl (some 19) (by kernel_rfl) (by kernel_rfl) (by kernel_rfl) (by kernel_rfl) (c8 a) (by kernel_rfl) 22 (.tmp 2) (by kernel_rfl) w.heap.size (by kernel_rfl) 22 _ (.tail _ (.head _)) Try.underlying22 rfl (inum_c8 _) hO8 ?_
  (try simp only [Act.put, List.setIfInBounds_toArray, List.set_cons_zero, List.set_cons_succ])
  refine hl_load 13 #[true, true, true, true, true, true, true, true, true, true, true, true, true, true, false, false, false, false, false, false, false, false, false, false, false, false, false, false, false, false, false, false] (by kernel_rfl) rfl (some 20) (by kernel_rfl) (by kernel_rfl) (by kernel_rfl) (by kernel_rfl) (c8 b) (by kernel_rfl) 22 (.tmp 3) (by kernel_rfl) w1.heap.size (by kernel_rfl) 22 _ (.head _) Try.underlying22 rfl (inum_c8 _) hO8 ?_
  (try simp only [Act.put, List.setIfInBounds_toArray, List.set_cons_zero, List.set_cons_succ])
  refine hl_load 16 #[true, true, true, true, true, true, true, true, true, true, true, true, true, true, false, false, true, false, false, false, false, false, false, false, false, false, false, false, false, false, false, false] (by kernel_rfl) rfl (some 23) (by kernel_rfl) (by kernel_rfl) (by kernel_rfl) (by kernel_rfl) (c8 a) (by kernel_rfl) 22 (.tmp 2) (by kernel_rfl) w.heap.size (by kernel_rfl) 22 _ (.tail _ (.head _)) Try.underlying22 rfl (inum_c8 _) hO8 ?_
  (try simp only [Act.put, List.setIfInBounds_toArray, List.set_cons_zero, List.set_cons_succ])
  refine hl_load 18 #[true, true, true, true, true, true, true, true, true, true, true, true, true, true, false, false, true, false, true, false, false, false, false, false, false, false, false, false, false, false, false, false] (by kernel_rfl) rfl (some 25) (by kernel_rfl) (by kernel_rfl) (by kernel_rfl) (by kernel_rfl) (c8 b) (by kernel_rfl) 22 (.tmp 3) (by kernel_rfl) w1.heap.size (by kernel_rfl) 22 _ (.head _) Try.underlying22 rfl (inum_c8 _) hO8 ?_
  (try simp only [Act.put, List.setIfInBounds_toArray, List.set_cons_zero, List.set_cons_succ])
  refine hl_call 14 #[true, true, true, true, true, true, true, true, true, true, true, true, true, true, true, false, true, false, true, false, false, false, false, false, false, false, false, false, false, false, false, false] (by kernel_rfl) rfl (some 21) (by kernel_rfl) (.agg (c8 (a * b % p25))) (by kernel_rfl) (by kernel_rfl) (by kernel_rfl) (mul_any a b ha hb _) hO8 fun w9 hO9 => ?_
  clear hO8
  (try simp only [Act.put, List.setIfInBounds_toArray, List.set_cons_zero, List.set_cons_succ])
  refine hl_call 15 #[true, true, true, true, true, true, true, true, true, true, true, true, true, true, true, true, true, false, true, false, false, false, false, false, false, false, false, false, false, false, false, false] (by kernel_rfl) rfl (some 22) (by kernel_rfl) (.agg (c8 (pinv (a * b % p25)))) (by kernel_rfl) (by kernel_rfl) (by kernel_rfl) (inv_any (a * b % p25) (N256.mod _) _) hO9 fun w10 hO10 => ?_
  clear hO9
  (try simp only [Act.put, List.setIfInBounds_toArray, List.set_cons_zero, List.set_cons_succ])
  refine hl_call 17 #[true, true, true, true, true, true, true, true, true, true, true, true, true, true, true, true, true, true, true, false, false, false, false, false, false, false, false, false, false, false, false, false] (by kernel_rfl) rfl (some 24) (by kernel_rfl) (.agg (c8 (pinv a))) (by kernel_rfl) (by kernel_rfl) (by kernel_rfl) (inv_any a ha _) hO10 fun w11 hO11 => ?_
  clear hO10
  (try simp only [Act.put, List.setIfInBounds_toArray, List.set_cons_zero, List.set_cons_succ])
  refine hl_call 19 #[true, true, true, true, true, true, true, true, true, true, true, true, true, true, true, true, true, true, true, true, false, false, false, false, false, false, false, false, false, false, false, false] (by kernel_rfl) rfl (some 26) (by kernel_rfl) (.agg (c8 (pinv b))) (by kernel_rfl) (by kernel_rfl) (by kernel_rfl) (inv_any b hb _) hO11 fun w12 hO12 => ?_
  clear hO11
  (try simp only [Act.put, List.setIfInBounds_toArray, List.set_cons_zero, List.set_cons_succ])
  refine hl_call 20 #[true, true, true, true, true, true, true, true, true, true, true, true, true, true, true, true, true, true, true, true, true, false, false, false, false, false, false, false, false, false, false, false] (by kernel_rfl) rfl (some 27) (by kernel_rfl) (.agg (c8 ((pinv a) * (pinv b) % p25))) (by kernel_rfl) (by kernel_rfl) (by kernel_rfl) (mul_any (pinv a) (pinv b) (pinv_256 _) (pinv_256 _) _) hO12 fun w13 hO13 => ?_
  clear hO12
  (try simp only [Act.put, List.setIfInBounds_toArray, List.set_cons_zero, List.set_cons_succ])
  refine hl_eql 21 #[true, true, true, true, true, true, true, true, true, true, true, true, true, true, true, true, true, true, true, true, true, true, false, false, false, false, false, false, false, false, false, false] (by kernel_rfl) rfl (some 28) (by kernel_rfl) (by kernel_rfl) (by kernel_rfl) (by kernel_rfl) (x := (pinv (a * b % p25))) (y := ((pinv a) * (pinv b) % p25)) .true (pinv_256 _) (N256.mod _) (decide_eq_true (pinv_mul _ _)) (by kernel_rfl) (.tmp 22) (.tmp 27) 22 (by kernel_rfl) (by kernel_rfl) (by kernel_rfl) hO13 ?_
  (try simp only [Act.put, List.setIfInBounds_toArray, List.set_cons_zero, List.set_cons_succ])
  refine hl_pure 22 #[true, true, true, true, true, true, true, true, true, true, true, true, true, true, true, true, true, true, true, true, true, true, true, false, false, false, false, false, false, false, false, false] (by kernel_rfl) rfl (some 29) (by kernel_rfl) (by kernel_rfl) (by kernel_rfl) (by kernel_rfl) (.bool true) (by kernel_rfl) (fun _ => by kernel_rfl) hO13 ?_
  (try simp only [Act.put, List.setIfInBounds_toArray, List.set_cons_zero, List.set_cons_succ])
  refine hl_pure 23 #[true, true, true, true, true, true, true, true, true, true, true, true, true, true, true, true, true, true, true, true, true, true, true, true, false, false, false, false, false, false, false, false] (by kernel_rfl) rfl (some 30) (by kernel_rfl) (by kernel_rfl) (by kernel_rfl) (by kernel_rfl) (.bool true) (by kernel_rfl) (fun _ => by kernel_rfl) hO13 ?_
  (try simp only [Act.put, List.setIfInBounds_toArray, List.set_cons_zero, List.set_cons_succ])
  refine hl_load 24 #[true, true, true, true, true, true, true, true, true, true, true, true, true, true, true, true, true, true, true, true, true, true, true, true, true, false, false, false, false, false, false, false] (by kernel_rfl) rfl (some 31) (by kernel_rfl) (by kernel_rfl) (by kernel_rfl) (by kernel_rfl) (c8 a) (by kernel_rfl) 22 (.tmp 2) (by kernel_rfl) w.heap.size (by kernel_rfl) 22 _ (.tail _ (.head _)) Try.underlying22 rfl (inum_c8 _) hO13 ?_
  (try simp only [Act.put, List.setIfInBounds_toArray, List.set_cons_zero, List.set_cons_succ])
  refine hl_load 27 #[true, true, true, true, true, true, true, true, true, true, true, true, true, true, true, true, true, true, true, true, true, true, true, true, true, false, false, true, false, false, false, false] (by kernel_rfl) rfl (some 34) (by kernel_rfl) (by kernel_rfl) (by kernel_rfl) (by kernel_rfl) (c8 a) (by kernel_rfl) 22 (.tmp 2) (by kernel_rfl) w.heap.size (by kernel_rfl) 22 _ (.tail _ (.head _)) Try.underlying22 rfl (inum_c8 _) hO13 ?_
  (try simp only [Act.put, List.setIfInBounds_toArray, List.set_cons_zero, List.set_cons_succ])
  refine hl_call 25 #[true, true, true, true, true, true, true, true, true, true, true, true, true, true, true, true, true, true, true, true, true, true, true, true, true, true, false, true, false, false, false, false] (by kernel_rfl) rfl (some 32) (by kernel_rfl) (.agg (c8 (pinv a))) (by kernel_rfl) (by kernel_rfl) (by kernel_rfl) (inv_any a ha _) hO13 fun w14 hO14 => ?_
  clear hO13
  (try simp only [Act.put, List.setIfInBounds_toArray, List.set_cons_zero, List.set_cons_succ])
  refine hl_call 26 #[true, true, true, true, true, true, true, true, true, true, true, true, true, true, true, true, true, true, true, true, true, true, true, true, true, true, true, true, false, false, false, false] (by kernel_rfl) rfl (some 33) (by kernel_rfl) (.agg (c8 (pinv (pinv a)))) (by kernel_rfl) (by kernel_rfl) (by kernel_rfl) (inv_any (pinv a) (pinv_256 _) _) hO14 fun w15 hO15 => ?_
  clear hO14
  (try simp only [Act.put, List.setIfInBounds_toArray, List.set_cons_zero, List.set_cons_succ])
  refine hl_call 28 #[true, true, true, true, true, true, true, true, true, true, true, true, true, true, true, true, true, true, true, true, true, true, true, true, true, true, true, true, true, false, false, false] (by kernel_rfl) rfl (some 35) (by kernel_rfl) (.agg (c8 (a % p25))) (by kernel_rfl) (by kernel_rfl) (by kernel_rfl) (reduce_any a ha _) hO15 fun w16 hO16 => ?_
  clear hO15
  (try simp only [Act.put, List.setIfInBounds_toArray, List.set_cons_zero, List.set_cons_succ])
  refine hl_eql 29 #[true, true, true, true, true, true, true, true, true, true, true, true, true, true, true, true, true, true, true, true, true, true, true, true, true, true, true, true, true, true, false, false] (by kernel_rfl) rfl (some 36) (by kernel_rfl) (by kernel_rfl) (by kernel_rfl) (by kernel_rfl) (x := (pinv (pinv a))) (y := (a % p25)) .true (pinv_256 _) (N256.mod _) (decide_eq_true (pinv_pinv _)) (by kernel_rfl) (.tmp 33) (.tmp 35) 22 (by kernel_rfl) (by kernel_rfl) (by kernel_rfl) hO16 ?_
  (try simp only [Act.put, List.setIfInBounds_toArray, List.set_cons_zero, List.set_cons_succ])
  refine hl_pure 30 #[true, true, true, true, true, true, true, true, true, true, true, true, true, true, true, true, true, true, true, true, true, true, true, true, true, true, true, true, true, true, true, false] (by kernel_rfl) rfl (some 37) (by kernel_rfl) (by kernel_rfl) (by kernel_rfl) (by kernel_rfl) (.bool true) (by kernel_rfl) (fun _ => by kernel_rfl) hO16 ?_
  (try simp only [Act.put, List.setIfInBounds_toArray, List.set_cons_zero, List.set_cons_succ])
  refine hl_pure 31 #[true, true, true, true, true, true, true, true, true, true, true, true, true, true, true, true, true, true, true, true, true, true, true, true, true, true, true, true, true, true, true, true] (by kernel_rfl) rfl (some 4) (by kernel_rfl) (by kernel_rfl) (by kernel_rfl) (by kernel_rfl) (.bool true) (by kernel_rfl) (fun _ => by kernel_rfl) hO16 ?_
  (try simp only [Act.put, List.setIfInBounds_toArray, List.set_cons_zero, List.set_cons_succ])
  refine hl_done (by kernel_rfl) ?_
  show Code.wp _ _ _ _ _
  refine wp_ret ?_
  (try simp only [Exit.then, Exit.inBlock])
  refine bodyPost_ret (results_tmp rfl _ _ _) rfl ?_
  exact ⟨rfl, hO16.bl⟩
theorem products_any {a b : Nat} (ha : N256 a) (hb : N256 b) (w : World) : Ret Try.prog 6 #[.agg (c8 a), .agg (c8 b)] w (.bool true) := by
  by_cases h : a % p25 = 0
  · exact products_0 ha hb h w
  · by_cases k : b % p25 = 0
    · exact products_1 ha hb h k w
    · exact products_2 ha hb h k w
end Go.Proofs.Ytkmgdpbmkbpkjaa
