/-
  LimbSquares and LimbQuotients, walked: whatever the numbers, the answer is true.
-/
import Derived.Test.YtkmgdpbmkbpkjaaProducts
import Derived.Test.YtkmgdpbmkbpkjaaEngA
set_option linter.unusedVariables false
set_option linter.unusedSimpArgs false
namespace Go.Proofs.Ytkmgdpbmkbpkjaa
open Go.RowKit

set_option maxRecDepth 100000 in
set_option maxHeartbeats 4000000 in
theorem squares_any {a b : Nat} (ha : N256 a) (hb : N256 b) (w : World) : Ret Try.prog 7 #[.agg (c8 a), .agg (c8 b)] w (.bool true) := by
  refine calls_of_wp Try.func7 rfl ?_
  simp only [Try.ntmps7, List.size_toArray, List.length_cons, List.length_nil, Nat.reduceAdd, Nat.reduceSub, Array.replicate_succ, Array.replicate_zero, List.push_toArray, List.append_toArray, List.nil_append, List.cons_append]
  have hO := Own.nil w
  refine wp_seq ?_
  refine wp_region_lit ?_
  refine pl_new 22 (c8 a) rfl (by kernel_rfl) hO fun w1 hO1 => ?_
  clear hO
  (try simp only [Act.put, List.setIfInBounds_toArray, List.set_cons_zero, List.set_cons_succ])
  refine pl_new 22 (c8 b) rfl (by kernel_rfl) hO1 fun w2 hO2 => ?_
  clear hO1
  (try simp only [Act.put, List.setIfInBounds_toArray, List.set_cons_zero, List.set_cons_succ])
  refine pl_pure (.bool false) rfl (by kernel_rfl) ?_
  (try simp only [Act.put, List.setIfInBounds_toArray, List.set_cons_zero, List.set_cons_succ])
  refine pl_nil ?_
  show Code.wp _ _ _ _ _
  refine wp_seq ?_
  refine wp_seq ?_
  refine wp_region_lit ?_
  refine pl_call (.bool true) rfl (by kernel_rfl) (alive_any _) hO2 fun w3 hO3 => ?_
  clear hO2
  (try simp only [Act.put, List.setIfInBounds_toArray, List.set_cons_zero, List.set_cons_succ])
  refine pl_pure (.bool false) rfl (by kernel_rfl) ?_
  (try simp only [Act.put, List.setIfInBounds_toArray, List.set_cons_zero, List.set_cons_succ])
  refine pl_nil ?_
  show Code.wp _ _ _ _ _
  refine wp_cond_false rfl ?_
  refine wp_skip ?_
  show Code.wp _ _ _ _ _
  refine wp_seq ?_
  refine wp_region_lit ?_
  refine pl_pure (.agg (c8 0)) rfl (by kernel_rfl) ?_
  (try simp only [Act.put, List.setIfInBounds_toArray, List.set_cons_zero, List.set_cons_succ])
  refine pl_load (c8 a) rfl 22 (.tmp 2) rfl w.heap.size rfl 22 _ (hO3.get (.tail _ (.head _))) Try.underlying22 rfl (inum_c8 _) ?_
  (try simp only [Act.put, List.setIfInBounds_toArray, List.set_cons_zero, List.set_cons_succ])
  refine pl_call (.agg (c8 ((0 + 4 * p25 - a) % p25))) rfl (by kernel_rfl) (sub_any 0 a (by unfold N256; omega) ha _) hO3 fun w4 hO4 => ?_
  clear hO3
  (try simp only [Act.put, List.setIfInBounds_toArray, List.set_cons_zero, List.set_cons_succ])
  refine pl_new 22 (c8 0) rfl (by kernel_rfl) hO4 fun w5 hO5 => ?_
  clear hO4
  (try simp only [Act.put, List.setIfInBounds_toArray, List.set_cons_zero, List.set_cons_succ])
  refine pl_store (L1 := []) (L2 := [(w1.heap.size, 22, (c8 b)), (w.heap.size, 22, (c8 a))]) (cs := (c8 0)) (c8 ((0 + 4 * p25 - a) % p25)) rfl 22 (.tmp 5) (.tmp 11) rfl rfl rfl hO5 (by simp only [size_c8]) (inum_c8 _) (one_c8 _) fun w6 hO6 => ?_
  clear hO5
  simp only [List.nil_append] at hO6
  (try simp only [Act.put, List.setIfInBounds_toArray, List.set_cons_zero, List.set_cons_succ])
  refine pl_nil ?_
  show Code.wp _ _ _ _ _
  refine wp_seq ?_
  refine hl_start #[false, false, false, false, false, false, false, false, false] (by kernel_rfl) (by kernel_rfl) hO6 fun w7 hO7 => ?_
  clear hO6
  refine hl_load 0 #[true, false, false, false, false, false, false, false, false] (by kernel_rfl) rfl (some 12) (by kernel_rfl) (by kernel_rfl) (by kernel_rfl) (by kernel_rfl) (c8 a) (by kernel_rfl) 22 (.tmp 2) (by kernel_rfl) w.heap.size (by kernel_rfl) 22 _ (.tail _ (.tail _ (.head _))) Try.underlying22 rfl (inum_c8 _) hO7 ?_
  (try simp only [Act.put, List.setIfInBounds_toArray, List.set_cons_zero, List.set_cons_succ])
  refine hl_load 1 #[true, true, false, false, false, false, false, false, false] (by kernel_rfl) rfl (some 13) (by kernel_rfl) (by kernel_rfl) (by kernel_rfl) (by kernel_rfl) (c8 a) (by kernel_rfl) 22 (.tmp 2) (by kernel_rfl) w.heap.size (by kernel_rfl) 22 _ (.tail _ (.tail _ (.head _))) Try.underlying22 rfl (inum_c8 _) hO7 ?_
  (try simp only [Act.put, List.setIfInBounds_toArray, List.set_cons_zero, List.set_cons_succ])
  refine hl_load 3 #[true, true, false, true, false, false, false, false, false] (by kernel_rfl) rfl (some 15) (by kernel_rfl) (by kernel_rfl) (by kernel_rfl) (by kernel_rfl) (c8 b) (by kernel_rfl) 22 (.tmp 3) (by kernel_rfl) w1.heap.size (by kernel_rfl) 22 _ (.tail _ (.head _)) Try.underlying22 rfl (inum_c8 _) hO7 ?_
  (try simp only [Act.put, List.setIfInBounds_toArray, List.set_cons_zero, List.set_cons_succ])
  refine hl_load 4 #[true, true, false, true, true, false, false, false, false] (by kernel_rfl) rfl (some 16) (by kernel_rfl) (by kernel_rfl) (by kernel_rfl) (by kernel_rfl) (c8 b) (by kernel_rfl) 22 (.tmp 3) (by kernel_rfl) w1.heap.size (by kernel_rfl) 22 _ (.tail _ (.head _)) Try.underlying22 rfl (inum_c8 _) hO7 ?_
  (try simp only [Act.put, List.setIfInBounds_toArray, List.set_cons_zero, List.set_cons_succ])
  refine hl_cut (w0 := w) (L := [(w4.heap.size, 22, (c8 ((0 + 4 * p25 - a) % p25))), (w1.heap.size, 22, (c8 b)), (w.heap.size, 22, (c8 a))]) (t := 22) (cs := (c8 (((a * a % p25) + 4 * p25 - (b * b % p25)) % p25))) (a' := ?actw25) (fun key => ?regw25) ?restw25
  case regw25 =>
    refine hl_two 2 7 (by kernel_rfl) ?_ ?_
    · refine st_call 2 #[true, true, true, true, true, false, false, false, false] (by kernel_rfl) rfl (some 14) (by kernel_rfl) rfl (.agg (c8 (a * a % p25))) (by kernel_rfl) (mul_any a a ha ha _) hO7 (fun _ h => h) fun w8 hO8 => ?_
      try clear hO7
      (try simp only [Act.put, List.setIfInBounds_toArray, List.set_cons_zero, List.set_cons_succ])
      refine hl_two 5 7 (by kernel_rfl) ?_ ?_
      · refine st_call 5 #[true, true, true, true, true, true, false, false, false] (by kernel_rfl) rfl (some 17) (by kernel_rfl) rfl (.agg (c8 (b * b % p25))) (by kernel_rfl) (mul_any b b hb hb _) hO8 (fun _ h => h) fun w9 hO9 => ?_
        try clear hO8
        (try simp only [Act.put, List.setIfInBounds_toArray, List.set_cons_zero, List.set_cons_succ])
        refine hl_two 6 7 (by kernel_rfl) ?_ ?_
        · refine st_call 6 #[true, true, true, true, true, true, true, false, false] (by kernel_rfl) rfl (some 18) (by kernel_rfl) rfl (.agg (c8 (((a * a % p25) + 4 * p25 - (b * b % p25)) % p25))) (by kernel_rfl) (sub_any (a * a % p25) (b * b % p25) (N256.mod _) (N256.mod _) _) hO9 (fun _ h => h) fun w10 hO10 => ?_
          try clear hO9
          (try simp only [Act.put, List.setIfInBounds_toArray, List.set_cons_zero, List.set_cons_succ])
          refine hl_one 7 (by kernel_rfl) ?_
          refine st_alloc 7 #[true, true, true, true, true, true, true, true, false] (by kernel_rfl) rfl (some 6) (by kernel_rfl) rfl 22 (c8 0) (by kernel_rfl) hO10 (fun _ h => h) fun gw11 w11 hO11 => ?_
          try clear hO10
          (try simp only [Act.put, List.setIfInBounds_toArray, List.set_cons_zero, List.set_cons_succ])
          refine hl_one 8 (by kernel_rfl) ?_
          refine st_store 8 #[true, true, true, true, true, true, true, true, true] (by kernel_rfl) rfl none (by kernel_rfl) rfl (c8 (((a * a % p25) + 4 * p25 - (b * b % p25)) % p25)) 22 (.tmp 6) (.tmp 18) rfl rfl rfl hO11 (by simp only [size_c8]) (inum_c8 _) (one_c8 _) (fun _ h => h.tail) fun w12 hO12 => ?_
          try clear hO11
          (try simp only [Act.put, List.setIfInBounds_toArray, List.set_cons_zero, List.set_cons_succ])
          refine hl_done (by kernel_rfl) ?_
          exact key _ _ hO12
        · refine st_alloc 7 #[true, true, true, true, true, true, false, true, false] (by kernel_rfl) rfl (some 6) (by kernel_rfl) rfl 22 (c8 0) (by kernel_rfl) hO9 (fun _ h => h) fun gw13 w13 hO13 => ?_
          try clear hO9
          (try simp only [Act.put, List.setIfInBounds_toArray, List.set_cons_zero, List.set_cons_succ])
          refine hl_one 6 (by kernel_rfl) ?_
          refine st_call 6 #[true, true, true, true, true, true, true, true, false] (by kernel_rfl) rfl (some 18) (by kernel_rfl) rfl (.agg (c8 (((a * a % p25) + 4 * p25 - (b * b % p25)) % p25))) (by kernel_rfl) (sub_any (a * a % p25) (b * b % p25) (N256.mod _) (N256.mod _) _) hO13 (fun _ h => h.tail) fun w14 hO14 => ?_
          try clear hO13
          (try simp only [Act.put, List.setIfInBounds_toArray, List.set_cons_zero, List.set_cons_succ])
          refine hl_one 8 (by kernel_rfl) ?_
          refine st_store 8 #[true, true, true, true, true, true, true, true, true] (by kernel_rfl) rfl none (by kernel_rfl) rfl (c8 (((a * a % p25) + 4 * p25 - (b * b % p25)) % p25)) 22 (.tmp 6) (.tmp 18) rfl rfl rfl hO14 (by simp only [size_c8]) (inum_c8 _) (one_c8 _) (fun _ h => h.tail) fun w15 hO15 => ?_
          try clear hO14
          (try simp only [Act.put, List.setIfInBounds_toArray, List.set_cons_zero, List.set_cons_succ])
          refine hl_done (by kernel_rfl) ?_
          exact key _ _ hO15
      · refine st_alloc 7 #[true, true, true, true, true, false, false, true, false] (by kernel_rfl) rfl (some 6) (by kernel_rfl) rfl 22 (c8 0) (by kernel_rfl) hO8 (fun _ h => h) fun gw16 w16 hO16 => ?_
        try clear hO8
        (try simp only [Act.put, List.setIfInBounds_toArray, List.set_cons_zero, List.set_cons_succ])
        refine hl_one 5 (by kernel_rfl) ?_
        refine st_call 5 #[true, true, true, true, true, true, false, true, false] (by kernel_rfl) rfl (some 17) (by kernel_rfl) rfl (.agg (c8 (b * b % p25))) (by kernel_rfl) (mul_any b b hb hb _) hO16 (fun _ h => h.tail) fun w17 hO17 => ?_
        try clear hO16
        (try simp only [Act.put, List.setIfInBounds_toArray, List.set_cons_zero, List.set_cons_succ])
        refine hl_one 6 (by kernel_rfl) ?_
        refine st_call 6 #[true, true, true, true, true, true, true, true, false] (by kernel_rfl) rfl (some 18) (by kernel_rfl) rfl (.agg (c8 (((a * a % p25) + 4 * p25 - (b * b % p25)) % p25))) (by kernel_rfl) (sub_any (a * a % p25) (b * b % p25) (N256.mod _) (N256.mod _) _) hO17 (fun _ h => h.tail) fun w18 hO18 => ?_
        try clear hO17
        (try simp only [Act.put, List.setIfInBounds_toArray, List.set_cons_zero, List.set_cons_succ])
        refine hl_one 8 (by kernel_rfl) ?_
        refine st_store 8 #[true, true, true, true, true, true, true, true, true] (by kernel_rfl) rfl none (by kernel_rfl) rfl (c8 (((a * a % p25) + 4 * p25 - (b * b % p25)) % p25)) 22 (.tmp 6) (.tmp 18) rfl rfl rfl hO18 (by simp only [size_c8]) (inum_c8 _) (one_c8 _) (fun _ h => h.tail) fun w19 hO19 => ?_
        try clear hO18
        (try simp only [Act.put, List.setIfInBounds_toArray, List.set_cons_zero, List.set_cons_succ])
        refine hl_done (by kernel_rfl) ?_
        exact key _ _ hO19
    · refine st_alloc 7 #[true, true, false, true, true, false, false, true, false] (by kernel_rfl) rfl (some 6) (by kernel_rfl) rfl 22 (c8 0) (by kernel_rfl) hO7 (fun _ h => h) fun gw20 w20 hO20 => ?_
      try clear hO7
      (try simp only [Act.put, List.setIfInBounds_toArray, List.set_cons_zero, List.set_cons_succ])
      refine hl_one 2 (by kernel_rfl) ?_
      refine st_call 2 #[true, true, true, true, true, false, false, true, false] (by kernel_rfl) rfl (some 14) (by kernel_rfl) rfl (.agg (c8 (a * a % p25))) (by kernel_rfl) (mul_any a a ha ha _) hO20 (fun _ h => h.tail) fun w21 hO21 => ?_
      try clear hO20
      (try simp only [Act.put, List.setIfInBounds_toArray, List.set_cons_zero, List.set_cons_succ])
      refine hl_one 5 (by kernel_rfl) ?_
      refine st_call 5 #[true, true, true, true, true, true, false, true, false] (by kernel_rfl) rfl (some 17) (by kernel_rfl) rfl (.agg (c8 (b * b % p25))) (by kernel_rfl) (mul_any b b hb hb _) hO21 (fun _ h => h.tail) fun w22 hO22 => ?_
      try clear hO21
      (try simp only [Act.put, List.setIfInBounds_toArray, List.set_cons_zero, List.set_cons_succ])
      refine hl_one 6 (by kernel_rfl) ?_
      refine st_call 6 #[true, true, true, true, true, true, true, true, false] (by kernel_rfl) rfl (some 18) (by kernel_rfl) rfl (.agg (c8 (((a * a % p25) + 4 * p25 - (b * b % p25)) % p25))) (by kernel_rfl) (sub_any (a * a % p25) (b * b % p25) (N256.mod _) (N256.mod _) _) hO22 (fun _ h => h.tail) fun w23 hO23 => ?_
      try clear hO22
      (try simp only [Act.put, List.setIfInBounds_toArray, List.set_cons_zero, List.set_cons_succ])
      refine hl_one 8 (by kernel_rfl) ?_
      refine st_store 8 #[true, true, true, true, true, true, true, true, true] (by kernel_rfl) rfl none (by kernel_rfl) rfl (c8 (((a * a % p25) + 4 * p25 - (b * b % p25)) % p25)) 22 (.tmp 6) (.tmp 18) rfl rfl rfl hO23 (by simp only [size_c8]) (inum_c8 _) (one_c8 _) (fun _ h => h.tail) fun w24 hO24 => ?_
      try clear hO23
      (try simp only [Act.put, List.setIfInBounds_toArray, List.set_cons_zero, List.set_cons_succ])
      refine hl_done (by kernel_rfl) ?_
      exact key _ _ hO24
  intro gw25 w25 hO25
  try clear hO7
  show Code.wp _ _ _ _ _
  refine wp_seq ?_
  refine hl_start #[false, false, false, false, false, false, false, false, false, false, false, false, false, false, false, false, false, false, false, false, false, false, false, false, false] (by kernel_rfl) (by kernel_rfl) hO25 fun w26 hO26 => ?_
  clear hO25
  refine hl_load 0 #[true, false, false, false, false, false, false, false, false, false, false, false, false, false, false, false, false, false, false, false, false, false, false, false, false] (by kernel_rfl) rfl (some 19) (by kernel_rfl) (by kernel_rfl) (by kernel_rfl) (by kernel_rfl) (c8 a) (by kernel_rfl) 22 (.tmp 2) (by kernel_rfl) w.heap.size (by kernel_rfl) 22 _ (.tail _ (.tail _ (.tail _ (.head _)))) Try.underlying22 rfl (inum_c8 _) hO26 ?_
  (try simp only [Act.put, List.setIfInBounds_toArray, List.set_cons_zero, List.set_cons_succ])
  refine hl_load 1 #[true, true, false, false, false, false, false, false, false, false, false, false, false, false, false, false, false, false, false, false, false, false, false, false, false] (by kernel_rfl) rfl (some 20) (by kernel_rfl) (by kernel_rfl) (by kernel_rfl) (by kernel_rfl) (c8 a) (by kernel_rfl) 22 (.tmp 2) (by kernel_rfl) w.heap.size (by kernel_rfl) 22 _ (.tail _ (.tail _ (.tail _ (.head _)))) Try.underlying22 rfl (inum_c8 _) hO26 ?_
  (try simp only [Act.put, List.setIfInBounds_toArray, List.set_cons_zero, List.set_cons_succ])
  refine hl_load 3 #[true, true, false, true, false, false, false, false, false, false, false, false, false, false, false, false, false, false, false, false, false, false, false, false, false] (by kernel_rfl) rfl (some 22) (by kernel_rfl) (by kernel_rfl) (by kernel_rfl) (by kernel_rfl) (c8 ((0 + 4 * p25 - a) % p25)) (by kernel_rfl) 22 (.tmp 5) (by kernel_rfl) w4.heap.size (by kernel_rfl) 22 _ (.tail _ (.head _)) Try.underlying22 rfl (inum_c8 _) hO26 ?_
  (try simp only [Act.put, List.setIfInBounds_toArray, List.set_cons_zero, List.set_cons_succ])
  refine hl_load 4 #[true, true, false, true, true, false, false, false, false, false, false, false, false, false, false, false, false, false, false, false, false, false, false, false, false] (by kernel_rfl) rfl (some 23) (by kernel_rfl) (by kernel_rfl) (by kernel_rfl) (by kernel_rfl) (c8 ((0 + 4 * p25 - a) % p25)) (by kernel_rfl) 22 (.tmp 5) (by kernel_rfl) w4.heap.size (by kernel_rfl) 22 _ (.tail _ (.head _)) Try.underlying22 rfl (inum_c8 _) hO26 ?_
  (try simp only [Act.put, List.setIfInBounds_toArray, List.set_cons_zero, List.set_cons_succ])
  refine hl_call 2 #[true, true, true, true, true, false, false, false, false, false, false, false, false, false, false, false, false, false, false, false, false, false, false, false, false] (by kernel_rfl) rfl (some 21) (by kernel_rfl) (.agg (c8 (a * a % p25))) (by kernel_rfl) (by kernel_rfl) (by kernel_rfl) (mul_any a a ha ha _) hO26 fun w27 hO27 => ?_
  clear hO26
  (try simp only [Act.put, List.setIfInBounds_toArray, List.set_cons_zero, List.set_cons_succ])
  refine hl_call 5 #[true, true, true, true, true, true, false, false, false, false, false, false, false, false, false, false, false, false, false, false, false, false, false, false, false] (by kernel_rfl) rfl (some 24) (by kernel_rfl) (.agg (c8 (((0 + 4 * p25 - a) % p25) * ((0 + 4 * p25 - a) % p25) % p25))) (by kernel_rfl) (by kernel_rfl) (by kernel_rfl) (mul_any ((0 + 4 * p25 - a) % p25) ((0 + 4 * p25 - a) % p25) (N256.mod _) (N256.mod _) _) hO27 fun w28 hO28 => ?_
  clear hO27
  (try simp only [Act.put, List.setIfInBounds_toArray, List.set_cons_zero, List.set_cons_succ])
  refine hl_eql 6 #[true, true, true, true, true, true, true, false, false, false, false, false, false, false, false, false, false, false, false, false, false, false, false, false, false] (by kernel_rfl) rfl (some 25) (by kernel_rfl) (by kernel_rfl) (by kernel_rfl) (by kernel_rfl) (x := (a * a % p25)) (y := (((0 + 4 * p25 - a) % p25) * ((0 + 4 * p25 - a) % p25) % p25)) .true (N256.mod _) (N256.mod _) (decide_eq_true (neg_mul_neg ha.le4 ha.le4).symm) (by kernel_rfl) (.tmp 21) (.tmp 24) 22 (by kernel_rfl) (by kernel_rfl) (by kernel_rfl) hO28 ?_
  (try simp only [Act.put, List.setIfInBounds_toArray, List.set_cons_zero, List.set_cons_succ])
  refine hl_pure 7 #[true, true, true, true, true, true, true, true, false, false, false, false, false, false, false, false, false, false, false, false, false, false, false, false, false] (by kernel_rfl) rfl (some 26) (by kernel_rfl) (by kernel_rfl) (by kernel_rfl) (by kernel_rfl) (.bool true) (by kernel_rfl) (fun _ => by kernel_rfl) hO28 ?_
  (try simp only [Act.put, List.setIfInBounds_toArray, List.set_cons_zero, List.set_cons_succ])
  refine hl_load 8 #[true, true, true, true, true, true, true, true, true, false, false, false, false, false, false, false, false, false, false, false, false, false, false, false, false] (by kernel_rfl) rfl (some 27) (by kernel_rfl) (by kernel_rfl) (by kernel_rfl) (by kernel_rfl) (c8 a) (by kernel_rfl) 22 (.tmp 2) (by kernel_rfl) w.heap.size (by kernel_rfl) 22 _ (.tail _ (.tail _ (.tail _ (.head _)))) Try.underlying22 rfl (inum_c8 _) hO28 ?_
  (try simp only [Act.put, List.setIfInBounds_toArray, List.set_cons_zero, List.set_cons_succ])
  refine hl_load 9 #[true, true, true, true, true, true, true, true, true, true, false, false, false, false, false, false, false, false, false, false, false, false, false, false, false] (by kernel_rfl) rfl (some 28) (by kernel_rfl) (by kernel_rfl) (by kernel_rfl) (by kernel_rfl) (c8 ((0 + 4 * p25 - a) % p25)) (by kernel_rfl) 22 (.tmp 5) (by kernel_rfl) w4.heap.size (by kernel_rfl) 22 _ (.tail _ (.head _)) Try.underlying22 rfl (inum_c8 _) hO28 ?_
  (try simp only [Act.put, List.setIfInBounds_toArray, List.set_cons_zero, List.set_cons_succ])
  refine hl_call 10 #[true, true, true, true, true, true, true, true, true, true, true, false, false, false, false, false, false, false, false, false, false, false, false, false, false] (by kernel_rfl) rfl (some 29) (by kernel_rfl) (.agg (c8 ((a + ((0 + 4 * p25 - a) % p25)) % p25))) (by kernel_rfl) (by kernel_rfl) (by kernel_rfl) (add_any a ((0 + 4 * p25 - a) % p25) ha (N256.mod _) _) hO28 fun w29 hO29 => ?_
  clear hO28
  (try simp only [Act.put, List.setIfInBounds_toArray, List.set_cons_zero, List.set_cons_succ])
  refine hl_call 11 #[true, true, true, true, true, true, true, true, true, true, true, true, false, false, false, false, false, false, false, false, false, false, false, false, false] (by kernel_rfl) rfl (some 30) (by kernel_rfl) (.bool true) (by kernel_rfl) (by kernel_rfl) (by kernel_rfl) (zero_true (n := ((a + ((0 + 4 * p25 - a) % p25)) % p25)) (N256.mod _) (sqr0 _ ha) _) hO29 fun w30 hO30 => ?_
  clear hO29
  (try simp only [Act.put, List.setIfInBounds_toArray, List.set_cons_zero, List.set_cons_succ])
  refine hl_pure 12 #[true, true, true, true, true, true, true, true, true, true, true, true, true, false, false, false, false, false, false, false, false, false, false, false, false] (by kernel_rfl) rfl (some 31) (by kernel_rfl) (by kernel_rfl) (by kernel_rfl) (by kernel_rfl) (.bool true) (by kernel_rfl) (fun _ => by kernel_rfl) hO30 ?_
  (try simp only [Act.put, List.setIfInBounds_toArray, List.set_cons_zero, List.set_cons_succ])
  refine hl_pure 13 #[true, true, true, true, true, true, true, true, true, true, true, true, true, true, false, false, false, false, false, false, false, false, false, false, false] (by kernel_rfl) rfl (some 32) (by kernel_rfl) (by kernel_rfl) (by kernel_rfl) (by kernel_rfl) (.bool true) (by kernel_rfl) (fun _ => by kernel_rfl) hO30 ?_
  (try simp only [Act.put, List.setIfInBounds_toArray, List.set_cons_zero, List.set_cons_succ])
  refine hl_load 14 #[true, true, true, true, true, true, true, true, true, true, true, true, true, true, true, false, false, false, false, false, false, false, false, false, false] (by kernel_rfl) rfl (some 33) (by kernel_rfl) (by kernel_rfl) (by kernel_rfl) (by kernel_rfl) (c8 (((a * a % p25) + 4 * p25 - (b * b % p25)) % p25)) (by kernel_rfl) 22 (.tmp 6) (by kernel_rfl) gw25 (by kernel_rfl) 22 _ (.head _) Try.underlying22 rfl (inum_c8 _) hO30 ?_
  (try simp only [Act.put, List.setIfInBounds_toArray, List.set_cons_zero, List.set_cons_succ])
  refine hl_load 15 #[true, true, true, true, true, true, true, true, true, true, true, true, true, true, true, true, false, false, false, false, false, false, false, false, false] (by kernel_rfl) rfl (some 34) (by kernel_rfl) (by kernel_rfl) (by kernel_rfl) (by kernel_rfl) (c8 a) (by kernel_rfl) 22 (.tmp 2) (by kernel_rfl) w.heap.size (by kernel_rfl) 22 _ (.tail _ (.tail _ (.tail _ (.head _)))) Try.underlying22 rfl (inum_c8 _) hO30 ?_
  (try simp only [Act.put, List.setIfInBounds_toArray, List.set_cons_zero, List.set_cons_succ])
  refine hl_load 16 #[true, true, true, true, true, true, true, true, true, true, true, true, true, true, true, true, true, false, false, false, false, false, false, false, false] (by kernel_rfl) rfl (some 35) (by kernel_rfl) (by kernel_rfl) (by kernel_rfl) (by kernel_rfl) (c8 b) (by kernel_rfl) 22 (.tmp 3) (by kernel_rfl) w1.heap.size (by kernel_rfl) 22 _ (.tail _ (.tail _ (.head _))) Try.underlying22 rfl (inum_c8 _) hO30 ?_
  (try simp only [Act.put, List.setIfInBounds_toArray, List.set_cons_zero, List.set_cons_succ])
  refine hl_load 18 #[true, true, true, true, true, true, true, true, true, true, true, true, true, true, true, true, true, false, true, false, false, false, false, false, false] (by kernel_rfl) rfl (some 37) (by kernel_rfl) (by kernel_rfl) (by kernel_rfl) (by kernel_rfl) (c8 a) (by kernel_rfl) 22 (.tmp 2) (by kernel_rfl) w.heap.size (by kernel_rfl) 22 _ (.tail _ (.tail _ (.tail _ (.head _)))) Try.underlying22 rfl (inum_c8 _) hO30 ?_
  (try simp only [Act.put, List.setIfInBounds_toArray, List.set_cons_zero, List.set_cons_succ])
  refine hl_load 19 #[true, true, true, true, true, true, true, true, true, true, true, true, true, true, true, true, true, false, true, true, false, false, false, false, false] (by kernel_rfl) rfl (some 38) (by kernel_rfl) (by kernel_rfl) (by kernel_rfl) (by kernel_rfl) (c8 b) (by kernel_rfl) 22 (.tmp 3) (by kernel_rfl) w1.heap.size (by kernel_rfl) 22 _ (.tail _ (.tail _ (.head _))) Try.underlying22 rfl (inum_c8 _) hO30 ?_
  (try simp only [Act.put, List.setIfInBounds_toArray, List.set_cons_zero, List.set_cons_succ])
  refine hl_call 17 #[true, true, true, true, true, true, true, true, true, true, true, true, true, true, true, true, true, true, true, true, false, false, false, false, false] (by kernel_rfl) rfl (some 36) (by kernel_rfl) (.agg (c8 ((a + b) % p25))) (by kernel_rfl) (by kernel_rfl) (by kernel_rfl) (add_any a b ha hb _) hO30 fun w31 hO31 => ?_
  clear hO30
  (try simp only [Act.put, List.setIfInBounds_toArray, List.set_cons_zero, List.set_cons_succ])
  refine hl_call 20 #[true, true, true, true, true, true, true, true, true, true, true, true, true, true, true, true, true, true, true, true, true, false, false, false, false] (by kernel_rfl) rfl (some 39) (by kernel_rfl) (.agg (c8 ((a + 4 * p25 - b) % p25))) (by kernel_rfl) (by kernel_rfl) (by kernel_rfl) (sub_any a b ha hb _) hO31 fun w32 hO32 => ?_
  clear hO31
  (try simp only [Act.put, List.setIfInBounds_toArray, List.set_cons_zero, List.set_cons_succ])
  refine hl_call 21 #[true, true, true, true, true, true, true, true, true, true, true, true, true, true, true, true, true, true, true, true, true, true, false, false, false] (by kernel_rfl) rfl (some 40) (by kernel_rfl) (.agg (c8 (((a + b) % p25) * ((a + 4 * p25 - b) % p25) % p25))) (by kernel_rfl) (by kernel_rfl) (by kernel_rfl) (mul_any ((a + b) % p25) ((a + 4 * p25 - b) % p25) (N256.mod _) (N256.mod _) _) hO32 fun w33 hO33 => ?_
  clear hO32
  (try simp only [Act.put, List.setIfInBounds_toArray, List.set_cons_zero, List.set_cons_succ])
  refine hl_eql 22 #[true, true, true, true, true, true, true, true, true, true, true, true, true, true, true, true, true, true, true, true, true, true, true, false, false] (by kernel_rfl) rfl (some 41) (by kernel_rfl) (by kernel_rfl) (by kernel_rfl) (by kernel_rfl) (x := (((a * a % p25) + 4 * p25 - (b * b % p25)) % p25)) (y := (((a + b) % p25) * ((a + 4 * p25 - b) % p25) % p25)) .true (N256.mod _) (N256.mod _) (decide_eq_true (sqr1 _ _ hb)) (by kernel_rfl) (.tmp 33) (.tmp 40) 22 (by kernel_rfl) (by kernel_rfl) (by kernel_rfl) hO33 ?_
  (try simp only [Act.put, List.setIfInBounds_toArray, List.set_cons_zero, List.set_cons_succ])
  refine hl_pure 23 #[true, true, true, true, true, true, true, true, true, true, true, true, true, true, true, true, true, true, true, true, true, true, true, true, false] (by kernel_rfl) rfl (some 42) (by kernel_rfl) (by kernel_rfl) (by kernel_rfl) (by kernel_rfl) (.bool true) (by kernel_rfl) (fun _ => by kernel_rfl) hO33 ?_
  (try simp only [Act.put, List.setIfInBounds_toArray, List.set_cons_zero, List.set_cons_succ])
  refine hl_pure 24 #[true, true, true, true, true, true, true, true, true, true, true, true, true, true, true, true, true, true, true, true, true, true, true, true, true] (by kernel_rfl) rfl (some 4) (by kernel_rfl) (by kernel_rfl) (by kernel_rfl) (by kernel_rfl) (.bool true) (by kernel_rfl) (fun _ => by kernel_rfl) hO33 ?_
  (try simp only [Act.put, List.setIfInBounds_toArray, List.set_cons_zero, List.set_cons_succ])
  refine hl_done (by kernel_rfl) ?_
  show Code.wp _ _ _ _ _
  refine wp_ret ?_
  (try simp only [Exit.then, Exit.inBlock])
  refine bodyPost_ret (results_tmp rfl _ _ _) rfl ?_
  exact ⟨rfl, hO33.bl⟩
set_option maxRecDepth 100000 in
set_option maxHeartbeats 4000000 in
theorem quotients_0 {a b : Nat} (ha : N256 a) (hb : N256 b) (k : b % p25 = 0) (w : World) : Ret Try.prog 9 #[.agg (c8 a), .agg (c8 b)] w (.bool true) := by
  refine calls_of_wp Try.func9 rfl ?_
  simp only [Try.ntmps9, List.size_toArray, List.length_cons, List.length_nil, Nat.reduceAdd, Nat.reduceSub, Array.replicate_succ, Array.replicate_zero, List.push_toArray, List.append_toArray, List.nil_append, List.cons_append]
  have hO := Own.nil w
  refine wp_seq ?_
  refine wp_region_lit ?_
  refine pl_new 22 (c8 a) rfl (by kernel_rfl) hO fun w1 hO1 => ?_
  clear hO
  (try simp only [Act.put, List.setIfInBounds_toArray, List.set_cons_zero, List.set_cons_succ])
  refine pl_new 22 (c8 b) rfl (by kernel_rfl) hO1 fun w2 hO2 => ?_
  clear hO1
  (try simp only [Act.put, List.setIfInBounds_toArray, List.set_cons_zero, List.set_cons_succ])
  refine pl_pure (.bool false) rfl (by kernel_rfl) ?_
  (try simp only [Act.put, List.setIfInBounds_toArray, List.set_cons_zero, List.set_cons_succ])
  refine pl_nil ?_
  show Code.wp _ _ _ _ _
  refine wp_seq ?_
  refine wp_seq ?_
  refine wp_region_lit ?_
  refine pl_call (.bool true) rfl (by kernel_rfl) (alive_any _) hO2 fun w3 hO3 => ?_
  clear hO2
  (try simp only [Act.put, List.setIfInBounds_toArray, List.set_cons_zero, List.set_cons_succ])
  refine pl_pure (.bool false) rfl (by kernel_rfl) ?_
  (try simp only [Act.put, List.setIfInBounds_toArray, List.set_cons_zero, List.set_cons_succ])
  refine pl_nil ?_
  show Code.wp _ _ _ _ _
  refine wp_cond_false rfl ?_
  refine wp_skip ?_
  show Code.wp _ _ _ _ _
  refine wp_seq ?_
  refine wp_seq ?_
  refine wp_region_lit ?_
  refine pl_load (c8 b) rfl 22 (.tmp 3) rfl w1.heap.size rfl 22 _ (hO3.get (.head _)) Try.underlying22 rfl (inum_c8 _) ?_
  (try simp only [Act.put, List.setIfInBounds_toArray, List.set_cons_zero, List.set_cons_succ])
  refine pl_call (.bool true) rfl (by kernel_rfl) (zero_true (n := b) hb k _) hO3 fun w4 hO4 => ?_
  clear hO3
  (try simp only [Act.put, List.setIfInBounds_toArray, List.set_cons_zero, List.set_cons_succ])
  refine pl_nil ?_
  show Code.wp _ _ _ _ _
  refine wp_cond_true rfl ?_
  refine wp_seq ?_
  refine hl_start #[false, false, false, false, false, false] (by kernel_rfl) (by kernel_rfl) hO4 fun w5 hO5 => ?_
  clear hO4
  refine hl_load 0 #[true, false, false, false, false, false] (by kernel_rfl) rfl (some 10) (by kernel_rfl) (by kernel_rfl) (by kernel_rfl) (by kernel_rfl) (c8 a) (by kernel_rfl) 22 (.tmp 2) (by kernel_rfl) w.heap.size (by kernel_rfl) 22 _ (.tail _ (.head _)) Try.underlying22 rfl (inum_c8 _) hO5 ?_
  (try simp only [Act.put, List.setIfInBounds_toArray, List.set_cons_zero, List.set_cons_succ])
  refine hl_load 1 #[true, true, false, false, false, false] (by kernel_rfl) rfl (some 11) (by kernel_rfl) (by kernel_rfl) (by kernel_rfl) (by kernel_rfl) (c8 b) (by kernel_rfl) 22 (.tmp 3) (by kernel_rfl) w1.heap.size (by kernel_rfl) 22 _ (.head _) Try.underlying22 rfl (inum_c8 _) hO5 ?_
  (try simp only [Act.put, List.setIfInBounds_toArray, List.set_cons_zero, List.set_cons_succ])
  refine hl_call 2 #[true, true, true, false, false, false] (by kernel_rfl) rfl (some 12) (by kernel_rfl) (.agg (c8 (pinv b))) (by kernel_rfl) (by kernel_rfl) (by kernel_rfl) (inv_any b hb _) hO5 fun w6 hO6 => ?_
  clear hO5
  (try simp only [Act.put, List.setIfInBounds_toArray, List.set_cons_zero, List.set_cons_succ])
  refine hl_call 3 #[true, true, true, true, false, false] (by kernel_rfl) rfl (some 13) (by kernel_rfl) (.agg (c8 (a * (pinv b) % p25))) (by kernel_rfl) (by kernel_rfl) (by kernel_rfl) (mul_any a (pinv b) ha (pinv_256 _) _) hO6 fun w7 hO7 => ?_
  clear hO6
  (try simp only [Act.put, List.setIfInBounds_toArray, List.set_cons_zero, List.set_cons_succ])
  refine hl_call 4 #[true, true, true, true, true, false] (by kernel_rfl) rfl (some 14) (by kernel_rfl) (.bool true) (by kernel_rfl) (by kernel_rfl) (by kernel_rfl) (zero_true (n := (a * (pinv b) % p25)) (N256.mod _) (prd0 (Or.inr (by rw [pinv_zero k]; exact Nat.zero_mod _))) _) hO7 fun w8 hO8 => ?_
  clear hO7
  (try simp only [Act.put, List.setIfInBounds_toArray, List.set_cons_zero, List.set_cons_succ])
  refine hl_pure 5 #[true, true, true, true, true, true] (by kernel_rfl) rfl (some 4) (by kernel_rfl) (by kernel_rfl) (by kernel_rfl) (by kernel_rfl) (.bool true) (by kernel_rfl) (fun _ => by kernel_rfl) hO8 ?_
  (try simp only [Act.put, List.setIfInBounds_toArray, List.set_cons_zero, List.set_cons_succ])
  refine hl_done (by kernel_rfl) ?_
  show Code.wp _ _ _ _ _
  refine wp_ret ?_
  (try simp only [Exit.then, Exit.inBlock])
  refine bodyPost_ret (results_tmp rfl _ _ _) rfl ?_
  exact ⟨rfl, hO8.bl⟩
set_option maxRecDepth 100000 in
set_option maxHeartbeats 4000000 in
theorem quotients_1 {a b : Nat} (ha : N256 a) (hb : N256 b) (k : b % p25 ≠ 0) (h : a % p25 = 0) (w : World) : Ret Try.prog 9 #[.agg (c8 a), .agg (c8 b)] w (.bool true) := by
  refine calls_of_wp Try.func9 rfl ?_
  simp only [Try.ntmps9, List.size_toArray, List.length_cons, List.length_nil, Nat.reduceAdd, Nat.reduceSub, Array.replicate_succ, Array.replicate_zero, List.push_toArray, List.append_toArray, List.nil_append, List.cons_append]
  have hO := Own.nil w
  refine wp_seq ?_
  refine wp_region_lit ?_
  refine pl_new 22 (c8 a) rfl (by kernel_rfl) hO fun w1 hO1 => ?_
  clear hO
  (try simp only [Act.put, List.setIfInBounds_toArray, List.set_cons_zero, List.set_cons_succ])
  refine pl_new 22 (c8 b) rfl (by kernel_rfl) hO1 fun w2 hO2 => ?_
  clear hO1
  (try simp only [Act.put, List.setIfInBounds_toArray, List.set_cons_zero, List.set_cons_succ])
  refine pl_pure (.bool false) rfl (by kernel_rfl) ?_
  (try simp only [Act.put, List.setIfInBounds_toArray, List.set_cons_zero, List.set_cons_succ])
  refine pl_nil ?_
  show Code.wp _ _ _ _ _
  refine wp_seq ?_
  refine wp_seq ?_
  refine wp_region_lit ?_
  refine pl_call (.bool true) rfl (by kernel_rfl) (alive_any _) hO2 fun w3 hO3 => ?_
  clear hO2
  (try simp only [Act.put, List.setIfInBounds_toArray, List.set_cons_zero, List.set_cons_succ])
  refine pl_pure (.bool false) rfl (by kernel_rfl) ?_
  (try simp only [Act.put, List.setIfInBounds_toArray, List.set_cons_zero, List.set_cons_succ])
  refine pl_nil ?_
  show Code.wp _ _ _ _ _
  refine wp_cond_false rfl ?_
  refine wp_skip ?_
  show Code.wp _ _ _ _ _
  refine wp_seq ?_
  refine wp_seq ?_
  refine wp_region_lit ?_
  refine pl_load (c8 b) rfl 22 (.tmp 3) rfl w1.heap.size rfl 22 _ (hO3.get (.head _)) Try.underlying22 rfl (inum_c8 _) ?_
  (try simp only [Act.put, List.setIfInBounds_toArray, List.set_cons_zero, List.set_cons_succ])
  refine pl_call (.bool false) rfl (by kernel_rfl) (zero_false (n := b) hb k _) hO3 fun w4 hO4 => ?_
  clear hO3
  (try simp only [Act.put, List.setIfInBounds_toArray, List.set_cons_zero, List.set_cons_succ])
  refine pl_nil ?_
  show Code.wp _ _ _ _ _
  refine wp_cond_false rfl ?_
  refine wp_skip ?_
  show Code.wp _ _ _ _ _
  refine wp_seq ?_
  refine hl_start #[false, false, false, false, false, false] (by kernel_rfl) (by kernel_rfl) hO4 fun w5 hO5 => ?_
  clear hO4
  refine hl_load 0 #[true, false, false, false, false, false] (by kernel_rfl) rfl (some 15) (by kernel_rfl) (by kernel_rfl) (by kernel_rfl) (by kernel_rfl) (c8 a) (by kernel_rfl) 22 (.tmp 2) (by kernel_rfl) w.heap.size (by kernel_rfl) 22 _ (.tail _ (.head _)) Try.underlying22 rfl (inum_c8 _) hO5 ?_
  (try simp only [Act.put, List.setIfInBounds_toArray, List.set_cons_zero, List.set_cons_succ])
  refine hl_load 1 #[true, true, false, false, false, false] (by kernel_rfl) rfl (some 16) (by kernel_rfl) (by kernel_rfl) (by kernel_rfl) (by kernel_rfl) (c8 b) (by kernel_rfl) 22 (.tmp 3) (by kernel_rfl) w1.heap.size (by kernel_rfl) 22 _ (.head _) Try.underlying22 rfl (inum_c8 _) hO5 ?_
  (try simp only [Act.put, List.setIfInBounds_toArray, List.set_cons_zero, List.set_cons_succ])
  refine hl_cut (w0 := w) (L := [(w1.heap.size, 22, (c8 b)), (w.heap.size, 22, (c8 a))]) (t := 22) (cs := (c8 (a * (pinv b) % p25))) (a' := ?actw17) (fun key => ?regw17) ?restw17
  case regw17 =>
    refine hl_two 2 4 (by kernel_rfl) ?_ ?_
    · refine st_call 2 #[true, true, true, false, false, false] (by kernel_rfl) rfl (some 17) (by kernel_rfl) rfl (.agg (c8 (pinv b))) (by kernel_rfl) (inv_any b hb _) hO5 (fun _ h => h) fun w6 hO6 => ?_
      try clear hO5
      (try simp only [Act.put, List.setIfInBounds_toArray, List.set_cons_zero, List.set_cons_succ])
      refine hl_two 3 4 (by kernel_rfl) ?_ ?_
      · refine st_call 3 #[true, true, true, true, false, false] (by kernel_rfl) rfl (some 18) (by kernel_rfl) rfl (.agg (c8 (a * (pinv b) % p25))) (by kernel_rfl) (mul_any a (pinv b) ha (pinv_256 _) _) hO6 (fun _ h => h) fun w7 hO7 => ?_
        try clear hO6
        (try simp only [Act.put, List.setIfInBounds_toArray, List.set_cons_zero, List.set_cons_succ])
        refine hl_one 4 (by kernel_rfl) ?_
        refine st_alloc 4 #[true, true, true, true, true, false] (by kernel_rfl) rfl (some 5) (by kernel_rfl) rfl 22 (c8 0) (by kernel_rfl) hO7 (fun _ h => h) fun gw8 w8 hO8 => ?_
        try clear hO7
        (try simp only [Act.put, List.setIfInBounds_toArray, List.set_cons_zero, List.set_cons_succ])
        refine hl_one 5 (by kernel_rfl) ?_
        refine st_store 5 #[true, true, true, true, true, true] (by kernel_rfl) rfl none (by kernel_rfl) rfl (c8 (a * (pinv b) % p25)) 22 (.tmp 5) (.tmp 18) rfl rfl rfl hO8 (by simp only [size_c8]) (inum_c8 _) (one_c8 _) (fun _ h => h.tail) fun w9 hO9 => ?_
        try clear hO8
        (try simp only [Act.put, List.setIfInBounds_toArray, List.set_cons_zero, List.set_cons_succ])
        refine hl_done (by kernel_rfl) ?_
        exact key _ _ hO9
      · refine st_alloc 4 #[true, true, true, false, true, false] (by kernel_rfl) rfl (some 5) (by kernel_rfl) rfl 22 (c8 0) (by kernel_rfl) hO6 (fun _ h => h) fun gw10 w10 hO10 => ?_
        try clear hO6
        (try simp only [Act.put, List.setIfInBounds_toArray, List.set_cons_zero, List.set_cons_succ])
        refine hl_one 3 (by kernel_rfl) ?_
        refine st_call 3 #[true, true, true, true, true, false] (by kernel_rfl) rfl (some 18) (by kernel_rfl) rfl (.agg (c8 (a * (pinv b) % p25))) (by kernel_rfl) (mul_any a (pinv b) ha (pinv_256 _) _) hO10 (fun _ h => h.tail) fun w11 hO11 => ?_
        try clear hO10
        (try simp only [Act.put, List.setIfInBounds_toArray, List.set_cons_zero, List.set_cons_succ])
        refine hl_one 5 (by kernel_rfl) ?_
        refine st_store 5 #[true, true, true, true, true, true] (by kernel_rfl) rfl none (by kernel_rfl) rfl (c8 (a * (pinv b) % p25)) 22 (.tmp 5) (.tmp 18) rfl rfl rfl hO11 (by simp only [size_c8]) (inum_c8 _) (one_c8 _) (fun _ h => h.tail) fun w12 hO12 => ?_
        try clear hO11
        (try simp only [Act.put, List.setIfInBounds_toArray, List.set_cons_zero, List.set_cons_succ])
        refine hl_done (by kernel_rfl) ?_
        exact key _ _ hO12
    · refine st_alloc 4 #[true, true, false, false, true, false] (by kernel_rfl) rfl (some 5) (by kernel_rfl) rfl 22 (c8 0) (by kernel_rfl) hO5 (fun _ h => h) fun gw13 w13 hO13 => ?_
      try clear hO5
      (try simp only [Act.put, List.setIfInBounds_toArray, List.set_cons_zero, List.set_cons_succ])
      refine hl_one 2 (by kernel_rfl) ?_
      refine st_call 2 #[true, true, true, false, true, false] (by kernel_rfl) rfl (some 17) (by kernel_rfl) rfl (.agg (c8 (pinv b))) (by kernel_rfl) (inv_any b hb _) hO13 (fun _ h => h.tail) fun w14 hO14 => ?_
      try clear hO13
      (try simp only [Act.put, List.setIfInBounds_toArray, List.set_cons_zero, List.set_cons_succ])
      refine hl_one 3 (by kernel_rfl) ?_
      refine st_call 3 #[true, true, true, true, true, false] (by kernel_rfl) rfl (some 18) (by kernel_rfl) rfl (.agg (c8 (a * (pinv b) % p25))) (by kernel_rfl) (mul_any a (pinv b) ha (pinv_256 _) _) hO14 (fun _ h => h.tail) fun w15 hO15 => ?_
      try clear hO14
      (try simp only [Act.put, List.setIfInBounds_toArray, List.set_cons_zero, List.set_cons_succ])
      refine hl_one 5 (by kernel_rfl) ?_
      refine st_store 5 #[true, true, true, true, true, true] (by kernel_rfl) rfl none (by kernel_rfl) rfl (c8 (a * (pinv b) % p25)) 22 (.tmp 5) (.tmp 18) rfl rfl rfl hO15 (by simp only [size_c8]) (inum_c8 _) (one_c8 _) (fun _ h => h.tail) fun w16 hO16 => ?_
      try clear hO15
      (try simp only [Act.put, List.setIfInBounds_toArray, List.set_cons_zero, List.set_cons_succ])
      refine hl_done (by kernel_rfl) ?_
      exact key _ _ hO16
  intro gw17 w17 hO17
  try clear hO5
  show Code.wp _ _ _ _ _
  refine wp_seq ?_
  refine hl_start #[false, false, false, false, false, false, false, false, false, false, false, false, false, false, false, false, false, false, false, false, false, false, false, false, false] (by kernel_rfl) (by kernel_rfl) hO17 fun w18 hO18 => ?_
  clear hO17
  refine hl_load 0 #[true, false, false, false, false, false, false, false, false, false, false, false, false, false, false, false, false, false, false, false, false, false, false, false, false] (by kernel_rfl) rfl (some 19) (by kernel_rfl) (by kernel_rfl) (by kernel_rfl) (by kernel_rfl) (c8 (a * (pinv b) % p25)) (by kernel_rfl) 22 (.tmp 5) (by kernel_rfl) gw17 (by kernel_rfl) 22 _ (.head _) Try.underlying22 rfl (inum_c8 _) hO18 ?_
  (try simp only [Act.put, List.setIfInBounds_toArray, List.set_cons_zero, List.set_cons_succ])
  refine hl_load 1 #[true, true, false, false, false, false, false, false, false, false, false, false, false, false, false, false, false, false, false, false, false, false, false, false, false] (by kernel_rfl) rfl (some 20) (by kernel_rfl) (by kernel_rfl) (by kernel_rfl) (by kernel_rfl) (c8 b) (by kernel_rfl) 22 (.tmp 3) (by kernel_rfl) w1.heap.size (by kernel_rfl) 22 _ (.tail _ (.head _)) Try.underlying22 rfl (inum_c8 _) hO18 ?_
  (try simp only [Act.put, List.setIfInBounds_toArray, List.set_cons_zero, List.set_cons_succ])
  refine hl_load 3 #[true, true, false, true, false, false, false, false, false, false, false, false, false, false, false, false, false, false, false, false, false, false, false, false, false] (by kernel_rfl) rfl (some 22) (by kernel_rfl) (by kernel_rfl) (by kernel_rfl) (by kernel_rfl) (c8 a) (by kernel_rfl) 22 (.tmp 2) (by kernel_rfl) w.heap.size (by kernel_rfl) 22 _ (.tail _ (.tail _ (.head _))) Try.underlying22 rfl (inum_c8 _) hO18 ?_
  (try simp only [Act.put, List.setIfInBounds_toArray, List.set_cons_zero, List.set_cons_succ])
  refine hl_call 2 #[true, true, true, true, false, false, false, false, false, false, false, false, false, false, false, false, false, false, false, false, false, false, false, false, false] (by kernel_rfl) rfl (some 21) (by kernel_rfl) (.agg (c8 ((a * (pinv b) % p25) * b % p25))) (by kernel_rfl) (by kernel_rfl) (by kernel_rfl) (mul_any (a * (pinv b) % p25) b (N256.mod _) hb _) hO18 fun w19 hO19 => ?_
  clear hO18
  (try simp only [Act.put, List.setIfInBounds_toArray, List.set_cons_zero, List.set_cons_succ])
  refine hl_call 4 #[true, true, true, true, true, false, false, false, false, false, false, false, false, false, false, false, false, false, false, false, false, false, false, false, false] (by kernel_rfl) rfl (some 23) (by kernel_rfl) (.agg (c8 (a % p25))) (by kernel_rfl) (by kernel_rfl) (by kernel_rfl) (reduce_any a ha _) hO19 fun w20 hO20 => ?_
  clear hO19
  (try simp only [Act.put, List.setIfInBounds_toArray, List.set_cons_zero, List.set_cons_succ])
  refine hl_eql 5 #[true, true, true, true, true, true, false, false, false, false, false, false, false, false, false, false, false, false, false, false, false, false, false, false, false] (by kernel_rfl) rfl (some 24) (by kernel_rfl) (by kernel_rfl) (by kernel_rfl) (by kernel_rfl) (x := ((a * (pinv b) % p25) * b % p25)) (y := (a % p25)) .true (N256.mod _) (N256.mod _) (decide_eq_true (quo1 k)) (by kernel_rfl) (.tmp 21) (.tmp 23) 22 (by kernel_rfl) (by kernel_rfl) (by kernel_rfl) hO20 ?_
  (try simp only [Act.put, List.setIfInBounds_toArray, List.set_cons_zero, List.set_cons_succ])
  refine hl_pure 6 #[true, true, true, true, true, true, true, false, false, false, false, false, false, false, false, false, false, false, false, false, false, false, false, false, false] (by kernel_rfl) rfl (some 25) (by kernel_rfl) (by kernel_rfl) (by kernel_rfl) (by kernel_rfl) (.bool true) (by kernel_rfl) (fun _ => by kernel_rfl) hO20 ?_
  (try simp only [Act.put, List.setIfInBounds_toArray, List.set_cons_zero, List.set_cons_succ])
  refine hl_load 7 #[true, true, true, true, true, true, true, true, false, false, false, false, false, false, false, false, false, false, false, false, false, false, false, false, false] (by kernel_rfl) rfl (some 26) (by kernel_rfl) (by kernel_rfl) (by kernel_rfl) (by kernel_rfl) (c8 (a * (pinv b) % p25)) (by kernel_rfl) 22 (.tmp 5) (by kernel_rfl) gw17 (by kernel_rfl) 22 _ (.head _) Try.underlying22 rfl (inum_c8 _) hO20 ?_
  (try simp only [Act.put, List.setIfInBounds_toArray, List.set_cons_zero, List.set_cons_succ])
  refine hl_load 9 #[true, true, true, true, true, true, true, true, false, true, false, false, false, false, false, false, false, false, false, false, false, false, false, false, false] (by kernel_rfl) rfl (some 28) (by kernel_rfl) (by kernel_rfl) (by kernel_rfl) (by kernel_rfl) (c8 a) (by kernel_rfl) 22 (.tmp 2) (by kernel_rfl) w.heap.size (by kernel_rfl) 22 _ (.tail _ (.tail _ (.head _))) Try.underlying22 rfl (inum_c8 _) hO20 ?_
  (try simp only [Act.put, List.setIfInBounds_toArray, List.set_cons_zero, List.set_cons_succ])
  refine hl_call 8 #[true, true, true, true, true, true, true, true, true, true, false, false, false, false, false, false, false, false, false, false, false, false, false, false, false] (by kernel_rfl) rfl (some 27) (by kernel_rfl) (.bool true) (by kernel_rfl) (by kernel_rfl) (by kernel_rfl) (zero_true (n := (a * (pinv b) % p25)) (N256.mod _) (prd0 (Or.inl h)) _) hO20 fun w21 hO21 => ?_
  clear hO20
  (try simp only [Act.put, List.setIfInBounds_toArray, List.set_cons_zero, List.set_cons_succ])
  refine hl_call 10 #[true, true, true, true, true, true, true, true, true, true, true, false, false, false, false, false, false, false, false, false, false, false, false, false, false] (by kernel_rfl) rfl (some 29) (by kernel_rfl) (.bool true) (by kernel_rfl) (by kernel_rfl) (by kernel_rfl) (zero_true (n := a) ha h _) hO21 fun w22 hO22 => ?_
  clear hO21
  (try simp only [Act.put, List.setIfInBounds_toArray, List.set_cons_zero, List.set_cons_succ])
  refine hl_pure 11 #[true, true, true, true, true, true, true, true, true, true, true, true, false, false, false, false, false, false, false, false, false, false, false, false, false] (by kernel_rfl) rfl (some 30) (by kernel_rfl) (by kernel_rfl) (by kernel_rfl) (by kernel_rfl) (.bool true) (by kernel_rfl) (fun _ => by kernel_rfl) hO22 ?_
  (try simp only [Act.put, List.setIfInBounds_toArray, List.set_cons_zero, List.set_cons_succ])
  refine hl_pure 12 #[true, true, true, true, true, true, true, true, true, true, true, true, true, false, false, false, false, false, false, false, false, false, false, false, false] (by kernel_rfl) rfl (some 31) (by kernel_rfl) (by kernel_rfl) (by kernel_rfl) (by kernel_rfl) (.bool true) (by kernel_rfl) (fun _ => by kernel_rfl) hO22 ?_
  (try simp only [Act.put, List.setIfInBounds_toArray, List.set_cons_zero, List.set_cons_succ])
  refine hl_pure 13 #[true, true, true, true, true, true, true, true, true, true, true, true, true, true, false, false, false, false, false, false, false, false, false, false, false] (by kernel_rfl) rfl (some 32) (by kernel_rfl) (by kernel_rfl) (by kernel_rfl) (by kernel_rfl) (.bool true) (by kernel_rfl) (fun _ => by kernel_rfl) hO22 ?_
  (try simp only [Act.put, List.setIfInBounds_toArray, List.set_cons_zero, List.set_cons_succ])
  refine hl_pure 14 #[true, true, true, true, true, true, true, true, true, true, true, true, true, true, true, false, false, false, false, false, false, false, false, false, false] (by kernel_rfl) rfl (some 33) (by kernel_rfl) (by kernel_rfl) (by kernel_rfl) (by kernel_rfl) (.agg (c8 0)) (by kernel_rfl) (fun _ => by kernel_rfl) hO22 ?_
  (try simp only [Act.put, List.setIfInBounds_toArray, List.set_cons_zero, List.set_cons_succ])
  refine hl_load 15 #[true, true, true, true, true, true, true, true, true, true, true, true, true, true, true, true, false, false, false, false, false, false, false, false, false] (by kernel_rfl) rfl (some 34) (by kernel_rfl) (by kernel_rfl) (by kernel_rfl) (by kernel_rfl) (c8 b) (by kernel_rfl) 22 (.tmp 3) (by kernel_rfl) w1.heap.size (by kernel_rfl) 22 _ (.tail _ (.head _)) Try.underlying22 rfl (inum_c8 _) hO22 ?_
  (try simp only [Act.put, List.setIfInBounds_toArray, List.set_cons_zero, List.set_cons_succ])
  refine hl_pure 18 #[true, true, true, true, true, true, true, true, true, true, true, true, true, true, true, true, false, false, true, false, false, false, false, false, false] (by kernel_rfl) rfl (some 37) (by kernel_rfl) (by kernel_rfl) (by kernel_rfl) (by kernel_rfl) (.agg (c8 0)) (by kernel_rfl) (fun _ => by kernel_rfl) hO22 ?_
  (try simp only [Act.put, List.setIfInBounds_toArray, List.set_cons_zero, List.set_cons_succ])
  refine hl_load 19 #[true, true, true, true, true, true, true, true, true, true, true, true, true, true, true, true, false, false, true, true, false, false, false, false, false] (by kernel_rfl) rfl (some 38) (by kernel_rfl) (by kernel_rfl) (by kernel_rfl) (by kernel_rfl) (c8 b) (by kernel_rfl) 22 (.tmp 3) (by kernel_rfl) w1.heap.size (by kernel_rfl) 22 _ (.tail _ (.head _)) Try.underlying22 rfl (inum_c8 _) hO22 ?_
  (try simp only [Act.put, List.setIfInBounds_toArray, List.set_cons_zero, List.set_cons_succ])
  refine hl_call 16 #[true, true, true, true, true, true, true, true, true, true, true, true, true, true, true, true, true, false, true, true, false, false, false, false, false] (by kernel_rfl) rfl (some 35) (by kernel_rfl) (.agg (c8 ((0 + 4 * p25 - b) % p25))) (by kernel_rfl) (by kernel_rfl) (by kernel_rfl) (sub_any 0 b (by unfold N256; omega) hb _) hO22 fun w23 hO23 => ?_
  clear hO22
  (try simp only [Act.put, List.setIfInBounds_toArray, List.set_cons_zero, List.set_cons_succ])
  refine hl_call 17 #[true, true, true, true, true, true, true, true, true, true, true, true, true, true, true, true, true, true, true, true, false, false, false, false, false] (by kernel_rfl) rfl (some 36) (by kernel_rfl) (.agg (c8 (pinv ((0 + 4 * p25 - b) % p25)))) (by kernel_rfl) (by kernel_rfl) (by kernel_rfl) (inv_any ((0 + 4 * p25 - b) % p25) (N256.mod _) _) hO23 fun w24 hO24 => ?_
  clear hO23
  (try simp only [Act.put, List.setIfInBounds_toArray, List.set_cons_zero, List.set_cons_succ])
  refine hl_call 20 #[true, true, true, true, true, true, true, true, true, true, true, true, true, true, true, true, true, true, true, true, true, false, false, false, false] (by kernel_rfl) rfl (some 39) (by kernel_rfl) (.agg (c8 (pinv b))) (by kernel_rfl) (by kernel_rfl) (by kernel_rfl) (inv_any b hb _) hO24 fun w25 hO25 => ?_
  clear hO24
  (try simp only [Act.put, List.setIfInBounds_toArray, List.set_cons_zero, List.set_cons_succ])
  refine hl_call 21 #[true, true, true, true, true, true, true, true, true, true, true, true, true, true, true, true, true, true, true, true, true, true, false, false, false] (by kernel_rfl) rfl (some 40) (by kernel_rfl) (.agg (c8 ((0 + 4 * p25 - (pinv b)) % p25))) (by kernel_rfl) (by kernel_rfl) (by kernel_rfl) (sub_any 0 (pinv b) (by unfold N256; omega) (pinv_256 _) _) hO25 fun w26 hO26 => ?_
  clear hO25
  (try simp only [Act.put, List.setIfInBounds_toArray, List.set_cons_zero, List.set_cons_succ])
  refine hl_eql 22 #[true, true, true, true, true, true, true, true, true, true, true, true, true, true, true, true, true, true, true, true, true, true, true, false, false] (by kernel_rfl) rfl (some 41) (by kernel_rfl) (by kernel_rfl) (by kernel_rfl) (by kernel_rfl) (x := (pinv ((0 + 4 * p25 - b) % p25))) (y := ((0 + 4 * p25 - (pinv b)) % p25)) .true (pinv_256 _) (N256.mod _) (decide_eq_true (pinv_neg hb.le4)) (by kernel_rfl) (.tmp 36) (.tmp 40) 22 (by kernel_rfl) (by kernel_rfl) (by kernel_rfl) hO26 ?_
  (try simp only [Act.put, List.setIfInBounds_toArray, List.set_cons_zero, List.set_cons_succ])
  refine hl_pure 23 #[true, true, true, true, true, true, true, true, true, true, true, true, true, true, true, true, true, true, true, true, true, true, true, true, false] (by kernel_rfl) rfl (some 42) (by kernel_rfl) (by kernel_rfl) (by kernel_rfl) (by kernel_rfl) (.bool true) (by kernel_rfl) (fun _ => by kernel_rfl) hO26 ?_
  (try simp only [Act.put, List.setIfInBounds_toArray, List.set_cons_zero, List.set_cons_succ])
  refine hl_pure 24 #[true, true, true, true, true, true, true, true, true, true, true, true, true, true, true, true, true, true, true, true, true, true, true, true, true] (by kernel_rfl) rfl (some 4) (by kernel_rfl) (by kernel_rfl) (by kernel_rfl) (by kernel_rfl) (.bool true) (by kernel_rfl) (fun _ => by kernel_rfl) hO26 ?_
  (try simp only [Act.put, List.setIfInBounds_toArray, List.set_cons_zero, List.set_cons_succ])
  refine hl_done (by kernel_rfl) ?_
  show Code.wp _ _ _ _ _
  refine wp_ret ?_
  (try simp only [Exit.then, Exit.inBlock])
  refine bodyPost_ret (results_tmp rfl _ _ _) rfl ?_
  exact ⟨rfl, hO26.bl⟩
set_option maxRecDepth 100000 in
set_option maxHeartbeats 4000000 in
theorem quotients_2 {a b : Nat} (ha : N256 a) (hb : N256 b) (k : b % p25 ≠ 0) (h : a % p25 ≠ 0) (w : World) : Ret Try.prog 9 #[.agg (c8 a), .agg (c8 b)] w (.bool true) := by
  refine calls_of_wp Try.func9 rfl ?_
  simp only [Try.ntmps9, List.size_toArray, List.length_cons, List.length_nil, Nat.reduceAdd, Nat.reduceSub, Array.replicate_succ, Array.replicate_zero, List.push_toArray, List.append_toArray, List.nil_append, List.cons_append]
  have hO := Own.nil w
  refine wp_seq ?_
  refine wp_region_lit ?_
  refine pl_new 22 (c8 a) rfl (by kernel_rfl) hO fun w1 hO1 => ?_
  clear hO
  (try simp only [Act.put, List.setIfInBounds_toArray, List.set_cons_zero, List.set_cons_succ])
  refine pl_new 22 (c8 b) rfl (by kernel_rfl) hO1 fun w2 hO2 => ?_
  clear hO1
  (try simp only [Act.put, List.setIfInBounds_toArray, List.set_cons_zero, List.set_cons_succ])
  refine pl_pure (.bool false) rfl (by kernel_rfl) ?_
  (try simp only [Act.put, List.setIfInBounds_toArray, List.set_cons_zero, List.set_cons_succ])
  refine pl_nil ?_
  show Code.wp _ _ _ _ _
  refine wp_seq ?_
  refine wp_seq ?_
  refine wp_region_lit ?_
  refine pl_call (.bool true) rfl (by kernel_rfl) (alive_any _) hO2 fun w3 hO3 => ?_
  clear hO2
  (try simp only [Act.put, List.setIfInBounds_toArray, List.set_cons_zero, List.set_cons_succ])
  refine pl_pure (.bool false) rfl (by kernel_rfl) ?_
  (try simp only [Act.put, List.setIfInBounds_toArray, List.set_cons_zero, List.set_cons_succ])
  refine pl_nil ?_
  show Code.wp _ _ _ _ _
  refine wp_cond_false rfl ?_
  refine wp_skip ?_
  show Code.wp _ _ _ _ _
  refine wp_seq ?_
  refine wp_seq ?_
  refine wp_region_lit ?_
  refine pl_load (c8 b) rfl 22 (.tmp 3) rfl w1.heap.size rfl 22 _ (hO3.get (.head _)) Try.underlying22 rfl (inum_c8 _) ?_
  (try simp only [Act.put, List.setIfInBounds_toArray, List.set_cons_zero, List.set_cons_succ])
  refine pl_call (.bool false) rfl (by kernel_rfl) (zero_false (n := b) hb k _) hO3 fun w4 hO4 => ?_
  clear hO3
  (try simp only [Act.put, List.setIfInBounds_toArray, List.set_cons_zero, List.set_cons_succ])
  refine pl_nil ?_
  show Code.wp _ _ _ _ _
  refine wp_cond_false rfl ?_
  refine wp_skip ?_
  show Code.wp _ _ _ _ _
  refine wp_seq ?_
  refine hl_start #[false, false, false, false, false, false] (by kernel_rfl) (by kernel_rfl) hO4 fun w5 hO5 => ?_
  clear hO4
  refine hl_load 0 #[true, false, false, false, false, false] (by kernel_rfl) rfl (some 15) (by kernel_rfl) (by kernel_rfl) (by kernel_rfl) (by kernel_rfl) (c8 a) (by kernel_rfl) 22 (.tmp 2) (by kernel_rfl) w.heap.size (by kernel_rfl) 22 _ (.tail _ (.head _)) Try.underlying22 rfl (inum_c8 _) hO5 ?_
  (try simp only [Act.put, List.setIfInBounds_toArray, List.set_cons_zero, List.set_cons_succ])
  refine hl_load 1 #[true, true, false, false, false, false] (by kernel_rfl) rfl (some 16) (by kernel_rfl) (by kernel_rfl) (by kernel_rfl) (by kernel_rfl) (c8 b) (by kernel_rfl) 22 (.tmp 3) (by kernel_rfl) w1.heap.size (by kernel_rfl) 22 _ (.head _) Try.underlying22 rfl (inum_c8 _) hO5 ?_
  (try simp only [Act.put, List.setIfInBounds_toArray, List.set_cons_zero, List.set_cons_succ])
  refine hl_cut (w0 := w) (L := [(w1.heap.size, 22, (c8 b)), (w.heap.size, 22, (c8 a))]) (t := 22) (cs := (c8 (a * (pinv b) % p25))) (a' := ?actw17) (fun key => ?regw17) ?restw17
  case regw17 =>
    refine hl_two 2 4 (by kernel_rfl) ?_ ?_
    · refine st_call 2 #[true, true, true, false, false, false] (by kernel_rfl) rfl (some 17) (by kernel_rfl) rfl (.agg (c8 (pinv b))) (by kernel_rfl) (inv_any b hb _) hO5 (fun _ h => h) fun w6 hO6 => ?_
      try clear hO5
      (try simp only [Act.put, List.setIfInBounds_toArray, List.set_cons_zero, List.set_cons_succ])
      refine hl_two 3 4 (by kernel_rfl) ?_ ?_
      · refine st_call 3 #[true, true, true, true, false, false] (by kernel_rfl) rfl (some 18) (by kernel_rfl) rfl (.agg (c8 (a * (pinv b) % p25))) (by kernel_rfl) (mul_any a (pinv b) ha (pinv_256 _) _) hO6 (fun _ h => h) fun w7 hO7 => ?_
        try clear hO6
        (try simp only [Act.put, List.setIfInBounds_toArray, List.set_cons_zero, List.set_cons_succ])
        refine hl_one 4 (by kernel_rfl) ?_
        refine st_alloc 4 #[true, true, true, true, true, false] (by kernel_rfl) rfl (some 5) (by kernel_rfl) rfl 22 (c8 0) (by kernel_rfl) hO7 (fun _ h => h) fun gw8 w8 hO8 => ?_
        try clear hO7
        (try simp only [Act.put, List.setIfInBounds_toArray, List.set_cons_zero, List.set_cons_succ])
        refine hl_one 5 (by kernel_rfl) ?_
        refine st_store 5 #[true, true, true, true, true, true] (by kernel_rfl) rfl none (by kernel_rfl) rfl (c8 (a * (pinv b) % p25)) 22 (.tmp 5) (.tmp 18) rfl rfl rfl hO8 (by simp only [size_c8]) (inum_c8 _) (one_c8 _) (fun _ h => h.tail) fun w9 hO9 => ?_
        try clear hO8
        (try simp only [Act.put, List.setIfInBounds_toArray, List.set_cons_zero, List.set_cons_succ])
        refine hl_done (by kernel_rfl) ?_
        exact key _ _ hO9
      · refine st_alloc 4 #[true, true, true, false, true, false] (by kernel_rfl) rfl (some 5) (by kernel_rfl) rfl 22 (c8 0) (by kernel_rfl) hO6 (fun _ h => h) fun gw10 w10 hO10 => ?_
        try clear hO6
        (try simp only [Act.put, List.setIfInBounds_toArray, List.set_cons_zero, List.set_cons_succ])
        refine hl_one 3 (by kernel_rfl) ?_
        refine st_call 3 #[true, true, true, true, true, false] (by kernel_rfl) rfl (some 18) (by kernel_rfl) rfl (.agg (c8 (a * (pinv b) % p25))) (by kernel_rfl) (mul_any a (pinv b) ha (pinv_256 _) _) hO10 (fun _ h => h.tail) fun w11 hO11 => ?_
        try clear hO10
        (try simp only [Act.put, List.setIfInBounds_toArray, List.set_cons_zero, List.set_cons_succ])
        refine hl_one 5 (by kernel_rfl) ?_
        refine st_store 5 #[true, true, true, true, true, true] (by kernel_rfl) rfl none (by kernel_rfl) rfl (c8 (a * (pinv b) % p25)) 22 (.tmp 5) (.tmp 18) rfl rfl rfl hO11 (by simp only [size_c8]) (inum_c8 _) (one_c8 _) (fun _ h => h.tail) fun w12 hO12 => ?_
        try clear hO11
        (try simp only [Act.put, List.setIfInBounds_toArray, List.set_cons_zero, List.set_cons_succ])
        refine hl_done (by kernel_rfl) ?_
        exact key _ _ hO12
    · refine st_alloc 4 #[true, true, false, false, true, false] (by kernel_rfl) rfl (some 5) (by kernel_rfl) rfl 22 (c8 0) (by kernel_rfl) hO5 (fun _ h => h) fun gw13 w13 hO13 => ?_
      try clear hO5
      (try simp only [Act.put, List.setIfInBounds_toArray, List.set_cons_zero, List.set_cons_succ])
      refine hl_one 2 (by kernel_rfl) ?_
      refine st_call 2 #[true, true, true, false, true, false] (by kernel_rfl) rfl (some 17) (by kernel_rfl) rfl (.agg (c8 (pinv b))) (by kernel_rfl) (inv_any b hb _) hO13 (fun _ h => h.tail) fun w14 hO14 => ?_
      try clear hO13
      (try simp only [Act.put, List.setIfInBounds_toArray, List.set_cons_zero, List.set_cons_succ])
      refine hl_one 3 (by kernel_rfl) ?_
      refine st_call 3 #[true, true, true, true, true, false] (by kernel_rfl) rfl (some 18) (by kernel_rfl) rfl (.agg (c8 (a * (pinv b) % p25))) (by kernel_rfl) (mul_any a (pinv b) ha (pinv_256 _) _) hO14 (fun _ h => h.tail) fun w15 hO15 => ?_
      try clear hO14
      (try simp only [Act.put, List.setIfInBounds_toArray, List.set_cons_zero, List.set_cons_succ])
      refine hl_one 5 (by kernel_rfl) ?_
      refine st_store 5 #[true, true, true, true, true, true] (by kernel_rfl) rfl none (by kernel_rfl) rfl (c8 (a * (pinv b) % p25)) 22 (.tmp 5) (.tmp 18) rfl rfl rfl hO15 (by simp only [size_c8]) (inum_c8 _) (one_c8 _) (fun _ h => h.tail) fun w16 hO16 => ?_
      try clear hO15
      (try simp only [Act.put, List.setIfInBounds_toArray, List.set_cons_zero, List.set_cons_succ])
      refine hl_done (by kernel_rfl) ?_
      exact key _ _ hO16
  intro gw17 w17 hO17
  try clear hO5
  show Code.wp _ _ _ _ _
  refine wp_seq ?_
  refine hl_start #[false, false, false, false, false, false, false, false, false, false, false, false, false, false, false, false, false, false, false, false, false, false, false, false, false] (by kernel_rfl) (by kernel_rfl) hO17 fun w18 hO18 => ?_
  clear hO17
  refine hl_load 0 #[true, false, false, false, false, false, false, false, false, false, false, false, false, false, false, false, false, false, false, false, false, false, false, false, false] (by kernel_rfl) rfl (some 19) (by kernel_rfl) (by kernel_rfl) (by kernel_rfl) (by kernel_rfl) (c8 (a * (pinv b) % p25)) (by kernel_rfl) 22 (.tmp 5) (by kernel_rfl) gw17 (by kernel_rfl) 22 _ (.head _) Try.underlying22 rfl (inum_c8 _) hO18 ?_
  (try simp only [Act.put, List.setIfInBounds_toArray, List.set_cons_zero, List.set_cons_succ])
  refine hl_load 1 #[true, true, false, false, false, false, false, false, false, false, false, false, false, false, false, false, false, false, false, false, false, false, false, false, false] (by kernel_rfl) rfl (some 20) (by kernel_rfl) (by kernel_rfl) (by kernel_rfl) (by kernel_rfl) (c8 b) (by kernel_rfl) 22 (.tmp 3) (by kernel_rfl) w1.heap.size (by kernel_rfl) 22 _ (.tail _ (.head _)) Try.underlying22 rfl (inum_c8 _) hO18 ?_
  (try simp only [Act.put, List.setIfInBounds_toArray, List.set_cons_zero, List.set_cons_succ])
  refine hl_load 3 #[true, true, false, true, false, false, false, false, false, false, false, false, false, false, false, false, false, false, false, false, false, false, false, false, false] (by kernel_rfl) rfl (some 22) (by kernel_rfl) (by kernel_rfl) (by kernel_rfl) (by kernel_rfl) (c8 a) (by kernel_rfl) 22 (.tmp 2) (by kernel_rfl) w.heap.size (by kernel_rfl) 22 _ (.tail _ (.tail _ (.head _))) Try.underlying22 rfl (inum_c8 _) hO18 ?_
  (try simp only [Act.put, List.setIfInBounds_toArray, List.set_cons_zero, List.set_cons_succ])
  refine hl_call 2 #[true, true, true, true, false, false, false, false, false, false, false, false, false, false, false, false, false, false, false, false, false, false, false, false, false] (by kernel_rfl) rfl (some 21) (by kernel_rfl) (.agg (c8 ((a * (pinv b) % p25) * b % p25))) (by kernel_rfl) (by kernel_rfl) (by kernel_rfl) (mul_any (a * (pinv b) % p25) b (N256.mod _) hb _) hO18 fun w19 hO19 => ?_
  clear hO18
  (try simp only [Act.put, List.setIfInBounds_toArray, List.set_cons_zero, List.set_cons_succ])
  refine hl_call 4 #[true, true, true, true, true, false, false, false, false, false, false, false, false, false, false, false, false, false, false, false, false, false, false, false, false] (by kernel_rfl) rfl (some 23) (by kernel_rfl) (.agg (c8 (a % p25))) (by kernel_rfl) (by kernel_rfl) (by kernel_rfl) (reduce_any a ha _) hO19 fun w20 hO20 => ?_
  clear hO19
  (try simp only [Act.put, List.setIfInBounds_toArray, List.set_cons_zero, List.set_cons_succ])
  refine hl_eql 5 #[true, true, true, true, true, true, false, false, false, false, false, false, false, false, false, false, false, false, false, false, false, false, false, false, false] (by kernel_rfl) rfl (some 24) (by kernel_rfl) (by kernel_rfl) (by kernel_rfl) (by kernel_rfl) (x := ((a * (pinv b) % p25) * b % p25)) (y := (a % p25)) .true (N256.mod _) (N256.mod _) (decide_eq_true (quo1 k)) (by kernel_rfl) (.tmp 21) (.tmp 23) 22 (by kernel_rfl) (by kernel_rfl) (by kernel_rfl) hO20 ?_
  (try simp only [Act.put, List.setIfInBounds_toArray, List.set_cons_zero, List.set_cons_succ])
  refine hl_pure 6 #[true, true, true, true, true, true, true, false, false, false, false, false, false, false, false, false, false, false, false, false, false, false, false, false, false] (by kernel_rfl) rfl (some 25) (by kernel_rfl) (by kernel_rfl) (by kernel_rfl) (by kernel_rfl) (.bool true) (by kernel_rfl) (fun _ => by kernel_rfl) hO20 ?_
  (try simp only [Act.put, List.setIfInBounds_toArray, List.set_cons_zero, List.set_cons_succ])
  refine hl_load 7 #[true, true, true, true, true, true, true, true, false, false, false, false, false, false, false, false, false, false, false, false, false, false, false, false, false] (by kernel_rfl) rfl (some 26) (by kernel_rfl) (by kernel_rfl) (by kernel_rfl) (by kernel_rfl) (c8 (a * (pinv b) % p25)) (by kernel_rfl) 22 (.tmp 5) (by kernel_rfl) gw17 (by kernel_rfl) 22 _ (.head _) Try.underlying22 rfl (inum_c8 _) hO20 ?_
  (try simp only [Act.put, List.setIfInBounds_toArray, List.set_cons_zero, List.set_cons_succ])
  refine hl_load 9 #[true, true, true, true, true, true, true, true, false, true, false, false, false, false, false, false, false, false, false, false, false, false, false, false, false] (by kernel_rfl) rfl (some 28) (by kernel_rfl) (by kernel_rfl) (by kernel_rfl) (by kernel_rfl) (c8 a) (by kernel_rfl) 22 (.tmp 2) (by kernel_rfl) w.heap.size (by kernel_rfl) 22 _ (.tail _ (.tail _ (.head _))) Try.underlying22 rfl (inum_c8 _) hO20 ?_
  (try simp only [Act.put, List.setIfInBounds_toArray, List.set_cons_zero, List.set_cons_succ])
  refine hl_call 8 #[true, true, true, true, true, true, true, true, true, true, false, false, false, false, false, false, false, false, false, false, false, false, false, false, false] (by kernel_rfl) rfl (some 27) (by kernel_rfl) (.bool false) (by kernel_rfl) (by kernel_rfl) (by kernel_rfl) (zero_false (n := (a * (pinv b) % p25)) (N256.mod _) (prd1 h (pinv_ne k)) _) hO20 fun w21 hO21 => ?_
  clear hO20
  (try simp only [Act.put, List.setIfInBounds_toArray, List.set_cons_zero, List.set_cons_succ])
  refine hl_call 10 #[true, true, true, true, true, true, true, true, true, true, true, false, false, false, false, false, false, false, false, false, false, false, false, false, false] (by kernel_rfl) rfl (some 29) (by kernel_rfl) (.bool false) (by kernel_rfl) (by kernel_rfl) (by kernel_rfl) (zero_false (n := a) ha h _) hO21 fun w22 hO22 => ?_
  clear hO21
  (try simp only [Act.put, List.setIfInBounds_toArray, List.set_cons_zero, List.set_cons_succ])
  refine hl_pure 11 #[true, true, true, true, true, true, true, true, true, true, true, true, false, false, false, false, false, false, false, false, false, false, false, false, false] (by kernel_rfl) rfl (some 30) (by kernel_rfl) (by kernel_rfl) (by kernel_rfl) (by kernel_rfl) (.bool true) (by kernel_rfl) (fun _ => by kernel_rfl) hO22 ?_
  (try simp only [Act.put, List.setIfInBounds_toArray, List.set_cons_zero, List.set_cons_succ])
  refine hl_pure 12 #[true, true, true, true, true, true, true, true, true, true, true, true, true, false, false, false, false, false, false, false, false, false, false, false, false] (by kernel_rfl) rfl (some 31) (by kernel_rfl) (by kernel_rfl) (by kernel_rfl) (by kernel_rfl) (.bool true) (by kernel_rfl) (fun _ => by kernel_rfl) hO22 ?_
  (try simp only [Act.put, List.setIfInBounds_toArray, List.set_cons_zero, List.set_cons_succ])
  refine hl_pure 13 #[true, true, true, true, true, true, true, true, true, true, true, true, true, true, false, false, false, false, false, false, false, false, false, false, false] (by kernel_rfl) rfl (some 32) (by kernel_rfl) (by kernel_rfl) (by kernel_rfl) (by kernel_rfl) (.bool true) (by kernel_rfl) (fun _ => by kernel_rfl) hO22 ?_
  (try simp only [Act.put, List.setIfInBounds_toArray, List.set_cons_zero, List.set_cons_succ])
  refine hl_pure 14 #[true, true, true, true, true, true, true, true, true, true, true, true, true, true, true, false, false, false, false, false, false, false, false, false, false] (by kernel_rfl) rfl (some 33) (by kernel_rfl) (by kernel_rfl) (by kernel_rfl) (by kernel_rfl) (.agg (c8 0)) (by kernel_rfl) (fun _ => by kernel_rfl) hO22 ?_
  (try simp only [Act.put, List.setIfInBounds_toArray, List.set_cons_zero, List.set_cons_succ])
  refine hl_load 15 #[true, true, true, true, true, true, true, true, true, true, true, true, true, true, true, true, false, false, false, false, false, false, false, false, false] (by kernel_rfl) rfl (some 34) (by kernel_rfl) (by kernel_rfl) (by kernel_rfl) (by kernel_rfl) (c8 b) (by kernel_rfl) 22 (.tmp 3) (by kernel_rfl) w1.heap.size (by kernel_rfl) 22 _ (.tail _ (.head _)) Try.underlying22 rfl (inum_c8 _) hO22 ?_
  (try simp only [Act.put, List.setIfInBounds_toArray, List.set_cons_zero, List.set_cons_succ])
  refine hl_pure 18 #[true, true, true, true, true, true, true, true, true, true, true, true, true, true, true, true, false, false, true, false, false, false, false, false, false] (by kernel_rfl) rfl (some 37) (by kernel_rfl) (by kernel_rfl) (by kernel_rfl) (by kernel_rfl) (.agg (c8 0)) (by kernel_rfl) (fun _ => by kernel_rfl) hO22 ?_
  (try simp only [Act.put, List.setIfInBounds_toArray, List.set_cons_zero, List.set_cons_succ])
  refine hl_load 19 #[true, true, true, true, true, true, true, true, true, true, true, true, true, true, true, true, false, false, true, true, false, false, false, false, false] (by kernel_rfl) rfl (some 38) (by kernel_rfl) (by kernel_rfl) (by kernel_rfl) (by kernel_rfl) (c8 b) (by kernel_rfl) 22 (.tmp 3) (by kernel_rfl) w1.heap.size (by kernel_rfl) 22 _ (.tail _ (.head _)) Try.underlying22 rfl (inum_c8 _) hO22 ?_
  (try simp only [Act.put, List.setIfInBounds_toArray, List.set_cons_zero, List.set_cons_succ])
  refine hl_call 16 #[true, true, true, true, true, true, true, true, true, true, true, true, true, true, true, true, true, false, true, true, false, false, false, false, false] (by kernel_rfl) rfl (some 35) (by kernel_rfl) (.agg (c8 ((0 + 4 * p25 - b) % p25))) (by kernel_rfl) (by kernel_rfl) (by kernel_rfl) (sub_any 0 b (by unfold N256; omega) hb _) hO22 fun w23 hO23 => ?_
  clear hO22
  (try simp only [Act.put, List.setIfInBounds_toArray, List.set_cons_zero, List.set_cons_succ])
  refine hl_call 17 #[true, true, true, true, true, true, true, true, true, true, true, true, true, true, true, true, true, true, true, true, false, false, false, false, false] (by kernel_rfl) rfl (some 36) (by kernel_rfl) (.agg (c8 (pinv ((0 + 4 * p25 - b) % p25)))) (by kernel_rfl) (by kernel_rfl) (by kernel_rfl) (inv_any ((0 + 4 * p25 - b) % p25) (N256.mod _) _) hO23 fun w24 hO24 => ?_
  clear hO23
  (try simp only [Act.put, List.setIfInBounds_toArray, List.set_cons_zero, List.set_cons_succ])
  refine hl_call 20 #[true, true, true, true, true, true, true, true, true, true, true, true, true, true, true, true, true, true, true, true, true, false, false, false, false] (by kernel_rfl) rfl (some 39) (by kernel_rfl) (.agg (c8 (pinv b))) (by kernel_rfl) (by kernel_rfl) (by kernel_rfl) (inv_any b hb _) hO24 fun w25 hO25 => ?_
  clear hO24
  (try simp only [Act.put, List.setIfInBounds_toArray, List.set_cons_zero, List.set_cons_succ])
  refine hl_call 21 #[true, true, true, true, true, true, true, true, true, true, true, true, true, true, true, true, true, true, true, true, true, true, false, false, false] (by kernel_rfl) rfl (some 40) (by kernel_rfl) (.agg (c8 ((0 + 4 * p25 - (pinv b)) % p25))) (by kernel_rfl) (by kernel_rfl) (by kernel_rfl) (sub_any 0 (pinv b) (by unfold N256; omega) (pinv_256 _) _) hO25 fun w26 hO26 => ?_
  clear hO25
  (try simp only [Act.put, List.setIfInBounds_toArray, List.set_cons_zero, List.set_cons_succ])
  refine hl_eql 22 #[true, true, true, true, true, true, true, true, true, true, true, true, true, true, true, true, true, true, true, true, true, true, true, false, false] (by kernel_rfl) rfl (some 41) (by kernel_rfl) (by kernel_rfl) (by kernel_rfl) (by kernel_rfl) (x := (pinv ((0 + 4 * p25 - b) % p25))) (y := ((0 + 4 * p25 - (pinv b)) % p25)) .true (pinv_256 _) (N256.mod _) (decide_eq_true (pinv_neg hb.le4)) (by kernel_rfl) (.tmp 36) (.tmp 40) 22 (by kernel_rfl) (by kernel_rfl) (by kernel_rfl) hO26 ?_
  (try simp only [Act.put, List.setIfInBounds_toArray, List.set_cons_zero, List.set_cons_succ])
  refine hl_pure 23 #[true, true, true, true, true, true, true, true, true, true, true, true, true, true, true, true, true, true, true, true, true, true, true, true, false] (by kernel_rfl) rfl (some 42) (by kernel_rfl) (by kernel_rfl) (by kernel_rfl) (by kernel_rfl) (.bool true) (by kernel_rfl) (fun _ => by kernel_rfl) hO26 ?_
  (try simp only [Act.put, List.setIfInBounds_toArray, List.set_cons_zero, List.set_cons_succ])
  refine hl_pure 24 #[true, true, true, true, true, true, true, true, true, true, true, true, true, true, true, true, true, true, true, true, true, true, true, true, true] (by kernel_rfl) rfl (some 4) (by kernel_rfl) (by kernel_rfl) (by kernel_rfl) (by kernel_rfl) (.bool true) (by kernel_rfl) (fun _ => by kernel_rfl) hO26 ?_
  (try simp only [Act.put, List.setIfInBounds_toArray, List.set_cons_zero, List.set_cons_succ])
  refine hl_done (by kernel_rfl) ?_
  show Code.wp _ _ _ _ _
  refine wp_ret ?_
  (try simp only [Exit.then, Exit.inBlock])
  refine bodyPost_ret (results_tmp rfl _ _ _) rfl ?_
  exact ⟨rfl, hO26.bl⟩
theorem quotients_any {a b : Nat} (ha : N256 a) (hb : N256 b) (w : World) : Ret Try.prog 9 #[.agg (c8 a), .agg (c8 b)] w (.bool true) := by
  by_cases k : b % p25 = 0
  · exact quotients_0 ha hb k w
  · by_cases h : a % p25 = 0
    · exact quotients_1 ha hb k h w
    · exact quotients_2 ha hb k h w
end Go.Proofs.Ytkmgdpbmkbpkjaa
