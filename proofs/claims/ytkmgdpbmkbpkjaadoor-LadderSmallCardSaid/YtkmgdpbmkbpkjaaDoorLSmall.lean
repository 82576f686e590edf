/-
  LadderSmall, walked: it answers true.
-/
import Derived.Test.YtkmgdpbmkbpkjaaDoorLadL
import Derived.Test.YtkmgdpbmkbpkjaaDoorGCv
set_option linter.unusedVariables false
set_option linter.unusedSimpArgs false
namespace Go.Proofs.YtkmgdpbmkbpkjaaDoor
open Go.RowKit

theorem small0 (k : Nat) : Cv.XN k 0 = 0 := Cv.XN_small0 k
theorem small1 (k : Nat) : Cv.XN k (set0 0 1) = 0 := Cv.XN_small1 k
theorem small2 (k : Nat) : Cv.XN k ((0 + 4 * p25 - 1) % p25) = 0 := by
  rw [show (0 + 4 * p25 - 1) % p25 = p25 - 1 by decide +kernel]
  exact Cv.XN_small2 k
theorem is_false {x : Nat} (h : x = 0) : decide (x ≠ 0) = false := decide_eq_false fun h' => h' h
set_option maxRecDepth 100000 in
set_option maxHeartbeats 8000000 in
theorem small_any {k u m : Nat} (hk : N256 k) (hu : N256 u) (hm : m < 256) (w : World) {tG : TypeId} (hG : Bk w 0 tG (c8 121665)) : Ret Tryd.prog 8 #[.agg (c8 k), .agg (c8 u), .int .u8 (m : Int)] w (.bool true) := by
  have h3 : m % 3 = 0 ∨ m % 3 = 1 ∨ m % 3 = 2 := by omega
  rcases h3 with h3 | h3 | h3
  · refine calls_of_wp Tryd.func8 rfl ?_
    simp only [Tryd.ntmps8, List.size_toArray, List.length_cons, List.length_nil, Nat.reduceAdd, Nat.reduceSub, Array.replicate_succ, Array.replicate_zero, List.push_toArray, List.append_toArray, List.nil_append, List.cons_append]
    have hO := Own.nil w
    refine wp_seq ?_
    refine wl_region ?_
    refine wl_new 22 (c8 k) rfl (by kernel_rfl) hO fun w1 hO1 => ?_
    clear hO
    try simp only [p0, p1, p2, p3]
    refine wl_new 22 (c8 u) rfl (by kernel_rfl) hO1 fun w2 hO2 => ?_
    clear hO1
    try simp only [p0, p1, p2, p3]
    refine wl_pure (.bool false) rfl (by kernel_rfl) ?_
    try simp only [p0, p1, p2, p3]
    refine wl_nil ?_
    show Code.wp _ _ _ _ _
    refine wp_seq ?_
    refine wp_seq ?_
    refine wl_region ?_
    refine wl_call (.bool true) rfl (by kernel_rfl) (alive_any _ (hG.below hO2.bl hG.lt)) hO2 fun w3 hO3 => ?_
    clear hO2
    try simp only [p0, p1, p2, p3]
    refine wl_pure (.bool false) rfl (by kernel_rfl) ?_
    try simp only [p0, p1, p2, p3]
    refine wl_nil ?_
    show Code.wp _ _ _ _ _
    refine wp_cond_false rfl ?_
    refine wp_skip ?_
    show Code.wp _ _ _ _ _
    refine wp_seq ?_
    refine wl_region ?_
    refine wl_new 22 (c8 0) rfl (by kernel_rfl) hO3 fun w4 hO4 => ?_
    clear hO3
    try simp only [p0, p1, p2, p3]
    refine wl_nil ?_
    show Code.wp _ _ _ _ _
    refine wp_seq ?_
    refine wp_seq ?_
    refine wl_region ?_
    refine wl_pure (.int .u8 ((m : Nat) : Int)) rfl (by kernel_rfl) ?_
    try simp only [p0, p1, p2, p3]
    refine wl_pure (.int .u8 ((m % 3 : Nat) : Int)) rfl (u8run (run_rem m 3 hm (by decide) (by decide) _) (fun _ => rfl) rfl rfl rfl _) ?_
    try simp only [p0, p1, p2, p3]
    refine wl_nil ?_
    show Code.wp _ _ _ _ _
    refine wp_block ?_
    refine wp_seq ?_
    refine wl_region ?_
    refine wl_pure (.bool false) rfl (u8cmp (run_eql8 (m % 3) 1 false (decide_eq_false (by omega)) _) (fun _ => rfl) rfl rfl rfl _) ?_
    try simp only [p0, p1, p2, p3]
    refine wl_pure (.bool false) rfl (by kernel_rfl) ?_
    try simp only [p0, p1, p2, p3]
    refine wl_nil ?_
    show Code.wp _ _ _ _ _
    refine wp_cond_false rfl ?_
    refine wp_seq ?_
    refine wl_region ?_
    refine wl_pure (.bool false) rfl (u8cmp (run_eql8 (m % 3) 2 false (decide_eq_false (by omega)) _) (fun _ => rfl) rfl rfl rfl _) ?_
    try simp only [p0, p1, p2, p3]
    refine wl_pure (.bool false) rfl (by kernel_rfl) ?_
    try simp only [p0, p1, p2, p3]
    refine wl_nil ?_
    show Code.wp _ _ _ _ _
    refine wp_cond_false rfl ?_
    refine wp_skip ?_
    show Code.wp _ _ _ _ _
    refine wp_seq ?_
    refine wl_region ?_
    refine wl_load (c8 k) rfl 22 (.tmp 3) rfl w.heap.size rfl 22 _ (hO4.get (.tail _ (.tail _ (.head _)))) Tryd.underlying22 rfl (inum_c8 _) ?_
    try simp only [p0, p1, p2, p3]
    refine wl_load (c8 0) rfl 22 (.tmp 7) rfl w3.heap.size rfl 22 _ (hO4.get (.head _)) Tryd.underlying22 rfl (inum_c8 _) ?_
    try simp only [p0, p1, p2, p3]
    refine wl_call (.tuple #[.agg (c8 (Cv.XN k 0)), .bool false]) rfl (by kernel_rfl) (shared_any hk (by unfold N256; omega) (is_false (small0 k)) _ (hG.below hO4.bl hG.lt)) hO4 fun w5 hO5 => ?_
    clear hO4
    try simp only [p0, p1, p2, p3]
    refine wl_pure (.tuple #[.agg (c8 (Cv.XN k 0)), .bool false]) rfl (by kernel_rfl) ?_
    try simp only [p0, p1, p2, p3]
    refine wl_pure (.agg (c8 (Cv.XN k 0))) rfl (by kernel_rfl) ?_
    try simp only [p0, p1, p2, p3]
    refine wl_pure (.bool false) rfl (by kernel_rfl) ?_
    try simp only [p0, p1, p2, p3]
    refine wl_new 22 (c8 0) rfl (by kernel_rfl) hO5 fun w6 hO6 => ?_
    clear hO5
    try simp only [p0, p1, p2, p3]
    refine wl_store (L1 := []) (L2 := ((w3.heap.size, 22, (c8 0)) :: (w1.heap.size, 22, (c8 u)) :: (w.heap.size, 22, (c8 k)) :: [])) (cs := (c8 0)) (c8 (Cv.XN k 0)) rfl 22 (.tmp 8) (.tmp 27) rfl rfl rfl hO6 (by simp only [size_c8]) (inum_c8 _) (one_c8 _) fun w7 hO7 => ?_
    clear hO6
    simp only [List.nil_append, List.cons_append, List.set_cons_zero, List.set_cons_succ] at hO7
    try simp only [p0, p1, p2, p3]
    refine wl_pure (.bool false) rfl (by kernel_rfl) ?_
    try simp only [p0, p1, p2, p3]
    refine wl_nil ?_
    show Code.wp _ _ _ _ _
    refine wp_seq ?_
    refine wl_region ?_
    refine wl_load (c8 k) rfl 22 (.tmp 3) rfl w.heap.size rfl 22 _ (hO7.get (.tail _ (.tail _ (.tail _ (.head _))))) Tryd.underlying22 rfl (inum_c8 _) ?_
    try simp only [p0, p1, p2, p3]
    refine wl_load (c8 u) rfl 22 (.tmp 4) rfl w1.heap.size rfl 22 _ (hO7.get (.tail _ (.tail _ (.head _)))) Tryd.underlying22 rfl (inum_c8 _) ?_
    try simp only [p0, p1, p2, p3]
    refine wl_call (.agg (c8 (Cv.XN k u))) rfl (by kernel_rfl) (X_any hk hu _ (hG.below hO7.bl hG.lt)) hO7 fun w8 hO8 => ?_
    clear hO7
    try simp only [p0, p1, p2, p3]
    refine wl_new 22 (c8 0) rfl (by kernel_rfl) hO8 fun w9 hO9 => ?_
    clear hO8
    try simp only [p0, p1, p2, p3]
    refine wl_store (L1 := []) (L2 := ((w5.heap.size, 22, (c8 (Cv.XN k 0))) :: (w3.heap.size, 22, (c8 0)) :: (w1.heap.size, 22, (c8 u)) :: (w.heap.size, 22, (c8 k)) :: [])) (cs := (c8 0)) (c8 (Cv.XN k u)) rfl 22 (.tmp 10) (.tmp 31) rfl rfl rfl hO9 (by simp only [size_c8]) (inum_c8 _) (one_c8 _) fun w10 hO10 => ?_
    clear hO9
    simp only [List.nil_append, List.cons_append, List.set_cons_zero, List.set_cons_succ] at hO10
    try simp only [p0, p1, p2, p3]
    refine wl_nil ?_
    show Code.wp _ _ _ _ _
    refine wp_seq ?_
    refine fl_start [] #[false, false, false, false, false, false, false, false, false, false, false, false, false, false] (by kernel_rfl) (by kernel_rfl) hO10 fun w11 hO11 => ?_
    clear hO10
    refine fl_load 0 #[true, false, false, false, false, false, false, false, false, false, false, false, false, false] (by kernel_rfl) rfl (some 32) (by kernel_rfl) (by kernel_rfl) (by kernel_rfl) (by kernel_rfl) (by kernel_rfl) (c8 (Cv.XN k 0)) (by kernel_rfl) (by kernel_rfl) (by kernel_rfl) 22 (.tmp 8) (by kernel_rfl) w5.heap.size (by kernel_rfl) 22 _ (fun _ h => h.get (.tail _ (.head _))) Tryd.underlying22 rfl (inum_c8 _) hO11 ?_
    try simp only [p0, p1, p2, p3]
    refine fl_pure 1 #[true, true, false, false, false, false, false, false, false, false, false, false, false, false] (by kernel_rfl) rfl (some 33) (by kernel_rfl) (by kernel_rfl) (by kernel_rfl) (by kernel_rfl) (by kernel_rfl) (.agg (c8 0)) (by kernel_rfl) (fun _ => by kernel_rfl) (fun _ => hO11) ?_
    try simp only [p0, p1, p2, p3]
    refine fl_eql 2 #[true, true, true, false, false, false, false, false, false, false, false, false, false, false] (by kernel_rfl) rfl (some 34) (by kernel_rfl) (by kernel_rfl) (by kernel_rfl) (by kernel_rfl) (by kernel_rfl) (x := (Cv.XN k 0)) (y := 0) true (XN_256 _ _) (by unfold N256; omega) (decide_eq_true (small0 k)) (by kernel_rfl) (.tmp 32) (.tmp 33) 22 (by kernel_rfl) (by kernel_rfl) (by kernel_rfl) (fun _ => hO11) ?_
    try simp only [p0, p1, p2, p3]
    refine fl_pure 3 #[true, true, true, true, false, false, false, false, false, false, false, false, false, false] (by kernel_rfl) rfl (some 35) (by kernel_rfl) (by kernel_rfl) (by kernel_rfl) (by kernel_rfl) (by kernel_rfl) (.bool true) (by kernel_rfl) (fun _ => by kernel_rfl) (fun _ => hO11) ?_
    try simp only [p0, p1, p2, p3]
    refine fl_pure 4 #[true, true, true, true, true, false, false, false, false, false, false, false, false, false] (by kernel_rfl) rfl (some 36) (by kernel_rfl) (by kernel_rfl) (by kernel_rfl) (by kernel_rfl) (by kernel_rfl) (.bool false) (by kernel_rfl) (fun _ => by kernel_rfl) (fun _ => hO11) ?_
    try simp only [p0, p1, p2, p3]
    refine fl_pure 5 #[true, true, true, true, true, true, false, false, false, false, false, false, false, false] (by kernel_rfl) rfl (some 37) (by kernel_rfl) (by kernel_rfl) (by kernel_rfl) (by kernel_rfl) (by kernel_rfl) (.bool true) (by kernel_rfl) (fun _ => by kernel_rfl) (fun _ => hO11) ?_
    try simp only [p0, p1, p2, p3]
    refine fl_pure 6 #[true, true, true, true, true, true, true, false, false, false, false, false, false, false] (by kernel_rfl) rfl (some 38) (by kernel_rfl) (by kernel_rfl) (by kernel_rfl) (by kernel_rfl) (by kernel_rfl) (.bool true) (by kernel_rfl) (fun _ => by kernel_rfl) (fun _ => hO11) ?_
    try simp only [p0, p1, p2, p3]
    refine fl_pure 7 #[true, true, true, true, true, true, true, true, false, false, false, false, false, false] (by kernel_rfl) rfl (some 39) (by kernel_rfl) (by kernel_rfl) (by kernel_rfl) (by kernel_rfl) (by kernel_rfl) (.bool true) (by kernel_rfl) (fun _ => by kernel_rfl) (fun _ => hO11) ?_
    try simp only [p0, p1, p2, p3]
    refine fl_load 8 #[true, true, true, true, true, true, true, true, true, false, false, false, false, false] (by kernel_rfl) rfl (some 40) (by kernel_rfl) (by kernel_rfl) (by kernel_rfl) (by kernel_rfl) (by kernel_rfl) (c8 (Cv.XN k u)) (by kernel_rfl) (by kernel_rfl) (by kernel_rfl) 22 (.tmp 10) (by kernel_rfl) w8.heap.size (by kernel_rfl) 22 _ (fun _ h => h.get (.head _)) Tryd.underlying22 rfl (inum_c8 _) hO11 ?_
    try simp only [p0, p1, p2, p3]
    refine fl_load 10 #[true, true, true, true, true, true, true, true, true, false, true, false, false, false] (by kernel_rfl) rfl (some 42) (by kernel_rfl) (by kernel_rfl) (by kernel_rfl) (by kernel_rfl) (by kernel_rfl) (c8 (Cv.XN k u)) (by kernel_rfl) (by kernel_rfl) (by kernel_rfl) 22 (.tmp 10) (by kernel_rfl) w8.heap.size (by kernel_rfl) 22 _ (fun _ h => h.get (.head _)) Tryd.underlying22 rfl (inum_c8 _) hO11 ?_
    try simp only [p0, p1, p2, p3]
    refine fl_callg 9 #[true, true, true, true, true, true, true, true, true, true, true, false, false, false] (by kernel_rfl) rfl (some 41) (by kernel_rfl) (by kernel_rfl) (by kernel_rfl) (.agg (c8 ((Cv.XN k u) % p25))) (by kernel_rfl) (reduce_any (Cv.XN k u) (XN_256 _ _) _) hO11 (fun _ h => h) fun w12 hO12 => ?_
    try clear hO11
    try simp only [p0, p1, p2, p3]
    refine fl_eql 11 #[true, true, true, true, true, true, true, true, true, true, true, true, false, false] (by kernel_rfl) rfl (some 43) (by kernel_rfl) (by kernel_rfl) (by kernel_rfl) (by kernel_rfl) (by kernel_rfl) (x := ((Cv.XN k u) % p25)) (y := (Cv.XN k u)) true (N256.mod _) (XN_256 _ _) (decide_eq_true (Nat.mod_eq_of_lt (Cv.XN_lt k u))) (by kernel_rfl) (.tmp 41) (.tmp 42) 22 (by kernel_rfl) (by kernel_rfl) (by kernel_rfl) (fun _ => hO12) ?_
    try simp only [p0, p1, p2, p3]
    refine fl_pure 12 #[true, true, true, true, true, true, true, true, true, true, true, true, true, false] (by kernel_rfl) rfl (some 44) (by kernel_rfl) (by kernel_rfl) (by kernel_rfl) (by kernel_rfl) (by kernel_rfl) (.bool true) (by kernel_rfl) (fun _ => by kernel_rfl) (fun _ => hO12) ?_
    try simp only [p0, p1, p2, p3]
    refine fl_pure 13 #[true, true, true, true, true, true, true, true, true, true, true, true, true, true] (by kernel_rfl) rfl (some 6) (by kernel_rfl) (by kernel_rfl) (by kernel_rfl) (by kernel_rfl) (by kernel_rfl) (.bool true) (by kernel_rfl) (fun _ => by kernel_rfl) (fun _ => hO12) ?_
    try simp only [p0, p1, p2, p3]
    refine fl_done (by kernel_rfl) ?_
    show Code.wp _ _ _ _ _
    refine wp_ret ?_
    (try simp only [Exit.then, Exit.inBlock])
    refine bodyPost_ret (results_tmp rfl _ _ _) rfl ?_
    exact ⟨rfl, hO12.bl⟩
  · refine calls_of_wp Tryd.func8 rfl ?_
    simp only [Tryd.ntmps8, List.size_toArray, List.length_cons, List.length_nil, Nat.reduceAdd, Nat.reduceSub, Array.replicate_succ, Array.replicate_zero, List.push_toArray, List.append_toArray, List.nil_append, List.cons_append]
    have hO := Own.nil w
    refine wp_seq ?_
    refine wl_region ?_
    refine wl_new 22 (c8 k) rfl (by kernel_rfl) hO fun w1 hO1 => ?_
    clear hO
    try simp only [p0, p1, p2, p3]
    refine wl_new 22 (c8 u) rfl (by kernel_rfl) hO1 fun w2 hO2 => ?_
    clear hO1
    try simp only [p0, p1, p2, p3]
    refine wl_pure (.bool false) rfl (by kernel_rfl) ?_
    try simp only [p0, p1, p2, p3]
    refine wl_nil ?_
    show Code.wp _ _ _ _ _
    refine wp_seq ?_
    refine wp_seq ?_
    refine wl_region ?_
    refine wl_call (.bool true) rfl (by kernel_rfl) (alive_any _ (hG.below hO2.bl hG.lt)) hO2 fun w3 hO3 => ?_
    clear hO2
    try simp only [p0, p1, p2, p3]
    refine wl_pure (.bool false) rfl (by kernel_rfl) ?_
    try simp only [p0, p1, p2, p3]
    refine wl_nil ?_
    show Code.wp _ _ _ _ _
    refine wp_cond_false rfl ?_
    refine wp_skip ?_
    show Code.wp _ _ _ _ _
    refine wp_seq ?_
    refine wl_region ?_
    refine wl_new 22 (c8 0) rfl (by kernel_rfl) hO3 fun w4 hO4 => ?_
    clear hO3
    try simp only [p0, p1, p2, p3]
    refine wl_nil ?_
    show Code.wp _ _ _ _ _
    refine wp_seq ?_
    refine wp_seq ?_
    refine wl_region ?_
    refine wl_pure (.int .u8 ((m : Nat) : Int)) rfl (by kernel_rfl) ?_
    try simp only [p0, p1, p2, p3]
    refine wl_pure (.int .u8 ((m % 3 : Nat) : Int)) rfl (u8run (run_rem m 3 hm (by decide) (by decide) _) (fun _ => rfl) rfl rfl rfl _) ?_
    try simp only [p0, p1, p2, p3]
    refine wl_nil ?_
    show Code.wp _ _ _ _ _
    refine wp_block ?_
    refine wp_seq ?_
    refine wl_region ?_
    refine wl_pure (.bool true) rfl (u8cmp (run_eql8 (m % 3) 1 true (decide_eq_true h3) _) (fun _ => rfl) rfl rfl rfl _) ?_
    try simp only [p0, p1, p2, p3]
    refine wl_pure (.bool true) rfl (by kernel_rfl) ?_
    try simp only [p0, p1, p2, p3]
    refine wl_nil ?_
    show Code.wp _ _ _ _ _
    refine wp_cond_true rfl ?_
    refine wl_region ?_
    refine wl_pure (.pointer (some ⟨w3.heap.size, 0, none⟩)) rfl (by kernel_rfl) ?_
    try simp only [p0, p1, p2, p3]
    refine wl_setb (L1 := []) (L2 := ((w1.heap.size, 22, (c8 u)) :: (w.heap.size, 22, (c8 k)) :: [])) (n := 0) (m := set0 0 1) (b := 1) 0 (by decide) (c8_set0 _ _ (by decide)) rfl 5 (.tmp 17) (.const (.int .u8 1)) rfl rfl rfl hO4 one_u8 fun w5 hO5 => ?_
    clear hO4
    simp only [List.nil_append, List.cons_append, List.set_cons_zero, List.set_cons_succ] at hO5
    try simp only [p0, p1, p2, p3]
    refine wl_nil ?_
    show Code.wp _ _ _ _ _
    refine wp_seq ?_
    refine wl_region ?_
    refine wl_load (c8 k) rfl 22 (.tmp 3) rfl w.heap.size rfl 22 _ (hO5.get (.tail _ (.tail _ (.head _)))) Tryd.underlying22 rfl (inum_c8 _) ?_
    try simp only [p0, p1, p2, p3]
    refine wl_load (c8 (set0 0 1)) rfl 22 (.tmp 7) rfl w3.heap.size rfl 22 _ (hO5.get (.head _)) Tryd.underlying22 rfl (inum_c8 _) ?_
    try simp only [p0, p1, p2, p3]
    refine wl_call (.tuple #[.agg (c8 (Cv.XN k (set0 0 1))), .bool false]) rfl (by kernel_rfl) (shared_any hk (by unfold N256 set0; omega) (is_false (small1 k)) _ (hG.below hO5.bl hG.lt)) hO5 fun w6 hO6 => ?_
    clear hO5
    try simp only [p0, p1, p2, p3]
    refine wl_pure (.tuple #[.agg (c8 (Cv.XN k (set0 0 1))), .bool false]) rfl (by kernel_rfl) ?_
    try simp only [p0, p1, p2, p3]
    refine wl_pure (.agg (c8 (Cv.XN k (set0 0 1)))) rfl (by kernel_rfl) ?_
    try simp only [p0, p1, p2, p3]
    refine wl_pure (.bool false) rfl (by kernel_rfl) ?_
    try simp only [p0, p1, p2, p3]
    refine wl_new 22 (c8 0) rfl (by kernel_rfl) hO6 fun w7 hO7 => ?_
    clear hO6
    try simp only [p0, p1, p2, p3]
    refine wl_store (L1 := []) (L2 := ((w3.heap.size, 22, (c8 (set0 0 1))) :: (w1.heap.size, 22, (c8 u)) :: (w.heap.size, 22, (c8 k)) :: [])) (cs := (c8 0)) (c8 (Cv.XN k (set0 0 1))) rfl 22 (.tmp 8) (.tmp 27) rfl rfl rfl hO7 (by simp only [size_c8]) (inum_c8 _) (one_c8 _) fun w8 hO8 => ?_
    clear hO7
    simp only [List.nil_append, List.cons_append, List.set_cons_zero, List.set_cons_succ] at hO8
    try simp only [p0, p1, p2, p3]
    refine wl_pure (.bool false) rfl (by kernel_rfl) ?_
    try simp only [p0, p1, p2, p3]
    refine wl_nil ?_
    show Code.wp _ _ _ _ _
    refine wp_seq ?_
    refine wl_region ?_
    refine wl_load (c8 k) rfl 22 (.tmp 3) rfl w.heap.size rfl 22 _ (hO8.get (.tail _ (.tail _ (.tail _ (.head _))))) Tryd.underlying22 rfl (inum_c8 _) ?_
    try simp only [p0, p1, p2, p3]
    refine wl_load (c8 u) rfl 22 (.tmp 4) rfl w1.heap.size rfl 22 _ (hO8.get (.tail _ (.tail _ (.head _)))) Tryd.underlying22 rfl (inum_c8 _) ?_
    try simp only [p0, p1, p2, p3]
    refine wl_call (.agg (c8 (Cv.XN k u))) rfl (by kernel_rfl) (X_any hk hu _ (hG.below hO8.bl hG.lt)) hO8 fun w9 hO9 => ?_
    clear hO8
    try simp only [p0, p1, p2, p3]
    refine wl_new 22 (c8 0) rfl (by kernel_rfl) hO9 fun w10 hO10 => ?_
    clear hO9
    try simp only [p0, p1, p2, p3]
    refine wl_store (L1 := []) (L2 := ((w6.heap.size, 22, (c8 (Cv.XN k (set0 0 1)))) :: (w3.heap.size, 22, (c8 (set0 0 1))) :: (w1.heap.size, 22, (c8 u)) :: (w.heap.size, 22, (c8 k)) :: [])) (cs := (c8 0)) (c8 (Cv.XN k u)) rfl 22 (.tmp 10) (.tmp 31) rfl rfl rfl hO10 (by simp only [size_c8]) (inum_c8 _) (one_c8 _) fun w11 hO11 => ?_
    clear hO10
    simp only [List.nil_append, List.cons_append, List.set_cons_zero, List.set_cons_succ] at hO11
    try simp only [p0, p1, p2, p3]
    refine wl_nil ?_
    show Code.wp _ _ _ _ _
    refine wp_seq ?_
    refine fl_start [] #[false, false, false, false, false, false, false, false, false, false, false, false, false, false] (by kernel_rfl) (by kernel_rfl) hO11 fun w12 hO12 => ?_
    clear hO11
    refine fl_load 0 #[true, false, false, false, false, false, false, false, false, false, false, false, false, false] (by kernel_rfl) rfl (some 32) (by kernel_rfl) (by kernel_rfl) (by kernel_rfl) (by kernel_rfl) (by kernel_rfl) (c8 (Cv.XN k (set0 0 1))) (by kernel_rfl) (by kernel_rfl) (by kernel_rfl) 22 (.tmp 8) (by kernel_rfl) w6.heap.size (by kernel_rfl) 22 _ (fun _ h => h.get (.tail _ (.head _))) Tryd.underlying22 rfl (inum_c8 _) hO12 ?_
    try simp only [p0, p1, p2, p3]
    refine fl_pure 1 #[true, true, false, false, false, false, false, false, false, false, false, false, false, false] (by kernel_rfl) rfl (some 33) (by kernel_rfl) (by kernel_rfl) (by kernel_rfl) (by kernel_rfl) (by kernel_rfl) (.agg (c8 0)) (by kernel_rfl) (fun _ => by kernel_rfl) (fun _ => hO12) ?_
    try simp only [p0, p1, p2, p3]
    refine fl_eql 2 #[true, true, true, false, false, false, false, false, false, false, false, false, false, false] (by kernel_rfl) rfl (some 34) (by kernel_rfl) (by kernel_rfl) (by kernel_rfl) (by kernel_rfl) (by kernel_rfl) (x := (Cv.XN k (set0 0 1))) (y := 0) true (XN_256 _ _) (by unfold N256; omega) (decide_eq_true (small1 k)) (by kernel_rfl) (.tmp 32) (.tmp 33) 22 (by kernel_rfl) (by kernel_rfl) (by kernel_rfl) (fun _ => hO12) ?_
    try simp only [p0, p1, p2, p3]
    refine fl_pure 3 #[true, true, true, true, false, false, false, false, false, false, false, false, false, false] (by kernel_rfl) rfl (some 35) (by kernel_rfl) (by kernel_rfl) (by kernel_rfl) (by kernel_rfl) (by kernel_rfl) (.bool true) (by kernel_rfl) (fun _ => by kernel_rfl) (fun _ => hO12) ?_
    try simp only [p0, p1, p2, p3]
    refine fl_pure 4 #[true, true, true, true, true, false, false, false, false, false, false, false, false, false] (by kernel_rfl) rfl (some 36) (by kernel_rfl) (by kernel_rfl) (by kernel_rfl) (by kernel_rfl) (by kernel_rfl) (.bool false) (by kernel_rfl) (fun _ => by kernel_rfl) (fun _ => hO12) ?_
    try simp only [p0, p1, p2, p3]
    refine fl_pure 5 #[true, true, true, true, true, true, false, false, false, false, false, false, false, false] (by kernel_rfl) rfl (some 37) (by kernel_rfl) (by kernel_rfl) (by kernel_rfl) (by kernel_rfl) (by kernel_rfl) (.bool true) (by kernel_rfl) (fun _ => by kernel_rfl) (fun _ => hO12) ?_
    try simp only [p0, p1, p2, p3]
    refine fl_pure 6 #[true, true, true, true, true, true, true, false, false, false, false, false, false, false] (by kernel_rfl) rfl (some 38) (by kernel_rfl) (by kernel_rfl) (by kernel_rfl) (by kernel_rfl) (by kernel_rfl) (.bool true) (by kernel_rfl) (fun _ => by kernel_rfl) (fun _ => hO12) ?_
    try simp only [p0, p1, p2, p3]
    refine fl_pure 7 #[true, true, true, true, true, true, true, true, false, false, false, false, false, false] (by kernel_rfl) rfl (some 39) (by kernel_rfl) (by kernel_rfl) (by kernel_rfl) (by kernel_rfl) (by kernel_rfl) (.bool true) (by kernel_rfl) (fun _ => by kernel_rfl) (fun _ => hO12) ?_
    try simp only [p0, p1, p2, p3]
    refine fl_load 8 #[true, true, true, true, true, true, true, true, true, false, false, false, false, false] (by kernel_rfl) rfl (some 40) (by kernel_rfl) (by kernel_rfl) (by kernel_rfl) (by kernel_rfl) (by kernel_rfl) (c8 (Cv.XN k u)) (by kernel_rfl) (by kernel_rfl) (by kernel_rfl) 22 (.tmp 10) (by kernel_rfl) w9.heap.size (by kernel_rfl) 22 _ (fun _ h => h.get (.head _)) Tryd.underlying22 rfl (inum_c8 _) hO12 ?_
    try simp only [p0, p1, p2, p3]
    refine fl_load 10 #[true, true, true, true, true, true, true, true, true, false, true, false, false, false] (by kernel_rfl) rfl (some 42) (by kernel_rfl) (by kernel_rfl) (by kernel_rfl) (by kernel_rfl) (by kernel_rfl) (c8 (Cv.XN k u)) (by kernel_rfl) (by kernel_rfl) (by kernel_rfl) 22 (.tmp 10) (by kernel_rfl) w9.heap.size (by kernel_rfl) 22 _ (fun _ h => h.get (.head _)) Tryd.underlying22 rfl (inum_c8 _) hO12 ?_
    try simp only [p0, p1, p2, p3]
    refine fl_callg 9 #[true, true, true, true, true, true, true, true, true, true, true, false, false, false] (by kernel_rfl) rfl (some 41) (by kernel_rfl) (by kernel_rfl) (by kernel_rfl) (.agg (c8 ((Cv.XN k u) % p25))) (by kernel_rfl) (reduce_any (Cv.XN k u) (XN_256 _ _) _) hO12 (fun _ h => h) fun w13 hO13 => ?_
    try clear hO12
    try simp only [p0, p1, p2, p3]
    refine fl_eql 11 #[true, true, true, true, true, true, true, true, true, true, true, true, false, false] (by kernel_rfl) rfl (some 43) (by kernel_rfl) (by kernel_rfl) (by kernel_rfl) (by kernel_rfl) (by kernel_rfl) (x := ((Cv.XN k u) % p25)) (y := (Cv.XN k u)) true (N256.mod _) (XN_256 _ _) (decide_eq_true (Nat.mod_eq_of_lt (Cv.XN_lt k u))) (by kernel_rfl) (.tmp 41) (.tmp 42) 22 (by kernel_rfl) (by kernel_rfl) (by kernel_rfl) (fun _ => hO13) ?_
    try simp only [p0, p1, p2, p3]
    refine fl_pure 12 #[true, true, true, true, true, true, true, true, true, true, true, true, true, false] (by kernel_rfl) rfl (some 44) (by kernel_rfl) (by kernel_rfl) (by kernel_rfl) (by kernel_rfl) (by kernel_rfl) (.bool true) (by kernel_rfl) (fun _ => by kernel_rfl) (fun _ => hO13) ?_
    try simp only [p0, p1, p2, p3]
    refine fl_pure 13 #[true, true, true, true, true, true, true, true, true, true, true, true, true, true] (by kernel_rfl) rfl (some 6) (by kernel_rfl) (by kernel_rfl) (by kernel_rfl) (by kernel_rfl) (by kernel_rfl) (.bool true) (by kernel_rfl) (fun _ => by kernel_rfl) (fun _ => hO13) ?_
    try simp only [p0, p1, p2, p3]
    refine fl_done (by kernel_rfl) ?_
    show Code.wp _ _ _ _ _
    refine wp_ret ?_
    (try simp only [Exit.then, Exit.inBlock])
    refine bodyPost_ret (results_tmp rfl _ _ _) rfl ?_
    exact ⟨rfl, hO13.bl⟩
  · refine calls_of_wp Tryd.func8 rfl ?_
    simp only [Tryd.ntmps8, List.size_toArray, List.length_cons, List.length_nil, Nat.reduceAdd, Nat.reduceSub, Array.replicate_succ, Array.replicate_zero, List.push_toArray, List.append_toArray, List.nil_append, List.cons_append]
    have hO := Own.nil w
    refine wp_seq ?_
    refine wl_region ?_
    refine wl_new 22 (c8 k) rfl (by kernel_rfl) hO fun w1 hO1 => ?_
    clear hO
    try simp only [p0, p1, p2, p3]
    refine wl_new 22 (c8 u) rfl (by kernel_rfl) hO1 fun w2 hO2 => ?_
    clear hO1
    try simp only [p0, p1, p2, p3]
    refine wl_pure (.bool false) rfl (by kernel_rfl) ?_
    try simp only [p0, p1, p2, p3]
    refine wl_nil ?_
    show Code.wp _ _ _ _ _
    refine wp_seq ?_
    refine wp_seq ?_
    refine wl_region ?_
    refine wl_call (.bool true) rfl (by kernel_rfl) (alive_any _ (hG.below hO2.bl hG.lt)) hO2 fun w3 hO3 => ?_
    clear hO2
    try simp only [p0, p1, p2, p3]
    refine wl_pure (.bool false) rfl (by kernel_rfl) ?_
    try simp only [p0, p1, p2, p3]
    refine wl_nil ?_
    show Code.wp _ _ _ _ _
    refine wp_cond_false rfl ?_
    refine wp_skip ?_
    show Code.wp _ _ _ _ _
    refine wp_seq ?_
    refine wl_region ?_
    refine wl_new 22 (c8 0) rfl (by kernel_rfl) hO3 fun w4 hO4 => ?_
    clear hO3
    try simp only [p0, p1, p2, p3]
    refine wl_nil ?_
    show Code.wp _ _ _ _ _
    refine wp_seq ?_
    refine wp_seq ?_
    refine wl_region ?_
    refine wl_pure (.int .u8 ((m : Nat) : Int)) rfl (by kernel_rfl) ?_
    try simp only [p0, p1, p2, p3]
    refine wl_pure (.int .u8 ((m % 3 : Nat) : Int)) rfl (u8run (run_rem m 3 hm (by decide) (by decide) _) (fun _ => rfl) rfl rfl rfl _) ?_
    try simp only [p0, p1, p2, p3]
    refine wl_nil ?_
    show Code.wp _ _ _ _ _
    refine wp_block ?_
    refine wp_seq ?_
    refine wl_region ?_
    refine wl_pure (.bool false) rfl (u8cmp (run_eql8 (m % 3) 1 false (decide_eq_false (by omega)) _) (fun _ => rfl) rfl rfl rfl _) ?_
    try simp only [p0, p1, p2, p3]
    refine wl_pure (.bool false) rfl (by kernel_rfl) ?_
    try simp only [p0, p1, p2, p3]
    refine wl_nil ?_
    show Code.wp _ _ _ _ _
    refine wp_cond_false rfl ?_
    refine wp_seq ?_
    refine wl_region ?_
    refine wl_pure (.bool true) rfl (u8cmp (run_eql8 (m % 3) 2 true (decide_eq_true h3) _) (fun _ => rfl) rfl rfl rfl _) ?_
    try simp only [p0, p1, p2, p3]
    refine wl_pure (.bool true) rfl (by kernel_rfl) ?_
    try simp only [p0, p1, p2, p3]
    refine wl_nil ?_
    show Code.wp _ _ _ _ _
    refine wp_cond_true rfl ?_
    refine wl_region ?_
    refine wl_pure (.agg (c8 0)) rfl (by kernel_rfl) ?_
    try simp only [p0, p1, p2, p3]
    refine wl_pure (.agg (c8 1)) rfl (by kernel_rfl) ?_
    try simp only [p0, p1, p2, p3]
    refine wl_call (.agg (c8 ((0 + 4 * p25 - 1) % p25))) rfl (by kernel_rfl) (sub_any 0 1 (by unfold N256; omega) (by unfold N256; omega) _) hO4 fun w5 hO5 => ?_
    clear hO4
    try simp only [p0, p1, p2, p3]
    refine wl_store (L1 := []) (L2 := ((w1.heap.size, 22, (c8 u)) :: (w.heap.size, 22, (c8 k)) :: [])) (cs := (c8 0)) (c8 ((0 + 4 * p25 - 1) % p25)) rfl 22 (.tmp 7) (.tmp 22) rfl rfl rfl hO5 (by simp only [size_c8]) (inum_c8 _) (one_c8 _) fun w6 hO6 => ?_
    clear hO5
    simp only [List.nil_append, List.cons_append, List.set_cons_zero, List.set_cons_succ] at hO6
    try simp only [p0, p1, p2, p3]
    refine wl_nil ?_
    show Code.wp _ _ _ _ _
    refine wp_seq ?_
    refine wl_region ?_
    refine wl_load (c8 k) rfl 22 (.tmp 3) rfl w.heap.size rfl 22 _ (hO6.get (.tail _ (.tail _ (.head _)))) Tryd.underlying22 rfl (inum_c8 _) ?_
    try simp only [p0, p1, p2, p3]
    refine wl_load (c8 ((0 + 4 * p25 - 1) % p25)) rfl 22 (.tmp 7) rfl w3.heap.size rfl 22 _ (hO6.get (.head _)) Tryd.underlying22 rfl (inum_c8 _) ?_
    try simp only [p0, p1, p2, p3]
    refine wl_call (.tuple #[.agg (c8 (Cv.XN k ((0 + 4 * p25 - 1) % p25))), .bool false]) rfl (by kernel_rfl) (shared_any hk (N256.mod _) (is_false (small2 k)) _ (hG.below hO6.bl hG.lt)) hO6 fun w7 hO7 => ?_
    clear hO6
    try simp only [p0, p1, p2, p3]
    refine wl_pure (.tuple #[.agg (c8 (Cv.XN k ((0 + 4 * p25 - 1) % p25))), .bool false]) rfl (by kernel_rfl) ?_
    try simp only [p0, p1, p2, p3]
    refine wl_pure (.agg (c8 (Cv.XN k ((0 + 4 * p25 - 1) % p25)))) rfl (by kernel_rfl) ?_
    try simp only [p0, p1, p2, p3]
    refine wl_pure (.bool false) rfl (by kernel_rfl) ?_
    try simp only [p0, p1, p2, p3]
    refine wl_new 22 (c8 0) rfl (by kernel_rfl) hO7 fun w8 hO8 => ?_
    clear hO7
    try simp only [p0, p1, p2, p3]
    refine wl_store (L1 := []) (L2 := ((w3.heap.size, 22, (c8 ((0 + 4 * p25 - 1) % p25))) :: (w1.heap.size, 22, (c8 u)) :: (w.heap.size, 22, (c8 k)) :: [])) (cs := (c8 0)) (c8 (Cv.XN k ((0 + 4 * p25 - 1) % p25))) rfl 22 (.tmp 8) (.tmp 27) rfl rfl rfl hO8 (by simp only [size_c8]) (inum_c8 _) (one_c8 _) fun w9 hO9 => ?_
    clear hO8
    simp only [List.nil_append, List.cons_append, List.set_cons_zero, List.set_cons_succ] at hO9
    try simp only [p0, p1, p2, p3]
    refine wl_pure (.bool false) rfl (by kernel_rfl) ?_
    try simp only [p0, p1, p2, p3]
    refine wl_nil ?_
    show Code.wp _ _ _ _ _
    refine wp_seq ?_
    refine wl_region ?_
    refine wl_load (c8 k) rfl 22 (.tmp 3) rfl w.heap.size rfl 22 _ (hO9.get (.tail _ (.tail _ (.tail _ (.head _))))) Tryd.underlying22 rfl (inum_c8 _) ?_
    try simp only [p0, p1, p2, p3]
    refine wl_load (c8 u) rfl 22 (.tmp 4) rfl w1.heap.size rfl 22 _ (hO9.get (.tail _ (.tail _ (.head _)))) Tryd.underlying22 rfl (inum_c8 _) ?_
    try simp only [p0, p1, p2, p3]
    refine wl_call (.agg (c8 (Cv.XN k u))) rfl (by kernel_rfl) (X_any hk hu _ (hG.below hO9.bl hG.lt)) hO9 fun w10 hO10 => ?_
    clear hO9
    try simp only [p0, p1, p2, p3]
    refine wl_new 22 (c8 0) rfl (by kernel_rfl) hO10 fun w11 hO11 => ?_
    clear hO10
    try simp only [p0, p1, p2, p3]
    refine wl_store (L1 := []) (L2 := ((w7.heap.size, 22, (c8 (Cv.XN k ((0 + 4 * p25 - 1) % p25)))) :: (w3.heap.size, 22, (c8 ((0 + 4 * p25 - 1) % p25))) :: (w1.heap.size, 22, (c8 u)) :: (w.heap.size, 22, (c8 k)) :: [])) (cs := (c8 0)) (c8 (Cv.XN k u)) rfl 22 (.tmp 10) (.tmp 31) rfl rfl rfl hO11 (by simp only [size_c8]) (inum_c8 _) (one_c8 _) fun w12 hO12 => ?_
    clear hO11
    simp only [List.nil_append, List.cons_append, List.set_cons_zero, List.set_cons_succ] at hO12
    try simp only [p0, p1, p2, p3]
    refine wl_nil ?_
    show Code.wp _ _ _ _ _
    refine wp_seq ?_
    refine fl_start [] #[false, false, false, false, false, false, false, false, false, false, false, false, false, false] (by kernel_rfl) (by kernel_rfl) hO12 fun w13 hO13 => ?_
    clear hO12
    refine fl_load 0 #[true, false, false, false, false, false, false, false, false, false, false, false, false, false] (by kernel_rfl) rfl (some 32) (by kernel_rfl) (by kernel_rfl) (by kernel_rfl) (by kernel_rfl) (by kernel_rfl) (c8 (Cv.XN k ((0 + 4 * p25 - 1) % p25))) (by kernel_rfl) (by kernel_rfl) (by kernel_rfl) 22 (.tmp 8) (by kernel_rfl) w7.heap.size (by kernel_rfl) 22 _ (fun _ h => h.get (.tail _ (.head _))) Tryd.underlying22 rfl (inum_c8 _) hO13 ?_
    try simp only [p0, p1, p2, p3]
    refine fl_pure 1 #[true, true, false, false, false, false, false, false, false, false, false, false, false, false] (by kernel_rfl) rfl (some 33) (by kernel_rfl) (by kernel_rfl) (by kernel_rfl) (by kernel_rfl) (by kernel_rfl) (.agg (c8 0)) (by kernel_rfl) (fun _ => by kernel_rfl) (fun _ => hO13) ?_
    try simp only [p0, p1, p2, p3]
    refine fl_eql 2 #[true, true, true, false, false, false, false, false, false, false, false, false, false, false] (by kernel_rfl) rfl (some 34) (by kernel_rfl) (by kernel_rfl) (by kernel_rfl) (by kernel_rfl) (by kernel_rfl) (x := (Cv.XN k ((0 + 4 * p25 - 1) % p25))) (y := 0) true (XN_256 _ _) (by unfold N256; omega) (decide_eq_true (small2 k)) (by kernel_rfl) (.tmp 32) (.tmp 33) 22 (by kernel_rfl) (by kernel_rfl) (by kernel_rfl) (fun _ => hO13) ?_
    try simp only [p0, p1, p2, p3]
    refine fl_pure 3 #[true, true, true, true, false, false, false, false, false, false, false, false, false, false] (by kernel_rfl) rfl (some 35) (by kernel_rfl) (by kernel_rfl) (by kernel_rfl) (by kernel_rfl) (by kernel_rfl) (.bool true) (by kernel_rfl) (fun _ => by kernel_rfl) (fun _ => hO13) ?_
    try simp only [p0, p1, p2, p3]
    refine fl_pure 4 #[true, true, true, true, true, false, false, false, false, false, false, false, false, false] (by kernel_rfl) rfl (some 36) (by kernel_rfl) (by kernel_rfl) (by kernel_rfl) (by kernel_rfl) (by kernel_rfl) (.bool false) (by kernel_rfl) (fun _ => by kernel_rfl) (fun _ => hO13) ?_
    try simp only [p0, p1, p2, p3]
    refine fl_pure 5 #[true, true, true, true, true, true, false, false, false, false, false, false, false, false] (by kernel_rfl) rfl (some 37) (by kernel_rfl) (by kernel_rfl) (by kernel_rfl) (by kernel_rfl) (by kernel_rfl) (.bool true) (by kernel_rfl) (fun _ => by kernel_rfl) (fun _ => hO13) ?_
    try simp only [p0, p1, p2, p3]
    refine fl_pure 6 #[true, true, true, true, true, true, true, false, false, false, false, false, false, false] (by kernel_rfl) rfl (some 38) (by kernel_rfl) (by kernel_rfl) (by kernel_rfl) (by kernel_rfl) (by kernel_rfl) (.bool true) (by kernel_rfl) (fun _ => by kernel_rfl) (fun _ => hO13) ?_
    try simp only [p0, p1, p2, p3]
    refine fl_pure 7 #[true, true, true, true, true, true, true, true, false, false, false, false, false, false] (by kernel_rfl) rfl (some 39) (by kernel_rfl) (by kernel_rfl) (by kernel_rfl) (by kernel_rfl) (by kernel_rfl) (.bool true) (by kernel_rfl) (fun _ => by kernel_rfl) (fun _ => hO13) ?_
    try simp only [p0, p1, p2, p3]
    refine fl_load 8 #[true, true, true, true, true, true, true, true, true, false, false, false, false, false] (by kernel_rfl) rfl (some 40) (by kernel_rfl) (by kernel_rfl) (by kernel_rfl) (by kernel_rfl) (by kernel_rfl) (c8 (Cv.XN k u)) (by kernel_rfl) (by kernel_rfl) (by kernel_rfl) 22 (.tmp 10) (by kernel_rfl) w10.heap.size (by kernel_rfl) 22 _ (fun _ h => h.get (.head _)) Tryd.underlying22 rfl (inum_c8 _) hO13 ?_
    try simp only [p0, p1, p2, p3]
    refine fl_load 10 #[true, true, true, true, true, true, true, true, true, false, true, false, false, false] (by kernel_rfl) rfl (some 42) (by kernel_rfl) (by kernel_rfl) (by kernel_rfl) (by kernel_rfl) (by kernel_rfl) (c8 (Cv.XN k u)) (by kernel_rfl) (by kernel_rfl) (by kernel_rfl) 22 (.tmp 10) (by kernel_rfl) w10.heap.size (by kernel_rfl) 22 _ (fun _ h => h.get (.head _)) Tryd.underlying22 rfl (inum_c8 _) hO13 ?_
    try simp only [p0, p1, p2, p3]
    refine fl_callg 9 #[true, true, true, true, true, true, true, true, true, true, true, false, false, false] (by kernel_rfl) rfl (some 41) (by kernel_rfl) (by kernel_rfl) (by kernel_rfl) (.agg (c8 ((Cv.XN k u) % p25))) (by kernel_rfl) (reduce_any (Cv.XN k u) (XN_256 _ _) _) hO13 (fun _ h => h) fun w14 hO14 => ?_
    try clear hO13
    try simp only [p0, p1, p2, p3]
    refine fl_eql 11 #[true, true, true, true, true, true, true, true, true, true, true, true, false, false] (by kernel_rfl) rfl (some 43) (by kernel_rfl) (by kernel_rfl) (by kernel_rfl) (by kernel_rfl) (by kernel_rfl) (x := ((Cv.XN k u) % p25)) (y := (Cv.XN k u)) true (N256.mod _) (XN_256 _ _) (decide_eq_true (Nat.mod_eq_of_lt (Cv.XN_lt k u))) (by kernel_rfl) (.tmp 41) (.tmp 42) 22 (by kernel_rfl) (by kernel_rfl) (by kernel_rfl) (fun _ => hO14) ?_
    try simp only [p0, p1, p2, p3]
    refine fl_pure 12 #[true, true, true, true, true, true, true, true, true, true, true, true, true, false] (by kernel_rfl) rfl (some 44) (by kernel_rfl) (by kernel_rfl) (by kernel_rfl) (by kernel_rfl) (by kernel_rfl) (.bool true) (by kernel_rfl) (fun _ => by kernel_rfl) (fun _ => hO14) ?_
    try simp only [p0, p1, p2, p3]
    refine fl_pure 13 #[true, true, true, true, true, true, true, true, true, true, true, true, true, true] (by kernel_rfl) rfl (some 6) (by kernel_rfl) (by kernel_rfl) (by kernel_rfl) (by kernel_rfl) (by kernel_rfl) (.bool true) (by kernel_rfl) (fun _ => by kernel_rfl) (fun _ => hO14) ?_
    try simp only [p0, p1, p2, p3]
    refine fl_done (by kernel_rfl) ?_
    show Code.wp _ _ _ _ _
    refine wp_ret ?_
    (try simp only [Exit.then, Exit.inBlock])
    refine bodyPost_ret (results_tmp rfl _ _ _) rfl ?_
    exact ⟨rfl, hO14.bl⟩
end Go.Proofs.YtkmgdpbmkbpkjaaDoor
