/-
  LadderTells, walked: it answers true.
-/
import Derived.Test.YtkmgdpbmkbpkjaaDoorLadL
import Derived.Test.YtkmgdpbmkbpkjaaDoorLadR
set_option linter.unusedVariables false
set_option linter.unusedSimpArgs false
namespace Go.Proofs.YtkmgdpbmkbpkjaaDoor
open Go.RowKit

set_option maxRecDepth 100000 in
set_option maxHeartbeats 8000000 in
theorem tells_any {k u : Nat} (hk : N256 k) (hu : N256 u) (w : World) {tG : TypeId} (hG : Bk w 0 tG (c8 121665)) : Ret Tryd.prog 4 #[.agg (c8 k), .agg (c8 u)] w (.bool true) := by
  by_cases h0 : Cv.XN k u = 0
  · refine calls_of_wp Tryd.func4 rfl ?_
    simp only [Tryd.ntmps4, List.size_toArray, List.length_cons, List.length_nil, Nat.reduceAdd, Nat.reduceSub, Array.replicate_succ, Array.replicate_zero, List.push_toArray, List.append_toArray, List.nil_append, List.cons_append]
    have hO := Own.nil w
    refine wp_seq ?_
    refine wl_region ?_
    refine wl_new 22 (c8 k) rfl (by kernel_rfl) hO fun w1 hO1 => ?_
    clear hO
    try simp only [p0, p1, p2, p3]
    refine wl_new 22 (c8 u) rfl (by kernel_rfl) hO1 fun w2 hO2 => ?_
    clear hO1
    try simp only [p0, p1, p2, p3]
    refine wl_pure (.bool false) rfl (by kernel_rfl) ?_
    try simp only [p0, p1, p2, p3]
    refine wl_nil ?_
    show Code.wp _ _ _ _ _
    refine wp_seq ?_
    refine wp_seq ?_
    refine wl_region ?_
    refine wl_call (.bool true) rfl (by kernel_rfl) (alive_any _ (hG.below hO2.bl hG.lt)) hO2 fun w3 hO3 => ?_
    clear hO2
    try simp only [p0, p1, p2, p3]
    refine wl_pure (.bool false) rfl (by kernel_rfl) ?_
    try simp only [p0, p1, p2, p3]
    refine wl_nil ?_
    show Code.wp _ _ _ _ _
    refine wp_cond_false rfl ?_
    refine wp_skip ?_
    show Code.wp _ _ _ _ _
    refine wp_seq ?_
    refine wl_region ?_
    refine wl_load (c8 k) rfl 22 (.tmp 2) rfl w.heap.size rfl 22 _ (hO3.get (.tail _ (.head _))) Tryd.underlying22 rfl (inum_c8 _) ?_
    try simp only [p0, p1, p2, p3]
    refine wl_load (c8 u) rfl 22 (.tmp 3) rfl w1.heap.size rfl 22 _ (hO3.get (.head _)) Tryd.underlying22 rfl (inum_c8 _) ?_
    try simp only [p0, p1, p2, p3]
    refine wl_call (.agg (c8 (Cv.XN k u))) rfl (by kernel_rfl) (refX_any hk hu _) hO3 fun w4 hO4 => ?_
    clear hO3
    try simp only [p0, p1, p2, p3]
    refine wl_new 22 (c8 0) rfl (by kernel_rfl) hO4 fun w5 hO5 => ?_
    clear hO4
    try simp only [p0, p1, p2, p3]
    refine wl_store (L1 := []) (L2 := ((w1.heap.size, 22, (c8 u)) :: (w.heap.size, 22, (c8 k)) :: [])) (cs := (c8 0)) (c8 (Cv.XN k u)) rfl 22 (.tmp 5) (.tmp 12) rfl rfl rfl hO5 (by simp only [size_c8]) (inum_c8 _) (one_c8 _) fun w6 hO6 => ?_
    clear hO5
    simp only [List.nil_append, List.cons_append, List.set_cons_zero, List.set_cons_succ] at hO6
    try simp only [p0, p1, p2, p3]
    refine wl_nil ?_
    show Code.wp _ _ _ _ _
    refine wp_seq ?_
    refine wl_region ?_
    refine wl_load (c8 k) rfl 22 (.tmp 2) rfl w.heap.size rfl 22 _ (hO6.get (.tail _ (.tail _ (.head _)))) Tryd.underlying22 rfl (inum_c8 _) ?_
    try simp only [p0, p1, p2, p3]
    refine wl_load (c8 u) rfl 22 (.tmp 3) rfl w1.heap.size rfl 22 _ (hO6.get (.tail _ (.head _))) Tryd.underlying22 rfl (inum_c8 _) ?_
    try simp only [p0, p1, p2, p3]
    refine wl_call (.tuple #[.agg (c8 (Cv.XN k u)), .bool false]) rfl (by kernel_rfl) (shared_any hk hu (decide_eq_false fun h => h h0) _ (hG.below hO6.bl hG.lt)) hO6 fun w7 hO7 => ?_
    clear hO6
    try simp only [p0, p1, p2, p3]
    refine wl_pure (.tuple #[.agg (c8 (Cv.XN k u)), .bool false]) rfl (by kernel_rfl) ?_
    try simp only [p0, p1, p2, p3]
    refine wl_pure (.agg (c8 (Cv.XN k u))) rfl (by kernel_rfl) ?_
    try simp only [p0, p1, p2, p3]
    refine wl_pure (.bool false) rfl (by kernel_rfl) ?_
    try simp only [p0, p1, p2, p3]
    refine wl_new 22 (c8 0) rfl (by kernel_rfl) hO7 fun w8 hO8 => ?_
    clear hO7
    try simp only [p0, p1, p2, p3]
    refine wl_store (L1 := []) (L2 := ((w4.heap.size, 22, (c8 (Cv.XN k u))) :: (w1.heap.size, 22, (c8 u)) :: (w.heap.size, 22, (c8 k)) :: [])) (cs := (c8 0)) (c8 (Cv.XN k u)) rfl 22 (.tmp 6) (.tmp 17) rfl rfl rfl hO8 (by simp only [size_c8]) (inum_c8 _) (one_c8 _) fun w9 hO9 => ?_
    clear hO8
    simp only [List.nil_append, List.cons_append, List.set_cons_zero, List.set_cons_succ] at hO9
    try simp only [p0, p1, p2, p3]
    refine wl_pure (.bool false) rfl (by kernel_rfl) ?_
    try simp only [p0, p1, p2, p3]
    refine wl_nil ?_
    show Code.wp _ _ _ _ _
    refine wp_seq ?_
    refine fl_start [] #[false, false, false, false, false, false, false, false, false, false, false, false, false, false, false, false, false, false, false, false, false, false, false, false, false] (by kernel_rfl) (by kernel_rfl) hO9 fun w10 hO10 => ?_
    clear hO9
    refine fl_load 0 #[true, false, false, false, false, false, false, false, false, false, false, false, false, false, false, false, false, false, false, false, false, false, false, false, false] (by kernel_rfl) rfl (some 19) (by kernel_rfl) (by kernel_rfl) (by kernel_rfl) (by kernel_rfl) (by kernel_rfl) (c8 k) (by kernel_rfl) (by kernel_rfl) (by kernel_rfl) 22 (.tmp 2) (by kernel_rfl) w.heap.size (by kernel_rfl) 22 _ (fun _ h => h.get (.tail _ (.tail _ (.tail _ (.head _))))) Tryd.underlying22 rfl (inum_c8 _) hO10 ?_
    try simp only [p0, p1, p2, p3]
    refine fl_load 1 #[true, true, false, false, false, false, false, false, false, false, false, false, false, false, false, false, false, false, false, false, false, false, false, false, false] (by kernel_rfl) rfl (some 20) (by kernel_rfl) (by kernel_rfl) (by kernel_rfl) (by kernel_rfl) (by kernel_rfl) (c8 u) (by kernel_rfl) (by kernel_rfl) (by kernel_rfl) 22 (.tmp 3) (by kernel_rfl) w1.heap.size (by kernel_rfl) 22 _ (fun _ h => h.get (.tail _ (.tail _ (.head _)))) Tryd.underlying22 rfl (inum_c8 _) hO10 ?_
    try simp only [p0, p1, p2, p3]
    refine fl_load 3 #[true, true, false, true, false, false, false, false, false, false, false, false, false, false, false, false, false, false, false, false, false, false, false, false, false] (by kernel_rfl) rfl (some 22) (by kernel_rfl) (by kernel_rfl) (by kernel_rfl) (by kernel_rfl) (by kernel_rfl) (c8 (Cv.XN k u)) (by kernel_rfl) (by kernel_rfl) (by kernel_rfl) 22 (.tmp 5) (by kernel_rfl) w4.heap.size (by kernel_rfl) 22 _ (fun _ h => h.get (.tail _ (.head _))) Tryd.underlying22 rfl (inum_c8 _) hO10 ?_
    try simp only [p0, p1, p2, p3]
    refine fl_call 2 #[true, true, true, true, false, false, false, false, false, false, false, false, false, false, false, false, false, false, false, false, false, false, false, false, false] (by kernel_rfl) rfl (some 21) (by kernel_rfl) rfl (by kernel_rfl) (.agg (c8 (Cv.XN k u))) (by kernel_rfl) (X_any hk hu _ (hG.below hO10.bl hG.lt)) hO10 (fun _ h => h) fun w11 hO11 => ?_
    try clear hO10
    try simp only [p0, p1, p2, p3]
    refine fl_eql 4 #[true, true, true, true, true, false, false, false, false, false, false, false, false, false, false, false, false, false, false, false, false, false, false, false, false] (by kernel_rfl) rfl (some 23) (by kernel_rfl) (by kernel_rfl) (by kernel_rfl) (by kernel_rfl) (by kernel_rfl) (x := (Cv.XN k u)) (y := (Cv.XN k u)) true (XN_256 _ _) (XN_256 _ _) (decide_eq_true rfl) (by kernel_rfl) (.tmp 21) (.tmp 22) 22 (by kernel_rfl) (by kernel_rfl) (by kernel_rfl) (fun _ => hO11) ?_
    try simp only [p0, p1, p2, p3]
    refine fl_pure 5 #[true, true, true, true, true, true, false, false, false, false, false, false, false, false, false, false, false, false, false, false, false, false, false, false, false] (by kernel_rfl) rfl (some 24) (by kernel_rfl) (by kernel_rfl) (by kernel_rfl) (by kernel_rfl) (by kernel_rfl) (.bool true) (by kernel_rfl) (fun _ => by kernel_rfl) (fun _ => hO11) ?_
    try simp only [p0, p1, p2, p3]
    refine fl_load 6 #[true, true, true, true, true, true, true, false, false, false, false, false, false, false, false, false, false, false, false, false, false, false, false, false, false] (by kernel_rfl) rfl (some 25) (by kernel_rfl) (by kernel_rfl) (by kernel_rfl) (by kernel_rfl) (by kernel_rfl) (c8 (Cv.XN k u)) (by kernel_rfl) (by kernel_rfl) (by kernel_rfl) 22 (.tmp 6) (by kernel_rfl) w7.heap.size (by kernel_rfl) 22 _ (fun _ h => h.get (.head _)) Tryd.underlying22 rfl (inum_c8 _) hO11 ?_
    try simp only [p0, p1, p2, p3]
    refine fl_load 7 #[true, true, true, true, true, true, true, true, false, false, false, false, false, false, false, false, false, false, false, false, false, false, false, false, false] (by kernel_rfl) rfl (some 26) (by kernel_rfl) (by kernel_rfl) (by kernel_rfl) (by kernel_rfl) (by kernel_rfl) (c8 (Cv.XN k u)) (by kernel_rfl) (by kernel_rfl) (by kernel_rfl) 22 (.tmp 5) (by kernel_rfl) w4.heap.size (by kernel_rfl) 22 _ (fun _ h => h.get (.tail _ (.head _))) Tryd.underlying22 rfl (inum_c8 _) hO11 ?_
    try simp only [p0, p1, p2, p3]
    refine fl_eql 8 #[true, true, true, true, true, true, true, true, true, false, false, false, false, false, false, false, false, false, false, false, false, false, false, false, false] (by kernel_rfl) rfl (some 27) (by kernel_rfl) (by kernel_rfl) (by kernel_rfl) (by kernel_rfl) (by kernel_rfl) (x := (Cv.XN k u)) (y := (Cv.XN k u)) true (XN_256 _ _) (XN_256 _ _) (decide_eq_true rfl) (by kernel_rfl) (.tmp 25) (.tmp 26) 22 (by kernel_rfl) (by kernel_rfl) (by kernel_rfl) (fun _ => hO11) ?_
    try simp only [p0, p1, p2, p3]
    refine fl_pure 9 #[true, true, true, true, true, true, true, true, true, true, false, false, false, false, false, false, false, false, false, false, false, false, false, false, false] (by kernel_rfl) rfl (some 28) (by kernel_rfl) (by kernel_rfl) (by kernel_rfl) (by kernel_rfl) (by kernel_rfl) (.bool true) (by kernel_rfl) (fun _ => by kernel_rfl) (fun _ => hO11) ?_
    try simp only [p0, p1, p2, p3]
    refine fl_pure 10 #[true, true, true, true, true, true, true, true, true, true, true, false, false, false, false, false, false, false, false, false, false, false, false, false, false] (by kernel_rfl) rfl (some 29) (by kernel_rfl) (by kernel_rfl) (by kernel_rfl) (by kernel_rfl) (by kernel_rfl) (.bool true) (by kernel_rfl) (fun _ => by kernel_rfl) (fun _ => hO11) ?_
    try simp only [p0, p1, p2, p3]
    refine fl_pure 11 #[true, true, true, true, true, true, true, true, true, true, true, true, false, false, false, false, false, false, false, false, false, false, false, false, false] (by kernel_rfl) rfl (some 30) (by kernel_rfl) (by kernel_rfl) (by kernel_rfl) (by kernel_rfl) (by kernel_rfl) (.bool false) (by kernel_rfl) (fun _ => by kernel_rfl) (fun _ => hO11) ?_
    try simp only [p0, p1, p2, p3]
    refine fl_load 12 #[true, true, true, true, true, true, true, true, true, true, true, true, true, false, false, false, false, false, false, false, false, false, false, false, false] (by kernel_rfl) rfl (some 31) (by kernel_rfl) (by kernel_rfl) (by kernel_rfl) (by kernel_rfl) (by kernel_rfl) (c8 (Cv.XN k u)) (by kernel_rfl) (by kernel_rfl) (by kernel_rfl) 22 (.tmp 5) (by kernel_rfl) w4.heap.size (by kernel_rfl) 22 _ (fun _ h => h.get (.tail _ (.head _))) Tryd.underlying22 rfl (inum_c8 _) hO11 ?_
    try simp only [p0, p1, p2, p3]
    refine fl_pure 13 #[true, true, true, true, true, true, true, true, true, true, true, true, true, true, false, false, false, false, false, false, false, false, false, false, false] (by kernel_rfl) rfl (some 32) (by kernel_rfl) (by kernel_rfl) (by kernel_rfl) (by kernel_rfl) (by kernel_rfl) (.agg (c8 0)) (by kernel_rfl) (fun _ => by kernel_rfl) (fun _ => hO11) ?_
    try simp only [p0, p1, p2, p3]
    refine fl_neq 14 #[true, true, true, true, true, true, true, true, true, true, true, true, true, true, true, false, false, false, false, false, false, false, false, false, false] (by kernel_rfl) rfl (some 33) (by kernel_rfl) (by kernel_rfl) (by kernel_rfl) (by kernel_rfl) (by kernel_rfl) (x := (Cv.XN k u)) (y := 0) false (XN_256 _ _) (by unfold N256; omega) (by rw [decide_eq_true h0]; rfl) (by kernel_rfl) (.tmp 31) (.tmp 32) 22 (by kernel_rfl) (by kernel_rfl) (by kernel_rfl) (fun _ => hO11) ?_
    try simp only [p0, p1, p2, p3]
    refine fl_pure 15 #[true, true, true, true, true, true, true, true, true, true, true, true, true, true, true, true, false, false, false, false, false, false, false, false, false] (by kernel_rfl) rfl (some 34) (by kernel_rfl) (by kernel_rfl) (by kernel_rfl) (by kernel_rfl) (by kernel_rfl) (.bool true) (by kernel_rfl) (fun _ => by kernel_rfl) (fun _ => hO11) ?_
    try simp only [p0, p1, p2, p3]
    refine fl_pure 16 #[true, true, true, true, true, true, true, true, true, true, true, true, true, true, true, true, true, false, false, false, false, false, false, false, false] (by kernel_rfl) rfl (some 35) (by kernel_rfl) (by kernel_rfl) (by kernel_rfl) (by kernel_rfl) (by kernel_rfl) (.bool true) (by kernel_rfl) (fun _ => by kernel_rfl) (fun _ => hO11) ?_
    try simp only [p0, p1, p2, p3]
    refine fl_pure 17 #[true, true, true, true, true, true, true, true, true, true, true, true, true, true, true, true, true, true, false, false, false, false, false, false, false] (by kernel_rfl) rfl (some 36) (by kernel_rfl) (by kernel_rfl) (by kernel_rfl) (by kernel_rfl) (by kernel_rfl) (.bool true) (by kernel_rfl) (fun _ => by kernel_rfl) (fun _ => hO11) ?_
    try simp only [p0, p1, p2, p3]
    refine fl_load 18 #[true, true, true, true, true, true, true, true, true, true, true, true, true, true, true, true, true, true, true, false, false, false, false, false, false] (by kernel_rfl) rfl (some 37) (by kernel_rfl) (by kernel_rfl) (by kernel_rfl) (by kernel_rfl) (by kernel_rfl) (c8 k) (by kernel_rfl) (by kernel_rfl) (by kernel_rfl) 22 (.tmp 2) (by kernel_rfl) w.heap.size (by kernel_rfl) 22 _ (fun _ h => h.get (.tail _ (.tail _ (.tail _ (.head _))))) Tryd.underlying22 rfl (inum_c8 _) hO11 ?_
    try simp only [p0, p1, p2, p3]
    refine fl_load 20 #[true, true, true, true, true, true, true, true, true, true, true, true, true, true, true, true, true, true, true, false, true, false, false, false, false] (by kernel_rfl) rfl (some 39) (by kernel_rfl) (by kernel_rfl) (by kernel_rfl) (by kernel_rfl) (by kernel_rfl) (c8 k) (by kernel_rfl) (by kernel_rfl) (by kernel_rfl) 22 (.tmp 2) (by kernel_rfl) w.heap.size (by kernel_rfl) 22 _ (fun _ h => h.get (.tail _ (.tail _ (.tail _ (.head _))))) Tryd.underlying22 rfl (inum_c8 _) hO11 ?_
    try simp only [p0, p1, p2, p3]
    refine fl_callg 19 #[true, true, true, true, true, true, true, true, true, true, true, true, true, true, true, true, true, true, true, true, true, false, false, false, false] (by kernel_rfl) rfl (some 38) (by kernel_rfl) (by kernel_rfl) (by kernel_rfl) (.agg (c8 (Cv.clampN k))) (by kernel_rfl) (clamp_any hk _) hO11 (fun _ h => h) fun w12 hO12 => ?_
    try clear hO11
    try simp only [p0, p1, p2, p3]
    refine fl_callg 21 #[true, true, true, true, true, true, true, true, true, true, true, true, true, true, true, true, true, true, true, true, true, true, false, false, false] (by kernel_rfl) rfl (some 40) (by kernel_rfl) (by kernel_rfl) (by kernel_rfl) (.agg (c8 (Cv.clampN k))) (by kernel_rfl) (refClamp_any hk _) hO12 (fun _ h => h) fun w13 hO13 => ?_
    try clear hO12
    try simp only [p0, p1, p2, p3]
    refine fl_eql 22 #[true, true, true, true, true, true, true, true, true, true, true, true, true, true, true, true, true, true, true, true, true, true, true, false, false] (by kernel_rfl) rfl (some 41) (by kernel_rfl) (by kernel_rfl) (by kernel_rfl) (by kernel_rfl) (by kernel_rfl) (x := (Cv.clampN k)) (y := (Cv.clampN k)) true (clamp_256 _) (clamp_256 _) (decide_eq_true rfl) (by kernel_rfl) (.tmp 38) (.tmp 40) 22 (by kernel_rfl) (by kernel_rfl) (by kernel_rfl) (fun _ => hO13) ?_
    try simp only [p0, p1, p2, p3]
    refine fl_pure 23 #[true, true, true, true, true, true, true, true, true, true, true, true, true, true, true, true, true, true, true, true, true, true, true, true, false] (by kernel_rfl) rfl (some 42) (by kernel_rfl) (by kernel_rfl) (by kernel_rfl) (by kernel_rfl) (by kernel_rfl) (.bool true) (by kernel_rfl) (fun _ => by kernel_rfl) (fun _ => hO13) ?_
    try simp only [p0, p1, p2, p3]
    refine fl_pure 24 #[true, true, true, true, true, true, true, true, true, true, true, true, true, true, true, true, true, true, true, true, true, true, true, true, true] (by kernel_rfl) rfl (some 4) (by kernel_rfl) (by kernel_rfl) (by kernel_rfl) (by kernel_rfl) (by kernel_rfl) (.bool true) (by kernel_rfl) (fun _ => by kernel_rfl) (fun _ => hO13) ?_
    try simp only [p0, p1, p2, p3]
    refine fl_done (by kernel_rfl) ?_
    show Code.wp _ _ _ _ _
    refine wp_ret ?_
    (try simp only [Exit.then, Exit.inBlock])
    refine bodyPost_ret (results_tmp rfl _ _ _) rfl ?_
    exact ⟨rfl, hO13.bl⟩
  · refine calls_of_wp Tryd.func4 rfl ?_
    simp only [Tryd.ntmps4, List.size_toArray, List.length_cons, List.length_nil, Nat.reduceAdd, Nat.reduceSub, Array.replicate_succ, Array.replicate_zero, List.push_toArray, List.append_toArray, List.nil_append, List.cons_append]
    have hO := Own.nil w
    refine wp_seq ?_
    refine wl_region ?_
    refine wl_new 22 (c8 k) rfl (by kernel_rfl) hO fun w1 hO1 => ?_
    clear hO
    try simp only [p0, p1, p2, p3]
    refine wl_new 22 (c8 u) rfl (by kernel_rfl) hO1 fun w2 hO2 => ?_
    clear hO1
    try simp only [p0, p1, p2, p3]
    refine wl_pure (.bool false) rfl (by kernel_rfl) ?_
    try simp only [p0, p1, p2, p3]
    refine wl_nil ?_
    show Code.wp _ _ _ _ _
    refine wp_seq ?_
    refine wp_seq ?_
    refine wl_region ?_
    refine wl_call (.bool true) rfl (by kernel_rfl) (alive_any _ (hG.below hO2.bl hG.lt)) hO2 fun w3 hO3 => ?_
    clear hO2
    try simp only [p0, p1, p2, p3]
    refine wl_pure (.bool false) rfl (by kernel_rfl) ?_
    try simp only [p0, p1, p2, p3]
    refine wl_nil ?_
    show Code.wp _ _ _ _ _
    refine wp_cond_false rfl ?_
    refine wp_skip ?_
    show Code.wp _ _ _ _ _
    refine wp_seq ?_
    refine wl_region ?_
    refine wl_load (c8 k) rfl 22 (.tmp 2) rfl w.heap.size rfl 22 _ (hO3.get (.tail _ (.head _))) Tryd.underlying22 rfl (inum_c8 _) ?_
    try simp only [p0, p1, p2, p3]
    refine wl_load (c8 u) rfl 22 (.tmp 3) rfl w1.heap.size rfl 22 _ (hO3.get (.head _)) Tryd.underlying22 rfl (inum_c8 _) ?_
    try simp only [p0, p1, p2, p3]
    refine wl_call (.agg (c8 (Cv.XN k u))) rfl (by kernel_rfl) (refX_any hk hu _) hO3 fun w4 hO4 => ?_
    clear hO3
    try simp only [p0, p1, p2, p3]
    refine wl_new 22 (c8 0) rfl (by kernel_rfl) hO4 fun w5 hO5 => ?_
    clear hO4
    try simp only [p0, p1, p2, p3]
    refine wl_store (L1 := []) (L2 := ((w1.heap.size, 22, (c8 u)) :: (w.heap.size, 22, (c8 k)) :: [])) (cs := (c8 0)) (c8 (Cv.XN k u)) rfl 22 (.tmp 5) (.tmp 12) rfl rfl rfl hO5 (by simp only [size_c8]) (inum_c8 _) (one_c8 _) fun w6 hO6 => ?_
    clear hO5
    simp only [List.nil_append, List.cons_append, List.set_cons_zero, List.set_cons_succ] at hO6
    try simp only [p0, p1, p2, p3]
    refine wl_nil ?_
    show Code.wp _ _ _ _ _
    refine wp_seq ?_
    refine wl_region ?_
    refine wl_load (c8 k) rfl 22 (.tmp 2) rfl w.heap.size rfl 22 _ (hO6.get (.tail _ (.tail _ (.head _)))) Tryd.underlying22 rfl (inum_c8 _) ?_
    try simp only [p0, p1, p2, p3]
    refine wl_load (c8 u) rfl 22 (.tmp 3) rfl w1.heap.size rfl 22 _ (hO6.get (.tail _ (.head _))) Tryd.underlying22 rfl (inum_c8 _) ?_
    try simp only [p0, p1, p2, p3]
    refine wl_call (.tuple #[.agg (c8 (Cv.XN k u)), .bool true]) rfl (by kernel_rfl) (shared_any hk hu (decide_eq_true h0) _ (hG.below hO6.bl hG.lt)) hO6 fun w7 hO7 => ?_
    clear hO6
    try simp only [p0, p1, p2, p3]
    refine wl_pure (.tuple #[.agg (c8 (Cv.XN k u)), .bool true]) rfl (by kernel_rfl) ?_
    try simp only [p0, p1, p2, p3]
    refine wl_pure (.agg (c8 (Cv.XN k u))) rfl (by kernel_rfl) ?_
    try simp only [p0, p1, p2, p3]
    refine wl_pure (.bool true) rfl (by kernel_rfl) ?_
    try simp only [p0, p1, p2, p3]
    refine wl_new 22 (c8 0) rfl (by kernel_rfl) hO7 fun w8 hO8 => ?_
    clear hO7
    try simp only [p0, p1, p2, p3]
    refine wl_store (L1 := []) (L2 := ((w4.heap.size, 22, (c8 (Cv.XN k u))) :: (w1.heap.size, 22, (c8 u)) :: (w.heap.size, 22, (c8 k)) :: [])) (cs := (c8 0)) (c8 (Cv.XN k u)) rfl 22 (.tmp 6) (.tmp 17) rfl rfl rfl hO8 (by simp only [size_c8]) (inum_c8 _) (one_c8 _) fun w9 hO9 => ?_
    clear hO8
    simp only [List.nil_append, List.cons_append, List.set_cons_zero, List.set_cons_succ] at hO9
    try simp only [p0, p1, p2, p3]
    refine wl_pure (.bool true) rfl (by kernel_rfl) ?_
    try simp only [p0, p1, p2, p3]
    refine wl_nil ?_
    show Code.wp _ _ _ _ _
    refine wp_seq ?_
    refine fl_start [] #[false, false, false, false, false, false, false, false, false, false, false, false, false, false, false, false, false, false, false, false, false, false, false, false, false] (by kernel_rfl) (by kernel_rfl) hO9 fun w10 hO10 => ?_
    clear hO9
    refine fl_load 0 #[true, false, false, false, false, false, false, false, false, false, false, false, false, false, false, false, false, false, false, false, false, false, false, false, false] (by kernel_rfl) rfl (some 19) (by kernel_rfl) (by kernel_rfl) (by kernel_rfl) (by kernel_rfl) (by kernel_rfl) (c8 k) (by kernel_rfl) (by kernel_rfl) (by kernel_rfl) 22 (.tmp 2) (by kernel_rfl) w.heap.size (by kernel_rfl) 22 _ (fun _ h => h.get (.tail _ (.tail _ (.tail _ (.head _))))) Tryd.underlying22 rfl (inum_c8 _) hO10 ?_
    try simp only [p0, p1, p2, p3]
    refine fl_load 1 #[true, true, false, false, false, false, false, false, false, false, false, false, false, false, false, false, false, false, false, false, false, false, false, false, false] (by kernel_rfl) rfl (some 20) (by kernel_rfl) (by kernel_rfl) (by kernel_rfl) (by kernel_rfl) (by kernel_rfl) (c8 u) (by kernel_rfl) (by kernel_rfl) (by kernel_rfl) 22 (.tmp 3) (by kernel_rfl) w1.heap.size (by kernel_rfl) 22 _ (fun _ h => h.get (.tail _ (.tail _ (.head _)))) Tryd.underlying22 rfl (inum_c8 _) hO10 ?_
    try simp only [p0, p1, p2, p3]
    refine fl_load 3 #[true, true, false, true, false, false, false, false, false, false, false, false, false, false, false, false, false, false, false, false, false, false, false, false, false] (by kernel_rfl) rfl (some 22) (by kernel_rfl) (by kernel_rfl) (by kernel_rfl) (by kernel_rfl) (by kernel_rfl) (c8 (Cv.XN k u)) (by kernel_rfl) (by kernel_rfl) (by kernel_rfl) 22 (.tmp 5) (by kernel_rfl) w4.heap.size (by kernel_rfl) 22 _ (fun _ h => h.get (.tail _ (.head _))) Tryd.underlying22 rfl (inum_c8 _) hO10 ?_
    try simp only [p0, p1, p2, p3]
    refine fl_call 2 #[true, true, true, true, false, false, false, false, false, false, false, false, false, false, false, false, false, false, false, false, false, false, false, false, false] (by kernel_rfl) rfl (some 21) (by kernel_rfl) rfl (by kernel_rfl) (.agg (c8 (Cv.XN k u))) (by kernel_rfl) (X_any hk hu _ (hG.below hO10.bl hG.lt)) hO10 (fun _ h => h) fun w11 hO11 => ?_
    try clear hO10
    try simp only [p0, p1, p2, p3]
    refine fl_eql 4 #[true, true, true, true, true, false, false, false, false, false, false, false, false, false, false, false, false, false, false, false, false, false, false, false, false] (by kernel_rfl) rfl (some 23) (by kernel_rfl) (by kernel_rfl) (by kernel_rfl) (by kernel_rfl) (by kernel_rfl) (x := (Cv.XN k u)) (y := (Cv.XN k u)) true (XN_256 _ _) (XN_256 _ _) (decide_eq_true rfl) (by kernel_rfl) (.tmp 21) (.tmp 22) 22 (by kernel_rfl) (by kernel_rfl) (by kernel_rfl) (fun _ => hO11) ?_
    try simp only [p0, p1, p2, p3]
    refine fl_pure 5 #[true, true, true, true, true, true, false, false, false, false, false, false, false, false, false, false, false, false, false, false, false, false, false, false, false] (by kernel_rfl) rfl (some 24) (by kernel_rfl) (by kernel_rfl) (by kernel_rfl) (by kernel_rfl) (by kernel_rfl) (.bool true) (by kernel_rfl) (fun _ => by kernel_rfl) (fun _ => hO11) ?_
    try simp only [p0, p1, p2, p3]
    refine fl_load 6 #[true, true, true, true, true, true, true, false, false, false, false, false, false, false, false, false, false, false, false, false, false, false, false, false, false] (by kernel_rfl) rfl (some 25) (by kernel_rfl) (by kernel_rfl) (by kernel_rfl) (by kernel_rfl) (by kernel_rfl) (c8 (Cv.XN k u)) (by kernel_rfl) (by kernel_rfl) (by kernel_rfl) 22 (.tmp 6) (by kernel_rfl) w7.heap.size (by kernel_rfl) 22 _ (fun _ h => h.get (.head _)) Tryd.underlying22 rfl (inum_c8 _) hO11 ?_
    try simp only [p0, p1, p2, p3]
    refine fl_load 7 #[true, true, true, true, true, true, true, true, false, false, false, false, false, false, false, false, false, false, false, false, false, false, false, false, false] (by kernel_rfl) rfl (some 26) (by kernel_rfl) (by kernel_rfl) (by kernel_rfl) (by kernel_rfl) (by kernel_rfl) (c8 (Cv.XN k u)) (by kernel_rfl) (by kernel_rfl) (by kernel_rfl) 22 (.tmp 5) (by kernel_rfl) w4.heap.size (by kernel_rfl) 22 _ (fun _ h => h.get (.tail _ (.head _))) Tryd.underlying22 rfl (inum_c8 _) hO11 ?_
    try simp only [p0, p1, p2, p3]
    refine fl_eql 8 #[true, true, true, true, true, true, true, true, true, false, false, false, false, false, false, false, false, false, false, false, false, false, false, false, false] (by kernel_rfl) rfl (some 27) (by kernel_rfl) (by kernel_rfl) (by kernel_rfl) (by kernel_rfl) (by kernel_rfl) (x := (Cv.XN k u)) (y := (Cv.XN k u)) true (XN_256 _ _) (XN_256 _ _) (decide_eq_true rfl) (by kernel_rfl) (.tmp 25) (.tmp 26) 22 (by kernel_rfl) (by kernel_rfl) (by kernel_rfl) (fun _ => hO11) ?_
    try simp only [p0, p1, p2, p3]
    refine fl_pure 9 #[true, true, true, true, true, true, true, true, true, true, false, false, false, false, false, false, false, false, false, false, false, false, false, false, false] (by kernel_rfl) rfl (some 28) (by kernel_rfl) (by kernel_rfl) (by kernel_rfl) (by kernel_rfl) (by kernel_rfl) (.bool true) (by kernel_rfl) (fun _ => by kernel_rfl) (fun _ => hO11) ?_
    try simp only [p0, p1, p2, p3]
    refine fl_pure 10 #[true, true, true, true, true, true, true, true, true, true, true, false, false, false, false, false, false, false, false, false, false, false, false, false, false] (by kernel_rfl) rfl (some 29) (by kernel_rfl) (by kernel_rfl) (by kernel_rfl) (by kernel_rfl) (by kernel_rfl) (.bool true) (by kernel_rfl) (fun _ => by kernel_rfl) (fun _ => hO11) ?_
    try simp only [p0, p1, p2, p3]
    refine fl_pure 11 #[true, true, true, true, true, true, true, true, true, true, true, true, false, false, false, false, false, false, false, false, false, false, false, false, false] (by kernel_rfl) rfl (some 30) (by kernel_rfl) (by kernel_rfl) (by kernel_rfl) (by kernel_rfl) (by kernel_rfl) (.bool true) (by kernel_rfl) (fun _ => by kernel_rfl) (fun _ => hO11) ?_
    try simp only [p0, p1, p2, p3]
    refine fl_load 12 #[true, true, true, true, true, true, true, true, true, true, true, true, true, false, false, false, false, false, false, false, false, false, false, false, false] (by kernel_rfl) rfl (some 31) (by kernel_rfl) (by kernel_rfl) (by kernel_rfl) (by kernel_rfl) (by kernel_rfl) (c8 (Cv.XN k u)) (by kernel_rfl) (by kernel_rfl) (by kernel_rfl) 22 (.tmp 5) (by kernel_rfl) w4.heap.size (by kernel_rfl) 22 _ (fun _ h => h.get (.tail _ (.head _))) Tryd.underlying22 rfl (inum_c8 _) hO11 ?_
    try simp only [p0, p1, p2, p3]
    refine fl_pure 13 #[true, true, true, true, true, true, true, true, true, true, true, true, true, true, false, false, false, false, false, false, false, false, false, false, false] (by kernel_rfl) rfl (some 32) (by kernel_rfl) (by kernel_rfl) (by kernel_rfl) (by kernel_rfl) (by kernel_rfl) (.agg (c8 0)) (by kernel_rfl) (fun _ => by kernel_rfl) (fun _ => hO11) ?_
    try simp only [p0, p1, p2, p3]
    refine fl_neq 14 #[true, true, true, true, true, true, true, true, true, true, true, true, true, true, true, false, false, false, false, false, false, false, false, false, false] (by kernel_rfl) rfl (some 33) (by kernel_rfl) (by kernel_rfl) (by kernel_rfl) (by kernel_rfl) (by kernel_rfl) (x := (Cv.XN k u)) (y := 0) true (XN_256 _ _) (by unfold N256; omega) (by rw [decide_eq_false h0]; rfl) (by kernel_rfl) (.tmp 31) (.tmp 32) 22 (by kernel_rfl) (by kernel_rfl) (by kernel_rfl) (fun _ => hO11) ?_
    try simp only [p0, p1, p2, p3]
    refine fl_pure 15 #[true, true, true, true, true, true, true, true, true, true, true, true, true, true, true, true, false, false, false, false, false, false, false, false, false] (by kernel_rfl) rfl (some 34) (by kernel_rfl) (by kernel_rfl) (by kernel_rfl) (by kernel_rfl) (by kernel_rfl) (.bool true) (by kernel_rfl) (fun _ => by kernel_rfl) (fun _ => hO11) ?_
    try simp only [p0, p1, p2, p3]
    refine fl_pure 16 #[true, true, true, true, true, true, true, true, true, true, true, true, true, true, true, true, true, false, false, false, false, false, false, false, false] (by kernel_rfl) rfl (some 35) (by kernel_rfl) (by kernel_rfl) (by kernel_rfl) (by kernel_rfl) (by kernel_rfl) (.bool true) (by kernel_rfl) (fun _ => by kernel_rfl) (fun _ => hO11) ?_
    try simp only [p0, p1, p2, p3]
    refine fl_pure 17 #[true, true, true, true, true, true, true, true, true, true, true, true, true, true, true, true, true, true, false, false, false, false, false, false, false] (by kernel_rfl) rfl (some 36) (by kernel_rfl) (by kernel_rfl) (by kernel_rfl) (by kernel_rfl) (by kernel_rfl) (.bool true) (by kernel_rfl) (fun _ => by kernel_rfl) (fun _ => hO11) ?_
    try simp only [p0, p1, p2, p3]
    refine fl_load 18 #[true, true, true, true, true, true, true, true, true, true, true, true, true, true, true, true, true, true, true, false, false, false, false, false, false] (by kernel_rfl) rfl (some 37) (by kernel_rfl) (by kernel_rfl) (by kernel_rfl) (by kernel_rfl) (by kernel_rfl) (c8 k) (by kernel_rfl) (by kernel_rfl) (by kernel_rfl) 22 (.tmp 2) (by kernel_rfl) w.heap.size (by kernel_rfl) 22 _ (fun _ h => h.get (.tail _ (.tail _ (.tail _ (.head _))))) Tryd.underlying22 rfl (inum_c8 _) hO11 ?_
    try simp only [p0, p1, p2, p3]
    refine fl_load 20 #[true, true, true, true, true, true, true, true, true, true, true, true, true, true, true, true, true, true, true, false, true, false, false, false, false] (by kernel_rfl) rfl (some 39) (by kernel_rfl) (by kernel_rfl) (by kernel_rfl) (by kernel_rfl) (by kernel_rfl) (c8 k) (by kernel_rfl) (by kernel_rfl) (by kernel_rfl) 22 (.tmp 2) (by kernel_rfl) w.heap.size (by kernel_rfl) 22 _ (fun _ h => h.get (.tail _ (.tail _ (.tail _ (.head _))))) Tryd.underlying22 rfl (inum_c8 _) hO11 ?_
    try simp only [p0, p1, p2, p3]
    refine fl_callg 19 #[true, true, true, true, true, true, true, true, true, true, true, true, true, true, true, true, true, true, true, true, true, false, false, false, false] (by kernel_rfl) rfl (some 38) (by kernel_rfl) (by kernel_rfl) (by kernel_rfl) (.agg (c8 (Cv.clampN k))) (by kernel_rfl) (clamp_any hk _) hO11 (fun _ h => h) fun w12 hO12 => ?_
    try clear hO11
    try simp only [p0, p1, p2, p3]
    refine fl_callg 21 #[true, true, true, true, true, true, true, true, true, true, true, true, true, true, true, true, true, true, true, true, true, true, false, false, false] (by kernel_rfl) rfl (some 40) (by kernel_rfl) (by kernel_rfl) (by kernel_rfl) (.agg (c8 (Cv.clampN k))) (by kernel_rfl) (refClamp_any hk _) hO12 (fun _ h => h) fun w13 hO13 => ?_
    try clear hO12
    try simp only [p0, p1, p2, p3]
    refine fl_eql 22 #[true, true, true, true, true, true, true, true, true, true, true, true, true, true, true, true, true, true, true, true, true, true, true, false, false] (by kernel_rfl) rfl (some 41) (by kernel_rfl) (by kernel_rfl) (by kernel_rfl) (by kernel_rfl) (by kernel_rfl) (x := (Cv.clampN k)) (y := (Cv.clampN k)) true (clamp_256 _) (clamp_256 _) (decide_eq_true rfl) (by kernel_rfl) (.tmp 38) (.tmp 40) 22 (by kernel_rfl) (by kernel_rfl) (by kernel_rfl) (fun _ => hO13) ?_
    try simp only [p0, p1, p2, p3]
    refine fl_pure 23 #[true, true, true, true, true, true, true, true, true, true, true, true, true, true, true, true, true, true, true, true, true, true, true, true, false] (by kernel_rfl) rfl (some 42) (by kernel_rfl) (by kernel_rfl) (by kernel_rfl) (by kernel_rfl) (by kernel_rfl) (.bool true) (by kernel_rfl) (fun _ => by kernel_rfl) (fun _ => hO13) ?_
    try simp only [p0, p1, p2, p3]
    refine fl_pure 24 #[true, true, true, true, true, true, true, true, true, true, true, true, true, true, true, true, true, true, true, true, true, true, true, true, true] (by kernel_rfl) rfl (some 4) (by kernel_rfl) (by kernel_rfl) (by kernel_rfl) (by kernel_rfl) (by kernel_rfl) (.bool true) (by kernel_rfl) (fun _ => by kernel_rfl) (fun _ => hO13) ?_
    try simp only [p0, p1, p2, p3]
    refine fl_done (by kernel_rfl) ?_
    show Code.wp _ _ _ _ _
    refine wp_ret ?_
    (try simp only [Exit.then, Exit.inBlock])
    refine bodyPost_ret (results_tmp rfl _ _ _) rfl ?_
    exact ⟨rfl, hO13.bl⟩
end Go.Proofs.YtkmgdpbmkbpkjaaDoor
