/-
  LadderPublic, walked: it answers true.
-/
import Derived.Test.YtkmgdpbmkbpkjaaDoorLadL
import Derived.Test.YtkmgdpbmkbpkjaaDoorLadR
set_option linter.unusedVariables false
set_option linter.unusedSimpArgs false
namespace Go.Proofs.YtkmgdpbmkbpkjaaDoor
open Go.RowKit

set_option maxRecDepth 100000 in
set_option maxHeartbeats 8000000 in
theorem public_any {k : Nat} (hk : N256 k) (w : World) {tG : TypeId} (hG : Bk w 0 tG (c8 121665)) : Ret Tryd.prog 5 #[.agg (c8 k)] w (.bool true) := by
  refine calls_of_wp Tryd.func5 rfl ?_
  simp only [Tryd.ntmps5, List.size_toArray, List.length_cons, List.length_nil, Nat.reduceAdd, Nat.reduceSub, Array.replicate_succ, Array.replicate_zero, List.push_toArray, List.append_toArray, List.nil_append, List.cons_append]
  have hO := Own.nil w
  refine wp_seq ?_
  refine wl_region ?_
  refine wl_new 22 (c8 k) rfl (by kernel_rfl) hO fun w1 hO1 => ?_
  clear hO
  try simp only [p0, p1, p2, p3]
  refine wl_pure (.bool false) rfl (by kernel_rfl) ?_
  try simp only [p0, p1, p2, p3]
  refine wl_nil ?_
  show Code.wp _ _ _ _ _
  refine wp_seq ?_
  refine wp_seq ?_
  refine wl_region ?_
  refine wl_call (.bool true) rfl (by kernel_rfl) (alive_any _ (hG.below hO1.bl hG.lt)) hO1 fun w2 hO2 => ?_
  clear hO1
  try simp only [p0, p1, p2, p3]
  refine wl_pure (.bool false) rfl (by kernel_rfl) ?_
  try simp only [p0, p1, p2, p3]
  refine wl_nil ?_
  show Code.wp _ _ _ _ _
  refine wp_cond_false rfl ?_
  refine wp_skip ?_
  show Code.wp _ _ _ _ _
  refine wp_seq ?_
  refine wl_region ?_
  refine wl_load (c8 k) rfl 22 (.tmp 1) rfl w.heap.size rfl 22 _ (hO2.get (.head _)) Tryd.underlying22 rfl (inum_c8 _) ?_
  try simp only [p0, p1, p2, p3]
  refine wl_pure (.agg (c8 9)) rfl (by kernel_rfl) ?_
  try simp only [p0, p1, p2, p3]
  refine wl_call (.agg (c8 (Cv.XN k 9))) rfl (by kernel_rfl) (refX_any hk (by unfold N256; omega) _) hO2 fun w3 hO3 => ?_
  clear hO2
  try simp only [p0, p1, p2, p3]
  refine wl_new 22 (c8 0) rfl (by kernel_rfl) hO3 fun w4 hO4 => ?_
  clear hO3
  try simp only [p0, p1, p2, p3]
  refine wl_store (L1 := []) (L2 := ((w.heap.size, 22, (c8 k)) :: [])) (cs := (c8 0)) (c8 (Cv.XN k 9)) rfl 22 (.tmp 3) (.tmp 8) rfl rfl rfl hO4 (by simp only [size_c8]) (inum_c8 _) (one_c8 _) fun w5 hO5 => ?_
  clear hO4
  simp only [List.nil_append, List.cons_append, List.set_cons_zero, List.set_cons_succ] at hO5
  try simp only [p0, p1, p2, p3]
  refine wl_nil ?_
  show Code.wp _ _ _ _ _
  refine wp_seq ?_
  refine fl_start [] #[false, false, false, false, false] (by kernel_rfl) (by kernel_rfl) hO5 fun w6 hO6 => ?_
  clear hO5
  refine fl_load 0 #[true, false, false, false, false] (by kernel_rfl) rfl (some 9) (by kernel_rfl) (by kernel_rfl) (by kernel_rfl) (by kernel_rfl) (by kernel_rfl) (c8 k) (by kernel_rfl) (by kernel_rfl) (by kernel_rfl) 22 (.tmp 1) (by kernel_rfl) w.heap.size (by kernel_rfl) 22 _ (fun _ h => h.get (.tail _ (.head _))) Tryd.underlying22 rfl (inum_c8 _) hO6 ?_
  try simp only [p0, p1, p2, p3]
  refine fl_load 2 #[true, false, true, false, false] (by kernel_rfl) rfl (some 11) (by kernel_rfl) (by kernel_rfl) (by kernel_rfl) (by kernel_rfl) (by kernel_rfl) (c8 (Cv.XN k 9)) (by kernel_rfl) (by kernel_rfl) (by kernel_rfl) 22 (.tmp 3) (by kernel_rfl) w3.heap.size (by kernel_rfl) 22 _ (fun _ h => h.get (.head _)) Tryd.underlying22 rfl (inum_c8 _) hO6 ?_
  try simp only [p0, p1, p2, p3]
  refine fl_call 1 #[true, true, true, false, false] (by kernel_rfl) rfl (some 10) (by kernel_rfl) rfl (by kernel_rfl) (.agg (c8 (Cv.XN k 9))) (by kernel_rfl) (pub_any hk _ (hG.below hO6.bl hG.lt)) hO6 (fun _ h => h) fun w7 hO7 => ?_
  try clear hO6
  try simp only [p0, p1, p2, p3]
  refine fl_eql 3 #[true, true, true, true, false] (by kernel_rfl) rfl (some 12) (by kernel_rfl) (by kernel_rfl) (by kernel_rfl) (by kernel_rfl) (by kernel_rfl) (x := (Cv.XN k 9)) (y := (Cv.XN k 9)) true (XN_256 _ _) (XN_256 _ _) (decide_eq_true rfl) (by kernel_rfl) (.tmp 10) (.tmp 11) 22 (by kernel_rfl) (by kernel_rfl) (by kernel_rfl) (fun _ => hO7) ?_
  try simp only [p0, p1, p2, p3]
  refine fl_pure 4 #[true, true, true, true, true] (by kernel_rfl) rfl (some 2) (by kernel_rfl) (by kernel_rfl) (by kernel_rfl) (by kernel_rfl) (by kernel_rfl) (.bool true) (by kernel_rfl) (fun _ => by kernel_rfl) (fun _ => hO7) ?_
  try simp only [p0, p1, p2, p3]
  refine fl_done (by kernel_rfl) ?_
  show Code.wp _ _ _ _ _
  refine wp_ret ?_
  (try simp only [Exit.then, Exit.inBlock])
  refine bodyPost_ret (results_tmp rfl _ _ _) rfl ?_
  exact ⟨rfl, hO7.bl⟩
end Go.Proofs.YtkmgdpbmkbpkjaaDoor
