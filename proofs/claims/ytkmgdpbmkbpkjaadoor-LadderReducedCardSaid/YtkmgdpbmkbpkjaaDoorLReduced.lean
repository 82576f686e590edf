/-
  LadderReduced, walked: it answers true.
-/
import Derived.Test.YtkmgdpbmkbpkjaaDoorLadL
set_option linter.unusedVariables false
set_option linter.unusedSimpArgs false
namespace Go.Proofs.YtkmgdpbmkbpkjaaDoor
open Go.RowKit

theorem XN_base {k u v : Nat} (h : Cv.baseN u = Cv.baseN v) : Cv.XN k u = Cv.XN k v := by unfold Cv.XN; rw [h]
theorem base_low (u : Nat) : Cv.baseN (u % 2 ^ 255) = Cv.baseN u := by unfold Cv.baseN; rw [Nat.mod_mod]
theorem base_red (u : Nat) : Cv.baseN (u % 2 ^ 255 % p25) = Cv.baseN u := by
  rw [Cv.base_lt (lt_p25 _)]
  rfl
theorem set31_low {u : Nat} (hu : N256 u) : set31 u (byteN u 31 &&& 127) = u % 2 ^ 255 := by rw [and_127 _ (byteN_lt _ _), low255 hu]
set_option maxRecDepth 100000 in
set_option maxHeartbeats 8000000 in
theorem reduced_any {k u : Nat} (hk : N256 k) (hu : N256 u) (w : World) {tG : TypeId} (hG : Bk w 0 tG (c8 121665)) : Ret Tryd.prog 10 #[.agg (c8 k), .agg (c8 u)] w (.bool true) := by
  have hr := set31_low hu
  have hr2 : N256 (set31 u (byteN u 31 &&& 127)) := by rw [hr]; exact low_256 u
  have e1 : Cv.XN k u = Cv.XN k (set31 u (byteN u 31 &&& 127) % p25) := by rw [hr]; exact XN_base (base_red u).symm
  have e2 : Cv.XN k (set31 u (byteN u 31 &&& 127)) = Cv.XN k u := by rw [hr]; exact XN_base (base_low u)
  clear hr
  refine calls_of_wp Tryd.func10 rfl ?_
  simp only [Tryd.ntmps10, List.size_toArray, List.length_cons, List.length_nil, Nat.reduceAdd, Nat.reduceSub, Array.replicate_succ, Array.replicate_zero, List.push_toArray, List.append_toArray, List.nil_append, List.cons_append]
  have hO := Own.nil w
  refine wp_seq ?_
  refine wl_region ?_
  refine wl_new 22 (c8 k) rfl (by kernel_rfl) hO fun w1 hO1 => ?_
  clear hO
  try simp only [p0, p1, p2, p3]
  refine wl_new 22 (c8 u) rfl (by kernel_rfl) hO1 fun w2 hO2 => ?_
  clear hO1
  try simp only [p0, p1, p2, p3]
  refine wl_pure (.bool false) rfl (by kernel_rfl) ?_
  try simp only [p0, p1, p2, p3]
  refine wl_nil ?_
  show Code.wp _ _ _ _ _
  refine wp_seq ?_
  refine wp_seq ?_
  refine wl_region ?_
  refine wl_call (.bool true) rfl (by kernel_rfl) (alive_any _ (hG.below hO2.bl hG.lt)) hO2 fun w3 hO3 => ?_
  clear hO2
  try simp only [p0, p1, p2, p3]
  refine wl_pure (.bool false) rfl (by kernel_rfl) ?_
  try simp only [p0, p1, p2, p3]
  refine wl_nil ?_
  show Code.wp _ _ _ _ _
  refine wp_cond_false rfl ?_
  refine wp_skip ?_
  show Code.wp _ _ _ _ _
  refine wp_seq ?_
  refine wl_region ?_
  refine wl_load (c8 u) rfl 22 (.tmp 3) rfl w1.heap.size rfl 22 _ (hO3.get (.head _)) Tryd.underlying22 rfl (inum_c8 _) ?_
  try simp only [p0, p1, p2, p3]
  refine wl_new 22 (c8 0) rfl (by kernel_rfl) hO3 fun w4 hO4 => ?_
  clear hO3
  try simp only [p0, p1, p2, p3]
  refine wl_store (L1 := []) (L2 := ((w1.heap.size, 22, (c8 u)) :: (w.heap.size, 22, (c8 k)) :: [])) (cs := (c8 0)) (c8 u) rfl 22 (.tmp 5) (.tmp 8) rfl rfl rfl hO4 (by simp only [size_c8]) (inum_c8 _) (one_c8 _) fun w5 hO5 => ?_
  clear hO4
  simp only [List.nil_append, List.cons_append, List.set_cons_zero, List.set_cons_succ] at hO5
  try simp only [p0, p1, p2, p3]
  refine wl_nil ?_
  show Code.wp _ _ _ _ _
  refine wp_seq ?_
  refine wl_region ?_
  refine wl_pure (.pointer (some ⟨w3.heap.size, 31, none⟩)) rfl (by kernel_rfl) ?_
  try simp only [p0, p1, p2, p3]
  refine wl_byte 31 (by decide) rfl 5 (.tmp 9) rfl rfl (.head _) isAgg_u8 hO5 ?_
  try simp only [p0, p1, p2, p3]
  refine wl_pure (.int .u8 (((byteN u 31) &&& 127 : Nat) : Int)) rfl (u8run (run_and (byteN u 31) 127 (byteN_lt _ _) (by decide) _) (fun _ => rfl) rfl rfl rfl _) ?_
  try simp only [p0, p1, p2, p3]
  refine wl_pure (.pointer (some ⟨w3.heap.size, 31, none⟩)) rfl (by kernel_rfl) ?_
  try simp only [p0, p1, p2, p3]
  refine wl_setb (L1 := []) (L2 := ((w1.heap.size, 22, (c8 u)) :: (w.heap.size, 22, (c8 k)) :: [])) (n := u) (m := set31 u ((byteN u 31) &&& 127)) (b := (byteN u 31) &&& 127) 31 (by decide) (c8_set31 _ _ (Nat.lt_of_le_of_lt Nat.and_le_left (byteN_lt _ _))) rfl 5 (.tmp 12) (.tmp 11) rfl rfl rfl hO5 one_u8 fun w6 hO6 => ?_
  clear hO5
  simp only [List.nil_append, List.cons_append, List.set_cons_zero, List.set_cons_succ] at hO6
  try simp only [p0, p1, p2, p3]
  refine wl_nil ?_
  show Code.wp _ _ _ _ _
  refine wp_seq ?_
  refine fl_start [] #[false, false, false, false, false, false, false, false, false, false, false, false, false, false, false, false, false, false] (by kernel_rfl) (by kernel_rfl) hO6 fun w7 hO7 => ?_
  clear hO6
  refine fl_load 0 #[true, false, false, false, false, false, false, false, false, false, false, false, false, false, false, false, false, false] (by kernel_rfl) rfl (some 13) (by kernel_rfl) (by kernel_rfl) (by kernel_rfl) (by kernel_rfl) (by kernel_rfl) (c8 k) (by kernel_rfl) (by kernel_rfl) (by kernel_rfl) 22 (.tmp 2) (by kernel_rfl) w.heap.size (by kernel_rfl) 22 _ (fun _ h => h.get (.tail _ (.tail _ (.head _)))) Tryd.underlying22 rfl (inum_c8 _) hO7 ?_
  try simp only [p0, p1, p2, p3]
  refine fl_load 1 #[true, true, false, false, false, false, false, false, false, false, false, false, false, false, false, false, false, false] (by kernel_rfl) rfl (some 14) (by kernel_rfl) (by kernel_rfl) (by kernel_rfl) (by kernel_rfl) (by kernel_rfl) (c8 u) (by kernel_rfl) (by kernel_rfl) (by kernel_rfl) 22 (.tmp 3) (by kernel_rfl) w1.heap.size (by kernel_rfl) 22 _ (fun _ h => h.get (.tail _ (.head _))) Tryd.underlying22 rfl (inum_c8 _) hO7 ?_
  try simp only [p0, p1, p2, p3]
  refine fl_load 3 #[true, true, false, true, false, false, false, false, false, false, false, false, false, false, false, false, false, false] (by kernel_rfl) rfl (some 16) (by kernel_rfl) (by kernel_rfl) (by kernel_rfl) (by kernel_rfl) (by kernel_rfl) (c8 k) (by kernel_rfl) (by kernel_rfl) (by kernel_rfl) 22 (.tmp 2) (by kernel_rfl) w.heap.size (by kernel_rfl) 22 _ (fun _ h => h.get (.tail _ (.tail _ (.head _)))) Tryd.underlying22 rfl (inum_c8 _) hO7 ?_
  try simp only [p0, p1, p2, p3]
  refine fl_load 4 #[true, true, false, true, true, false, false, false, false, false, false, false, false, false, false, false, false, false] (by kernel_rfl) rfl (some 17) (by kernel_rfl) (by kernel_rfl) (by kernel_rfl) (by kernel_rfl) (by kernel_rfl) (c8 (set31 u ((byteN u 31) &&& 127))) (by kernel_rfl) (by kernel_rfl) (by kernel_rfl) 22 (.tmp 5) (by kernel_rfl) w3.heap.size (by kernel_rfl) 22 _ (fun _ h => h.get (.head _)) Tryd.underlying22 rfl (inum_c8 _) hO7 ?_
  try simp only [p0, p1, p2, p3]
  refine fl_call 2 #[true, true, true, true, true, false, false, false, false, false, false, false, false, false, false, false, false, false] (by kernel_rfl) rfl (some 15) (by kernel_rfl) rfl (by kernel_rfl) (.agg (c8 (Cv.XN k u))) (by kernel_rfl) (X_any hk hu _ (hG.below hO7.bl hG.lt)) hO7 (fun _ h => h) fun w8 hO8 => ?_
  try clear hO7
  try simp only [p0, p1, p2, p3]
  refine fl_call 5 #[true, true, true, true, true, true, false, false, false, false, false, false, false, false, false, false, false, false] (by kernel_rfl) rfl (some 18) (by kernel_rfl) rfl (by kernel_rfl) (.agg (c8 ((set31 u ((byteN u 31) &&& 127)) % p25))) (by kernel_rfl) (reduce_any (set31 u ((byteN u 31) &&& 127)) hr2 _) hO8 (fun _ h => h) fun w9 hO9 => ?_
  try clear hO8
  try simp only [p0, p1, p2, p3]
  refine fl_call 6 #[true, true, true, true, true, true, true, false, false, false, false, false, false, false, false, false, false, false] (by kernel_rfl) rfl (some 19) (by kernel_rfl) rfl (by kernel_rfl) (.agg (c8 (Cv.XN k ((set31 u ((byteN u 31) &&& 127)) % p25)))) (by kernel_rfl) (X_any hk (N256.mod _) _ (hG.below hO9.bl hG.lt)) hO9 (fun _ h => h) fun w10 hO10 => ?_
  try clear hO9
  try simp only [p0, p1, p2, p3]
  refine fl_eql 7 #[true, true, true, true, true, true, true, true, false, false, false, false, false, false, false, false, false, false] (by kernel_rfl) rfl (some 20) (by kernel_rfl) (by kernel_rfl) (by kernel_rfl) (by kernel_rfl) (by kernel_rfl) (x := (Cv.XN k u)) (y := (Cv.XN k ((set31 u ((byteN u 31) &&& 127)) % p25))) true (XN_256 _ _) (XN_256 _ _) (decide_eq_true e1) (by kernel_rfl) (.tmp 15) (.tmp 19) 22 (by kernel_rfl) (by kernel_rfl) (by kernel_rfl) (fun _ => hO10) ?_
  try simp only [p0, p1, p2, p3]
  refine fl_pure 8 #[true, true, true, true, true, true, true, true, true, false, false, false, false, false, false, false, false, false] (by kernel_rfl) rfl (some 21) (by kernel_rfl) (by kernel_rfl) (by kernel_rfl) (by kernel_rfl) (by kernel_rfl) (.bool true) (by kernel_rfl) (fun _ => by kernel_rfl) (fun _ => hO10) ?_
  try simp only [p0, p1, p2, p3]
  refine fl_load 9 #[true, true, true, true, true, true, true, true, true, true, false, false, false, false, false, false, false, false] (by kernel_rfl) rfl (some 22) (by kernel_rfl) (by kernel_rfl) (by kernel_rfl) (by kernel_rfl) (by kernel_rfl) (c8 k) (by kernel_rfl) (by kernel_rfl) (by kernel_rfl) 22 (.tmp 2) (by kernel_rfl) w.heap.size (by kernel_rfl) 22 _ (fun _ h => h.get (.tail _ (.tail _ (.head _)))) Tryd.underlying22 rfl (inum_c8 _) hO10 ?_
  try simp only [p0, p1, p2, p3]
  refine fl_load 10 #[true, true, true, true, true, true, true, true, true, true, true, false, false, false, false, false, false, false] (by kernel_rfl) rfl (some 23) (by kernel_rfl) (by kernel_rfl) (by kernel_rfl) (by kernel_rfl) (by kernel_rfl) (c8 (set31 u ((byteN u 31) &&& 127))) (by kernel_rfl) (by kernel_rfl) (by kernel_rfl) 22 (.tmp 5) (by kernel_rfl) w3.heap.size (by kernel_rfl) 22 _ (fun _ h => h.get (.head _)) Tryd.underlying22 rfl (inum_c8 _) hO10 ?_
  try simp only [p0, p1, p2, p3]
  refine fl_load 12 #[true, true, true, true, true, true, true, true, true, true, true, false, true, false, false, false, false, false] (by kernel_rfl) rfl (some 25) (by kernel_rfl) (by kernel_rfl) (by kernel_rfl) (by kernel_rfl) (by kernel_rfl) (c8 k) (by kernel_rfl) (by kernel_rfl) (by kernel_rfl) 22 (.tmp 2) (by kernel_rfl) w.heap.size (by kernel_rfl) 22 _ (fun _ h => h.get (.tail _ (.tail _ (.head _)))) Tryd.underlying22 rfl (inum_c8 _) hO10 ?_
  try simp only [p0, p1, p2, p3]
  refine fl_load 13 #[true, true, true, true, true, true, true, true, true, true, true, false, true, true, false, false, false, false] (by kernel_rfl) rfl (some 26) (by kernel_rfl) (by kernel_rfl) (by kernel_rfl) (by kernel_rfl) (by kernel_rfl) (c8 u) (by kernel_rfl) (by kernel_rfl) (by kernel_rfl) 22 (.tmp 3) (by kernel_rfl) w1.heap.size (by kernel_rfl) 22 _ (fun _ h => h.get (.tail _ (.head _))) Tryd.underlying22 rfl (inum_c8 _) hO10 ?_
  try simp only [p0, p1, p2, p3]
  refine fl_callg 11 #[true, true, true, true, true, true, true, true, true, true, true, true, true, true, false, false, false, false] (by kernel_rfl) rfl (some 24) (by kernel_rfl) (by kernel_rfl) (by kernel_rfl) (.agg (c8 (Cv.XN k (set31 u ((byteN u 31) &&& 127))))) (by kernel_rfl) (X_any hk hr2 _ (hG.below hO10.bl hG.lt)) hO10 (fun _ h => h) fun w11 hO11 => ?_
  try clear hO10
  try simp only [p0, p1, p2, p3]
  refine fl_callg 14 #[true, true, true, true, true, true, true, true, true, true, true, true, true, true, true, false, false, false] (by kernel_rfl) rfl (some 27) (by kernel_rfl) (by kernel_rfl) (by kernel_rfl) (.agg (c8 (Cv.XN k u))) (by kernel_rfl) (X_any hk hu _ (hG.below hO11.bl hG.lt)) hO11 (fun _ h => h) fun w12 hO12 => ?_
  try clear hO11
  try simp only [p0, p1, p2, p3]
  refine fl_eql 15 #[true, true, true, true, true, true, true, true, true, true, true, true, true, true, true, true, false, false] (by kernel_rfl) rfl (some 28) (by kernel_rfl) (by kernel_rfl) (by kernel_rfl) (by kernel_rfl) (by kernel_rfl) (x := (Cv.XN k (set31 u ((byteN u 31) &&& 127)))) (y := (Cv.XN k u)) true (XN_256 _ _) (XN_256 _ _) (decide_eq_true e2) (by kernel_rfl) (.tmp 24) (.tmp 27) 22 (by kernel_rfl) (by kernel_rfl) (by kernel_rfl) (fun _ => hO12) ?_
  try simp only [p0, p1, p2, p3]
  refine fl_pure 16 #[true, true, true, true, true, true, true, true, true, true, true, true, true, true, true, true, true, false] (by kernel_rfl) rfl (some 29) (by kernel_rfl) (by kernel_rfl) (by kernel_rfl) (by kernel_rfl) (by kernel_rfl) (.bool true) (by kernel_rfl) (fun _ => by kernel_rfl) (fun _ => hO12) ?_
  try simp only [p0, p1, p2, p3]
  refine fl_pure 17 #[true, true, true, true, true, true, true, true, true, true, true, true, true, true, true, true, true, true] (by kernel_rfl) rfl (some 4) (by kernel_rfl) (by kernel_rfl) (by kernel_rfl) (by kernel_rfl) (by kernel_rfl) (.bool true) (by kernel_rfl) (fun _ => by kernel_rfl) (fun _ => hO12) ?_
  try simp only [p0, p1, p2, p3]
  refine fl_done (by kernel_rfl) ?_
  show Code.wp _ _ _ _ _
  refine wp_ret ?_
  (try simp only [Exit.then, Exit.inBlock])
  refine bodyPost_ret (results_tmp rfl _ _ _) rfl ?_
  exact ⟨rfl, hO12.bl⟩
end Go.Proofs.YtkmgdpbmkbpkjaaDoor
