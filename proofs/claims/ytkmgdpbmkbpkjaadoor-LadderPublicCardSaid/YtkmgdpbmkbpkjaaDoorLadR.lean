/-
  The document's ladder, walked: the same fraction.
-/
import Derived.Test.YtkmgdpbmkbpkjaaDoorLadX
import Derived.Test.YtkmgdpbmkbpkjaaDoorGRef
set_option linter.unusedVariables false
set_option linter.unusedSimpArgs false
namespace Go.Proofs.YtkmgdpbmkbpkjaaDoor
open Go.RowKit

set_option maxRecDepth 100000 in
set_option maxHeartbeats 1000000 in
theorem turned_any (a b c d : Nat) (w : World) : Ret Tryd.prog 32 #[.agg (slab [a, b, c, d]).toArray] w (.agg (slab [c, d, a, b]).toArray) := by
  refine calls_of_wp Tryd.func32 rfl ?_
  simp only [Tryd.ntmps32, List.size_toArray, List.length_cons, List.length_nil, Nat.reduceAdd, Nat.reduceSub, Array.replicate_succ, Array.replicate_zero, List.push_toArray, List.append_toArray, List.nil_append, List.cons_append]
  have hO := Own.nil w
  refine wp_seq ?_
  refine wl_region ?_
  refine wl_new 60 (slab [a, b, c, d]).toArray rfl (by kernel_rfl) hO fun w1 hO1 => ?_
  clear hO
  try simp only [p0, p1, p2, p3]
  refine wl_new 60 (slab [0, 0, 0, 0]).toArray rfl (by kernel_rfl) hO1 fun w2 hO2 => ?_
  clear hO1
  try simp only [p0, p1, p2, p3]
  refine wl_nil ?_
  show Code.wp _ _ _ _ _
  refine wp_seq ?_
  refine wl_region ?_
  refine wl_pure (.pointer (some ⟨w.heap.size, 64, none⟩)) rfl (by kernel_rfl) ?_
  try simp only [p0, p1, p2, p3]
  refine wl_nth 2 c rfl 22 (.tmp 3) rfl rfl _ (.tail _ (.head _)) rfl hO2 Tryd.underlying22 rfl (inum_len _) ?_
  try simp only [p0, p1, p2, p3]
  refine wl_pure (.pointer (some ⟨w.heap.size, 96, none⟩)) rfl (by kernel_rfl) ?_
  try simp only [p0, p1, p2, p3]
  refine wl_nth 3 d rfl 22 (.tmp 5) rfl rfl _ (.tail _ (.head _)) rfl hO2 Tryd.underlying22 rfl (inum_len _) ?_
  try simp only [p0, p1, p2, p3]
  refine wl_pure (.pointer (some ⟨w.heap.size, 0, none⟩)) rfl (by kernel_rfl) ?_
  try simp only [p0, p1, p2, p3]
  refine wl_nth 0 a rfl 22 (.tmp 7) rfl rfl _ (.tail _ (.head _)) rfl hO2 Tryd.underlying22 rfl (inum_len _) ?_
  try simp only [p0, p1, p2, p3]
  refine wl_pure (.pointer (some ⟨w.heap.size, 32, none⟩)) rfl (by kernel_rfl) ?_
  try simp only [p0, p1, p2, p3]
  refine wl_nth 1 b rfl 22 (.tmp 9) rfl rfl _ (.tail _ (.head _)) rfl hO2 Tryd.underlying22 rfl (inum_len _) ?_
  try simp only [p0, p1, p2, p3]
  refine wl_pure (.agg (slab [c, d, a, b]).toArray) rfl (by kernel_rfl) ?_
  try simp only [p0, p1, p2, p3]
  refine wl_store (L1 := []) (L2 := ((w.heap.size, 60, (slab [a, b, c, d]).toArray) :: [])) (cs := (slab [0, 0, 0, 0]).toArray) (slab [c, d, a, b]).toArray rfl 60 (.tmp 2) (.tmp 11) rfl rfl rfl hO2 (by simp only [List.size_toArray, len_slab, List.length_cons, List.length_nil]) (by kernel_rfl) (one_slab _) fun w3 hO3 => ?_
  clear hO2
  simp only [List.nil_append, List.cons_append, List.set_cons_zero, List.set_cons_succ] at hO3
  try simp only [p0, p1, p2, p3]
  refine wl_nil ?_
  show Code.wp _ _ _ _ _
  refine wp_ret ?_
  (try simp only [Exit.then, Exit.inBlock])
  refine bodyPost_ret (results_cell_row rfl _ _ w1.heap.size 60 (slab [c, d, a, b]).toArray (0, 0) _ rfl (hO3.get (.head _)) Tryd.underlying60 rfl (by kernel_rfl)) rfl ?_
  exact ⟨rfl, hO3.bl⟩
set_option maxRecDepth 100000 in
set_option maxHeartbeats 8000000 in
theorem refStep_any {a b c d x : Nat} (ha : N256 a) (hb : N256 b) (hc : N256 c) (hd : N256 d) (hx : N256 x) (w : World) :
    Ret Tryd.prog 33 #[.agg (slab [a, b, c, d]).toArray, .agg (c8 x)] w (.agg (slab [(Cv.stepQ x ⟨a, b, c, d⟩).a, (Cv.stepQ x ⟨a, b, c, d⟩).b, (Cv.stepQ x ⟨a, b, c, d⟩).c, (Cv.stepQ x ⟨a, b, c, d⟩).d]).toArray) := by
  simp only [Cv.stepQ, Cv.nmul, Cv.nadd, Cv.nsub]
  refine calls_of_wp Tryd.func33 rfl ?_
  simp only [Tryd.ntmps33, List.size_toArray, List.length_cons, List.length_nil, Nat.reduceAdd, Nat.reduceSub, Array.replicate_succ, Array.replicate_zero, List.push_toArray, List.append_toArray, List.nil_append, List.cons_append]
  have hO := Own.nil w
  refine wp_seq ?_
  refine wl_region ?_
  refine wl_new 60 (slab [a, b, c, d]).toArray rfl (by kernel_rfl) hO fun w1 hO1 => ?_
  clear hO
  try simp only [p0, p1, p2, p3]
  refine wl_new 22 (c8 x) rfl (by kernel_rfl) hO1 fun w2 hO2 => ?_
  clear hO1
  try simp only [p0, p1, p2, p3]
  refine wl_new 60 (slab [0, 0, 0, 0]).toArray rfl (by kernel_rfl) hO2 fun w3 hO3 => ?_
  clear hO2
  try simp only [p0, p1, p2, p3]
  refine wl_nil ?_
  show Code.wp _ _ _ _ _
  refine wp_seq ?_
  refine fl_start [] #[false, false, false, false, false, false, false, false, false, false, false, false, false, false] (by kernel_rfl) (by kernel_rfl) hO3 fun w4 hO4 => ?_
  clear hO3
  refine fl_pure 0 #[true, false, false, false, false, false, false, false, false, false, false, false, false, false] (by kernel_rfl) rfl (some 16) (by kernel_rfl) (by kernel_rfl) (by kernel_rfl) (by kernel_rfl) (by kernel_rfl) (.pointer (some ⟨w.heap.size, 0, none⟩)) (by kernel_rfl) (fun _ => by kernel_rfl) (fun _ => hO4) ?_
  try simp only [p0, p1, p2, p3]
  refine fl_nth (l := [a, b, c, d]) 1 #[true, true, false, false, false, false, false, false, false, false, false, false, false, false] (by kernel_rfl) rfl (some 17) (by kernel_rfl) (by kernel_rfl) (by kernel_rfl) (by kernel_rfl) (by kernel_rfl) 0 a (by kernel_rfl) (by kernel_rfl) (by kernel_rfl) 22 (.tmp 16) (by kernel_rfl) (by kernel_rfl) _ (fun _ h => h.get (.tail _ (.tail _ (.head _)))) rfl Tryd.underlying22 rfl (inum_len _) hO4 ?_
  try simp only [p0, p1, p2, p3]
  refine fl_pure 2 #[true, true, true, false, false, false, false, false, false, false, false, false, false, false] (by kernel_rfl) rfl (some 18) (by kernel_rfl) (by kernel_rfl) (by kernel_rfl) (by kernel_rfl) (by kernel_rfl) (.pointer (some ⟨w.heap.size, 32, none⟩)) (by kernel_rfl) (fun _ => by kernel_rfl) (fun _ => hO4) ?_
  try simp only [p0, p1, p2, p3]
  refine fl_nth (l := [a, b, c, d]) 3 #[true, true, true, true, false, false, false, false, false, false, false, false, false, false] (by kernel_rfl) rfl (some 19) (by kernel_rfl) (by kernel_rfl) (by kernel_rfl) (by kernel_rfl) (by kernel_rfl) 1 b (by kernel_rfl) (by kernel_rfl) (by kernel_rfl) 22 (.tmp 18) (by kernel_rfl) (by kernel_rfl) _ (fun _ h => h.get (.tail _ (.tail _ (.head _)))) rfl Tryd.underlying22 rfl (inum_len _) hO4 ?_
  try simp only [p0, p1, p2, p3]
  refine fl_pure 5 #[true, true, true, true, false, true, false, false, false, false, false, false, false, false] (by kernel_rfl) rfl (some 21) (by kernel_rfl) (by kernel_rfl) (by kernel_rfl) (by kernel_rfl) (by kernel_rfl) (.pointer (some ⟨w.heap.size, 0, none⟩)) (by kernel_rfl) (fun _ => by kernel_rfl) (fun _ => hO4) ?_
  try simp only [p0, p1, p2, p3]
  refine fl_nth (l := [a, b, c, d]) 6 #[true, true, true, true, false, true, true, false, false, false, false, false, false, false] (by kernel_rfl) rfl (some 22) (by kernel_rfl) (by kernel_rfl) (by kernel_rfl) (by kernel_rfl) (by kernel_rfl) 0 a (by kernel_rfl) (by kernel_rfl) (by kernel_rfl) 22 (.tmp 21) (by kernel_rfl) (by kernel_rfl) _ (fun _ h => h.get (.tail _ (.tail _ (.head _)))) rfl Tryd.underlying22 rfl (inum_len _) hO4 ?_
  try simp only [p0, p1, p2, p3]
  refine fl_pure 7 #[true, true, true, true, false, true, true, true, false, false, false, false, false, false] (by kernel_rfl) rfl (some 23) (by kernel_rfl) (by kernel_rfl) (by kernel_rfl) (by kernel_rfl) (by kernel_rfl) (.pointer (some ⟨w.heap.size, 32, none⟩)) (by kernel_rfl) (fun _ => by kernel_rfl) (fun _ => hO4) ?_
  try simp only [p0, p1, p2, p3]
  refine fl_nth (l := [a, b, c, d]) 8 #[true, true, true, true, false, true, true, true, true, false, false, false, false, false] (by kernel_rfl) rfl (some 24) (by kernel_rfl) (by kernel_rfl) (by kernel_rfl) (by kernel_rfl) (by kernel_rfl) 1 b (by kernel_rfl) (by kernel_rfl) (by kernel_rfl) 22 (.tmp 23) (by kernel_rfl) (by kernel_rfl) _ (fun _ h => h.get (.tail _ (.tail _ (.head _)))) rfl Tryd.underlying22 rfl (inum_len _) hO4 ?_
  try simp only [p0, p1, p2, p3]
  refine calls2 (fuel := 2) (AllocAt.mk (i := 10) (t := 22) (cs := (c8 0)) rfl rfl rfl (fun _ _ => by kernel_rfl)) (AllocAt.mk (i := 11) (t := 22) (cs := (c8 0)) rfl rfl rfl (fun _ _ => by kernel_rfl)) (by decide) (by decide) [(4, 20, .agg (c8 ((a + b) % p25))), (9, 25, .agg (c8 ((a + 4 * p25 - b) % p25)))] _ _ (by kernel_rfl) ⟨CallAt.mk rfl (by kernel_rfl) rfl rfl (fun _ => by kernel_rfl) (fun _ hs => refAdd_any a b ha hb _), ⟨CallAt.mk rfl (by kernel_rfl) rfl rfl (fun _ => by kernel_rfl) (fun _ hs => refSub_any a b ha hb _), trivial⟩⟩ (by kernel_rfl) (by kernel_rfl) (fun _ h => h) (fun gw5_0 gw5_1 w5 hO5 => ?_) _ hO4
  clear hO4
  simp only [lst, acts]
  try simp only [p0, p1, p2, p3]
  refine fl_set (L1 := []) (L2 := ((gw5_1, 22, (c8 0)) :: (w2.heap.size, 60, (slab [0, 0, 0, 0]).toArray) :: (w1.heap.size, 22, (c8 x)) :: (w.heap.size, 60, (slab [a, b, c, d]).toArray) :: [])) (cs := (c8 0)) 12 #[true, true, true, true, true, true, true, true, true, true, true, true, true, false] (by kernel_rfl) rfl none (by kernel_rfl) rfl (by kernel_rfl) (c8 ((a + b) % p25)) 22 (.tmp 5) (.tmp 20) rfl rfl rfl hO5 (by simp only [size_c8]) (inum_c8 _) (one_c8 _) (fun _ h _ => h.tail.tail) fun w6 hO6 => ?_
  try clear hO5
  simp only [List.nil_append, List.cons_append, List.set_cons_zero, List.set_cons_succ] at hO6
  try simp only [p0, p1, p2, p3]
  refine fl_set (L1 := [(gw5_0, 22, (c8 ((a + b) % p25)))]) (L2 := ((w2.heap.size, 60, (slab [0, 0, 0, 0]).toArray) :: (w1.heap.size, 22, (c8 x)) :: (w.heap.size, 60, (slab [a, b, c, d]).toArray) :: [])) (cs := (c8 0)) 13 #[true, true, true, true, true, true, true, true, true, true, true, true, true, true] (by kernel_rfl) rfl none (by kernel_rfl) rfl (by kernel_rfl) (c8 ((a + 4 * p25 - b) % p25)) 22 (.tmp 6) (.tmp 25) rfl rfl rfl hO6 (by simp only [size_c8]) (inum_c8 _) (one_c8 _) (fun _ h _ => h.tail.tail) fun w7 hO7 => ?_
  try clear hO6
  simp only [List.nil_append, List.cons_append, List.set_cons_zero, List.set_cons_succ] at hO7
  try simp only [p0, p1, p2, p3]
  refine fl_done (by kernel_rfl) ?_
  show Code.wp _ _ _ _ _
  refine wp_seq ?_
  refine fl_start [] #[false, false, false, false, false, false, false, false, false] (by kernel_rfl) (by kernel_rfl) hO7 fun w8 hO8 => ?_
  clear hO7
  refine fl_pure 0 #[true, false, false, false, false, false, false, false, false] (by kernel_rfl) rfl (some 26) (by kernel_rfl) (by kernel_rfl) (by kernel_rfl) (by kernel_rfl) (by kernel_rfl) (.pointer (some ⟨w.heap.size, 64, none⟩)) (by kernel_rfl) (fun _ => by kernel_rfl) (fun _ => hO8) ?_
  try simp only [p0, p1, p2, p3]
  refine fl_nth (l := [a, b, c, d]) 1 #[true, true, false, false, false, false, false, false, false] (by kernel_rfl) rfl (some 27) (by kernel_rfl) (by kernel_rfl) (by kernel_rfl) (by kernel_rfl) (by kernel_rfl) 2 c (by kernel_rfl) (by kernel_rfl) (by kernel_rfl) 22 (.tmp 26) (by kernel_rfl) (by kernel_rfl) _ (fun _ h => h.get (.tail _ (.tail _ (.tail _ (.tail _ (.head _)))))) rfl Tryd.underlying22 rfl (inum_len _) hO8 ?_
  try simp only [p0, p1, p2, p3]
  refine fl_pure 2 #[true, true, true, false, false, false, false, false, false] (by kernel_rfl) rfl (some 28) (by kernel_rfl) (by kernel_rfl) (by kernel_rfl) (by kernel_rfl) (by kernel_rfl) (.pointer (some ⟨w.heap.size, 96, none⟩)) (by kernel_rfl) (fun _ => by kernel_rfl) (fun _ => hO8) ?_
  try simp only [p0, p1, p2, p3]
  refine fl_nth (l := [a, b, c, d]) 3 #[true, true, true, true, false, false, false, false, false] (by kernel_rfl) rfl (some 29) (by kernel_rfl) (by kernel_rfl) (by kernel_rfl) (by kernel_rfl) (by kernel_rfl) 3 d (by kernel_rfl) (by kernel_rfl) (by kernel_rfl) 22 (.tmp 28) (by kernel_rfl) (by kernel_rfl) _ (fun _ h => h.get (.tail _ (.tail _ (.tail _ (.tail _ (.head _)))))) rfl Tryd.underlying22 rfl (inum_len _) hO8 ?_
  try simp only [p0, p1, p2, p3]
  refine fl_load 5 #[true, true, true, true, false, true, false, false, false] (by kernel_rfl) rfl (some 31) (by kernel_rfl) (by kernel_rfl) (by kernel_rfl) (by kernel_rfl) (by kernel_rfl) (c8 ((a + 4 * p25 - b) % p25)) (by kernel_rfl) (by kernel_rfl) (by kernel_rfl) 22 (.tmp 6) (by kernel_rfl) gw5_1 (by kernel_rfl) 22 _ (fun _ h => h.get (.tail _ (.head _))) Tryd.underlying22 rfl (inum_c8 _) hO8 ?_
  try simp only [p0, p1, p2, p3]
  refine calls1 (fuel := 1) (AllocAt.mk (i := 7) (t := 22) (cs := (c8 0)) rfl rfl rfl (fun _ _ => by kernel_rfl)) [(4, 30, .agg (c8 ((c + d) % p25))), (6, 32, .agg (c8 (((c + d) % p25) * ((a + 4 * p25 - b) % p25) % p25)))] _ _ _ (by kernel_rfl) ⟨CallAt.mk rfl (by kernel_rfl) rfl rfl (fun _ => by kernel_rfl) (fun _ hs => refAdd_any c d hc hd _), ⟨CallAt.mk rfl (by kernel_rfl) rfl rfl (fun _ => by kernel_rfl) (fun _ hs => refMul_any ((c + d) % p25) ((a + 4 * p25 - b) % p25) (N256.mod _) (N256.mod _) _), trivial⟩⟩ (by kernel_rfl) (fun _ h => h) (fun gw9_0 w9 hO9 => ?_) _ hO8
  clear hO8
  simp only [lst, acts]
  try simp only [p0, p1, p2, p3]
  refine fl_set (L1 := []) (L2 := ((gw5_0, 22, (c8 ((a + b) % p25))) :: (gw5_1, 22, (c8 ((a + 4 * p25 - b) % p25))) :: (w2.heap.size, 60, (slab [0, 0, 0, 0]).toArray) :: (w1.heap.size, 22, (c8 x)) :: (w.heap.size, 60, (slab [a, b, c, d]).toArray) :: [])) (cs := (c8 0)) 8 #[true, true, true, true, true, true, true, true, true] (by kernel_rfl) rfl none (by kernel_rfl) rfl (by kernel_rfl) (c8 (((c + d) % p25) * ((a + 4 * p25 - b) % p25) % p25)) 22 (.tmp 7) (.tmp 32) rfl rfl rfl hO9 (by simp only [size_c8]) (inum_c8 _) (one_c8 _) (fun _ h _ => h.tail) fun w10 hO10 => ?_
  try clear hO9
  simp only [List.nil_append, List.cons_append, List.set_cons_zero, List.set_cons_succ] at hO10
  try simp only [p0, p1, p2, p3]
  refine fl_done (by kernel_rfl) ?_
  show Code.wp _ _ _ _ _
  refine wp_seq ?_
  refine fl_start [] #[false, false, false, false, false, false, false, false, false] (by kernel_rfl) (by kernel_rfl) hO10 fun w11 hO11 => ?_
  clear hO10
  refine fl_pure 0 #[true, false, false, false, false, false, false, false, false] (by kernel_rfl) rfl (some 33) (by kernel_rfl) (by kernel_rfl) (by kernel_rfl) (by kernel_rfl) (by kernel_rfl) (.pointer (some ⟨w.heap.size, 64, none⟩)) (by kernel_rfl) (fun _ => by kernel_rfl) (fun _ => hO11) ?_
  try simp only [p0, p1, p2, p3]
  refine fl_nth (l := [a, b, c, d]) 1 #[true, true, false, false, false, false, false, false, false] (by kernel_rfl) rfl (some 34) (by kernel_rfl) (by kernel_rfl) (by kernel_rfl) (by kernel_rfl) (by kernel_rfl) 2 c (by kernel_rfl) (by kernel_rfl) (by kernel_rfl) 22 (.tmp 33) (by kernel_rfl) (by kernel_rfl) _ (fun _ h => h.get (.tail _ (.tail _ (.tail _ (.tail _ (.tail _ (.head _))))))) rfl Tryd.underlying22 rfl (inum_len _) hO11 ?_
  try simp only [p0, p1, p2, p3]
  refine fl_pure 2 #[true, true, true, false, false, false, false, false, false] (by kernel_rfl) rfl (some 35) (by kernel_rfl) (by kernel_rfl) (by kernel_rfl) (by kernel_rfl) (by kernel_rfl) (.pointer (some ⟨w.heap.size, 96, none⟩)) (by kernel_rfl) (fun _ => by kernel_rfl) (fun _ => hO11) ?_
  try simp only [p0, p1, p2, p3]
  refine fl_nth (l := [a, b, c, d]) 3 #[true, true, true, true, false, false, false, false, false] (by kernel_rfl) rfl (some 36) (by kernel_rfl) (by kernel_rfl) (by kernel_rfl) (by kernel_rfl) (by kernel_rfl) 3 d (by kernel_rfl) (by kernel_rfl) (by kernel_rfl) 22 (.tmp 35) (by kernel_rfl) (by kernel_rfl) _ (fun _ h => h.get (.tail _ (.tail _ (.tail _ (.tail _ (.tail _ (.head _))))))) rfl Tryd.underlying22 rfl (inum_len _) hO11 ?_
  try simp only [p0, p1, p2, p3]
  refine fl_load 5 #[true, true, true, true, false, true, false, false, false] (by kernel_rfl) rfl (some 38) (by kernel_rfl) (by kernel_rfl) (by kernel_rfl) (by kernel_rfl) (by kernel_rfl) (c8 ((a + b) % p25)) (by kernel_rfl) (by kernel_rfl) (by kernel_rfl) 22 (.tmp 5) (by kernel_rfl) gw5_0 (by kernel_rfl) 22 _ (fun _ h => h.get (.tail _ (.head _))) Tryd.underlying22 rfl (inum_c8 _) hO11 ?_
  try simp only [p0, p1, p2, p3]
  refine calls1 (fuel := 1) (AllocAt.mk (i := 7) (t := 22) (cs := (c8 0)) rfl rfl rfl (fun _ _ => by kernel_rfl)) [(4, 37, .agg (c8 ((c + 4 * p25 - d) % p25))), (6, 39, .agg (c8 (((c + 4 * p25 - d) % p25) * ((a + b) % p25) % p25)))] _ _ _ (by kernel_rfl) ⟨CallAt.mk rfl (by kernel_rfl) rfl rfl (fun _ => by kernel_rfl) (fun _ hs => refSub_any c d hc hd _), ⟨CallAt.mk rfl (by kernel_rfl) rfl rfl (fun _ => by kernel_rfl) (fun _ hs => refMul_any ((c + 4 * p25 - d) % p25) ((a + b) % p25) (N256.mod _) (N256.mod _) _), trivial⟩⟩ (by kernel_rfl) (fun _ h => h) (fun gw12_0 w12 hO12 => ?_) _ hO11
  clear hO11
  simp only [lst, acts]
  try simp only [p0, p1, p2, p3]
  refine fl_set (L1 := []) (L2 := ((gw9_0, 22, (c8 (((c + d) % p25) * ((a + 4 * p25 - b) % p25) % p25))) :: (gw5_0, 22, (c8 ((a + b) % p25))) :: (gw5_1, 22, (c8 ((a + 4 * p25 - b) % p25))) :: (w2.heap.size, 60, (slab [0, 0, 0, 0]).toArray) :: (w1.heap.size, 22, (c8 x)) :: (w.heap.size, 60, (slab [a, b, c, d]).toArray) :: [])) (cs := (c8 0)) 8 #[true, true, true, true, true, true, true, true, true] (by kernel_rfl) rfl none (by kernel_rfl) rfl (by kernel_rfl) (c8 (((c + 4 * p25 - d) % p25) * ((a + b) % p25) % p25)) 22 (.tmp 8) (.tmp 39) rfl rfl rfl hO12 (by simp only [size_c8]) (inum_c8 _) (one_c8 _) (fun _ h _ => h.tail) fun w13 hO13 => ?_
  try clear hO12
  simp only [List.nil_append, List.cons_append, List.set_cons_zero, List.set_cons_succ] at hO13
  try simp only [p0, p1, p2, p3]
  refine fl_done (by kernel_rfl) ?_
  show Code.wp _ _ _ _ _
  refine wp_seq ?_
  refine fl_start [] #[false, false, false, false, false, false, false, false, false, false] (by kernel_rfl) (by kernel_rfl) hO13 fun w14 hO14 => ?_
  clear hO13
  refine fl_load 0 #[true, false, false, false, false, false, false, false, false, false] (by kernel_rfl) rfl (some 40) (by kernel_rfl) (by kernel_rfl) (by kernel_rfl) (by kernel_rfl) (by kernel_rfl) (c8 ((a + b) % p25)) (by kernel_rfl) (by kernel_rfl) (by kernel_rfl) 22 (.tmp 5) (by kernel_rfl) gw5_0 (by kernel_rfl) 22 _ (fun _ h => h.get (.tail _ (.tail _ (.head _)))) Tryd.underlying22 rfl (inum_c8 _) hO14 ?_
  try simp only [p0, p1, p2, p3]
  refine fl_load 1 #[true, true, false, false, false, false, false, false, false, false] (by kernel_rfl) rfl (some 41) (by kernel_rfl) (by kernel_rfl) (by kernel_rfl) (by kernel_rfl) (by kernel_rfl) (c8 ((a + b) % p25)) (by kernel_rfl) (by kernel_rfl) (by kernel_rfl) 22 (.tmp 5) (by kernel_rfl) gw5_0 (by kernel_rfl) 22 _ (fun _ h => h.get (.tail _ (.tail _ (.head _)))) Tryd.underlying22 rfl (inum_c8 _) hO14 ?_
  try simp only [p0, p1, p2, p3]
  refine fl_load 3 #[true, true, false, true, false, false, false, false, false, false] (by kernel_rfl) rfl (some 43) (by kernel_rfl) (by kernel_rfl) (by kernel_rfl) (by kernel_rfl) (by kernel_rfl) (c8 ((a + 4 * p25 - b) % p25)) (by kernel_rfl) (by kernel_rfl) (by kernel_rfl) 22 (.tmp 6) (by kernel_rfl) gw5_1 (by kernel_rfl) 22 _ (fun _ h => h.get (.tail _ (.tail _ (.tail _ (.head _))))) Tryd.underlying22 rfl (inum_c8 _) hO14 ?_
  try simp only [p0, p1, p2, p3]
  refine fl_load 4 #[true, true, false, true, true, false, false, false, false, false] (by kernel_rfl) rfl (some 44) (by kernel_rfl) (by kernel_rfl) (by kernel_rfl) (by kernel_rfl) (by kernel_rfl) (c8 ((a + 4 * p25 - b) % p25)) (by kernel_rfl) (by kernel_rfl) (by kernel_rfl) 22 (.tmp 6) (by kernel_rfl) gw5_1 (by kernel_rfl) 22 _ (fun _ h => h.get (.tail _ (.tail _ (.tail _ (.head _))))) Tryd.underlying22 rfl (inum_c8 _) hO14 ?_
  try simp only [p0, p1, p2, p3]
  refine calls2 (fuel := 2) (AllocAt.mk (i := 6) (t := 22) (cs := (c8 0)) rfl rfl rfl (fun _ _ => by kernel_rfl)) (AllocAt.mk (i := 7) (t := 22) (cs := (c8 0)) rfl rfl rfl (fun _ _ => by kernel_rfl)) (by decide) (by decide) [(2, 42, .agg (c8 (((a + b) % p25) * ((a + b) % p25) % p25))), (5, 45, .agg (c8 (((a + 4 * p25 - b) % p25) * ((a + 4 * p25 - b) % p25) % p25)))] _ _ (by kernel_rfl) ⟨CallAt.mk rfl (by kernel_rfl) rfl rfl (fun _ => by kernel_rfl) (fun _ hs => refMul_any ((a + b) % p25) ((a + b) % p25) (N256.mod _) (N256.mod _) _), ⟨CallAt.mk rfl (by kernel_rfl) rfl rfl (fun _ => by kernel_rfl) (fun _ hs => refMul_any ((a + 4 * p25 - b) % p25) ((a + 4 * p25 - b) % p25) (N256.mod _) (N256.mod _) _), trivial⟩⟩ (by kernel_rfl) (by kernel_rfl) (fun _ h => h) (fun gw15_0 gw15_1 w15 hO15 => ?_) _ hO14
  clear hO14
  simp only [lst, acts]
  try simp only [p0, p1, p2, p3]
  refine fl_set (L1 := []) (L2 := ((gw15_1, 22, (c8 0)) :: (gw12_0, 22, (c8 (((c + 4 * p25 - d) % p25) * ((a + b) % p25) % p25))) :: (gw9_0, 22, (c8 (((c + d) % p25) * ((a + 4 * p25 - b) % p25) % p25))) :: (gw5_0, 22, (c8 ((a + b) % p25))) :: (gw5_1, 22, (c8 ((a + 4 * p25 - b) % p25))) :: (w2.heap.size, 60, (slab [0, 0, 0, 0]).toArray) :: (w1.heap.size, 22, (c8 x)) :: (w.heap.size, 60, (slab [a, b, c, d]).toArray) :: [])) (cs := (c8 0)) 8 #[true, true, true, true, true, true, true, true, true, false] (by kernel_rfl) rfl none (by kernel_rfl) rfl (by kernel_rfl) (c8 (((a + b) % p25) * ((a + b) % p25) % p25)) 22 (.tmp 9) (.tmp 42) rfl rfl rfl hO15 (by simp only [size_c8]) (inum_c8 _) (one_c8 _) (fun _ h _ => h.tail.tail) fun w16 hO16 => ?_
  try clear hO15
  simp only [List.nil_append, List.cons_append, List.set_cons_zero, List.set_cons_succ] at hO16
  try simp only [p0, p1, p2, p3]
  refine fl_set (L1 := [(gw15_0, 22, (c8 (((a + b) % p25) * ((a + b) % p25) % p25)))]) (L2 := ((gw12_0, 22, (c8 (((c + 4 * p25 - d) % p25) * ((a + b) % p25) % p25))) :: (gw9_0, 22, (c8 (((c + d) % p25) * ((a + 4 * p25 - b) % p25) % p25))) :: (gw5_0, 22, (c8 ((a + b) % p25))) :: (gw5_1, 22, (c8 ((a + 4 * p25 - b) % p25))) :: (w2.heap.size, 60, (slab [0, 0, 0, 0]).toArray) :: (w1.heap.size, 22, (c8 x)) :: (w.heap.size, 60, (slab [a, b, c, d]).toArray) :: [])) (cs := (c8 0)) 9 #[true, true, true, true, true, true, true, true, true, true] (by kernel_rfl) rfl none (by kernel_rfl) rfl (by kernel_rfl) (c8 (((a + 4 * p25 - b) % p25) * ((a + 4 * p25 - b) % p25) % p25)) 22 (.tmp 10) (.tmp 45) rfl rfl rfl hO16 (by simp only [size_c8]) (inum_c8 _) (one_c8 _) (fun _ h _ => h.tail.tail) fun w17 hO17 => ?_
  try clear hO16
  simp only [List.nil_append, List.cons_append, List.set_cons_zero, List.set_cons_succ] at hO17
  try simp only [p0, p1, p2, p3]
  refine fl_done (by kernel_rfl) ?_
  show Code.wp _ _ _ _ _
  refine wp_seq ?_
  refine wl_region ?_
  refine wl_load (c8 (((a + b) % p25) * ((a + b) % p25) % p25)) rfl 22 (.tmp 9) rfl gw15_0 rfl 22 _ (hO17.get (.head _)) Tryd.underlying22 rfl (inum_c8 _) ?_
  try simp only [p0, p1, p2, p3]
  refine wl_load (c8 (((a + 4 * p25 - b) % p25) * ((a + 4 * p25 - b) % p25) % p25)) rfl 22 (.tmp 10) rfl gw15_1 rfl 22 _ (hO17.get (.tail _ (.head _))) Tryd.underlying22 rfl (inum_c8 _) ?_
  try simp only [p0, p1, p2, p3]
  refine wl_call (.agg (c8 (((((a + b) % p25) * ((a + b) % p25) % p25) + 4 * p25 - (((a + 4 * p25 - b) % p25) * ((a + 4 * p25 - b) % p25) % p25)) % p25))) rfl (by kernel_rfl) (refSub_any (((a + b) % p25) * ((a + b) % p25) % p25) (((a + 4 * p25 - b) % p25) * ((a + 4 * p25 - b) % p25) % p25) (N256.mod _) (N256.mod _) _) hO17 fun w18 hO18 => ?_
  clear hO17
  try simp only [p0, p1, p2, p3]
  refine wl_new 22 (c8 0) rfl (by kernel_rfl) hO18 fun w19 hO19 => ?_
  clear hO18
  try simp only [p0, p1, p2, p3]
  refine wl_store (L1 := []) (L2 := ((gw15_0, 22, (c8 (((a + b) % p25) * ((a + b) % p25) % p25))) :: (gw15_1, 22, (c8 (((a + 4 * p25 - b) % p25) * ((a + 4 * p25 - b) % p25) % p25))) :: (gw12_0, 22, (c8 (((c + 4 * p25 - d) % p25) * ((a + b) % p25) % p25))) :: (gw9_0, 22, (c8 (((c + d) % p25) * ((a + 4 * p25 - b) % p25) % p25))) :: (gw5_0, 22, (c8 ((a + b) % p25))) :: (gw5_1, 22, (c8 ((a + 4 * p25 - b) % p25))) :: (w2.heap.size, 60, (slab [0, 0, 0, 0]).toArray) :: (w1.heap.size, 22, (c8 x)) :: (w.heap.size, 60, (slab [a, b, c, d]).toArray) :: [])) (cs := (c8 0)) (c8 (((((a + b) % p25) * ((a + b) % p25) % p25) + 4 * p25 - (((a + 4 * p25 - b) % p25) * ((a + 4 * p25 - b) % p25) % p25)) % p25)) rfl 22 (.tmp 11) (.tmp 48) rfl rfl rfl hO19 (by simp only [size_c8]) (inum_c8 _) (one_c8 _) fun w20 hO20 => ?_
  clear hO19
  simp only [List.nil_append, List.cons_append, List.set_cons_zero, List.set_cons_succ] at hO20
  try simp only [p0, p1, p2, p3]
  refine wl_nil ?_
  show Code.wp _ _ _ _ _
  refine wp_seq ?_
  refine wl_region ?_
  refine wl_pure (.agg (c8 121665)) rfl (by kernel_rfl) ?_
  try simp only [p0, p1, p2, p3]
  refine wl_new 22 (c8 0) rfl (by kernel_rfl) hO20 fun w21 hO21 => ?_
  clear hO20
  try simp only [p0, p1, p2, p3]
  refine wl_store (L1 := []) (L2 := ((w18.heap.size, 22, (c8 (((((a + b) % p25) * ((a + b) % p25) % p25) + 4 * p25 - (((a + 4 * p25 - b) % p25) * ((a + 4 * p25 - b) % p25) % p25)) % p25))) :: (gw15_0, 22, (c8 (((a + b) % p25) * ((a + b) % p25) % p25))) :: (gw15_1, 22, (c8 (((a + 4 * p25 - b) % p25) * ((a + 4 * p25 - b) % p25) % p25))) :: (gw12_0, 22, (c8 (((c + 4 * p25 - d) % p25) * ((a + b) % p25) % p25))) :: (gw9_0, 22, (c8 (((c + d) % p25) * ((a + 4 * p25 - b) % p25) % p25))) :: (gw5_0, 22, (c8 ((a + b) % p25))) :: (gw5_1, 22, (c8 ((a + 4 * p25 - b) % p25))) :: (w2.heap.size, 60, (slab [0, 0, 0, 0]).toArray) :: (w1.heap.size, 22, (c8 x)) :: (w.heap.size, 60, (slab [a, b, c, d]).toArray) :: [])) (cs := (c8 0)) (c8 121665) rfl 22 (.tmp 12) (.tmp 49) rfl rfl rfl hO21 (by simp only [size_c8]) (inum_c8 _) (one_c8 _) fun w22 hO22 => ?_
  clear hO21
  simp only [List.nil_append, List.cons_append, List.set_cons_zero, List.set_cons_succ] at hO22
  try simp only [p0, p1, p2, p3]
  refine wl_nil ?_
  show Code.wp _ _ _ _ _
  refine wp_seq ?_
  refine fl_start [] #[false, false, false, false, false, false, false] (by kernel_rfl) (by kernel_rfl) hO22 fun w23 hO23 => ?_
  clear hO22
  refine fl_load 0 #[true, false, false, false, false, false, false] (by kernel_rfl) rfl (some 50) (by kernel_rfl) (by kernel_rfl) (by kernel_rfl) (by kernel_rfl) (by kernel_rfl) (c8 (((a + b) % p25) * ((a + b) % p25) % p25)) (by kernel_rfl) (by kernel_rfl) (by kernel_rfl) 22 (.tmp 9) (by kernel_rfl) gw15_0 (by kernel_rfl) 22 _ (fun _ h => h.get (.tail _ (.tail _ (.head _)))) Tryd.underlying22 rfl (inum_c8 _) hO23 ?_
  try simp only [p0, p1, p2, p3]
  refine fl_load 1 #[true, true, false, false, false, false, false] (by kernel_rfl) rfl (some 51) (by kernel_rfl) (by kernel_rfl) (by kernel_rfl) (by kernel_rfl) (by kernel_rfl) (c8 121665) (by kernel_rfl) (by kernel_rfl) (by kernel_rfl) 22 (.tmp 12) (by kernel_rfl) w20.heap.size (by kernel_rfl) 22 _ (fun _ h => h.get (.head _)) Tryd.underlying22 rfl (inum_c8 _) hO23 ?_
  try simp only [p0, p1, p2, p3]
  refine fl_load 2 #[true, true, true, false, false, false, false] (by kernel_rfl) rfl (some 52) (by kernel_rfl) (by kernel_rfl) (by kernel_rfl) (by kernel_rfl) (by kernel_rfl) (c8 (((((a + b) % p25) * ((a + b) % p25) % p25) + 4 * p25 - (((a + 4 * p25 - b) % p25) * ((a + 4 * p25 - b) % p25) % p25)) % p25)) (by kernel_rfl) (by kernel_rfl) (by kernel_rfl) 22 (.tmp 11) (by kernel_rfl) w18.heap.size (by kernel_rfl) 22 _ (fun _ h => h.get (.tail _ (.head _))) Tryd.underlying22 rfl (inum_c8 _) hO23 ?_
  try simp only [p0, p1, p2, p3]
  refine calls1 (fuel := 1) (AllocAt.mk (i := 5) (t := 22) (cs := (c8 0)) rfl rfl rfl (fun _ _ => by kernel_rfl)) [(3, 53, .agg (c8 (121665 * (((((a + b) % p25) * ((a + b) % p25) % p25) + 4 * p25 - (((a + 4 * p25 - b) % p25) * ((a + 4 * p25 - b) % p25) % p25)) % p25) % p25))), (4, 54, .agg (c8 (((((a + b) % p25) * ((a + b) % p25) % p25) + (121665 * (((((a + b) % p25) * ((a + b) % p25) % p25) + 4 * p25 - (((a + 4 * p25 - b) % p25) * ((a + 4 * p25 - b) % p25) % p25)) % p25) % p25)) % p25)))] _ _ _ (by kernel_rfl) ⟨CallAt.mk rfl (by kernel_rfl) rfl rfl (fun _ => by kernel_rfl) (fun _ hs => refMul_any 121665 (((((a + b) % p25) * ((a + b) % p25) % p25) + 4 * p25 - (((a + 4 * p25 - b) % p25) * ((a + 4 * p25 - b) % p25) % p25)) % p25) (by unfold N256; omega) (N256.mod _) _), ⟨CallAt.mk rfl (by kernel_rfl) rfl rfl (fun _ => by kernel_rfl) (fun _ hs => refAdd_any (((a + b) % p25) * ((a + b) % p25) % p25) (121665 * (((((a + b) % p25) * ((a + b) % p25) % p25) + 4 * p25 - (((a + 4 * p25 - b) % p25) * ((a + 4 * p25 - b) % p25) % p25)) % p25) % p25) (N256.mod _) (N256.mod _) _), trivial⟩⟩ (by kernel_rfl) (fun _ h => h) (fun gw24_0 w24 hO24 => ?_) _ hO23
  clear hO23
  simp only [lst, acts]
  try simp only [p0, p1, p2, p3]
  refine fl_set (L1 := []) (L2 := ((w20.heap.size, 22, (c8 121665)) :: (w18.heap.size, 22, (c8 (((((a + b) % p25) * ((a + b) % p25) % p25) + 4 * p25 - (((a + 4 * p25 - b) % p25) * ((a + 4 * p25 - b) % p25) % p25)) % p25))) :: (gw15_0, 22, (c8 (((a + b) % p25) * ((a + b) % p25) % p25))) :: (gw15_1, 22, (c8 (((a + 4 * p25 - b) % p25) * ((a + 4 * p25 - b) % p25) % p25))) :: (gw12_0, 22, (c8 (((c + 4 * p25 - d) % p25) * ((a + b) % p25) % p25))) :: (gw9_0, 22, (c8 (((c + d) % p25) * ((a + 4 * p25 - b) % p25) % p25))) :: (gw5_0, 22, (c8 ((a + b) % p25))) :: (gw5_1, 22, (c8 ((a + 4 * p25 - b) % p25))) :: (w2.heap.size, 60, (slab [0, 0, 0, 0]).toArray) :: (w1.heap.size, 22, (c8 x)) :: (w.heap.size, 60, (slab [a, b, c, d]).toArray) :: [])) (cs := (c8 0)) 6 #[true, true, true, true, true, true, true] (by kernel_rfl) rfl none (by kernel_rfl) rfl (by kernel_rfl) (c8 (((((a + b) % p25) * ((a + b) % p25) % p25) + (121665 * (((((a + b) % p25) * ((a + b) % p25) % p25) + 4 * p25 - (((a + 4 * p25 - b) % p25) * ((a + 4 * p25 - b) % p25) % p25)) % p25) % p25)) % p25)) 22 (.tmp 13) (.tmp 54) rfl rfl rfl hO24 (by simp only [size_c8]) (inum_c8 _) (one_c8 _) (fun _ h _ => h.tail) fun w25 hO25 => ?_
  try clear hO24
  simp only [List.nil_append, List.cons_append, List.set_cons_zero, List.set_cons_succ] at hO25
  try simp only [p0, p1, p2, p3]
  refine fl_done (by kernel_rfl) ?_
  show Code.wp _ _ _ _ _
  refine wp_seq ?_
  refine fl_start [] #[false, false, false, false, false, false, false, false, false, false] (by kernel_rfl) (by kernel_rfl) hO25 fun w26 hO26 => ?_
  clear hO25
  refine fl_load 0 #[true, false, false, false, false, false, false, false, false, false] (by kernel_rfl) rfl (some 55) (by kernel_rfl) (by kernel_rfl) (by kernel_rfl) (by kernel_rfl) (by kernel_rfl) (c8 (((c + d) % p25) * ((a + 4 * p25 - b) % p25) % p25)) (by kernel_rfl) (by kernel_rfl) (by kernel_rfl) 22 (.tmp 7) (by kernel_rfl) gw9_0 (by kernel_rfl) 22 _ (fun _ h => h.get (.tail _ (.tail _ (.tail _ (.tail _ (.tail _ (.tail _ (.head _)))))))) Tryd.underlying22 rfl (inum_c8 _) hO26 ?_
  try simp only [p0, p1, p2, p3]
  refine fl_load 1 #[true, true, false, false, false, false, false, false, false, false] (by kernel_rfl) rfl (some 56) (by kernel_rfl) (by kernel_rfl) (by kernel_rfl) (by kernel_rfl) (by kernel_rfl) (c8 (((c + 4 * p25 - d) % p25) * ((a + b) % p25) % p25)) (by kernel_rfl) (by kernel_rfl) (by kernel_rfl) 22 (.tmp 8) (by kernel_rfl) gw12_0 (by kernel_rfl) 22 _ (fun _ h => h.get (.tail _ (.tail _ (.tail _ (.tail _ (.tail _ (.head _))))))) Tryd.underlying22 rfl (inum_c8 _) hO26 ?_
  try simp only [p0, p1, p2, p3]
  refine fl_load 3 #[true, true, false, true, false, false, false, false, false, false] (by kernel_rfl) rfl (some 58) (by kernel_rfl) (by kernel_rfl) (by kernel_rfl) (by kernel_rfl) (by kernel_rfl) (c8 (((c + d) % p25) * ((a + 4 * p25 - b) % p25) % p25)) (by kernel_rfl) (by kernel_rfl) (by kernel_rfl) 22 (.tmp 7) (by kernel_rfl) gw9_0 (by kernel_rfl) 22 _ (fun _ h => h.get (.tail _ (.tail _ (.tail _ (.tail _ (.tail _ (.tail _ (.head _)))))))) Tryd.underlying22 rfl (inum_c8 _) hO26 ?_
  try simp only [p0, p1, p2, p3]
  refine fl_load 4 #[true, true, false, true, true, false, false, false, false, false] (by kernel_rfl) rfl (some 59) (by kernel_rfl) (by kernel_rfl) (by kernel_rfl) (by kernel_rfl) (by kernel_rfl) (c8 (((c + 4 * p25 - d) % p25) * ((a + b) % p25) % p25)) (by kernel_rfl) (by kernel_rfl) (by kernel_rfl) 22 (.tmp 8) (by kernel_rfl) gw12_0 (by kernel_rfl) 22 _ (fun _ h => h.get (.tail _ (.tail _ (.tail _ (.tail _ (.tail _ (.head _))))))) Tryd.underlying22 rfl (inum_c8 _) hO26 ?_
  try simp only [p0, p1, p2, p3]
  refine calls2 (fuel := 2) (AllocAt.mk (i := 6) (t := 22) (cs := (c8 0)) rfl rfl rfl (fun _ _ => by kernel_rfl)) (AllocAt.mk (i := 7) (t := 22) (cs := (c8 0)) rfl rfl rfl (fun _ _ => by kernel_rfl)) (by decide) (by decide) [(2, 57, .agg (c8 (((((c + d) % p25) * ((a + 4 * p25 - b) % p25) % p25) + (((c + 4 * p25 - d) % p25) * ((a + b) % p25) % p25)) % p25))), (5, 60, .agg (c8 (((((c + d) % p25) * ((a + 4 * p25 - b) % p25) % p25) + 4 * p25 - (((c + 4 * p25 - d) % p25) * ((a + b) % p25) % p25)) % p25)))] _ _ (by kernel_rfl) ⟨CallAt.mk rfl (by kernel_rfl) rfl rfl (fun _ => by kernel_rfl) (fun _ hs => refAdd_any (((c + d) % p25) * ((a + 4 * p25 - b) % p25) % p25) (((c + 4 * p25 - d) % p25) * ((a + b) % p25) % p25) (N256.mod _) (N256.mod _) _), ⟨CallAt.mk rfl (by kernel_rfl) rfl rfl (fun _ => by kernel_rfl) (fun _ hs => refSub_any (((c + d) % p25) * ((a + 4 * p25 - b) % p25) % p25) (((c + 4 * p25 - d) % p25) * ((a + b) % p25) % p25) (N256.mod _) (N256.mod _) _), trivial⟩⟩ (by kernel_rfl) (by kernel_rfl) (fun _ h => h) (fun gw27_0 gw27_1 w27 hO27 => ?_) _ hO26
  clear hO26
  simp only [lst, acts]
  try simp only [p0, p1, p2, p3]
  refine fl_set (L1 := []) (L2 := ((gw27_1, 22, (c8 0)) :: (gw24_0, 22, (c8 (((((a + b) % p25) * ((a + b) % p25) % p25) + (121665 * (((((a + b) % p25) * ((a + b) % p25) % p25) + 4 * p25 - (((a + 4 * p25 - b) % p25) * ((a + 4 * p25 - b) % p25) % p25)) % p25) % p25)) % p25))) :: (w20.heap.size, 22, (c8 121665)) :: (w18.heap.size, 22, (c8 (((((a + b) % p25) * ((a + b) % p25) % p25) + 4 * p25 - (((a + 4 * p25 - b) % p25) * ((a + 4 * p25 - b) % p25) % p25)) % p25))) :: (gw15_0, 22, (c8 (((a + b) % p25) * ((a + b) % p25) % p25))) :: (gw15_1, 22, (c8 (((a + 4 * p25 - b) % p25) * ((a + 4 * p25 - b) % p25) % p25))) :: (gw12_0, 22, (c8 (((c + 4 * p25 - d) % p25) * ((a + b) % p25) % p25))) :: (gw9_0, 22, (c8 (((c + d) % p25) * ((a + 4 * p25 - b) % p25) % p25))) :: (gw5_0, 22, (c8 ((a + b) % p25))) :: (gw5_1, 22, (c8 ((a + 4 * p25 - b) % p25))) :: (w2.heap.size, 60, (slab [0, 0, 0, 0]).toArray) :: (w1.heap.size, 22, (c8 x)) :: (w.heap.size, 60, (slab [a, b, c, d]).toArray) :: [])) (cs := (c8 0)) 8 #[true, true, true, true, true, true, true, true, true, false] (by kernel_rfl) rfl none (by kernel_rfl) rfl (by kernel_rfl) (c8 (((((c + d) % p25) * ((a + 4 * p25 - b) % p25) % p25) + (((c + 4 * p25 - d) % p25) * ((a + b) % p25) % p25)) % p25)) 22 (.tmp 14) (.tmp 57) rfl rfl rfl hO27 (by simp only [size_c8]) (inum_c8 _) (one_c8 _) (fun _ h _ => h.tail.tail) fun w28 hO28 => ?_
  try clear hO27
  simp only [List.nil_append, List.cons_append, List.set_cons_zero, List.set_cons_succ] at hO28
  try simp only [p0, p1, p2, p3]
  refine fl_set (L1 := [(gw27_0, 22, (c8 (((((c + d) % p25) * ((a + 4 * p25 - b) % p25) % p25) + (((c + 4 * p25 - d) % p25) * ((a + b) % p25) % p25)) % p25)))]) (L2 := ((gw24_0, 22, (c8 (((((a + b) % p25) * ((a + b) % p25) % p25) + (121665 * (((((a + b) % p25) * ((a + b) % p25) % p25) + 4 * p25 - (((a + 4 * p25 - b) % p25) * ((a + 4 * p25 - b) % p25) % p25)) % p25) % p25)) % p25))) :: (w20.heap.size, 22, (c8 121665)) :: (w18.heap.size, 22, (c8 (((((a + b) % p25) * ((a + b) % p25) % p25) + 4 * p25 - (((a + 4 * p25 - b) % p25) * ((a + 4 * p25 - b) % p25) % p25)) % p25))) :: (gw15_0, 22, (c8 (((a + b) % p25) * ((a + b) % p25) % p25))) :: (gw15_1, 22, (c8 (((a + 4 * p25 - b) % p25) * ((a + 4 * p25 - b) % p25) % p25))) :: (gw12_0, 22, (c8 (((c + 4 * p25 - d) % p25) * ((a + b) % p25) % p25))) :: (gw9_0, 22, (c8 (((c + d) % p25) * ((a + 4 * p25 - b) % p25) % p25))) :: (gw5_0, 22, (c8 ((a + b) % p25))) :: (gw5_1, 22, (c8 ((a + 4 * p25 - b) % p25))) :: (w2.heap.size, 60, (slab [0, 0, 0, 0]).toArray) :: (w1.heap.size, 22, (c8 x)) :: (w.heap.size, 60, (slab [a, b, c, d]).toArray) :: [])) (cs := (c8 0)) 9 #[true, true, true, true, true, true, true, true, true, true] (by kernel_rfl) rfl none (by kernel_rfl) rfl (by kernel_rfl) (c8 (((((c + d) % p25) * ((a + 4 * p25 - b) % p25) % p25) + 4 * p25 - (((c + 4 * p25 - d) % p25) * ((a + b) % p25) % p25)) % p25)) 22 (.tmp 15) (.tmp 60) rfl rfl rfl hO28 (by simp only [size_c8]) (inum_c8 _) (one_c8 _) (fun _ h _ => h.tail.tail) fun w29 hO29 => ?_
  try clear hO28
  simp only [List.nil_append, List.cons_append, List.set_cons_zero, List.set_cons_succ] at hO29
  try simp only [p0, p1, p2, p3]
  refine fl_done (by kernel_rfl) ?_
  show Code.wp _ _ _ _ _
  refine wp_seq ?_
  refine fl_start [15] #[false, false, false, false, false, false, false, false, false, false, false, false, false, false, false, false] (by kernel_rfl) (by kernel_rfl) hO29 fun w30 hO30 => ?_
  clear hO29
  refine fl_load 0 #[true, false, false, false, false, false, false, false, false, false, false, false, false, false, false, false] (by kernel_rfl) rfl (some 61) (by kernel_rfl) (by kernel_rfl) (by kernel_rfl) (by kernel_rfl) (by kernel_rfl) (c8 (((a + b) % p25) * ((a + b) % p25) % p25)) (by kernel_rfl) (by kernel_rfl) (by kernel_rfl) 22 (.tmp 9) (by kernel_rfl) gw15_0 (by kernel_rfl) 22 _ (fun _ h => h.get (.tail _ (.tail _ (.tail _ (.tail _ (.tail _ (.head _))))))) Tryd.underlying22 rfl (inum_c8 _) hO30 ?_
  try simp only [p0, p1, p2, p3]
  refine fl_load 1 #[true, true, false, false, false, false, false, false, false, false, false, false, false, false, false, false] (by kernel_rfl) rfl (some 62) (by kernel_rfl) (by kernel_rfl) (by kernel_rfl) (by kernel_rfl) (by kernel_rfl) (c8 (((a + 4 * p25 - b) % p25) * ((a + 4 * p25 - b) % p25) % p25)) (by kernel_rfl) (by kernel_rfl) (by kernel_rfl) 22 (.tmp 10) (by kernel_rfl) gw15_1 (by kernel_rfl) 22 _ (fun _ h => h.get (.tail _ (.tail _ (.tail _ (.tail _ (.tail _ (.tail _ (.head _)))))))) Tryd.underlying22 rfl (inum_c8 _) hO30 ?_
  try simp only [p0, p1, p2, p3]
  refine fl_load 3 #[true, true, false, true, false, false, false, false, false, false, false, false, false, false, false, false] (by kernel_rfl) rfl (some 64) (by kernel_rfl) (by kernel_rfl) (by kernel_rfl) (by kernel_rfl) (by kernel_rfl) (c8 (((((a + b) % p25) * ((a + b) % p25) % p25) + 4 * p25 - (((a + 4 * p25 - b) % p25) * ((a + 4 * p25 - b) % p25) % p25)) % p25)) (by kernel_rfl) (by kernel_rfl) (by kernel_rfl) 22 (.tmp 11) (by kernel_rfl) w18.heap.size (by kernel_rfl) 22 _ (fun _ h => h.get (.tail _ (.tail _ (.tail _ (.tail _ (.head _)))))) Tryd.underlying22 rfl (inum_c8 _) hO30 ?_
  try simp only [p0, p1, p2, p3]
  refine fl_load 4 #[true, true, false, true, true, false, false, false, false, false, false, false, false, false, false, false] (by kernel_rfl) rfl (some 65) (by kernel_rfl) (by kernel_rfl) (by kernel_rfl) (by kernel_rfl) (by kernel_rfl) (c8 (((((a + b) % p25) * ((a + b) % p25) % p25) + (121665 * (((((a + b) % p25) * ((a + b) % p25) % p25) + 4 * p25 - (((a + 4 * p25 - b) % p25) * ((a + 4 * p25 - b) % p25) % p25)) % p25) % p25)) % p25)) (by kernel_rfl) (by kernel_rfl) (by kernel_rfl) 22 (.tmp 13) (by kernel_rfl) gw24_0 (by kernel_rfl) 22 _ (fun _ h => h.get (.tail _ (.tail _ (.head _)))) Tryd.underlying22 rfl (inum_c8 _) hO30 ?_
  try simp only [p0, p1, p2, p3]
  refine fl_load 6 #[true, true, false, true, true, false, true, false, false, false, false, false, false, false, false, false] (by kernel_rfl) rfl (some 67) (by kernel_rfl) (by kernel_rfl) (by kernel_rfl) (by kernel_rfl) (by kernel_rfl) (c8 (((((c + d) % p25) * ((a + 4 * p25 - b) % p25) % p25) + (((c + 4 * p25 - d) % p25) * ((a + b) % p25) % p25)) % p25)) (by kernel_rfl) (by kernel_rfl) (by kernel_rfl) 22 (.tmp 14) (by kernel_rfl) gw27_0 (by kernel_rfl) 22 _ (fun _ h => h.get (.head _)) Tryd.underlying22 rfl (inum_c8 _) hO30 ?_
  try simp only [p0, p1, p2, p3]
  refine fl_load 7 #[true, true, false, true, true, false, true, true, false, false, false, false, false, false, false, false] (by kernel_rfl) rfl (some 68) (by kernel_rfl) (by kernel_rfl) (by kernel_rfl) (by kernel_rfl) (by kernel_rfl) (c8 (((((c + d) % p25) * ((a + 4 * p25 - b) % p25) % p25) + (((c + 4 * p25 - d) % p25) * ((a + b) % p25) % p25)) % p25)) (by kernel_rfl) (by kernel_rfl) (by kernel_rfl) 22 (.tmp 14) (by kernel_rfl) gw27_0 (by kernel_rfl) 22 _ (fun _ h => h.get (.head _)) Tryd.underlying22 rfl (inum_c8 _) hO30 ?_
  try simp only [p0, p1, p2, p3]
  refine fl_load 9 #[true, true, false, true, true, false, true, true, false, true, false, false, false, false, false, false] (by kernel_rfl) rfl (some 70) (by kernel_rfl) (by kernel_rfl) (by kernel_rfl) (by kernel_rfl) (by kernel_rfl) (c8 x) (by kernel_rfl) (by kernel_rfl) (by kernel_rfl) 22 (.tmp 3) (by kernel_rfl) w1.heap.size (by kernel_rfl) 22 _ (fun _ h => h.get (.tail _ (.tail _ (.tail _ (.tail _ (.tail _ (.tail _ (.tail _ (.tail _ (.tail _ (.tail _ (.tail _ (.tail _ (.head _)))))))))))))) Tryd.underlying22 rfl (inum_c8 _) hO30 ?_
  try simp only [p0, p1, p2, p3]
  refine fl_load 10 #[true, true, false, true, true, false, true, true, false, true, true, false, false, false, false, false] (by kernel_rfl) rfl (some 71) (by kernel_rfl) (by kernel_rfl) (by kernel_rfl) (by kernel_rfl) (by kernel_rfl) (c8 (((((c + d) % p25) * ((a + 4 * p25 - b) % p25) % p25) + 4 * p25 - (((c + 4 * p25 - d) % p25) * ((a + b) % p25) % p25)) % p25)) (by kernel_rfl) (by kernel_rfl) (by kernel_rfl) 22 (.tmp 15) (by kernel_rfl) gw27_1 (by kernel_rfl) 22 _ (fun _ h => h.get (.tail _ (.head _))) Tryd.underlying22 rfl (inum_c8 _) hO30 ?_
  try simp only [p0, p1, p2, p3]
  refine fl_load 11 #[true, true, false, true, true, false, true, true, false, true, true, true, false, false, false, false] (by kernel_rfl) rfl (some 72) (by kernel_rfl) (by kernel_rfl) (by kernel_rfl) (by kernel_rfl) (by kernel_rfl) (c8 (((((c + d) % p25) * ((a + 4 * p25 - b) % p25) % p25) + 4 * p25 - (((c + 4 * p25 - d) % p25) * ((a + b) % p25) % p25)) % p25)) (by kernel_rfl) (by kernel_rfl) (by kernel_rfl) 22 (.tmp 15) (by kernel_rfl) gw27_1 (by kernel_rfl) 22 _ (fun _ h => h.get (.tail _ (.head _))) Tryd.underlying22 rfl (inum_c8 _) hO30 ?_
  try simp only [p0, p1, p2, p3]
  refine fl_call 2 #[true, true, true, true, true, false, true, true, false, true, true, true, false, false, false, false] (by kernel_rfl) rfl (some 63) (by kernel_rfl) rfl (by kernel_rfl) (.agg (c8 ((((a + b) % p25) * ((a + b) % p25) % p25) * (((a + 4 * p25 - b) % p25) * ((a + 4 * p25 - b) % p25) % p25) % p25))) (by kernel_rfl) (refMul_any (((a + b) % p25) * ((a + b) % p25) % p25) (((a + 4 * p25 - b) % p25) * ((a + 4 * p25 - b) % p25) % p25) (N256.mod _) (N256.mod _) _) hO30 (fun _ h => h) fun w31 hO31 => ?_
  try clear hO30
  try simp only [p0, p1, p2, p3]
  refine fl_call 5 #[true, true, true, true, true, true, true, true, false, true, true, true, false, false, false, false] (by kernel_rfl) rfl (some 66) (by kernel_rfl) rfl (by kernel_rfl) (.agg (c8 ((((((a + b) % p25) * ((a + b) % p25) % p25) + 4 * p25 - (((a + 4 * p25 - b) % p25) * ((a + 4 * p25 - b) % p25) % p25)) % p25) * (((((a + b) % p25) * ((a + b) % p25) % p25) + (121665 * (((((a + b) % p25) * ((a + b) % p25) % p25) + 4 * p25 - (((a + 4 * p25 - b) % p25) * ((a + 4 * p25 - b) % p25) % p25)) % p25) % p25)) % p25) % p25))) (by kernel_rfl) (refMul_any (((((a + b) % p25) * ((a + b) % p25) % p25) + 4 * p25 - (((a + 4 * p25 - b) % p25) * ((a + 4 * p25 - b) % p25) % p25)) % p25) (((((a + b) % p25) * ((a + b) % p25) % p25) + (121665 * (((((a + b) % p25) * ((a + b) % p25) % p25) + 4 * p25 - (((a + 4 * p25 - b) % p25) * ((a + 4 * p25 - b) % p25) % p25)) % p25) % p25)) % p25) (N256.mod _) (N256.mod _) _) hO31 (fun _ h => h) fun w32 hO32 => ?_
  try clear hO31
  try simp only [p0, p1, p2, p3]
  refine fl_call 8 #[true, true, true, true, true, true, true, true, true, true, true, true, false, false, false, false] (by kernel_rfl) rfl (some 69) (by kernel_rfl) rfl (by kernel_rfl) (.agg (c8 ((((((c + d) % p25) * ((a + 4 * p25 - b) % p25) % p25) + (((c + 4 * p25 - d) % p25) * ((a + b) % p25) % p25)) % p25) * (((((c + d) % p25) * ((a + 4 * p25 - b) % p25) % p25) + (((c + 4 * p25 - d) % p25) * ((a + b) % p25) % p25)) % p25) % p25))) (by kernel_rfl) (refMul_any (((((c + d) % p25) * ((a + 4 * p25 - b) % p25) % p25) + (((c + 4 * p25 - d) % p25) * ((a + b) % p25) % p25)) % p25) (((((c + d) % p25) * ((a + 4 * p25 - b) % p25) % p25) + (((c + 4 * p25 - d) % p25) * ((a + b) % p25) % p25)) % p25) (N256.mod _) (N256.mod _) _) hO32 (fun _ h => h) fun w33 hO33 => ?_
  try clear hO32
  try simp only [p0, p1, p2, p3]
  refine fl_call 12 #[true, true, true, true, true, true, true, true, true, true, true, true, true, false, false, false] (by kernel_rfl) rfl (some 73) (by kernel_rfl) rfl (by kernel_rfl) (.agg (c8 ((((((c + d) % p25) * ((a + 4 * p25 - b) % p25) % p25) + 4 * p25 - (((c + 4 * p25 - d) % p25) * ((a + b) % p25) % p25)) % p25) * (((((c + d) % p25) * ((a + 4 * p25 - b) % p25) % p25) + 4 * p25 - (((c + 4 * p25 - d) % p25) * ((a + b) % p25) % p25)) % p25) % p25))) (by kernel_rfl) (refMul_any (((((c + d) % p25) * ((a + 4 * p25 - b) % p25) % p25) + 4 * p25 - (((c + 4 * p25 - d) % p25) * ((a + b) % p25) % p25)) % p25) (((((c + d) % p25) * ((a + 4 * p25 - b) % p25) % p25) + 4 * p25 - (((c + 4 * p25 - d) % p25) * ((a + b) % p25) % p25)) % p25) (N256.mod _) (N256.mod _) _) hO33 (fun _ h => h) fun w34 hO34 => ?_
  try clear hO33
  try simp only [p0, p1, p2, p3]
  refine fl_call 13 #[true, true, true, true, true, true, true, true, true, true, true, true, true, true, false, false] (by kernel_rfl) rfl (some 74) (by kernel_rfl) rfl (by kernel_rfl) (.agg (c8 (x * ((((((c + d) % p25) * ((a + 4 * p25 - b) % p25) % p25) + 4 * p25 - (((c + 4 * p25 - d) % p25) * ((a + b) % p25) % p25)) % p25) * (((((c + d) % p25) * ((a + 4 * p25 - b) % p25) % p25) + 4 * p25 - (((c + 4 * p25 - d) % p25) * ((a + b) % p25) % p25)) % p25) % p25) % p25))) (by kernel_rfl) (refMul_any x ((((((c + d) % p25) * ((a + 4 * p25 - b) % p25) % p25) + 4 * p25 - (((c + 4 * p25 - d) % p25) * ((a + b) % p25) % p25)) % p25) * (((((c + d) % p25) * ((a + 4 * p25 - b) % p25) % p25) + 4 * p25 - (((c + 4 * p25 - d) % p25) * ((a + b) % p25) % p25)) % p25) % p25) hx (N256.mod _) _) hO34 (fun _ h => h) fun w35 hO35 => ?_
  try clear hO34
  try simp only [p0, p1, p2, p3]
  refine fl_pure 14 #[true, true, true, true, true, true, true, true, true, true, true, true, true, true, true, false] (by kernel_rfl) rfl (some 75) (by kernel_rfl) (by kernel_rfl) (by kernel_rfl) (by kernel_rfl) (by kernel_rfl) (.agg (slab [((((a + b) % p25) * ((a + b) % p25) % p25) * (((a + 4 * p25 - b) % p25) * ((a + 4 * p25 - b) % p25) % p25) % p25), ((((((a + b) % p25) * ((a + b) % p25) % p25) + 4 * p25 - (((a + 4 * p25 - b) % p25) * ((a + 4 * p25 - b) % p25) % p25)) % p25) * (((((a + b) % p25) * ((a + b) % p25) % p25) + (121665 * (((((a + b) % p25) * ((a + b) % p25) % p25) + 4 * p25 - (((a + 4 * p25 - b) % p25) * ((a + 4 * p25 - b) % p25) % p25)) % p25) % p25)) % p25) % p25), ((((((c + d) % p25) * ((a + 4 * p25 - b) % p25) % p25) + (((c + 4 * p25 - d) % p25) * ((a + b) % p25) % p25)) % p25) * (((((c + d) % p25) * ((a + 4 * p25 - b) % p25) % p25) + (((c + 4 * p25 - d) % p25) * ((a + b) % p25) % p25)) % p25) % p25), (x * ((((((c + d) % p25) * ((a + 4 * p25 - b) % p25) % p25) + 4 * p25 - (((c + 4 * p25 - d) % p25) * ((a + b) % p25) % p25)) % p25) * (((((c + d) % p25) * ((a + 4 * p25 - b) % p25) % p25) + 4 * p25 - (((c + 4 * p25 - d) % p25) * ((a + b) % p25) % p25)) % p25) % p25) % p25)]).toArray) (by kernel_rfl) (fun _ => by kernel_rfl) (fun _ => hO35) ?_
  try simp only [p0, p1, p2, p3]
  refine fl_set (L1 := [(gw27_0, 22, (c8 (((((c + d) % p25) * ((a + 4 * p25 - b) % p25) % p25) + (((c + 4 * p25 - d) % p25) * ((a + b) % p25) % p25)) % p25))), (gw27_1, 22, (c8 (((((c + d) % p25) * ((a + 4 * p25 - b) % p25) % p25) + 4 * p25 - (((c + 4 * p25 - d) % p25) * ((a + b) % p25) % p25)) % p25))), (gw24_0, 22, (c8 (((((a + b) % p25) * ((a + b) % p25) % p25) + (121665 * (((((a + b) % p25) * ((a + b) % p25) % p25) + 4 * p25 - (((a + 4 * p25 - b) % p25) * ((a + 4 * p25 - b) % p25) % p25)) % p25) % p25)) % p25))), (w20.heap.size, 22, (c8 121665)), (w18.heap.size, 22, (c8 (((((a + b) % p25) * ((a + b) % p25) % p25) + 4 * p25 - (((a + 4 * p25 - b) % p25) * ((a + 4 * p25 - b) % p25) % p25)) % p25))), (gw15_0, 22, (c8 (((a + b) % p25) * ((a + b) % p25) % p25))), (gw15_1, 22, (c8 (((a + 4 * p25 - b) % p25) * ((a + 4 * p25 - b) % p25) % p25))), (gw12_0, 22, (c8 (((c + 4 * p25 - d) % p25) * ((a + b) % p25) % p25))), (gw9_0, 22, (c8 (((c + d) % p25) * ((a + 4 * p25 - b) % p25) % p25))), (gw5_0, 22, (c8 ((a + b) % p25))), (gw5_1, 22, (c8 ((a + 4 * p25 - b) % p25)))]) (L2 := ((w1.heap.size, 22, (c8 x)) :: (w.heap.size, 60, (slab [a, b, c, d]).toArray) :: [])) (cs := (slab [0, 0, 0, 0]).toArray) 15 #[true, true, true, true, true, true, true, true, true, true, true, true, true, true, true, true] (by kernel_rfl) rfl none (by kernel_rfl) rfl (by kernel_rfl) (slab [((((a + b) % p25) * ((a + b) % p25) % p25) * (((a + 4 * p25 - b) % p25) * ((a + 4 * p25 - b) % p25) % p25) % p25), ((((((a + b) % p25) * ((a + b) % p25) % p25) + 4 * p25 - (((a + 4 * p25 - b) % p25) * ((a + 4 * p25 - b) % p25) % p25)) % p25) * (((((a + b) % p25) * ((a + b) % p25) % p25) + (121665 * (((((a + b) % p25) * ((a + b) % p25) % p25) + 4 * p25 - (((a + 4 * p25 - b) % p25) * ((a + 4 * p25 - b) % p25) % p25)) % p25) % p25)) % p25) % p25), ((((((c + d) % p25) * ((a + 4 * p25 - b) % p25) % p25) + (((c + 4 * p25 - d) % p25) * ((a + b) % p25) % p25)) % p25) * (((((c + d) % p25) * ((a + 4 * p25 - b) % p25) % p25) + (((c + 4 * p25 - d) % p25) * ((a + b) % p25) % p25)) % p25) % p25), (x * ((((((c + d) % p25) * ((a + 4 * p25 - b) % p25) % p25) + 4 * p25 - (((c + 4 * p25 - d) % p25) * ((a + b) % p25) % p25)) % p25) * (((((c + d) % p25) * ((a + 4 * p25 - b) % p25) % p25) + 4 * p25 - (((c + 4 * p25 - d) % p25) * ((a + b) % p25) % p25)) % p25) % p25) % p25)]).toArray 60 (.tmp 4) (.tmp 75) rfl rfl rfl hO35 (by simp only [List.size_toArray, len_slab, List.length_cons, List.length_nil]) (by kernel_rfl) (one_slab _) (fun _ _ => clean_no (by kernel_rfl)) fun w36 hO36 => ?_
  try clear hO35
  simp only [List.nil_append, List.cons_append, List.set_cons_zero, List.set_cons_succ] at hO36
  try simp only [p0, p1, p2, p3]
  refine fl_done (by kernel_rfl) ?_
  show Code.wp _ _ _ _ _
  refine wp_ret ?_
  (try simp only [Exit.then, Exit.inBlock])
  refine bodyPost_ret (results_cell_row rfl _ _ w2.heap.size 60 (slab [((((a + b) % p25) * ((a + b) % p25) % p25) * (((a + 4 * p25 - b) % p25) * ((a + 4 * p25 - b) % p25) % p25) % p25), ((((((a + b) % p25) * ((a + b) % p25) % p25) + 4 * p25 - (((a + 4 * p25 - b) % p25) * ((a + 4 * p25 - b) % p25) % p25)) % p25) * (((((a + b) % p25) * ((a + b) % p25) % p25) + (121665 * (((((a + b) % p25) * ((a + b) % p25) % p25) + 4 * p25 - (((a + 4 * p25 - b) % p25) * ((a + 4 * p25 - b) % p25) % p25)) % p25) % p25)) % p25) % p25), ((((((c + d) % p25) * ((a + 4 * p25 - b) % p25) % p25) + (((c + 4 * p25 - d) % p25) * ((a + b) % p25) % p25)) % p25) * (((((c + d) % p25) * ((a + 4 * p25 - b) % p25) % p25) + (((c + 4 * p25 - d) % p25) * ((a + b) % p25) % p25)) % p25) % p25), (x * ((((((c + d) % p25) * ((a + 4 * p25 - b) % p25) % p25) + 4 * p25 - (((c + 4 * p25 - d) % p25) * ((a + b) % p25) % p25)) % p25) * (((((c + d) % p25) * ((a + 4 * p25 - b) % p25) % p25) + 4 * p25 - (((c + 4 * p25 - d) % p25) * ((a + b) % p25) % p25)) % p25) % p25) % p25)]).toArray (0, 0) _ rfl (hO36.get (.tail _ (.tail _ (.tail _ (.tail _ (.tail _ (.tail _ (.tail _ (.tail _ (.tail _ (.tail _ (.tail _ (.head _))))))))))))) Tryd.underlying60 rfl (by kernel_rfl)) rfl ?_
  exact ⟨rfl, hO36.bl⟩
theorem bit_is' {n m : Nat} {b : Bool} (h : (n / 2 ^ m % 2 == 1) = b) : decide (byteN n (m / 8) / 2 ^ (m % 8) % 2 = 1) = b := by
  rw [bit_byte, ← h]
  rw [Bool.eq_iff_iff, decide_eq_true_iff, beq_iff_eq]
theorem half {x j : Nat} : x / 2 ^ j / 2 = x / 2 ^ (j + 1) := by rw [Nat.div_div_eq_div_mul, Nat.pow_succ]

set_option maxRecDepth 100000 in
set_option maxHeartbeats 4000000 in
theorem refBit_any {n m : Nat} {b : Bool} (hm : m < 256) (hb : (n / 2 ^ m % 2 == 1) = b) (w : World) : Ret Tryd.prog 31 #[.agg (c8 n), .int .i64 (m : Int)] w (.bool b) := by
  unfold Ret
  refine calls_of_wp Tryd.func31 rfl ?_
  simp only [Tryd.ntmps31, List.size_toArray, List.length_cons, List.length_nil, Nat.reduceAdd, Nat.reduceSub, Array.replicate_succ, Array.replicate_zero, List.push_toArray, List.append_toArray, List.nil_append, List.cons_append]
  have hO := Own.nil w
  refine wp_seq ?_
  refine wl_region ?_
  refine wl_new 22 (c8 n) rfl (by kernel_rfl) hO fun w1 hO1 => ?_
  clear hO
  try simp only [p0, p1, p2, p3]
  refine wl_pure (.bool false) rfl (by kernel_rfl) ?_
  try simp only [p0, p1, p2, p3]
  refine wl_nil ?_
  show Code.wp _ _ _ _ _
  refine wp_seq ?_
  refine wl_region ?_
  refine wl_pure (.int .i64 (m : Int)) rfl (by kernel_rfl) ?_
  try simp only [p0, p1, p2, p3]
  refine wl_pure (.int .i64 ((m / 8 : Nat) : Int)) rfl (i64run (run_quo8 m (by omega) _) (fun _ => rfl) rfl rfl rfl _) ?_
  try simp only [p0, p1, p2, p3]
  refine wl_pure (.pointer (some ⟨w.heap.size, m / 8, none⟩)) rfl ?cmp1 ?_
  case cmp1 => exact idx_num _ (m / 8) (by omega) rfl rfl rfl _
  try simp only [p0, p1, p2, p3]
  refine wl_byte (m / 8) (by omega) rfl 5 (.tmp 9) rfl rfl (.head _) isAgg_u8 hO1 ?_
  try simp only [p0, p1, p2, p3]
  refine wl_pure (.int .u8 ((byteN n (m / 8) : Nat) : Int)) rfl (by kernel_rfl) ?_
  try simp only [p0, p1, p2, p3]
  refine wl_nil ?_
  show Code.wp _ _ _ _ _
  go_wp2_with fail
  go_loopw [5, 6] (fun bv kv wr => ∃ (j : Nat), j ≤ m % 8 ∧ bv = .int .u8 ((byteN n (m / 8) / 2 ^ j : Nat) : Int) ∧ kv = .int .i64 (j : Int) ∧ Own w [(w.heap.size, 22, (c8 n))] wr) (fun _ kv _ => (8 - intOf kv).toNat)
  case atStart => exact ⟨0, Nat.zero_le _, by rw [Nat.pow_zero, Nat.div_one], rfl, hO1⟩
  case round =>
    clear hO1
    obtain ⟨j, hj, rfl, rfl, hO⟩ := hrel
    have h8 : m % 8 < 8 := Nat.mod_lt _ (by decide)
    by_cases hlt : j < m % 8
    · have hlt' : ((j : Int) < ((m % 8 : Nat) : Int)) = True := eq_true (by omega)
      have hlt2 : ((j : Int) < (m : Int) % 8) = True := eq_true (by omega)
      have hlt3 : (j < m % 8) = True := eq_true hlt
      refine wp_seq ?_
      refine wp_seq ?_
      refine wl_region ?_
      refine wl_pure (.int .i64 (j : Int)) rfl (by kernel_rfl) ?_
      try simp only [p0, p1, p2, p3]
      refine wl_pure (.int .i64 (m : Int)) rfl (by kernel_rfl) ?_
      try simp only [p0, p1, p2, p3]
      refine wl_pure (.int .i64 ((m % 8 : Nat) : Int)) rfl (i64run (run_rem8 m (by omega) _) (fun _ => rfl) rfl rfl rfl _) ?_
      try simp only [p0, p1, p2, p3]
      refine wl_pure (.bool true) rfl ?cmp102 ?_
      case cmp102 => first | (go_simp; done) | (go_simp; rfl)
      try simp only [p0, p1, p2, p3]
      refine wl_nil ?_
      show Code.wp _ _ _ _ _
      refine wp_cond_true rfl ?_
      refine wp_skip ?_
      show Code.wp _ _ _ _ _
      refine wp_seq ?_
      refine wp_block ?_
      refine wl_region ?_
      refine wl_pure (.int .u8 ((byteN n (m / 8) / 2 ^ j : Nat) : Int)) rfl (by kernel_rfl) ?_
      try simp only [p0, p1, p2, p3]
      refine wl_pure (.int .u8 (((byteN n (m / 8) / 2 ^ j) / 2 : Nat) : Int)) rfl (u8run (run_quo (byteN n (m / 8) / 2 ^ j) 2 (Nat.lt_of_le_of_lt (Nat.div_le_self _ _) (byteN_lt _ _)) (by decide) (by decide) _) (fun _ => rfl) rfl rfl rfl _) ?_
      try simp only [p0, p1, p2, p3]
      refine wl_pure (.int .u8 (((byteN n (m / 8) / 2 ^ j) / 2 : Nat) : Int)) rfl (by kernel_rfl) ?_
      try simp only [p0, p1, p2, p3]
      refine wl_nil ?_
      show Code.wp _ _ _ _ _
      go_wp2_with fail
      go_roundw
      case rel => exact ⟨j + 1, by omega, by rw [half], by go_num, hO⟩
      case measure => simp [intOf]; omega
    · obtain rfl : j = m % 8 := by omega
      have hlt' : (((m % 8 : Nat) : Int) < ((m % 8 : Nat) : Int)) = False := eq_false (by omega)
      refine wp_seq ?_
      refine wp_seq ?_
      refine wl_region ?_
      refine wl_pure (.int .i64 ((m % 8 : Nat) : Int)) rfl (by kernel_rfl) ?_
      try simp only [p0, p1, p2, p3]
      refine wl_pure (.int .i64 (m : Int)) rfl (by kernel_rfl) ?_
      try simp only [p0, p1, p2, p3]
      refine wl_pure (.int .i64 ((m % 8 : Nat) : Int)) rfl (i64run (run_rem8 m (by omega) _) (fun _ => rfl) rfl rfl rfl _) ?_
      try simp only [p0, p1, p2, p3]
      refine wl_pure (.bool false) rfl ?cmp203 ?_
      case cmp203 => first | (go_simp; done) | (go_simp; rfl)
      try simp only [p0, p1, p2, p3]
      refine wl_nil ?_
      show Code.wp _ _ _ _ _
      refine wp_cond_false rfl ?_
      refine wp_exit ?_
      refine (‹∀ (a : Act) (w : World), _ → _›) _ _ ?_
      refine wp_seq ?_
      refine wl_region ?_
      refine wl_pure (.int .u8 ((byteN n (m / 8) / 2 ^ (m % 8) : Nat) : Int)) rfl (by kernel_rfl) ?_
      try simp only [p0, p1, p2, p3]
      refine wl_pure (.int .u8 (((byteN n (m / 8) / 2 ^ (m % 8)) % 2 : Nat) : Int)) rfl (u8run (run_rem (byteN n (m / 8) / 2 ^ (m % 8)) 2 (Nat.lt_of_le_of_lt (Nat.div_le_self _ _) (byteN_lt _ _)) (by decide) (by decide) _) (fun _ => rfl) rfl rfl rfl _) ?_
      try simp only [p0, p1, p2, p3]
      refine wl_pure (.bool b) rfl (u8cmp (run_eql8 _ 1 b (bit_is' hb) _) (fun _ => rfl) rfl rfl rfl _) ?_
      try simp only [p0, p1, p2, p3]
      refine wl_pure (.bool b) rfl (by kernel_rfl) ?_
      try simp only [p0, p1, p2, p3]
      refine wl_nil ?_
      show Code.wp _ _ _ _ _
      refine wp_ret ?_
      refine bodyPost_ret (results_tmp rfl _ _ _) rfl ?_
      exact ⟨rfl, hO.bl⟩

set_option maxRecDepth 100000 in
set_option maxHeartbeats 4000000 in
theorem refX_any {k u : Nat} (hk : N256 k) (hu : N256 u) (w : World) : Ret Tryd.prog 18 #[.agg (c8 k), .agg (c8 u)] w (.agg (c8 (Cv.XN k u))) := by
  unfold Ret
  refine calls_of_wp Tryd.func18 rfl ?_
  simp only [Tryd.ntmps18, List.size_toArray, List.length_cons, List.length_nil, Nat.reduceAdd, Nat.reduceSub, Array.replicate_succ, Array.replicate_zero, List.push_toArray, List.append_toArray, List.nil_append, List.cons_append]
  have hO := Own.nil w
  refine wp_seq ?_
  refine wl_region ?_
  refine wl_new 22 (c8 k) rfl (by kernel_rfl) hO fun w1 hO1 => ?_
  clear hO
  try simp only [p0, p1, p2, p3]
  refine wl_new 22 (c8 u) rfl (by kernel_rfl) hO1 fun w2 hO2 => ?_
  clear hO1
  try simp only [p0, p1, p2, p3]
  refine wl_new 22 (c8 0) rfl (by kernel_rfl) hO2 fun w3 hO3 => ?_
  clear hO2
  try simp only [p0, p1, p2, p3]
  refine wl_nil ?_
  show Code.wp _ _ _ _ _
  refine wp_seq ?_
  refine wl_region ?_
  refine wl_load (c8 k) rfl 22 (.tmp 2) rfl w.heap.size rfl 22 _ (hO3.get (.tail _ (.tail _ (.head _)))) Tryd.underlying22 rfl (inum_c8 _) ?_
  try simp only [p0, p1, p2, p3]
  refine wl_call (.agg (c8 (Cv.clampN k))) rfl (by kernel_rfl) (refClamp_any hk _) hO3 fun w4 hO4 => ?_
  clear hO3
  try simp only [p0, p1, p2, p3]
  refine wl_new 22 (c8 0) rfl (by kernel_rfl) hO4 fun w5 hO5 => ?_
  clear hO4
  try simp only [p0, p1, p2, p3]
  refine wl_store (L1 := []) (L2 := ((w2.heap.size, 22, (c8 0)) :: (w1.heap.size, 22, (c8 u)) :: (w.heap.size, 22, (c8 k)) :: [])) (cs := (c8 0)) (c8 (Cv.clampN k)) rfl 22 (.tmp 5) (.tmp 10) rfl rfl rfl hO5 (by simp only [size_c8]) (inum_c8 _) (one_c8 _) fun w6 hO6 => ?_
  clear hO5
  simp only [List.nil_append, List.cons_append, List.set_cons_zero, List.set_cons_succ] at hO6
  try simp only [p0, p1, p2, p3]
  refine wl_nil ?_
  show Code.wp _ _ _ _ _
  refine wp_seq ?_
  refine wl_region ?_
  refine wl_load (c8 u) rfl 22 (.tmp 3) rfl w1.heap.size rfl 22 _ (hO6.get (.tail _ (.tail _ (.head _)))) Tryd.underlying22 rfl (inum_c8 _) ?_
  try simp only [p0, p1, p2, p3]
  refine wl_new 22 (c8 0) rfl (by kernel_rfl) hO6 fun w7 hO7 => ?_
  clear hO6
  try simp only [p0, p1, p2, p3]
  refine wl_store (L1 := []) (L2 := ((w4.heap.size, 22, (c8 (Cv.clampN k))) :: (w2.heap.size, 22, (c8 0)) :: (w1.heap.size, 22, (c8 u)) :: (w.heap.size, 22, (c8 k)) :: [])) (cs := (c8 0)) (c8 u) rfl 22 (.tmp 6) (.tmp 11) rfl rfl rfl hO7 (by simp only [size_c8]) (inum_c8 _) (one_c8 _) fun w8 hO8 => ?_
  clear hO7
  simp only [List.nil_append, List.cons_append, List.set_cons_zero, List.set_cons_succ] at hO8
  try simp only [p0, p1, p2, p3]
  refine wl_nil ?_
  show Code.wp _ _ _ _ _
  refine wp_seq ?_
  refine wl_region ?_
  refine wl_pure (.pointer (some ⟨w6.heap.size, 31, none⟩)) rfl (by kernel_rfl) ?_
  try simp only [p0, p1, p2, p3]
  refine wl_byte 31 (by decide) rfl 5 (.tmp 12) rfl rfl (.head _) isAgg_u8 hO8 ?_
  try simp only [p0, p1, p2, p3]
  refine wl_pure (.int .u8 (((byteN u 31) % 128 : Nat) : Int)) rfl (u8run (run_rem (byteN u 31) 128 (byteN_lt _ _) (by decide) (by decide) _) (fun _ => rfl) rfl rfl rfl _) ?_
  try simp only [p0, p1, p2, p3]
  refine wl_pure (.pointer (some ⟨w6.heap.size, 31, none⟩)) rfl (by kernel_rfl) ?_
  try simp only [p0, p1, p2, p3]
  refine wl_setb (L1 := []) (L2 := ((w4.heap.size, 22, (c8 (Cv.clampN k))) :: (w2.heap.size, 22, (c8 0)) :: (w1.heap.size, 22, (c8 u)) :: (w.heap.size, 22, (c8 k)) :: [])) (n := u) (m := set31 u ((byteN u 31) % 128)) (b := (byteN u 31) % 128) 31 (by decide) (c8_set31 _ _ (Nat.lt_of_le_of_lt (Nat.mod_le _ _) (byteN_lt _ _))) rfl 5 (.tmp 15) (.tmp 14) rfl rfl rfl hO8 one_u8 fun w9 hO9 => ?_
  clear hO8
  simp only [List.nil_append, List.cons_append, List.set_cons_zero, List.set_cons_succ] at hO9
  try simp only [p0, p1, p2, p3]
  refine wl_nil ?_
  show Code.wp _ _ _ _ _
  rw [low255 hu] at hO9
  refine wp_seq ?_
  refine wl_region ?_
  refine wl_load (c8 (u % 2 ^ 255)) rfl 22 (.tmp 6) rfl w6.heap.size rfl 22 _ (hO9.get (.head _)) Tryd.underlying22 rfl (inum_c8 _) ?_
  try simp only [p0, p1, p2, p3]
  refine wl_call (.agg (c8 ((u % 2 ^ 255) % p25))) rfl (by kernel_rfl) (refReduce_any (u % 2 ^ 255) (low_256 u) _) hO9 fun w10 hO10 => ?_
  clear hO9
  try simp only [p0, p1, p2, p3]
  refine wl_store (L1 := []) (L2 := ((w4.heap.size, 22, (c8 (Cv.clampN k))) :: (w2.heap.size, 22, (c8 0)) :: (w1.heap.size, 22, (c8 u)) :: (w.heap.size, 22, (c8 k)) :: [])) (cs := (c8 (u % 2 ^ 255))) (c8 ((u % 2 ^ 255) % p25)) rfl 22 (.tmp 6) (.tmp 17) rfl rfl rfl hO10 (by simp only [size_c8]) (inum_c8 _) (one_c8 _) fun w11 hO11 => ?_
  clear hO10
  simp only [List.nil_append, List.cons_append, List.set_cons_zero, List.set_cons_succ] at hO11
  try simp only [p0, p1, p2, p3]
  refine wl_nil ?_
  show Code.wp _ _ _ _ _
  refine wp_seq ?_
  refine wl_region ?_
  refine wl_pure (.agg (c8 1)) rfl (by kernel_rfl) ?_
  try simp only [p0, p1, p2, p3]
  refine wl_load (c8 ((u % 2 ^ 255) % p25)) rfl 22 (.tmp 6) rfl w6.heap.size rfl 22 _ (hO11.get (.head _)) Tryd.underlying22 rfl (inum_c8 _) ?_
  try simp only [p0, p1, p2, p3]
  refine wl_pure (.agg (c8 1)) rfl (by kernel_rfl) ?_
  try simp only [p0, p1, p2, p3]
  refine wl_pure (.agg (slab [1, 0, ((u % 2 ^ 255) % p25), 1]).toArray) rfl (by kernel_rfl) ?_
  try simp only [p0, p1, p2, p3]
  refine wl_new 60 (slab [0, 0, 0, 0]).toArray rfl (by kernel_rfl) hO11 fun w12 hO12 => ?_
  clear hO11
  try simp only [p0, p1, p2, p3]
  refine wl_store (L1 := []) (L2 := ((w6.heap.size, 22, (c8 ((u % 2 ^ 255) % p25))) :: (w4.heap.size, 22, (c8 (Cv.clampN k))) :: (w2.heap.size, 22, (c8 0)) :: (w1.heap.size, 22, (c8 u)) :: (w.heap.size, 22, (c8 k)) :: [])) (cs := (slab [0, 0, 0, 0]).toArray) (slab [1, 0, ((u % 2 ^ 255) % p25), 1]).toArray rfl 60 (.tmp 7) (.tmp 21) rfl rfl rfl hO12 (by simp only [List.size_toArray, len_slab, List.length_cons, List.length_nil]) (by kernel_rfl) (one_slab _) fun w13 hO13 => ?_
  clear hO12
  simp only [List.nil_append, List.cons_append, List.set_cons_zero, List.set_cons_succ] at hO13
  try simp only [p0, p1, p2, p3]
  refine wl_nil ?_
  show Code.wp _ _ _ _ _
  have hR : Own w [(w11.heap.size, 60, (slab [(Cv.startQ (Cv.baseN u)).a, (Cv.startQ (Cv.baseN u)).b, (Cv.startQ (Cv.baseN u)).c, (Cv.startQ (Cv.baseN u)).d]).toArray), (w6.heap.size, 22, (c8 (Cv.baseN u))), (w4.heap.size, 22, (c8 (Cv.clampN k))), (w2.heap.size, 22, (c8 0)), (w1.heap.size, 22, (c8 u)), (w.heap.size, 22, (c8 k))] w13 := hO13
  clear hO13
  go_wp2_with fail
  go_loopw [8] (fun iv wr => ∃ (m : Nat) (q : Cv.Q4), m ≤ 255 ∧ iv = .int .i64 ((m : Int) - 1) ∧ N4 q ∧ Cv.ladQ (Cv.clampN k) (Cv.baseN u) m q = Cv.ladQ (Cv.clampN k) (Cv.baseN u) 255 (Cv.startQ (Cv.baseN u)) ∧ Own w [(w11.heap.size, 60, (slab [q.a, q.b, q.c, q.d]).toArray), (w6.heap.size, 22, (c8 (Cv.baseN u))), (w4.heap.size, 22, (c8 (Cv.clampN k))), (w2.heap.size, 22, (c8 0)), (w1.heap.size, 22, (c8 u)), (w.heap.size, 22, (c8 k))] wr) (fun iv _ => (intOf iv + 1).toNat)
  case atStart => exact ⟨255, Cv.startQ (Cv.baseN u), by omega, rfl, ⟨(by unfold N256; omega : N256 1), (by unfold N256; omega : N256 0), base_256 u, (by unfold N256; omega : N256 1)⟩, rfl, hR⟩
  case round =>
    clear hR
    obtain ⟨m, q, hm, rfl, hq, hl, hO⟩ := hrel
    cases m with
    | succ m =>
      rw [show (((m + 1 : Nat) : Int) - 1) = (m : Int) by omega]
      have hge : ((0 : Int) ≤ (m : Int)) = True := eq_true (by omega)
      rw [Cv.ladQ] at hl
      cases hb : (Cv.clampN k / 2 ^ m % 2 == 1)
      · refine wp_seq ?_
        refine wp_seq ?_
        refine wl_region ?_
        refine wl_pure (.int .i64 (m : Int)) rfl (by kernel_rfl) ?_
        try simp only [p0, p1, p2, p3]
        refine wl_pure (.bool true) rfl ?cmp113 ?_
        case cmp113 => first | (go_simp; done) | (go_simp; rfl)
        try simp only [p0, p1, p2, p3]
        refine wl_nil ?_
        show Code.wp _ _ _ _ _
        refine wp_cond_true rfl ?_
        refine wp_skip ?_
        show Code.wp _ _ _ _ _
        refine wp_seq ?_
        refine wp_block ?_
        refine wp_seq ?_
        refine wl_region ?_
        refine wl_load (c8 (Cv.clampN k)) rfl 22 (.tmp 5) rfl w4.heap.size rfl 22 _ (hO.get (.tail _ (.tail _ (.head _)))) Tryd.underlying22 rfl (inum_c8 _) ?_
        try simp only [p0, p1, p2, p3]
        refine wl_pure (.int .i64 (m : Int)) rfl (by kernel_rfl) ?_
        try simp only [p0, p1, p2, p3]
        refine wl_call (.bool false) rfl (by kernel_rfl) (refBit_any (by omega) hb _) hO fun w115 hO115 => ?_
        clear hO
        try simp only [p0, p1, p2, p3]
        refine wl_nil ?_
        show Code.wp _ _ _ _ _
        refine wp_cond_false rfl ?_
        refine wl_region ?_
        refine wl_load (slab [q.a, q.b, q.c, q.d]).toArray rfl 60 (.tmp 7) rfl w11.heap.size rfl 60 _ (hO115.get (.head _)) Tryd.underlying60 rfl (by kernel_rfl) ?_
        try simp only [p0, p1, p2, p3]
        refine wl_load (c8 (Cv.baseN u)) rfl 22 (.tmp 6) rfl w6.heap.size rfl 22 _ (hO115.get (.tail _ (.head _))) Tryd.underlying22 rfl (inum_c8 _) ?_
        try simp only [p0, p1, p2, p3]
        refine wl_call (.agg (slab [(Cv.stepQ (Cv.baseN u) ⟨q.a, q.b, q.c, q.d⟩).a, (Cv.stepQ (Cv.baseN u) ⟨q.a, q.b, q.c, q.d⟩).b, (Cv.stepQ (Cv.baseN u) ⟨q.a, q.b, q.c, q.d⟩).c, (Cv.stepQ (Cv.baseN u) ⟨q.a, q.b, q.c, q.d⟩).d]).toArray) rfl (by kernel_rfl) (refStep_any hq.1 hq.2.1 hq.2.2.1 hq.2.2.2 (base_256 u) _) hO115 fun w116 hO116 => ?_
        clear hO115
        try simp only [p0, p1, p2, p3]
        refine wl_store (L1 := []) (L2 := ((w6.heap.size, 22, (c8 (Cv.baseN u))) :: (w4.heap.size, 22, (c8 (Cv.clampN k))) :: (w2.heap.size, 22, (c8 0)) :: (w1.heap.size, 22, (c8 u)) :: (w.heap.size, 22, (c8 k)) :: [])) (cs := (slab [q.a, q.b, q.c, q.d]).toArray) (slab [(Cv.stepQ (Cv.baseN u) ⟨q.a, q.b, q.c, q.d⟩).a, (Cv.stepQ (Cv.baseN u) ⟨q.a, q.b, q.c, q.d⟩).b, (Cv.stepQ (Cv.baseN u) ⟨q.a, q.b, q.c, q.d⟩).c, (Cv.stepQ (Cv.baseN u) ⟨q.a, q.b, q.c, q.d⟩).d]).toArray rfl 60 (.tmp 7) (.tmp 36) rfl rfl rfl hO116 (by simp only [List.size_toArray, len_slab, List.length_cons, List.length_nil]) (by kernel_rfl) (one_slab _) fun w117 hO117 => ?_
        clear hO116
        simp only [List.nil_append, List.cons_append, List.set_cons_zero, List.set_cons_succ] at hO117
        try simp only [p0, p1, p2, p3]
        refine wl_nil ?_
        show Code.wp _ _ _ _ _
        go_wp2_with fail
        go_roundw
        case rel => exact ⟨m, Cv.bitQ (Cv.baseN u) false q, by omega, rfl, N4.bit _ _ _, by rw [← hl, hb], hO117⟩
        case measure => simp [intOf]; try omega
      · refine wp_seq ?_
        refine wp_seq ?_
        refine wl_region ?_
        refine wl_pure (.int .i64 (m : Int)) rfl (by kernel_rfl) ?_
        try simp only [p0, p1, p2, p3]
        refine wl_pure (.bool true) rfl ?cmp217 ?_
        case cmp217 => first | (go_simp; done) | (go_simp; rfl)
        try simp only [p0, p1, p2, p3]
        refine wl_nil ?_
        show Code.wp _ _ _ _ _
        refine wp_cond_true rfl ?_
        refine wp_skip ?_
        show Code.wp _ _ _ _ _
        refine wp_seq ?_
        refine wp_block ?_
        refine wp_seq ?_
        refine wl_region ?_
        refine wl_load (c8 (Cv.clampN k)) rfl 22 (.tmp 5) rfl w4.heap.size rfl 22 _ (hO.get (.tail _ (.tail _ (.head _)))) Tryd.underlying22 rfl (inum_c8 _) ?_
        try simp only [p0, p1, p2, p3]
        refine wl_pure (.int .i64 (m : Int)) rfl (by kernel_rfl) ?_
        try simp only [p0, p1, p2, p3]
        refine wl_call (.bool true) rfl (by kernel_rfl) (refBit_any (by omega) hb _) hO fun w219 hO219 => ?_
        clear hO
        try simp only [p0, p1, p2, p3]
        refine wl_nil ?_
        show Code.wp _ _ _ _ _
        refine wp_cond_true rfl ?_
        refine fl_start [5] #[false, false, false, false, false, false] (by kernel_rfl) (by kernel_rfl) hO219 fun w220 hO220 => ?_
        clear hO219
        refine fl_load 0 #[true, false, false, false, false, false] (by kernel_rfl) rfl (some 29) (by kernel_rfl) (by kernel_rfl) (by kernel_rfl) (by kernel_rfl) (by kernel_rfl) (slab [q.a, q.b, q.c, q.d]).toArray (by kernel_rfl) (by kernel_rfl) (by kernel_rfl) 60 (.tmp 7) (by kernel_rfl) w11.heap.size (by kernel_rfl) 60 _ (fun _ h => h.get (.head _)) Tryd.underlying60 rfl (by kernel_rfl) hO220 ?_
        try simp only [p0, p1, p2, p3]
        refine fl_load 2 #[true, false, true, false, false, false] (by kernel_rfl) rfl (some 31) (by kernel_rfl) (by kernel_rfl) (by kernel_rfl) (by kernel_rfl) (by kernel_rfl) (c8 (Cv.baseN u)) (by kernel_rfl) (by kernel_rfl) (by kernel_rfl) 22 (.tmp 6) (by kernel_rfl) w6.heap.size (by kernel_rfl) 22 _ (fun _ h => h.get (.tail _ (.head _))) Tryd.underlying22 rfl (inum_c8 _) hO220 ?_
        try simp only [p0, p1, p2, p3]
        refine fl_call 1 #[true, true, true, false, false, false] (by kernel_rfl) rfl (some 30) (by kernel_rfl) rfl (by kernel_rfl) (.agg (slab [q.c, q.d, q.a, q.b]).toArray) (by kernel_rfl) (turned_any q.a q.b q.c q.d _) hO220 (fun _ h => h) fun w221 hO221 => ?_
        try clear hO220
        try simp only [p0, p1, p2, p3]
        refine fl_call 3 #[true, true, true, true, false, false] (by kernel_rfl) rfl (some 32) (by kernel_rfl) rfl (by kernel_rfl) (.agg (slab [(Cv.stepQ (Cv.baseN u) ⟨q.c, q.d, q.a, q.b⟩).a, (Cv.stepQ (Cv.baseN u) ⟨q.c, q.d, q.a, q.b⟩).b, (Cv.stepQ (Cv.baseN u) ⟨q.c, q.d, q.a, q.b⟩).c, (Cv.stepQ (Cv.baseN u) ⟨q.c, q.d, q.a, q.b⟩).d]).toArray) (by kernel_rfl) (refStep_any hq.2.2.1 hq.2.2.2 hq.1 hq.2.1 (base_256 u) _) hO221 (fun _ h => h) fun w222 hO222 => ?_
        try clear hO221
        try simp only [p0, p1, p2, p3]
        refine fl_call 4 #[true, true, true, true, true, false] (by kernel_rfl) rfl (some 33) (by kernel_rfl) rfl (by kernel_rfl) (.agg (slab [(Cv.stepQ (Cv.baseN u) ⟨q.c, q.d, q.a, q.b⟩).c, (Cv.stepQ (Cv.baseN u) ⟨q.c, q.d, q.a, q.b⟩).d, (Cv.stepQ (Cv.baseN u) ⟨q.c, q.d, q.a, q.b⟩).a, (Cv.stepQ (Cv.baseN u) ⟨q.c, q.d, q.a, q.b⟩).b]).toArray) (by kernel_rfl) (turned_any ((Cv.stepQ (Cv.baseN u) ⟨q.c, q.d, q.a, q.b⟩).a) ((Cv.stepQ (Cv.baseN u) ⟨q.c, q.d, q.a, q.b⟩).b) ((Cv.stepQ (Cv.baseN u) ⟨q.c, q.d, q.a, q.b⟩).c) ((Cv.stepQ (Cv.baseN u) ⟨q.c, q.d, q.a, q.b⟩).d) _) hO222 (fun _ h => h) fun w223 hO223 => ?_
        try clear hO222
        try simp only [p0, p1, p2, p3]
        refine fl_set (L1 := []) (L2 := ((w6.heap.size, 22, (c8 (Cv.baseN u))) :: (w4.heap.size, 22, (c8 (Cv.clampN k))) :: (w2.heap.size, 22, (c8 0)) :: (w1.heap.size, 22, (c8 u)) :: (w.heap.size, 22, (c8 k)) :: [])) (cs := (slab [q.a, q.b, q.c, q.d]).toArray) 5 #[true, true, true, true, true, true] (by kernel_rfl) rfl none (by kernel_rfl) rfl (by kernel_rfl) (slab [(Cv.stepQ (Cv.baseN u) ⟨q.c, q.d, q.a, q.b⟩).c, (Cv.stepQ (Cv.baseN u) ⟨q.c, q.d, q.a, q.b⟩).d, (Cv.stepQ (Cv.baseN u) ⟨q.c, q.d, q.a, q.b⟩).a, (Cv.stepQ (Cv.baseN u) ⟨q.c, q.d, q.a, q.b⟩).b]).toArray 60 (.tmp 7) (.tmp 33) rfl rfl rfl hO223 (by simp only [List.size_toArray, len_slab, List.length_cons, List.length_nil]) (by kernel_rfl) (one_slab _) (fun _ _ => clean_no (by kernel_rfl)) fun w224 hO224 => ?_
        try clear hO223
        simp only [List.nil_append, List.cons_append, List.set_cons_zero, List.set_cons_succ] at hO224
        try simp only [p0, p1, p2, p3]
        refine fl_done (by kernel_rfl) ?_
        show Code.wp _ _ _ _ _
        go_wp2_with fail
        go_roundw
        case rel => exact ⟨m, Cv.bitQ (Cv.baseN u) true q, by omega, rfl, N4.bit _ _ _, by rw [← hl, hb], hO224⟩
        case measure => simp [intOf]; try omega
    | zero =>
      rw [show (((0 : Nat) : Int) - 1) = -1 from rfl]
      rw [Cv.ladQ] at hl
      refine wp_seq ?_
      refine wp_seq ?_
      refine wl_region ?_
      refine wl_pure (.int .i64 (-1)) rfl (by kernel_rfl) ?_
      try simp only [p0, p1, p2, p3]
      refine wl_pure (.bool false) rfl ?cmp324 ?_
      case cmp324 => first | (go_simp; done) | (go_simp; rfl)
      try simp only [p0, p1, p2, p3]
      refine wl_nil ?_
      show Code.wp _ _ _ _ _
      refine wp_cond_false rfl ?_
      refine wp_exit ?_
      refine (‹∀ (a : Act) (w : World), _ → _›) _ _ ?_
      refine wp_seq ?_
      refine fl_start [6] #[false, false, false, false, false, false, false] (by kernel_rfl) (by kernel_rfl) hO fun w326 hO326 => ?_
      clear hO
      refine fl_pure 0 #[true, false, false, false, false, false, false] (by kernel_rfl) rfl (some 37) (by kernel_rfl) (by kernel_rfl) (by kernel_rfl) (by kernel_rfl) (by kernel_rfl) (.pointer (some ⟨w11.heap.size, 0, none⟩)) (by kernel_rfl) (fun _ => by kernel_rfl) (fun _ => hO326) ?_
      try simp only [p0, p1, p2, p3]
      refine fl_nth (l := [q.a, q.b, q.c, q.d]) 1 #[true, true, false, false, false, false, false] (by kernel_rfl) rfl (some 38) (by kernel_rfl) (by kernel_rfl) (by kernel_rfl) (by kernel_rfl) (by kernel_rfl) 0 q.a (by kernel_rfl) (by kernel_rfl) (by kernel_rfl) 22 (.tmp 37) (by kernel_rfl) (by kernel_rfl) _ (fun _ h => h.get (.head _)) rfl Tryd.underlying22 rfl (inum_len _) hO326 ?_
      try simp only [p0, p1, p2, p3]
      refine fl_pure 2 #[true, true, true, false, false, false, false] (by kernel_rfl) rfl (some 39) (by kernel_rfl) (by kernel_rfl) (by kernel_rfl) (by kernel_rfl) (by kernel_rfl) (.pointer (some ⟨w11.heap.size, 32, none⟩)) (by kernel_rfl) (fun _ => by kernel_rfl) (fun _ => hO326) ?_
      try simp only [p0, p1, p2, p3]
      refine fl_nth (l := [q.a, q.b, q.c, q.d]) 3 #[true, true, true, true, false, false, false] (by kernel_rfl) rfl (some 40) (by kernel_rfl) (by kernel_rfl) (by kernel_rfl) (by kernel_rfl) (by kernel_rfl) 1 q.b (by kernel_rfl) (by kernel_rfl) (by kernel_rfl) 22 (.tmp 39) (by kernel_rfl) (by kernel_rfl) _ (fun _ h => h.get (.head _)) rfl Tryd.underlying22 rfl (inum_len _) hO326 ?_
      try simp only [p0, p1, p2, p3]
      refine fl_call 4 #[true, true, true, true, true, false, false] (by kernel_rfl) rfl (some 41) (by kernel_rfl) rfl (by kernel_rfl) (.agg (c8 (pinv q.b))) (by kernel_rfl) (refInv_any q.b hq.2.1 _) hO326 (fun _ h => h) fun w327 hO327 => ?_
      try clear hO326
      try simp only [p0, p1, p2, p3]
      refine fl_call 5 #[true, true, true, true, true, true, false] (by kernel_rfl) rfl (some 42) (by kernel_rfl) rfl (by kernel_rfl) (.agg (c8 (q.a * (pinv q.b) % p25))) (by kernel_rfl) (refMul_any q.a (pinv q.b) hq.1 (pinv_256 _) _) hO327 (fun _ h => h) fun w328 hO328 => ?_
      try clear hO327
      try simp only [p0, p1, p2, p3]
      refine fl_set (L1 := [(w11.heap.size, 60, (slab [q.a, q.b, q.c, q.d]).toArray), (w6.heap.size, 22, (c8 (Cv.baseN u))), (w4.heap.size, 22, (c8 (Cv.clampN k)))]) (L2 := ((w1.heap.size, 22, (c8 u)) :: (w.heap.size, 22, (c8 k)) :: [])) (cs := (c8 0)) 6 #[true, true, true, true, true, true, true] (by kernel_rfl) rfl none (by kernel_rfl) rfl (by kernel_rfl) (c8 (q.a * (pinv q.b) % p25)) 22 (.tmp 4) (.tmp 42) rfl rfl rfl hO328 (by simp only [size_c8]) (inum_c8 _) (one_c8 _) (fun _ _ => clean_no (by kernel_rfl)) fun w329 hO329 => ?_
      try clear hO328
      simp only [List.nil_append, List.cons_append, List.set_cons_zero, List.set_cons_succ] at hO329
      try simp only [p0, p1, p2, p3]
      refine fl_done (by kernel_rfl) ?_
      show Code.wp _ _ _ _ _
      refine wp_ret ?_
      have hX : Cv.XN k u = q.a * pinv q.b % p25 := by unfold Cv.XN; rw [← hl]; rfl
      refine bodyPost_ret (results_cell_row rfl _ _ w2.heap.size 22 (c8 (q.a * (pinv q.b) % p25)) (0, 0) _ rfl (hO329.get (.tail _ (.tail _ (.tail _ (.head _))))) Tryd.underlying22 rfl (inum_c8 _)) rfl ?_
      exact ⟨by rw [hX], hO329.bl⟩
end Go.Proofs.YtkmgdpbmkbpkjaaDoor
