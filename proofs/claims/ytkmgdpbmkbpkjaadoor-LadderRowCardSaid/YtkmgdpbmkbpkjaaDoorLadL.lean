/-
  The ladder laws' own fixed answers hold.
-/
import Derived.Test.YtkmgdpbmkbpkjaaDoorLadC
set_option linter.unusedVariables false
set_option linter.unusedSimpArgs false
namespace Go.Proofs.YtkmgdpbmkbpkjaaDoor
open Go.RowKit

theorem pub_lit : Cv.XN 19076158533740022697853188432810029468508100820210985396154491514718125885303 9 = 48084050389777770101701157326923977117307187144965043058462938058489685090437 := Cv.XN_eval (by decide +kernel)
theorem shared_lit : decide (Cv.XN 19076158533740022697853188432810029468508100820210985396154491514718125885303 0 ≠ 0) = false := by rw [Cv.XN_small0]; rfl

set_option maxRecDepth 100000 in
set_option maxHeartbeats 4000000 in
theorem alive_any (w : World) {tG : TypeId} (hG : Bk w 0 tG (c8 121665)) : Ret Tryd.prog 17 #[] w (.bool true) := by
  refine calls_of_wp Tryd.func17 rfl ?_
  simp only [Tryd.ntmps17, List.size_toArray, List.length_cons, List.length_nil, Nat.reduceAdd, Nat.reduceSub, Array.replicate_succ, Array.replicate_zero, List.push_toArray, List.append_toArray, List.nil_append, List.cons_append]
  have hO := Own.nil w
  refine wp_seq ?_
  refine wl_region ?_
  refine wl_pure (.bool false) rfl (by kernel_rfl) ?_
  try simp only [p0, p1, p2, p3]
  refine wl_nil ?_
  show Code.wp _ _ _ _ _
  refine wp_seq ?_
  refine wl_region ?_
  refine wl_pure (.agg (c8 19076158533740022697853188432810029468508100820210985396154491514718125885303)) rfl (by kernel_rfl) ?_
  try simp only [p0, p1, p2, p3]
  refine wl_new 22 (c8 0) rfl (by kernel_rfl) hO fun w1 hO1 => ?_
  clear hO
  try simp only [p0, p1, p2, p3]
  refine wl_store (L1 := []) (L2 := ([])) (cs := (c8 0)) (c8 19076158533740022697853188432810029468508100820210985396154491514718125885303) rfl 22 (.tmp 1) (.tmp 5) rfl rfl rfl hO1 (by simp only [size_c8]) (inum_c8 _) (one_c8 _) fun w2 hO2 => ?_
  clear hO1
  simp only [List.nil_append, List.cons_append, List.set_cons_zero, List.set_cons_succ] at hO2
  try simp only [p0, p1, p2, p3]
  refine wl_nil ?_
  show Code.wp _ _ _ _ _
  refine wp_seq ?_
  refine wl_region ?_
  refine wl_load (c8 19076158533740022697853188432810029468508100820210985396154491514718125885303) rfl 22 (.tmp 1) rfl w.heap.size rfl 22 _ (hO2.get (.head _)) Tryd.underlying22 rfl (inum_c8 _) ?_
  try simp only [p0, p1, p2, p3]
  refine wl_call (.agg (c8 48084050389777770101701157326923977117307187144965043058462938058489685090437)) rfl (by kernel_rfl) ((pub_lit ▸ pub_any (k := 19076158533740022697853188432810029468508100820210985396154491514718125885303) (by unfold N256; omega) _ (hG.below hO2.bl hG.lt))) hO2 fun w3 hO3 => ?_
  clear hO2
  try simp only [p0, p1, p2, p3]
  refine wl_new 22 (c8 0) rfl (by kernel_rfl) hO3 fun w4 hO4 => ?_
  clear hO3
  try simp only [p0, p1, p2, p3]
  refine wl_store (L1 := []) (L2 := ((w.heap.size, 22, (c8 19076158533740022697853188432810029468508100820210985396154491514718125885303)) :: [])) (cs := (c8 0)) (c8 48084050389777770101701157326923977117307187144965043058462938058489685090437) rfl 22 (.tmp 2) (.tmp 7) rfl rfl rfl hO4 (by simp only [size_c8]) (inum_c8 _) (one_c8 _) fun w5 hO5 => ?_
  clear hO4
  simp only [List.nil_append, List.cons_append, List.set_cons_zero, List.set_cons_succ] at hO5
  try simp only [p0, p1, p2, p3]
  refine wl_nil ?_
  show Code.wp _ _ _ _ _
  refine wp_seq ?_
  refine wl_region ?_
  refine wl_load (c8 19076158533740022697853188432810029468508100820210985396154491514718125885303) rfl 22 (.tmp 1) rfl w.heap.size rfl 22 _ (hO5.get (.tail _ (.head _))) Tryd.underlying22 rfl (inum_c8 _) ?_
  try simp only [p0, p1, p2, p3]
  refine wl_pure (.agg (c8 0)) rfl (by kernel_rfl) ?_
  try simp only [p0, p1, p2, p3]
  refine wl_call (.tuple #[.agg (c8 (Cv.XN 19076158533740022697853188432810029468508100820210985396154491514718125885303 0)), .bool false]) rfl (by kernel_rfl) (shared_any (by unfold N256; omega) (by unfold N256; omega) shared_lit _ (hG.below hO5.bl hG.lt)) hO5 fun w6 hO6 => ?_
  clear hO5
  try simp only [p0, p1, p2, p3]
  refine wl_pure (.tuple #[.agg (c8 (Cv.XN 19076158533740022697853188432810029468508100820210985396154491514718125885303 0)), .bool false]) rfl (by kernel_rfl) ?_
  try simp only [p0, p1, p2, p3]
  refine wl_pure (.agg (c8 (Cv.XN 19076158533740022697853188432810029468508100820210985396154491514718125885303 0))) rfl (by kernel_rfl) ?_
  try simp only [p0, p1, p2, p3]
  refine wl_pure (.bool false) rfl (by kernel_rfl) ?_
  try simp only [p0, p1, p2, p3]
  refine wl_new 22 (c8 0) rfl (by kernel_rfl) hO6 fun w7 hO7 => ?_
  clear hO6
  try simp only [p0, p1, p2, p3]
  refine wl_store (L1 := []) (L2 := ((w3.heap.size, 22, (c8 48084050389777770101701157326923977117307187144965043058462938058489685090437)) :: (w.heap.size, 22, (c8 19076158533740022697853188432810029468508100820210985396154491514718125885303)) :: [])) (cs := (c8 0)) (c8 (Cv.XN 19076158533740022697853188432810029468508100820210985396154491514718125885303 0)) rfl 22 (.tmp 3) (.tmp 12) rfl rfl rfl hO7 (by simp only [size_c8]) (inum_c8 _) (one_c8 _) fun w8 hO8 => ?_
  clear hO7
  simp only [List.nil_append, List.cons_append, List.set_cons_zero, List.set_cons_succ] at hO8
  try simp only [p0, p1, p2, p3]
  refine wl_pure (.bool false) rfl (by kernel_rfl) ?_
  try simp only [p0, p1, p2, p3]
  refine wl_nil ?_
  show Code.wp _ _ _ _ _
  refine wp_seq ?_
  refine wl_region ?_
  refine wl_pure (.pointer (some ⟨w3.heap.size, 0, none⟩)) (by kernel_rfl) (by kernel_rfl) ?_
  try simp only [p0, p1, p2, p3]
  refine wl_byte 0 (by decide) (by kernel_rfl) 5 (.tmp 14) rfl rfl (.tail _ (.head _)) isAgg_u8 hO8 ?_
  try simp only [p0, p1, p2, p3]
  refine wl_pure (.bool true) (by kernel_rfl) (u8cmp (run_eql8 (byteN 48084050389777770101701157326923977117307187144965043058462938058489685090437 0) 133 true (by decide +kernel) _) (fun _ => rfl) rfl rfl rfl _) ?_
  try simp only [p0, p1, p2, p3]
  refine wl_pure (.bool true) (by kernel_rfl) (by kernel_rfl) ?_
  try simp only [p0, p1, p2, p3]
  refine wl_pure (.pointer (some ⟨w3.heap.size, 1, none⟩)) (by kernel_rfl) (by kernel_rfl) ?_
  try simp only [p0, p1, p2, p3]
  refine wl_byte 1 (by decide) (by kernel_rfl) 5 (.tmp 18) rfl rfl (.tail _ (.head _)) isAgg_u8 hO8 ?_
  try simp only [p0, p1, p2, p3]
  refine wl_pure (.bool true) (by kernel_rfl) (u8cmp (run_eql8 (byteN 48084050389777770101701157326923977117307187144965043058462938058489685090437 1) 32 true (by decide +kernel) _) (fun _ => rfl) rfl rfl rfl _) ?_
  try simp only [p0, p1, p2, p3]
  refine wl_pure (.bool true) (by kernel_rfl) (by kernel_rfl) ?_
  try simp only [p0, p1, p2, p3]
  refine wl_pure (.bool true) (by kernel_rfl) (by kernel_rfl) ?_
  try simp only [p0, p1, p2, p3]
  refine wl_pure (.pointer (some ⟨w3.heap.size, 2, none⟩)) (by kernel_rfl) (by kernel_rfl) ?_
  try simp only [p0, p1, p2, p3]
  refine wl_byte 2 (by decide) (by kernel_rfl) 5 (.tmp 23) rfl rfl (.tail _ (.head _)) isAgg_u8 hO8 ?_
  try simp only [p0, p1, p2, p3]
  refine wl_pure (.bool true) (by kernel_rfl) (u8cmp (run_eql8 (byteN 48084050389777770101701157326923977117307187144965043058462938058489685090437 2) 240 true (by decide +kernel) _) (fun _ => rfl) rfl rfl rfl _) ?_
  try simp only [p0, p1, p2, p3]
  refine wl_pure (.bool true) (by kernel_rfl) (by kernel_rfl) ?_
  try simp only [p0, p1, p2, p3]
  refine wl_pure (.bool true) (by kernel_rfl) (by kernel_rfl) ?_
  try simp only [p0, p1, p2, p3]
  refine wl_pure (.pointer (some ⟨w3.heap.size, 31, none⟩)) (by kernel_rfl) (by kernel_rfl) ?_
  try simp only [p0, p1, p2, p3]
  refine wl_byte 31 (by decide) (by kernel_rfl) 5 (.tmp 28) rfl rfl (.tail _ (.head _)) isAgg_u8 hO8 ?_
  try simp only [p0, p1, p2, p3]
  refine wl_pure (.bool true) (by kernel_rfl) (u8cmp (run_eql8 (byteN 48084050389777770101701157326923977117307187144965043058462938058489685090437 31) 106 true (by decide +kernel) _) (fun _ => rfl) rfl rfl rfl _) ?_
  try simp only [p0, p1, p2, p3]
  refine wl_pure (.bool true) (by kernel_rfl) (by kernel_rfl) ?_
  try simp only [p0, p1, p2, p3]
  refine wl_pure (.bool true) (by kernel_rfl) (by kernel_rfl) ?_
  try simp only [p0, p1, p2, p3]
  refine wl_pure (.bool false) (by kernel_rfl) (by kernel_rfl) ?_
  try simp only [p0, p1, p2, p3]
  refine wl_pure (.bool true) (by kernel_rfl) (by kernel_rfl) ?_
  try simp only [p0, p1, p2, p3]
  refine wl_pure (.bool true) (by kernel_rfl) (by kernel_rfl) ?_
  try simp only [p0, p1, p2, p3]
  refine wl_pure (.bool true) (by kernel_rfl) (by kernel_rfl) ?_
  try simp only [p0, p1, p2, p3]
  refine wl_pure (.agg (c8 255)) (by kernel_rfl) (by kernel_rfl) ?_
  try simp only [p0, p1, p2, p3]
  refine wl_call (.agg (c8 (Cv.clampN 255))) (by kernel_rfl) (by kernel_rfl) (clamp_any (by unfold N256; omega) _) hO8 fun w9 hO9 => ?_
  clear hO8
  try simp only [p0, p1, p2, p3]
  refine wl_pure (.int .u8 ((byteN (Cv.clampN 255) 0 : Nat) : Int)) (by kernel_rfl) (by kernel_rfl) ?_
  try simp only [p0, p1, p2, p3]
  refine wl_pure (.bool true) (by kernel_rfl) (u8cmp (run_eql8 (byteN (Cv.clampN 255) 0) 248 true (by decide +kernel) _) (fun _ => rfl) rfl rfl rfl _) ?_
  try simp only [p0, p1, p2, p3]
  refine wl_pure (.bool true) (by kernel_rfl) (by kernel_rfl) ?_
  try simp only [p0, p1, p2, p3]
  refine wl_pure (.bool true) (by kernel_rfl) (by kernel_rfl) ?_
  try simp only [p0, p1, p2, p3]
  refine wl_nil ?_
  show Code.wp _ _ _ _ _
  refine wp_ret ?_
  refine bodyPost_ret (results_tmp rfl _ _ _) rfl ?_
  exact ⟨rfl, hO9.bl⟩
end Go.Proofs.YtkmgdpbmkbpkjaaDoor
