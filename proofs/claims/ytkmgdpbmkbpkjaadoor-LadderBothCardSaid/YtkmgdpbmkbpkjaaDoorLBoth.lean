/-
  LadderBoth, walked: it answers true.
-/
import Derived.Test.YtkmgdpbmkbpkjaaDoorLadL
import Derived.Test.YtkmgdpbmkbpkjaaDoorGCv
set_option linter.unusedVariables false
set_option linter.unusedSimpArgs false
namespace Go.Proofs.YtkmgdpbmkbpkjaaDoor
open Go.RowKit

set_option maxRecDepth 100000 in
set_option maxHeartbeats 8000000 in
theorem both_any {a b u : Nat} (ha : N256 a) (hb : N256 b) (hu : N256 u) (w : World) {tG : TypeId} (hG : Bk w 0 tG (c8 121665)) : Ret Tryd.prog 6 #[.agg (c8 a), .agg (c8 b), .agg (c8 u)] w (.bool true) := by
  refine calls_of_wp Tryd.func6 rfl ?_
  simp only [Tryd.ntmps6, List.size_toArray, List.length_cons, List.length_nil, Nat.reduceAdd, Nat.reduceSub, Array.replicate_succ, Array.replicate_zero, List.push_toArray, List.append_toArray, List.nil_append, List.cons_append]
  have hO := Own.nil w
  refine wp_seq ?_
  refine wl_region ?_
  refine wl_new 22 (c8 a) rfl (by kernel_rfl) hO fun w1 hO1 => ?_
  clear hO
  try simp only [p0, p1, p2, p3]
  refine wl_new 22 (c8 b) rfl (by kernel_rfl) hO1 fun w2 hO2 => ?_
  clear hO1
  try simp only [p0, p1, p2, p3]
  refine wl_new 22 (c8 u) rfl (by kernel_rfl) hO2 fun w3 hO3 => ?_
  clear hO2
  try simp only [p0, p1, p2, p3]
  refine wl_pure (.bool false) rfl (by kernel_rfl) ?_
  try simp only [p0, p1, p2, p3]
  refine wl_nil ?_
  show Code.wp _ _ _ _ _
  refine wp_seq ?_
  refine wp_seq ?_
  refine wl_region ?_
  refine wl_call (.bool true) rfl (by kernel_rfl) (alive_any _ (hG.below hO3.bl hG.lt)) hO3 fun w4 hO4 => ?_
  clear hO3
  try simp only [p0, p1, p2, p3]
  refine wl_pure (.bool false) rfl (by kernel_rfl) ?_
  try simp only [p0, p1, p2, p3]
  refine wl_nil ?_
  show Code.wp _ _ _ _ _
  refine wp_cond_false rfl ?_
  refine wp_skip ?_
  show Code.wp _ _ _ _ _
  refine wp_seq ?_
  refine fl_start [] #[false, false, false, false, false, false, false, false, false, false] (by kernel_rfl) (by kernel_rfl) hO4 fun w5 hO5 => ?_
  clear hO4
  refine fl_load 0 #[true, false, false, false, false, false, false, false, false, false] (by kernel_rfl) rfl (some 14) (by kernel_rfl) (by kernel_rfl) (by kernel_rfl) (by kernel_rfl) (by kernel_rfl) (c8 a) (by kernel_rfl) (by kernel_rfl) (by kernel_rfl) 22 (.tmp 3) (by kernel_rfl) w.heap.size (by kernel_rfl) 22 _ (fun _ h => h.get (.tail _ (.tail _ (.head _)))) Tryd.underlying22 rfl (inum_c8 _) hO5 ?_
  try simp only [p0, p1, p2, p3]
  refine fl_load 1 #[true, true, false, false, false, false, false, false, false, false] (by kernel_rfl) rfl (some 15) (by kernel_rfl) (by kernel_rfl) (by kernel_rfl) (by kernel_rfl) (by kernel_rfl) (c8 b) (by kernel_rfl) (by kernel_rfl) (by kernel_rfl) 22 (.tmp 4) (by kernel_rfl) w1.heap.size (by kernel_rfl) 22 _ (fun _ h => h.get (.tail _ (.head _))) Tryd.underlying22 rfl (inum_c8 _) hO5 ?_
  try simp only [p0, p1, p2, p3]
  refine fl_cut (w0 := w) (L := ((w2.heap.size, 22, (c8 u)) :: (w1.heap.size, 22, (c8 b)) :: (w.heap.size, 22, (c8 a)) :: [])) (t := 22) (cs := (c8 (Cv.XN a (Cv.XN b 9)))) (a' := ?actw17) (fun key => ?regw17) ?restw17
  case regw17 =>
    refine fl_both 2 7 (by kernel_rfl) ?_ ?_
    · refine sf_call 2 #[true, true, true, false, false, false, false, false, false, false] (by kernel_rfl) rfl (some 16) (by kernel_rfl) rfl (.agg (c8 (Cv.XN b 9))) (by kernel_rfl) (pub_any hb _ (hG.below hO5.bl hG.lt)) hO5 (fun _ h => h) fun w6 hO6 => ?_
      try clear hO5
      try simp only [p0, p1, p2, p3]
      refine fl_both 3 7 (by kernel_rfl) ?_ ?_
      · refine sf_call 3 #[true, true, true, true, false, false, false, false, false, false] (by kernel_rfl) rfl (some 17) (by kernel_rfl) rfl (.tuple #[.agg (c8 (Cv.XN a (Cv.XN b 9))), .bool true]) (by kernel_rfl) (shared_any ha (XN_256 _ _) (decide_eq_true (Cv.XN_ne a b)) _ (hG.below hO6.bl hG.lt)) hO6 (fun _ h => h) fun w7 hO7 => ?_
        try clear hO6
        try simp only [p0, p1, p2, p3]
        refine fl_pure 4 #[true, true, true, true, true, false, false, false, false, false] (by kernel_rfl) rfl (some 13) (by kernel_rfl) (by kernel_rfl) (by kernel_rfl) (by kernel_rfl) (by kernel_rfl) (.tuple #[.agg (c8 (Cv.XN a (Cv.XN b 9))), .bool true]) (by kernel_rfl) (fun _ => by kernel_rfl) (fun _ => hO7) ?_
        try simp only [p0, p1, p2, p3]
        refine fl_pure 5 #[true, true, true, true, true, true, false, false, false, false] (by kernel_rfl) rfl (some 18) (by kernel_rfl) (by kernel_rfl) (by kernel_rfl) (by kernel_rfl) (by kernel_rfl) (.agg (c8 (Cv.XN a (Cv.XN b 9)))) (by kernel_rfl) (fun _ => by kernel_rfl) (fun _ => hO7) ?_
        try simp only [p0, p1, p2, p3]
        refine fl_pure 6 #[true, true, true, true, true, true, true, false, false, false] (by kernel_rfl) rfl (some 19) (by kernel_rfl) (by kernel_rfl) (by kernel_rfl) (by kernel_rfl) (by kernel_rfl) (.bool true) (by kernel_rfl) (fun _ => by kernel_rfl) (fun _ => hO7) ?_
        try simp only [p0, p1, p2, p3]
        refine fl_alloc 7 #[true, true, true, true, true, true, true, true, false, false] (by kernel_rfl) rfl (some 7) (by kernel_rfl) rfl (by kernel_rfl) 22 (c8 0) (by kernel_rfl) hO7 (fun _ h => h) fun gw8 w8 hO8 => ?_
        try clear hO7
        try simp only [p0, p1, p2, p3]
        refine fl_set (L1 := []) (L2 := ((w2.heap.size, 22, (c8 u)) :: (w1.heap.size, 22, (c8 b)) :: (w.heap.size, 22, (c8 a)) :: [])) (cs := (c8 0)) 8 #[true, true, true, true, true, true, true, true, true, false] (by kernel_rfl) rfl none (by kernel_rfl) rfl (by kernel_rfl) (c8 (Cv.XN a (Cv.XN b 9))) 22 (.tmp 7) (.tmp 18) rfl rfl rfl hO8 (by simp only [size_c8]) (inum_c8 _) (one_c8 _) (fun _ h _ => h.tail) fun w9 hO9 => ?_
        try clear hO8
        simp only [List.nil_append, List.cons_append, List.set_cons_zero, List.set_cons_succ] at hO9
        try simp only [p0, p1, p2, p3]
        refine fl_pure 9 #[true, true, true, true, true, true, true, true, true, true] (by kernel_rfl) rfl (some 8) (by kernel_rfl) (by kernel_rfl) (by kernel_rfl) (by kernel_rfl) (by kernel_rfl) (.bool true) (by kernel_rfl) (fun _ => by kernel_rfl) (fun _ => hO9.tail) ?_
        try simp only [p0, p1, p2, p3]
        refine fl_done (by kernel_rfl) ?_
        exact key _ _ hO9
      · refine sf_alloc 7 #[true, true, true, false, false, false, false, true, false, false] (by kernel_rfl) rfl (some 7) (by kernel_rfl) rfl 22 (c8 0) (by kernel_rfl) hO6 (fun _ h => h) fun gw10 w10 hO10 => ?_
        try clear hO6
        try simp only [p0, p1, p2, p3]
        refine fl_call 3 #[true, true, true, true, false, false, false, true, false, false] (by kernel_rfl) rfl (some 17) (by kernel_rfl) rfl (by kernel_rfl) (.tuple #[.agg (c8 (Cv.XN a (Cv.XN b 9))), .bool true]) (by kernel_rfl) (shared_any ha (XN_256 _ _) (decide_eq_true (Cv.XN_ne a b)) _ (hG.below hO10.bl hG.lt)) hO10 (fun _ h => h.tail) fun w11 hO11 => ?_
        try clear hO10
        try simp only [p0, p1, p2, p3]
        refine fl_pure 4 #[true, true, true, true, true, false, false, true, false, false] (by kernel_rfl) rfl (some 13) (by kernel_rfl) (by kernel_rfl) (by kernel_rfl) (by kernel_rfl) (by kernel_rfl) (.tuple #[.agg (c8 (Cv.XN a (Cv.XN b 9))), .bool true]) (by kernel_rfl) (fun _ => by kernel_rfl) (fun _ => hO11.tail) ?_
        try simp only [p0, p1, p2, p3]
        refine fl_pure 5 #[true, true, true, true, true, true, false, true, false, false] (by kernel_rfl) rfl (some 18) (by kernel_rfl) (by kernel_rfl) (by kernel_rfl) (by kernel_rfl) (by kernel_rfl) (.agg (c8 (Cv.XN a (Cv.XN b 9)))) (by kernel_rfl) (fun _ => by kernel_rfl) (fun _ => hO11.tail) ?_
        try simp only [p0, p1, p2, p3]
        refine fl_pure 6 #[true, true, true, true, true, true, true, true, false, false] (by kernel_rfl) rfl (some 19) (by kernel_rfl) (by kernel_rfl) (by kernel_rfl) (by kernel_rfl) (by kernel_rfl) (.bool true) (by kernel_rfl) (fun _ => by kernel_rfl) (fun _ => hO11.tail) ?_
        try simp only [p0, p1, p2, p3]
        refine fl_set (L1 := []) (L2 := ((w2.heap.size, 22, (c8 u)) :: (w1.heap.size, 22, (c8 b)) :: (w.heap.size, 22, (c8 a)) :: [])) (cs := (c8 0)) 8 #[true, true, true, true, true, true, true, true, true, false] (by kernel_rfl) rfl none (by kernel_rfl) rfl (by kernel_rfl) (c8 (Cv.XN a (Cv.XN b 9))) 22 (.tmp 7) (.tmp 18) rfl rfl rfl hO11 (by simp only [size_c8]) (inum_c8 _) (one_c8 _) (fun _ h _ => h.tail) fun w12 hO12 => ?_
        try clear hO11
        simp only [List.nil_append, List.cons_append, List.set_cons_zero, List.set_cons_succ] at hO12
        try simp only [p0, p1, p2, p3]
        refine fl_pure 9 #[true, true, true, true, true, true, true, true, true, true] (by kernel_rfl) rfl (some 8) (by kernel_rfl) (by kernel_rfl) (by kernel_rfl) (by kernel_rfl) (by kernel_rfl) (.bool true) (by kernel_rfl) (fun _ => by kernel_rfl) (fun _ => hO12.tail) ?_
        try simp only [p0, p1, p2, p3]
        refine fl_done (by kernel_rfl) ?_
        exact key _ _ hO12
    · refine sf_alloc 7 #[true, true, false, false, false, false, false, true, false, false] (by kernel_rfl) rfl (some 7) (by kernel_rfl) rfl 22 (c8 0) (by kernel_rfl) hO5 (fun _ h => h) fun gw13 w13 hO13 => ?_
      try clear hO5
      try simp only [p0, p1, p2, p3]
      refine fl_call 2 #[true, true, true, false, false, false, false, true, false, false] (by kernel_rfl) rfl (some 16) (by kernel_rfl) rfl (by kernel_rfl) (.agg (c8 (Cv.XN b 9))) (by kernel_rfl) (pub_any hb _ (hG.below hO13.bl hG.lt)) hO13 (fun _ h => h.tail) fun w14 hO14 => ?_
      try clear hO13
      try simp only [p0, p1, p2, p3]
      refine fl_call 3 #[true, true, true, true, false, false, false, true, false, false] (by kernel_rfl) rfl (some 17) (by kernel_rfl) rfl (by kernel_rfl) (.tuple #[.agg (c8 (Cv.XN a (Cv.XN b 9))), .bool true]) (by kernel_rfl) (shared_any ha (XN_256 _ _) (decide_eq_true (Cv.XN_ne a b)) _ (hG.below hO14.bl hG.lt)) hO14 (fun _ h => h.tail) fun w15 hO15 => ?_
      try clear hO14
      try simp only [p0, p1, p2, p3]
      refine fl_pure 4 #[true, true, true, true, true, false, false, true, false, false] (by kernel_rfl) rfl (some 13) (by kernel_rfl) (by kernel_rfl) (by kernel_rfl) (by kernel_rfl) (by kernel_rfl) (.tuple #[.agg (c8 (Cv.XN a (Cv.XN b 9))), .bool true]) (by kernel_rfl) (fun _ => by kernel_rfl) (fun _ => hO15.tail) ?_
      try simp only [p0, p1, p2, p3]
      refine fl_pure 5 #[true, true, true, true, true, true, false, true, false, false] (by kernel_rfl) rfl (some 18) (by kernel_rfl) (by kernel_rfl) (by kernel_rfl) (by kernel_rfl) (by kernel_rfl) (.agg (c8 (Cv.XN a (Cv.XN b 9)))) (by kernel_rfl) (fun _ => by kernel_rfl) (fun _ => hO15.tail) ?_
      try simp only [p0, p1, p2, p3]
      refine fl_pure 6 #[true, true, true, true, true, true, true, true, false, false] (by kernel_rfl) rfl (some 19) (by kernel_rfl) (by kernel_rfl) (by kernel_rfl) (by kernel_rfl) (by kernel_rfl) (.bool true) (by kernel_rfl) (fun _ => by kernel_rfl) (fun _ => hO15.tail) ?_
      try simp only [p0, p1, p2, p3]
      refine fl_set (L1 := []) (L2 := ((w2.heap.size, 22, (c8 u)) :: (w1.heap.size, 22, (c8 b)) :: (w.heap.size, 22, (c8 a)) :: [])) (cs := (c8 0)) 8 #[true, true, true, true, true, true, true, true, true, false] (by kernel_rfl) rfl none (by kernel_rfl) rfl (by kernel_rfl) (c8 (Cv.XN a (Cv.XN b 9))) 22 (.tmp 7) (.tmp 18) rfl rfl rfl hO15 (by simp only [size_c8]) (inum_c8 _) (one_c8 _) (fun _ h _ => h.tail) fun w16 hO16 => ?_
      try clear hO15
      simp only [List.nil_append, List.cons_append, List.set_cons_zero, List.set_cons_succ] at hO16
      try simp only [p0, p1, p2, p3]
      refine fl_pure 9 #[true, true, true, true, true, true, true, true, true, true] (by kernel_rfl) rfl (some 8) (by kernel_rfl) (by kernel_rfl) (by kernel_rfl) (by kernel_rfl) (by kernel_rfl) (.bool true) (by kernel_rfl) (fun _ => by kernel_rfl) (fun _ => hO16.tail) ?_
      try simp only [p0, p1, p2, p3]
      refine fl_done (by kernel_rfl) ?_
      exact key _ _ hO16
  intro gw17 w17 hO17
  try clear hO5
  show Code.wp _ _ _ _ _
  refine wp_seq ?_
  refine fl_start [] #[false, false, false, false, false, false, false, false, false, false] (by kernel_rfl) (by kernel_rfl) hO17 fun w18 hO18 => ?_
  clear hO17
  refine fl_load 0 #[true, false, false, false, false, false, false, false, false, false] (by kernel_rfl) rfl (some 21) (by kernel_rfl) (by kernel_rfl) (by kernel_rfl) (by kernel_rfl) (by kernel_rfl) (c8 b) (by kernel_rfl) (by kernel_rfl) (by kernel_rfl) 22 (.tmp 4) (by kernel_rfl) w1.heap.size (by kernel_rfl) 22 _ (fun _ h => h.get (.tail _ (.tail _ (.head _)))) Tryd.underlying22 rfl (inum_c8 _) hO18 ?_
  try simp only [p0, p1, p2, p3]
  refine fl_load 1 #[true, true, false, false, false, false, false, false, false, false] (by kernel_rfl) rfl (some 22) (by kernel_rfl) (by kernel_rfl) (by kernel_rfl) (by kernel_rfl) (by kernel_rfl) (c8 a) (by kernel_rfl) (by kernel_rfl) (by kernel_rfl) 22 (.tmp 3) (by kernel_rfl) w.heap.size (by kernel_rfl) 22 _ (fun _ h => h.get (.tail _ (.tail _ (.tail _ (.head _))))) Tryd.underlying22 rfl (inum_c8 _) hO18 ?_
  try simp only [p0, p1, p2, p3]
  refine fl_cut (w0 := w) (L := ((gw17, 22, (c8 (Cv.XN a (Cv.XN b 9)))) :: (w2.heap.size, 22, (c8 u)) :: (w1.heap.size, 22, (c8 b)) :: (w.heap.size, 22, (c8 a)) :: [])) (t := 22) (cs := (c8 (Cv.XN b (Cv.XN a 9)))) (a' := ?actw30) (fun key => ?regw30) ?restw30
  case regw30 =>
    refine fl_both 2 7 (by kernel_rfl) ?_ ?_
    · refine sf_call 2 #[true, true, true, false, false, false, false, false, false, false] (by kernel_rfl) rfl (some 23) (by kernel_rfl) rfl (.agg (c8 (Cv.XN a 9))) (by kernel_rfl) (pub_any ha _ (hG.below hO18.bl hG.lt)) hO18 (fun _ h => h) fun w19 hO19 => ?_
      try clear hO18
      try simp only [p0, p1, p2, p3]
      refine fl_both 3 7 (by kernel_rfl) ?_ ?_
      · refine sf_call 3 #[true, true, true, true, false, false, false, false, false, false] (by kernel_rfl) rfl (some 24) (by kernel_rfl) rfl (.tuple #[.agg (c8 (Cv.XN b (Cv.XN a 9))), .bool true]) (by kernel_rfl) (shared_any hb (XN_256 _ _) (decide_eq_true (Cv.XN_ne b a)) _ (hG.below hO19.bl hG.lt)) hO19 (fun _ h => h) fun w20 hO20 => ?_
        try clear hO19
        try simp only [p0, p1, p2, p3]
        refine fl_pure 4 #[true, true, true, true, true, false, false, false, false, false] (by kernel_rfl) rfl (some 20) (by kernel_rfl) (by kernel_rfl) (by kernel_rfl) (by kernel_rfl) (by kernel_rfl) (.tuple #[.agg (c8 (Cv.XN b (Cv.XN a 9))), .bool true]) (by kernel_rfl) (fun _ => by kernel_rfl) (fun _ => hO20) ?_
        try simp only [p0, p1, p2, p3]
        refine fl_pure 5 #[true, true, true, true, true, true, false, false, false, false] (by kernel_rfl) rfl (some 25) (by kernel_rfl) (by kernel_rfl) (by kernel_rfl) (by kernel_rfl) (by kernel_rfl) (.agg (c8 (Cv.XN b (Cv.XN a 9)))) (by kernel_rfl) (fun _ => by kernel_rfl) (fun _ => hO20) ?_
        try simp only [p0, p1, p2, p3]
        refine fl_pure 6 #[true, true, true, true, true, true, true, false, false, false] (by kernel_rfl) rfl (some 26) (by kernel_rfl) (by kernel_rfl) (by kernel_rfl) (by kernel_rfl) (by kernel_rfl) (.bool true) (by kernel_rfl) (fun _ => by kernel_rfl) (fun _ => hO20) ?_
        try simp only [p0, p1, p2, p3]
        refine fl_alloc 7 #[true, true, true, true, true, true, true, true, false, false] (by kernel_rfl) rfl (some 9) (by kernel_rfl) rfl (by kernel_rfl) 22 (c8 0) (by kernel_rfl) hO20 (fun _ h => h) fun gw21 w21 hO21 => ?_
        try clear hO20
        try simp only [p0, p1, p2, p3]
        refine fl_set (L1 := []) (L2 := ((gw17, 22, (c8 (Cv.XN a (Cv.XN b 9)))) :: (w2.heap.size, 22, (c8 u)) :: (w1.heap.size, 22, (c8 b)) :: (w.heap.size, 22, (c8 a)) :: [])) (cs := (c8 0)) 8 #[true, true, true, true, true, true, true, true, true, false] (by kernel_rfl) rfl none (by kernel_rfl) rfl (by kernel_rfl) (c8 (Cv.XN b (Cv.XN a 9))) 22 (.tmp 9) (.tmp 25) rfl rfl rfl hO21 (by simp only [size_c8]) (inum_c8 _) (one_c8 _) (fun _ h _ => h.tail) fun w22 hO22 => ?_
        try clear hO21
        simp only [List.nil_append, List.cons_append, List.set_cons_zero, List.set_cons_succ] at hO22
        try simp only [p0, p1, p2, p3]
        refine fl_pure 9 #[true, true, true, true, true, true, true, true, true, true] (by kernel_rfl) rfl (some 10) (by kernel_rfl) (by kernel_rfl) (by kernel_rfl) (by kernel_rfl) (by kernel_rfl) (.bool true) (by kernel_rfl) (fun _ => by kernel_rfl) (fun _ => hO22.tail) ?_
        try simp only [p0, p1, p2, p3]
        refine fl_done (by kernel_rfl) ?_
        exact key _ _ hO22
      · refine sf_alloc 7 #[true, true, true, false, false, false, false, true, false, false] (by kernel_rfl) rfl (some 9) (by kernel_rfl) rfl 22 (c8 0) (by kernel_rfl) hO19 (fun _ h => h) fun gw23 w23 hO23 => ?_
        try clear hO19
        try simp only [p0, p1, p2, p3]
        refine fl_call 3 #[true, true, true, true, false, false, false, true, false, false] (by kernel_rfl) rfl (some 24) (by kernel_rfl) rfl (by kernel_rfl) (.tuple #[.agg (c8 (Cv.XN b (Cv.XN a 9))), .bool true]) (by kernel_rfl) (shared_any hb (XN_256 _ _) (decide_eq_true (Cv.XN_ne b a)) _ (hG.below hO23.bl hG.lt)) hO23 (fun _ h => h.tail) fun w24 hO24 => ?_
        try clear hO23
        try simp only [p0, p1, p2, p3]
        refine fl_pure 4 #[true, true, true, true, true, false, false, true, false, false] (by kernel_rfl) rfl (some 20) (by kernel_rfl) (by kernel_rfl) (by kernel_rfl) (by kernel_rfl) (by kernel_rfl) (.tuple #[.agg (c8 (Cv.XN b (Cv.XN a 9))), .bool true]) (by kernel_rfl) (fun _ => by kernel_rfl) (fun _ => hO24.tail) ?_
        try simp only [p0, p1, p2, p3]
        refine fl_pure 5 #[true, true, true, true, true, true, false, true, false, false] (by kernel_rfl) rfl (some 25) (by kernel_rfl) (by kernel_rfl) (by kernel_rfl) (by kernel_rfl) (by kernel_rfl) (.agg (c8 (Cv.XN b (Cv.XN a 9)))) (by kernel_rfl) (fun _ => by kernel_rfl) (fun _ => hO24.tail) ?_
        try simp only [p0, p1, p2, p3]
        refine fl_pure 6 #[true, true, true, true, true, true, true, true, false, false] (by kernel_rfl) rfl (some 26) (by kernel_rfl) (by kernel_rfl) (by kernel_rfl) (by kernel_rfl) (by kernel_rfl) (.bool true) (by kernel_rfl) (fun _ => by kernel_rfl) (fun _ => hO24.tail) ?_
        try simp only [p0, p1, p2, p3]
        refine fl_set (L1 := []) (L2 := ((gw17, 22, (c8 (Cv.XN a (Cv.XN b 9)))) :: (w2.heap.size, 22, (c8 u)) :: (w1.heap.size, 22, (c8 b)) :: (w.heap.size, 22, (c8 a)) :: [])) (cs := (c8 0)) 8 #[true, true, true, true, true, true, true, true, true, false] (by kernel_rfl) rfl none (by kernel_rfl) rfl (by kernel_rfl) (c8 (Cv.XN b (Cv.XN a 9))) 22 (.tmp 9) (.tmp 25) rfl rfl rfl hO24 (by simp only [size_c8]) (inum_c8 _) (one_c8 _) (fun _ h _ => h.tail) fun w25 hO25 => ?_
        try clear hO24
        simp only [List.nil_append, List.cons_append, List.set_cons_zero, List.set_cons_succ] at hO25
        try simp only [p0, p1, p2, p3]
        refine fl_pure 9 #[true, true, true, true, true, true, true, true, true, true] (by kernel_rfl) rfl (some 10) (by kernel_rfl) (by kernel_rfl) (by kernel_rfl) (by kernel_rfl) (by kernel_rfl) (.bool true) (by kernel_rfl) (fun _ => by kernel_rfl) (fun _ => hO25.tail) ?_
        try simp only [p0, p1, p2, p3]
        refine fl_done (by kernel_rfl) ?_
        exact key _ _ hO25
    · refine sf_alloc 7 #[true, true, false, false, false, false, false, true, false, false] (by kernel_rfl) rfl (some 9) (by kernel_rfl) rfl 22 (c8 0) (by kernel_rfl) hO18 (fun _ h => h) fun gw26 w26 hO26 => ?_
      try clear hO18
      try simp only [p0, p1, p2, p3]
      refine fl_call 2 #[true, true, true, false, false, false, false, true, false, false] (by kernel_rfl) rfl (some 23) (by kernel_rfl) rfl (by kernel_rfl) (.agg (c8 (Cv.XN a 9))) (by kernel_rfl) (pub_any ha _ (hG.below hO26.bl hG.lt)) hO26 (fun _ h => h.tail) fun w27 hO27 => ?_
      try clear hO26
      try simp only [p0, p1, p2, p3]
      refine fl_call 3 #[true, true, true, true, false, false, false, true, false, false] (by kernel_rfl) rfl (some 24) (by kernel_rfl) rfl (by kernel_rfl) (.tuple #[.agg (c8 (Cv.XN b (Cv.XN a 9))), .bool true]) (by kernel_rfl) (shared_any hb (XN_256 _ _) (decide_eq_true (Cv.XN_ne b a)) _ (hG.below hO27.bl hG.lt)) hO27 (fun _ h => h.tail) fun w28 hO28 => ?_
      try clear hO27
      try simp only [p0, p1, p2, p3]
      refine fl_pure 4 #[true, true, true, true, true, false, false, true, false, false] (by kernel_rfl) rfl (some 20) (by kernel_rfl) (by kernel_rfl) (by kernel_rfl) (by kernel_rfl) (by kernel_rfl) (.tuple #[.agg (c8 (Cv.XN b (Cv.XN a 9))), .bool true]) (by kernel_rfl) (fun _ => by kernel_rfl) (fun _ => hO28.tail) ?_
      try simp only [p0, p1, p2, p3]
      refine fl_pure 5 #[true, true, true, true, true, true, false, true, false, false] (by kernel_rfl) rfl (some 25) (by kernel_rfl) (by kernel_rfl) (by kernel_rfl) (by kernel_rfl) (by kernel_rfl) (.agg (c8 (Cv.XN b (Cv.XN a 9)))) (by kernel_rfl) (fun _ => by kernel_rfl) (fun _ => hO28.tail) ?_
      try simp only [p0, p1, p2, p3]
      refine fl_pure 6 #[true, true, true, true, true, true, true, true, false, false] (by kernel_rfl) rfl (some 26) (by kernel_rfl) (by kernel_rfl) (by kernel_rfl) (by kernel_rfl) (by kernel_rfl) (.bool true) (by kernel_rfl) (fun _ => by kernel_rfl) (fun _ => hO28.tail) ?_
      try simp only [p0, p1, p2, p3]
      refine fl_set (L1 := []) (L2 := ((gw17, 22, (c8 (Cv.XN a (Cv.XN b 9)))) :: (w2.heap.size, 22, (c8 u)) :: (w1.heap.size, 22, (c8 b)) :: (w.heap.size, 22, (c8 a)) :: [])) (cs := (c8 0)) 8 #[true, true, true, true, true, true, true, true, true, false] (by kernel_rfl) rfl none (by kernel_rfl) rfl (by kernel_rfl) (c8 (Cv.XN b (Cv.XN a 9))) 22 (.tmp 9) (.tmp 25) rfl rfl rfl hO28 (by simp only [size_c8]) (inum_c8 _) (one_c8 _) (fun _ h _ => h.tail) fun w29 hO29 => ?_
      try clear hO28
      simp only [List.nil_append, List.cons_append, List.set_cons_zero, List.set_cons_succ] at hO29
      try simp only [p0, p1, p2, p3]
      refine fl_pure 9 #[true, true, true, true, true, true, true, true, true, true] (by kernel_rfl) rfl (some 10) (by kernel_rfl) (by kernel_rfl) (by kernel_rfl) (by kernel_rfl) (by kernel_rfl) (.bool true) (by kernel_rfl) (fun _ => by kernel_rfl) (fun _ => hO29.tail) ?_
      try simp only [p0, p1, p2, p3]
      refine fl_done (by kernel_rfl) ?_
      exact key _ _ hO29
  intro gw30 w30 hO30
  try clear hO18
  show Code.wp _ _ _ _ _
  refine wp_seq ?_
  refine fl_start [] #[false, false, false, false, false, false, false, false, false, false, false, false, false, false, false, false, false, false, false, false, false, false, false] (by kernel_rfl) (by kernel_rfl) hO30 fun w31 hO31 => ?_
  clear hO30
  refine fl_load 0 #[true, false, false, false, false, false, false, false, false, false, false, false, false, false, false, false, false, false, false, false, false, false, false] (by kernel_rfl) rfl (some 27) (by kernel_rfl) (by kernel_rfl) (by kernel_rfl) (by kernel_rfl) (by kernel_rfl) (c8 a) (by kernel_rfl) (by kernel_rfl) (by kernel_rfl) 22 (.tmp 3) (by kernel_rfl) w.heap.size (by kernel_rfl) 22 _ (fun _ h => h.get (.tail _ (.tail _ (.tail _ (.tail _ (.head _)))))) Tryd.underlying22 rfl (inum_c8 _) hO31 ?_
  try simp only [p0, p1, p2, p3]
  refine fl_load 1 #[true, true, false, false, false, false, false, false, false, false, false, false, false, false, false, false, false, false, false, false, false, false, false] (by kernel_rfl) rfl (some 28) (by kernel_rfl) (by kernel_rfl) (by kernel_rfl) (by kernel_rfl) (by kernel_rfl) (c8 b) (by kernel_rfl) (by kernel_rfl) (by kernel_rfl) 22 (.tmp 4) (by kernel_rfl) w1.heap.size (by kernel_rfl) 22 _ (fun _ h => h.get (.tail _ (.tail _ (.tail _ (.head _))))) Tryd.underlying22 rfl (inum_c8 _) hO31 ?_
  try simp only [p0, p1, p2, p3]
  refine fl_load 2 #[true, true, true, false, false, false, false, false, false, false, false, false, false, false, false, false, false, false, false, false, false, false, false] (by kernel_rfl) rfl (some 29) (by kernel_rfl) (by kernel_rfl) (by kernel_rfl) (by kernel_rfl) (by kernel_rfl) (c8 u) (by kernel_rfl) (by kernel_rfl) (by kernel_rfl) 22 (.tmp 5) (by kernel_rfl) w2.heap.size (by kernel_rfl) 22 _ (fun _ h => h.get (.tail _ (.tail _ (.head _)))) Tryd.underlying22 rfl (inum_c8 _) hO31 ?_
  try simp only [p0, p1, p2, p3]
  refine fl_load 5 #[true, true, true, false, false, true, false, false, false, false, false, false, false, false, false, false, false, false, false, false, false, false, false] (by kernel_rfl) rfl (some 32) (by kernel_rfl) (by kernel_rfl) (by kernel_rfl) (by kernel_rfl) (by kernel_rfl) (c8 b) (by kernel_rfl) (by kernel_rfl) (by kernel_rfl) 22 (.tmp 4) (by kernel_rfl) w1.heap.size (by kernel_rfl) 22 _ (fun _ h => h.get (.tail _ (.tail _ (.tail _ (.head _))))) Tryd.underlying22 rfl (inum_c8 _) hO31 ?_
  try simp only [p0, p1, p2, p3]
  refine fl_load 6 #[true, true, true, false, false, true, true, false, false, false, false, false, false, false, false, false, false, false, false, false, false, false, false] (by kernel_rfl) rfl (some 33) (by kernel_rfl) (by kernel_rfl) (by kernel_rfl) (by kernel_rfl) (by kernel_rfl) (c8 a) (by kernel_rfl) (by kernel_rfl) (by kernel_rfl) 22 (.tmp 3) (by kernel_rfl) w.heap.size (by kernel_rfl) 22 _ (fun _ h => h.get (.tail _ (.tail _ (.tail _ (.tail _ (.head _)))))) Tryd.underlying22 rfl (inum_c8 _) hO31 ?_
  try simp only [p0, p1, p2, p3]
  refine fl_load 7 #[true, true, true, false, false, true, true, true, false, false, false, false, false, false, false, false, false, false, false, false, false, false, false] (by kernel_rfl) rfl (some 34) (by kernel_rfl) (by kernel_rfl) (by kernel_rfl) (by kernel_rfl) (by kernel_rfl) (c8 u) (by kernel_rfl) (by kernel_rfl) (by kernel_rfl) 22 (.tmp 5) (by kernel_rfl) w2.heap.size (by kernel_rfl) 22 _ (fun _ h => h.get (.tail _ (.tail _ (.head _)))) Tryd.underlying22 rfl (inum_c8 _) hO31 ?_
  try simp only [p0, p1, p2, p3]
  refine fl_call 3 #[true, true, true, true, false, true, true, true, false, false, false, false, false, false, false, false, false, false, false, false, false, false, false] (by kernel_rfl) rfl (some 30) (by kernel_rfl) rfl (by kernel_rfl) (.agg (c8 (Cv.XN b u))) (by kernel_rfl) (X_any hb hu _ (hG.below hO31.bl hG.lt)) hO31 (fun _ h => h) fun w32 hO32 => ?_
  try clear hO31
  try simp only [p0, p1, p2, p3]
  refine fl_call 4 #[true, true, true, true, true, true, true, true, false, false, false, false, false, false, false, false, false, false, false, false, false, false, false] (by kernel_rfl) rfl (some 31) (by kernel_rfl) rfl (by kernel_rfl) (.agg (c8 (Cv.XN a (Cv.XN b u)))) (by kernel_rfl) (X_any ha (XN_256 _ _) _ (hG.below hO32.bl hG.lt)) hO32 (fun _ h => h) fun w33 hO33 => ?_
  try clear hO32
  try simp only [p0, p1, p2, p3]
  refine fl_call 8 #[true, true, true, true, true, true, true, true, true, false, false, false, false, false, false, false, false, false, false, false, false, false, false] (by kernel_rfl) rfl (some 35) (by kernel_rfl) rfl (by kernel_rfl) (.agg (c8 (Cv.XN a u))) (by kernel_rfl) (X_any ha hu _ (hG.below hO33.bl hG.lt)) hO33 (fun _ h => h) fun w34 hO34 => ?_
  try clear hO33
  try simp only [p0, p1, p2, p3]
  refine fl_call 9 #[true, true, true, true, true, true, true, true, true, true, false, false, false, false, false, false, false, false, false, false, false, false, false] (by kernel_rfl) rfl (some 36) (by kernel_rfl) rfl (by kernel_rfl) (.agg (c8 (Cv.XN b (Cv.XN a u)))) (by kernel_rfl) (X_any hb (XN_256 _ _) _ (hG.below hO34.bl hG.lt)) hO34 (fun _ h => h) fun w35 hO35 => ?_
  try clear hO34
  try simp only [p0, p1, p2, p3]
  refine fl_eql 10 #[true, true, true, true, true, true, true, true, true, true, true, false, false, false, false, false, false, false, false, false, false, false, false] (by kernel_rfl) rfl (some 37) (by kernel_rfl) (by kernel_rfl) (by kernel_rfl) (by kernel_rfl) (by kernel_rfl) (x := (Cv.XN a (Cv.XN b u))) (y := (Cv.XN b (Cv.XN a u))) true (XN_256 _ _) (XN_256 _ _) (decide_eq_true (Cv.XN_comm a b u)) (by kernel_rfl) (.tmp 31) (.tmp 36) 22 (by kernel_rfl) (by kernel_rfl) (by kernel_rfl) (fun _ => hO35) ?_
  try simp only [p0, p1, p2, p3]
  refine fl_pure 11 #[true, true, true, true, true, true, true, true, true, true, true, true, false, false, false, false, false, false, false, false, false, false, false] (by kernel_rfl) rfl (some 38) (by kernel_rfl) (by kernel_rfl) (by kernel_rfl) (by kernel_rfl) (by kernel_rfl) (.bool true) (by kernel_rfl) (fun _ => by kernel_rfl) (fun _ => hO35) ?_
  try simp only [p0, p1, p2, p3]
  refine fl_load 12 #[true, true, true, true, true, true, true, true, true, true, true, true, true, false, false, false, false, false, false, false, false, false, false] (by kernel_rfl) rfl (some 39) (by kernel_rfl) (by kernel_rfl) (by kernel_rfl) (by kernel_rfl) (by kernel_rfl) (c8 (Cv.XN a (Cv.XN b 9))) (by kernel_rfl) (by kernel_rfl) (by kernel_rfl) 22 (.tmp 7) (by kernel_rfl) gw17 (by kernel_rfl) 22 _ (fun _ h => h.get (.tail _ (.head _))) Tryd.underlying22 rfl (inum_c8 _) hO35 ?_
  try simp only [p0, p1, p2, p3]
  refine fl_load 13 #[true, true, true, true, true, true, true, true, true, true, true, true, true, true, false, false, false, false, false, false, false, false, false] (by kernel_rfl) rfl (some 40) (by kernel_rfl) (by kernel_rfl) (by kernel_rfl) (by kernel_rfl) (by kernel_rfl) (c8 (Cv.XN b (Cv.XN a 9))) (by kernel_rfl) (by kernel_rfl) (by kernel_rfl) 22 (.tmp 9) (by kernel_rfl) gw30 (by kernel_rfl) 22 _ (fun _ h => h.get (.head _)) Tryd.underlying22 rfl (inum_c8 _) hO35 ?_
  try simp only [p0, p1, p2, p3]
  refine fl_eql 14 #[true, true, true, true, true, true, true, true, true, true, true, true, true, true, true, false, false, false, false, false, false, false, false] (by kernel_rfl) rfl (some 41) (by kernel_rfl) (by kernel_rfl) (by kernel_rfl) (by kernel_rfl) (by kernel_rfl) (x := (Cv.XN a (Cv.XN b 9))) (y := (Cv.XN b (Cv.XN a 9))) true (XN_256 _ _) (XN_256 _ _) (decide_eq_true (Cv.XN_comm a b 9)) (by kernel_rfl) (.tmp 39) (.tmp 40) 22 (by kernel_rfl) (by kernel_rfl) (by kernel_rfl) (fun _ => hO35) ?_
  try simp only [p0, p1, p2, p3]
  refine fl_pure 15 #[true, true, true, true, true, true, true, true, true, true, true, true, true, true, true, true, false, false, false, false, false, false, false] (by kernel_rfl) rfl (some 42) (by kernel_rfl) (by kernel_rfl) (by kernel_rfl) (by kernel_rfl) (by kernel_rfl) (.bool true) (by kernel_rfl) (fun _ => by kernel_rfl) (fun _ => hO35) ?_
  try simp only [p0, p1, p2, p3]
  refine fl_pure 16 #[true, true, true, true, true, true, true, true, true, true, true, true, true, true, true, true, true, false, false, false, false, false, false] (by kernel_rfl) rfl (some 43) (by kernel_rfl) (by kernel_rfl) (by kernel_rfl) (by kernel_rfl) (by kernel_rfl) (.bool true) (by kernel_rfl) (fun _ => by kernel_rfl) (fun _ => hO35) ?_
  try simp only [p0, p1, p2, p3]
  refine fl_pure 17 #[true, true, true, true, true, true, true, true, true, true, true, true, true, true, true, true, true, true, false, false, false, false, false] (by kernel_rfl) rfl (some 44) (by kernel_rfl) (by kernel_rfl) (by kernel_rfl) (by kernel_rfl) (by kernel_rfl) (.bool true) (by kernel_rfl) (fun _ => by kernel_rfl) (fun _ => hO35) ?_
  try simp only [p0, p1, p2, p3]
  refine fl_pure 18 #[true, true, true, true, true, true, true, true, true, true, true, true, true, true, true, true, true, true, true, false, false, false, false] (by kernel_rfl) rfl (some 45) (by kernel_rfl) (by kernel_rfl) (by kernel_rfl) (by kernel_rfl) (by kernel_rfl) (.bool true) (by kernel_rfl) (fun _ => by kernel_rfl) (fun _ => hO35) ?_
  try simp only [p0, p1, p2, p3]
  refine fl_pure 19 #[true, true, true, true, true, true, true, true, true, true, true, true, true, true, true, true, true, true, true, true, false, false, false] (by kernel_rfl) rfl (some 46) (by kernel_rfl) (by kernel_rfl) (by kernel_rfl) (by kernel_rfl) (by kernel_rfl) (.bool true) (by kernel_rfl) (fun _ => by kernel_rfl) (fun _ => hO35) ?_
  try simp only [p0, p1, p2, p3]
  refine fl_pure 20 #[true, true, true, true, true, true, true, true, true, true, true, true, true, true, true, true, true, true, true, true, true, false, false] (by kernel_rfl) rfl (some 47) (by kernel_rfl) (by kernel_rfl) (by kernel_rfl) (by kernel_rfl) (by kernel_rfl) (.bool true) (by kernel_rfl) (fun _ => by kernel_rfl) (fun _ => hO35) ?_
  try simp only [p0, p1, p2, p3]
  refine fl_pure 21 #[true, true, true, true, true, true, true, true, true, true, true, true, true, true, true, true, true, true, true, true, true, true, false] (by kernel_rfl) rfl (some 48) (by kernel_rfl) (by kernel_rfl) (by kernel_rfl) (by kernel_rfl) (by kernel_rfl) (.bool true) (by kernel_rfl) (fun _ => by kernel_rfl) (fun _ => hO35) ?_
  try simp only [p0, p1, p2, p3]
  refine fl_pure 22 #[true, true, true, true, true, true, true, true, true, true, true, true, true, true, true, true, true, true, true, true, true, true, true] (by kernel_rfl) rfl (some 6) (by kernel_rfl) (by kernel_rfl) (by kernel_rfl) (by kernel_rfl) (by kernel_rfl) (.bool true) (by kernel_rfl) (fun _ => by kernel_rfl) (fun _ => hO35) ?_
  try simp only [p0, p1, p2, p3]
  refine fl_done (by kernel_rfl) ?_
  show Code.wp _ _ _ _ _
  refine wp_ret ?_
  (try simp only [Exit.then, Exit.inBlock])
  refine bodyPost_ret (results_tmp rfl _ _ _) rfl ?_
  exact ⟨rfl, hO35.bl⟩
end Go.Proofs.YtkmgdpbmkbpkjaaDoor
