/-
  SHA-256's block: the walk.
-/
import Derived.Test.YtkmgdpbmkbpkjaaDoorWo
set_option linter.unusedVariables false
set_option linter.unusedSimpArgs false
namespace Go.Proofs.YtkmgdpbmkbpkjaaDoor
open Go.RowKit

theorem schW_lo (b : Nat → Int) (i : Nat) (h : i < 16) : schW b (i + 1) = upd (schW b i) i (ior .u32 (ior .u32 (ior .u32 (ishl .u32 (cv .u32 (b (4 * i))) 24) (ishl .u32 (cv .u32 (b (4 * i + 1))) 16)) (ishl .u32 (cv .u32 (b (4 * i + 2))) 8)) (cv .u32 (b (4 * i + 3)))) := by
  simp only [schW, if_pos h]
theorem schW_hi (b : Nat → Int) (i : Nat) (h : ¬ i < 16) : schW b (i + 1) = upd (schW b i) i (ia .u32 (ia .u32 (ia .u32 (ix .u32 (trn (schW b i (i - 2)) (am2 15 13) 2) (ishr (schW b i (i - 2)) 10)) (schW b i (i - 7))) (ix .u32 (trn (schW b i (i - 15)) (am2 25 14) 2) (ishr (schW b i (i - 15)) 3))) (schW b i (i - 16))) := by
  simp only [schW, if_neg h]
set_option maxRecDepth 100000 in
set_option maxHeartbeats 4000000 in
theorem mixed_any {K s b : Nat → Int} {g o n c t : Nat} {w : World} (hK : Bk w 3 t (aF .u32 64 K)) (hR : RdC w .u8 g o 64 b) (hn : 64 ≤ n) : Ret Tryd.prog 73 #[.agg (aF .u32 8 s), .slice (some ⟨g, o, none⟩) n c] w (.agg (aF .u32 8 (mix K s b))) := by
  unfold Ret
  refine calls_of_wp Tryd.func73 rfl ?_
  simp only [Tryd.ntmps73, List.size_toArray, List.length_cons, List.length_nil, Nat.reduceAdd, Nat.reduceSub, Array.replicate_succ, Array.replicate_zero, List.push_toArray, List.append_toArray, List.nil_append, List.cons_append]
  have hO := Own.nil w
  refine wp_seq ?_
  refine wl_region ?_
  refine wl_runs rfl (r_new 89 (aF .u32 8 s) (by kernel_rfl) hO) fun g1 w1 hO1 => ?_
  clear hO
  try simp only [List.nil_append, List.cons_append] at hO1
  try simp only [p0, p1, p2, p3]
  refine wl_runs rfl (r_new 89 (aF .u32 8 zF) (by kernel_rfl) hO1) fun g2 w2 hO2 => ?_
  clear hO1
  try simp only [List.nil_append, List.cons_append] at hO2
  try simp only [p0, p1, p2, p3]
  refine wl_nil ?_
  show Code.wp _ _ _ _ _
  refine wp_seq ?_
  refine wl_region ?_
  refine wl_runs rfl (r_new 124 (aF .u32 64 zF) (by kernel_rfl) hO2) fun g3 w3 hO3 => ?_
  clear hO2
  try simp only [List.nil_append, List.cons_append] at hO3
  try simp only [p0, p1, p2, p3]
  refine wl_nil ?_
  show Code.wp _ _ _ _ _
  refine wp_seq ?_
  refine wp_seq ?_
  refine wl_region ?_
  refine wl_pure (.int .i64 0) rfl (by kernel_rfl) ?_
  try simp only [p0, p1, p2, p3]
  refine wl_nil ?_
  show Code.wp _ _ _ _ _
  go_wp2_with fail
  go_loopw [15] (fun v4_15 wr4 => ∃ (i : Nat), i ≤ 64 ∧ v4_15 = .int .i64 ((i : Nat) : Int) ∧ Own w ((g3, 124, (aF .u32 64 (schW b i))) :: (g2, 89, (aF .u32 8 zF)) :: (g1, 89, (aF .u32 8 s)) :: []) wr4) (fun v4_15 wr4 => 64 - (intOf v4_15).toNat)
  case atStart => exact ⟨0, by omega, rfl, hO3⟩
  case round =>
    try clear hO3
    obtain ⟨i, hf4_0, rfl, hO4⟩ := hrel
    by_cases hm4 : i < 64
    · have hm4' := hm4
      by_cases hs : i < 16
      · skip
        refine wp_seq ?_
        refine wl_region ?_
        refine wl_pure (.bool true) rfl (i_lss (k := .i64) ((i : Nat) : Int) 64 true (decide_eq_true (by omega)) rfl (by kernel_rfl) (by kernel_rfl) _) ?_
        try simp only [p0, p1, p2, p3]
        refine wl_nil ?_
        show Code.wp _ _ _ _ _
        refine wp_seq ?_
        refine wp_cond_true rfl ?_
        refine wp_skip ?_
        show Code.wp _ _ _ _ _
        refine wp_seq ?_
        refine wp_block ?_
        refine wp_seq ?_
        refine wl_region ?_
        refine wl_pure (.int .i64 ((i : Nat) : Int)) rfl (by kernel_rfl) ?_
        try simp only [p0, p1, p2, p3]
        refine wl_pure (.int .i64 ((i : Nat) : Int)) rfl (by kernel_rfl) ?_
        try simp only [p0, p1, p2, p3]
        refine wl_nil ?_
        show Code.wp _ _ _ _ _
        refine wp_seq ?_
        refine wp_seq ?_
        refine wl_region ?_
        refine wl_pure (.int .i64 ((i : Nat) : Int)) rfl (by kernel_rfl) ?_
        try simp only [p0, p1, p2, p3]
        refine wl_pure (.bool true) rfl (i_lss (k := .i64) ((i : Nat) : Int) 16 true (decide_eq_true (by omega)) rfl (by kernel_rfl) (by kernel_rfl) _) ?_
        try simp only [p0, p1, p2, p3]
        refine wl_nil ?_
        show Code.wp _ _ _ _ _
        refine wp_cond_true rfl ?_
        refine wp_seq ?_
        refine wd_region [35] (Tr.ofList [(0, 1), (1, 1), (2, 1), (3, 1), (4, 1), (5, 1), (6, 1), (7, 1), (8, 1), (9, 1), (10, 1), (11, 1), (12, 1), (13, 1), (14, 1), (15, 1), (16, 1), (17, 1), (18, 1), (19, 1), (20, 1), (21, 1), (22, 1), (23, 1), (24, 1), (25, 1), (26, 1), (27, 1), (28, 1), (29, 1), (30, 1), (31, 1), (32, 1), (33, 1), (34, 1), (35, 4)] .nil) (by decide) (by kernel_rfl) (by kernel_rfl) hO4 fun w5 hO5 => ?_
        simp only [Tr.ofList]
        try clear hO4
        refine wd_ld (.int .i64 ((i : Nat) : Int)) rfl (some 20) (by kernel_rfl) (by kernel_rfl) (fun _ hw => by kernel_rfl) hO5 ?_
        try simp only [p0, p1, p2, p3]
        refine wd_ld (.slice (some ⟨g, o, none⟩) n c) rfl (some 21) (by kernel_rfl) (by kernel_rfl) (fun _ hw => by kernel_rfl) hO5 ?_
        try simp only [p0, p1, p2, p3]
        refine wd_ld (.int .i64 ((i : Nat) : Int)) rfl (some 22) (by kernel_rfl) (by kernel_rfl) (fun _ hw => by kernel_rfl) hO5 ?_
        try simp only [p0, p1, p2, p3]
        refine wd_ld (.int .i64 ((4 * i : Nat) : Int)) rfl (some 23) (by kernel_rfl) (by kernel_rfl) (fun _ hw => n_mul (k := .i64) rfl 4 i (by omega) rfl (by kernel_rfl) (by kernel_rfl) _) hO5 ?_
        try simp only [p0, p1, p2, p3]
        refine wd_ld (.pointer (some ⟨g, o + (4 * i), none⟩)) rfl (some 24) (by kernel_rfl) (by kernel_rfl) (fun _ hw => s_idx (n := n) (c := c) Tryd.underlying23 (by kernel_rfl) (4 * i) (by omega) rfl (by kernel_rfl) (by kernel_rfl) _) hO5 ?_
        try simp only [p0, p1, p2, p3]
        refine wd_ld (.int .u8 (b (4 * i))) rfl (some 25) (by kernel_rfl) (by kernel_rfl) (fun _ hw => run_cell ((hR.below hw.bl) (4 * i) (by omega)) (by kernel_rfl) rfl (by kernel_rfl)) hO5 ?_
        try simp only [p0, p1, p2, p3]
        refine wd_ld (.int .u32 (cv .u32 (b (4 * i)))) rfl (some 26) (by kernel_rfl) (by kernel_rfl) (fun _ hw => by kernel_rfl) hO5 ?_
        try simp only [p0, p1, p2, p3]
        refine wd_ld (.int .u32 (ishl .u32 (cv .u32 (b (4 * i))) 24)) rfl (some 27) (by kernel_rfl) (by kernel_rfl) (fun _ hw => by kernel_rfl) hO5 ?_
        try simp only [p0, p1, p2, p3]
        refine wd_ld (.slice (some ⟨g, o, none⟩) n c) rfl (some 28) (by kernel_rfl) (by kernel_rfl) (fun _ hw => by kernel_rfl) hO5 ?_
        try simp only [p0, p1, p2, p3]
        refine wd_ld (.int .i64 ((i : Nat) : Int)) rfl (some 29) (by kernel_rfl) (by kernel_rfl) (fun _ hw => by kernel_rfl) hO5 ?_
        try simp only [p0, p1, p2, p3]
        refine wd_ld (.int .i64 ((4 * i : Nat) : Int)) rfl (some 30) (by kernel_rfl) (by kernel_rfl) (fun _ hw => n_mul (k := .i64) rfl 4 i (by omega) rfl (by kernel_rfl) (by kernel_rfl) _) hO5 ?_
        try simp only [p0, p1, p2, p3]
        refine wd_ld (.int .i64 (((4 * i) + 1 : Nat) : Int)) rfl (some 31) (by kernel_rfl) (by kernel_rfl) (fun _ hw => n_add (k := .i64) rfl (4 * i) 1 (by omega) rfl (by kernel_rfl) (by kernel_rfl) _) hO5 ?_
        try simp only [p0, p1, p2, p3]
        refine wd_ld (.pointer (some ⟨g, o + ((4 * i) + 1), none⟩)) rfl (some 32) (by kernel_rfl) (by kernel_rfl) (fun _ hw => s_idx (n := n) (c := c) Tryd.underlying23 (by kernel_rfl) ((4 * i) + 1) (by omega) rfl (by kernel_rfl) (by kernel_rfl) _) hO5 ?_
        try simp only [p0, p1, p2, p3]
        refine wd_ld (.int .u8 (b ((4 * i) + 1))) rfl (some 33) (by kernel_rfl) (by kernel_rfl) (fun _ hw => run_cell ((hR.below hw.bl) ((4 * i) + 1) (by omega)) (by kernel_rfl) rfl (by kernel_rfl)) hO5 ?_
        try simp only [p0, p1, p2, p3]
        refine wd_ld (.int .u32 (cv .u32 (b ((4 * i) + 1)))) rfl (some 34) (by kernel_rfl) (by kernel_rfl) (fun _ hw => by kernel_rfl) hO5 ?_
        try simp only [p0, p1, p2, p3]
        refine wd_ld (.int .u32 (ishl .u32 (cv .u32 (b ((4 * i) + 1))) 16)) rfl (some 35) (by kernel_rfl) (by kernel_rfl) (fun _ hw => by kernel_rfl) hO5 ?_
        try simp only [p0, p1, p2, p3]
        refine wd_ld (.int .u32 (ior .u32 (ishl .u32 (cv .u32 (b (4 * i))) 24) (ishl .u32 (cv .u32 (b ((4 * i) + 1))) 16))) rfl (some 36) (by kernel_rfl) (by kernel_rfl) (fun _ hw => by kernel_rfl) hO5 ?_
        try simp only [p0, p1, p2, p3]
        refine wd_ld (.slice (some ⟨g, o, none⟩) n c) rfl (some 37) (by kernel_rfl) (by kernel_rfl) (fun _ hw => by kernel_rfl) hO5 ?_
        try simp only [p0, p1, p2, p3]
        refine wd_ld (.int .i64 ((i : Nat) : Int)) rfl (some 38) (by kernel_rfl) (by kernel_rfl) (fun _ hw => by kernel_rfl) hO5 ?_
        try simp only [p0, p1, p2, p3]
        refine wd_ld (.int .i64 ((4 * i : Nat) : Int)) rfl (some 39) (by kernel_rfl) (by kernel_rfl) (fun _ hw => n_mul (k := .i64) rfl 4 i (by omega) rfl (by kernel_rfl) (by kernel_rfl) _) hO5 ?_
        try simp only [p0, p1, p2, p3]
        refine wd_ld (.int .i64 (((4 * i) + 2 : Nat) : Int)) rfl (some 40) (by kernel_rfl) (by kernel_rfl) (fun _ hw => n_add (k := .i64) rfl (4 * i) 2 (by omega) rfl (by kernel_rfl) (by kernel_rfl) _) hO5 ?_
        try simp only [p0, p1, p2, p3]
        refine wd_ld (.pointer (some ⟨g, o + ((4 * i) + 2), none⟩)) rfl (some 41) (by kernel_rfl) (by kernel_rfl) (fun _ hw => s_idx (n := n) (c := c) Tryd.underlying23 (by kernel_rfl) ((4 * i) + 2) (by omega) rfl (by kernel_rfl) (by kernel_rfl) _) hO5 ?_
        try simp only [p0, p1, p2, p3]
        refine wd_ld (.int .u8 (b ((4 * i) + 2))) rfl (some 42) (by kernel_rfl) (by kernel_rfl) (fun _ hw => run_cell ((hR.below hw.bl) ((4 * i) + 2) (by omega)) (by kernel_rfl) rfl (by kernel_rfl)) hO5 ?_
        try simp only [p0, p1, p2, p3]
        refine wd_ld (.int .u32 (cv .u32 (b ((4 * i) + 2)))) rfl (some 43) (by kernel_rfl) (by kernel_rfl) (fun _ hw => by kernel_rfl) hO5 ?_
        try simp only [p0, p1, p2, p3]
        refine wd_ld (.int .u32 (ishl .u32 (cv .u32 (b ((4 * i) + 2))) 8)) rfl (some 44) (by kernel_rfl) (by kernel_rfl) (fun _ hw => by kernel_rfl) hO5 ?_
        try simp only [p0, p1, p2, p3]
        refine wd_ld (.int .u32 (ior .u32 (ior .u32 (ishl .u32 (cv .u32 (b (4 * i))) 24) (ishl .u32 (cv .u32 (b ((4 * i) + 1))) 16)) (ishl .u32 (cv .u32 (b ((4 * i) + 2))) 8))) rfl (some 45) (by kernel_rfl) (by kernel_rfl) (fun _ hw => by kernel_rfl) hO5 ?_
        try simp only [p0, p1, p2, p3]
        refine wd_ld (.slice (some ⟨g, o, none⟩) n c) rfl (some 46) (by kernel_rfl) (by kernel_rfl) (fun _ hw => by kernel_rfl) hO5 ?_
        try simp only [p0, p1, p2, p3]
        refine wd_ld (.int .i64 ((i : Nat) : Int)) rfl (some 47) (by kernel_rfl) (by kernel_rfl) (fun _ hw => by kernel_rfl) hO5 ?_
        try simp only [p0, p1, p2, p3]
        refine wd_ld (.int .i64 ((4 * i : Nat) : Int)) rfl (some 48) (by kernel_rfl) (by kernel_rfl) (fun _ hw => n_mul (k := .i64) rfl 4 i (by omega) rfl (by kernel_rfl) (by kernel_rfl) _) hO5 ?_
        try simp only [p0, p1, p2, p3]
        refine wd_ld (.int .i64 (((4 * i) + 3 : Nat) : Int)) rfl (some 49) (by kernel_rfl) (by kernel_rfl) (fun _ hw => n_add (k := .i64) rfl (4 * i) 3 (by omega) rfl (by kernel_rfl) (by kernel_rfl) _) hO5 ?_
        try simp only [p0, p1, p2, p3]
        refine wd_ld (.pointer (some ⟨g, o + ((4 * i) + 3), none⟩)) rfl (some 50) (by kernel_rfl) (by kernel_rfl) (fun _ hw => s_idx (n := n) (c := c) Tryd.underlying23 (by kernel_rfl) ((4 * i) + 3) (by omega) rfl (by kernel_rfl) (by kernel_rfl) _) hO5 ?_
        try simp only [p0, p1, p2, p3]
        refine wd_ld (.int .u8 (b ((4 * i) + 3))) rfl (some 51) (by kernel_rfl) (by kernel_rfl) (fun _ hw => run_cell ((hR.below hw.bl) ((4 * i) + 3) (by omega)) (by kernel_rfl) rfl (by kernel_rfl)) hO5 ?_
        try simp only [p0, p1, p2, p3]
        refine wd_ld (.int .u32 (cv .u32 (b ((4 * i) + 3)))) rfl (some 52) (by kernel_rfl) (by kernel_rfl) (fun _ hw => by kernel_rfl) hO5 ?_
        try simp only [p0, p1, p2, p3]
        refine wd_ld (.int .u32 (ior .u32 (ior .u32 (ior .u32 (ishl .u32 (cv .u32 (b (4 * i))) 24) (ishl .u32 (cv .u32 (b ((4 * i) + 1))) 16)) (ishl .u32 (cv .u32 (b ((4 * i) + 2))) 8)) (cv .u32 (b ((4 * i) + 3))))) rfl (some 53) (by kernel_rfl) (by kernel_rfl) (fun _ hw => by kernel_rfl) hO5 ?_
        try simp only [p0, p1, p2, p3]
        refine wd_ld (.pointer (some ⟨g3, i, none⟩)) rfl (some 54) (by kernel_rfl) (by kernel_rfl) (fun _ hw => p_idx0 Tryd.underlying124 (by kernel_rfl) i (by omega) rfl (by kernel_rfl) (by kernel_rfl) _) hO5 ?_
        try simp only [p0, p1, p2, p3]
        refine wd_runx rfl none (by kernel_rfl) rfl (r_st (L1 := []) (L2 := ((g2, 89, (aF .u32 8 zF)) :: (g1, 89, (aF .u32 8 s)) :: [])) (f := (schW b i)) (n := 64) i (ior .u32 (ior .u32 (ior .u32 (ishl .u32 (cv .u32 (b (4 * i))) 24) (ishl .u32 (cv .u32 (b ((4 * i) + 1))) 16)) (ishl .u32 (cv .u32 (b ((4 * i) + 2))) 8)) (cv .u32 (b ((4 * i) + 3)))) (by omega) rfl (by kernel_rfl) (by kernel_rfl) hO5 (by kernel_rfl)) fun _ w6 hO6 => ?_
        clear hO5
        try simp only [List.nil_append, List.cons_append] at hO6
        try simp only [p0, p1, p2, p3]
        refine wd_nil ?_
        show Code.wp _ _ _ _ _
        refine wp_exit ?_
        show Code.wp _ _ _ _ _
        refine wl_region ?_
        refine wl_pure (.int .i64 ((i + 1 : Nat) : Int)) rfl (n_add (k := .i64) rfl i 1 (by omega) rfl (by kernel_rfl) (by kernel_rfl) _) ?_
        try simp only [p0, p1, p2, p3]
        refine wl_pure (.int .i64 ((i + 1 : Nat) : Int)) rfl (by kernel_rfl) ?_
        try simp only [p0, p1, p2, p3]
        refine wl_nil ?_
        try simp only [Exit.then, Exit.inBlock]
        go_roundw
        case rel => exact ⟨i + 1, by omega, rfl, by rw [schW_lo b i hs]; exact hO6⟩
        case measure => simp [intOf]; omega
      · skip
        refine wp_seq ?_
        refine wl_region ?_
        refine wl_pure (.bool true) rfl (i_lss (k := .i64) ((i : Nat) : Int) 64 true (decide_eq_true (by omega)) rfl (by kernel_rfl) (by kernel_rfl) _) ?_
        try simp only [p0, p1, p2, p3]
        refine wl_nil ?_
        show Code.wp _ _ _ _ _
        refine wp_seq ?_
        refine wp_cond_true rfl ?_
        refine wp_skip ?_
        show Code.wp _ _ _ _ _
        refine wp_seq ?_
        refine wp_block ?_
        refine wp_seq ?_
        refine wl_region ?_
        refine wl_pure (.int .i64 ((i : Nat) : Int)) rfl (by kernel_rfl) ?_
        try simp only [p0, p1, p2, p3]
        refine wl_pure (.int .i64 ((i : Nat) : Int)) rfl (by kernel_rfl) ?_
        try simp only [p0, p1, p2, p3]
        refine wl_nil ?_
        show Code.wp _ _ _ _ _
        refine wp_seq ?_
        refine wp_seq ?_
        refine wl_region ?_
        refine wl_pure (.int .i64 ((i : Nat) : Int)) rfl (by kernel_rfl) ?_
        try simp only [p0, p1, p2, p3]
        refine wl_pure (.bool false) rfl (i_lss (k := .i64) ((i : Nat) : Int) 16 false (decide_eq_false (by omega)) rfl (by kernel_rfl) (by kernel_rfl) _) ?_
        try simp only [p0, p1, p2, p3]
        refine wl_nil ?_
        show Code.wp _ _ _ _ _
        refine wp_cond_false rfl ?_
        refine wp_skip ?_
        show Code.wp _ _ _ _ _
        refine wp_seq ?_
        refine wd_region [] (Tr.ofList [(0, 1), (1, 1), (2, 1), (3, 1), (4, 1), (5, 1), (6, 1), (7, 1), (8, 1), (9, 1)] .nil) (by decide) (by kernel_rfl) (by kernel_rfl) hO4 fun w7 hO7 => ?_
        simp only [Tr.ofList]
        try clear hO4
        refine wd_ld (.int .i64 ((i : Nat) : Int)) rfl (some 55) (by kernel_rfl) (by kernel_rfl) (fun _ hw => by kernel_rfl) hO7 ?_
        try simp only [p0, p1, p2, p3]
        refine wd_ld (.int .i64 ((i - 2 : Nat) : Int)) rfl (some 56) (by kernel_rfl) (by kernel_rfl) (fun _ hw => n_sub (k := .i64) rfl i 2 (by omega) rfl (by kernel_rfl) (by kernel_rfl) _) hO7 ?_
        try simp only [p0, p1, p2, p3]
        refine wd_ld (.pointer (some ⟨g3, i - 2, none⟩)) rfl (some 57) (by kernel_rfl) (by kernel_rfl) (fun _ hw => p_idx0 Tryd.underlying124 (by kernel_rfl) (i - 2) (by omega) rfl (by kernel_rfl) (by kernel_rfl) _) hO7 ?_
        try simp only [p0, p1, p2, p3]
        refine wd_ld (.int .u32 ((schW b i) (i - 2))) rfl (some 58) (by kernel_rfl) (by kernel_rfl) (fun _ hw => run_cell (own_cell hw (.head _) (i - 2) (by omega)) (by kernel_rfl) rfl (by kernel_rfl)) hO7 ?_
        try simp only [p0, p1, p2, p3]
        refine wd_ld (.int .i64 ((i : Nat) : Int)) rfl (some 59) (by kernel_rfl) (by kernel_rfl) (fun _ hw => by kernel_rfl) hO7 ?_
        try simp only [p0, p1, p2, p3]
        refine wd_ld (.int .i64 ((i - 15 : Nat) : Int)) rfl (some 60) (by kernel_rfl) (by kernel_rfl) (fun _ hw => n_sub (k := .i64) rfl i 15 (by omega) rfl (by kernel_rfl) (by kernel_rfl) _) hO7 ?_
        try simp only [p0, p1, p2, p3]
        refine wd_ld (.pointer (some ⟨g3, i - 15, none⟩)) rfl (some 61) (by kernel_rfl) (by kernel_rfl) (fun _ hw => p_idx0 Tryd.underlying124 (by kernel_rfl) (i - 15) (by omega) rfl (by kernel_rfl) (by kernel_rfl) _) hO7 ?_
        try simp only [p0, p1, p2, p3]
        refine wd_ld (.int .u32 ((schW b i) (i - 15))) rfl (some 62) (by kernel_rfl) (by kernel_rfl) (fun _ hw => run_cell (own_cell hw (.head _) (i - 15) (by omega)) (by kernel_rfl) rfl (by kernel_rfl)) hO7 ?_
        try simp only [p0, p1, p2, p3]
        refine wd_ld (.int .u32 ((schW b i) (i - 2))) rfl (some 7) (by kernel_rfl) (by kernel_rfl) (fun _ hw => by kernel_rfl) hO7 ?_
        try simp only [p0, p1, p2, p3]
        refine wd_ld (.int .u32 ((schW b i) (i - 15))) rfl (some 8) (by kernel_rfl) (by kernel_rfl) (fun _ hw => by kernel_rfl) hO7 ?_
        try simp only [p0, p1, p2, p3]
        refine wd_nil ?_
        show Code.wp _ _ _ _ _
        refine wd_region [25] (Tr.ofList [(0, 1), (1, 1), (4, 1), (5, 1), (7, 1), (8, 1), (9, 1), (10, 1), (12, 1), (15, 1), (16, 1), (19, 1), (20, 1), (21, 1), (22, 1)] (.br 2 13 (.br 3 13 (Tr.ofList [(6, 1), (11, 1), (13, 3), (14, 3), (17, 1), (18, 1), (23, 1), (24, 1), (25, 4)] .nil) (Tr.ofList [(3, 3), (6, 1), (11, 1), (14, 3), (17, 1), (18, 1), (23, 1), (24, 1), (25, 4)] .nil)) (Tr.ofList [(2, 3), (3, 3), (6, 1), (11, 1), (14, 3), (17, 1), (18, 1), (23, 1), (24, 1), (25, 4)] .nil))) (by decide) (by kernel_rfl) (by kernel_rfl) hO7 fun w8 hO8 => ?_
        simp only [Tr.ofList]
        try clear hO7
        apply wd_cut2 (C := fun (g19 : Nat) (g18 : Nat) wc => Own w ((g3, 124, (aF .u32 64 (upd (schW b i) i (ia .u32 (ia .u32 (ia .u32 (ix .u32 (trn ((schW b i) (i - 2)) (am2 15 13) 2) (ishr ((schW b i) (i - 2)) 10)) ((schW b i) (i - 7))) (ix .u32 (trn ((schW b i) (i - 15)) (am2 25 14) 2) (ishr ((schW b i) (i - 15)) 3))) ((schW b i) (i - 16)))))) :: (g2, 89, (aF .u32 8 zF)) :: (g1, 89, (aF .u32 8 s)) :: []) wc)
        case h =>
          intro hcut
          refine wd_ld (.int .i64 ((i : Nat) : Int)) rfl (some 63) (by kernel_rfl) (by kernel_rfl) (fun _ hw => by kernel_rfl) hO8 ?_
          try simp only [p0, p1, p2, p3]
          refine wd_ld (.int .u32 ((schW b i) (i - 2))) rfl (some 64) (by kernel_rfl) (by kernel_rfl) (fun _ hw => by kernel_rfl) hO8 ?_
          try simp only [p0, p1, p2, p3]
          refine wd_ld (.int .u32 ((schW b i) (i - 2))) rfl (some 67) (by kernel_rfl) (by kernel_rfl) (fun _ hw => by kernel_rfl) hO8 ?_
          try simp only [p0, p1, p2, p3]
          refine wd_ld (.int .u32 (ishr ((schW b i) (i - 2)) 10)) rfl (some 68) (by kernel_rfl) (by kernel_rfl) (fun _ hw => by kernel_rfl) hO8 ?_
          try simp only [p0, p1, p2, p3]
          refine wd_ld (.int .i64 ((i : Nat) : Int)) rfl (some 70) (by kernel_rfl) (by kernel_rfl) (fun _ hw => by kernel_rfl) hO8 ?_
          try simp only [p0, p1, p2, p3]
          refine wd_ld (.int .i64 ((i - 7 : Nat) : Int)) rfl (some 71) (by kernel_rfl) (by kernel_rfl) (fun _ hw => n_sub (k := .i64) rfl i 7 (by omega) rfl (by kernel_rfl) (by kernel_rfl) _) hO8 ?_
          try simp only [p0, p1, p2, p3]
          refine wd_ld (.pointer (some ⟨g3, i - 7, none⟩)) rfl (some 72) (by kernel_rfl) (by kernel_rfl) (fun _ hw => p_idx0 Tryd.underlying124 (by kernel_rfl) (i - 7) (by omega) rfl (by kernel_rfl) (by kernel_rfl) _) hO8 ?_
          try simp only [p0, p1, p2, p3]
          refine wd_ld (.int .u32 ((schW b i) (i - 7))) rfl (some 73) (by kernel_rfl) (by kernel_rfl) (fun _ hw => run_cell (own_cell hw (.head _) (i - 7) (by omega)) (by kernel_rfl) rfl (by kernel_rfl)) hO8 ?_
          try simp only [p0, p1, p2, p3]
          refine wd_ld (.int .u32 ((schW b i) (i - 15))) rfl (some 75) (by kernel_rfl) (by kernel_rfl) (fun _ hw => by kernel_rfl) hO8 ?_
          try simp only [p0, p1, p2, p3]
          refine wd_ld (.int .u32 ((schW b i) (i - 15))) rfl (some 78) (by kernel_rfl) (by kernel_rfl) (fun _ hw => by kernel_rfl) hO8 ?_
          try simp only [p0, p1, p2, p3]
          refine wd_ld (.int .u32 (ishr ((schW b i) (i - 15)) 3)) rfl (some 79) (by kernel_rfl) (by kernel_rfl) (fun _ hw => by kernel_rfl) hO8 ?_
          try simp only [p0, p1, p2, p3]
          refine wd_ld (.int .i64 ((i : Nat) : Int)) rfl (some 82) (by kernel_rfl) (by kernel_rfl) (fun _ hw => by kernel_rfl) hO8 ?_
          try simp only [p0, p1, p2, p3]
          refine wd_ld (.int .i64 ((i - 16 : Nat) : Int)) rfl (some 83) (by kernel_rfl) (by kernel_rfl) (fun _ hw => n_sub (k := .i64) rfl i 16 (by omega) rfl (by kernel_rfl) (by kernel_rfl) _) hO8 ?_
          try simp only [p0, p1, p2, p3]
          refine wd_ld (.pointer (some ⟨g3, i - 16, none⟩)) rfl (some 84) (by kernel_rfl) (by kernel_rfl) (fun _ hw => p_idx0 Tryd.underlying124 (by kernel_rfl) (i - 16) (by omega) rfl (by kernel_rfl) (by kernel_rfl) _) hO8 ?_
          try simp only [p0, p1, p2, p3]
          refine wd_ld (.int .u32 ((schW b i) (i - 16))) rfl (some 85) (by kernel_rfl) (by kernel_rfl) (fun _ hw => run_cell (own_cell hw (.head _) (i - 16) (by omega)) (by kernel_rfl) rfl (by kernel_rfl)) hO8 ?_
          try simp only [p0, p1, p2, p3]
          refine wd_br ?_ ?_
          · skip
            refine nx_runs rfl (some 65) (by kernel_rfl) rfl (r_bs 3 (aF .i64 2 (lit2 17 19)) 2 (by kernel_rfl) hO8) (fun _ _ h => h.tail) fun g9 w9 hO9 => ?_
            try clear hO8
            try simp only [List.nil_append, List.cons_append] at hO9
            try simp only [p0, p1, p2, p3]
            refine wd_br ?_ ?_
            · skip
              refine nx_runs rfl (some 66) (by kernel_rfl) rfl (r_call (args := #[.int .u32 ((schW b i) (i - 2)), .slice (some ⟨g9, 0, none⟩) 2 2]) (u := .int .u32 (trn ((schW b i) (i - 2)) (am2 15 13) 2)) (by kernel_rfl) (turned_any ((schW b i) (i - 2)) (rdc_own0 hO9 (.head _)) (by decide) (amt2 17 19 15 13 (by decide +kernel) (by decide +kernel) (by decide))) hO9) (fun _ _ h => h.tail) fun _ w10 hO10 => ?_
              try clear hO9
              try simp only [List.nil_append, List.cons_append] at hO10
              try simp only [p0, p1, p2, p3]
              refine wd_ld (.int .u32 (ix .u32 (trn ((schW b i) (i - 2)) (am2 15 13) 2) (ishr ((schW b i) (i - 2)) 10))) rfl (some 69) (by kernel_rfl) (by kernel_rfl) (fun _ hw => by kernel_rfl) hO10.tail ?_
              try simp only [p0, p1, p2, p3]
              refine wd_ld (.int .u32 (ia .u32 (ix .u32 (trn ((schW b i) (i - 2)) (am2 15 13) 2) (ishr ((schW b i) (i - 2)) 10)) ((schW b i) (i - 7)))) rfl (some 74) (by kernel_rfl) (by kernel_rfl) (fun _ hw => by kernel_rfl) hO10.tail ?_
              try simp only [p0, p1, p2, p3]
              refine wd_runs rfl (some 76) (by kernel_rfl) rfl (r_bs 3 (aF .i64 2 (lit2 7 18)) 2 (by kernel_rfl) hO10) (fun _ _ h => h.tail.tail) fun g11 w11 hO11 => ?_
              try clear hO10
              try simp only [List.nil_append, List.cons_append] at hO11
              try simp only [p0, p1, p2, p3]
              refine wd_runs rfl (some 77) (by kernel_rfl) rfl (r_call (args := #[.int .u32 ((schW b i) (i - 15)), .slice (some ⟨g11, 0, none⟩) 2 2]) (u := .int .u32 (trn ((schW b i) (i - 15)) (am2 25 14) 2)) (by kernel_rfl) (turned_any ((schW b i) (i - 15)) (rdc_own0 hO11 (.head _)) (by decide) (amt2 7 18 25 14 (by decide +kernel) (by decide +kernel) (by decide))) hO11) (fun _ _ h => h.tail.tail) fun _ w12 hO12 => ?_
              try clear hO11
              try simp only [List.nil_append, List.cons_append] at hO12
              try simp only [p0, p1, p2, p3]
              refine wd_ld (.int .u32 (ix .u32 (trn ((schW b i) (i - 15)) (am2 25 14) 2) (ishr ((schW b i) (i - 15)) 3))) rfl (some 80) (by kernel_rfl) (by kernel_rfl) (fun _ hw => by kernel_rfl) hO12.tail.tail ?_
              try simp only [p0, p1, p2, p3]
              refine wd_ld (.int .u32 (ia .u32 (ia .u32 (ix .u32 (trn ((schW b i) (i - 2)) (am2 15 13) 2) (ishr ((schW b i) (i - 2)) 10)) ((schW b i) (i - 7))) (ix .u32 (trn ((schW b i) (i - 15)) (am2 25 14) 2) (ishr ((schW b i) (i - 15)) 3)))) rfl (some 81) (by kernel_rfl) (by kernel_rfl) (fun _ hw => by kernel_rfl) hO12.tail.tail ?_
              try simp only [p0, p1, p2, p3]
              refine wd_ld (.int .u32 (ia .u32 (ia .u32 (ia .u32 (ix .u32 (trn ((schW b i) (i - 2)) (am2 15 13) 2) (ishr ((schW b i) (i - 2)) 10)) ((schW b i) (i - 7))) (ix .u32 (trn ((schW b i) (i - 15)) (am2 25 14) 2) (ishr ((schW b i) (i - 15)) 3))) ((schW b i) (i - 16)))) rfl (some 86) (by kernel_rfl) (by kernel_rfl) (fun _ hw => by kernel_rfl) hO12.tail.tail ?_
              try simp only [p0, p1, p2, p3]
              refine wd_ld (.pointer (some ⟨g3, i, none⟩)) rfl (some 87) (by kernel_rfl) (by kernel_rfl) (fun _ hw => p_idx0 Tryd.underlying124 (by kernel_rfl) i (by omega) rfl (by kernel_rfl) (by kernel_rfl) _) hO12.tail.tail ?_
              try simp only [p0, p1, p2, p3]
              refine wd_runx rfl none (by kernel_rfl) rfl (r_st (L1 := [(g11, 3, (aF .i64 2 (lit2 7 18))), (g9, 3, (aF .i64 2 (lit2 17 19)))]) (L2 := ((g2, 89, (aF .u32 8 zF)) :: (g1, 89, (aF .u32 8 s)) :: [])) (f := (schW b i)) (n := 64) i (ia .u32 (ia .u32 (ia .u32 (ix .u32 (trn ((schW b i) (i - 2)) (am2 15 13) 2) (ishr ((schW b i) (i - 2)) 10)) ((schW b i) (i - 7))) (ix .u32 (trn ((schW b i) (i - 15)) (am2 25 14) 2) (ishr ((schW b i) (i - 15)) 3))) ((schW b i) (i - 16))) (by omega) rfl (by kernel_rfl) (by kernel_rfl) hO12 (by kernel_rfl)) fun _ w13 hO13 => ?_
              try clear hO12
              try simp only [List.nil_append, List.cons_append] at hO13
              try simp only [p0, p1, p2, p3]
              refine wd_nil ?_
              exact hcut g9 g11 _ (Own.sub hO13 (.cons _ (.cons _ (.cons_cons _ (.cons_cons _ (.cons_cons _ (List.Sublist.refl _)))))))
            · skip
              refine nx_runs rfl (some 76) (by kernel_rfl) rfl (r_bs 3 (aF .i64 2 (lit2 7 18)) 2 (by kernel_rfl) hO9) (fun _ _ h => h.tail.tail) fun g14 w14 hO14 => ?_
              try clear hO9
              try simp only [List.nil_append, List.cons_append] at hO14
              try simp only [p0, p1, p2, p3]
              refine wd_runs rfl (some 66) (by kernel_rfl) rfl (r_call (args := #[.int .u32 ((schW b i) (i - 2)), .slice (some ⟨g9, 0, none⟩) 2 2]) (u := .int .u32 (trn ((schW b i) (i - 2)) (am2 15 13) 2)) (by kernel_rfl) (turned_any ((schW b i) (i - 2)) (rdc_own0 hO14 (.tail _ (.head _))) (by decide) (amt2 17 19 15 13 (by decide +kernel) (by decide +kernel) (by decide))) hO14) (fun _ _ h => h.tail.tail) fun _ w15 hO15 => ?_
              try clear hO14
              try simp only [List.nil_append, List.cons_append] at hO15
              try simp only [p0, p1, p2, p3]
              refine wd_ld (.int .u32 (ix .u32 (trn ((schW b i) (i - 2)) (am2 15 13) 2) (ishr ((schW b i) (i - 2)) 10))) rfl (some 69) (by kernel_rfl) (by kernel_rfl) (fun _ hw => by kernel_rfl) hO15.tail.tail ?_
              try simp only [p0, p1, p2, p3]
              refine wd_ld (.int .u32 (ia .u32 (ix .u32 (trn ((schW b i) (i - 2)) (am2 15 13) 2) (ishr ((schW b i) (i - 2)) 10)) ((schW b i) (i - 7)))) rfl (some 74) (by kernel_rfl) (by kernel_rfl) (fun _ hw => by kernel_rfl) hO15.tail.tail ?_
              try simp only [p0, p1, p2, p3]
              refine wd_runs rfl (some 77) (by kernel_rfl) rfl (r_call (args := #[.int .u32 ((schW b i) (i - 15)), .slice (some ⟨g14, 0, none⟩) 2 2]) (u := .int .u32 (trn ((schW b i) (i - 15)) (am2 25 14) 2)) (by kernel_rfl) (turned_any ((schW b i) (i - 15)) (rdc_own0 hO15 (.head _)) (by decide) (amt2 7 18 25 14 (by decide +kernel) (by decide +kernel) (by decide))) hO15) (fun _ _ h => h.tail.tail) fun _ w16 hO16 => ?_
              try clear hO15
              try simp only [List.nil_append, List.cons_append] at hO16
              try simp only [p0, p1, p2, p3]
              refine wd_ld (.int .u32 (ix .u32 (trn ((schW b i) (i - 15)) (am2 25 14) 2) (ishr ((schW b i) (i - 15)) 3))) rfl (some 80) (by kernel_rfl) (by kernel_rfl) (fun _ hw => by kernel_rfl) hO16.tail.tail ?_
              try simp only [p0, p1, p2, p3]
              refine wd_ld (.int .u32 (ia .u32 (ia .u32 (ix .u32 (trn ((schW b i) (i - 2)) (am2 15 13) 2) (ishr ((schW b i) (i - 2)) 10)) ((schW b i) (i - 7))) (ix .u32 (trn ((schW b i) (i - 15)) (am2 25 14) 2) (ishr ((schW b i) (i - 15)) 3)))) rfl (some 81) (by kernel_rfl) (by kernel_rfl) (fun _ hw => by kernel_rfl) hO16.tail.tail ?_
              try simp only [p0, p1, p2, p3]
              refine wd_ld (.int .u32 (ia .u32 (ia .u32 (ia .u32 (ix .u32 (trn ((schW b i) (i - 2)) (am2 15 13) 2) (ishr ((schW b i) (i - 2)) 10)) ((schW b i) (i - 7))) (ix .u32 (trn ((schW b i) (i - 15)) (am2 25 14) 2) (ishr ((schW b i) (i - 15)) 3))) ((schW b i) (i - 16)))) rfl (some 86) (by kernel_rfl) (by kernel_rfl) (fun _ hw => by kernel_rfl) hO16.tail.tail ?_
              try simp only [p0, p1, p2, p3]
              refine wd_ld (.pointer (some ⟨g3, i, none⟩)) rfl (some 87) (by kernel_rfl) (by kernel_rfl) (fun _ hw => p_idx0 Tryd.underlying124 (by kernel_rfl) i (by omega) rfl (by kernel_rfl) (by kernel_rfl) _) hO16.tail.tail ?_
              try simp only [p0, p1, p2, p3]
              refine wd_runx rfl none (by kernel_rfl) rfl (r_st (L1 := [(g14, 3, (aF .i64 2 (lit2 7 18))), (g9, 3, (aF .i64 2 (lit2 17 19)))]) (L2 := ((g2, 89, (aF .u32 8 zF)) :: (g1, 89, (aF .u32 8 s)) :: [])) (f := (schW b i)) (n := 64) i (ia .u32 (ia .u32 (ia .u32 (ix .u32 (trn ((schW b i) (i - 2)) (am2 15 13) 2) (ishr ((schW b i) (i - 2)) 10)) ((schW b i) (i - 7))) (ix .u32 (trn ((schW b i) (i - 15)) (am2 25 14) 2) (ishr ((schW b i) (i - 15)) 3))) ((schW b i) (i - 16))) (by omega) rfl (by kernel_rfl) (by kernel_rfl) hO16 (by kernel_rfl)) fun _ w17 hO17 => ?_
              try clear hO16
              try simp only [List.nil_append, List.cons_append] at hO17
              try simp only [p0, p1, p2, p3]
              refine wd_nil ?_
              exact hcut g9 g14 _ (Own.sub hO17 (.cons _ (.cons _ (.cons_cons _ (.cons_cons _ (.cons_cons _ (List.Sublist.refl _)))))))
          · skip
            refine nx_runs rfl (some 76) (by kernel_rfl) rfl (r_bs 3 (aF .i64 2 (lit2 7 18)) 2 (by kernel_rfl) hO8) (fun _ _ h => h.tail) fun g18 w18 hO18 => ?_
            try clear hO8
            try simp only [List.nil_append, List.cons_append] at hO18
            try simp only [p0, p1, p2, p3]
            refine wd_runs rfl (some 65) (by kernel_rfl) rfl (r_bs 3 (aF .i64 2 (lit2 17 19)) 2 (by kernel_rfl) hO18) (fun _ _ h => h.tail.tail) fun g19 w19 hO19 => ?_
            try clear hO18
            try simp only [List.nil_append, List.cons_append] at hO19
            try simp only [p0, p1, p2, p3]
            refine wd_runs rfl (some 66) (by kernel_rfl) rfl (r_call (args := #[.int .u32 ((schW b i) (i - 2)), .slice (some ⟨g19, 0, none⟩) 2 2]) (u := .int .u32 (trn ((schW b i) (i - 2)) (am2 15 13) 2)) (by kernel_rfl) (turned_any ((schW b i) (i - 2)) (rdc_own0 hO19 (.head _)) (by decide) (amt2 17 19 15 13 (by decide +kernel) (by decide +kernel) (by decide))) hO19) (fun _ _ h => h.tail.tail) fun _ w20 hO20 => ?_
            try clear hO19
            try simp only [List.nil_append, List.cons_append] at hO20
            try simp only [p0, p1, p2, p3]
            refine wd_ld (.int .u32 (ix .u32 (trn ((schW b i) (i - 2)) (am2 15 13) 2) (ishr ((schW b i) (i - 2)) 10))) rfl (some 69) (by kernel_rfl) (by kernel_rfl) (fun _ hw => by kernel_rfl) hO20.tail.tail ?_
            try simp only [p0, p1, p2, p3]
            refine wd_ld (.int .u32 (ia .u32 (ix .u32 (trn ((schW b i) (i - 2)) (am2 15 13) 2) (ishr ((schW b i) (i - 2)) 10)) ((schW b i) (i - 7)))) rfl (some 74) (by kernel_rfl) (by kernel_rfl) (fun _ hw => by kernel_rfl) hO20.tail.tail ?_
            try simp only [p0, p1, p2, p3]
            refine wd_runs rfl (some 77) (by kernel_rfl) rfl (r_call (args := #[.int .u32 ((schW b i) (i - 15)), .slice (some ⟨g18, 0, none⟩) 2 2]) (u := .int .u32 (trn ((schW b i) (i - 15)) (am2 25 14) 2)) (by kernel_rfl) (turned_any ((schW b i) (i - 15)) (rdc_own0 hO20 (.tail _ (.head _))) (by decide) (amt2 7 18 25 14 (by decide +kernel) (by decide +kernel) (by decide))) hO20) (fun _ _ h => h.tail.tail) fun _ w21 hO21 => ?_
            try clear hO20
            try simp only [List.nil_append, List.cons_append] at hO21
            try simp only [p0, p1, p2, p3]
            refine wd_ld (.int .u32 (ix .u32 (trn ((schW b i) (i - 15)) (am2 25 14) 2) (ishr ((schW b i) (i - 15)) 3))) rfl (some 80) (by kernel_rfl) (by kernel_rfl) (fun _ hw => by kernel_rfl) hO21.tail.tail ?_
            try simp only [p0, p1, p2, p3]
            refine wd_ld (.int .u32 (ia .u32 (ia .u32 (ix .u32 (trn ((schW b i) (i - 2)) (am2 15 13) 2) (ishr ((schW b i) (i - 2)) 10)) ((schW b i) (i - 7))) (ix .u32 (trn ((schW b i) (i - 15)) (am2 25 14) 2) (ishr ((schW b i) (i - 15)) 3)))) rfl (some 81) (by kernel_rfl) (by kernel_rfl) (fun _ hw => by kernel_rfl) hO21.tail.tail ?_
            try simp only [p0, p1, p2, p3]
            refine wd_ld (.int .u32 (ia .u32 (ia .u32 (ia .u32 (ix .u32 (trn ((schW b i) (i - 2)) (am2 15 13) 2) (ishr ((schW b i) (i - 2)) 10)) ((schW b i) (i - 7))) (ix .u32 (trn ((schW b i) (i - 15)) (am2 25 14) 2) (ishr ((schW b i) (i - 15)) 3))) ((schW b i) (i - 16)))) rfl (some 86) (by kernel_rfl) (by kernel_rfl) (fun _ hw => by kernel_rfl) hO21.tail.tail ?_
            try simp only [p0, p1, p2, p3]
            refine wd_ld (.pointer (some ⟨g3, i, none⟩)) rfl (some 87) (by kernel_rfl) (by kernel_rfl) (fun _ hw => p_idx0 Tryd.underlying124 (by kernel_rfl) i (by omega) rfl (by kernel_rfl) (by kernel_rfl) _) hO21.tail.tail ?_
            try simp only [p0, p1, p2, p3]
            refine wd_runx rfl none (by kernel_rfl) rfl (r_st (L1 := [(g19, 3, (aF .i64 2 (lit2 17 19))), (g18, 3, (aF .i64 2 (lit2 7 18)))]) (L2 := ((g2, 89, (aF .u32 8 zF)) :: (g1, 89, (aF .u32 8 s)) :: [])) (f := (schW b i)) (n := 64) i (ia .u32 (ia .u32 (ia .u32 (ix .u32 (trn ((schW b i) (i - 2)) (am2 15 13) 2) (ishr ((schW b i) (i - 2)) 10)) ((schW b i) (i - 7))) (ix .u32 (trn ((schW b i) (i - 15)) (am2 25 14) 2) (ishr ((schW b i) (i - 15)) 3))) ((schW b i) (i - 16))) (by omega) rfl (by kernel_rfl) (by kernel_rfl) hO21 (by kernel_rfl)) fun _ w22 hO22 => ?_
            try clear hO21
            try simp only [List.nil_append, List.cons_append] at hO22
            try simp only [p0, p1, p2, p3]
            refine wd_nil ?_
            exact hcut g19 g18 _ (Own.sub hO22 (.cons _ (.cons _ (.cons_cons _ (.cons_cons _ (.cons_cons _ (List.Sublist.refl _)))))))
        intro g19 g18 w23 hO23
        show Code.wp _ _ _ _ _
        refine wl_region ?_
        refine wl_pure (.int .i64 ((i + 1 : Nat) : Int)) rfl (n_add (k := .i64) rfl i 1 (by omega) rfl (by kernel_rfl) (by kernel_rfl) _) ?_
        try simp only [p0, p1, p2, p3]
        refine wl_pure (.int .i64 ((i + 1 : Nat) : Int)) rfl (by kernel_rfl) ?_
        try simp only [p0, p1, p2, p3]
        refine wl_nil ?_
        try simp only [Exit.then, Exit.inBlock]
        go_roundw
        case rel => exact ⟨i + 1, by omega, rfl, by rw [schW_hi b i hs]; exact hO23⟩
        case measure => simp [intOf]; omega
    · have hm4' := hm4
      obtain rfl : i = 64 := by omega
      refine wp_seq ?_
      refine wl_region ?_
      refine wl_pure (.bool false) rfl (by kernel_rfl) ?_
      try simp only [p0, p1, p2, p3]
      refine wl_nil ?_
      show Code.wp _ _ _ _ _
      refine wp_seq ?_
      refine wp_cond_false rfl ?_
      refine wp_exit ?_
      simp only [Exit.then, Exit.inBlock, if_true]
      show Code.wp _ _ _ _ _
      refine wp_seq ?_
      refine wl_region ?_
      refine wl_pure (.agg (aF .u32 8 s)) rfl (run_row (hO4.get (.tail _ (.tail _ (.head _)))) Tryd.underlying89 rfl (by kernel_rfl) rfl (by kernel_rfl)) ?_
      try simp only [p0, p1, p2, p3]
      refine wl_runs rfl (r_new 89 (aF .u32 8 zF) (by kernel_rfl) hO4) fun g24 w24 hO24 => ?_
      clear hO4
      try simp only [List.nil_append, List.cons_append] at hO24
      try simp only [p0, p1, p2, p3]
      refine wl_runs rfl (r_row (L1 := []) (L2 := ((g3, 124, (aF .u32 64 (schW b 64))) :: (g2, 89, (aF .u32 8 zF)) :: (g1, 89, (aF .u32 8 s)) :: [])) (cs := (aF .u32 8 zF)) (aF .u32 8 s) rfl (by kernel_rfl) (by kernel_rfl) hO24 (by simp only [size_aF]) (by kernel_rfl) (one_aF _ _ _)) fun _ w25 hO25 => ?_
      clear hO24
      try simp only [List.nil_append, List.cons_append] at hO25
      try simp only [p0, p1, p2, p3]
      refine wl_nil ?_
      show Code.wp _ _ _ _ _
      refine wp_seq ?_
      refine wp_seq ?_
      refine wl_region ?_
      refine wl_pure (.agg (aF .u32 64 K)) rfl (run_row (hK.under hO25.bl) Tryd.underlying124 rfl (by kernel_rfl) rfl (by kernel_rfl)) ?_
      try simp only [p0, p1, p2, p3]
      refine wl_pure (.int .i64 0) rfl (by kernel_rfl) ?_
      try simp only [p0, p1, p2, p3]
      refine wl_nil ?_
      show Code.wp _ _ _ _ _
      go_wp2_with fail
      go_loopw [91] (fun v26_91 wr26 => ∃ (i : Nat), i ≤ 64 ∧ v26_91 = .int .i64 ((i : Nat) : Int) ∧ Own w ((g24, 89, (aF .u32 8 (stepsW K (schW b 64) s i))) :: (g3, 124, (aF .u32 64 (schW b 64))) :: (g2, 89, (aF .u32 8 zF)) :: (g1, 89, (aF .u32 8 s)) :: []) wr26) (fun v26_91 wr26 => 64 - (intOf v26_91).toNat)
      case atStart => exact ⟨0, by omega, rfl, hO25⟩
      case round =>
        try clear hO25
        obtain ⟨i, hf26_0, rfl, hO26⟩ := hrel
        by_cases hm26 : i < 64
        · have hm26' := hm26
          refine wp_seq ?_
          refine wl_region ?_
          refine wl_pure (.bool true) rfl (i_lss (k := .i64) ((i : Nat) : Int) 64 true (decide_eq_true (by omega)) rfl (by kernel_rfl) (by kernel_rfl) _) ?_
          try simp only [p0, p1, p2, p3]
          refine wl_nil ?_
          show Code.wp _ _ _ _ _
          refine wp_seq ?_
          refine wp_cond_true rfl ?_
          refine wp_skip ?_
          show Code.wp _ _ _ _ _
          refine wp_seq ?_
          refine wp_block ?_
          refine wp_seq ?_
          refine wl_region ?_
          refine wl_pure (.int .i64 ((i : Nat) : Int)) rfl (by kernel_rfl) ?_
          try simp only [p0, p1, p2, p3]
          refine wl_pure (.int .u32 (K i)) rfl (a_idx Tryd.underlying124 (by kernel_rfl) (fun _ => by kernel_rfl) i (by omega) rfl (by kernel_rfl) (by kernel_rfl) _) ?_
          try simp only [p0, p1, p2, p3]
          refine wl_pure (.int .i64 ((i : Nat) : Int)) rfl (by kernel_rfl) ?_
          try simp only [p0, p1, p2, p3]
          refine wl_pure (.int .u32 (K i)) rfl (by kernel_rfl) ?_
          try simp only [p0, p1, p2, p3]
          refine wl_nil ?_
          show Code.wp _ _ _ _ _
          refine wp_seq ?_
          refine wd_region [] (Tr.ofList [(0, 1), (1, 1), (2, 1), (3, 1), (7, 1), (8, 1), (9, 1), (10, 1), (11, 1), (12, 1), (13, 1), (14, 1), (15, 1), (16, 1), (17, 1), (18, 1), (20, 1), (22, 1), (23, 1), (24, 1), (4, 3), (5, 3), (6, 1), (19, 1), (21, 1), (25, 1), (26, 1)] .nil) (by decide) (by kernel_rfl) (by kernel_rfl) hO26 fun w27 hO27 => ?_
          simp only [Tr.ofList]
          try clear hO26
          refine wd_ld (.pointer (some ⟨g24, 7, none⟩)) rfl (some 95) (by kernel_rfl) (by kernel_rfl) (fun _ hw => by kernel_rfl) hO27 ?_
          try simp only [p0, p1, p2, p3]
          refine wd_ld (.int .u32 ((stepsW K (schW b 64) s i) 7)) rfl (some 96) (by kernel_rfl) (by kernel_rfl) (fun _ hw => run_cell (own_cell hw (.head _) 7 (by decide)) (by kernel_rfl) rfl (by kernel_rfl)) hO27 ?_
          try simp only [p0, p1, p2, p3]
          refine wd_ld (.pointer (some ⟨g24, 4, none⟩)) rfl (some 97) (by kernel_rfl) (by kernel_rfl) (fun _ hw => by kernel_rfl) hO27 ?_
          try simp only [p0, p1, p2, p3]
          refine wd_ld (.int .u32 ((stepsW K (schW b 64) s i) 4)) rfl (some 98) (by kernel_rfl) (by kernel_rfl) (fun _ hw => run_cell (own_cell hw (.head _) 4 (by decide)) (by kernel_rfl) rfl (by kernel_rfl)) hO27 ?_
          try simp only [p0, p1, p2, p3]
          refine wd_ld (.pointer (some ⟨g24, 4, none⟩)) rfl (some 102) (by kernel_rfl) (by kernel_rfl) (fun _ hw => by kernel_rfl) hO27 ?_
          try simp only [p0, p1, p2, p3]
          refine wd_ld (.int .u32 ((stepsW K (schW b 64) s i) 4)) rfl (some 103) (by kernel_rfl) (by kernel_rfl) (fun _ hw => run_cell (own_cell hw (.head _) 4 (by decide)) (by kernel_rfl) rfl (by kernel_rfl)) hO27 ?_
          try simp only [p0, p1, p2, p3]
          refine wd_ld (.pointer (some ⟨g24, 5, none⟩)) rfl (some 104) (by kernel_rfl) (by kernel_rfl) (fun _ hw => by kernel_rfl) hO27 ?_
          try simp only [p0, p1, p2, p3]
          refine wd_ld (.int .u32 ((stepsW K (schW b 64) s i) 5)) rfl (some 105) (by kernel_rfl) (by kernel_rfl) (fun _ hw => run_cell (own_cell hw (.head _) 5 (by decide)) (by kernel_rfl) rfl (by kernel_rfl)) hO27 ?_
          try simp only [p0, p1, p2, p3]
          refine wd_ld (.int .u32 (iand .u32 ((stepsW K (schW b 64) s i) 4) ((stepsW K (schW b 64) s i) 5))) rfl (some 106) (by kernel_rfl) (by kernel_rfl) (fun _ hw => by kernel_rfl) hO27 ?_
          try simp only [p0, p1, p2, p3]
          refine wd_ld (.pointer (some ⟨g24, 4, none⟩)) rfl (some 107) (by kernel_rfl) (by kernel_rfl) (fun _ hw => by kernel_rfl) hO27 ?_
          try simp only [p0, p1, p2, p3]
          refine wd_ld (.int .u32 ((stepsW K (schW b 64) s i) 4)) rfl (some 108) (by kernel_rfl) (by kernel_rfl) (fun _ hw => run_cell (own_cell hw (.head _) 4 (by decide)) (by kernel_rfl) rfl (by kernel_rfl)) hO27 ?_
          try simp only [p0, p1, p2, p3]
          refine wd_ld (.int .u32 (inot .u32 ((stepsW K (schW b 64) s i) 4))) rfl (some 109) (by kernel_rfl) (by kernel_rfl) (fun _ hw => by kernel_rfl) hO27 ?_
          try simp only [p0, p1, p2, p3]
          refine wd_ld (.pointer (some ⟨g24, 6, none⟩)) rfl (some 110) (by kernel_rfl) (by kernel_rfl) (fun _ hw => by kernel_rfl) hO27 ?_
          try simp only [p0, p1, p2, p3]
          refine wd_ld (.int .u32 ((stepsW K (schW b 64) s i) 6)) rfl (some 111) (by kernel_rfl) (by kernel_rfl) (fun _ hw => run_cell (own_cell hw (.head _) 6 (by decide)) (by kernel_rfl) rfl (by kernel_rfl)) hO27 ?_
          try simp only [p0, p1, p2, p3]
          refine wd_ld (.int .u32 (iand .u32 (inot .u32 ((stepsW K (schW b 64) s i) 4)) ((stepsW K (schW b 64) s i) 6))) rfl (some 112) (by kernel_rfl) (by kernel_rfl) (fun _ hw => by kernel_rfl) hO27 ?_
          try simp only [p0, p1, p2, p3]
          refine wd_ld (.int .u32 (ix .u32 (iand .u32 ((stepsW K (schW b 64) s i) 4) ((stepsW K (schW b 64) s i) 5)) (iand .u32 (inot .u32 ((stepsW K (schW b 64) s i) 4)) ((stepsW K (schW b 64) s i) 6)))) rfl (some 113) (by kernel_rfl) (by kernel_rfl) (fun _ hw => by kernel_rfl) hO27 ?_
          try simp only [p0, p1, p2, p3]
          refine wd_ld (.int .u32 (K i)) rfl (some 115) (by kernel_rfl) (by kernel_rfl) (fun _ hw => by kernel_rfl) hO27 ?_
          try simp only [p0, p1, p2, p3]
          refine wd_ld (.int .i64 ((i : Nat) : Int)) rfl (some 117) (by kernel_rfl) (by kernel_rfl) (fun _ hw => by kernel_rfl) hO27 ?_
          try simp only [p0, p1, p2, p3]
          refine wd_ld (.pointer (some ⟨g3, i, none⟩)) rfl (some 118) (by kernel_rfl) (by kernel_rfl) (fun _ hw => p_idx0 Tryd.underlying124 (by kernel_rfl) i (by omega) rfl (by kernel_rfl) (by kernel_rfl) _) hO27 ?_
          try simp only [p0, p1, p2, p3]
          refine wd_ld (.int .u32 ((schW b 64) i)) rfl (some 119) (by kernel_rfl) (by kernel_rfl) (fun _ hw => run_cell (own_cell hw (.tail _ (.head _)) i (by omega)) (by kernel_rfl) rfl (by kernel_rfl)) hO27 ?_
          try simp only [p0, p1, p2, p3]
          refine wd_runs rfl (some 99) (by kernel_rfl) rfl (r_bs 3 (aF .i64 3 (lit3 6 11 25)) 3 (by kernel_rfl) hO27) (fun _ _ h => h.tail) fun g28 w28 hO28 => ?_
          clear hO27
          try simp only [List.nil_append, List.cons_append] at hO28
          try simp only [p0, p1, p2, p3]
          refine wd_runs rfl (some 100) (by kernel_rfl) rfl (r_call (args := #[.int .u32 ((stepsW K (schW b 64) s i) 4), .slice (some ⟨g28, 0, none⟩) 3 3]) (u := .int .u32 (trn ((stepsW K (schW b 64) s i) 4) (am3 26 21 7) 3)) (by kernel_rfl) (turned_any ((stepsW K (schW b 64) s i) 4) (rdc_own0 hO28 (.head _)) (by decide) (amt3 6 11 25 26 21 7 (by decide +kernel) (by decide +kernel) (by decide +kernel) (by decide))) hO28) (fun _ _ h => h.tail) fun _ w29 hO29 => ?_
          clear hO28
          try simp only [List.nil_append, List.cons_append] at hO29
          try simp only [p0, p1, p2, p3]
          refine wd_ld (.int .u32 (ia .u32 ((stepsW K (schW b 64) s i) 7) (trn ((stepsW K (schW b 64) s i) 4) (am3 26 21 7) 3))) rfl (some 101) (by kernel_rfl) (by kernel_rfl) (fun _ hw => by kernel_rfl) hO29.tail ?_
          try simp only [p0, p1, p2, p3]
          refine wd_ld (.int .u32 (ia .u32 (ia .u32 ((stepsW K (schW b 64) s i) 7) (trn ((stepsW K (schW b 64) s i) 4) (am3 26 21 7) 3)) (ix .u32 (iand .u32 ((stepsW K (schW b 64) s i) 4) ((stepsW K (schW b 64) s i) 5)) (iand .u32 (inot .u32 ((stepsW K (schW b 64) s i) 4)) ((stepsW K (schW b 64) s i) 6))))) rfl (some 114) (by kernel_rfl) (by kernel_rfl) (fun _ hw => by kernel_rfl) hO29.tail ?_
          try simp only [p0, p1, p2, p3]
          refine wd_ld (.int .u32 (ia .u32 (ia .u32 (ia .u32 ((stepsW K (schW b 64) s i) 7) (trn ((stepsW K (schW b 64) s i) 4) (am3 26 21 7) 3)) (ix .u32 (iand .u32 ((stepsW K (schW b 64) s i) 4) ((stepsW K (schW b 64) s i) 5)) (iand .u32 (inot .u32 ((stepsW K (schW b 64) s i) 4)) ((stepsW K (schW b 64) s i) 6)))) (K i))) rfl (some 116) (by kernel_rfl) (by kernel_rfl) (fun _ hw => by kernel_rfl) hO29.tail ?_
          try simp only [p0, p1, p2, p3]
          refine wd_ld (.int .u32 (ia .u32 (ia .u32 (ia .u32 (ia .u32 ((stepsW K (schW b 64) s i) 7) (trn ((stepsW K (schW b 64) s i) 4) (am3 26 21 7) 3)) (ix .u32 (iand .u32 ((stepsW K (schW b 64) s i) 4) ((stepsW K (schW b 64) s i) 5)) (iand .u32 (inot .u32 ((stepsW K (schW b 64) s i) 4)) ((stepsW K (schW b 64) s i) 6)))) (K i)) ((schW b 64) i))) rfl (some 120) (by kernel_rfl) (by kernel_rfl) (fun _ hw => by kernel_rfl) hO29.tail ?_
          try simp only [p0, p1, p2, p3]
          refine wd_ld (.int .u32 (ia .u32 (ia .u32 (ia .u32 (ia .u32 ((stepsW K (schW b 64) s i) 7) (trn ((stepsW K (schW b 64) s i) 4) (am3 26 21 7) 3)) (ix .u32 (iand .u32 ((stepsW K (schW b 64) s i) 4) ((stepsW K (schW b 64) s i) 5)) (iand .u32 (inot .u32 ((stepsW K (schW b 64) s i) 4)) ((stepsW K (schW b 64) s i) 6)))) (K i)) ((schW b 64) i))) rfl (some 12) (by kernel_rfl) (by kernel_rfl) (fun _ hw => by kernel_rfl) hO29.tail ?_
          try simp only [p0, p1, p2, p3]
          refine wd_nil ?_
          show Code.wp _ _ _ _ _
          refine wp_seq ?_
          refine wd_region [] (Tr.ofList [(0, 1), (1, 1), (4, 1), (5, 1), (6, 1), (7, 1), (8, 1), (9, 1), (10, 1), (11, 1), (12, 1), (13, 1), (14, 1), (15, 1), (16, 1), (17, 1), (18, 1), (19, 1), (20, 1), (2, 3), (3, 3), (21, 1), (22, 1)] .nil) (by decide) (by kernel_rfl) (by kernel_rfl) hO29 fun w30 hO30 => ?_
          simp only [Tr.ofList]
          try clear hO29
          refine wd_ld (.pointer (some ⟨g24, 0, none⟩)) rfl (some 121) (by kernel_rfl) (by kernel_rfl) (fun _ hw => by kernel_rfl) hO30 ?_
          try simp only [p0, p1, p2, p3]
          refine wd_ld (.int .u32 ((stepsW K (schW b 64) s i) 0)) rfl (some 122) (by kernel_rfl) (by kernel_rfl) (fun _ hw => run_cell (own_cell hw (.tail _ (.head _)) 0 (by decide)) (by kernel_rfl) rfl (by kernel_rfl)) hO30 ?_
          try simp only [p0, p1, p2, p3]
          refine wd_ld (.pointer (some ⟨g24, 0, none⟩)) rfl (some 125) (by kernel_rfl) (by kernel_rfl) (fun _ hw => by kernel_rfl) hO30 ?_
          try simp only [p0, p1, p2, p3]
          refine wd_ld (.int .u32 ((stepsW K (schW b 64) s i) 0)) rfl (some 126) (by kernel_rfl) (by kernel_rfl) (fun _ hw => run_cell (own_cell hw (.tail _ (.head _)) 0 (by decide)) (by kernel_rfl) rfl (by kernel_rfl)) hO30 ?_
          try simp only [p0, p1, p2, p3]
          refine wd_ld (.pointer (some ⟨g24, 1, none⟩)) rfl (some 127) (by kernel_rfl) (by kernel_rfl) (fun _ hw => by kernel_rfl) hO30 ?_
          try simp only [p0, p1, p2, p3]
          refine wd_ld (.int .u32 ((stepsW K (schW b 64) s i) 1)) rfl (some 128) (by kernel_rfl) (by kernel_rfl) (fun _ hw => run_cell (own_cell hw (.tail _ (.head _)) 1 (by decide)) (by kernel_rfl) rfl (by kernel_rfl)) hO30 ?_
          try simp only [p0, p1, p2, p3]
          refine wd_ld (.int .u32 (iand .u32 ((stepsW K (schW b 64) s i) 0) ((stepsW K (schW b 64) s i) 1))) rfl (some 129) (by kernel_rfl) (by kernel_rfl) (fun _ hw => by kernel_rfl) hO30 ?_
          try simp only [p0, p1, p2, p3]
          refine wd_ld (.pointer (some ⟨g24, 0, none⟩)) rfl (some 130) (by kernel_rfl) (by kernel_rfl) (fun _ hw => by kernel_rfl) hO30 ?_
          try simp only [p0, p1, p2, p3]
          refine wd_ld (.int .u32 ((stepsW K (schW b 64) s i) 0)) rfl (some 131) (by kernel_rfl) (by kernel_rfl) (fun _ hw => run_cell (own_cell hw (.tail _ (.head _)) 0 (by decide)) (by kernel_rfl) rfl (by kernel_rfl)) hO30 ?_
          try simp only [p0, p1, p2, p3]
          refine wd_ld (.pointer (some ⟨g24, 2, none⟩)) rfl (some 132) (by kernel_rfl) (by kernel_rfl) (fun _ hw => by kernel_rfl) hO30 ?_
          try simp only [p0, p1, p2, p3]
          refine wd_ld (.int .u32 ((stepsW K (schW b 64) s i) 2)) rfl (some 133) (by kernel_rfl) (by kernel_rfl) (fun _ hw => run_cell (own_cell hw (.tail _ (.head _)) 2 (by decide)) (by kernel_rfl) rfl (by kernel_rfl)) hO30 ?_
          try simp only [p0, p1, p2, p3]
          refine wd_ld (.int .u32 (iand .u32 ((stepsW K (schW b 64) s i) 0) ((stepsW K (schW b 64) s i) 2))) rfl (some 134) (by kernel_rfl) (by kernel_rfl) (fun _ hw => by kernel_rfl) hO30 ?_
          try simp only [p0, p1, p2, p3]
          refine wd_ld (.int .u32 (ix .u32 (iand .u32 ((stepsW K (schW b 64) s i) 0) ((stepsW K (schW b 64) s i) 1)) (iand .u32 ((stepsW K (schW b 64) s i) 0) ((stepsW K (schW b 64) s i) 2)))) rfl (some 135) (by kernel_rfl) (by kernel_rfl) (fun _ hw => by kernel_rfl) hO30 ?_
          try simp only [p0, p1, p2, p3]
          refine wd_ld (.pointer (some ⟨g24, 1, none⟩)) rfl (some 136) (by kernel_rfl) (by kernel_rfl) (fun _ hw => by kernel_rfl) hO30 ?_
          try simp only [p0, p1, p2, p3]
          refine wd_ld (.int .u32 ((stepsW K (schW b 64) s i) 1)) rfl (some 137) (by kernel_rfl) (by kernel_rfl) (fun _ hw => run_cell (own_cell hw (.tail _ (.head _)) 1 (by decide)) (by kernel_rfl) rfl (by kernel_rfl)) hO30 ?_
          try simp only [p0, p1, p2, p3]
          refine wd_ld (.pointer (some ⟨g24, 2, none⟩)) rfl (some 138) (by kernel_rfl) (by kernel_rfl) (fun _ hw => by kernel_rfl) hO30 ?_
          try simp only [p0, p1, p2, p3]
          refine wd_ld (.int .u32 ((stepsW K (schW b 64) s i) 2)) rfl (some 139) (by kernel_rfl) (by kernel_rfl) (fun _ hw => run_cell (own_cell hw (.tail _ (.head _)) 2 (by decide)) (by kernel_rfl) rfl (by kernel_rfl)) hO30 ?_
          try simp only [p0, p1, p2, p3]
          refine wd_ld (.int .u32 (iand .u32 ((stepsW K (schW b 64) s i) 1) ((stepsW K (schW b 64) s i) 2))) rfl (some 140) (by kernel_rfl) (by kernel_rfl) (fun _ hw => by kernel_rfl) hO30 ?_
          try simp only [p0, p1, p2, p3]
          refine wd_ld (.int .u32 (ix .u32 (ix .u32 (iand .u32 ((stepsW K (schW b 64) s i) 0) ((stepsW K (schW b 64) s i) 1)) (iand .u32 ((stepsW K (schW b 64) s i) 0) ((stepsW K (schW b 64) s i) 2))) (iand .u32 ((stepsW K (schW b 64) s i) 1) ((stepsW K (schW b 64) s i) 2)))) rfl (some 141) (by kernel_rfl) (by kernel_rfl) (fun _ hw => by kernel_rfl) hO30 ?_
          try simp only [p0, p1, p2, p3]
          refine wd_runs rfl (some 123) (by kernel_rfl) rfl (r_bs 3 (aF .i64 3 (lit3 2 13 22)) 3 (by kernel_rfl) hO30) (fun _ _ h => h.tail) fun g31 w31 hO31 => ?_
          clear hO30
          try simp only [List.nil_append, List.cons_append] at hO31
          try simp only [p0, p1, p2, p3]
          refine wd_runs rfl (some 124) (by kernel_rfl) rfl (r_call (args := #[.int .u32 ((stepsW K (schW b 64) s i) 0), .slice (some ⟨g31, 0, none⟩) 3 3]) (u := .int .u32 (trn ((stepsW K (schW b 64) s i) 0) (am3 30 19 10) 3)) (by kernel_rfl) (turned_any ((stepsW K (schW b 64) s i) 0) (rdc_own0 hO31 (.head _)) (by decide) (amt3 2 13 22 30 19 10 (by decide +kernel) (by decide +kernel) (by decide +kernel) (by decide))) hO31) (fun _ _ h => h.tail) fun _ w32 hO32 => ?_
          clear hO31
          try simp only [List.nil_append, List.cons_append] at hO32
          try simp only [p0, p1, p2, p3]
          refine wd_ld (.int .u32 (ia .u32 (trn ((stepsW K (schW b 64) s i) 0) (am3 30 19 10) 3) (ix .u32 (ix .u32 (iand .u32 ((stepsW K (schW b 64) s i) 0) ((stepsW K (schW b 64) s i) 1)) (iand .u32 ((stepsW K (schW b 64) s i) 0) ((stepsW K (schW b 64) s i) 2))) (iand .u32 ((stepsW K (schW b 64) s i) 1) ((stepsW K (schW b 64) s i) 2))))) rfl (some 142) (by kernel_rfl) (by kernel_rfl) (fun _ hw => by kernel_rfl) hO32.tail ?_
          try simp only [p0, p1, p2, p3]
          refine wd_ld (.int .u32 (ia .u32 (trn ((stepsW K (schW b 64) s i) 0) (am3 30 19 10) 3) (ix .u32 (ix .u32 (iand .u32 ((stepsW K (schW b 64) s i) 0) ((stepsW K (schW b 64) s i) 1)) (iand .u32 ((stepsW K (schW b 64) s i) 0) ((stepsW K (schW b 64) s i) 2))) (iand .u32 ((stepsW K (schW b 64) s i) 1) ((stepsW K (schW b 64) s i) 2))))) rfl (some 13) (by kernel_rfl) (by kernel_rfl) (fun _ hw => by kernel_rfl) hO32.tail ?_
          try simp only [p0, p1, p2, p3]
          refine wd_nil ?_
          show Code.wp _ _ _ _ _
          refine wp_seq ?_
          refine wd_region [2] (Tr.ofList [(0, 1), (1, 1), (2, 4)] .nil) (by decide) (by kernel_rfl) (by kernel_rfl) hO32 fun w33 hO33 => ?_
          simp only [Tr.ofList]
          try clear hO32
          refine wd_ld (.slice (some ⟨g24, 1, none⟩) 7 7) rfl (some 143) (by kernel_rfl) (by kernel_rfl) (fun _ hw => by kernel_rfl) hO33 ?_
          try simp only [p0, p1, p2, p3]
          refine wd_ld (.slice (some ⟨g24, 0, none⟩) 7 8) rfl (some 144) (by kernel_rfl) (by kernel_rfl) (fun _ hw => by kernel_rfl) hO33 ?_
          try simp only [p0, p1, p2, p3]
          refine wd_runx rfl (some 145) (by kernel_rfl) rfl (r_copy (L1 := [(g31, 3, (aF .i64 3 (lit3 2 13 22))), (g28, 3, (aF .i64 3 (lit3 6 11 25)))]) (L2 := ((g3, 124, (aF .u32 64 (schW b 64))) :: (g2, 89, (aF .u32 8 zF)) :: (g1, 89, (aF .u32 8 s)) :: [])) (k := .u32) (f := (stepsW K (schW b 64) s i)) (n := 8) (d := 1) (m := 7) (s := (stepsW K (schW b 64) s i)) (dL := 7) (dC := 7) (sL := 7) (sC := 8) (dT := 97) (sT := 97) (ty := 3) (rdc_own1 hO33 (.tail _ (.tail _ (.head _))) 7 (by decide)) (by decide) (by decide) (by kernel_rfl) Tryd.underlying97 (by kernel_rfl) hO33) fun _ w34 hO34 => ?_
          clear hO33
          try simp only [List.nil_append, List.cons_append] at hO34
          try simp only [p0, p1, p2, p3]
          refine wd_nil ?_
          show Code.wp _ _ _ _ _
          refine wp_seq ?_
          refine wl_region ?_
          refine wl_pure (.pointer (some ⟨g24, 4, none⟩)) rfl (by kernel_rfl) ?_
          try simp only [p0, p1, p2, p3]
          refine wl_pure (.int .u32 ((cpy (stepsW K (schW b 64) s i) 1 7 (stepsW K (schW b 64) s i)) 4)) rfl (run_cell (own_cell hO34 (.tail _ (.tail _ (.head _))) 4 (by decide)) (by kernel_rfl) rfl (by kernel_rfl)) ?_
          try simp only [p0, p1, p2, p3]
          refine wl_pure (.int .u32 (ia .u32 (ia .u32 (ia .u32 (ia .u32 ((stepsW K (schW b 64) s i) 7) (trn ((stepsW K (schW b 64) s i) 4) (am3 26 21 7) 3)) (ix .u32 (iand .u32 ((stepsW K (schW b 64) s i) 4) ((stepsW K (schW b 64) s i) 5)) (iand .u32 (inot .u32 ((stepsW K (schW b 64) s i) 4)) ((stepsW K (schW b 64) s i) 6)))) (K i)) ((schW b 64) i))) rfl (by kernel_rfl) ?_
          try simp only [p0, p1, p2, p3]
          refine wl_pure (.int .u32 (ia .u32 ((cpy (stepsW K (schW b 64) s i) 1 7 (stepsW K (schW b 64) s i)) 4) (ia .u32 (ia .u32 (ia .u32 (ia .u32 ((stepsW K (schW b 64) s i) 7) (trn ((stepsW K (schW b 64) s i) 4) (am3 26 21 7) 3)) (ix .u32 (iand .u32 ((stepsW K (schW b 64) s i) 4) ((stepsW K (schW b 64) s i) 5)) (iand .u32 (inot .u32 ((stepsW K (schW b 64) s i) 4)) ((stepsW K (schW b 64) s i) 6)))) (K i)) ((schW b 64) i)))) rfl (by kernel_rfl) ?_
          try simp only [p0, p1, p2, p3]
          refine wl_pure (.pointer (some ⟨g24, 4, none⟩)) rfl (by kernel_rfl) ?_
          try simp only [p0, p1, p2, p3]
          refine wl_runs rfl (r_st (L1 := [(g31, 3, (aF .i64 3 (lit3 2 13 22))), (g28, 3, (aF .i64 3 (lit3 6 11 25)))]) (L2 := ((g3, 124, (aF .u32 64 (schW b 64))) :: (g2, 89, (aF .u32 8 zF)) :: (g1, 89, (aF .u32 8 s)) :: [])) (f := (cpy (stepsW K (schW b 64) s i) 1 7 (stepsW K (schW b 64) s i))) (n := 8) 4 (ia .u32 ((cpy (stepsW K (schW b 64) s i) 1 7 (stepsW K (schW b 64) s i)) 4) (ia .u32 (ia .u32 (ia .u32 (ia .u32 ((stepsW K (schW b 64) s i) 7) (trn ((stepsW K (schW b 64) s i) 4) (am3 26 21 7) 3)) (ix .u32 (iand .u32 ((stepsW K (schW b 64) s i) 4) ((stepsW K (schW b 64) s i) 5)) (iand .u32 (inot .u32 ((stepsW K (schW b 64) s i) 4)) ((stepsW K (schW b 64) s i) 6)))) (K i)) ((schW b 64) i))) (by decide) rfl (by kernel_rfl) (by kernel_rfl) hO34 (by kernel_rfl)) fun _ w35 hO35 => ?_
          clear hO34
          try simp only [List.nil_append, List.cons_append] at hO35
          try simp only [p0, p1, p2, p3]
          refine wl_nil ?_
          show Code.wp _ _ _ _ _
          refine wl_region ?_
          refine wl_pure (.int .u32 (ia .u32 (ia .u32 (ia .u32 (ia .u32 ((stepsW K (schW b 64) s i) 7) (trn ((stepsW K (schW b 64) s i) 4) (am3 26 21 7) 3)) (ix .u32 (iand .u32 ((stepsW K (schW b 64) s i) 4) ((stepsW K (schW b 64) s i) 5)) (iand .u32 (inot .u32 ((stepsW K (schW b 64) s i) 4)) ((stepsW K (schW b 64) s i) 6)))) (K i)) ((schW b 64) i))) rfl (by kernel_rfl) ?_
          try simp only [p0, p1, p2, p3]
          refine wl_pure (.int .u32 (ia .u32 (trn ((stepsW K (schW b 64) s i) 0) (am3 30 19 10) 3) (ix .u32 (ix .u32 (iand .u32 ((stepsW K (schW b 64) s i) 0) ((stepsW K (schW b 64) s i) 1)) (iand .u32 ((stepsW K (schW b 64) s i) 0) ((stepsW K (schW b 64) s i) 2))) (iand .u32 ((stepsW K (schW b 64) s i) 1) ((stepsW K (schW b 64) s i) 2))))) rfl (by kernel_rfl) ?_
          try simp only [p0, p1, p2, p3]
          refine wl_pure (.int .u32 (ia .u32 (ia .u32 (ia .u32 (ia .u32 (ia .u32 ((stepsW K (schW b 64) s i) 7) (trn ((stepsW K (schW b 64) s i) 4) (am3 26 21 7) 3)) (ix .u32 (iand .u32 ((stepsW K (schW b 64) s i) 4) ((stepsW K (schW b 64) s i) 5)) (iand .u32 (inot .u32 ((stepsW K (schW b 64) s i) 4)) ((stepsW K (schW b 64) s i) 6)))) (K i)) ((schW b 64) i)) (ia .u32 (trn ((stepsW K (schW b 64) s i) 0) (am3 30 19 10) 3) (ix .u32 (ix .u32 (iand .u32 ((stepsW K (schW b 64) s i) 0) ((stepsW K (schW b 64) s i) 1)) (iand .u32 ((stepsW K (schW b 64) s i) 0) ((stepsW K (schW b 64) s i) 2))) (iand .u32 ((stepsW K (schW b 64) s i) 1) ((stepsW K (schW b 64) s i) 2)))))) rfl (by kernel_rfl) ?_
          try simp only [p0, p1, p2, p3]
          refine wl_pure (.pointer (some ⟨g24, 0, none⟩)) rfl (by kernel_rfl) ?_
          try simp only [p0, p1, p2, p3]
          refine wl_runs rfl (r_st (L1 := [(g31, 3, (aF .i64 3 (lit3 2 13 22))), (g28, 3, (aF .i64 3 (lit3 6 11 25)))]) (L2 := ((g3, 124, (aF .u32 64 (schW b 64))) :: (g2, 89, (aF .u32 8 zF)) :: (g1, 89, (aF .u32 8 s)) :: [])) (f := (upd (cpy (stepsW K (schW b 64) s i) 1 7 (stepsW K (schW b 64) s i)) 4 (ia .u32 ((cpy (stepsW K (schW b 64) s i) 1 7 (stepsW K (schW b 64) s i)) 4) (ia .u32 (ia .u32 (ia .u32 (ia .u32 ((stepsW K (schW b 64) s i) 7) (trn ((stepsW K (schW b 64) s i) 4) (am3 26 21 7) 3)) (ix .u32 (iand .u32 ((stepsW K (schW b 64) s i) 4) ((stepsW K (schW b 64) s i) 5)) (iand .u32 (inot .u32 ((stepsW K (schW b 64) s i) 4)) ((stepsW K (schW b 64) s i) 6)))) (K i)) ((schW b 64) i))))) (n := 8) 0 (ia .u32 (ia .u32 (ia .u32 (ia .u32 (ia .u32 ((stepsW K (schW b 64) s i) 7) (trn ((stepsW K (schW b 64) s i) 4) (am3 26 21 7) 3)) (ix .u32 (iand .u32 ((stepsW K (schW b 64) s i) 4) ((stepsW K (schW b 64) s i) 5)) (iand .u32 (inot .u32 ((stepsW K (schW b 64) s i) 4)) ((stepsW K (schW b 64) s i) 6)))) (K i)) ((schW b 64) i)) (ia .u32 (trn ((stepsW K (schW b 64) s i) 0) (am3 30 19 10) 3) (ix .u32 (ix .u32 (iand .u32 ((stepsW K (schW b 64) s i) 0) ((stepsW K (schW b 64) s i) 1)) (iand .u32 ((stepsW K (schW b 64) s i) 0) ((stepsW K (schW b 64) s i) 2))) (iand .u32 ((stepsW K (schW b 64) s i) 1) ((stepsW K (schW b 64) s i) 2))))) (by decide) rfl (by kernel_rfl) (by kernel_rfl) hO35 (by kernel_rfl)) fun _ w36 hO36 => ?_
          clear hO35
          try simp only [List.nil_append, List.cons_append] at hO36
          try simp only [p0, p1, p2, p3]
          refine wl_nil ?_
          show Code.wp _ _ _ _ _
          refine wl_region ?_
          refine wl_pure (.int .i64 ((i + 1 : Nat) : Int)) rfl (n_add (k := .i64) rfl i 1 (by omega) rfl (by kernel_rfl) (by kernel_rfl) _) ?_
          try simp only [p0, p1, p2, p3]
          refine wl_pure (.int .i64 ((i + 1 : Nat) : Int)) rfl (by kernel_rfl) ?_
          try simp only [p0, p1, p2, p3]
          refine wl_nil ?_
          try simp only [Exit.then, Exit.inBlock]
          go_roundw
          case rel => exact ⟨i + 1, by omega, rfl, hO36.tail.tail⟩
          case measure => simp [intOf]; omega
        · have hm26' := hm26
          obtain rfl : i = 64 := by omega
          refine wp_seq ?_
          refine wl_region ?_
          refine wl_pure (.bool false) rfl (by kernel_rfl) ?_
          try simp only [p0, p1, p2, p3]
          refine wl_nil ?_
          show Code.wp _ _ _ _ _
          refine wp_seq ?_
          refine wp_cond_false rfl ?_
          refine wp_exit ?_
          simp only [Exit.then, Exit.inBlock, if_true]
          show Code.wp _ _ _ _ _
          refine wp_seq ?_
          refine wp_seq ?_
          refine wl_region ?_
          refine wl_pure (.int .i64 0) rfl (by kernel_rfl) ?_
          try simp only [p0, p1, p2, p3]
          refine wl_nil ?_
          show Code.wp _ _ _ _ _
          go_wp2_with fail
          go_loopw [156] (fun v37_156 wr37 => ∃ (i : Nat), i ≤ 8 ∧ v37_156 = .int .i64 ((i : Nat) : Int) ∧ Own w ((g24, 89, (aF .u32 8 (stepsW K (schW b 64) s 64))) :: (g3, 124, (aF .u32 64 (schW b 64))) :: (g2, 89, (aF .u32 8 zF)) :: (g1, 89, (aF .u32 8 (sumW s (stepsW K (schW b 64) s 64) i))) :: []) wr37) (fun v37_156 wr37 => 8 - (intOf v37_156).toNat)
          case atStart => exact ⟨0, by omega, rfl, hO26⟩
          case round =>
            try clear hO26
            obtain ⟨i, hf37_0, rfl, hO37⟩ := hrel
            by_cases hm37 : i < 8
            · have hm37' := hm37
              refine wp_seq ?_
              refine wl_region ?_
              refine wl_pure (.bool true) rfl (i_lss (k := .i64) ((i : Nat) : Int) 8 true (decide_eq_true (by omega)) rfl (by kernel_rfl) (by kernel_rfl) _) ?_
              try simp only [p0, p1, p2, p3]
              refine wl_nil ?_
              show Code.wp _ _ _ _ _
              refine wp_seq ?_
              refine wp_cond_true rfl ?_
              refine wp_skip ?_
              show Code.wp _ _ _ _ _
              refine wp_seq ?_
              refine wp_block ?_
              refine wp_seq ?_
              refine wl_region ?_
              refine wl_pure (.int .i64 ((i : Nat) : Int)) rfl (by kernel_rfl) ?_
              try simp only [p0, p1, p2, p3]
              refine wl_pure (.int .i64 ((i : Nat) : Int)) rfl (by kernel_rfl) ?_
              try simp only [p0, p1, p2, p3]
              refine wl_nil ?_
              show Code.wp _ _ _ _ _
              refine wd_region [8] (Tr.ofList [(0, 1), (1, 1), (2, 1), (3, 1), (4, 1), (5, 1), (6, 1), (7, 1), (8, 4)] .nil) (by decide) (by kernel_rfl) (by kernel_rfl) hO37 fun w38 hO38 => ?_
              simp only [Tr.ofList]
              try clear hO37
              refine wd_ld (.int .i64 ((i : Nat) : Int)) rfl (some 159) (by kernel_rfl) (by kernel_rfl) (fun _ hw => by kernel_rfl) hO38 ?_
              try simp only [p0, p1, p2, p3]
              refine wd_ld (.pointer (some ⟨g1, i, none⟩)) rfl (some 160) (by kernel_rfl) (by kernel_rfl) (fun _ hw => p_idx0 Tryd.underlying89 (by kernel_rfl) i (by omega) rfl (by kernel_rfl) (by kernel_rfl) _) hO38 ?_
              try simp only [p0, p1, p2, p3]
              refine wd_ld (.int .u32 ((sumW s (stepsW K (schW b 64) s 64) i) i)) rfl (some 161) (by kernel_rfl) (by kernel_rfl) (fun _ hw => run_cell (own_cell hw (.tail _ (.tail _ (.tail _ (.head _)))) i (by omega)) (by kernel_rfl) rfl (by kernel_rfl)) hO38 ?_
              try simp only [p0, p1, p2, p3]
              refine wd_ld (.int .i64 ((i : Nat) : Int)) rfl (some 162) (by kernel_rfl) (by kernel_rfl) (fun _ hw => by kernel_rfl) hO38 ?_
              try simp only [p0, p1, p2, p3]
              refine wd_ld (.pointer (some ⟨g24, i, none⟩)) rfl (some 163) (by kernel_rfl) (by kernel_rfl) (fun _ hw => p_idx0 Tryd.underlying89 (by kernel_rfl) i (by omega) rfl (by kernel_rfl) (by kernel_rfl) _) hO38 ?_
              try simp only [p0, p1, p2, p3]
              refine wd_ld (.int .u32 ((stepsW K (schW b 64) s 64) i)) rfl (some 164) (by kernel_rfl) (by kernel_rfl) (fun _ hw => run_cell (own_cell hw (.head _) i (by omega)) (by kernel_rfl) rfl (by kernel_rfl)) hO38 ?_
              try simp only [p0, p1, p2, p3]
              refine wd_ld (.int .u32 (ia .u32 ((sumW s (stepsW K (schW b 64) s 64) i) i) ((stepsW K (schW b 64) s 64) i))) rfl (some 165) (by kernel_rfl) (by kernel_rfl) (fun _ hw => by kernel_rfl) hO38 ?_
              try simp only [p0, p1, p2, p3]
              refine wd_ld (.pointer (some ⟨g1, i, none⟩)) rfl (some 166) (by kernel_rfl) (by kernel_rfl) (fun _ hw => p_idx0 Tryd.underlying89 (by kernel_rfl) i (by omega) rfl (by kernel_rfl) (by kernel_rfl) _) hO38 ?_
              try simp only [p0, p1, p2, p3]
              refine wd_runx rfl none (by kernel_rfl) rfl (r_st (L1 := [(g24, 89, (aF .u32 8 (stepsW K (schW b 64) s 64))), (g3, 124, (aF .u32 64 (schW b 64))), (g2, 89, (aF .u32 8 zF))]) (L2 := ([])) (f := (sumW s (stepsW K (schW b 64) s 64) i)) (n := 8) i (ia .u32 ((sumW s (stepsW K (schW b 64) s 64) i) i) ((stepsW K (schW b 64) s 64) i)) (by omega) rfl (by kernel_rfl) (by kernel_rfl) hO38 (by kernel_rfl)) fun _ w39 hO39 => ?_
              clear hO38
              try simp only [List.nil_append, List.cons_append] at hO39
              try simp only [p0, p1, p2, p3]
              refine wd_nil ?_
              show Code.wp _ _ _ _ _
              refine wl_region ?_
              refine wl_pure (.int .i64 ((i + 1 : Nat) : Int)) rfl (n_add (k := .i64) rfl i 1 (by omega) rfl (by kernel_rfl) (by kernel_rfl) _) ?_
              try simp only [p0, p1, p2, p3]
              refine wl_pure (.int .i64 ((i + 1 : Nat) : Int)) rfl (by kernel_rfl) ?_
              try simp only [p0, p1, p2, p3]
              refine wl_nil ?_
              try simp only [Exit.then, Exit.inBlock]
              go_roundw
              case rel => exact ⟨i + 1, by omega, rfl, hO39⟩
              case measure => simp [intOf]; omega
            · have hm37' := hm37
              obtain rfl : i = 8 := by omega
              refine wp_seq ?_
              refine wl_region ?_
              refine wl_pure (.bool false) rfl (by kernel_rfl) ?_
              try simp only [p0, p1, p2, p3]
              refine wl_nil ?_
              show Code.wp _ _ _ _ _
              refine wp_seq ?_
              refine wp_cond_false rfl ?_
              refine wp_exit ?_
              simp only [Exit.then, Exit.inBlock, if_true]
              show Code.wp _ _ _ _ _
              refine wp_seq ?_
              refine wl_region ?_
              refine wl_pure (.agg (aF .u32 8 (sumW s (stepsW K (schW b 64) s 64) 8))) rfl (run_row (hO37.get (.tail _ (.tail _ (.tail _ (.head _))))) Tryd.underlying89 rfl (by kernel_rfl) rfl (by kernel_rfl)) ?_
              try simp only [p0, p1, p2, p3]
              refine wl_runs rfl (r_row (L1 := [(g24, 89, (aF .u32 8 (stepsW K (schW b 64) s 64))), (g3, 124, (aF .u32 64 (schW b 64)))]) (L2 := ((g1, 89, (aF .u32 8 (sumW s (stepsW K (schW b 64) s 64) 8))) :: [])) (cs := (aF .u32 8 zF)) (aF .u32 8 (sumW s (stepsW K (schW b 64) s 64) 8)) rfl (by kernel_rfl) (by kernel_rfl) hO37 (by simp only [size_aF]) (by kernel_rfl) (one_aF _ _ _)) fun _ w40 hO40 => ?_
              clear hO37
              try simp only [List.nil_append, List.cons_append] at hO40
              try simp only [p0, p1, p2, p3]
              refine wl_nil ?_
              show Code.wp _ _ _ _ _
              refine wp_ret ?_
              refine bodyPost_ret (results_cell_row rfl _ _ g2 89 (aF .u32 8 (sumW s (stepsW K (schW b 64) s 64) 8)) (0, 0) _ rfl (hO40.get (.tail _ (.tail _ (.head _)))) Tryd.underlying89 rfl (by kernel_rfl)) rfl ?_
              exact ⟨rfl, hO40.bl⟩
end Go.Proofs.YtkmgdpbmkbpkjaaDoor
