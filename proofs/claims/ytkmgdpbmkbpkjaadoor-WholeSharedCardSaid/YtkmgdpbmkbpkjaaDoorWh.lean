/-
  Bytes as words: stream's and tag's.
-/
import Derived.Test.YtkmgdpbmkbpkjaaDoorWg
set_option linter.unusedVariables false
set_option linter.unusedSimpArgs false
namespace Go.Proofs.YtkmgdpbmkbpkjaaDoor
open Go.RowKit

/-- Four bytes, the lowest first. -/
def le4 (f : Nat → Int) : Int := ior .u32 (ior .u32 (ior .u32 (cv .u32 (f 0)) (ishl .u32 (cv .u32 (f 1)) 8)) (ishl .u32 (cv .u32 (f 2)) 16)) (ishl .u32 (cv .u32 (f 3)) 24)
set_option maxRecDepth 100000 in
set_option maxHeartbeats 4000000 in
theorem word4_any {g o n c : Nat} {f : Nat → Int} {w : World} (hR : RdC w .u8 g o n f) (hn : 4 ≤ n) : Ret Tryd.prog 61 #[.slice (some ⟨g, o, none⟩) n c] w (.int .u32 (le4 f)) := by
  unfold Ret
  refine calls_of_wp Tryd.func61 rfl ?_
  simp only [Tryd.ntmps61, List.size_toArray, List.length_cons, List.length_nil, Nat.reduceAdd, Nat.reduceSub, Array.replicate_succ, Array.replicate_zero, List.push_toArray, List.append_toArray, List.nil_append, List.cons_append]
  have hO := Own.nil w
  refine wp_seq ?_
  refine wl_region ?_
  refine wl_pure (.int .u32 0) rfl (by kernel_rfl) ?_
  try simp only [p0, p1, p2, p3]
  refine wl_nil ?_
  show Code.wp _ _ _ _ _
  refine wp_seq ?_
  refine wd_region [] (Tr.ofList [(0, 1), (1, 1), (2, 1), (3, 1), (4, 1), (5, 1), (6, 1), (7, 1), (8, 1), (9, 1), (10, 1), (11, 1), (12, 1), (13, 1), (14, 1), (15, 1), (16, 1), (17, 1), (18, 1), (19, 1), (20, 1), (21, 1), (22, 1)] .nil) (by decide) (by kernel_rfl) (by kernel_rfl) hO fun w1 hO1 => ?_
  simp only [Tr.ofList]
  try clear hO
  refine wd_ld (.slice (some ⟨g, o, none⟩) n c) rfl (some 3) (by kernel_rfl) (by kernel_rfl) (fun _ hw => by kernel_rfl) hO1 ?_
  try simp only [p0, p1, p2, p3]
  refine wd_ld (.pointer (some ⟨g, o + 0, none⟩)) rfl (some 4) (by kernel_rfl) (by kernel_rfl) (fun _ hw => s_idx (n := n) (c := c) Tryd.underlying23 (by kernel_rfl) 0 (by omega) rfl (by kernel_rfl) (by kernel_rfl) _) hO1 ?_
  try simp only [p0, p1, p2, p3]
  refine wd_ld (.int .u8 (f 0)) rfl (some 5) (by kernel_rfl) (by kernel_rfl) (fun _ hw => run_cell ((hR.below hw.bl) 0 (by omega)) (by kernel_rfl) rfl (by kernel_rfl)) hO1 ?_
  try simp only [p0, p1, p2, p3]
  refine wd_ld (.int .u32 (cv .u32 (f 0))) rfl (some 6) (by kernel_rfl) (by kernel_rfl) (fun _ hw => by kernel_rfl) hO1 ?_
  try simp only [p0, p1, p2, p3]
  refine wd_ld (.slice (some ⟨g, o, none⟩) n c) rfl (some 7) (by kernel_rfl) (by kernel_rfl) (fun _ hw => by kernel_rfl) hO1 ?_
  try simp only [p0, p1, p2, p3]
  refine wd_ld (.pointer (some ⟨g, o + 1, none⟩)) rfl (some 8) (by kernel_rfl) (by kernel_rfl) (fun _ hw => s_idx (n := n) (c := c) Tryd.underlying23 (by kernel_rfl) 1 (by omega) rfl (by kernel_rfl) (by kernel_rfl) _) hO1 ?_
  try simp only [p0, p1, p2, p3]
  refine wd_ld (.int .u8 (f 1)) rfl (some 9) (by kernel_rfl) (by kernel_rfl) (fun _ hw => run_cell ((hR.below hw.bl) 1 (by omega)) (by kernel_rfl) rfl (by kernel_rfl)) hO1 ?_
  try simp only [p0, p1, p2, p3]
  refine wd_ld (.int .u32 (cv .u32 (f 1))) rfl (some 10) (by kernel_rfl) (by kernel_rfl) (fun _ hw => by kernel_rfl) hO1 ?_
  try simp only [p0, p1, p2, p3]
  refine wd_ld (.int .u32 (ishl .u32 (cv .u32 (f 1)) 8)) rfl (some 11) (by kernel_rfl) (by kernel_rfl) (fun _ hw => by kernel_rfl) hO1 ?_
  try simp only [p0, p1, p2, p3]
  refine wd_ld (.int .u32 (ior .u32 (cv .u32 (f 0)) (ishl .u32 (cv .u32 (f 1)) 8))) rfl (some 12) (by kernel_rfl) (by kernel_rfl) (fun _ hw => by kernel_rfl) hO1 ?_
  try simp only [p0, p1, p2, p3]
  refine wd_ld (.slice (some ⟨g, o, none⟩) n c) rfl (some 13) (by kernel_rfl) (by kernel_rfl) (fun _ hw => by kernel_rfl) hO1 ?_
  try simp only [p0, p1, p2, p3]
  refine wd_ld (.pointer (some ⟨g, o + 2, none⟩)) rfl (some 14) (by kernel_rfl) (by kernel_rfl) (fun _ hw => s_idx (n := n) (c := c) Tryd.underlying23 (by kernel_rfl) 2 (by omega) rfl (by kernel_rfl) (by kernel_rfl) _) hO1 ?_
  try simp only [p0, p1, p2, p3]
  refine wd_ld (.int .u8 (f 2)) rfl (some 15) (by kernel_rfl) (by kernel_rfl) (fun _ hw => run_cell ((hR.below hw.bl) 2 (by omega)) (by kernel_rfl) rfl (by kernel_rfl)) hO1 ?_
  try simp only [p0, p1, p2, p3]
  refine wd_ld (.int .u32 (cv .u32 (f 2))) rfl (some 16) (by kernel_rfl) (by kernel_rfl) (fun _ hw => by kernel_rfl) hO1 ?_
  try simp only [p0, p1, p2, p3]
  refine wd_ld (.int .u32 (ishl .u32 (cv .u32 (f 2)) 16)) rfl (some 17) (by kernel_rfl) (by kernel_rfl) (fun _ hw => by kernel_rfl) hO1 ?_
  try simp only [p0, p1, p2, p3]
  refine wd_ld (.int .u32 (ior .u32 (ior .u32 (cv .u32 (f 0)) (ishl .u32 (cv .u32 (f 1)) 8)) (ishl .u32 (cv .u32 (f 2)) 16))) rfl (some 18) (by kernel_rfl) (by kernel_rfl) (fun _ hw => by kernel_rfl) hO1 ?_
  try simp only [p0, p1, p2, p3]
  refine wd_ld (.slice (some ⟨g, o, none⟩) n c) rfl (some 19) (by kernel_rfl) (by kernel_rfl) (fun _ hw => by kernel_rfl) hO1 ?_
  try simp only [p0, p1, p2, p3]
  refine wd_ld (.pointer (some ⟨g, o + 3, none⟩)) rfl (some 20) (by kernel_rfl) (by kernel_rfl) (fun _ hw => s_idx (n := n) (c := c) Tryd.underlying23 (by kernel_rfl) 3 (by omega) rfl (by kernel_rfl) (by kernel_rfl) _) hO1 ?_
  try simp only [p0, p1, p2, p3]
  refine wd_ld (.int .u8 (f 3)) rfl (some 21) (by kernel_rfl) (by kernel_rfl) (fun _ hw => run_cell ((hR.below hw.bl) 3 (by omega)) (by kernel_rfl) rfl (by kernel_rfl)) hO1 ?_
  try simp only [p0, p1, p2, p3]
  refine wd_ld (.int .u32 (cv .u32 (f 3))) rfl (some 22) (by kernel_rfl) (by kernel_rfl) (fun _ hw => by kernel_rfl) hO1 ?_
  try simp only [p0, p1, p2, p3]
  refine wd_ld (.int .u32 (ishl .u32 (cv .u32 (f 3)) 24)) rfl (some 23) (by kernel_rfl) (by kernel_rfl) (fun _ hw => by kernel_rfl) hO1 ?_
  try simp only [p0, p1, p2, p3]
  refine wd_ld (.int .u32 (ior .u32 (ior .u32 (ior .u32 (cv .u32 (f 0)) (ishl .u32 (cv .u32 (f 1)) 8)) (ishl .u32 (cv .u32 (f 2)) 16)) (ishl .u32 (cv .u32 (f 3)) 24))) rfl (some 24) (by kernel_rfl) (by kernel_rfl) (fun _ hw => by kernel_rfl) hO1 ?_
  try simp only [p0, p1, p2, p3]
  refine wd_ld (.int .u32 (ior .u32 (ior .u32 (ior .u32 (cv .u32 (f 0)) (ishl .u32 (cv .u32 (f 1)) 8)) (ishl .u32 (cv .u32 (f 2)) 16)) (ishl .u32 (cv .u32 (f 3)) 24))) rfl (some 2) (by kernel_rfl) (by kernel_rfl) (fun _ hw => by kernel_rfl) hO1 ?_
  try simp only [p0, p1, p2, p3]
  refine wd_nil ?_
  show Code.wp _ _ _ _ _
  refine wp_ret ?_
  refine bodyPost_ret (results_tmp rfl _ _ _) rfl ?_
  exact ⟨rfl, hO1.bl⟩
/-- Bytes, the lowest first. -/
def le8 (f : Nat → Int) : Nat → Int
  | 0 => 0
  | i + 1 => ior .u64 (le8 f i) (ishl .u64 (cv .u64 (f i)) (8 * i))
set_option maxRecDepth 100000 in
set_option maxHeartbeats 4000000 in
theorem word8_any {g o n c : Nat} {f : Nat → Int} {w : World} (hR : RdC w .u8 g o n f) (hn : 8 ≤ n) : Ret Tryd.prog 63 #[.slice (some ⟨g, o, none⟩) n c] w (.int .u64 (le8 f 8)) := by
  unfold Ret
  refine calls_of_wp Tryd.func63 rfl ?_
  simp only [Tryd.ntmps63, List.size_toArray, List.length_cons, List.length_nil, Nat.reduceAdd, Nat.reduceSub, Array.replicate_succ, Array.replicate_zero, List.push_toArray, List.append_toArray, List.nil_append, List.cons_append]
  have hO := Own.nil w
  refine wp_seq ?_
  refine wl_region ?_
  refine wl_pure (.int .u64 0) rfl (by kernel_rfl) ?_
  try simp only [p0, p1, p2, p3]
  refine wl_nil ?_
  show Code.wp _ _ _ _ _
  refine wp_seq ?_
  refine wl_region ?_
  refine wl_pure (.int .u64 0) rfl (by kernel_rfl) ?_
  try simp only [p0, p1, p2, p3]
  refine wl_nil ?_
  show Code.wp _ _ _ _ _
  refine wp_seq ?_
  refine wp_seq ?_
  refine wl_region ?_
  refine wl_pure (.int .i64 0) rfl (by kernel_rfl) ?_
  try simp only [p0, p1, p2, p3]
  refine wl_nil ?_
  show Code.wp _ _ _ _ _
  go_wp2_with fail
  go_loopw [3, 5] (fun v1_3 v1_5 wr1 => ∃ (i : Nat), i ≤ 8 ∧ v1_3 = .int .u64 (le8 f i) ∧ v1_5 = .int .i64 ((i : Nat) : Int) ∧ Own w ([]) wr1) (fun v1_3 v1_5 wr1 => 8 - (intOf v1_5).toNat)
  case atStart => exact ⟨0, by omega, rfl, rfl, hO⟩
  case round =>
    try clear hO
    obtain ⟨i, hf1_0, rfl, rfl, hO1⟩ := hrel
    by_cases hm1 : i < 8
    · have hm1' := hm1
      refine wp_seq ?_
      refine wl_region ?_
      refine wl_pure (.bool true) rfl (i_lss (k := .i64) ((i : Nat) : Int) 8 true (decide_eq_true (by omega)) rfl (by kernel_rfl) (by kernel_rfl) _) ?_
      try simp only [p0, p1, p2, p3]
      refine wl_nil ?_
      show Code.wp _ _ _ _ _
      refine wp_seq ?_
      refine wp_cond_true rfl ?_
      refine wp_skip ?_
      show Code.wp _ _ _ _ _
      refine wp_seq ?_
      refine wp_block ?_
      refine wp_seq ?_
      refine wl_region ?_
      refine wl_pure (.int .i64 ((i : Nat) : Int)) rfl (by kernel_rfl) ?_
      try simp only [p0, p1, p2, p3]
      refine wl_pure (.int .i64 ((i : Nat) : Int)) rfl (by kernel_rfl) ?_
      try simp only [p0, p1, p2, p3]
      refine wl_nil ?_
      show Code.wp _ _ _ _ _
      refine wl_region ?_
      refine wl_pure (.int .u64 (le8 f i)) rfl (by kernel_rfl) ?_
      try simp only [p0, p1, p2, p3]
      refine wl_pure (.slice (some ⟨g, o, none⟩) n c) rfl (by kernel_rfl) ?_
      try simp only [p0, p1, p2, p3]
      refine wl_pure (.int .i64 ((i : Nat) : Int)) rfl (by kernel_rfl) ?_
      try simp only [p0, p1, p2, p3]
      refine wl_pure (.pointer (some ⟨g, o + i, none⟩)) rfl (s_idx (n := n) (c := c) Tryd.underlying23 (by kernel_rfl) i (by omega) rfl (by kernel_rfl) (by kernel_rfl) _) ?_
      try simp only [p0, p1, p2, p3]
      refine wl_pure (.int .u8 (f i)) rfl (run_cell ((hR.below hO1.bl) i (by omega)) (by kernel_rfl) rfl (by kernel_rfl)) ?_
      try simp only [p0, p1, p2, p3]
      refine wl_pure (.int .u64 (cv .u64 (f i))) rfl (by kernel_rfl) ?_
      try simp only [p0, p1, p2, p3]
      refine wl_pure (.int .i64 ((i : Nat) : Int)) rfl (by kernel_rfl) ?_
      try simp only [p0, p1, p2, p3]
      refine wl_pure (.int .i64 ((8 * i : Nat) : Int)) rfl (n_mul (k := .i64) rfl 8 i (by omega) rfl (by kernel_rfl) (by kernel_rfl) _) ?_
      try simp only [p0, p1, p2, p3]
      refine wl_pure (.int .u64 (ishl .u64 (cv .u64 (f i)) (8 * i))) rfl (n_shl (k := .u64) (yk := .i64) (cv .u64 (f i)) (8 * i) (by simp only [IntKind.bits]; omega) rfl (by kernel_rfl) (by kernel_rfl) _) ?_
      try simp only [p0, p1, p2, p3]
      refine wl_pure (.int .u64 (ior .u64 (le8 f i) (ishl .u64 (cv .u64 (f i)) (8 * i)))) rfl (by kernel_rfl) ?_
      try simp only [p0, p1, p2, p3]
      refine wl_pure (.int .u64 (ior .u64 (le8 f i) (ishl .u64 (cv .u64 (f i)) (8 * i)))) rfl (by kernel_rfl) ?_
      try simp only [p0, p1, p2, p3]
      refine wl_nil ?_
      show Code.wp _ _ _ _ _
      refine wl_region ?_
      refine wl_pure (.int .i64 ((i + 1 : Nat) : Int)) rfl (n_add (k := .i64) rfl i 1 (by omega) rfl (by kernel_rfl) (by kernel_rfl) _) ?_
      try simp only [p0, p1, p2, p3]
      refine wl_pure (.int .i64 ((i + 1 : Nat) : Int)) rfl (by kernel_rfl) ?_
      try simp only [p0, p1, p2, p3]
      refine wl_nil ?_
      try simp only [Exit.then, Exit.inBlock]
      go_roundw
      case rel => exact ⟨i + 1, by omega, rfl, rfl, hO1⟩
      case measure => simp [intOf]; omega
    · have hm1' := hm1
      obtain rfl : i = 8 := by omega
      refine wp_seq ?_
      refine wl_region ?_
      refine wl_pure (.bool false) rfl (by kernel_rfl) ?_
      try simp only [p0, p1, p2, p3]
      refine wl_nil ?_
      show Code.wp _ _ _ _ _
      refine wp_seq ?_
      refine wp_cond_false rfl ?_
      refine wp_exit ?_
      simp only [Exit.then, Exit.inBlock, if_true]
      show Code.wp _ _ _ _ _
      refine wp_seq ?_
      refine wl_region ?_
      refine wl_pure (.int .u64 (le8 f 8)) rfl (by kernel_rfl) ?_
      try simp only [p0, p1, p2, p3]
      refine wl_pure (.int .u64 (le8 f 8)) rfl (by kernel_rfl) ?_
      try simp only [p0, p1, p2, p3]
      refine wl_nil ?_
      show Code.wp _ _ _ _ _
      refine wp_ret ?_
      refine bodyPost_ret (results_tmp rfl _ _ _) rfl ?_
      exact ⟨rfl, hO1.bl⟩
end Go.Proofs.YtkmgdpbmkbpkjaaDoor
