/-
  ChaCha20's block.
-/
import Derived.Test.YtkmgdpbmkbpkjaaDoorWj
set_option linter.unusedVariables false
set_option linter.unusedSimpArgs false
namespace Go.Proofs.YtkmgdpbmkbpkjaaDoor
open Go.RowKit

/-- The state's words: the key's, the nonce's. -/
def keyW (key : Nat → Int) (f : Nat → Int) : Nat → (Nat → Int)
  | 0 => f
  | i + 1 => upd (keyW key f i) (4 + i) (le4 (fun j => key (4 * i + j)))
def nonW (nonce : Nat → Int) (f : Nat → Int) : Nat → (Nat → Int)
  | 0 => f
  | i + 1 => upd (nonW nonce f i) (13 + i) (le4 (fun j => nonce (4 * i + j)))
def words (first key nonce : Nat → Int) (count : Int) : Nat → Int := nonW nonce (upd (keyW key (cpy zF 0 4 first) 8) 12 count) 3
/-- Two rounds. -/
def twoR (f : Nat → Int) : Nat → Int := qrt 3 4 9 14 (qrt 2 7 8 13 (qrt 1 6 11 12 (qrt 0 5 10 15 (qrt 3 7 11 15 (qrt 2 6 10 14 (qrt 1 5 9 13 (qrt 0 4 8 12 f)))))))
def itR (f : Nat → Int) : Nat → (Nat → Int)
  | 0 => f
  | i + 1 => twoR (itR f i)
/-- The block's bytes. -/
def outB (x w : Nat → Int) : Nat → (Nat → Int)
  | 0 => zF
  | i + 1 => upd (outB x w i) i (cv .u8 (ishr (ia .u32 (x (i / 4)) (w (i / 4))) (8 * (i % 4))))
def blk (first key nonce : Nat → Int) (count : Int) : Nat → Int := outB (itR (words first key nonce count) 10) (words first key nonce count) 64
set_option maxRecDepth 100000 in
set_option maxHeartbeats 4000000 in
theorem block_any {first key nonce : Nat → Int} {count : Int} {w : World} (hF : RdC w .u32 1 0 4 first) : Ret Tryd.prog 46 #[.agg (aF .u8 32 key), .agg (aF .u8 12 nonce), .int .u32 count] w (.agg (aF .u8 64 (blk first key nonce count))) := by
  unfold Ret
  refine calls_of_wp Tryd.func46 rfl ?_
  simp only [Tryd.ntmps46, List.size_toArray, List.length_cons, List.length_nil, Nat.reduceAdd, Nat.reduceSub, Array.replicate_succ, Array.replicate_zero, List.push_toArray, List.append_toArray, List.nil_append, List.cons_append]
  have hO := Own.nil w
  refine wp_seq ?_
  refine wl_region ?_
  refine wl_runs rfl (r_new 22 (aF .u8 32 key) (by kernel_rfl) hO) fun g1 w1 hO1 => ?_
  clear hO
  try simp only [List.nil_append, List.cons_append] at hO1
  try simp only [p0, p1, p2, p3]
  refine wl_runs rfl (r_new 50 (aF .u8 12 nonce) (by kernel_rfl) hO1) fun g2 w2 hO2 => ?_
  clear hO1
  try simp only [List.nil_append, List.cons_append] at hO2
  try simp only [p0, p1, p2, p3]
  refine wl_runs rfl (r_new 76 (aF .u8 64 zF) (by kernel_rfl) hO2) fun g3 w3 hO3 => ?_
  clear hO2
  try simp only [List.nil_append, List.cons_append] at hO3
  try simp only [p0, p1, p2, p3]
  refine wl_nil ?_
  show Code.wp _ _ _ _ _
  refine wp_seq ?_
  refine wl_region ?_
  refine wl_runs rfl (r_new 96 (aF .u32 16 zF) (by kernel_rfl) hO3) fun g4 w4 hO4 => ?_
  clear hO3
  try simp only [List.nil_append, List.cons_append] at hO4
  try simp only [p0, p1, p2, p3]
  refine wl_nil ?_
  show Code.wp _ _ _ _ _
  refine wp_seq ?_
  refine wd_region [2] (Tr.ofList [(0, 1), (1, 1), (2, 4)] .nil) (by decide) (by kernel_rfl) (by kernel_rfl) hO4 fun w5 hO5 => ?_
  simp only [Tr.ofList]
  try clear hO4
  refine wd_ld (.slice (some ⟨g4, 0, none⟩) 16 16) rfl (some 15) (by kernel_rfl) (by kernel_rfl) (fun _ hw => by kernel_rfl) hO5 ?_
  try simp only [p0, p1, p2, p3]
  refine wd_ld (.slice (some ⟨1, 0, none⟩) 4 4) rfl (some 16) (by kernel_rfl) (by kernel_rfl) (fun _ hw => by kernel_rfl) hO5 ?_
  try simp only [p0, p1, p2, p3]
  refine wd_runx rfl (some 17) (by kernel_rfl) rfl (r_copy (L1 := []) (L2 := ((g3, 76, (aF .u8 64 zF)) :: (g2, 50, (aF .u8 12 nonce)) :: (g1, 22, (aF .u8 32 key)) :: [])) (k := .u32) (f := zF) (n := 16) (d := 0) (m := 4) (s := first) (dL := 16) (dC := 16) (sL := 4) (sC := 4) (dT := 97) (sT := 97) (ty := 3) (hF.below hO5.bl) (by decide) (by decide) (by kernel_rfl) Tryd.underlying97 (by kernel_rfl) hO5) fun _ w6 hO6 => ?_
  clear hO5
  try simp only [List.nil_append, List.cons_append] at hO6
  try simp only [p0, p1, p2, p3]
  refine wd_nil ?_
  obtain ⟨F1, eF1⟩ : ∃ x : Nat → Int, x = (cpy zF 0 4 first) := ⟨_, rfl⟩
  rw [← eF1] at hO6
  show Code.wp _ _ _ _ _
  refine wp_seq ?_
  refine wp_seq ?_
  refine wl_region ?_
  refine wl_pure (.int .i64 0) rfl (by kernel_rfl) ?_
  try simp only [p0, p1, p2, p3]
  refine wl_nil ?_
  show Code.wp _ _ _ _ _
  refine wp_block ?_
  refine wp_loop_rounds 9 ?_
  rw [rounds_succ]
  refine wp_seq ?_
  refine wl_region ?_
  refine wl_pure (.bool true) rfl (by kernel_rfl) ?_
  try simp only [p0, p1, p2, p3]
  refine wl_nil ?_
  show Code.wp _ _ _ _ _
  refine wp_seq ?_
  refine wp_cond_true rfl ?_
  refine wp_skip ?_
  show Code.wp _ _ _ _ _
  refine wp_seq ?_
  refine wp_block ?_
  refine wp_seq ?_
  refine wl_region ?_
  refine wl_pure (.int .i64 0) rfl (by kernel_rfl) ?_
  try simp only [p0, p1, p2, p3]
  refine wl_pure (.int .i64 0) rfl (by kernel_rfl) ?_
  try simp only [p0, p1, p2, p3]
  refine wl_nil ?_
  show Code.wp _ _ _ _ _
  refine wl_region ?_
  refine wl_pure (.int .i64 0) rfl (by kernel_rfl) ?_
  try simp only [p0, p1, p2, p3]
  refine wl_pure (.int .i64 4) rfl (by kernel_rfl) ?_
  try simp only [p0, p1, p2, p3]
  refine wl_pure (.int .i64 0) rfl (by kernel_rfl) ?_
  try simp only [p0, p1, p2, p3]
  refine wl_pure (.int .i64 0) rfl (by kernel_rfl) ?_
  try simp only [p0, p1, p2, p3]
  refine wl_pure (.slice (some ⟨g1, 0, none⟩) 32 32) rfl (by kernel_rfl) ?_
  try simp only [p0, p1, p2, p3]
  refine wl_runs rfl (r_call (args := #[.slice (some ⟨g1, 0, none⟩) 32 32]) (u := .int .u32 (le4 key)) (by kernel_rfl) (word4_any (rdc_own1 hO6 (.tail _ (.tail _ (.tail _ (.head _)))) 32 (by decide)) (by decide)) hO6) fun _ w7 hO7 => ?_
  clear hO6
  try simp only [List.nil_append, List.cons_append] at hO7
  try simp only [p0, p1, p2, p3]
  refine wl_pure (.pointer (some ⟨g4, 4, none⟩)) rfl (by kernel_rfl) ?_
  try simp only [p0, p1, p2, p3]
  refine wl_runs rfl (r_st (L1 := []) (L2 := ((g3, 76, (aF .u8 64 zF)) :: (g2, 50, (aF .u8 12 nonce)) :: (g1, 22, (aF .u8 32 key)) :: [])) (f := F1) (n := 16) 4 (le4 key) (by decide) rfl (by kernel_rfl) (by kernel_rfl) hO7 (by kernel_rfl)) fun _ w8 hO8 => ?_
  clear hO7
  try simp only [List.nil_append, List.cons_append] at hO8
  try simp only [p0, p1, p2, p3]
  refine wl_nil ?_
  obtain ⟨F2, eF2⟩ : ∃ x : Nat → Int, x = (upd F1 4 (le4 key)) := ⟨_, rfl⟩
  rw [← eF2] at hO8
  show Code.wp _ _ _ _ _
  refine wl_region ?_
  refine wl_pure (.int .i64 1) rfl (by kernel_rfl) ?_
  try simp only [p0, p1, p2, p3]
  refine wl_pure (.int .i64 1) rfl (by kernel_rfl) ?_
  try simp only [p0, p1, p2, p3]
  refine wl_nil ?_
  show Code.rounds _ _ _ _ _ _
  rw [rounds_succ]
  refine wp_seq ?_
  refine wl_region ?_
  refine wl_pure (.bool true) rfl (by kernel_rfl) ?_
  try simp only [p0, p1, p2, p3]
  refine wl_nil ?_
  show Code.wp _ _ _ _ _
  refine wp_seq ?_
  refine wp_cond_true rfl ?_
  refine wp_skip ?_
  show Code.wp _ _ _ _ _
  refine wp_seq ?_
  refine wp_block ?_
  refine wp_seq ?_
  refine wl_region ?_
  refine wl_pure (.int .i64 1) rfl (by kernel_rfl) ?_
  try simp only [p0, p1, p2, p3]
  refine wl_pure (.int .i64 1) rfl (by kernel_rfl) ?_
  try simp only [p0, p1, p2, p3]
  refine wl_nil ?_
  show Code.wp _ _ _ _ _
  refine wl_region ?_
  refine wl_pure (.int .i64 1) rfl (by kernel_rfl) ?_
  try simp only [p0, p1, p2, p3]
  refine wl_pure (.int .i64 5) rfl (by kernel_rfl) ?_
  try simp only [p0, p1, p2, p3]
  refine wl_pure (.int .i64 1) rfl (by kernel_rfl) ?_
  try simp only [p0, p1, p2, p3]
  refine wl_pure (.int .i64 4) rfl (by kernel_rfl) ?_
  try simp only [p0, p1, p2, p3]
  refine wl_pure (.slice (some ⟨g1, 4, none⟩) 28 28) rfl (by kernel_rfl) ?_
  try simp only [p0, p1, p2, p3]
  refine wl_runs rfl (r_call (args := #[.slice (some ⟨g1, 4, none⟩) 28 28]) (u := .int .u32 (le4 (fun zz => key (4 + zz)))) (by kernel_rfl) (word4_any (rdc_own hO8 (.tail _ (.tail _ (.tail _ (.head _)))) 4 28 (by decide)) (by decide)) hO8) fun _ w9 hO9 => ?_
  clear hO8
  try simp only [List.nil_append, List.cons_append] at hO9
  try simp only [p0, p1, p2, p3]
  refine wl_pure (.pointer (some ⟨g4, 5, none⟩)) rfl (by kernel_rfl) ?_
  try simp only [p0, p1, p2, p3]
  refine wl_runs rfl (r_st (L1 := []) (L2 := ((g3, 76, (aF .u8 64 zF)) :: (g2, 50, (aF .u8 12 nonce)) :: (g1, 22, (aF .u8 32 key)) :: [])) (f := F2) (n := 16) 5 (le4 (fun zz => key (4 + zz))) (by decide) rfl (by kernel_rfl) (by kernel_rfl) hO9 (by kernel_rfl)) fun _ w10 hO10 => ?_
  clear hO9
  try simp only [List.nil_append, List.cons_append] at hO10
  try simp only [p0, p1, p2, p3]
  refine wl_nil ?_
  obtain ⟨F3, eF3⟩ : ∃ x : Nat → Int, x = (upd F2 5 (le4 (fun zz => key (4 + zz)))) := ⟨_, rfl⟩
  rw [← eF3] at hO10
  show Code.wp _ _ _ _ _
  refine wl_region ?_
  refine wl_pure (.int .i64 2) rfl (by kernel_rfl) ?_
  try simp only [p0, p1, p2, p3]
  refine wl_pure (.int .i64 2) rfl (by kernel_rfl) ?_
  try simp only [p0, p1, p2, p3]
  refine wl_nil ?_
  show Code.rounds _ _ _ _ _ _
  rw [rounds_succ]
  refine wp_seq ?_
  refine wl_region ?_
  refine wl_pure (.bool true) rfl (by kernel_rfl) ?_
  try simp only [p0, p1, p2, p3]
  refine wl_nil ?_
  show Code.wp _ _ _ _ _
  refine wp_seq ?_
  refine wp_cond_true rfl ?_
  refine wp_skip ?_
  show Code.wp _ _ _ _ _
  refine wp_seq ?_
  refine wp_block ?_
  refine wp_seq ?_
  refine wl_region ?_
  refine wl_pure (.int .i64 2) rfl (by kernel_rfl) ?_
  try simp only [p0, p1, p2, p3]
  refine wl_pure (.int .i64 2) rfl (by kernel_rfl) ?_
  try simp only [p0, p1, p2, p3]
  refine wl_nil ?_
  show Code.wp _ _ _ _ _
  refine wl_region ?_
  refine wl_pure (.int .i64 2) rfl (by kernel_rfl) ?_
  try simp only [p0, p1, p2, p3]
  refine wl_pure (.int .i64 6) rfl (by kernel_rfl) ?_
  try simp only [p0, p1, p2, p3]
  refine wl_pure (.int .i64 2) rfl (by kernel_rfl) ?_
  try simp only [p0, p1, p2, p3]
  refine wl_pure (.int .i64 8) rfl (by kernel_rfl) ?_
  try simp only [p0, p1, p2, p3]
  refine wl_pure (.slice (some ⟨g1, 8, none⟩) 24 24) rfl (by kernel_rfl) ?_
  try simp only [p0, p1, p2, p3]
  refine wl_runs rfl (r_call (args := #[.slice (some ⟨g1, 8, none⟩) 24 24]) (u := .int .u32 (le4 (fun zz => key (8 + zz)))) (by kernel_rfl) (word4_any (rdc_own hO10 (.tail _ (.tail _ (.tail _ (.head _)))) 8 24 (by decide)) (by decide)) hO10) fun _ w11 hO11 => ?_
  clear hO10
  try simp only [List.nil_append, List.cons_append] at hO11
  try simp only [p0, p1, p2, p3]
  refine wl_pure (.pointer (some ⟨g4, 6, none⟩)) rfl (by kernel_rfl) ?_
  try simp only [p0, p1, p2, p3]
  refine wl_runs rfl (r_st (L1 := []) (L2 := ((g3, 76, (aF .u8 64 zF)) :: (g2, 50, (aF .u8 12 nonce)) :: (g1, 22, (aF .u8 32 key)) :: [])) (f := F3) (n := 16) 6 (le4 (fun zz => key (8 + zz))) (by decide) rfl (by kernel_rfl) (by kernel_rfl) hO11 (by kernel_rfl)) fun _ w12 hO12 => ?_
  clear hO11
  try simp only [List.nil_append, List.cons_append] at hO12
  try simp only [p0, p1, p2, p3]
  refine wl_nil ?_
  obtain ⟨F4, eF4⟩ : ∃ x : Nat → Int, x = (upd F3 6 (le4 (fun zz => key (8 + zz)))) := ⟨_, rfl⟩
  rw [← eF4] at hO12
  show Code.wp _ _ _ _ _
  refine wl_region ?_
  refine wl_pure (.int .i64 3) rfl (by kernel_rfl) ?_
  try simp only [p0, p1, p2, p3]
  refine wl_pure (.int .i64 3) rfl (by kernel_rfl) ?_
  try simp only [p0, p1, p2, p3]
  refine wl_nil ?_
  show Code.rounds _ _ _ _ _ _
  rw [rounds_succ]
  refine wp_seq ?_
  refine wl_region ?_
  refine wl_pure (.bool true) rfl (by kernel_rfl) ?_
  try simp only [p0, p1, p2, p3]
  refine wl_nil ?_
  show Code.wp _ _ _ _ _
  refine wp_seq ?_
  refine wp_cond_true rfl ?_
  refine wp_skip ?_
  show Code.wp _ _ _ _ _
  refine wp_seq ?_
  refine wp_block ?_
  refine wp_seq ?_
  refine wl_region ?_
  refine wl_pure (.int .i64 3) rfl (by kernel_rfl) ?_
  try simp only [p0, p1, p2, p3]
  refine wl_pure (.int .i64 3) rfl (by kernel_rfl) ?_
  try simp only [p0, p1, p2, p3]
  refine wl_nil ?_
  show Code.wp _ _ _ _ _
  refine wl_region ?_
  refine wl_pure (.int .i64 3) rfl (by kernel_rfl) ?_
  try simp only [p0, p1, p2, p3]
  refine wl_pure (.int .i64 7) rfl (by kernel_rfl) ?_
  try simp only [p0, p1, p2, p3]
  refine wl_pure (.int .i64 3) rfl (by kernel_rfl) ?_
  try simp only [p0, p1, p2, p3]
  refine wl_pure (.int .i64 12) rfl (by kernel_rfl) ?_
  try simp only [p0, p1, p2, p3]
  refine wl_pure (.slice (some ⟨g1, 12, none⟩) 20 20) rfl (by kernel_rfl) ?_
  try simp only [p0, p1, p2, p3]
  refine wl_runs rfl (r_call (args := #[.slice (some ⟨g1, 12, none⟩) 20 20]) (u := .int .u32 (le4 (fun zz => key (12 + zz)))) (by kernel_rfl) (word4_any (rdc_own hO12 (.tail _ (.tail _ (.tail _ (.head _)))) 12 20 (by decide)) (by decide)) hO12) fun _ w13 hO13 => ?_
  clear hO12
  try simp only [List.nil_append, List.cons_append] at hO13
  try simp only [p0, p1, p2, p3]
  refine wl_pure (.pointer (some ⟨g4, 7, none⟩)) rfl (by kernel_rfl) ?_
  try simp only [p0, p1, p2, p3]
  refine wl_runs rfl (r_st (L1 := []) (L2 := ((g3, 76, (aF .u8 64 zF)) :: (g2, 50, (aF .u8 12 nonce)) :: (g1, 22, (aF .u8 32 key)) :: [])) (f := F4) (n := 16) 7 (le4 (fun zz => key (12 + zz))) (by decide) rfl (by kernel_rfl) (by kernel_rfl) hO13 (by kernel_rfl)) fun _ w14 hO14 => ?_
  clear hO13
  try simp only [List.nil_append, List.cons_append] at hO14
  try simp only [p0, p1, p2, p3]
  refine wl_nil ?_
  obtain ⟨F5, eF5⟩ : ∃ x : Nat → Int, x = (upd F4 7 (le4 (fun zz => key (12 + zz)))) := ⟨_, rfl⟩
  rw [← eF5] at hO14
  show Code.wp _ _ _ _ _
  refine wl_region ?_
  refine wl_pure (.int .i64 4) rfl (by kernel_rfl) ?_
  try simp only [p0, p1, p2, p3]
  refine wl_pure (.int .i64 4) rfl (by kernel_rfl) ?_
  try simp only [p0, p1, p2, p3]
  refine wl_nil ?_
  show Code.rounds _ _ _ _ _ _
  rw [rounds_succ]
  refine wp_seq ?_
  refine wl_region ?_
  refine wl_pure (.bool true) rfl (by kernel_rfl) ?_
  try simp only [p0, p1, p2, p3]
  refine wl_nil ?_
  show Code.wp _ _ _ _ _
  refine wp_seq ?_
  refine wp_cond_true rfl ?_
  refine wp_skip ?_
  show Code.wp _ _ _ _ _
  refine wp_seq ?_
  refine wp_block ?_
  refine wp_seq ?_
  refine wl_region ?_
  refine wl_pure (.int .i64 4) rfl (by kernel_rfl) ?_
  try simp only [p0, p1, p2, p3]
  refine wl_pure (.int .i64 4) rfl (by kernel_rfl) ?_
  try simp only [p0, p1, p2, p3]
  refine wl_nil ?_
  show Code.wp _ _ _ _ _
  refine wl_region ?_
  refine wl_pure (.int .i64 4) rfl (by kernel_rfl) ?_
  try simp only [p0, p1, p2, p3]
  refine wl_pure (.int .i64 8) rfl (by kernel_rfl) ?_
  try simp only [p0, p1, p2, p3]
  refine wl_pure (.int .i64 4) rfl (by kernel_rfl) ?_
  try simp only [p0, p1, p2, p3]
  refine wl_pure (.int .i64 16) rfl (by kernel_rfl) ?_
  try simp only [p0, p1, p2, p3]
  refine wl_pure (.slice (some ⟨g1, 16, none⟩) 16 16) rfl (by kernel_rfl) ?_
  try simp only [p0, p1, p2, p3]
  refine wl_runs rfl (r_call (args := #[.slice (some ⟨g1, 16, none⟩) 16 16]) (u := .int .u32 (le4 (fun zz => key (16 + zz)))) (by kernel_rfl) (word4_any (rdc_own hO14 (.tail _ (.tail _ (.tail _ (.head _)))) 16 16 (by decide)) (by decide)) hO14) fun _ w15 hO15 => ?_
  clear hO14
  try simp only [List.nil_append, List.cons_append] at hO15
  try simp only [p0, p1, p2, p3]
  refine wl_pure (.pointer (some ⟨g4, 8, none⟩)) rfl (by kernel_rfl) ?_
  try simp only [p0, p1, p2, p3]
  refine wl_runs rfl (r_st (L1 := []) (L2 := ((g3, 76, (aF .u8 64 zF)) :: (g2, 50, (aF .u8 12 nonce)) :: (g1, 22, (aF .u8 32 key)) :: [])) (f := F5) (n := 16) 8 (le4 (fun zz => key (16 + zz))) (by decide) rfl (by kernel_rfl) (by kernel_rfl) hO15 (by kernel_rfl)) fun _ w16 hO16 => ?_
  clear hO15
  try simp only [List.nil_append, List.cons_append] at hO16
  try simp only [p0, p1, p2, p3]
  refine wl_nil ?_
  obtain ⟨F6, eF6⟩ : ∃ x : Nat → Int, x = (upd F5 8 (le4 (fun zz => key (16 + zz)))) := ⟨_, rfl⟩
  rw [← eF6] at hO16
  show Code.wp _ _ _ _ _
  refine wl_region ?_
  refine wl_pure (.int .i64 5) rfl (by kernel_rfl) ?_
  try simp only [p0, p1, p2, p3]
  refine wl_pure (.int .i64 5) rfl (by kernel_rfl) ?_
  try simp only [p0, p1, p2, p3]
  refine wl_nil ?_
  show Code.rounds _ _ _ _ _ _
  rw [rounds_succ]
  refine wp_seq ?_
  refine wl_region ?_
  refine wl_pure (.bool true) rfl (by kernel_rfl) ?_
  try simp only [p0, p1, p2, p3]
  refine wl_nil ?_
  show Code.wp _ _ _ _ _
  refine wp_seq ?_
  refine wp_cond_true rfl ?_
  refine wp_skip ?_
  show Code.wp _ _ _ _ _
  refine wp_seq ?_
  refine wp_block ?_
  refine wp_seq ?_
  refine wl_region ?_
  refine wl_pure (.int .i64 5) rfl (by kernel_rfl) ?_
  try simp only [p0, p1, p2, p3]
  refine wl_pure (.int .i64 5) rfl (by kernel_rfl) ?_
  try simp only [p0, p1, p2, p3]
  refine wl_nil ?_
  show Code.wp _ _ _ _ _
  refine wl_region ?_
  refine wl_pure (.int .i64 5) rfl (by kernel_rfl) ?_
  try simp only [p0, p1, p2, p3]
  refine wl_pure (.int .i64 9) rfl (by kernel_rfl) ?_
  try simp only [p0, p1, p2, p3]
  refine wl_pure (.int .i64 5) rfl (by kernel_rfl) ?_
  try simp only [p0, p1, p2, p3]
  refine wl_pure (.int .i64 20) rfl (by kernel_rfl) ?_
  try simp only [p0, p1, p2, p3]
  refine wl_pure (.slice (some ⟨g1, 20, none⟩) 12 12) rfl (by kernel_rfl) ?_
  try simp only [p0, p1, p2, p3]
  refine wl_runs rfl (r_call (args := #[.slice (some ⟨g1, 20, none⟩) 12 12]) (u := .int .u32 (le4 (fun zz => key (20 + zz)))) (by kernel_rfl) (word4_any (rdc_own hO16 (.tail _ (.tail _ (.tail _ (.head _)))) 20 12 (by decide)) (by decide)) hO16) fun _ w17 hO17 => ?_
  clear hO16
  try simp only [List.nil_append, List.cons_append] at hO17
  try simp only [p0, p1, p2, p3]
  refine wl_pure (.pointer (some ⟨g4, 9, none⟩)) rfl (by kernel_rfl) ?_
  try simp only [p0, p1, p2, p3]
  refine wl_runs rfl (r_st (L1 := []) (L2 := ((g3, 76, (aF .u8 64 zF)) :: (g2, 50, (aF .u8 12 nonce)) :: (g1, 22, (aF .u8 32 key)) :: [])) (f := F6) (n := 16) 9 (le4 (fun zz => key (20 + zz))) (by decide) rfl (by kernel_rfl) (by kernel_rfl) hO17 (by kernel_rfl)) fun _ w18 hO18 => ?_
  clear hO17
  try simp only [List.nil_append, List.cons_append] at hO18
  try simp only [p0, p1, p2, p3]
  refine wl_nil ?_
  obtain ⟨F7, eF7⟩ : ∃ x : Nat → Int, x = (upd F6 9 (le4 (fun zz => key (20 + zz)))) := ⟨_, rfl⟩
  rw [← eF7] at hO18
  show Code.wp _ _ _ _ _
  refine wl_region ?_
  refine wl_pure (.int .i64 6) rfl (by kernel_rfl) ?_
  try simp only [p0, p1, p2, p3]
  refine wl_pure (.int .i64 6) rfl (by kernel_rfl) ?_
  try simp only [p0, p1, p2, p3]
  refine wl_nil ?_
  show Code.rounds _ _ _ _ _ _
  rw [rounds_succ]
  refine wp_seq ?_
  refine wl_region ?_
  refine wl_pure (.bool true) rfl (by kernel_rfl) ?_
  try simp only [p0, p1, p2, p3]
  refine wl_nil ?_
  show Code.wp _ _ _ _ _
  refine wp_seq ?_
  refine wp_cond_true rfl ?_
  refine wp_skip ?_
  show Code.wp _ _ _ _ _
  refine wp_seq ?_
  refine wp_block ?_
  refine wp_seq ?_
  refine wl_region ?_
  refine wl_pure (.int .i64 6) rfl (by kernel_rfl) ?_
  try simp only [p0, p1, p2, p3]
  refine wl_pure (.int .i64 6) rfl (by kernel_rfl) ?_
  try simp only [p0, p1, p2, p3]
  refine wl_nil ?_
  show Code.wp _ _ _ _ _
  refine wl_region ?_
  refine wl_pure (.int .i64 6) rfl (by kernel_rfl) ?_
  try simp only [p0, p1, p2, p3]
  refine wl_pure (.int .i64 10) rfl (by kernel_rfl) ?_
  try simp only [p0, p1, p2, p3]
  refine wl_pure (.int .i64 6) rfl (by kernel_rfl) ?_
  try simp only [p0, p1, p2, p3]
  refine wl_pure (.int .i64 24) rfl (by kernel_rfl) ?_
  try simp only [p0, p1, p2, p3]
  refine wl_pure (.slice (some ⟨g1, 24, none⟩) 8 8) rfl (by kernel_rfl) ?_
  try simp only [p0, p1, p2, p3]
  refine wl_runs rfl (r_call (args := #[.slice (some ⟨g1, 24, none⟩) 8 8]) (u := .int .u32 (le4 (fun zz => key (24 + zz)))) (by kernel_rfl) (word4_any (rdc_own hO18 (.tail _ (.tail _ (.tail _ (.head _)))) 24 8 (by decide)) (by decide)) hO18) fun _ w19 hO19 => ?_
  clear hO18
  try simp only [List.nil_append, List.cons_append] at hO19
  try simp only [p0, p1, p2, p3]
  refine wl_pure (.pointer (some ⟨g4, 10, none⟩)) rfl (by kernel_rfl) ?_
  try simp only [p0, p1, p2, p3]
  refine wl_runs rfl (r_st (L1 := []) (L2 := ((g3, 76, (aF .u8 64 zF)) :: (g2, 50, (aF .u8 12 nonce)) :: (g1, 22, (aF .u8 32 key)) :: [])) (f := F7) (n := 16) 10 (le4 (fun zz => key (24 + zz))) (by decide) rfl (by kernel_rfl) (by kernel_rfl) hO19 (by kernel_rfl)) fun _ w20 hO20 => ?_
  clear hO19
  try simp only [List.nil_append, List.cons_append] at hO20
  try simp only [p0, p1, p2, p3]
  refine wl_nil ?_
  obtain ⟨F8, eF8⟩ : ∃ x : Nat → Int, x = (upd F7 10 (le4 (fun zz => key (24 + zz)))) := ⟨_, rfl⟩
  rw [← eF8] at hO20
  show Code.wp _ _ _ _ _
  refine wl_region ?_
  refine wl_pure (.int .i64 7) rfl (by kernel_rfl) ?_
  try simp only [p0, p1, p2, p3]
  refine wl_pure (.int .i64 7) rfl (by kernel_rfl) ?_
  try simp only [p0, p1, p2, p3]
  refine wl_nil ?_
  show Code.rounds _ _ _ _ _ _
  rw [rounds_succ]
  refine wp_seq ?_
  refine wl_region ?_
  refine wl_pure (.bool true) rfl (by kernel_rfl) ?_
  try simp only [p0, p1, p2, p3]
  refine wl_nil ?_
  show Code.wp _ _ _ _ _
  refine wp_seq ?_
  refine wp_cond_true rfl ?_
  refine wp_skip ?_
  show Code.wp _ _ _ _ _
  refine wp_seq ?_
  refine wp_block ?_
  refine wp_seq ?_
  refine wl_region ?_
  refine wl_pure (.int .i64 7) rfl (by kernel_rfl) ?_
  try simp only [p0, p1, p2, p3]
  refine wl_pure (.int .i64 7) rfl (by kernel_rfl) ?_
  try simp only [p0, p1, p2, p3]
  refine wl_nil ?_
  show Code.wp _ _ _ _ _
  refine wl_region ?_
  refine wl_pure (.int .i64 7) rfl (by kernel_rfl) ?_
  try simp only [p0, p1, p2, p3]
  refine wl_pure (.int .i64 11) rfl (by kernel_rfl) ?_
  try simp only [p0, p1, p2, p3]
  refine wl_pure (.int .i64 7) rfl (by kernel_rfl) ?_
  try simp only [p0, p1, p2, p3]
  refine wl_pure (.int .i64 28) rfl (by kernel_rfl) ?_
  try simp only [p0, p1, p2, p3]
  refine wl_pure (.slice (some ⟨g1, 28, none⟩) 4 4) rfl (by kernel_rfl) ?_
  try simp only [p0, p1, p2, p3]
  refine wl_runs rfl (r_call (args := #[.slice (some ⟨g1, 28, none⟩) 4 4]) (u := .int .u32 (le4 (fun zz => key (28 + zz)))) (by kernel_rfl) (word4_any (rdc_own hO20 (.tail _ (.tail _ (.tail _ (.head _)))) 28 4 (by decide)) (by decide)) hO20) fun _ w21 hO21 => ?_
  clear hO20
  try simp only [List.nil_append, List.cons_append] at hO21
  try simp only [p0, p1, p2, p3]
  refine wl_pure (.pointer (some ⟨g4, 11, none⟩)) rfl (by kernel_rfl) ?_
  try simp only [p0, p1, p2, p3]
  refine wl_runs rfl (r_st (L1 := []) (L2 := ((g3, 76, (aF .u8 64 zF)) :: (g2, 50, (aF .u8 12 nonce)) :: (g1, 22, (aF .u8 32 key)) :: [])) (f := F8) (n := 16) 11 (le4 (fun zz => key (28 + zz))) (by decide) rfl (by kernel_rfl) (by kernel_rfl) hO21 (by kernel_rfl)) fun _ w22 hO22 => ?_
  clear hO21
  try simp only [List.nil_append, List.cons_append] at hO22
  try simp only [p0, p1, p2, p3]
  refine wl_nil ?_
  obtain ⟨F9, eF9⟩ : ∃ x : Nat → Int, x = (upd F8 11 (le4 (fun zz => key (28 + zz)))) := ⟨_, rfl⟩
  rw [← eF9] at hO22
  show Code.wp _ _ _ _ _
  refine wl_region ?_
  refine wl_pure (.int .i64 8) rfl (by kernel_rfl) ?_
  try simp only [p0, p1, p2, p3]
  refine wl_pure (.int .i64 8) rfl (by kernel_rfl) ?_
  try simp only [p0, p1, p2, p3]
  refine wl_nil ?_
  show Code.rounds _ _ _ _ _ _
  rw [rounds_succ]
  refine wp_seq ?_
  refine wl_region ?_
  refine wl_pure (.bool false) rfl (by kernel_rfl) ?_
  try simp only [p0, p1, p2, p3]
  refine wl_nil ?_
  show Code.wp _ _ _ _ _
  refine wp_seq ?_
  refine wp_cond_false rfl ?_
  refine wp_exit ?_
  show Code.wp _ _ _ _ _
  refine wp_seq ?_
  refine wl_region ?_
  refine wl_pure (.int .u32 count) rfl (by kernel_rfl) ?_
  try simp only [p0, p1, p2, p3]
  refine wl_pure (.pointer (some ⟨g4, 12, none⟩)) rfl (by kernel_rfl) ?_
  try simp only [p0, p1, p2, p3]
  refine wl_runs rfl (r_st (L1 := []) (L2 := ((g3, 76, (aF .u8 64 zF)) :: (g2, 50, (aF .u8 12 nonce)) :: (g1, 22, (aF .u8 32 key)) :: [])) (f := F9) (n := 16) 12 count (by decide) rfl (by kernel_rfl) (by kernel_rfl) hO22 (by kernel_rfl)) fun _ w23 hO23 => ?_
  clear hO22
  try simp only [List.nil_append, List.cons_append] at hO23
  try simp only [p0, p1, p2, p3]
  refine wl_nil ?_
  obtain ⟨F10, eF10⟩ : ∃ x : Nat → Int, x = (upd F9 12 count) := ⟨_, rfl⟩
  rw [← eF10] at hO23
  show Code.wp _ _ _ _ _
  refine wp_seq ?_
  refine wp_seq ?_
  refine wl_region ?_
  refine wl_pure (.int .i64 0) rfl (by kernel_rfl) ?_
  try simp only [p0, p1, p2, p3]
  refine wl_nil ?_
  show Code.wp _ _ _ _ _
  refine wp_block ?_
  refine wp_loop_rounds 4 ?_
  rw [rounds_succ]
  refine wp_seq ?_
  refine wl_region ?_
  refine wl_pure (.bool true) rfl (by kernel_rfl) ?_
  try simp only [p0, p1, p2, p3]
  refine wl_nil ?_
  show Code.wp _ _ _ _ _
  refine wp_seq ?_
  refine wp_cond_true rfl ?_
  refine wp_skip ?_
  show Code.wp _ _ _ _ _
  refine wp_seq ?_
  refine wp_block ?_
  refine wp_seq ?_
  refine wl_region ?_
  refine wl_pure (.int .i64 0) rfl (by kernel_rfl) ?_
  try simp only [p0, p1, p2, p3]
  refine wl_pure (.int .i64 0) rfl (by kernel_rfl) ?_
  try simp only [p0, p1, p2, p3]
  refine wl_nil ?_
  show Code.wp _ _ _ _ _
  refine wl_region ?_
  refine wl_pure (.int .i64 0) rfl (by kernel_rfl) ?_
  try simp only [p0, p1, p2, p3]
  refine wl_pure (.int .i64 13) rfl (by kernel_rfl) ?_
  try simp only [p0, p1, p2, p3]
  refine wl_pure (.int .i64 0) rfl (by kernel_rfl) ?_
  try simp only [p0, p1, p2, p3]
  refine wl_pure (.int .i64 0) rfl (by kernel_rfl) ?_
  try simp only [p0, p1, p2, p3]
  refine wl_pure (.slice (some ⟨g2, 0, none⟩) 12 12) rfl (by kernel_rfl) ?_
  try simp only [p0, p1, p2, p3]
  refine wl_runs rfl (r_call (args := #[.slice (some ⟨g2, 0, none⟩) 12 12]) (u := .int .u32 (le4 nonce)) (by kernel_rfl) (word4_any (rdc_own1 hO23 (.tail _ (.tail _ (.head _))) 12 (by decide)) (by decide)) hO23) fun _ w24 hO24 => ?_
  clear hO23
  try simp only [List.nil_append, List.cons_append] at hO24
  try simp only [p0, p1, p2, p3]
  refine wl_pure (.pointer (some ⟨g4, 13, none⟩)) rfl (by kernel_rfl) ?_
  try simp only [p0, p1, p2, p3]
  refine wl_runs rfl (r_st (L1 := []) (L2 := ((g3, 76, (aF .u8 64 zF)) :: (g2, 50, (aF .u8 12 nonce)) :: (g1, 22, (aF .u8 32 key)) :: [])) (f := F10) (n := 16) 13 (le4 nonce) (by decide) rfl (by kernel_rfl) (by kernel_rfl) hO24 (by kernel_rfl)) fun _ w25 hO25 => ?_
  clear hO24
  try simp only [List.nil_append, List.cons_append] at hO25
  try simp only [p0, p1, p2, p3]
  refine wl_nil ?_
  obtain ⟨F11, eF11⟩ : ∃ x : Nat → Int, x = (upd F10 13 (le4 nonce)) := ⟨_, rfl⟩
  rw [← eF11] at hO25
  show Code.wp _ _ _ _ _
  refine wl_region ?_
  refine wl_pure (.int .i64 1) rfl (by kernel_rfl) ?_
  try simp only [p0, p1, p2, p3]
  refine wl_pure (.int .i64 1) rfl (by kernel_rfl) ?_
  try simp only [p0, p1, p2, p3]
  refine wl_nil ?_
  show Code.rounds _ _ _ _ _ _
  rw [rounds_succ]
  refine wp_seq ?_
  refine wl_region ?_
  refine wl_pure (.bool true) rfl (by kernel_rfl) ?_
  try simp only [p0, p1, p2, p3]
  refine wl_nil ?_
  show Code.wp _ _ _ _ _
  refine wp_seq ?_
  refine wp_cond_true rfl ?_
  refine wp_skip ?_
  show Code.wp _ _ _ _ _
  refine wp_seq ?_
  refine wp_block ?_
  refine wp_seq ?_
  refine wl_region ?_
  refine wl_pure (.int .i64 1) rfl (by kernel_rfl) ?_
  try simp only [p0, p1, p2, p3]
  refine wl_pure (.int .i64 1) rfl (by kernel_rfl) ?_
  try simp only [p0, p1, p2, p3]
  refine wl_nil ?_
  show Code.wp _ _ _ _ _
  refine wl_region ?_
  refine wl_pure (.int .i64 1) rfl (by kernel_rfl) ?_
  try simp only [p0, p1, p2, p3]
  refine wl_pure (.int .i64 14) rfl (by kernel_rfl) ?_
  try simp only [p0, p1, p2, p3]
  refine wl_pure (.int .i64 1) rfl (by kernel_rfl) ?_
  try simp only [p0, p1, p2, p3]
  refine wl_pure (.int .i64 4) rfl (by kernel_rfl) ?_
  try simp only [p0, p1, p2, p3]
  refine wl_pure (.slice (some ⟨g2, 4, none⟩) 8 8) rfl (by kernel_rfl) ?_
  try simp only [p0, p1, p2, p3]
  refine wl_runs rfl (r_call (args := #[.slice (some ⟨g2, 4, none⟩) 8 8]) (u := .int .u32 (le4 (fun zz => nonce (4 + zz)))) (by kernel_rfl) (word4_any (rdc_own hO25 (.tail _ (.tail _ (.head _))) 4 8 (by decide)) (by decide)) hO25) fun _ w26 hO26 => ?_
  clear hO25
  try simp only [List.nil_append, List.cons_append] at hO26
  try simp only [p0, p1, p2, p3]
  refine wl_pure (.pointer (some ⟨g4, 14, none⟩)) rfl (by kernel_rfl) ?_
  try simp only [p0, p1, p2, p3]
  refine wl_runs rfl (r_st (L1 := []) (L2 := ((g3, 76, (aF .u8 64 zF)) :: (g2, 50, (aF .u8 12 nonce)) :: (g1, 22, (aF .u8 32 key)) :: [])) (f := F11) (n := 16) 14 (le4 (fun zz => nonce (4 + zz))) (by decide) rfl (by kernel_rfl) (by kernel_rfl) hO26 (by kernel_rfl)) fun _ w27 hO27 => ?_
  clear hO26
  try simp only [List.nil_append, List.cons_append] at hO27
  try simp only [p0, p1, p2, p3]
  refine wl_nil ?_
  obtain ⟨F12, eF12⟩ : ∃ x : Nat → Int, x = (upd F11 14 (le4 (fun zz => nonce (4 + zz)))) := ⟨_, rfl⟩
  rw [← eF12] at hO27
  show Code.wp _ _ _ _ _
  refine wl_region ?_
  refine wl_pure (.int .i64 2) rfl (by kernel_rfl) ?_
  try simp only [p0, p1, p2, p3]
  refine wl_pure (.int .i64 2) rfl (by kernel_rfl) ?_
  try simp only [p0, p1, p2, p3]
  refine wl_nil ?_
  show Code.rounds _ _ _ _ _ _
  rw [rounds_succ]
  refine wp_seq ?_
  refine wl_region ?_
  refine wl_pure (.bool true) rfl (by kernel_rfl) ?_
  try simp only [p0, p1, p2, p3]
  refine wl_nil ?_
  show Code.wp _ _ _ _ _
  refine wp_seq ?_
  refine wp_cond_true rfl ?_
  refine wp_skip ?_
  show Code.wp _ _ _ _ _
  refine wp_seq ?_
  refine wp_block ?_
  refine wp_seq ?_
  refine wl_region ?_
  refine wl_pure (.int .i64 2) rfl (by kernel_rfl) ?_
  try simp only [p0, p1, p2, p3]
  refine wl_pure (.int .i64 2) rfl (by kernel_rfl) ?_
  try simp only [p0, p1, p2, p3]
  refine wl_nil ?_
  show Code.wp _ _ _ _ _
  refine wl_region ?_
  refine wl_pure (.int .i64 2) rfl (by kernel_rfl) ?_
  try simp only [p0, p1, p2, p3]
  refine wl_pure (.int .i64 15) rfl (by kernel_rfl) ?_
  try simp only [p0, p1, p2, p3]
  refine wl_pure (.int .i64 2) rfl (by kernel_rfl) ?_
  try simp only [p0, p1, p2, p3]
  refine wl_pure (.int .i64 8) rfl (by kernel_rfl) ?_
  try simp only [p0, p1, p2, p3]
  refine wl_pure (.slice (some ⟨g2, 8, none⟩) 4 4) rfl (by kernel_rfl) ?_
  try simp only [p0, p1, p2, p3]
  refine wl_runs rfl (r_call (args := #[.slice (some ⟨g2, 8, none⟩) 4 4]) (u := .int .u32 (le4 (fun zz => nonce (8 + zz)))) (by kernel_rfl) (word4_any (rdc_own hO27 (.tail _ (.tail _ (.head _))) 8 4 (by decide)) (by decide)) hO27) fun _ w28 hO28 => ?_
  clear hO27
  try simp only [List.nil_append, List.cons_append] at hO28
  try simp only [p0, p1, p2, p3]
  refine wl_pure (.pointer (some ⟨g4, 15, none⟩)) rfl (by kernel_rfl) ?_
  try simp only [p0, p1, p2, p3]
  refine wl_runs rfl (r_st (L1 := []) (L2 := ((g3, 76, (aF .u8 64 zF)) :: (g2, 50, (aF .u8 12 nonce)) :: (g1, 22, (aF .u8 32 key)) :: [])) (f := F12) (n := 16) 15 (le4 (fun zz => nonce (8 + zz))) (by decide) rfl (by kernel_rfl) (by kernel_rfl) hO28 (by kernel_rfl)) fun _ w29 hO29 => ?_
  clear hO28
  try simp only [List.nil_append, List.cons_append] at hO29
  try simp only [p0, p1, p2, p3]
  refine wl_nil ?_
  obtain ⟨F13, eF13⟩ : ∃ x : Nat → Int, x = (upd F12 15 (le4 (fun zz => nonce (8 + zz)))) := ⟨_, rfl⟩
  rw [← eF13] at hO29
  show Code.wp _ _ _ _ _
  refine wl_region ?_
  refine wl_pure (.int .i64 3) rfl (by kernel_rfl) ?_
  try simp only [p0, p1, p2, p3]
  refine wl_pure (.int .i64 3) rfl (by kernel_rfl) ?_
  try simp only [p0, p1, p2, p3]
  refine wl_nil ?_
  show Code.rounds _ _ _ _ _ _
  rw [rounds_succ]
  refine wp_seq ?_
  refine wl_region ?_
  refine wl_pure (.bool false) rfl (by kernel_rfl) ?_
  try simp only [p0, p1, p2, p3]
  refine wl_nil ?_
  show Code.wp _ _ _ _ _
  refine wp_seq ?_
  refine wp_cond_false rfl ?_
  refine wp_exit ?_
  show Code.wp _ _ _ _ _
  refine wp_seq ?_
  refine wl_region ?_
  refine wl_pure (.agg (aF .u32 16 F13)) rfl (run_row (hO29.get (.head _)) Tryd.underlying96 rfl (by kernel_rfl) rfl (by kernel_rfl)) ?_
  try simp only [p0, p1, p2, p3]
  refine wl_runs rfl (r_new 96 (aF .u32 16 zF) (by kernel_rfl) hO29) fun g30 w30 hO30 => ?_
  clear hO29
  try simp only [List.nil_append, List.cons_append] at hO30
  try simp only [p0, p1, p2, p3]
  refine wl_runs rfl (r_row (L1 := []) (L2 := ((g4, 96, (aF .u32 16 F13)) :: (g3, 76, (aF .u8 64 zF)) :: (g2, 50, (aF .u8 12 nonce)) :: (g1, 22, (aF .u8 32 key)) :: [])) (cs := (aF .u32 16 zF)) (aF .u32 16 F13) rfl (by kernel_rfl) (by kernel_rfl) hO30 (by simp only [size_aF]) (by kernel_rfl) (one_aF _ _ _)) fun _ w31 hO31 => ?_
  clear hO30
  try simp only [List.nil_append, List.cons_append] at hO31
  try simp only [p0, p1, p2, p3]
  refine wl_nil ?_
  show Code.wp _ _ _ _ _
  refine wp_seq ?_
  refine wp_seq ?_
  refine wl_region ?_
  refine wl_pure (.int .i64 0) rfl (by kernel_rfl) ?_
  try simp only [p0, p1, p2, p3]
  refine wl_nil ?_
  show Code.wp _ _ _ _ _
  have eW : words first key nonce count = F13 := by subst eF13 eF12 eF11 eF10 eF9 eF8 eF7 eF6 eF5 eF4 eF3 eF2 eF1; kernel_rfl
  clear eF13 eF12 eF11 eF10 eF9 eF8 eF7 eF6 eF5 eF4 eF3 eF2 eF1
  go_wp2_with fail
  go_loopw [43] (fun v32_43 wr32 => ∃ (m : Nat), m ≤ 10 ∧ v32_43 = .int .i64 ((m : Nat) : Int) ∧ Own w ((g30, 96, (aF .u32 16 (itR F13 m))) :: (g4, 96, (aF .u32 16 F13)) :: (g3, 76, (aF .u8 64 zF)) :: (g2, 50, (aF .u8 12 nonce)) :: (g1, 22, (aF .u8 32 key)) :: []) wr32) (fun v32_43 wr32 => 10 - (intOf v32_43).toNat)
  case atStart => exact ⟨0, by omega, rfl, hO31⟩
  case round =>
    try clear hO31
    obtain ⟨m, hf32_0, rfl, hO32⟩ := hrel
    by_cases hm32 : m < 10
    · have hm32' := hm32
      refine wp_seq ?_
      refine wl_region ?_
      refine wl_pure (.bool true) rfl (i_lss (k := .i64) ((m : Nat) : Int) 10 true (decide_eq_true (by omega)) rfl (by kernel_rfl) (by kernel_rfl) _) ?_
      try simp only [p0, p1, p2, p3]
      refine wl_nil ?_
      show Code.wp _ _ _ _ _
      refine wp_seq ?_
      refine wp_cond_true rfl ?_
      refine wp_skip ?_
      show Code.wp _ _ _ _ _
      refine wp_seq ?_
      refine wp_block ?_
      refine wp_seq ?_
      refine wp_seq ?_
      refine wl_region ?_
      refine wl_pure (.int .i64 0) rfl (by kernel_rfl) ?_
      try simp only [p0, p1, p2, p3]
      refine wl_nil ?_
      show Code.wp _ _ _ _ _
      refine wp_block ?_
      refine wp_loop_rounds 5 ?_
      rw [rounds_succ]
      refine wp_seq ?_
      refine wl_region ?_
      refine wl_pure (.bool true) rfl (by kernel_rfl) ?_
      try simp only [p0, p1, p2, p3]
      refine wl_nil ?_
      show Code.wp _ _ _ _ _
      refine wp_seq ?_
      refine wp_cond_true rfl ?_
      refine wp_skip ?_
      show Code.wp _ _ _ _ _
      refine wp_seq ?_
      refine wp_block ?_
      refine wp_seq ?_
      refine wl_region ?_
      refine wl_pure (.int .i64 0) rfl (by kernel_rfl) ?_
      try simp only [p0, p1, p2, p3]
      refine wl_pure (.int .i64 0) rfl (by kernel_rfl) ?_
      try simp only [p0, p1, p2, p3]
      refine wl_nil ?_
      show Code.wp _ _ _ _ _
      refine wl_region ?_
      refine wl_pure (.int .i64 0) rfl (by kernel_rfl) ?_
      try simp only [p0, p1, p2, p3]
      refine wl_pure (.int .i64 0) rfl (by kernel_rfl) ?_
      try simp only [p0, p1, p2, p3]
      refine wl_pure (.int .i64 4) rfl (by kernel_rfl) ?_
      try simp only [p0, p1, p2, p3]
      refine wl_pure (.int .i64 0) rfl (by kernel_rfl) ?_
      try simp only [p0, p1, p2, p3]
      refine wl_pure (.int .i64 8) rfl (by kernel_rfl) ?_
      try simp only [p0, p1, p2, p3]
      refine wl_pure (.int .i64 0) rfl (by kernel_rfl) ?_
      try simp only [p0, p1, p2, p3]
      refine wl_pure (.int .i64 12) rfl (by kernel_rfl) ?_
      try simp only [p0, p1, p2, p3]
      refine wl_runs rfl (r_ans (args := #[.pointer (some ⟨g30, 0, none⟩), .int .i64 0, .int .i64 4, .int .i64 8, .int .i64 12]) (by kernel_rfl) (quarter_any (a := 0) (b := 4) (c := 8) (d := 12) (by decide) (by decide) (by decide) (by decide) hO32)) fun _ w33 hO33 => ?_
      clear hO32
      try simp only [List.nil_append, List.cons_append] at hO33
      try simp only [p0, p1, p2, p3]
      refine wl_nil ?_
      show Code.wp _ _ _ _ _
      refine wl_region ?_
      refine wl_pure (.int .i64 1) rfl (by kernel_rfl) ?_
      try simp only [p0, p1, p2, p3]
      refine wl_pure (.int .i64 1) rfl (by kernel_rfl) ?_
      try simp only [p0, p1, p2, p3]
      refine wl_nil ?_
      show Code.rounds _ _ _ _ _ _
      rw [rounds_succ]
      refine wp_seq ?_
      refine wl_region ?_
      refine wl_pure (.bool true) rfl (by kernel_rfl) ?_
      try simp only [p0, p1, p2, p3]
      refine wl_nil ?_
      show Code.wp _ _ _ _ _
      refine wp_seq ?_
      refine wp_cond_true rfl ?_
      refine wp_skip ?_
      show Code.wp _ _ _ _ _
      refine wp_seq ?_
      refine wp_block ?_
      refine wp_seq ?_
      refine wl_region ?_
      refine wl_pure (.int .i64 1) rfl (by kernel_rfl) ?_
      try simp only [p0, p1, p2, p3]
      refine wl_pure (.int .i64 1) rfl (by kernel_rfl) ?_
      try simp only [p0, p1, p2, p3]
      refine wl_nil ?_
      show Code.wp _ _ _ _ _
      refine wl_region ?_
      refine wl_pure (.int .i64 1) rfl (by kernel_rfl) ?_
      try simp only [p0, p1, p2, p3]
      refine wl_pure (.int .i64 1) rfl (by kernel_rfl) ?_
      try simp only [p0, p1, p2, p3]
      refine wl_pure (.int .i64 5) rfl (by kernel_rfl) ?_
      try simp only [p0, p1, p2, p3]
      refine wl_pure (.int .i64 1) rfl (by kernel_rfl) ?_
      try simp only [p0, p1, p2, p3]
      refine wl_pure (.int .i64 9) rfl (by kernel_rfl) ?_
      try simp only [p0, p1, p2, p3]
      refine wl_pure (.int .i64 1) rfl (by kernel_rfl) ?_
      try simp only [p0, p1, p2, p3]
      refine wl_pure (.int .i64 13) rfl (by kernel_rfl) ?_
      try simp only [p0, p1, p2, p3]
      refine wl_runs rfl (r_ans (args := #[.pointer (some ⟨g30, 0, none⟩), .int .i64 1, .int .i64 5, .int .i64 9, .int .i64 13]) (by kernel_rfl) (quarter_any (a := 1) (b := 5) (c := 9) (d := 13) (by decide) (by decide) (by decide) (by decide) hO33)) fun _ w34 hO34 => ?_
      clear hO33
      try simp only [List.nil_append, List.cons_append] at hO34
      try simp only [p0, p1, p2, p3]
      refine wl_nil ?_
      show Code.wp _ _ _ _ _
      refine wl_region ?_
      refine wl_pure (.int .i64 2) rfl (by kernel_rfl) ?_
      try simp only [p0, p1, p2, p3]
      refine wl_pure (.int .i64 2) rfl (by kernel_rfl) ?_
      try simp only [p0, p1, p2, p3]
      refine wl_nil ?_
      show Code.rounds _ _ _ _ _ _
      rw [rounds_succ]
      refine wp_seq ?_
      refine wl_region ?_
      refine wl_pure (.bool true) rfl (by kernel_rfl) ?_
      try simp only [p0, p1, p2, p3]
      refine wl_nil ?_
      show Code.wp _ _ _ _ _
      refine wp_seq ?_
      refine wp_cond_true rfl ?_
      refine wp_skip ?_
      show Code.wp _ _ _ _ _
      refine wp_seq ?_
      refine wp_block ?_
      refine wp_seq ?_
      refine wl_region ?_
      refine wl_pure (.int .i64 2) rfl (by kernel_rfl) ?_
      try simp only [p0, p1, p2, p3]
      refine wl_pure (.int .i64 2) rfl (by kernel_rfl) ?_
      try simp only [p0, p1, p2, p3]
      refine wl_nil ?_
      show Code.wp _ _ _ _ _
      refine wl_region ?_
      refine wl_pure (.int .i64 2) rfl (by kernel_rfl) ?_
      try simp only [p0, p1, p2, p3]
      refine wl_pure (.int .i64 2) rfl (by kernel_rfl) ?_
      try simp only [p0, p1, p2, p3]
      refine wl_pure (.int .i64 6) rfl (by kernel_rfl) ?_
      try simp only [p0, p1, p2, p3]
      refine wl_pure (.int .i64 2) rfl (by kernel_rfl) ?_
      try simp only [p0, p1, p2, p3]
      refine wl_pure (.int .i64 10) rfl (by kernel_rfl) ?_
      try simp only [p0, p1, p2, p3]
      refine wl_pure (.int .i64 2) rfl (by kernel_rfl) ?_
      try simp only [p0, p1, p2, p3]
      refine wl_pure (.int .i64 14) rfl (by kernel_rfl) ?_
      try simp only [p0, p1, p2, p3]
      refine wl_runs rfl (r_ans (args := #[.pointer (some ⟨g30, 0, none⟩), .int .i64 2, .int .i64 6, .int .i64 10, .int .i64 14]) (by kernel_rfl) (quarter_any (a := 2) (b := 6) (c := 10) (d := 14) (by decide) (by decide) (by decide) (by decide) hO34)) fun _ w35 hO35 => ?_
      clear hO34
      try simp only [List.nil_append, List.cons_append] at hO35
      try simp only [p0, p1, p2, p3]
      refine wl_nil ?_
      show Code.wp _ _ _ _ _
      refine wl_region ?_
      refine wl_pure (.int .i64 3) rfl (by kernel_rfl) ?_
      try simp only [p0, p1, p2, p3]
      refine wl_pure (.int .i64 3) rfl (by kernel_rfl) ?_
      try simp only [p0, p1, p2, p3]
      refine wl_nil ?_
      show Code.rounds _ _ _ _ _ _
      rw [rounds_succ]
      refine wp_seq ?_
      refine wl_region ?_
      refine wl_pure (.bool true) rfl (by kernel_rfl) ?_
      try simp only [p0, p1, p2, p3]
      refine wl_nil ?_
      show Code.wp _ _ _ _ _
      refine wp_seq ?_
      refine wp_cond_true rfl ?_
      refine wp_skip ?_
      show Code.wp _ _ _ _ _
      refine wp_seq ?_
      refine wp_block ?_
      refine wp_seq ?_
      refine wl_region ?_
      refine wl_pure (.int .i64 3) rfl (by kernel_rfl) ?_
      try simp only [p0, p1, p2, p3]
      refine wl_pure (.int .i64 3) rfl (by kernel_rfl) ?_
      try simp only [p0, p1, p2, p3]
      refine wl_nil ?_
      show Code.wp _ _ _ _ _
      refine wl_region ?_
      refine wl_pure (.int .i64 3) rfl (by kernel_rfl) ?_
      try simp only [p0, p1, p2, p3]
      refine wl_pure (.int .i64 3) rfl (by kernel_rfl) ?_
      try simp only [p0, p1, p2, p3]
      refine wl_pure (.int .i64 7) rfl (by kernel_rfl) ?_
      try simp only [p0, p1, p2, p3]
      refine wl_pure (.int .i64 3) rfl (by kernel_rfl) ?_
      try simp only [p0, p1, p2, p3]
      refine wl_pure (.int .i64 11) rfl (by kernel_rfl) ?_
      try simp only [p0, p1, p2, p3]
      refine wl_pure (.int .i64 3) rfl (by kernel_rfl) ?_
      try simp only [p0, p1, p2, p3]
      refine wl_pure (.int .i64 15) rfl (by kernel_rfl) ?_
      try simp only [p0, p1, p2, p3]
      refine wl_runs rfl (r_ans (args := #[.pointer (some ⟨g30, 0, none⟩), .int .i64 3, .int .i64 7, .int .i64 11, .int .i64 15]) (by kernel_rfl) (quarter_any (a := 3) (b := 7) (c := 11) (d := 15) (by decide) (by decide) (by decide) (by decide) hO35)) fun _ w36 hO36 => ?_
      clear hO35
      try simp only [List.nil_append, List.cons_append] at hO36
      try simp only [p0, p1, p2, p3]
      refine wl_nil ?_
      show Code.wp _ _ _ _ _
      refine wl_region ?_
      refine wl_pure (.int .i64 4) rfl (by kernel_rfl) ?_
      try simp only [p0, p1, p2, p3]
      refine wl_pure (.int .i64 4) rfl (by kernel_rfl) ?_
      try simp only [p0, p1, p2, p3]
      refine wl_nil ?_
      show Code.rounds _ _ _ _ _ _
      rw [rounds_succ]
      refine wp_seq ?_
      refine wl_region ?_
      refine wl_pure (.bool false) rfl (by kernel_rfl) ?_
      try simp only [p0, p1, p2, p3]
      refine wl_nil ?_
      show Code.wp _ _ _ _ _
      refine wp_seq ?_
      refine wp_cond_false rfl ?_
      refine wp_exit ?_
      show Code.wp _ _ _ _ _
      refine wp_seq ?_
      refine wl_region ?_
      refine wl_pure (.int .i64 0) rfl (by kernel_rfl) ?_
      try simp only [p0, p1, p2, p3]
      refine wl_nil ?_
      show Code.wp _ _ _ _ _
      refine wp_block ?_
      refine wp_loop_rounds 5 ?_
      rw [rounds_succ]
      refine wp_seq ?_
      refine wl_region ?_
      refine wl_pure (.bool true) rfl (by kernel_rfl) ?_
      try simp only [p0, p1, p2, p3]
      refine wl_nil ?_
      show Code.wp _ _ _ _ _
      refine wp_seq ?_
      refine wp_cond_true rfl ?_
      refine wp_skip ?_
      show Code.wp _ _ _ _ _
      refine wp_seq ?_
      refine wp_block ?_
      refine wp_seq ?_
      refine wl_region ?_
      refine wl_pure (.int .i64 0) rfl (by kernel_rfl) ?_
      try simp only [p0, p1, p2, p3]
      refine wl_pure (.int .i64 0) rfl (by kernel_rfl) ?_
      try simp only [p0, p1, p2, p3]
      refine wl_nil ?_
      show Code.wp _ _ _ _ _
      refine wl_region ?_
      refine wl_pure (.int .i64 0) rfl (by kernel_rfl) ?_
      try simp only [p0, p1, p2, p3]
      refine wl_pure (.int .i64 0) rfl (by kernel_rfl) ?_
      try simp only [p0, p1, p2, p3]
      refine wl_pure (.int .i64 1) rfl (by kernel_rfl) ?_
      try simp only [p0, p1, p2, p3]
      refine wl_pure (.int .i64 1) rfl (by kernel_rfl) ?_
      try simp only [p0, p1, p2, p3]
      refine wl_pure (.int .i64 5) rfl (by kernel_rfl) ?_
      try simp only [p0, p1, p2, p3]
      refine wl_pure (.int .i64 0) rfl (by kernel_rfl) ?_
      try simp only [p0, p1, p2, p3]
      refine wl_pure (.int .i64 2) rfl (by kernel_rfl) ?_
      try simp only [p0, p1, p2, p3]
      refine wl_pure (.int .i64 2) rfl (by kernel_rfl) ?_
      try simp only [p0, p1, p2, p3]
      refine wl_pure (.int .i64 10) rfl (by kernel_rfl) ?_
      try simp only [p0, p1, p2, p3]
      refine wl_pure (.int .i64 0) rfl (by kernel_rfl) ?_
      try simp only [p0, p1, p2, p3]
      refine wl_pure (.int .i64 3) rfl (by kernel_rfl) ?_
      try simp only [p0, p1, p2, p3]
      refine wl_pure (.int .i64 3) rfl (by kernel_rfl) ?_
      try simp only [p0, p1, p2, p3]
      refine wl_pure (.int .i64 15) rfl (by kernel_rfl) ?_
      try simp only [p0, p1, p2, p3]
      refine wl_runs rfl (r_ans (args := #[.pointer (some ⟨g30, 0, none⟩), .int .i64 0, .int .i64 5, .int .i64 10, .int .i64 15]) (by kernel_rfl) (quarter_any (a := 0) (b := 5) (c := 10) (d := 15) (by decide) (by decide) (by decide) (by decide) hO36)) fun _ w37 hO37 => ?_
      clear hO36
      try simp only [List.nil_append, List.cons_append] at hO37
      try simp only [p0, p1, p2, p3]
      refine wl_nil ?_
      show Code.wp _ _ _ _ _
      refine wl_region ?_
      refine wl_pure (.int .i64 1) rfl (by kernel_rfl) ?_
      try simp only [p0, p1, p2, p3]
      refine wl_pure (.int .i64 1) rfl (by kernel_rfl) ?_
      try simp only [p0, p1, p2, p3]
      refine wl_nil ?_
      show Code.rounds _ _ _ _ _ _
      rw [rounds_succ]
      refine wp_seq ?_
      refine wl_region ?_
      refine wl_pure (.bool true) rfl (by kernel_rfl) ?_
      try simp only [p0, p1, p2, p3]
      refine wl_nil ?_
      show Code.wp _ _ _ _ _
      refine wp_seq ?_
      refine wp_cond_true rfl ?_
      refine wp_skip ?_
      show Code.wp _ _ _ _ _
      refine wp_seq ?_
      refine wp_block ?_
      refine wp_seq ?_
      refine wl_region ?_
      refine wl_pure (.int .i64 1) rfl (by kernel_rfl) ?_
      try simp only [p0, p1, p2, p3]
      refine wl_pure (.int .i64 1) rfl (by kernel_rfl) ?_
      try simp only [p0, p1, p2, p3]
      refine wl_nil ?_
      show Code.wp _ _ _ _ _
      refine wl_region ?_
      refine wl_pure (.int .i64 1) rfl (by kernel_rfl) ?_
      try simp only [p0, p1, p2, p3]
      refine wl_pure (.int .i64 1) rfl (by kernel_rfl) ?_
      try simp only [p0, p1, p2, p3]
      refine wl_pure (.int .i64 2) rfl (by kernel_rfl) ?_
      try simp only [p0, p1, p2, p3]
      refine wl_pure (.int .i64 2) rfl (by kernel_rfl) ?_
      try simp only [p0, p1, p2, p3]
      refine wl_pure (.int .i64 6) rfl (by kernel_rfl) ?_
      try simp only [p0, p1, p2, p3]
      refine wl_pure (.int .i64 1) rfl (by kernel_rfl) ?_
      try simp only [p0, p1, p2, p3]
      refine wl_pure (.int .i64 3) rfl (by kernel_rfl) ?_
      try simp only [p0, p1, p2, p3]
      refine wl_pure (.int .i64 3) rfl (by kernel_rfl) ?_
      try simp only [p0, p1, p2, p3]
      refine wl_pure (.int .i64 11) rfl (by kernel_rfl) ?_
      try simp only [p0, p1, p2, p3]
      refine wl_pure (.int .i64 1) rfl (by kernel_rfl) ?_
      try simp only [p0, p1, p2, p3]
      refine wl_pure (.int .i64 4) rfl (by kernel_rfl) ?_
      try simp only [p0, p1, p2, p3]
      refine wl_pure (.int .i64 0) rfl (by kernel_rfl) ?_
      try simp only [p0, p1, p2, p3]
      refine wl_pure (.int .i64 12) rfl (by kernel_rfl) ?_
      try simp only [p0, p1, p2, p3]
      refine wl_runs rfl (r_ans (args := #[.pointer (some ⟨g30, 0, none⟩), .int .i64 1, .int .i64 6, .int .i64 11, .int .i64 12]) (by kernel_rfl) (quarter_any (a := 1) (b := 6) (c := 11) (d := 12) (by decide) (by decide) (by decide) (by decide) hO37)) fun _ w38 hO38 => ?_
      clear hO37
      try simp only [List.nil_append, List.cons_append] at hO38
      try simp only [p0, p1, p2, p3]
      refine wl_nil ?_
      show Code.wp _ _ _ _ _
      refine wl_region ?_
      refine wl_pure (.int .i64 2) rfl (by kernel_rfl) ?_
      try simp only [p0, p1, p2, p3]
      refine wl_pure (.int .i64 2) rfl (by kernel_rfl) ?_
      try simp only [p0, p1, p2, p3]
      refine wl_nil ?_
      show Code.rounds _ _ _ _ _ _
      rw [rounds_succ]
      refine wp_seq ?_
      refine wl_region ?_
      refine wl_pure (.bool true) rfl (by kernel_rfl) ?_
      try simp only [p0, p1, p2, p3]
      refine wl_nil ?_
      show Code.wp _ _ _ _ _
      refine wp_seq ?_
      refine wp_cond_true rfl ?_
      refine wp_skip ?_
      show Code.wp _ _ _ _ _
      refine wp_seq ?_
      refine wp_block ?_
      refine wp_seq ?_
      refine wl_region ?_
      refine wl_pure (.int .i64 2) rfl (by kernel_rfl) ?_
      try simp only [p0, p1, p2, p3]
      refine wl_pure (.int .i64 2) rfl (by kernel_rfl) ?_
      try simp only [p0, p1, p2, p3]
      refine wl_nil ?_
      show Code.wp _ _ _ _ _
      refine wl_region ?_
      refine wl_pure (.int .i64 2) rfl (by kernel_rfl) ?_
      try simp only [p0, p1, p2, p3]
      refine wl_pure (.int .i64 2) rfl (by kernel_rfl) ?_
      try simp only [p0, p1, p2, p3]
      refine wl_pure (.int .i64 3) rfl (by kernel_rfl) ?_
      try simp only [p0, p1, p2, p3]
      refine wl_pure (.int .i64 3) rfl (by kernel_rfl) ?_
      try simp only [p0, p1, p2, p3]
      refine wl_pure (.int .i64 7) rfl (by kernel_rfl) ?_
      try simp only [p0, p1, p2, p3]
      refine wl_pure (.int .i64 2) rfl (by kernel_rfl) ?_
      try simp only [p0, p1, p2, p3]
      refine wl_pure (.int .i64 4) rfl (by kernel_rfl) ?_
      try simp only [p0, p1, p2, p3]
      refine wl_pure (.int .i64 0) rfl (by kernel_rfl) ?_
      try simp only [p0, p1, p2, p3]
      refine wl_pure (.int .i64 8) rfl (by kernel_rfl) ?_
      try simp only [p0, p1, p2, p3]
      refine wl_pure (.int .i64 2) rfl (by kernel_rfl) ?_
      try simp only [p0, p1, p2, p3]
      refine wl_pure (.int .i64 5) rfl (by kernel_rfl) ?_
      try simp only [p0, p1, p2, p3]
      refine wl_pure (.int .i64 1) rfl (by kernel_rfl) ?_
      try simp only [p0, p1, p2, p3]
      refine wl_pure (.int .i64 13) rfl (by kernel_rfl) ?_
      try simp only [p0, p1, p2, p3]
      refine wl_runs rfl (r_ans (args := #[.pointer (some ⟨g30, 0, none⟩), .int .i64 2, .int .i64 7, .int .i64 8, .int .i64 13]) (by kernel_rfl) (quarter_any (a := 2) (b := 7) (c := 8) (d := 13) (by decide) (by decide) (by decide) (by decide) hO38)) fun _ w39 hO39 => ?_
      clear hO38
      try simp only [List.nil_append, List.cons_append] at hO39
      try simp only [p0, p1, p2, p3]
      refine wl_nil ?_
      show Code.wp _ _ _ _ _
      refine wl_region ?_
      refine wl_pure (.int .i64 3) rfl (by kernel_rfl) ?_
      try simp only [p0, p1, p2, p3]
      refine wl_pure (.int .i64 3) rfl (by kernel_rfl) ?_
      try simp only [p0, p1, p2, p3]
      refine wl_nil ?_
      show Code.rounds _ _ _ _ _ _
      rw [rounds_succ]
      refine wp_seq ?_
      refine wl_region ?_
      refine wl_pure (.bool true) rfl (by kernel_rfl) ?_
      try simp only [p0, p1, p2, p3]
      refine wl_nil ?_
      show Code.wp _ _ _ _ _
      refine wp_seq ?_
      refine wp_cond_true rfl ?_
      refine wp_skip ?_
      show Code.wp _ _ _ _ _
      refine wp_seq ?_
      refine wp_block ?_
      refine wp_seq ?_
      refine wl_region ?_
      refine wl_pure (.int .i64 3) rfl (by kernel_rfl) ?_
      try simp only [p0, p1, p2, p3]
      refine wl_pure (.int .i64 3) rfl (by kernel_rfl) ?_
      try simp only [p0, p1, p2, p3]
      refine wl_nil ?_
      show Code.wp _ _ _ _ _
      refine wl_region ?_
      refine wl_pure (.int .i64 3) rfl (by kernel_rfl) ?_
      try simp only [p0, p1, p2, p3]
      refine wl_pure (.int .i64 3) rfl (by kernel_rfl) ?_
      try simp only [p0, p1, p2, p3]
      refine wl_pure (.int .i64 4) rfl (by kernel_rfl) ?_
      try simp only [p0, p1, p2, p3]
      refine wl_pure (.int .i64 0) rfl (by kernel_rfl) ?_
      try simp only [p0, p1, p2, p3]
      refine wl_pure (.int .i64 4) rfl (by kernel_rfl) ?_
      try simp only [p0, p1, p2, p3]
      refine wl_pure (.int .i64 3) rfl (by kernel_rfl) ?_
      try simp only [p0, p1, p2, p3]
      refine wl_pure (.int .i64 5) rfl (by kernel_rfl) ?_
      try simp only [p0, p1, p2, p3]
      refine wl_pure (.int .i64 1) rfl (by kernel_rfl) ?_
      try simp only [p0, p1, p2, p3]
      refine wl_pure (.int .i64 9) rfl (by kernel_rfl) ?_
      try simp only [p0, p1, p2, p3]
      refine wl_pure (.int .i64 3) rfl (by kernel_rfl) ?_
      try simp only [p0, p1, p2, p3]
      refine wl_pure (.int .i64 6) rfl (by kernel_rfl) ?_
      try simp only [p0, p1, p2, p3]
      refine wl_pure (.int .i64 2) rfl (by kernel_rfl) ?_
      try simp only [p0, p1, p2, p3]
      refine wl_pure (.int .i64 14) rfl (by kernel_rfl) ?_
      try simp only [p0, p1, p2, p3]
      refine wl_runs rfl (r_ans (args := #[.pointer (some ⟨g30, 0, none⟩), .int .i64 3, .int .i64 4, .int .i64 9, .int .i64 14]) (by kernel_rfl) (quarter_any (a := 3) (b := 4) (c := 9) (d := 14) (by decide) (by decide) (by decide) (by decide) hO39)) fun _ w40 hO40 => ?_
      clear hO39
      try simp only [List.nil_append, List.cons_append] at hO40
      try simp only [p0, p1, p2, p3]
      refine wl_nil ?_
      show Code.wp _ _ _ _ _
      refine wl_region ?_
      refine wl_pure (.int .i64 4) rfl (by kernel_rfl) ?_
      try simp only [p0, p1, p2, p3]
      refine wl_pure (.int .i64 4) rfl (by kernel_rfl) ?_
      try simp only [p0, p1, p2, p3]
      refine wl_nil ?_
      show Code.rounds _ _ _ _ _ _
      rw [rounds_succ]
      refine wp_seq ?_
      refine wl_region ?_
      refine wl_pure (.bool false) rfl (by kernel_rfl) ?_
      try simp only [p0, p1, p2, p3]
      refine wl_nil ?_
      show Code.wp _ _ _ _ _
      refine wp_seq ?_
      refine wp_cond_false rfl ?_
      refine wp_exit ?_
      show Code.wp _ _ _ _ _
      refine wl_region ?_
      refine wl_pure (.int .i64 ((m + 1 : Nat) : Int)) rfl (n_add (k := .i64) rfl m 1 (by omega) rfl (by kernel_rfl) (by kernel_rfl) _) ?_
      try simp only [p0, p1, p2, p3]
      refine wl_pure (.int .i64 ((m + 1 : Nat) : Int)) rfl (by kernel_rfl) ?_
      try simp only [p0, p1, p2, p3]
      refine wl_nil ?_
      try simp only [Exit.then, Exit.inBlock]
      go_roundw
      case rel => exact ⟨m + 1, by omega, rfl, hO40⟩
      case measure => simp [intOf]; omega
    · have hm32' := hm32
      obtain rfl : m = 10 := by omega
      refine wp_seq ?_
      refine wl_region ?_
      refine wl_pure (.bool false) rfl (by kernel_rfl) ?_
      try simp only [p0, p1, p2, p3]
      refine wl_nil ?_
      show Code.wp _ _ _ _ _
      refine wp_seq ?_
      refine wp_cond_false rfl ?_
      refine wp_exit ?_
      simp only [Exit.then, Exit.inBlock, if_true]
      show Code.wp _ _ _ _ _
      refine wp_seq ?_
      refine wl_region ?_
      refine wl_runs rfl (r_new 76 (aF .u8 64 zF) (by kernel_rfl) hO32) fun g41 w41 hO41 => ?_
      clear hO32
      try simp only [List.nil_append, List.cons_append] at hO41
      try simp only [p0, p1, p2, p3]
      refine wl_nil ?_
      show Code.wp _ _ _ _ _
      refine wp_seq ?_
      refine wp_seq ?_
      refine wl_region ?_
      refine wl_pure (.int .i64 0) rfl (by kernel_rfl) ?_
      try simp only [p0, p1, p2, p3]
      refine wl_nil ?_
      show Code.wp _ _ _ _ _
      go_wp2_with fail
      go_loopw [76] (fun v42_76 wr42 => ∃ (i : Nat), i ≤ 64 ∧ v42_76 = .int .i64 ((i : Nat) : Int) ∧ Own w ((g41, 76, (aF .u8 64 (outB (itR F13 10) F13 i))) :: (g30, 96, (aF .u32 16 (itR F13 10))) :: (g4, 96, (aF .u32 16 F13)) :: (g3, 76, (aF .u8 64 zF)) :: (g2, 50, (aF .u8 12 nonce)) :: (g1, 22, (aF .u8 32 key)) :: []) wr42) (fun v42_76 wr42 => 64 - (intOf v42_76).toNat)
      case atStart => exact ⟨0, by omega, rfl, hO41⟩
      case round =>
        try clear hO41
        obtain ⟨i, hf42_0, rfl, hO42⟩ := hrel
        by_cases hm42 : i < 64
        · have hm42' := hm42
          refine wp_seq ?_
          refine wl_region ?_
          refine wl_pure (.bool true) rfl (i_lss (k := .i64) ((i : Nat) : Int) 64 true (decide_eq_true (by omega)) rfl (by kernel_rfl) (by kernel_rfl) _) ?_
          try simp only [p0, p1, p2, p3]
          refine wl_nil ?_
          show Code.wp _ _ _ _ _
          refine wp_seq ?_
          refine wp_cond_true rfl ?_
          refine wp_skip ?_
          show Code.wp _ _ _ _ _
          refine wp_seq ?_
          refine wp_block ?_
          refine wp_seq ?_
          refine wl_region ?_
          refine wl_pure (.int .i64 ((i : Nat) : Int)) rfl (by kernel_rfl) ?_
          try simp only [p0, p1, p2, p3]
          refine wl_pure (.int .i64 ((i : Nat) : Int)) rfl (by kernel_rfl) ?_
          try simp only [p0, p1, p2, p3]
          refine wl_nil ?_
          show Code.wp _ _ _ _ _
          refine wd_region [16] (Tr.ofList [(0, 1), (1, 1), (2, 1), (3, 1), (4, 1), (5, 1), (6, 1), (7, 1), (8, 1), (9, 1), (10, 1), (11, 1), (12, 1), (13, 1), (14, 1), (15, 1), (16, 4)] .nil) (by decide) (by kernel_rfl) (by kernel_rfl) hO42 fun w43 hO43 => ?_
          simp only [Tr.ofList]
          try clear hO42
          refine wd_ld (.int .i64 ((i : Nat) : Int)) rfl (some 79) (by kernel_rfl) (by kernel_rfl) (fun _ hw => by kernel_rfl) hO43 ?_
          try simp only [p0, p1, p2, p3]
          refine wd_ld (.int .i64 ((i : Nat) : Int)) rfl (some 80) (by kernel_rfl) (by kernel_rfl) (fun _ hw => by kernel_rfl) hO43 ?_
          try simp only [p0, p1, p2, p3]
          refine wd_ld (.int .i64 ((i / 4 : Nat) : Int)) rfl (some 81) (by kernel_rfl) (by kernel_rfl) (fun _ hw => n_quo (k := .i64) rfl i 4 (by omega) rfl (by kernel_rfl) (by kernel_rfl) _) hO43 ?_
          try simp only [p0, p1, p2, p3]
          refine wd_ld (.pointer (some ⟨g30, i / 4, none⟩)) rfl (some 82) (by kernel_rfl) (by kernel_rfl) (fun _ hw => p_idx0 Tryd.underlying96 (by kernel_rfl) (i / 4) (by omega) rfl (by kernel_rfl) (by kernel_rfl) _) hO43 ?_
          try simp only [p0, p1, p2, p3]
          refine wd_ld (.int .u32 ((itR F13 10) (i / 4))) rfl (some 83) (by kernel_rfl) (by kernel_rfl) (fun _ hw => run_cell (own_cell hw (.tail _ (.head _)) (i / 4) (by omega)) (by kernel_rfl) rfl (by kernel_rfl)) hO43 ?_
          try simp only [p0, p1, p2, p3]
          refine wd_ld (.int .i64 ((i : Nat) : Int)) rfl (some 84) (by kernel_rfl) (by kernel_rfl) (fun _ hw => by kernel_rfl) hO43 ?_
          try simp only [p0, p1, p2, p3]
          refine wd_ld (.int .i64 ((i / 4 : Nat) : Int)) rfl (some 85) (by kernel_rfl) (by kernel_rfl) (fun _ hw => n_quo (k := .i64) rfl i 4 (by omega) rfl (by kernel_rfl) (by kernel_rfl) _) hO43 ?_
          try simp only [p0, p1, p2, p3]
          refine wd_ld (.pointer (some ⟨g4, i / 4, none⟩)) rfl (some 86) (by kernel_rfl) (by kernel_rfl) (fun _ hw => p_idx0 Tryd.underlying96 (by kernel_rfl) (i / 4) (by omega) rfl (by kernel_rfl) (by kernel_rfl) _) hO43 ?_
          try simp only [p0, p1, p2, p3]
          refine wd_ld (.int .u32 (F13 (i / 4))) rfl (some 87) (by kernel_rfl) (by kernel_rfl) (fun _ hw => run_cell (own_cell hw (.tail _ (.tail _ (.head _))) (i / 4) (by omega)) (by kernel_rfl) rfl (by kernel_rfl)) hO43 ?_
          try simp only [p0, p1, p2, p3]
          refine wd_ld (.int .u32 (ia .u32 ((itR F13 10) (i / 4)) (F13 (i / 4)))) rfl (some 88) (by kernel_rfl) (by kernel_rfl) (fun _ hw => by kernel_rfl) hO43 ?_
          try simp only [p0, p1, p2, p3]
          refine wd_ld (.int .i64 ((i : Nat) : Int)) rfl (some 89) (by kernel_rfl) (by kernel_rfl) (fun _ hw => by kernel_rfl) hO43 ?_
          try simp only [p0, p1, p2, p3]
          refine wd_ld (.int .i64 ((i % 4 : Nat) : Int)) rfl (some 90) (by kernel_rfl) (by kernel_rfl) (fun _ hw => n_rem (k := .i64) rfl i 4 (by omega) rfl (by kernel_rfl) (by kernel_rfl) _) hO43 ?_
          try simp only [p0, p1, p2, p3]
          refine wd_ld (.int .i64 ((8 * (i % 4) : Nat) : Int)) rfl (some 91) (by kernel_rfl) (by kernel_rfl) (fun _ hw => n_mul (k := .i64) rfl 8 (i % 4) (by omega) rfl (by kernel_rfl) (by kernel_rfl) _) hO43 ?_
          try simp only [p0, p1, p2, p3]
          refine wd_ld (.int .u32 (ishr (ia .u32 ((itR F13 10) (i / 4)) (F13 (i / 4))) (8 * (i % 4)))) rfl (some 92) (by kernel_rfl) (by kernel_rfl) (fun _ hw => n_shr (k := .u32) (yk := .i64) (ia .u32 ((itR F13 10) (i / 4)) (F13 (i / 4))) (8 * (i % 4)) (by simp only [IntKind.bits]; omega) rfl (by kernel_rfl) (by kernel_rfl) _) hO43 ?_
          try simp only [p0, p1, p2, p3]
          refine wd_ld (.int .u8 (cv .u8 (ishr (ia .u32 ((itR F13 10) (i / 4)) (F13 (i / 4))) (8 * (i % 4))))) rfl (some 93) (by kernel_rfl) (by kernel_rfl) (fun _ hw => by kernel_rfl) hO43 ?_
          try simp only [p0, p1, p2, p3]
          refine wd_ld (.pointer (some ⟨g41, i, none⟩)) rfl (some 94) (by kernel_rfl) (by kernel_rfl) (fun _ hw => p_idx0 Tryd.underlying76 (by kernel_rfl) i (by omega) rfl (by kernel_rfl) (by kernel_rfl) _) hO43 ?_
          try simp only [p0, p1, p2, p3]
          refine wd_runx rfl none (by kernel_rfl) rfl (r_st (L1 := []) (L2 := ((g30, 96, (aF .u32 16 (itR F13 10))) :: (g4, 96, (aF .u32 16 F13)) :: (g3, 76, (aF .u8 64 zF)) :: (g2, 50, (aF .u8 12 nonce)) :: (g1, 22, (aF .u8 32 key)) :: [])) (f := (outB (itR F13 10) F13 i)) (n := 64) i (cv .u8 (ishr (ia .u32 ((itR F13 10) (i / 4)) (F13 (i / 4))) (8 * (i % 4)))) (by omega) rfl (by kernel_rfl) (by kernel_rfl) hO43 (by kernel_rfl)) fun _ w44 hO44 => ?_
          clear hO43
          try simp only [List.nil_append, List.cons_append] at hO44
          try simp only [p0, p1, p2, p3]
          refine wd_nil ?_
          show Code.wp _ _ _ _ _
          refine wl_region ?_
          refine wl_pure (.int .i64 ((i + 1 : Nat) : Int)) rfl (n_add (k := .i64) rfl i 1 (by omega) rfl (by kernel_rfl) (by kernel_rfl) _) ?_
          try simp only [p0, p1, p2, p3]
          refine wl_pure (.int .i64 ((i + 1 : Nat) : Int)) rfl (by kernel_rfl) ?_
          try simp only [p0, p1, p2, p3]
          refine wl_nil ?_
          try simp only [Exit.then, Exit.inBlock]
          go_roundw
          case rel => exact ⟨i + 1, by omega, rfl, hO44⟩
          case measure => simp [intOf]; omega
        · have hm42' := hm42
          obtain rfl : i = 64 := by omega
          refine wp_seq ?_
          refine wl_region ?_
          refine wl_pure (.bool false) rfl (by kernel_rfl) ?_
          try simp only [p0, p1, p2, p3]
          refine wl_nil ?_
          show Code.wp _ _ _ _ _
          refine wp_seq ?_
          refine wp_cond_false rfl ?_
          refine wp_exit ?_
          simp only [Exit.then, Exit.inBlock, if_true]
          show Code.wp _ _ _ _ _
          refine wp_seq ?_
          refine wl_region ?_
          refine wl_pure (.agg (aF .u8 64 (outB (itR F13 10) F13 64))) rfl (run_row (hO42.get (.head _)) Tryd.underlying76 rfl (by kernel_rfl) rfl (by kernel_rfl)) ?_
          try simp only [p0, p1, p2, p3]
          refine wl_runs rfl (r_row (L1 := [(g41, 76, (aF .u8 64 (outB (itR F13 10) F13 64))), (g30, 96, (aF .u32 16 (itR F13 10))), (g4, 96, (aF .u32 16 F13))]) (L2 := ((g2, 50, (aF .u8 12 nonce)) :: (g1, 22, (aF .u8 32 key)) :: [])) (cs := (aF .u8 64 zF)) (aF .u8 64 (outB (itR F13 10) F13 64)) rfl (by kernel_rfl) (by kernel_rfl) hO42 (by simp only [size_aF]) (by kernel_rfl) (one_aF _ _ _)) fun _ w45 hO45 => ?_
          clear hO42
          try simp only [List.nil_append, List.cons_append] at hO45
          try simp only [p0, p1, p2, p3]
          refine wl_nil ?_
          show Code.wp _ _ _ _ _
          refine wp_ret ?_
          refine bodyPost_ret (results_cell_row rfl _ _ g3 76 (aF .u8 64 (outB (itR F13 10) F13 64)) (0, 0) _ rfl (hO45.get (.tail _ (.tail _ (.tail _ (.head _))))) Tryd.underlying76 rfl (by kernel_rfl)) rfl ?_
          exact ⟨by unfold blk; rw [eW], hO45.bl⟩
end Go.Proofs.YtkmgdpbmkbpkjaaDoor
