/-
  aead: the lock's tag.
-/
import Derived.Test.YtkmgdpbmkbpkjaaDoorVc
set_option linter.unusedVariables false
set_option linter.unusedSimpArgs false
namespace Go.Proofs.YtkmgdpbmkbpkjaaDoor
open Go.RowKit

def padZ (l : Nat) : Nat := (16 - l % 16) % 16
def catz (f : Nat → Int) (n : Nat) : Nat → Int := fun j => if j < n then f j else 0
theorem catz_zero {q : Option Addr} {n c : Nat} {cs : Array Value} {f : Nat → Int} (h : Buf .u8 1 q n c cs f) : Buf .u8 1 q (n + 0) c cs (catz f n) := h.congr fun j hj => by
  unfold catz
  rw [if_pos (by omega)]
theorem catz_next {q : Option Addr} {n z c : Nat} {cs : Array Value} {f : Nat → Int} (h : Buf .u8 1 q (n + z + 1) c cs (cat (catz f n) (n + z) (lit1 0))) : Buf .u8 1 q (n + (z + 1)) c cs (catz f n) := h.congr fun j hj => by
  unfold cat catz lit1
  by_cases h1 : j < n + z
  · rw [if_pos h1]
  · rw [if_neg h1, if_neg (by omega)]
/-- What a tag is taken of. -/
def lockT (ad : Nat → Int) (l : Nat) (c : Nat → Int) : Nat → Int :=
  lowF (lowF (catz (cat (cat zF 0 ad) 32 c) (32 + l)) (32 + l + padZ l) 32 8) (32 + l + padZ l + 8) (cv .u64 ((l : Nat) : Int)) 8
def sumF (first lf ad : Nat → Int) (l : Nat) (c : Nat → Int) : Nat → Int := tagF (blk first lf (fun zz => lf (32 + zz)) 0) (32 + l + padZ l + 8 + 8) (lockT ad l c)
set_option maxRecDepth 100000 in
set_option maxHeartbeats 8000000 in
theorem lsum_any {first lf ad c : Nat → Int} {ga oa ca l cc : Nat} {qc : Option Addr} {w : World} (hF : RdC w .u32 1 0 4 first) (ha : RdC w .u8 ga oa 32 ad) (hc : RdF w (.slice qc l cc) l c) (hl : l ≤ 100000) :
    Ret Tryd.prog 28 #[.agg (aF .u8 44 lf), .slice (some ⟨ga, oa, none⟩) 32 ca, .slice qc l cc] w (.agg (aF .u8 16 (sumF first lf ad l c))) := by
  unfold Ret
  refine calls_of_wp Tryd.func28 rfl ?_
  simp only [Tryd.ntmps28, List.size_toArray, List.length_cons, List.length_nil, Nat.reduceAdd, Nat.reduceSub, Array.replicate_succ, Array.replicate_zero, List.push_toArray, List.append_toArray, List.nil_append, List.cons_append]
  have hO := Own.nil w
  have hpz : padZ l < 16 := by unfold padZ; omega
  refine wp_seq ?_
  refine wl_region ?_
  refine wl_runs rfl (r_new 52 (aF .u8 44 lf) (by kernel_rfl) hO) fun g1 w1 hO1 => ?_
  clear hO
  try simp only [List.nil_append, List.cons_append] at hO1
  try simp only [p0, p1, p2, p3]
  refine wl_runs rfl (r_new 56 (aF .u8 16 zF) (by kernel_rfl) hO1) fun g2 w2 hO2 => ?_
  clear hO1
  try simp only [List.nil_append, List.cons_append] at hO2
  try simp only [p0, p1, p2, p3]
  refine wl_nil ?_
  show Code.wp _ _ _ _ _
  refine wp_seq ?_
  refine wl_region ?_
  refine wl_pure (.pointer (some ⟨g1, 0, none⟩)) rfl (by kernel_rfl) ?_
  try simp only [p0, p1, p2, p3]
  refine wl_pure (.agg (aF .u8 32 lf)) rfl (run_part (rdc_own1 hO2 (.tail _ (.head _)) 32 (by decide)) Tryd.underlying22 rfl (by kernel_rfl) rfl (by kernel_rfl)) ?_
  try simp only [p0, p1, p2, p3]
  refine wl_pure (.pointer (some ⟨g1, 32, none⟩)) rfl (by kernel_rfl) ?_
  try simp only [p0, p1, p2, p3]
  refine wl_pure (.agg (aF .u8 12 (fun zz => lf (32 + zz)))) rfl (run_part (rdc_own hO2 (.tail _ (.head _)) 32 12 (by decide)) Tryd.underlying50 rfl (by kernel_rfl) rfl (by kernel_rfl)) ?_
  try simp only [p0, p1, p2, p3]
  refine wl_runs rfl (r_call (args := #[.agg (aF .u8 32 lf), .agg (aF .u8 12 (fun zz => lf (32 + zz))), .int .u32 0]) (u := .agg (aF .u8 64 (blk first lf (fun zz => lf (32 + zz)) 0))) (by kernel_rfl) (block_any (first := first) (key := lf) (nonce := (fun zz => lf (32 + zz))) (count := 0) (hF.below hO2.bl)) hO2) fun _ w3 hO3 => ?_
  clear hO2
  try simp only [List.nil_append, List.cons_append] at hO3
  try simp only [p0, p1, p2, p3]
  refine wl_runs rfl (r_new 76 (aF .u8 64 zF) (by kernel_rfl) hO3) fun g4 w4 hO4 => ?_
  clear hO3
  try simp only [List.nil_append, List.cons_append] at hO4
  try simp only [p0, p1, p2, p3]
  refine wl_runs rfl (r_row (L1 := []) (L2 := ((g2, 56, (aF .u8 16 zF)) :: (g1, 52, (aF .u8 44 lf)) :: [])) (cs := (aF .u8 64 zF)) (aF .u8 64 (blk first lf (fun zz => lf (32 + zz)) 0)) rfl (by kernel_rfl) (by kernel_rfl) hO4 (by simp only [size_aF]) (by kernel_rfl) (one_aF _ _ _)) fun _ w5 hO5 => ?_
  clear hO4
  try simp only [List.nil_append, List.cons_append] at hO5
  try simp only [p0, p1, p2, p3]
  refine wl_nil ?_
  show Code.wp _ _ _ _ _
  refine wp_seq ?_
  refine wl_region ?_
  refine wl_pure (.slice none 0 0) rfl (by kernel_rfl) ?_
  try simp only [p0, p1, p2, p3]
  refine wl_nil ?_
  show Code.wp _ _ _ _ _
  refine wp_seq ?_
  refine wp_seq ?_
  refine wl_region ?_
  refine wl_pure (.slice (some ⟨ga, oa, none⟩) 32 ca) rfl (by kernel_rfl) ?_
  try simp only [p0, p1, p2, p3]
  refine wl_pure (.slice qc l cc) rfl (by kernel_rfl) ?_
  try simp only [p0, p1, p2, p3]
  refine wl_runs rfl (r_bs 23 #[.slice (some ⟨ga, oa, none⟩) 32 ca, .slice qc l cc] 2 (by kernel_rfl) hO5) fun g6 w6 hO6 => ?_
  clear hO5
  try simp only [List.nil_append, List.cons_append] at hO6
  try simp only [p0, p1, p2, p3]
  refine wl_pure (.int .i64 2) rfl (by kernel_rfl) ?_
  try simp only [p0, p1, p2, p3]
  refine wl_pure (.int .i64 0) rfl (by kernel_rfl) ?_
  try simp only [p0, p1, p2, p3]
  refine wl_nil ?_
  show Code.wp _ _ _ _ _
  refine wp_block ?_
  refine wp_loop_rounds 3 ?_
  rw [rounds_succ]
  refine wp_seq ?_
  refine wl_region ?_
  refine wl_pure (.bool true) rfl (by kernel_rfl) ?_
  try simp only [p0, p1, p2, p3]
  refine wl_nil ?_
  show Code.wp _ _ _ _ _
  refine wp_seq ?_
  refine wp_cond_true rfl ?_
  refine wp_skip ?_
  show Code.wp _ _ _ _ _
  refine wp_seq ?_
  refine wp_block ?_
  refine wp_seq ?_
  refine wl_region ?_
  refine wl_pure (.pointer (some ⟨g6, 0, none⟩)) rfl (by kernel_rfl) ?_
  try simp only [p0, p1, p2, p3]
  refine wl_pure (.slice (some ⟨ga, oa, none⟩) 32 ca) rfl (run_cell (((hO6.get (.head _)).cell 0).trans rfl) (by kernel_rfl) rfl (by kernel_rfl)) ?_
  try simp only [p0, p1, p2, p3]
  refine wl_pure (.slice (some ⟨ga, oa, none⟩) 32 ca) rfl (by kernel_rfl) ?_
  try simp only [p0, p1, p2, p3]
  refine wl_nil ?_
  show Code.wp _ _ _ _ _
  refine wp_seq ?_
  refine wl_region ?_
  refine wl_pure (.slice none 0 0) rfl (by kernel_rfl) ?_
  try simp only [p0, p1, p2, p3]
  refine wl_pure (.slice (some ⟨ga, oa, none⟩) 32 ca) rfl (by kernel_rfl) ?_
  try simp only [p0, p1, p2, p3]
  refine wl_runs rfl (r_app1 (g' := ga) (o' := oa) (n := 0) (c := 0) (m := 32) (mc := ca) (q := none) (f := zF) (t0 := 0) (t := 23) (tx := 23) (ty := 23) (e := 5) (e' := 5) (cs := #[]) (L := ((g6, 23, #[.slice (some ⟨ga, oa, none⟩) 32 ca, .slice qc l cc]) :: (g4, 76, (aF .u8 64 (blk first lf (fun zz => lf (32 + zz)) 0))) :: (g2, 56, (aF .u8 16 zF)) :: (g1, 52, (aF .u8 44 lf)) :: [])) (s := ad) (by kernel_rfl) Tryd.underlying23 Tryd.underlying23 (by kernel_rfl) (ha.below hO6.bl) (by omega) (by omega) Buf.nil hO6) ?_
  rintro _ w7 ⟨q1b, c1b, t1b, s1b, rfl, hO7, hb1b⟩
  clear hO6
  try simp only [List.nil_append, List.cons_append] at hO7
  try simp only [p0, p1, p2, p3]
  refine wl_pure (.slice q1b 32 c1b) rfl (by kernel_rfl) ?_
  try simp only [p0, p1, p2, p3]
  refine wl_nil ?_
  show Code.wp _ _ _ _ _
  refine wp_block ?_
  refine wp_loop_rounds 1 ?_
  rw [rounds_succ]
  refine wp_seq ?_
  refine wp_seq ?_
  refine wl_region ?_
  refine wl_pure (.slice q1b 32 c1b) rfl (by kernel_rfl) ?_
  try simp only [p0, p1, p2, p3]
  refine wl_pure (.int .i64 32) rfl (by kernel_rfl) ?_
  try simp only [p0, p1, p2, p3]
  refine wl_pure (.int .i64 0) rfl (by kernel_rfl) ?_
  try simp only [p0, p1, p2, p3]
  refine wl_pure (.bool false) rfl (by kernel_rfl) ?_
  try simp only [p0, p1, p2, p3]
  refine wl_nil ?_
  show Code.wp _ _ _ _ _
  refine wp_cond_false rfl ?_
  refine wp_exit ?_
  show Code.wp _ _ _ _ _
  refine wl_region ?_
  refine wl_pure (.int .i64 1) rfl (by kernel_rfl) ?_
  try simp only [p0, p1, p2, p3]
  refine wl_pure (.int .i64 1) rfl (by kernel_rfl) ?_
  try simp only [p0, p1, p2, p3]
  refine wl_nil ?_
  show Code.rounds _ _ _ _ _ _
  rw [rounds_succ]
  refine wp_seq ?_
  refine wl_region ?_
  refine wl_pure (.bool true) rfl (by kernel_rfl) ?_
  try simp only [p0, p1, p2, p3]
  refine wl_nil ?_
  show Code.wp _ _ _ _ _
  refine wp_seq ?_
  refine wp_cond_true rfl ?_
  refine wp_skip ?_
  show Code.wp _ _ _ _ _
  refine wp_seq ?_
  refine wp_block ?_
  refine wp_seq ?_
  refine wl_region ?_
  refine wl_pure (.pointer (some ⟨g6, 1, none⟩)) rfl (by kernel_rfl) ?_
  try simp only [p0, p1, p2, p3]
  refine wl_pure (.slice qc l cc) rfl (run_cell (((hO7.get (.head _)).cell 1).trans rfl) (by kernel_rfl) rfl (by kernel_rfl)) ?_
  try simp only [p0, p1, p2, p3]
  refine wl_pure (.slice qc l cc) rfl (by kernel_rfl) ?_
  try simp only [p0, p1, p2, p3]
  refine wl_nil ?_
  show Code.wp _ _ _ _ _
  refine wp_seq ?_
  refine wl_region ?_
  refine wl_pure (.slice q1b 32 c1b) rfl (by kernel_rfl) ?_
  try simp only [p0, p1, p2, p3]
  refine wl_pure (.slice qc l cc) rfl (by kernel_rfl) ?_
  try simp only [p0, p1, p2, p3]
  refine wl_runs rfl (r_appF (n := 32) (c := c1b) (m := l) (mc := cc) (q := q1b) (f := (cat zF 0 ad)) (t0 := t1b) (t := 23) (tx := 23) (ty := 23) (e := 5) (e' := 5) (cs := s1b) (L := ((g6, 23, #[.slice (some ⟨ga, oa, none⟩) 32 ca, .slice qc l cc]) :: (g4, 76, (aF .u8 64 (blk first lf (fun zz => lf (32 + zz)) 0))) :: (g2, 56, (aF .u8 16 zF)) :: (g1, 52, (aF .u8 44 lf)) :: [])) (q' := qc) (s := c) (by kernel_rfl) Tryd.underlying23 Tryd.underlying23 (by kernel_rfl) (hc.below hO7.bl) (by omega) hb1b hO7) ?_
  rintro _ w8 ⟨q2b, c2b, t2b, s2b, rfl, hO8, hb2b⟩
  clear hO7
  try simp only [List.nil_append, List.cons_append] at hO8
  try simp only [p0, p1, p2, p3]
  refine wl_pure (.slice q2b (32 + l) c2b) rfl (by kernel_rfl) ?_
  try simp only [p0, p1, p2, p3]
  refine wl_nil ?_
  show Code.wp _ _ _ _ _
  go_wp2_with fail
  go_loopw [8] (fun v9_8 wr9 => ∃ (z : Nat) (q' : Option Addr) (c' : Nat) (t' : TypeId) (cs' : Array Value), z ≤ padZ l ∧ Buf .u8 1 q' (32 + l + z) c' cs' (catz (cat (cat zF 0 ad) 32 c) (32 + l)) ∧ v9_8 = .slice q' (32 + l + z) c' ∧ Own w ((g6, 23, #[.slice (some ⟨ga, oa, none⟩) 32 ca, .slice qc l cc]) :: (g4, 76, (aF .u8 64 (blk first lf (fun zz => lf (32 + zz)) 0))) :: (g2, 56, (aF .u8 16 zF)) :: (g1, 52, (aF .u8 44 lf)) :: (buf q' t' cs')) wr9) (fun v9_8 wr9 => 32 + l + 100 - slen v9_8)
  case atStart => exact ⟨0, q2b, c2b, t2b, s2b, by omega, catz_zero hb2b, rfl, hO8⟩
  case round =>
    try clear hO8
    obtain ⟨z, q', c', t', cs', hf9_0, hf9_1, rfl, hO9⟩ := hrel
    by_cases hm9 : ¬ ((32 + l + z) % 16 = 0)
    · have hm9' := hm9
      refine wp_seq ?_
      refine wp_seq ?_
      refine wl_region ?_
      refine wl_pure (.slice q' (32 + l + z) c') rfl (by kernel_rfl) ?_
      try simp only [p0, p1, p2, p3]
      refine wl_pure (.int .i64 (((32 + l + z) : Nat) : Int)) rfl (by kernel_rfl) ?_
      try simp only [p0, p1, p2, p3]
      refine wl_pure (.int .i64 (((32 + l + z) % 16 : Nat) : Int)) rfl (n_rem (k := .i64) rfl (32 + l + z) 16 (by omega) rfl (by kernel_rfl) (by kernel_rfl) _) ?_
      try simp only [p0, p1, p2, p3]
      refine wl_pure (.bool true) rfl (i_gtr (k := .i64) (((32 + l + z) % 16 : Nat) : Int) 0 true (decide_eq_true (by omega)) rfl (by kernel_rfl) (by kernel_rfl) _) ?_
      try simp only [p0, p1, p2, p3]
      refine wl_nil ?_
      show Code.wp _ _ _ _ _
      refine wp_cond_true rfl ?_
      refine wp_skip ?_
      show Code.wp _ _ _ _ _
      refine wp_block ?_
      refine wl_region ?_
      refine wl_pure (.slice q' (32 + l + z) c') rfl (by kernel_rfl) ?_
      try simp only [p0, p1, p2, p3]
      refine wl_runs rfl (r_bs 5 (aF .u8 1 (lit1 0)) 1 (by kernel_rfl) hO9) fun g10 w10 hO10 => ?_
      clear hO9
      try simp only [List.nil_append, List.cons_append] at hO10
      try simp only [p0, p1, p2, p3]
      refine wl_runs rfl (r_app1 (g' := g10) (o' := 0) (n := (32 + l + z)) (c := c') (m := 1) (mc := 1) (q := q') (f := (catz (cat (cat zF 0 ad) 32 c) (32 + l))) (t0 := t') (t := 23) (tx := 23) (ty := 23) (e := 5) (e' := 5) (cs := cs') (L := ((g10, 5, (aF .u8 1 (lit1 0))) :: (g6, 23, #[.slice (some ⟨ga, oa, none⟩) 32 ca, .slice qc l cc]) :: (g4, 76, (aF .u8 64 (blk first lf (fun zz => lf (32 + zz)) 0))) :: (g2, 56, (aF .u8 16 zF)) :: (g1, 52, (aF .u8 44 lf)) :: [])) (s := (lit1 0)) (by kernel_rfl) Tryd.underlying23 Tryd.underlying23 (by kernel_rfl) (rdc_own1 hO10 (.head _) 1 (by decide)) (by omega) (by omega) hf9_1 hO10) ?_
      rintro _ w11 ⟨q3b, c3b, t3b, s3b, rfl, hO11, hb3b⟩
      clear hO10
      try simp only [List.nil_append, List.cons_append] at hO11
      try simp only [p0, p1, p2, p3]
      refine wl_pure (.slice q3b ((32 + l + z) + 1) c3b) rfl (by kernel_rfl) ?_
      try simp only [p0, p1, p2, p3]
      refine wl_nil ?_
      try simp only [Exit.then, Exit.inBlock]
      go_roundw
      case rel => exact ⟨z + 1, q3b, _, t3b, s3b, by have := hf9_0; unfold padZ at this ⊢; omega, (catz_next hb3b), rfl, hO11.tail⟩
      case measure => simp [intOf, slen]; omega
    · have hm9' := hm9
      obtain rfl : z = padZ l := by have := hf9_0; unfold padZ at this ⊢; omega
      refine wp_seq ?_
      refine wp_seq ?_
      refine wl_region ?_
      refine wl_pure (.slice q' (32 + l + (padZ l)) c') rfl (by kernel_rfl) ?_
      try simp only [p0, p1, p2, p3]
      refine wl_pure (.int .i64 (((32 + l + (padZ l)) : Nat) : Int)) rfl (by kernel_rfl) ?_
      try simp only [p0, p1, p2, p3]
      refine wl_pure (.int .i64 (((32 + l + (padZ l)) % 16 : Nat) : Int)) rfl (n_rem (k := .i64) rfl (32 + l + (padZ l)) 16 (by omega) rfl (by kernel_rfl) (by kernel_rfl) _) ?_
      try simp only [p0, p1, p2, p3]
      refine wl_pure (.bool false) rfl (i_gtr (k := .i64) (((32 + l + (padZ l)) % 16 : Nat) : Int) 0 false (decide_eq_false (by omega)) rfl (by kernel_rfl) (by kernel_rfl) _) ?_
      try simp only [p0, p1, p2, p3]
      refine wl_nil ?_
      show Code.wp _ _ _ _ _
      refine wp_cond_false rfl ?_
      refine wp_exit ?_
      simp only [Exit.then, Exit.inBlock, if_true]
      show Code.wp _ _ _ _ _
      refine wl_region ?_
      refine wl_pure (.int .i64 2) rfl (by kernel_rfl) ?_
      try simp only [p0, p1, p2, p3]
      refine wl_pure (.int .i64 2) rfl (by kernel_rfl) ?_
      try simp only [p0, p1, p2, p3]
      refine wl_nil ?_
      show Code.rounds _ _ _ _ _ _
      rw [rounds_succ]
      refine wp_seq ?_
      refine wl_region ?_
      refine wl_pure (.bool false) rfl (by kernel_rfl) ?_
      try simp only [p0, p1, p2, p3]
      refine wl_nil ?_
      show Code.wp _ _ _ _ _
      refine wp_seq ?_
      refine wp_cond_false rfl ?_
      refine wp_exit ?_
      show Code.wp _ _ _ _ _
      refine wp_seq ?_
      refine wl_region ?_
      refine wl_pure (.slice q' (32 + l + padZ l) c') rfl (by kernel_rfl) ?_
      try simp only [p0, p1, p2, p3]
      refine wl_pure (.slice (some ⟨ga, oa, none⟩) 32 ca) rfl (by kernel_rfl) ?_
      try simp only [p0, p1, p2, p3]
      refine wl_pure (.int .i64 32) rfl (by kernel_rfl) ?_
      try simp only [p0, p1, p2, p3]
      refine wl_pure (.int .u64 32) rfl (by kernel_rfl) ?_
      try simp only [p0, p1, p2, p3]
      refine wl_runs rfl (r_ans (args := #[.slice q' (32 + l + padZ l) c', .int .u64 32]) (by kernel_rfl) (low_any (x := 32) (L := ((g6, 23, #[.slice (some ⟨ga, oa, none⟩) 32 ca, .slice qc l cc]) :: (g4, 76, (aF .u8 64 (blk first lf (fun zz => lf (32 + zz)) 0))) :: (g2, 56, (aF .u8 16 zF)) :: (g1, 52, (aF .u8 44 lf)) :: [])) hf9_1 (by have := Nat.mod_lt (16 - l % 16) (show 0 < 16 by decide); unfold padZ; omega) hO9)) ?_
      rintro _ w12 ⟨qlA, clA, tlA, slA, rfl, hO12, hlA⟩
      clear hO9
      try simp only [List.nil_append, List.cons_append] at hO12
      try simp only [p0, p1, p2, p3]
      refine wl_pure (.slice qc l cc) rfl (by kernel_rfl) ?_
      try simp only [p0, p1, p2, p3]
      refine wl_pure (.int .i64 ((l : Nat) : Int)) rfl (by kernel_rfl) ?_
      try simp only [p0, p1, p2, p3]
      refine wl_pure (.int .u64 (cv .u64 ((l : Nat) : Int))) rfl (by kernel_rfl) ?_
      try simp only [p0, p1, p2, p3]
      refine wl_runs rfl (r_ans (args := #[.slice qlA ((32 + l + padZ l) + 8) clA, .int .u64 (cv .u64 ((l : Nat) : Int))]) (by kernel_rfl) (low_any (x := (cv .u64 ((l : Nat) : Int))) (L := ((g6, 23, #[.slice (some ⟨ga, oa, none⟩) 32 ca, .slice qc l cc]) :: (g4, 76, (aF .u8 64 (blk first lf (fun zz => lf (32 + zz)) 0))) :: (g2, 56, (aF .u8 16 zF)) :: (g1, 52, (aF .u8 44 lf)) :: [])) hlA (by have := Nat.mod_lt (16 - l % 16) (show 0 < 16 by decide); unfold padZ; omega) hO12)) ?_
      rintro _ w13 ⟨qlB, clB, tlB, slB, rfl, hO13, hlB⟩
      clear hO12
      try simp only [List.nil_append, List.cons_append] at hO13
      try simp only [p0, p1, p2, p3]
      refine wl_pure (.slice qlB (((32 + l + padZ l) + 8) + 8) clB) rfl (by kernel_rfl) ?_
      try simp only [p0, p1, p2, p3]
      refine wl_nil ?_
      show Code.wp _ _ _ _ _
      refine wp_seq ?_
      refine wl_region ?_
      refine wl_pure (.slice (some ⟨g4, 0, none⟩) 32 64) rfl (by kernel_rfl) ?_
      try simp only [p0, p1, p2, p3]
      refine wl_pure (.pointer (some ⟨g4, 0, none⟩)) rfl (by kernel_rfl) ?_
      try simp only [p0, p1, p2, p3]
      refine wl_pure (.agg (aF .u8 32 (blk first lf (fun zz => lf (32 + zz)) 0))) rfl (run_part (rdc_own1 hO13 (.tail _ (.head _)) 32 (by decide)) Tryd.underlying22 rfl (by kernel_rfl) rfl (by kernel_rfl)) ?_
      try simp only [p0, p1, p2, p3]
      refine wl_pure (.slice qlB (((32 + l + padZ l) + 8) + 8) clB) rfl (by kernel_rfl) ?_
      try simp only [p0, p1, p2, p3]
      refine wl_runs rfl (r_call (args := #[.agg (aF .u8 32 (blk first lf (fun zz => lf (32 + zz)) 0)), .slice qlB (((32 + l + padZ l) + 8) + 8) clB]) (u := .agg (aF .u8 16 (sumF first lf ad l c))) (by kernel_rfl) (tagsum_any (key := blk first lf (fun zz => lf (32 + zz)) 0) (l := 32 + l + padZ l + 8 + 8) (b := lockT ad l c) (Rd.rdf (t := tlB) hlB.rd hO13 (by intro g e; subst e; simp [buf])) (by have := Nat.mod_lt (16 - l % 16) (show 0 < 16 by decide); unfold padZ; omega)) hO13) fun _ w14 hO14 => ?_
      clear hO13
      try simp only [List.nil_append, List.cons_append] at hO14
      try simp only [p0, p1, p2, p3]
      refine wl_runs rfl (r_row (L1 := [(g6, 23, #[.slice (some ⟨ga, oa, none⟩) 32 ca, .slice qc l cc]), (g4, 76, (aF .u8 64 (blk first lf (fun zz => lf (32 + zz)) 0)))]) (L2 := ((g1, 52, (aF .u8 44 lf)) :: (buf qlB tlB slB))) (cs := (aF .u8 16 zF)) (aF .u8 16 (sumF first lf ad l c)) rfl (by kernel_rfl) (by kernel_rfl) hO14 (by simp only [size_aF]) (by kernel_rfl) (one_aF _ _ _)) fun _ w15 hO15 => ?_
      clear hO14
      try simp only [List.nil_append, List.cons_append] at hO15
      try simp only [p0, p1, p2, p3]
      refine wl_nil ?_
      show Code.wp _ _ _ _ _
      refine wp_ret ?_
      refine bodyPost_ret (results_cell_row rfl _ _ g2 56 (aF .u8 16 (sumF first lf ad l c)) (0, 0) _ rfl (hO15.get (.tail _ (.tail _ (.head _)))) Tryd.underlying56 rfl (by kernel_rfl)) rfl ?_
      exact ⟨rfl, hO15.bl⟩
end Go.Proofs.YtkmgdpbmkbpkjaaDoor
