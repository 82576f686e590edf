/-
  HMAC.
-/
import Derived.Test.YtkmgdpbmkbpkjaaDoorWt
set_option linter.unusedVariables false
set_option linter.unusedSimpArgs false
namespace Go.Proofs.YtkmgdpbmkbpkjaaDoor
open Go.RowKit

def padW (f : Nat → Int) (by_ : Int) : Nat → (Nat → Int)
  | 0 => f
  | i + 1 => upd (padW f by_ i) i (ix .u8 (padW f by_ i i) by_)
/-- A key's block. -/
def kp (k : Nat → Int) (by_ : Int) : Nat → Int := padW (cpy zF 0 32 k) by_ 64
def keyS (K S k : Nat → Int) (by_ : Int) : Nat → Int := wrS K S zF 0 zF 64 (kp k by_)
def keyF (k : Nat → Int) (by_ : Int) : Nat → Int := wrF 0 zF 64 (kp k by_)
def keyN : Int := wrN 0 64
theorem wrM_lt (m l : Nat) : wrM m l < 64 := by unfold wrM; omega
set_option maxRecDepth 100000 in
set_option maxHeartbeats 4000000 in
theorem keyed_any {K S k : Nat → Int} {g o c t2 t3 : Nat} {by_ : Int} {w : World} (hS : Bk w 2 t2 (aF .u32 8 S)) (hK : Bk w 3 t3 (aF .u32 64 K)) (hk : RdC w .u8 g o 32 k) :
    Dig Tryd.prog 57 #[.slice (some ⟨g, o, none⟩) 32 c, .int .u8 by_] w (keyS K S k by_) (wrM 0 64) (keyF k by_) keyN := by
  unfold Dig Ans
  refine calls_of_wp Tryd.func57 rfl ?_
  simp only [Tryd.ntmps57, List.size_toArray, List.length_cons, List.length_nil, Nat.reduceAdd, Nat.reduceSub, Array.replicate_succ, Array.replicate_zero, List.push_toArray, List.append_toArray, List.nil_append, List.cons_append]
  have hO := Own.nil w
  refine wp_seq ?_
  refine wl_region ?_
  refine wl_runs rfl (r_new 91 (dg zF (.slice none 0 0) 0) (by kernel_rfl) hO) fun g1 w1 hO1 => ?_
  clear hO
  try simp only [List.nil_append, List.cons_append] at hO1
  try simp only [p0, p1, p2, p3]
  refine wl_nil ?_
  show Code.wp _ _ _ _ _
  refine wp_seq ?_
  refine wp_seq ?_
  refine wl_region ?_
  refine wl_pure (.slice (some ⟨g, o, none⟩) 32 c) rfl (by kernel_rfl) ?_
  try simp only [p0, p1, p2, p3]
  refine wl_pure (.int .i64 32) rfl (by kernel_rfl) ?_
  try simp only [p0, p1, p2, p3]
  refine wl_pure (.bool false) rfl (by kernel_rfl) ?_
  try simp only [p0, p1, p2, p3]
  refine wl_nil ?_
  show Code.wp _ _ _ _ _
  refine wp_cond_false rfl ?_
  refine wp_skip ?_
  show Code.wp _ _ _ _ _
  refine wp_seq ?_
  refine wl_region ?_
  refine wl_runs rfl (r_new 76 (aF .u8 64 zF) (by kernel_rfl) hO1) fun g2 w2 hO2 => ?_
  clear hO1
  try simp only [List.nil_append, List.cons_append] at hO2
  try simp only [p0, p1, p2, p3]
  refine wl_nil ?_
  show Code.wp _ _ _ _ _
  refine wp_seq ?_
  refine wl_region ?_
  refine wl_pure (.slice (some ⟨g2, 0, none⟩) 64 64) rfl (by kernel_rfl) ?_
  try simp only [p0, p1, p2, p3]
  refine wl_pure (.slice (some ⟨g, o, none⟩) 32 c) rfl (by kernel_rfl) ?_
  try simp only [p0, p1, p2, p3]
  refine wl_runs rfl (r_copy (L1 := []) (L2 := ((g1, 91, (dg zF (.slice none 0 0) 0)) :: [])) (k := .u8) (f := zF) (n := 64) (d := 0) (m := 32) (s := k) (dL := 64) (dC := 64) (sL := 32) (sC := c) (dT := 23) (sT := 23) (ty := 3) (hk.below hO2.bl) (by decide) (by decide) (by kernel_rfl) Tryd.underlying23 (by kernel_rfl) hO2) fun _ w3 hO3 => ?_
  clear hO2
  try simp only [List.nil_append, List.cons_append] at hO3
  try simp only [p0, p1, p2, p3]
  refine wl_nil ?_
  show Code.wp _ _ _ _ _
  refine wp_seq ?_
  refine wp_seq ?_
  refine wl_region ?_
  refine wl_pure (.int .i64 0) rfl (by kernel_rfl) ?_
  try simp only [p0, p1, p2, p3]
  refine wl_nil ?_
  show Code.wp _ _ _ _ _
  go_wp2_with fail
  go_loopw [17] (fun v4_17 wr4 => ∃ (i : Nat), i ≤ 64 ∧ v4_17 = .int .i64 ((i : Nat) : Int) ∧ Own w ((g2, 76, (aF .u8 64 (padW (cpy zF 0 32 k) by_ i))) :: (g1, 91, (dg zF (.slice none 0 0) 0)) :: []) wr4) (fun v4_17 wr4 => 64 - (intOf v4_17).toNat)
  case atStart => exact ⟨0, by omega, rfl, hO3⟩
  case round =>
    try clear hO3
    obtain ⟨i, hf4_0, rfl, hO4⟩ := hrel
    by_cases hm4 : i < 64
    · have hm4' := hm4
      refine wp_seq ?_
      refine wl_region ?_
      refine wl_pure (.bool true) rfl (i_lss (k := .i64) ((i : Nat) : Int) 64 true (decide_eq_true (by omega)) rfl (by kernel_rfl) (by kernel_rfl) _) ?_
      try simp only [p0, p1, p2, p3]
      refine wl_nil ?_
      show Code.wp _ _ _ _ _
      refine wp_seq ?_
      refine wp_cond_true rfl ?_
      refine wp_skip ?_
      show Code.wp _ _ _ _ _
      refine wp_seq ?_
      refine wp_block ?_
      refine wp_seq ?_
      refine wl_region ?_
      refine wl_pure (.int .i64 ((i : Nat) : Int)) rfl (by kernel_rfl) ?_
      try simp only [p0, p1, p2, p3]
      refine wl_pure (.int .i64 ((i : Nat) : Int)) rfl (by kernel_rfl) ?_
      try simp only [p0, p1, p2, p3]
      refine wl_nil ?_
      show Code.wp _ _ _ _ _
      refine wl_region ?_
      refine wl_pure (.int .i64 ((i : Nat) : Int)) rfl (by kernel_rfl) ?_
      try simp only [p0, p1, p2, p3]
      refine wl_pure (.pointer (some ⟨g2, i, none⟩)) rfl (p_idx0 Tryd.underlying76 (by kernel_rfl) i (by omega) rfl (by kernel_rfl) (by kernel_rfl) _) ?_
      try simp only [p0, p1, p2, p3]
      refine wl_pure (.int .u8 ((padW (cpy zF 0 32 k) by_ i) i)) rfl (run_cell (own_cell hO4 (.head _) i (by omega)) (by kernel_rfl) rfl (by kernel_rfl)) ?_
      try simp only [p0, p1, p2, p3]
      refine wl_pure (.int .u8 by_) rfl (by kernel_rfl) ?_
      try simp only [p0, p1, p2, p3]
      refine wl_pure (.int .u8 (ix .u8 ((padW (cpy zF 0 32 k) by_ i) i) by_)) rfl (by kernel_rfl) ?_
      try simp only [p0, p1, p2, p3]
      refine wl_pure (.pointer (some ⟨g2, i, none⟩)) rfl (p_idx0 Tryd.underlying76 (by kernel_rfl) i (by omega) rfl (by kernel_rfl) (by kernel_rfl) _) ?_
      try simp only [p0, p1, p2, p3]
      refine wl_runs rfl (r_st (L1 := []) (L2 := ((g1, 91, (dg zF (.slice none 0 0) 0)) :: [])) (f := (padW (cpy zF 0 32 k) by_ i)) (n := 64) i (ix .u8 ((padW (cpy zF 0 32 k) by_ i) i) by_) (by omega) rfl (by kernel_rfl) (by kernel_rfl) hO4 (by kernel_rfl)) fun _ w5 hO5 => ?_
      clear hO4
      try simp only [List.nil_append, List.cons_append] at hO5
      try simp only [p0, p1, p2, p3]
      refine wl_nil ?_
      show Code.wp _ _ _ _ _
      refine wl_region ?_
      refine wl_pure (.int .i64 ((i + 1 : Nat) : Int)) rfl (n_add (k := .i64) rfl i 1 (by omega) rfl (by kernel_rfl) (by kernel_rfl) _) ?_
      try simp only [p0, p1, p2, p3]
      refine wl_pure (.int .i64 ((i + 1 : Nat) : Int)) rfl (by kernel_rfl) ?_
      try simp only [p0, p1, p2, p3]
      refine wl_nil ?_
      try simp only [Exit.then, Exit.inBlock]
      go_roundw
      case rel => exact ⟨i + 1, by omega, rfl, hO5⟩
      case measure => simp [intOf]; omega
    · have hm4' := hm4
      obtain rfl : i = 64 := by omega
      refine wp_seq ?_
      refine wl_region ?_
      refine wl_pure (.bool false) rfl (by kernel_rfl) ?_
      try simp only [p0, p1, p2, p3]
      refine wl_nil ?_
      show Code.wp _ _ _ _ _
      refine wp_seq ?_
      refine wp_cond_false rfl ?_
      refine wp_exit ?_
      simp only [Exit.then, Exit.inBlock, if_true]
      show Code.wp _ _ _ _ _
      refine wp_seq ?_
      refine wl_region ?_
      refine wl_pure (.agg (dg zF (.slice none 0 0) 0)) rfl (by kernel_rfl) ?_
      try simp only [p0, p1, p2, p3]
      refine wl_pure (.slice (some ⟨g2, 0, none⟩) 64 64) rfl (by kernel_rfl) ?_
      try simp only [p0, p1, p2, p3]
      refine wl_runs rfl (r_dig (args := #[.agg (dg zF (.slice none 0 0) 0), .slice (some ⟨g2, 0, none⟩) 64 64]) (by kernel_rfl) (write_any (K := K) (S := S) (s := zF) (f := zF) (b := kp k by_) (q := none) (qb := some ⟨g2, 0, none⟩) (m := 0) (c := 0) (l := 64) (cb := 64) (t2 := t2) (t3 := t3) (n := 0) (hS.under hO4.bl) (hK.under hO4.bl) (.inl ⟨rfl, none, 0, rfl⟩) (RdC.rdf (rdc_own1 hO4 (.head _) 64 (by decide)) (by decide)) (by decide)) hO4) ?_
      rintro _ w6 ⟨p1x, c1x, q1x, t1x, s1x, rfl, hO6, hB1x⟩
      clear hO4
      try simp only [List.nil_append, List.cons_append] at hO6
      try simp only [p0, p1, p2, p3]
      refine wl_runs rfl (r_row (L1 := [(g2, 76, (aF .u8 64 (padW (cpy zF 0 32 k) by_ 64)))]) (L2 := ((buf q1x t1x s1x))) (cs := (dg zF (.slice none 0 0) 0)) (dg (keyS K S k by_) (.slice p1x (wrM 0 64) c1x) keyN) rfl (by kernel_rfl) (by kernel_rfl) hO6 (by simp only [dg_size]) (by kernel_rfl) (dg_one rfl)) fun _ w7 hO7 => ?_
      clear hO6
      try simp only [List.nil_append, List.cons_append] at hO7
      try simp only [p0, p1, p2, p3]
      refine wl_nil ?_
      show Code.wp _ _ _ _ _
      refine wp_ret ?_
      refine bodyPost_ret (results_cell_row rfl _ _ g1 91 (dg (keyS K S k by_) (.slice p1x (wrM 0 64) c1x) keyN) (0, 0) _ rfl (hO7.get (.tail _ (.head _))) Tryd.underlying91 rfl (by kernel_rfl)) rfl ?_
      exact ⟨_, rfl, p1x, c1x, q1x, t1x, s1x, rfl, hO7.tail.tail, hB1x⟩
def hmac1 (K S k : Nat → Int) (by_ : Int) (l : Nat) (b : Nat → Int) : Nat → Int :=
  dsum K S (wrS K S (keyS K S k by_) (wrM 0 64) (keyF k by_) l b) (wrM (wrM 0 64) l) (wrF (wrM 0 64) (keyF k by_) l b) (wrN keyN l)
def hmac (K S k : Nat → Int) (l : Nat) (b : Nat → Int) : Nat → Int := hmac1 K S k 92 32 (hmac1 K S k 54 l b)
set_option maxRecDepth 100000 in
set_option maxHeartbeats 4000000 in
theorem hmac_any {K S k b : Nat → Int} {g o c l cb t2 t3 : Nat} {qb : Option Addr} {w : World} (hS : Bk w 2 t2 (aF .u32 8 S)) (hK : Bk w 3 t3 (aF .u32 64 K)) (hk : RdC w .u8 g o 32 k) (hb : RdF w (.slice qb l cb) l b) (hl : l ≤ 900000) :
    Ret Tryd.prog 42 #[.slice (some ⟨g, o, none⟩) 32 c, .slice qb l cb] w (.agg (aF .u8 32 (hmac K S k l b))) := by
  unfold Ret
  refine calls_of_wp Tryd.func42 rfl ?_
  simp only [Tryd.ntmps42, List.size_toArray, List.length_cons, List.length_nil, Nat.reduceAdd, Nat.reduceSub, Array.replicate_succ, Array.replicate_zero, List.push_toArray, List.append_toArray, List.nil_append, List.cons_append]
  have hO := Own.nil w
  refine wp_seq ?_
  refine wl_region ?_
  refine wl_runs rfl (r_new 22 (aF .u8 32 zF) (by kernel_rfl) hO) fun g1 w1 hO1 => ?_
  clear hO
  try simp only [List.nil_append, List.cons_append] at hO1
  try simp only [p0, p1, p2, p3]
  refine wl_nil ?_
  show Code.wp _ _ _ _ _
  refine wp_seq ?_
  refine wl_region ?_
  refine wl_pure (.slice (some ⟨g, o, none⟩) 32 c) rfl (by kernel_rfl) ?_
  try simp only [p0, p1, p2, p3]
  refine wl_runs rfl (r_dig (args := #[.slice (some ⟨g, o, none⟩) 32 c, .int .u8 54]) (by kernel_rfl) (keyed_any (K := K) (S := S) (k := k) (t2 := t2) (t3 := t3) (by_ := 54) (hS.under hO1.bl) (hK.under hO1.bl) (hk.below hO1.bl)) hO1) ?_
  rintro _ w2 ⟨p1x, c1x, q1x, t1x, s1x, rfl, hO2, hB1x⟩
  clear hO1
  try simp only [List.nil_append, List.cons_append] at hO2
  try simp only [p0, p1, p2, p3]
  refine wl_pure (.slice qb l cb) rfl (by kernel_rfl) ?_
  try simp only [p0, p1, p2, p3]
  refine wl_runs rfl (r_dig (args := #[.agg (dg (keyS K S k 54) (.slice p1x (wrM 0 64) c1x) keyN), .slice qb l cb]) (by kernel_rfl) (write_any (K := K) (S := S) (s := (keyS K S k 54)) (f := (keyF k 54)) (b := b) (q := p1x) (qb := qb) (m := (wrM 0 64)) (c := c1x) (l := l) (cb := cb) (t2 := t2) (t3 := t3) (n := keyN) (hS.under hO2.bl) (hK.under hO2.bl) (Rd.rdf (t := t1x) hB1x hO2 (by intro g e; subst e; simp [buf])) (hb.below hO2.bl) (by have := wrM_lt 0 64; omega)) hO2) ?_
  rintro _ w3 ⟨p2x, c2x, q2x, t2x, s2x, rfl, hO3, hB2x⟩
  clear hO2
  try simp only [List.nil_append, List.cons_append] at hO3
  try simp only [p0, p1, p2, p3]
  refine wl_runs rfl (r_call (args := #[.agg (dg (wrS K S (keyS K S k 54) (wrM 0 64) (keyF k 54) l b) (.slice p2x (wrM (wrM 0 64) l) c2x) (wrN keyN l))]) (u := .agg (aF .u8 32 (dsum K S (wrS K S (keyS K S k 54) (wrM 0 64) (keyF k 54) l b) (wrM (wrM 0 64) l) (wrF (wrM 0 64) (keyF k 54) l b) (wrN keyN l)))) (by kernel_rfl) (dsum_any (K := K) (S := S) (s := (wrS K S (keyS K S k 54) (wrM 0 64) (keyF k 54) l b)) (f := (wrF (wrM 0 64) (keyF k 54) l b)) (m := (wrM (wrM 0 64) l)) (n := (wrN keyN l)) (t2 := t2) (t3 := t3) (hS.under hO3.bl) (hK.under hO3.bl) (Rd.rdf (t := t2x) hB2x hO3 (by intro g e; subst e; simp [buf])) (wrM_lt _ _)) hO3) fun _ w4 hO4 => ?_
  clear hO3
  try simp only [List.nil_append, List.cons_append] at hO4
  try simp only [p0, p1, p2, p3]
  refine wl_runs rfl (r_new 22 (aF .u8 32 zF) (by kernel_rfl) hO4) fun g5 w5 hO5 => ?_
  clear hO4
  try simp only [List.nil_append, List.cons_append] at hO5
  try simp only [p0, p1, p2, p3]
  refine wl_runs rfl (r_row (L1 := []) (L2 := ((g1, 22, (aF .u8 32 zF)) :: ((buf q1x t1x s1x) ++ buf q2x t2x s2x))) (cs := (aF .u8 32 zF)) (aF .u8 32 (dsum K S (wrS K S (keyS K S k 54) (wrM 0 64) (keyF k 54) l b) (wrM (wrM 0 64) l) (wrF (wrM 0 64) (keyF k 54) l b) (wrN keyN l))) rfl (by kernel_rfl) (by kernel_rfl) hO5 (by simp only [size_aF]) (by kernel_rfl) (one_aF _ _ _)) fun _ w6 hO6 => ?_
  clear hO5
  try simp only [List.nil_append, List.cons_append] at hO6
  try simp only [p0, p1, p2, p3]
  refine wl_nil ?_
  show Code.wp _ _ _ _ _
  refine wp_seq ?_
  refine wd_region [5] (Tr.ofList [(0, 1), (2, 1), (1, 3), (3, 3), (4, 3), (5, 4)] .nil) (by decide) (by kernel_rfl) (by kernel_rfl) hO6 fun w7 hO7 => ?_
  simp only [Tr.ofList]
  try clear hO6
  refine wd_ld (.slice (some ⟨g, o, none⟩) 32 c) rfl (some 11) (by kernel_rfl) (by kernel_rfl) (fun _ hw => by kernel_rfl) hO7 ?_
  try simp only [p0, p1, p2, p3]
  refine wd_ld (.slice (some ⟨g5, 0, none⟩) 32 32) rfl (some 13) (by kernel_rfl) (by kernel_rfl) (fun _ hw => by kernel_rfl) hO7 ?_
  try simp only [p0, p1, p2, p3]
  refine wd_runs rfl (some 12) (by kernel_rfl) rfl (r_dig (args := #[.slice (some ⟨g, o, none⟩) 32 c, .int .u8 92]) (by kernel_rfl) (keyed_any (K := K) (S := S) (k := k) (t2 := t2) (t3 := t3) (by_ := 92) (hS.under hO7.bl) (hK.under hO7.bl) (hk.below hO7.bl)) hO7) (by rintro _ _ ⟨p3x, c3x, q3x, t3x, s3x, rfl, h, hB3x⟩; exact (Own.sub h (.cons_cons _ (.cons_cons _ (List.sublist_append_left _ _))))) ?_
  rintro _ w8 ⟨p3x, c3x, q3x, t3x, s3x, rfl, hO8, hB3x⟩
  clear hO7
  try simp only [List.nil_append, List.cons_append] at hO8
  try simp only [p0, p1, p2, p3]
  refine wd_runs rfl (some 14) (by kernel_rfl) rfl (r_dig (args := #[.agg (dg (keyS K S k 92) (.slice p3x (wrM 0 64) c3x) keyN), .slice (some ⟨g5, 0, none⟩) 32 32]) (by kernel_rfl) (write_any (K := K) (S := S) (s := (keyS K S k 92)) (f := (keyF k 92)) (b := (dsum K S (wrS K S (keyS K S k 54) (wrM 0 64) (keyF k 54) l b) (wrM (wrM 0 64) l) (wrF (wrM 0 64) (keyF k 54) l b) (wrN keyN l))) (q := p3x) (qb := some ⟨g5, 0, none⟩) (m := (wrM 0 64)) (c := c3x) (l := 32) (cb := 32) (t2 := t2) (t3 := t3) (n := keyN) (hS.under hO8.bl) (hK.under hO8.bl) (Rd.rdf (t := t3x) hB3x hO8 (by intro g e; subst e; simp [buf])) (RdC.rdf (rdc_own1 hO8 (.head _) 32 (by decide)) (by decide)) (by have := wrM_lt 0 64; omega)) hO8) (by rintro _ _ ⟨p4x, c4x, q4x, t4x, s4x, rfl, h, hB4x⟩; exact (Own.sub h (.cons_cons _ (.cons_cons _ ((List.sublist_append_left _ _).trans (List.sublist_append_left _ _)))))) ?_
  rintro _ w9 ⟨p4x, c4x, q4x, t4x, s4x, rfl, hO9, hB4x⟩
  clear hO8
  try simp only [List.nil_append, List.cons_append] at hO9
  try simp only [p0, p1, p2, p3]
  refine wd_runs rfl (some 15) (by kernel_rfl) rfl (r_call (args := #[.agg (dg (wrS K S (keyS K S k 92) (wrM 0 64) (keyF k 92) 32 (dsum K S (wrS K S (keyS K S k 54) (wrM 0 64) (keyF k 54) l b) (wrM (wrM 0 64) l) (wrF (wrM 0 64) (keyF k 54) l b) (wrN keyN l))) (.slice p4x (wrM (wrM 0 64) 32) c4x) (wrN keyN 32))]) (u := .agg (aF .u8 32 (dsum K S (wrS K S (keyS K S k 92) (wrM 0 64) (keyF k 92) 32 (dsum K S (wrS K S (keyS K S k 54) (wrM 0 64) (keyF k 54) l b) (wrM (wrM 0 64) l) (wrF (wrM 0 64) (keyF k 54) l b) (wrN keyN l))) (wrM (wrM 0 64) 32) (wrF (wrM 0 64) (keyF k 92) 32 (dsum K S (wrS K S (keyS K S k 54) (wrM 0 64) (keyF k 54) l b) (wrM (wrM 0 64) l) (wrF (wrM 0 64) (keyF k 54) l b) (wrN keyN l))) (wrN keyN 32)))) (by kernel_rfl) (dsum_any (K := K) (S := S) (s := (wrS K S (keyS K S k 92) (wrM 0 64) (keyF k 92) 32 (dsum K S (wrS K S (keyS K S k 54) (wrM 0 64) (keyF k 54) l b) (wrM (wrM 0 64) l) (wrF (wrM 0 64) (keyF k 54) l b) (wrN keyN l)))) (f := (wrF (wrM 0 64) (keyF k 92) 32 (dsum K S (wrS K S (keyS K S k 54) (wrM 0 64) (keyF k 54) l b) (wrM (wrM 0 64) l) (wrF (wrM 0 64) (keyF k 54) l b) (wrN keyN l)))) (m := (wrM (wrM 0 64) 32)) (n := (wrN keyN 32)) (t2 := t2) (t3 := t3) (hS.under hO9.bl) (hK.under hO9.bl) (Rd.rdf (t := t4x) hB4x hO9 (by intro g e; subst e; simp [buf])) (wrM_lt _ _)) hO9) (fun _ _ h => (Own.sub h (.cons_cons _ (.cons_cons _ ((List.sublist_append_left _ _).trans (List.sublist_append_left _ _)))))) fun _ w10 hO10 => ?_
  clear hO9
  try simp only [List.nil_append, List.cons_append] at hO10
  try simp only [p0, p1, p2, p3]
  refine wd_runx rfl none (by kernel_rfl) rfl (r_row (L1 := [(g5, 22, (aF .u8 32 (dsum K S (wrS K S (keyS K S k 54) (wrM 0 64) (keyF k 54) l b) (wrM (wrM 0 64) l) (wrF (wrM 0 64) (keyF k 54) l b) (wrN keyN l))))]) (L2 := (((((buf q1x t1x s1x) ++ buf q2x t2x s2x) ++ buf q3x t3x s3x) ++ buf q4x t4x s4x))) (cs := (aF .u8 32 zF)) (aF .u8 32 (dsum K S (wrS K S (keyS K S k 92) (wrM 0 64) (keyF k 92) 32 (dsum K S (wrS K S (keyS K S k 54) (wrM 0 64) (keyF k 54) l b) (wrM (wrM 0 64) l) (wrF (wrM 0 64) (keyF k 54) l b) (wrN keyN l))) (wrM (wrM 0 64) 32) (wrF (wrM 0 64) (keyF k 92) 32 (dsum K S (wrS K S (keyS K S k 54) (wrM 0 64) (keyF k 54) l b) (wrM (wrM 0 64) l) (wrF (wrM 0 64) (keyF k 54) l b) (wrN keyN l))) (wrN keyN 32))) rfl (by kernel_rfl) (by kernel_rfl) hO10 (by simp only [size_aF]) (by kernel_rfl) (one_aF _ _ _)) fun _ w11 hO11 => ?_
  clear hO10
  try simp only [List.nil_append, List.cons_append] at hO11
  try simp only [p0, p1, p2, p3]
  refine wd_nil ?_
  show Code.wp _ _ _ _ _
  refine wp_ret ?_
  refine bodyPost_ret (results_cell_row rfl _ _ g1 22 (aF .u8 32 (dsum K S (wrS K S (keyS K S k 92) (wrM 0 64) (keyF k 92) 32 (dsum K S (wrS K S (keyS K S k 54) (wrM 0 64) (keyF k 54) l b) (wrM (wrM 0 64) l) (wrF (wrM 0 64) (keyF k 54) l b) (wrN keyN l))) (wrM (wrM 0 64) 32) (wrF (wrM 0 64) (keyF k 92) 32 (dsum K S (wrS K S (keyS K S k 54) (wrM 0 64) (keyF k 54) l b) (wrM (wrM 0 64) l) (wrF (wrM 0 64) (keyF k 54) l b) (wrN keyN l))) (wrN keyN 32))) (0, 0) _ rfl (hO11.get (.tail _ (.head _))) Tryd.underlying22 rfl (by kernel_rfl)) rfl ?_
  exact ⟨rfl, hO11.bl⟩
set_option maxRecDepth 100000 in
set_option maxHeartbeats 4000000 in
theorem extract_any {K S k b : Nat → Int} {g o c l cb t2 t3 : Nat} {qb : Option Addr} {w : World} (hS : Bk w 2 t2 (aF .u32 8 S)) (hK : Bk w 3 t3 (aF .u32 64 K)) (hk : RdC w .u8 g o 32 k) (hb : RdF w (.slice qb l cb) l b) (hl : l ≤ 900000) :
    Ret Tryd.prog 24 #[.slice (some ⟨g, o, none⟩) 32 c, .slice qb l cb] w (.agg (aF .u8 32 (hmac K S k l b))) := by
  unfold Ret
  refine calls_of_wp Tryd.func24 rfl ?_
  simp only [Tryd.ntmps24, List.size_toArray, List.length_cons, List.length_nil, Nat.reduceAdd, Nat.reduceSub, Array.replicate_succ, Array.replicate_zero, List.push_toArray, List.append_toArray, List.nil_append, List.cons_append]
  have hO := Own.nil w
  refine wp_seq ?_
  refine wl_region ?_
  refine wl_runs rfl (r_new 22 (aF .u8 32 zF) (by kernel_rfl) hO) fun g1 w1 hO1 => ?_
  clear hO
  try simp only [List.nil_append, List.cons_append] at hO1
  try simp only [p0, p1, p2, p3]
  refine wl_nil ?_
  show Code.wp _ _ _ _ _
  refine wp_seq ?_
  refine wl_region ?_
  refine wl_pure (.slice (some ⟨g, o, none⟩) 32 c) rfl (by kernel_rfl) ?_
  try simp only [p0, p1, p2, p3]
  refine wl_pure (.slice qb l cb) rfl (by kernel_rfl) ?_
  try simp only [p0, p1, p2, p3]
  refine wl_runs rfl (r_call (args := #[.slice (some ⟨g, o, none⟩) 32 c, .slice qb l cb]) (u := .agg (aF .u8 32 (hmac K S k l b))) (by kernel_rfl) (hmac_any (K := K) (S := S) (k := k) (b := b) (t2 := t2) (t3 := t3) (hS.under hO1.bl) (hK.under hO1.bl) (hk.below hO1.bl) (hb.below hO1.bl) hl) hO1) fun _ w2 hO2 => ?_
  clear hO1
  try simp only [List.nil_append, List.cons_append] at hO2
  try simp only [p0, p1, p2, p3]
  refine wl_runs rfl (r_row (L1 := []) (L2 := ([])) (cs := (aF .u8 32 zF)) (aF .u8 32 (hmac K S k l b)) rfl (by kernel_rfl) (by kernel_rfl) hO2 (by simp only [size_aF]) (by kernel_rfl) (one_aF _ _ _)) fun _ w3 hO3 => ?_
  clear hO2
  try simp only [List.nil_append, List.cons_append] at hO3
  try simp only [p0, p1, p2, p3]
  refine wl_nil ?_
  show Code.wp _ _ _ _ _
  refine wp_ret ?_
  refine bodyPost_ret (results_cell_row rfl _ _ g1 22 (aF .u8 32 (hmac K S k l b)) (0, 0) _ rfl (hO3.get (.head _)) Tryd.underlying22 rfl (by kernel_rfl)) rfl ?_
  exact ⟨rfl, hO3.bl⟩
end Go.Proofs.YtkmgdpbmkbpkjaaDoor
