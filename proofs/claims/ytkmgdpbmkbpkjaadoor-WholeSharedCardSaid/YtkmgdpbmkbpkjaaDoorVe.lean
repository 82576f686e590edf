/-
  aead: Seal, Open.
-/
import Derived.Test.YtkmgdpbmkbpkjaaDoorVd
import Derived.Test.YtkmgdpbmkbpkjaaDoorWm
set_option linter.unusedVariables false
set_option linter.unusedSimpArgs false
namespace Go.Proofs.YtkmgdpbmkbpkjaaDoor
open Go.RowKit

theorem mv_some {g o l c : Nat} (h : l < c) : mv (some ⟨g, o, none⟩) l c = some ⟨g, o + l, none⟩ := by
  unfold mv
  rw [if_neg (by omega)]
  simp only [Option.map_some, Addr.add]
  by_cases e : l = 0
  · subst e; rfl
  · rw [if_neg e]
theorem RdC.sub {w : World} {k : IntKind} {g o n : Nat} {f : Nat → Int} (h : RdC w k g o n f) (l m : Nat) (hm : l + m ≤ n) : RdC w k g (o + l) m (fun j => f (l + j)) := fun j hj => by
  have := h (l + j) (by omega)
  rwa [← Nat.add_assoc] at this
theorem cat_lo {f s : Nat → Int} {n j : Nat} (h : j < n) : cat f n s j = f j := by unfold cat; rw [if_pos h]
theorem cat_hi {f s : Nat → Int} {n j : Nat} : cat f n s (n + j) = s j := by unfold cat; rw [if_neg (by omega), show n + j - n = j by omega]
def nonL (key : Nat → Int) (n : Int) : Nat → Int := fun zz => lockF key n (32 + zz)
/-- What is hidden; its tag; both. -/
def hidF (first key : Nat → Int) (n : Int) (b : Nat → Int) : Nat → Int := xorF b (ksF first key (nonL key n))
def sealT (first key ad : Nat → Int) (n : Int) (l : Nat) (b : Nat → Int) : Nat → Int := sumF first (lockF key n) ad l (hidF first key n b)
def boxF (first key ad : Nat → Int) (n : Int) (l : Nat) (b : Nat → Int) : Nat → Int := cat (hidF first key n b) l (sealT first key ad n l b)
set_option maxRecDepth 100000 in
set_option maxHeartbeats 8000000 in
theorem seal_any {first key ad b : Nat → Int} {n : Int} {ga oa ca l cb : Nat} {qb : Option Addr} {w : World} (hF : RdC w .u32 1 0 4 first) (ha : RdC w .u8 ga oa 32 ad) (hb : RdF w (.slice qb l cb) l b) (hl : l ≤ 60000) :
    TxtE Tryd.prog 15 #[.agg (aF .u8 32 key), .int .u64 n, .slice (some ⟨ga, oa, none⟩) 32 ca, .slice qb l cb] w (l + 16) (boxF first key ad n l b) := by
  unfold TxtE Ans
  refine calls_of_wp Tryd.func15 rfl ?_
  simp only [Tryd.ntmps15, List.size_toArray, List.length_cons, List.length_nil, Nat.reduceAdd, Nat.reduceSub, Array.replicate_succ, Array.replicate_zero, List.push_toArray, List.append_toArray, List.nil_append, List.cons_append]
  have hO := Own.nil w
  refine wp_seq ?_
  refine wl_region ?_
  refine wl_runs rfl (r_new 22 (aF .u8 32 key) (by kernel_rfl) hO) fun g1 w1 hO1 => ?_
  clear hO
  try simp only [List.nil_append, List.cons_append] at hO1
  try simp only [p0, p1, p2, p3]
  refine wl_pure (.slice none 0 0) rfl (by kernel_rfl) ?_
  try simp only [p0, p1, p2, p3]
  refine wl_pure (.int .i64 0) rfl (by kernel_rfl) ?_
  try simp only [p0, p1, p2, p3]
  refine wl_nil ?_
  show Code.wp _ _ _ _ _
  refine wp_seq ?_
  refine wp_seq ?_
  refine wl_region ?_
  refine wl_pure (.slice (some ⟨ga, oa, none⟩) 32 ca) (by kernel_rfl) (by kernel_rfl) ?_
  try simp only [p0, p1, p2, p3]
  refine wl_pure (.int .i64 32) (by kernel_rfl) (by kernel_rfl) ?_
  try simp only [p0, p1, p2, p3]
  refine wl_pure (.bool false) (by kernel_rfl) (by kernel_rfl) ?_
  try simp only [p0, p1, p2, p3]
  refine wl_pure (.bool false) (by kernel_rfl) (by kernel_rfl) ?_
  try simp only [p0, p1, p2, p3]
  refine wl_pure (.slice qb l cb) (by kernel_rfl) (by kernel_rfl) ?_
  try simp only [p0, p1, p2, p3]
  refine wl_pure (.int .i64 ((l : Nat) : Int)) (by kernel_rfl) (by kernel_rfl) ?_
  try simp only [p0, p1, p2, p3]
  refine wl_pure (.bool false) (by kernel_rfl) (i_gtr (k := .i64) ((l : Nat) : Int) 60000 false (decide_eq_false (by omega)) rfl (by kernel_rfl) (by kernel_rfl) _) ?_
  try simp only [p0, p1, p2, p3]
  refine wl_pure (.bool false) (by kernel_rfl) (by kernel_rfl) ?_
  try simp only [p0, p1, p2, p3]
  refine wl_nil ?_
  show Code.wp _ _ _ _ _
  refine wp_cond_false rfl ?_
  refine wp_skip ?_
  show Code.wp _ _ _ _ _
  refine wp_seq ?_
  refine wl_region ?_
  refine wl_pure (.agg (aF .u8 32 key)) rfl (run_row (hO1.get (.head _)) Tryd.underlying22 rfl (by kernel_rfl) rfl (by kernel_rfl)) ?_
  try simp only [p0, p1, p2, p3]
  refine wl_pure (.int .u64 n) rfl (by kernel_rfl) ?_
  try simp only [p0, p1, p2, p3]
  refine wl_runs rfl (r_call (args := #[.agg (aF .u8 32 key), .int .u64 n]) (u := .agg (aF .u8 44 (lockF key n))) (by kernel_rfl) (locked_any (key := key) (n := n) (w := w1)) hO1) fun _ w2 hO2 => ?_
  clear hO1
  try simp only [List.nil_append, List.cons_append] at hO2
  try simp only [p0, p1, p2, p3]
  refine wl_runs rfl (r_new 52 (aF .u8 44 zF) (by kernel_rfl) hO2) fun g3 w3 hO3 => ?_
  clear hO2
  try simp only [List.nil_append, List.cons_append] at hO3
  try simp only [p0, p1, p2, p3]
  refine wl_runs rfl (r_row (L1 := []) (L2 := ((g1, 22, (aF .u8 32 key)) :: [])) (cs := (aF .u8 44 zF)) (aF .u8 44 (lockF key n)) rfl (by kernel_rfl) (by kernel_rfl) hO3 (by simp only [size_aF]) (by kernel_rfl) (one_aF _ _ _)) fun _ w4 hO4 => ?_
  clear hO3
  try simp only [List.nil_append, List.cons_append] at hO4
  try simp only [p0, p1, p2, p3]
  refine wl_nil ?_
  show Code.wp _ _ _ _ _
  refine wp_seq ?_
  refine wl_region ?_
  refine wl_pure (.agg (aF .u8 32 key)) rfl (run_row (hO4.get (.tail _ (.head _))) Tryd.underlying22 rfl (by kernel_rfl) rfl (by kernel_rfl)) ?_
  try simp only [p0, p1, p2, p3]
  refine wl_pure (.pointer (some ⟨g3, 32, none⟩)) rfl (by kernel_rfl) ?_
  try simp only [p0, p1, p2, p3]
  refine wl_pure (.agg (aF .u8 12 (fun zz => (lockF key n) (32 + zz)))) rfl (run_part (rdc_own hO4 (.head _) 32 12 (by decide)) Tryd.underlying50 rfl (by kernel_rfl) rfl (by kernel_rfl)) ?_
  try simp only [p0, p1, p2, p3]
  refine wl_pure (.slice qb l cb) rfl (by kernel_rfl) ?_
  try simp only [p0, p1, p2, p3]
  refine wl_runs rfl (r_txtE (args := #[.agg (aF .u8 32 key), .agg (aF .u8 12 (fun zz => (lockF key n) (32 + zz))), .int .u32 1, .slice qb l cb]) (by kernel_rfl) (xor_any (first := first) (key := key) (nonce := nonL key n) (b := b) (hF.below hO4.bl) (hb.below hO4.bl) (by omega)) hO4) ?_
  rintro _ w5 ⟨q1x, c1x, t1x, s1x, rfl, hO5, hB1x⟩
  clear hO4
  try simp only [List.nil_append, List.cons_append] at hO5
  try simp only [p0, p1, p2, p3]
  refine wl_pure (.tuple #[.slice q1x l c1x, .int .i64 0]) rfl (by kernel_rfl) ?_
  try simp only [p0, p1, p2, p3]
  refine wl_pure (.slice q1x l c1x) rfl (by kernel_rfl) ?_
  try simp only [p0, p1, p2, p3]
  refine wl_pure (.int .i64 0) rfl (by kernel_rfl) ?_
  try simp only [p0, p1, p2, p3]
  refine wl_pure (.slice q1x l c1x) rfl (by kernel_rfl) ?_
  try simp only [p0, p1, p2, p3]
  refine wl_pure (.int .i64 0) rfl (by kernel_rfl) ?_
  try simp only [p0, p1, p2, p3]
  refine wl_nil ?_
  show Code.wp _ _ _ _ _
  refine wp_seq ?_
  refine wp_seq ?_
  refine wl_region ?_
  refine wl_pure (.int .i64 0) rfl (by kernel_rfl) ?_
  try simp only [p0, p1, p2, p3]
  refine wl_pure (.bool false) rfl (by kernel_rfl) ?_
  try simp only [p0, p1, p2, p3]
  refine wl_nil ?_
  show Code.wp _ _ _ _ _
  refine wp_cond_false rfl ?_
  refine wp_skip ?_
  show Code.wp _ _ _ _ _
  refine wp_seq ?_
  refine wl_region ?_
  refine wl_pure (.agg (aF .u8 44 (lockF key n))) rfl (run_row (hO5.get (.head _)) Tryd.underlying52 rfl (by kernel_rfl) rfl (by kernel_rfl)) ?_
  try simp only [p0, p1, p2, p3]
  refine wl_pure (.slice (some ⟨ga, oa, none⟩) 32 ca) rfl (by kernel_rfl) ?_
  try simp only [p0, p1, p2, p3]
  refine wl_pure (.slice q1x l c1x) rfl (by kernel_rfl) ?_
  try simp only [p0, p1, p2, p3]
  refine wl_runs rfl (r_call (args := #[.agg (aF .u8 44 (lockF key n)), .slice (some ⟨ga, oa, none⟩) 32 ca, .slice q1x l c1x]) (u := .agg (aF .u8 16 (sealT first key ad n l b))) (by kernel_rfl) (lsum_any (first := first) (lf := lockF key n) (ad := ad) (c := hidF first key n b) (hF.below hO5.bl) (ha.below hO5.bl) (Rd.rdf (t := t1x) hB1x.rd hO5 (by intro g e; subst e; simp [buf])) (by omega)) hO5) fun _ w6 hO6 => ?_
  clear hO5
  try simp only [List.nil_append, List.cons_append] at hO6
  try simp only [p0, p1, p2, p3]
  refine wl_runs rfl (r_new 56 (aF .u8 16 zF) (by kernel_rfl) hO6) fun g7 w7 hO7 => ?_
  clear hO6
  try simp only [List.nil_append, List.cons_append] at hO7
  try simp only [p0, p1, p2, p3]
  refine wl_runs rfl (r_row (L1 := []) (L2 := ((g3, 52, (aF .u8 44 (lockF key n))) :: (g1, 22, (aF .u8 32 key)) :: (buf q1x t1x s1x))) (cs := (aF .u8 16 zF)) (aF .u8 16 (sealT first key ad n l b)) rfl (by kernel_rfl) (by kernel_rfl) hO7 (by simp only [size_aF]) (by kernel_rfl) (one_aF _ _ _)) fun _ w8 hO8 => ?_
  clear hO7
  try simp only [List.nil_append, List.cons_append] at hO8
  try simp only [p0, p1, p2, p3]
  refine wl_nil ?_
  show Code.wp _ _ _ _ _
  refine wp_seq ?_
  refine wl_region ?_
  refine wl_pure (.slice q1x l c1x) rfl (by kernel_rfl) ?_
  try simp only [p0, p1, p2, p3]
  refine wl_pure (.slice (some ⟨g7, 0, none⟩) 16 16) rfl (by kernel_rfl) ?_
  try simp only [p0, p1, p2, p3]
  refine wl_runs rfl (r_app1 (g' := g7) (o' := 0) (n := l) (c := c1x) (m := 16) (mc := 16) (q := q1x) (f := (hidF first key n b)) (t0 := t1x) (t := 23) (tx := 23) (ty := 23) (e := 5) (e' := 5) (cs := s1x) (L := ((g7, 56, (aF .u8 16 (sealT first key ad n l b))) :: (g3, 52, (aF .u8 44 (lockF key n))) :: (g1, 22, (aF .u8 32 key)) :: [])) (s := (sealT first key ad n l b)) (by kernel_rfl) Tryd.underlying23 Tryd.underlying23 (by kernel_rfl) (rdc_own1 hO8 (.head _) 16 (by decide)) (by omega) (by omega) hB1x hO8) ?_
  rintro _ w9 ⟨q2b, c2b, t2b, s2b, rfl, hO9, hb2b⟩
  clear hO8
  try simp only [List.nil_append, List.cons_append] at hO9
  try simp only [p0, p1, p2, p3]
  refine wl_pure (.slice q2b (l + 16) c2b) rfl (by kernel_rfl) ?_
  try simp only [p0, p1, p2, p3]
  refine wl_pure (.int .i64 0) rfl (by kernel_rfl) ?_
  try simp only [p0, p1, p2, p3]
  refine wl_nil ?_
  show Code.wp _ _ _ _ _
  refine wp_ret ?_
  refine bodyPost_ret (results_tmp2 rfl _ _ _) rfl ?_
  exact ⟨_, rfl, q2b, c2b, t2b, s2b, rfl, Own.sub hO9 (.cons _ (.cons _ (.cons _ (List.Sublist.refl _)))), hb2b⟩
set_option maxRecDepth 100000 in
set_option maxHeartbeats 8000000 in
theorem open_any {first key ad b : Nat → Int} {n : Int} {ga oa ca l cx : Nat} {qx : Option Addr} {w : World} (hF : RdC w .u32 1 0 4 first) (ha : RdC w .u8 ga oa 32 ad) (hx : RdF w (.slice qx (l + 16) cx) (l + 16) (boxF first key ad n l b)) (hl : l ≤ 60000) :
    TxtE Tryd.prog 16 #[.agg (aF .u8 32 key), .int .u64 n, .slice (some ⟨ga, oa, none⟩) 32 ca, .slice qx (l + 16) cx] w l (xorF (hidF first key n b) (ksF first key (nonL key n))) := by
  unfold TxtE Ans
  obtain ⟨gx, ox, rfl, hcx, hrx⟩ := hx.opened (by omega)
  refine calls_of_wp Tryd.func16 rfl ?_
  simp only [Tryd.ntmps16, List.size_toArray, List.length_cons, List.length_nil, Nat.reduceAdd, Nat.reduceSub, Array.replicate_succ, Array.replicate_zero, List.push_toArray, List.append_toArray, List.nil_append, List.cons_append]
  have hO := Own.nil w
  refine wp_seq ?_
  refine wl_region ?_
  refine wl_runs rfl (r_new 22 (aF .u8 32 key) (by kernel_rfl) hO) fun g1 w1 hO1 => ?_
  clear hO
  try simp only [List.nil_append, List.cons_append] at hO1
  try simp only [p0, p1, p2, p3]
  refine wl_pure (.slice none 0 0) rfl (by kernel_rfl) ?_
  try simp only [p0, p1, p2, p3]
  refine wl_pure (.int .i64 0) rfl (by kernel_rfl) ?_
  try simp only [p0, p1, p2, p3]
  refine wl_nil ?_
  show Code.wp _ _ _ _ _
  refine wp_seq ?_
  refine wl_region ?_
  refine wl_pure (.slice (some ⟨gx, ox, none⟩) (l + 16) cx) rfl (by kernel_rfl) ?_
  try simp only [p0, p1, p2, p3]
  refine wl_pure (.int .i64 (((l + 16) : Nat) : Int)) rfl (by kernel_rfl) ?_
  try simp only [p0, p1, p2, p3]
  refine wl_pure (.int .i64 ((l : Nat) : Int)) rfl ((n_sub (k := .i64) rfl (l + 16) 16 (by omega) rfl (by kernel_rfl) (by kernel_rfl) _).trans (by rw [Nat.add_sub_cancel])) ?_
  try simp only [p0, p1, p2, p3]
  refine wl_pure (.int .i64 ((l : Nat) : Int)) rfl (by kernel_rfl) ?_
  try simp only [p0, p1, p2, p3]
  refine wl_nil ?_
  show Code.wp _ _ _ _ _
  refine wp_seq ?_
  refine wp_block ?_
  refine wp_seq ?_
  refine wl_region ?_
  refine wl_pure (.slice (some ⟨ga, oa, none⟩) 32 ca) (by kernel_rfl) (by kernel_rfl) ?_
  try simp only [p0, p1, p2, p3]
  refine wl_pure (.int .i64 32) (by kernel_rfl) (by kernel_rfl) ?_
  try simp only [p0, p1, p2, p3]
  refine wl_pure (.bool false) (by kernel_rfl) (by kernel_rfl) ?_
  try simp only [p0, p1, p2, p3]
  refine wl_pure (.bool false) (by kernel_rfl) (by kernel_rfl) ?_
  try simp only [p0, p1, p2, p3]
  refine wl_pure (.int .i64 ((l : Nat) : Int)) (by kernel_rfl) (by kernel_rfl) ?_
  try simp only [p0, p1, p2, p3]
  refine wl_pure (.bool false) (by kernel_rfl) (i_gtr (k := .i64) ((l : Nat) : Int) 60000 false (decide_eq_false (by omega)) rfl (by kernel_rfl) (by kernel_rfl) _) ?_
  try simp only [p0, p1, p2, p3]
  refine wl_pure (.bool false) (by kernel_rfl) (by kernel_rfl) ?_
  try simp only [p0, p1, p2, p3]
  refine wl_pure (.bool false) (by kernel_rfl) (by kernel_rfl) ?_
  try simp only [p0, p1, p2, p3]
  refine wl_nil ?_
  show Code.wp _ _ _ _ _
  refine wp_cond_false rfl ?_
  refine wp_seq ?_
  refine wl_region ?_
  refine wl_pure (.int .i64 ((l : Nat) : Int)) rfl (by kernel_rfl) ?_
  try simp only [p0, p1, p2, p3]
  refine wl_pure (.bool false) rfl (i_lss (k := .i64) ((l : Nat) : Int) 0 false (decide_eq_false (by omega)) rfl (by kernel_rfl) (by kernel_rfl) _) ?_
  try simp only [p0, p1, p2, p3]
  refine wl_pure (.bool false) rfl (by kernel_rfl) ?_
  try simp only [p0, p1, p2, p3]
  refine wl_nil ?_
  show Code.wp _ _ _ _ _
  refine wp_cond_false rfl ?_
  refine wp_skip ?_
  show Code.wp _ _ _ _ _
  refine wp_seq ?_
  refine wl_region ?_
  refine wl_pure (.agg (aF .u8 32 key)) rfl (run_row (hO1.get (.head _)) Tryd.underlying22 rfl (by kernel_rfl) rfl (by kernel_rfl)) ?_
  try simp only [p0, p1, p2, p3]
  refine wl_pure (.int .u64 n) rfl (by kernel_rfl) ?_
  try simp only [p0, p1, p2, p3]
  refine wl_runs rfl (r_call (args := #[.agg (aF .u8 32 key), .int .u64 n]) (u := .agg (aF .u8 44 (lockF key n))) (by kernel_rfl) (locked_any (key := key) (n := n) (w := w1)) hO1) fun _ w2 hO2 => ?_
  clear hO1
  try simp only [List.nil_append, List.cons_append] at hO2
  try simp only [p0, p1, p2, p3]
  refine wl_runs rfl (r_new 52 (aF .u8 44 zF) (by kernel_rfl) hO2) fun g3 w3 hO3 => ?_
  clear hO2
  try simp only [List.nil_append, List.cons_append] at hO3
  try simp only [p0, p1, p2, p3]
  refine wl_runs rfl (r_row (L1 := []) (L2 := ((g1, 22, (aF .u8 32 key)) :: [])) (cs := (aF .u8 44 zF)) (aF .u8 44 (lockF key n)) rfl (by kernel_rfl) (by kernel_rfl) hO3 (by simp only [size_aF]) (by kernel_rfl) (one_aF _ _ _)) fun _ w4 hO4 => ?_
  clear hO3
  try simp only [List.nil_append, List.cons_append] at hO4
  try simp only [p0, p1, p2, p3]
  refine wl_nil ?_
  show Code.wp _ _ _ _ _
  refine wp_seq ?_
  refine wp_seq ?_
  refine wd_region [] (Tr.ofList [(0, 1), (1, 1), (2, 1), (3, 1), (4, 1)] (.br 5 6 (Tr.ofList [(6, 3), (7, 3)] .nil) (Tr.ofList [(5, 3), (7, 3)] .nil))) (by decide) (by kernel_rfl) (by kernel_rfl) hO4 fun w5 hO5 => ?_
  simp only [Tr.ofList]
  try clear hO4
  apply wd_cut1 (C := fun (g9 : Nat) wc => Own w ((g9, 56, (aF .u8 16 (sealT first key ad n l b))) :: (g3, 52, (aF .u8 44 (lockF key n))) :: (g1, 22, (aF .u8 32 key)) :: []) wc)
  case h =>
    intro hcut
    refine wd_ld (.agg (aF .u8 44 (lockF key n))) rfl (some 30) (by kernel_rfl) (by kernel_rfl) (fun _ hw => run_row (hw.get (.head _)) Tryd.underlying52 rfl (by kernel_rfl) rfl (by kernel_rfl)) hO5 ?_
    try simp only [p0, p1, p2, p3]
    refine wd_ld (.slice (some ⟨ga, oa, none⟩) 32 ca) rfl (some 31) (by kernel_rfl) (by kernel_rfl) (fun _ hw => by kernel_rfl) hO5 ?_
    try simp only [p0, p1, p2, p3]
    refine wd_ld (.slice (some ⟨gx, ox, none⟩) (l + 16) cx) rfl (some 32) (by kernel_rfl) (by kernel_rfl) (fun _ hw => by kernel_rfl) hO5 ?_
    try simp only [p0, p1, p2, p3]
    refine wd_ld (.int .i64 ((l : Nat) : Int)) rfl (some 33) (by kernel_rfl) (by kernel_rfl) (fun _ hw => by kernel_rfl) hO5 ?_
    try simp only [p0, p1, p2, p3]
    refine wd_ld (.slice (some ⟨gx, ox, none⟩) l cx) rfl (some 34) (by kernel_rfl) (by kernel_rfl) (fun _ hw => s_hi (p := (some ⟨gx, ox, none⟩)) (n := (l + 16)) (c := cx) Tryd.underlying23 (by kernel_rfl) l (by omega) (by kernel_rfl)) hO5 ?_
    try simp only [p0, p1, p2, p3]
    refine wd_br ?_ ?_
    · skip
      refine nx_runs rfl (some 35) (by kernel_rfl) rfl (r_call (args := #[.agg (aF .u8 44 (lockF key n)), .slice (some ⟨ga, oa, none⟩) 32 ca, .slice (some ⟨gx, ox, none⟩) l cx]) (u := .agg (aF .u8 16 (sealT first key ad n l b))) (by kernel_rfl) (lsum_any (first := first) (lf := lockF key n) (ad := ad) (c := hidF first key n b) (hF.below hO5.bl) (ha.below hO5.bl) (RdF.congr (RdC.rdf (RdC.le (hrx.below hO5.bl) (show l ≤ l + 16 by omega)) (by omega)) (fun j hj => cat_lo hj)) (by omega)) hO5) (fun _ _ h => h) fun _ w6 hO6 => ?_
      try clear hO5
      try simp only [List.nil_append, List.cons_append] at hO6
      try simp only [p0, p1, p2, p3]
      refine wd_runs rfl (some 12) (by kernel_rfl) rfl (r_new 56 (aF .u8 16 zF) (by kernel_rfl) hO6) (fun _ _ h => h.tail) fun g7 w7 hO7 => ?_
      try clear hO6
      try simp only [List.nil_append, List.cons_append] at hO7
      try simp only [p0, p1, p2, p3]
      refine wd_runs rfl none (by kernel_rfl) rfl (r_row (L1 := []) (L2 := ((g3, 52, (aF .u8 44 (lockF key n))) :: (g1, 22, (aF .u8 32 key)) :: [])) (cs := (aF .u8 16 zF)) (aF .u8 16 (sealT first key ad n l b)) rfl (by kernel_rfl) (by kernel_rfl) hO7 (by simp only [size_aF]) (by kernel_rfl) (one_aF _ _ _)) (fun _ _ h => h.tail) fun _ w8 hO8 => ?_
      try clear hO7
      try simp only [List.nil_append, List.cons_append] at hO8
      try simp only [p0, p1, p2, p3]
      refine wd_nil ?_
      exact hcut g7 _ (Own.sub hO8 (.cons_cons _ (.cons_cons _ (.cons_cons _ (List.Sublist.refl _)))))
    · skip
      refine nx_runs rfl (some 12) (by kernel_rfl) rfl (r_new 56 (aF .u8 16 zF) (by kernel_rfl) hO5) (fun _ _ h => h.tail) fun g9 w9 hO9 => ?_
      try clear hO5
      try simp only [List.nil_append, List.cons_append] at hO9
      try simp only [p0, p1, p2, p3]
      refine wd_runs rfl (some 35) (by kernel_rfl) rfl (r_call (args := #[.agg (aF .u8 44 (lockF key n)), .slice (some ⟨ga, oa, none⟩) 32 ca, .slice (some ⟨gx, ox, none⟩) l cx]) (u := .agg (aF .u8 16 (sealT first key ad n l b))) (by kernel_rfl) (lsum_any (first := first) (lf := lockF key n) (ad := ad) (c := hidF first key n b) (hF.below hO9.bl) (ha.below hO9.bl) (RdF.congr (RdC.rdf (RdC.le (hrx.below hO9.bl) (show l ≤ l + 16 by omega)) (by omega)) (fun j hj => cat_lo hj)) (by omega)) hO9) (fun _ _ h => h.tail) fun _ w10 hO10 => ?_
      try clear hO9
      try simp only [List.nil_append, List.cons_append] at hO10
      try simp only [p0, p1, p2, p3]
      refine wd_runs rfl none (by kernel_rfl) rfl (r_row (L1 := []) (L2 := ((g3, 52, (aF .u8 44 (lockF key n))) :: (g1, 22, (aF .u8 32 key)) :: [])) (cs := (aF .u8 16 zF)) (aF .u8 16 (sealT first key ad n l b)) rfl (by kernel_rfl) (by kernel_rfl) hO10 (by simp only [size_aF]) (by kernel_rfl) (one_aF _ _ _)) (fun _ _ h => h.tail) fun _ w11 hO11 => ?_
      try clear hO10
      try simp only [List.nil_append, List.cons_append] at hO11
      try simp only [p0, p1, p2, p3]
      refine wd_nil ?_
      exact hcut g9 _ (Own.sub hO11 (.cons_cons _ (.cons_cons _ (.cons_cons _ (List.Sublist.refl _)))))
  intro g9 w12 hO12
  show Code.wp _ _ _ _ _
  refine wp_seq ?_
  refine wd_region [] (Tr.ofList [(0, 1), (1, 1), (2, 1), (3, 1), (4, 3), (5, 1)] .nil) (by decide) (by kernel_rfl) (by kernel_rfl) hO12 fun w13 hO13 => ?_
  simp only [Tr.ofList]
  try clear hO12
  refine wd_ld (.slice (some ⟨g9, 0, none⟩) 16 16) rfl (some 36) (by kernel_rfl) (by kernel_rfl) (fun _ hw => by kernel_rfl) hO13 ?_
  try simp only [p0, p1, p2, p3]
  refine wd_ld (.slice (some ⟨gx, ox, none⟩) (l + 16) cx) rfl (some 37) (by kernel_rfl) (by kernel_rfl) (fun _ hw => by kernel_rfl) hO13 ?_
  try simp only [p0, p1, p2, p3]
  refine wd_ld (.int .i64 ((l : Nat) : Int)) rfl (some 38) (by kernel_rfl) (by kernel_rfl) (fun _ hw => by kernel_rfl) hO13 ?_
  try simp only [p0, p1, p2, p3]
  refine wd_ld (.slice (some ⟨gx, (ox + l), none⟩) 16 (cx - l)) rfl (some 39) (by kernel_rfl) (by kernel_rfl) (fun _ hw => (s_cut (p := some ⟨gx, ox, none⟩) (n := l + 16) (c := cx) Tryd.underlying23 (by kernel_rfl) (some (.int .i64 ((l : Nat) : Int))) none l (l + 16) (.inl rfl) (.inr ⟨rfl, rfl⟩) (by omega) (by kernel_rfl)).trans (by rw [mv_some (by omega), show l + 16 - l = 16 by omega])) hO13 ?_
  try simp only [p0, p1, p2, p3]
  refine wd_runs rfl (some 40) (by kernel_rfl) rfl (r_call (args := #[.slice (some ⟨g9, 0, none⟩) 16 16, .slice (some ⟨gx, (ox + l), none⟩) 16 (cx - l)]) (u := .bool true) (by kernel_rfl) (equal_any (f := sealT first key ad n l b) (rdc_own1 hO13 (.head _) 16 (by decide)) (RdC.congr (RdC.sub (hrx.below hO13.bl) l 16 (Nat.le_refl _)) (fun j hj => cat_hi)) (by decide)) hO13) (fun _ _ h => h) fun _ w14 hO14 => ?_
  clear hO13
  try simp only [List.nil_append, List.cons_append] at hO14
  try simp only [p0, p1, p2, p3]
  refine wd_ld (.bool false) rfl (some 41) (by kernel_rfl) (by kernel_rfl) (fun _ hw => by kernel_rfl) hO14 ?_
  try simp only [p0, p1, p2, p3]
  refine wd_nil ?_
  show Code.wp _ _ _ _ _
  refine wp_cond_false rfl ?_
  refine wp_skip ?_
  show Code.wp _ _ _ _ _
  refine wp_seq ?_
  refine wd_region [] (Tr.ofList [(0, 1), (1, 1), (2, 1), (3, 1), (4, 1), (5, 1), (6, 3), (7, 1), (8, 1), (9, 1), (10, 1)] .nil) (by decide) (by kernel_rfl) (by kernel_rfl) hO14 fun w15 hO15 => ?_
  simp only [Tr.ofList]
  try clear hO14
  refine wd_ld (.agg (aF .u8 32 key)) rfl (some 42) (by kernel_rfl) (by kernel_rfl) (fun _ hw => run_row (hw.get (.tail _ (.tail _ (.head _)))) Tryd.underlying22 rfl (by kernel_rfl) rfl (by kernel_rfl)) hO15 ?_
  try simp only [p0, p1, p2, p3]
  refine wd_ld (.pointer (some ⟨g3, 32, none⟩)) rfl (some 43) (by kernel_rfl) (by kernel_rfl) (fun _ hw => by kernel_rfl) hO15 ?_
  try simp only [p0, p1, p2, p3]
  refine wd_ld (.agg (aF .u8 12 (fun zz => (lockF key n) (32 + zz)))) rfl (some 44) (by kernel_rfl) (by kernel_rfl) (fun _ hw => run_part (rdc_own hw (.tail _ (.head _)) 32 12 (by decide)) Tryd.underlying50 rfl (by kernel_rfl) rfl (by kernel_rfl)) hO15 ?_
  try simp only [p0, p1, p2, p3]
  refine wd_ld (.slice (some ⟨gx, ox, none⟩) (l + 16) cx) rfl (some 45) (by kernel_rfl) (by kernel_rfl) (fun _ hw => by kernel_rfl) hO15 ?_
  try simp only [p0, p1, p2, p3]
  refine wd_ld (.int .i64 ((l : Nat) : Int)) rfl (some 46) (by kernel_rfl) (by kernel_rfl) (fun _ hw => by kernel_rfl) hO15 ?_
  try simp only [p0, p1, p2, p3]
  refine wd_ld (.slice (some ⟨gx, ox, none⟩) l cx) rfl (some 47) (by kernel_rfl) (by kernel_rfl) (fun _ hw => s_hi (p := (some ⟨gx, ox, none⟩)) (n := (l + 16)) (c := cx) Tryd.underlying23 (by kernel_rfl) l (by omega) (by kernel_rfl)) hO15 ?_
  try simp only [p0, p1, p2, p3]
  refine wd_runs rfl (some 48) (by kernel_rfl) rfl (r_txtE (args := #[.agg (aF .u8 32 key), .agg (aF .u8 12 (fun zz => (lockF key n) (32 + zz))), .int .u32 1, .slice (some ⟨gx, ox, none⟩) l cx]) (by kernel_rfl) (xor_any (first := first) (key := key) (nonce := nonL key n) (b := hidF first key n b) (hF.below hO15.bl) (RdF.congr (RdC.rdf (RdC.le (hrx.below hO15.bl) (show l ≤ l + 16 by omega)) (by omega)) (fun j hj => cat_lo hj)) (by omega)) hO15) (by rintro _ _ ⟨q1x, c1x, t1x, s1x, rfl, h, hB1x⟩; exact (Own.sub h (.cons_cons _ (.cons_cons _ (.cons_cons _ (List.nil_sublist _)))))) ?_
  rintro _ w16 ⟨q1x, c1x, t1x, s1x, rfl, hO16, hB1x⟩
  clear hO15
  try simp only [List.nil_append, List.cons_append] at hO16
  try simp only [p0, p1, p2, p3]
  refine wd_ld (.slice q1x l c1x) rfl (some 49) (by kernel_rfl) (by kernel_rfl) (fun _ hw => by kernel_rfl) (Own.sub hO16 (.cons_cons _ (.cons_cons _ (.cons_cons _ (List.nil_sublist _))))) ?_
  try simp only [p0, p1, p2, p3]
  refine wd_ld (.int .i64 0) rfl (some 50) (by kernel_rfl) (by kernel_rfl) (fun _ hw => by kernel_rfl) (Own.sub hO16 (.cons_cons _ (.cons_cons _ (.cons_cons _ (List.nil_sublist _))))) ?_
  try simp only [p0, p1, p2, p3]
  refine wd_ld (.slice q1x l c1x) rfl (some 8) (by kernel_rfl) (by kernel_rfl) (fun _ hw => by kernel_rfl) (Own.sub hO16 (.cons_cons _ (.cons_cons _ (.cons_cons _ (List.nil_sublist _))))) ?_
  try simp only [p0, p1, p2, p3]
  refine wd_ld (.int .i64 0) rfl (some 9) (by kernel_rfl) (by kernel_rfl) (fun _ hw => by kernel_rfl) (Own.sub hO16 (.cons_cons _ (.cons_cons _ (.cons_cons _ (List.nil_sublist _))))) ?_
  try simp only [p0, p1, p2, p3]
  refine wd_nil ?_
  show Code.wp _ _ _ _ _
  refine wp_ret ?_
  refine bodyPost_ret (results_tmp2 rfl _ _ _) rfl ?_
  exact ⟨_, rfl, q1x, c1x, t1x, s1x, rfl, Own.sub hO16 (.cons _ (.cons _ (.cons _ (List.Sublist.refl _)))), hB1x⟩
end Go.Proofs.YtkmgdpbmkbpkjaaDoor
