/-
  SHA-256: Write.
-/
import Derived.Test.YtkmgdpbmkbpkjaaDoorWr
set_option linter.unusedVariables false
set_option linter.unusedSimpArgs false
namespace Go.Proofs.YtkmgdpbmkbpkjaaDoor
open Go.RowKit

set_option maxRecDepth 100000 in
set_option maxHeartbeats 4000000 in
theorem write_any {K S s f b : Nat → Int} {q qb : Option Addr} {m c l cb t2 t3 : Nat} {n : Int} {w : World} (hS : Bk w 2 t2 (aF .u32 8 S)) (hK : Bk w 3 t3 (aF .u32 64 K)) (hd : RdF w (.slice q m c) m f) (hb : RdF w (.slice qb l cb) l b) (hN : m + l ≤ 1000000) :
    Dig Tryd.prog 58 #[.agg (dg s (.slice q m c) n), .slice qb l cb] w (wrS K S s m f l b) (wrM m l) (wrF m f l b) (wrN n l) := by
  unfold Dig Ans
  refine calls_of_wp Tryd.func58 rfl ?_
  simp only [Tryd.ntmps58, List.size_toArray, List.length_cons, List.length_nil, Nat.reduceAdd, Nat.reduceSub, Array.replicate_succ, Array.replicate_zero, List.push_toArray, List.append_toArray, List.nil_append, List.cons_append]
  have hO := Own.nil w
  refine wp_seq ?_
  refine wl_region ?_
  refine wl_runs rfl (r_new 91 (dg s (.slice q m c) n) (by kernel_rfl) hO) fun g1 w1 hO1 => ?_
  clear hO
  try simp only [List.nil_append, List.cons_append] at hO1
  try simp only [p0, p1, p2, p3]
  refine wl_runs rfl (r_new 91 (dg zF (.slice none 0 0) 0) (by kernel_rfl) hO1) fun g2 w2 hO2 => ?_
  clear hO1
  try simp only [List.nil_append, List.cons_append] at hO2
  try simp only [p0, p1, p2, p3]
  refine wl_nil ?_
  show Code.wp _ _ _ _ _
  refine wp_seq ?_
  refine wl_region ?_
  refine wl_pure (.pointer (some ⟨g1, 9, none⟩)) rfl (by kernel_rfl) ?_
  try simp only [p0, p1, p2, p3]
  refine wl_pure (.int .u64 n) rfl (run_cell (((hO2.get (.tail _ (.head _))).cell 9).trans dg_9) (by kernel_rfl) rfl (by kernel_rfl)) ?_
  try simp only [p0, p1, p2, p3]
  refine wl_pure (.slice qb l cb) rfl (by kernel_rfl) ?_
  try simp only [p0, p1, p2, p3]
  refine wl_pure (.int .i64 ((l : Nat) : Int)) rfl (by kernel_rfl) ?_
  try simp only [p0, p1, p2, p3]
  refine wl_pure (.int .u64 (cv .u64 ((l : Nat) : Int))) rfl (by kernel_rfl) ?_
  try simp only [p0, p1, p2, p3]
  refine wl_pure (.int .u64 (ia .u64 n (cv .u64 ((l : Nat) : Int)))) rfl (by kernel_rfl) ?_
  try simp only [p0, p1, p2, p3]
  refine wl_pure (.pointer (some ⟨g1, 9, none⟩)) rfl (by kernel_rfl) ?_
  try simp only [p0, p1, p2, p3]
  refine wl_runs rfl (r_one (L1 := [(g2, 91, (dg zF (.slice none 0 0) 0))]) (L2 := ([])) (cs := (dg s (.slice q m c) n)) 9 (.int .u64 (ia .u64 n (cv .u64 ((l : Nat) : Int)))) (by rw [dg_size]; decide) rfl rfl dg_set9 rfl (by kernel_rfl) (by kernel_rfl) hO2 (by kernel_rfl)) fun _ w3 hO3 => ?_
  clear hO2
  try simp only [List.nil_append, List.cons_append] at hO3
  try simp only [p0, p1, p2, p3]
  refine wl_nil ?_
  show Code.wp _ _ _ _ _
  refine wp_seq ?_
  refine wl_region ?_
  refine wl_pure (.pointer (some ⟨g1, 8, none⟩)) rfl (by kernel_rfl) ?_
  try simp only [p0, p1, p2, p3]
  refine wl_pure (.slice q m c) rfl (run_cell (((hO3.get (.tail _ (.head _))).cell 8).trans dg_8) (by kernel_rfl) rfl (by kernel_rfl)) ?_
  try simp only [p0, p1, p2, p3]
  refine wl_pure (.slice qb l cb) rfl (by kernel_rfl) ?_
  try simp only [p0, p1, p2, p3]
  refine wl_runs rfl (r_bs 23 #[.slice q m c, .slice qb l cb] 2 (by kernel_rfl) hO3) fun g4 w4 hO4 => ?_
  clear hO3
  try simp only [List.nil_append, List.cons_append] at hO4
  try simp only [p0, p1, p2, p3]
  refine wl_runs rfl (r_txt (args := #[.slice (some ⟨g4, 0, none⟩) 2 2]) (by kernel_rfl) (concat2_any (((hO4.get (.head _)).cell 0).trans rfl) (((hO4.get (.head _)).cell 1).trans rfl) (hd.below hO4.bl) (hb.below hO4.bl) (by omega)) hO4) ?_
  rintro _ w5 ⟨q1x, c1x, t1x, s1x, rfl, hO5, hB1x⟩
  clear hO4
  try simp only [List.nil_append, List.cons_append] at hO5
  try simp only [p0, p1, p2, p3]
  refine wl_pure (.slice q1x (m + l) c1x) rfl (by kernel_rfl) ?_
  try simp only [p0, p1, p2, p3]
  refine wl_nil ?_
  show Code.wp _ _ _ _ _
  refine wp_seq ?_
  refine wp_seq ?_
  refine wl_region ?_
  refine wl_pure (.agg (aF .u32 8 S)) rfl (run_row (hS.under hO5.bl) Tryd.underlying89 rfl (by kernel_rfl) rfl (by kernel_rfl)) ?_
  try simp only [p0, p1, p2, p3]
  refine wl_pure (.int .i64 0) rfl (by kernel_rfl) ?_
  try simp only [p0, p1, p2, p3]
  refine wl_nil ?_
  show Code.wp _ _ _ _ _
  go_wp2_with fail
  go_loopw [23] (fun v6_23 wr6 => ∃ (i : Nat), i ≤ 8 ∧ v6_23 = .int .i64 ((i : Nat) : Int) ∧ Own w ((g4, 23, #[.slice q m c, .slice qb l cb]) :: (g2, 91, (dg zF (.slice none 0 0) 0)) :: (g1, 91, (dg (sumW s S i) (.slice q m c) (ia .u64 n (cv .u64 ((l : Nat) : Int))))) :: (buf q1x t1x s1x)) wr6) (fun v6_23 wr6 => 8 - (intOf v6_23).toNat)
  case atStart => exact ⟨0, by omega, rfl, hO5⟩
  case round =>
    try clear hO5
    obtain ⟨i, hf6_0, rfl, hO6⟩ := hrel
    by_cases hm6 : i < 8
    · have hm6' := hm6
      refine wp_seq ?_
      refine wl_region ?_
      refine wl_pure (.bool true) rfl (i_lss (k := .i64) ((i : Nat) : Int) 8 true (decide_eq_true (by omega)) rfl (by kernel_rfl) (by kernel_rfl) _) ?_
      try simp only [p0, p1, p2, p3]
      refine wl_nil ?_
      show Code.wp _ _ _ _ _
      refine wp_seq ?_
      refine wp_cond_true rfl ?_
      refine wp_skip ?_
      show Code.wp _ _ _ _ _
      refine wp_seq ?_
      refine wp_block ?_
      refine wp_seq ?_
      refine wl_region ?_
      refine wl_pure (.int .i64 ((i : Nat) : Int)) rfl (by kernel_rfl) ?_
      try simp only [p0, p1, p2, p3]
      refine wl_pure (.int .u32 (S i)) rfl (a_idx Tryd.underlying89 (by kernel_rfl) (fun _ => by kernel_rfl) i (by omega) rfl (by kernel_rfl) (by kernel_rfl) _) ?_
      try simp only [p0, p1, p2, p3]
      refine wl_pure (.int .i64 ((i : Nat) : Int)) rfl (by kernel_rfl) ?_
      try simp only [p0, p1, p2, p3]
      refine wl_pure (.int .u32 (S i)) rfl (by kernel_rfl) ?_
      try simp only [p0, p1, p2, p3]
      refine wl_nil ?_
      show Code.wp _ _ _ _ _
      refine wl_region ?_
      refine wl_pure (.int .i64 ((i : Nat) : Int)) rfl (by kernel_rfl) ?_
      try simp only [p0, p1, p2, p3]
      refine wl_pure (.pointer (some ⟨g1, 0, none⟩)) rfl (by kernel_rfl) ?_
      try simp only [p0, p1, p2, p3]
      refine wl_pure (.pointer (some ⟨g1, i, none⟩)) rfl (p_idx0 Tryd.underlying89 (by kernel_rfl) i (by omega) rfl (by kernel_rfl) (by kernel_rfl) _) ?_
      try simp only [p0, p1, p2, p3]
      refine wl_pure (.int .u32 ((sumW s S i) i)) rfl (run_cell (((hO6.get (.tail _ (.tail _ (.head _)))).cell i).trans (dg_w i (by omega))) (by kernel_rfl) rfl (by kernel_rfl)) ?_
      try simp only [p0, p1, p2, p3]
      refine wl_pure (.int .u32 (S i)) rfl (by kernel_rfl) ?_
      try simp only [p0, p1, p2, p3]
      refine wl_pure (.int .u32 (ia .u32 ((sumW s S i) i) (S i))) rfl (by kernel_rfl) ?_
      try simp only [p0, p1, p2, p3]
      refine wl_pure (.pointer (some ⟨g1, 0, none⟩)) rfl (by kernel_rfl) ?_
      try simp only [p0, p1, p2, p3]
      refine wl_pure (.pointer (some ⟨g1, i, none⟩)) rfl (p_idx0 Tryd.underlying89 (by kernel_rfl) i (by omega) rfl (by kernel_rfl) (by kernel_rfl) _) ?_
      try simp only [p0, p1, p2, p3]
      refine wl_runs rfl (r_one (L1 := [(g4, 23, #[.slice q m c, .slice qb l cb]), (g2, 91, (dg zF (.slice none 0 0) 0))]) (L2 := ((buf q1x t1x s1x))) (cs := (dg (sumW s S i) (.slice q m c) (ia .u64 n (cv .u64 ((l : Nat) : Int))))) i (.int .u32 (ia .u32 ((sumW s S i) i) (S i))) (by rw [dg_size]; omega) rfl rfl (dg_setw i (ia .u32 ((sumW s S i) i) (S i)) (by omega)) rfl (by kernel_rfl) (by kernel_rfl) hO6 (by kernel_rfl)) fun _ w7 hO7 => ?_
      clear hO6
      try simp only [List.nil_append, List.cons_append] at hO7
      try simp only [p0, p1, p2, p3]
      refine wl_nil ?_
      show Code.wp _ _ _ _ _
      refine wl_region ?_
      refine wl_pure (.int .i64 ((i + 1 : Nat) : Int)) rfl (n_add (k := .i64) rfl i 1 (by omega) rfl (by kernel_rfl) (by kernel_rfl) _) ?_
      try simp only [p0, p1, p2, p3]
      refine wl_pure (.int .i64 ((i + 1 : Nat) : Int)) rfl (by kernel_rfl) ?_
      try simp only [p0, p1, p2, p3]
      refine wl_nil ?_
      try simp only [Exit.then, Exit.inBlock]
      go_roundw
      case rel => exact ⟨i + 1, by omega, rfl, hO7⟩
      case measure => simp [intOf, slen]; omega
    · have hm6' := hm6
      obtain rfl : i = 8 := by omega
      refine wp_seq ?_
      refine wl_region ?_
      refine wl_pure (.bool false) rfl (by kernel_rfl) ?_
      try simp only [p0, p1, p2, p3]
      refine wl_nil ?_
      show Code.wp _ _ _ _ _
      refine wp_seq ?_
      refine wp_cond_false rfl ?_
      refine wp_exit ?_
      simp only [Exit.then, Exit.inBlock, if_true]
      show Code.wp _ _ _ _ _
      refine wp_seq ?_
      go_wp2_with fail
      go_loopw [5] (fun v8_5 wr8 => ∃ (j : Nat) (p' : Option Addr) (c' : Nat), 64 * j ≤ m + l ∧ Rd q1x s1x p' (m + l - 64 * j) c' (fun t => cat f m b (64 * j + t)) ∧ v8_5 = .slice p' (m + l - 64 * j) c' ∧ Own w ((g4, 23, #[.slice q m c, .slice qb l cb]) :: (g2, 91, (dg zF (.slice none 0 0) 0)) :: (g1, 91, (dg (blocksW K (sumW s S 8) (cat f m b) j) (.slice q m c) (ia .u64 n (cv .u64 ((l : Nat) : Int))))) :: (buf q1x t1x s1x)) wr8) (fun v8_5 wr8 => slen v8_5)
      case atStart => exact ⟨0, q1x, c1x, by omega, (hB1x.rd.congr fun t _ => by rw [Nat.mul_zero, Nat.zero_add]), rfl, hO6⟩
      case round =>
        try clear hO6
        obtain ⟨j, p', c', hf8_0, hf8_1, rfl, hO8⟩ := hrel
        by_cases hm8 : 64 ≤ m + l - 64 * j
        · have hm8' := hm8
          obtain ⟨g', o', rfl, hcc⟩ := hf8_1.addr (by omega)
          refine wp_seq ?_
          refine wp_seq ?_
          refine wl_region ?_
          refine wl_pure (.slice (some ⟨g', o', none⟩) (m + l - 64 * j) c') rfl (by kernel_rfl) ?_
          try simp only [p0, p1, p2, p3]
          refine wl_pure (.int .i64 (((m + l - 64 * j) : Nat) : Int)) rfl (by kernel_rfl) ?_
          try simp only [p0, p1, p2, p3]
          refine wl_pure (.bool true) rfl (i_geq (k := .i64) (((m + l - 64 * j) : Nat) : Int) 64 true (decide_eq_true (by omega)) rfl (by kernel_rfl) (by kernel_rfl) _) ?_
          try simp only [p0, p1, p2, p3]
          refine wl_nil ?_
          show Code.wp _ _ _ _ _
          refine wp_cond_true rfl ?_
          refine wp_skip ?_
          show Code.wp _ _ _ _ _
          refine wp_block ?_
          refine wp_seq ?_
          refine wd_region [6] (Tr.ofList [(0, 1), (1, 1), (2, 1), (3, 1), (4, 3), (5, 1), (6, 4)] .nil) (by decide) (by kernel_rfl) (by kernel_rfl) hO8 fun w9 hO9 => ?_
          simp only [Tr.ofList]
          try clear hO8
          refine wd_ld (.pointer (some ⟨g1, 0, none⟩)) rfl (some 39) (by kernel_rfl) (by kernel_rfl) (fun _ hw => by kernel_rfl) hO9 ?_
          try simp only [p0, p1, p2, p3]
          refine wd_ld (.agg (aF .u32 8 (blocksW K (sumW s S 8) (cat f m b) j))) rfl (some 40) (by kernel_rfl) (by kernel_rfl) (fun _ hw => run_words hw (.tail _ (.tail _ (.head _))) Tryd.underlying89 rfl (by kernel_rfl) rfl (by kernel_rfl)) hO9 ?_
          try simp only [p0, p1, p2, p3]
          refine wd_ld (.slice (some ⟨g', o', none⟩) (m + l - 64 * j) c') rfl (some 41) (by kernel_rfl) (by kernel_rfl) (fun _ hw => by kernel_rfl) hO9 ?_
          try simp only [p0, p1, p2, p3]
          refine wd_ld (.slice (some ⟨g', o', none⟩) 64 c') rfl (some 42) (by kernel_rfl) (by kernel_rfl) (fun _ hw => s_hi (p := (some ⟨g', o', none⟩)) (n := (m + l - 64 * j)) (c := c') Tryd.underlying23 (by kernel_rfl) 64 (by omega) (by kernel_rfl)) hO9 ?_
          try simp only [p0, p1, p2, p3]
          refine wd_runs rfl (some 43) (by kernel_rfl) rfl (r_call (args := #[.agg (aF .u32 8 (blocksW K (sumW s S 8) (cat f m b) j)), .slice (some ⟨g', o', none⟩) 64 c']) (u := .agg (aF .u32 8 (mix K (blocksW K (sumW s S 8) (cat f m b) j) (fun t => cat f m b (64 * j + t))))) (by kernel_rfl) (mixed_any (K := K) (s := (blocksW K (sumW s S 8) (cat f m b) j)) (b := fun t => cat f m b (64 * j + t)) (t := t3) (hK.under hO9.bl) (RdC.le (Rd.rdc (t := t1x) hf8_1 hO9 (by intro g e; subst e; simp [buf])) (by omega)) (by decide)) hO9) (fun _ _ h => h) fun _ w10 hO10 => ?_
          clear hO9
          try simp only [List.nil_append, List.cons_append] at hO10
          try simp only [p0, p1, p2, p3]
          refine wd_ld (.pointer (some ⟨g1, 0, none⟩)) rfl (some 44) (by kernel_rfl) (by kernel_rfl) (fun _ hw => by kernel_rfl) hO10 ?_
          try simp only [p0, p1, p2, p3]
          refine wd_runx rfl none (by kernel_rfl) rfl (r_words (L1 := [(g4, 23, #[.slice q m c, .slice qb l cb]), (g2, 91, (dg zF (.slice none 0 0) 0))]) (L2 := ((buf q1x t1x s1x))) (s := (blocksW K (sumW s S 8) (cat f m b) j)) (s' := (mix K (blocksW K (sumW s S 8) (cat f m b) j) (fun t => cat f m b (64 * j + t)))) (v := .slice q m c) (n := ia .u64 n (cv .u64 ((l : Nat) : Int))) rfl (by kernel_rfl) (by kernel_rfl) hO10 (by kernel_rfl)) fun _ w11 hO11 => ?_
          clear hO10
          try simp only [List.nil_append, List.cons_append] at hO11
          try simp only [p0, p1, p2, p3]
          refine wd_nil ?_
          show Code.wp _ _ _ _ _
          refine wl_region ?_
          refine wl_pure (.slice (some ⟨g', o', none⟩) (m + l - 64 * j) c') rfl (by kernel_rfl) ?_
          try simp only [p0, p1, p2, p3]
          refine wl_pure (.slice (mv (some ⟨g', o', none⟩) 64 c') ((m + l - 64 * j) - 64) (c' - 64)) rfl (s_cut (p := (some ⟨g', o', none⟩)) (n := (m + l - 64 * j)) (c := c') Tryd.underlying23 (by kernel_rfl) (some (.int .i64 64)) none 64 (m + l - 64 * j) (.inl rfl) (.inr ⟨rfl, rfl⟩) (by omega) (by kernel_rfl)) ?_
          try simp only [p0, p1, p2, p3]
          refine wl_pure (.slice (mv (some ⟨g', o', none⟩) 64 c') ((m + l - 64 * j) - 64) (c' - 64)) rfl (by kernel_rfl) ?_
          try simp only [p0, p1, p2, p3]
          refine wl_nil ?_
          try simp only [Exit.then, Exit.inBlock]
          go_roundw
          case rel => exact ⟨j + 1, _, _, by omega, (hf8_1.next (by omega)), by rw [show m + l - 64 * (j + 1) = m + l - 64 * j - 64 by omega], hO11⟩
          case measure => simp [intOf, slen]; omega
        · have hm8' := hm8
          obtain rfl : j = (m + l) / 64 := by omega
          refine wp_seq ?_
          refine wp_seq ?_
          refine wl_region ?_
          refine wl_pure (.slice p' (m + l - 64 * ((m + l) / 64)) c') rfl (by kernel_rfl) ?_
          try simp only [p0, p1, p2, p3]
          refine wl_pure (.int .i64 (((m + l - 64 * ((m + l) / 64)) : Nat) : Int)) rfl (by kernel_rfl) ?_
          try simp only [p0, p1, p2, p3]
          refine wl_pure (.bool false) rfl (i_geq (k := .i64) (((m + l - 64 * ((m + l) / 64)) : Nat) : Int) 64 false (decide_eq_false (by omega)) rfl (by kernel_rfl) (by kernel_rfl) _) ?_
          try simp only [p0, p1, p2, p3]
          refine wl_nil ?_
          show Code.wp _ _ _ _ _
          refine wp_cond_false rfl ?_
          refine wp_exit ?_
          simp only [Exit.then, Exit.inBlock, if_true]
          show Code.wp _ _ _ _ _
          refine wp_seq ?_
          refine wp_seq ?_
          refine wl_region ?_
          refine wl_pure (.agg (aF .u32 8 S)) rfl (run_row (hS.under hO8.bl) Tryd.underlying89 rfl (by kernel_rfl) rfl (by kernel_rfl)) ?_
          try simp only [p0, p1, p2, p3]
          refine wl_pure (.int .i64 0) rfl (by kernel_rfl) ?_
          try simp only [p0, p1, p2, p3]
          refine wl_nil ?_
          show Code.wp _ _ _ _ _
          go_wp2_with fail
          go_loopw [48] (fun v12_48 wr12 => ∃ (i : Nat), i ≤ 8 ∧ v12_48 = .int .i64 ((i : Nat) : Int) ∧ Own w ((g4, 23, #[.slice q m c, .slice qb l cb]) :: (g2, 91, (dg zF (.slice none 0 0) 0)) :: (g1, 91, (dg (subW (blocksW K (sumW s S 8) (cat f m b) ((m + l) / 64)) S i) (.slice q m c) (ia .u64 n (cv .u64 ((l : Nat) : Int))))) :: (buf q1x t1x s1x)) wr12) (fun v12_48 wr12 => 8 - (intOf v12_48).toNat)
          case atStart => exact ⟨0, by omega, rfl, hO8⟩
          case round =>
            try clear hO8
            obtain ⟨i, hf12_0, rfl, hO12⟩ := hrel
            by_cases hm12 : i < 8
            · have hm12' := hm12
              refine wp_seq ?_
              refine wl_region ?_
              refine wl_pure (.bool true) rfl (i_lss (k := .i64) ((i : Nat) : Int) 8 true (decide_eq_true (by omega)) rfl (by kernel_rfl) (by kernel_rfl) _) ?_
              try simp only [p0, p1, p2, p3]
              refine wl_nil ?_
              show Code.wp _ _ _ _ _
              refine wp_seq ?_
              refine wp_cond_true rfl ?_
              refine wp_skip ?_
              show Code.wp _ _ _ _ _
              refine wp_seq ?_
              refine wp_block ?_
              refine wp_seq ?_
              refine wl_region ?_
              refine wl_pure (.int .i64 ((i : Nat) : Int)) rfl (by kernel_rfl) ?_
              try simp only [p0, p1, p2, p3]
              refine wl_pure (.int .u32 (S i)) rfl (a_idx Tryd.underlying89 (by kernel_rfl) (fun _ => by kernel_rfl) i (by omega) rfl (by kernel_rfl) (by kernel_rfl) _) ?_
              try simp only [p0, p1, p2, p3]
              refine wl_pure (.int .i64 ((i : Nat) : Int)) rfl (by kernel_rfl) ?_
              try simp only [p0, p1, p2, p3]
              refine wl_pure (.int .u32 (S i)) rfl (by kernel_rfl) ?_
              try simp only [p0, p1, p2, p3]
              refine wl_nil ?_
              show Code.wp _ _ _ _ _
              refine wl_region ?_
              refine wl_pure (.int .i64 ((i : Nat) : Int)) rfl (by kernel_rfl) ?_
              try simp only [p0, p1, p2, p3]
              refine wl_pure (.pointer (some ⟨g1, 0, none⟩)) rfl (by kernel_rfl) ?_
              try simp only [p0, p1, p2, p3]
              refine wl_pure (.pointer (some ⟨g1, i, none⟩)) rfl (p_idx0 Tryd.underlying89 (by kernel_rfl) i (by omega) rfl (by kernel_rfl) (by kernel_rfl) _) ?_
              try simp only [p0, p1, p2, p3]
              refine wl_pure (.int .u32 ((subW (blocksW K (sumW s S 8) (cat f m b) ((m + l) / 64)) S i) i)) rfl (run_cell (((hO12.get (.tail _ (.tail _ (.head _)))).cell i).trans (dg_w i (by omega))) (by kernel_rfl) rfl (by kernel_rfl)) ?_
              try simp only [p0, p1, p2, p3]
              refine wl_pure (.int .u32 (S i)) rfl (by kernel_rfl) ?_
              try simp only [p0, p1, p2, p3]
              refine wl_pure (.int .u32 (im .u32 ((subW (blocksW K (sumW s S 8) (cat f m b) ((m + l) / 64)) S i) i) (S i))) rfl (by kernel_rfl) ?_
              try simp only [p0, p1, p2, p3]
              refine wl_pure (.pointer (some ⟨g1, 0, none⟩)) rfl (by kernel_rfl) ?_
              try simp only [p0, p1, p2, p3]
              refine wl_pure (.pointer (some ⟨g1, i, none⟩)) rfl (p_idx0 Tryd.underlying89 (by kernel_rfl) i (by omega) rfl (by kernel_rfl) (by kernel_rfl) _) ?_
              try simp only [p0, p1, p2, p3]
              refine wl_runs rfl (r_one (L1 := [(g4, 23, #[.slice q m c, .slice qb l cb]), (g2, 91, (dg zF (.slice none 0 0) 0))]) (L2 := ((buf q1x t1x s1x))) (cs := (dg (subW (blocksW K (sumW s S 8) (cat f m b) ((m + l) / 64)) S i) (.slice q m c) (ia .u64 n (cv .u64 ((l : Nat) : Int))))) i (.int .u32 (im .u32 ((subW (blocksW K (sumW s S 8) (cat f m b) ((m + l) / 64)) S i) i) (S i))) (by rw [dg_size]; omega) rfl rfl (dg_setw i (im .u32 ((subW (blocksW K (sumW s S 8) (cat f m b) ((m + l) / 64)) S i) i) (S i)) (by omega)) rfl (by kernel_rfl) (by kernel_rfl) hO12 (by kernel_rfl)) fun _ w13 hO13 => ?_
              clear hO12
              try simp only [List.nil_append, List.cons_append] at hO13
              try simp only [p0, p1, p2, p3]
              refine wl_nil ?_
              show Code.wp _ _ _ _ _
              refine wl_region ?_
              refine wl_pure (.int .i64 ((i + 1 : Nat) : Int)) rfl (n_add (k := .i64) rfl i 1 (by omega) rfl (by kernel_rfl) (by kernel_rfl) _) ?_
              try simp only [p0, p1, p2, p3]
              refine wl_pure (.int .i64 ((i + 1 : Nat) : Int)) rfl (by kernel_rfl) ?_
              try simp only [p0, p1, p2, p3]
              refine wl_nil ?_
              try simp only [Exit.then, Exit.inBlock]
              go_roundw
              case rel => exact ⟨i + 1, by omega, rfl, hO13⟩
              case measure => simp [intOf, slen]; omega
            · have hm12' := hm12
              obtain rfl : i = 8 := by omega
              refine wp_seq ?_
              refine wl_region ?_
              refine wl_pure (.bool false) rfl (by kernel_rfl) ?_
              try simp only [p0, p1, p2, p3]
              refine wl_nil ?_
              show Code.wp _ _ _ _ _
              refine wp_seq ?_
              refine wp_cond_false rfl ?_
              refine wp_exit ?_
              simp only [Exit.then, Exit.inBlock, if_true]
              show Code.wp _ _ _ _ _
              refine wp_seq ?_
              refine wl_region ?_
              refine wl_pure (.slice p' (m + l - 64 * ((m + l) / 64)) c') rfl (by kernel_rfl) ?_
              try simp only [p0, p1, p2, p3]
              refine wl_pure (.pointer (some ⟨g1, 8, none⟩)) rfl (by kernel_rfl) ?_
              try simp only [p0, p1, p2, p3]
              refine wl_runs rfl (r_one (L1 := [(g4, 23, #[.slice q m c, .slice qb l cb]), (g2, 91, (dg zF (.slice none 0 0) 0))]) (L2 := ((buf q1x t1x s1x))) (cs := (dg (subW (blocksW K (sumW s S 8) (cat f m b) ((m + l) / 64)) S 8) (.slice q m c) (ia .u64 n (cv .u64 ((l : Nat) : Int))))) 8 (.slice p' (m + l - 64 * ((m + l) / 64)) c') (by rw [dg_size]; decide) rfl rfl dg_set8 rfl (by kernel_rfl) (by kernel_rfl) hO12 (by kernel_rfl)) fun _ w14 hO14 => ?_
              clear hO12
              try simp only [List.nil_append, List.cons_append] at hO14
              try simp only [p0, p1, p2, p3]
              refine wl_nil ?_
              show Code.wp _ _ _ _ _
              refine wp_seq ?_
              refine wl_region ?_
              refine wl_pure (.agg (dg (subW (blocksW K (sumW s S 8) (cat f m b) ((m + l) / 64)) S 8) (.slice p' (m + l - 64 * ((m + l) / 64)) c') (ia .u64 n (cv .u64 ((l : Nat) : Int))))) rfl (run_row (hO14.get (.tail _ (.tail _ (.head _)))) Tryd.underlying91 rfl (by kernel_rfl) rfl (by kernel_rfl)) ?_
              try simp only [p0, p1, p2, p3]
              refine wl_runs rfl (r_row (L1 := [(g4, 23, #[.slice q m c, .slice qb l cb])]) (L2 := ((g1, 91, (dg (subW (blocksW K (sumW s S 8) (cat f m b) ((m + l) / 64)) S 8) (.slice p' (m + l - 64 * ((m + l) / 64)) c') (ia .u64 n (cv .u64 ((l : Nat) : Int))))) :: (buf q1x t1x s1x))) (cs := (dg zF (.slice none 0 0) 0)) (dg (subW (blocksW K (sumW s S 8) (cat f m b) ((m + l) / 64)) S 8) (.slice p' (m + l - 64 * ((m + l) / 64)) c') (ia .u64 n (cv .u64 ((l : Nat) : Int)))) rfl (by kernel_rfl) (by kernel_rfl) hO14 (by simp only [dg_size]) (by kernel_rfl) (dg_one rfl)) fun _ w15 hO15 => ?_
              clear hO14
              try simp only [List.nil_append, List.cons_append] at hO15
              try simp only [p0, p1, p2, p3]
              refine wl_nil ?_
              show Code.wp _ _ _ _ _
              refine wp_ret ?_
              refine bodyPost_ret (results_cell_row rfl _ _ g2 91 (dg (subW (blocksW K (sumW s S 8) (cat f m b) ((m + l) / 64)) S 8) (.slice p' (m + l - 64 * ((m + l) / 64)) c') (ia .u64 n (cv .u64 ((l : Nat) : Int)))) (0, 0) _ rfl (hO15.get (.tail _ (.head _))) Tryd.underlying91 rfl (by kernel_rfl)) rfl ?_
              exact ⟨_, rfl, p', c', q1x, t1x, s1x, rfl, hO15.tail.tail.tail, hf8_1⟩
end Go.Proofs.YtkmgdpbmkbpkjaaDoor
