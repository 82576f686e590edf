/-
  Poly1305: Sum.
-/
import Derived.Test.YtkmgdpbmkbpkjaaDoorVb
set_option linter.unusedVariables false
set_option linter.unusedSimpArgs false
namespace Go.Proofs.YtkmgdpbmkbpkjaaDoor
open Go.RowKit

theorem R64.lit {n : Nat} (h : n < 18446744073709551616) : R64 ((n : Nat) : Int) := by unfold R64; omega
theorem R64.zero : R64 0 := ⟨by decide, by decide⟩
theorem R64.five : R64 5 := ⟨by decide, by decide⟩
def rF (key : Nat → Int) : Nat → Int := lit2 (iand .u64 (le8 key 8) 1152921487695413247) (iand .u64 (le8 (fun j => key (8 + j)) 8) 1152921487695413244)
theorem rF_R64 (key : Nat → Int) : ∀ j, R64 (rF key j) := fun j => by
  unfold rF lit2
  split
  · exact .iand _ _
  · exact .iand _ _
/-- Sixteen bytes and a one behind them; what has come of a text. -/
def partF (b : Nat → Int) (l j : Nat) : Nat → Int := upd (cpy zF 0 (min (l - 16 * j) 16) (fun t => b (16 * j + t))) (min (l - 16 * j) 16) 1
def partN (b : Nat → Int) (l j : Nat) : Nat → Int := lit3 (le8 (partF b l j) 8) (le8 (fun t => partF b l j (8 + t)) 8) (le8 (fun t => partF b l j (16 + t)) 8)
def polyF (r b : Nat → Int) (l : Nat) : Nat → (Nat → Int)
  | 0 => zF
  | j + 1 => timesF (pls (polyF r b l j) (partN b l j) 3) r
theorem partN_R64 (b : Nat → Int) (l j : Nat) : ∀ i, R64 (partN b l j i) := lit3_R64 (.le8 _ 7) (.le8 _ 7) (.le8 _ 7)
theorem polyF_R64 {r b : Nat → Int} {l : Nat} : ∀ j i, i < 3 → R64 (polyF r b l j i)
  | 0, i, _ => .zero
  | j + 1, i, hi => timesF_R64 _ _ hi
def nF (key : Nat → Int) (l : Nat) (b : Nat → Int) : Nat → Int := polyF (rF key) b l ((l + 15) / 16)
def redF (n : Nat → Int) : Nat → Int := lit3 (n 0) (n 1) (iand .u64 (n 2) 3)
def redG (n : Nat → Int) : Nat → Int := lit3 (imul .u64 5 (ishr (n 2) 2)) 0 0
def red1 (n : Nat → Int) : Nat → Int := pls (redF n) (redG n) 3
def mF (n : Nat → Int) : Nat → Int := pls (red1 n) (lit3 5 0 0) 3
def lowN (n : Nat → Int) : Nat → Int := lit3 (n 0) (n 1) 0
def keyN2 (key : Nat → Int) : Nat → Int := lit3 (le8 (fun j => key (16 + j)) 8) (le8 (fun j => key (24 + j)) 8) 0
def outT (p : Nat → Int) : Nat → (Nat → Int)
  | 0 => zF
  | i + 1 => upd (outT p i) i (cv .u8 (ishr (p (i / 8)) (8 * (i % 8))))
def tagOut (key n : Nat → Int) : Nat → Int := outT (pls (lowN n) (keyN2 key) 3) 16
def tagF (key : Nat → Int) (l : Nat) (b : Nat → Int) : Nat → Int := tagOut key (if 4 ≤ mF (nF key l b) 2 then mF (nF key l b) else red1 (nF key l b))
theorem next16 {w : World} {p : Option Addr} {l j c : Nat} {b : Nat → Int} (h : RdF w (.slice p (l - 16 * j) c) (l - 16 * j) (fun t => b (16 * j + t))) (hj : 0 < l - 16 * j) :
    RdF w (.slice (mv p (min (l - 16 * j) 16) c) (l - 16 * (j + 1)) (c - min (l - 16 * j) 16)) (l - 16 * (j + 1)) (fun t => b (16 * (j + 1) + t)) := by
  have := h.cut (min (l - 16 * j) 16) (l - 16 * j) (by omega)
  rw [show l - 16 * j - min (l - 16 * j) 16 = l - 16 * (j + 1) by omega] at this
  refine this.congr fun t ht => ?_
  rw [show 16 * j + (min (l - 16 * j) 16 + t) = 16 * (j + 1) + t by omega]
set_option maxRecDepth 100000 in
set_option maxHeartbeats 8000000 in
theorem tagsum_any {key b : Nat → Int} {qb : Option Addr} {l cb : Nat} {w : World} (hb : RdF w (.slice qb l cb) l b) (hl : l ≤ 900000) : Ret Tryd.prog 47 #[.agg (aF .u8 32 key), .slice qb l cb] w (.agg (aF .u8 16 (tagF key l b))) := by
  unfold Ret
  refine calls_of_wp Tryd.func47 rfl ?_
  simp only [Tryd.ntmps47, List.size_toArray, List.length_cons, List.length_nil, Nat.reduceAdd, Nat.reduceSub, Array.replicate_succ, Array.replicate_zero, List.push_toArray, List.append_toArray, List.nil_append, List.cons_append]
  have hO := Own.nil w
  refine wp_seq ?_
  refine wl_region ?_
  refine wl_runs rfl (r_new 22 (aF .u8 32 key) (by kernel_rfl) hO) fun g1 w1 hO1 => ?_
  clear hO
  try simp only [List.nil_append, List.cons_append] at hO1
  try simp only [p0, p1, p2, p3]
  refine wl_runs rfl (r_new 56 (aF .u8 16 zF) (by kernel_rfl) hO1) fun g2 w2 hO2 => ?_
  clear hO1
  try simp only [List.nil_append, List.cons_append] at hO2
  try simp only [p0, p1, p2, p3]
  refine wl_nil ?_
  show Code.wp _ _ _ _ _
  refine wp_seq ?_
  refine wd_region [] (Tr.ofList [(0, 1), (3, 1)] (.br 1 7 (Tr.ofList [(2, 1)] (.br 4 7 (Tr.ofList [(5, 1), (6, 1), (7, 3), (8, 3)] .nil) (Tr.ofList [(4, 3), (5, 1), (6, 1), (8, 3)] .nil))) (Tr.ofList [(1, 3), (2, 1), (4, 3), (5, 1), (6, 1), (8, 3)] .nil))) (by decide) (by kernel_rfl) (by kernel_rfl) hO2 fun w3 hO3 => ?_
  simp only [Tr.ofList]
  try clear hO2
  apply wd_cut1 (C := fun (g11 : Nat) wc => Own w ((g11, 102, (aF .u64 2 (lit2 (iand .u64 (le8 key 8) 1152921487695413247) (iand .u64 (le8 (fun zz => key (8 + zz)) 8) 1152921487695413244)))) :: (g2, 56, (aF .u8 16 zF)) :: (g1, 22, (aF .u8 32 key)) :: []) wc)
  case h =>
    intro hcut
    refine wd_ld (.slice (some ⟨g1, 0, none⟩) 32 32) rfl (some 12) (by kernel_rfl) (by kernel_rfl) (fun _ hw => by kernel_rfl) hO3 ?_
    try simp only [p0, p1, p2, p3]
    refine wd_ld (.slice (some ⟨g1, 8, none⟩) 24 24) rfl (some 15) (by kernel_rfl) (by kernel_rfl) (fun _ hw => by kernel_rfl) hO3 ?_
    try simp only [p0, p1, p2, p3]
    refine wd_br ?_ ?_
    · skip
      refine nx_runs rfl (some 13) (by kernel_rfl) rfl (r_call (args := #[.slice (some ⟨g1, 0, none⟩) 32 32]) (u := .int .u64 (le8 key 8)) (by kernel_rfl) (word8_any (rdc_own1 hO3 (.tail _ (.head _)) 32 (by decide)) (by decide)) hO3) (fun _ _ h => h) fun _ w4 hO4 => ?_
      try clear hO3
      try simp only [List.nil_append, List.cons_append] at hO4
      try simp only [p0, p1, p2, p3]
      refine wd_ld (.int .u64 (iand .u64 (le8 key 8) 1152921487695413247)) rfl (some 14) (by kernel_rfl) (by kernel_rfl) (fun _ hw => by kernel_rfl) hO4 ?_
      try simp only [p0, p1, p2, p3]
      refine wd_br ?_ ?_
      · skip
        refine nx_runs rfl (some 16) (by kernel_rfl) rfl (r_call (args := #[.slice (some ⟨g1, 8, none⟩) 24 24]) (u := .int .u64 (le8 (fun zz => key (8 + zz)) 8)) (by kernel_rfl) (word8_any (rdc_own hO4 (.tail _ (.head _)) 8 24 (by decide)) (by decide)) hO4) (fun _ _ h => h) fun _ w5 hO5 => ?_
        try clear hO4
        try simp only [List.nil_append, List.cons_append] at hO5
        try simp only [p0, p1, p2, p3]
        refine wd_ld (.int .u64 (iand .u64 (le8 (fun zz => key (8 + zz)) 8) 1152921487695413244)) rfl (some 17) (by kernel_rfl) (by kernel_rfl) (fun _ hw => by kernel_rfl) hO5 ?_
        try simp only [p0, p1, p2, p3]
        refine wd_ld (.agg (aF .u64 2 (lit2 (iand .u64 (le8 key 8) 1152921487695413247) (iand .u64 (le8 (fun zz => key (8 + zz)) 8) 1152921487695413244)))) rfl (some 18) (by kernel_rfl) (by kernel_rfl) (fun _ hw => by kernel_rfl) hO5 ?_
        try simp only [p0, p1, p2, p3]
        refine wd_runs rfl (some 5) (by kernel_rfl) rfl (r_new 102 (aF .u64 2 zF) (by kernel_rfl) hO5) (fun _ _ h => h.tail) fun g6 w6 hO6 => ?_
        try clear hO5
        try simp only [List.nil_append, List.cons_append] at hO6
        try simp only [p0, p1, p2, p3]
        refine wd_runs rfl none (by kernel_rfl) rfl (r_row (L1 := []) (L2 := ((g2, 56, (aF .u8 16 zF)) :: (g1, 22, (aF .u8 32 key)) :: [])) (cs := (aF .u64 2 zF)) (aF .u64 2 (lit2 (iand .u64 (le8 key 8) 1152921487695413247) (iand .u64 (le8 (fun zz => key (8 + zz)) 8) 1152921487695413244))) rfl (by kernel_rfl) (by kernel_rfl) hO6 (by simp only [size_aF]) (by kernel_rfl) (one_aF _ _ _)) (fun _ _ h => h.tail) fun _ w7 hO7 => ?_
        try clear hO6
        try simp only [List.nil_append, List.cons_append] at hO7
        try simp only [p0, p1, p2, p3]
        refine wd_nil ?_
        exact hcut g6 _ (Own.sub hO7 (.cons_cons _ (.cons_cons _ (.cons_cons _ (List.Sublist.refl _)))))
      · skip
        refine nx_runs rfl (some 5) (by kernel_rfl) rfl (r_new 102 (aF .u64 2 zF) (by kernel_rfl) hO4) (fun _ _ h => h.tail) fun g8 w8 hO8 => ?_
        try clear hO4
        try simp only [List.nil_append, List.cons_append] at hO8
        try simp only [p0, p1, p2, p3]
        refine wd_runs rfl (some 16) (by kernel_rfl) rfl (r_call (args := #[.slice (some ⟨g1, 8, none⟩) 24 24]) (u := .int .u64 (le8 (fun zz => key (8 + zz)) 8)) (by kernel_rfl) (word8_any (rdc_own hO8 (.tail _ (.tail _ (.head _))) 8 24 (by decide)) (by decide)) hO8) (fun _ _ h => h.tail) fun _ w9 hO9 => ?_
        try clear hO8
        try simp only [List.nil_append, List.cons_append] at hO9
        try simp only [p0, p1, p2, p3]
        refine wd_ld (.int .u64 (iand .u64 (le8 (fun zz => key (8 + zz)) 8) 1152921487695413244)) rfl (some 17) (by kernel_rfl) (by kernel_rfl) (fun _ hw => by kernel_rfl) hO9.tail ?_
        try simp only [p0, p1, p2, p3]
        refine wd_ld (.agg (aF .u64 2 (lit2 (iand .u64 (le8 key 8) 1152921487695413247) (iand .u64 (le8 (fun zz => key (8 + zz)) 8) 1152921487695413244)))) rfl (some 18) (by kernel_rfl) (by kernel_rfl) (fun _ hw => by kernel_rfl) hO9.tail ?_
        try simp only [p0, p1, p2, p3]
        refine wd_runs rfl none (by kernel_rfl) rfl (r_row (L1 := []) (L2 := ((g2, 56, (aF .u8 16 zF)) :: (g1, 22, (aF .u8 32 key)) :: [])) (cs := (aF .u64 2 zF)) (aF .u64 2 (lit2 (iand .u64 (le8 key 8) 1152921487695413247) (iand .u64 (le8 (fun zz => key (8 + zz)) 8) 1152921487695413244))) rfl (by kernel_rfl) (by kernel_rfl) hO9 (by simp only [size_aF]) (by kernel_rfl) (one_aF _ _ _)) (fun _ _ h => h.tail) fun _ w10 hO10 => ?_
        try clear hO9
        try simp only [List.nil_append, List.cons_append] at hO10
        try simp only [p0, p1, p2, p3]
        refine wd_nil ?_
        exact hcut g8 _ (Own.sub hO10 (.cons_cons _ (.cons_cons _ (.cons_cons _ (List.Sublist.refl _)))))
    · skip
      refine nx_runs rfl (some 5) (by kernel_rfl) rfl (r_new 102 (aF .u64 2 zF) (by kernel_rfl) hO3) (fun _ _ h => h.tail) fun g11 w11 hO11 => ?_
      try clear hO3
      try simp only [List.nil_append, List.cons_append] at hO11
      try simp only [p0, p1, p2, p3]
      refine wd_runs rfl (some 13) (by kernel_rfl) rfl (r_call (args := #[.slice (some ⟨g1, 0, none⟩) 32 32]) (u := .int .u64 (le8 key 8)) (by kernel_rfl) (word8_any (rdc_own1 hO11 (.tail _ (.tail _ (.head _))) 32 (by decide)) (by decide)) hO11) (fun _ _ h => h.tail) fun _ w12 hO12 => ?_
      try clear hO11
      try simp only [List.nil_append, List.cons_append] at hO12
      try simp only [p0, p1, p2, p3]
      refine wd_ld (.int .u64 (iand .u64 (le8 key 8) 1152921487695413247)) rfl (some 14) (by kernel_rfl) (by kernel_rfl) (fun _ hw => by kernel_rfl) hO12.tail ?_
      try simp only [p0, p1, p2, p3]
      refine wd_runs rfl (some 16) (by kernel_rfl) rfl (r_call (args := #[.slice (some ⟨g1, 8, none⟩) 24 24]) (u := .int .u64 (le8 (fun zz => key (8 + zz)) 8)) (by kernel_rfl) (word8_any (rdc_own hO12 (.tail _ (.tail _ (.head _))) 8 24 (by decide)) (by decide)) hO12) (fun _ _ h => h.tail) fun _ w13 hO13 => ?_
      try clear hO12
      try simp only [List.nil_append, List.cons_append] at hO13
      try simp only [p0, p1, p2, p3]
      refine wd_ld (.int .u64 (iand .u64 (le8 (fun zz => key (8 + zz)) 8) 1152921487695413244)) rfl (some 17) (by kernel_rfl) (by kernel_rfl) (fun _ hw => by kernel_rfl) hO13.tail ?_
      try simp only [p0, p1, p2, p3]
      refine wd_ld (.agg (aF .u64 2 (lit2 (iand .u64 (le8 key 8) 1152921487695413247) (iand .u64 (le8 (fun zz => key (8 + zz)) 8) 1152921487695413244)))) rfl (some 18) (by kernel_rfl) (by kernel_rfl) (fun _ hw => by kernel_rfl) hO13.tail ?_
      try simp only [p0, p1, p2, p3]
      refine wd_runs rfl none (by kernel_rfl) rfl (r_row (L1 := []) (L2 := ((g2, 56, (aF .u8 16 zF)) :: (g1, 22, (aF .u8 32 key)) :: [])) (cs := (aF .u64 2 zF)) (aF .u64 2 (lit2 (iand .u64 (le8 key 8) 1152921487695413247) (iand .u64 (le8 (fun zz => key (8 + zz)) 8) 1152921487695413244))) rfl (by kernel_rfl) (by kernel_rfl) hO13 (by simp only [size_aF]) (by kernel_rfl) (one_aF _ _ _)) (fun _ _ h => h.tail) fun _ w14 hO14 => ?_
      try clear hO13
      try simp only [List.nil_append, List.cons_append] at hO14
      try simp only [p0, p1, p2, p3]
      refine wd_nil ?_
      exact hcut g11 _ (Own.sub hO14 (.cons_cons _ (.cons_cons _ (.cons_cons _ (List.Sublist.refl _)))))
  intro g11 w15 hO15
  show Code.wp _ _ _ _ _
  refine wp_seq ?_
  refine wl_region ?_
  refine wl_runs rfl (r_new 104 (aF .u64 3 zF) (by kernel_rfl) hO15) fun g16 w16 hO16 => ?_
  clear hO15
  try simp only [List.nil_append, List.cons_append] at hO16
  try simp only [p0, p1, p2, p3]
  refine wl_nil ?_
  show Code.wp _ _ _ _ _
  refine wp_seq ?_
  go_wp2_with fail
  go_loopw [1] (fun v17_1 wr17 => ∃ (j : Nat) (p' : Option Addr) (c' : Nat), 16 * j < l + 16 ∧ RdF w (.slice p' (l - 16 * j) c') (l - 16 * j) (fun t => b (16 * j + t)) ∧ v17_1 = .slice p' (l - 16 * j) c' ∧ Own w ((g16, 104, (aF .u64 3 (polyF (rF key) b l j))) :: (g11, 102, (aF .u64 2 (rF key))) :: (g2, 56, (aF .u8 16 zF)) :: (g1, 22, (aF .u8 32 key)) :: []) wr17) (fun v17_1 wr17 => slen v17_1)
  case atStart => exact ⟨0, qb, cb, by omega, by simpa using hb, rfl, hO16⟩
  case round =>
    try clear hO16
    obtain ⟨j, p', c', hf17_0, hf17_1, rfl, hO17⟩ := hrel
    by_cases hm17 : 0 < l - 16 * j
    · have hm17' := hm17
      obtain ⟨gb, ob, rfl, hcb, hrb⟩ := hf17_1.opened (by omega)
      refine wp_seq ?_
      refine wp_seq ?_
      refine wl_region ?_
      refine wl_pure (.slice (some ⟨gb, ob, none⟩) (l - 16 * j) c') rfl (by kernel_rfl) ?_
      try simp only [p0, p1, p2, p3]
      refine wl_pure (.int .i64 (((l - 16 * j) : Nat) : Int)) rfl (by kernel_rfl) ?_
      try simp only [p0, p1, p2, p3]
      refine wl_pure (.bool true) rfl (i_gtr (k := .i64) (((l - 16 * j) : Nat) : Int) 0 true (decide_eq_true (by omega)) rfl (by kernel_rfl) (by kernel_rfl) _) ?_
      try simp only [p0, p1, p2, p3]
      refine wl_nil ?_
      show Code.wp _ _ _ _ _
      refine wp_cond_true rfl ?_
      refine wp_skip ?_
      show Code.wp _ _ _ _ _
      refine wp_block ?_
      refine wp_seq ?_
      refine wl_region ?_
      refine wl_runs rfl (r_new 105 (aF .u8 24 zF) (by kernel_rfl) hO17) fun g18 w18 hO18 => ?_
      clear hO17
      try simp only [List.nil_append, List.cons_append] at hO18
      try simp only [p0, p1, p2, p3]
      refine wl_nil ?_
      show Code.wp _ _ _ _ _
      refine wp_seq ?_
      refine wl_region ?_
      refine wl_pure (.slice (some ⟨g18, 0, none⟩) 16 24) rfl (by kernel_rfl) ?_
      try simp only [p0, p1, p2, p3]
      refine wl_pure (.slice (some ⟨gb, ob, none⟩) (l - 16 * j) c') rfl (by kernel_rfl) ?_
      try simp only [p0, p1, p2, p3]
      refine wl_runs rfl (r_copy (L1 := []) (L2 := ((g16, 104, (aF .u64 3 (polyF (rF key) b l j))) :: (g11, 102, (aF .u64 2 (rF key))) :: (g2, 56, (aF .u8 16 zF)) :: (g1, 22, (aF .u8 32 key)) :: [])) (k := .u8) (f := zF) (n := 24) (d := 0) (m := (min (l - 16 * j) 16)) (s := (fun t => b (16 * j + t))) (dL := 16) (dC := 24) (sL := (l - 16 * j)) (sC := c') (dT := 23) (sT := 23) (ty := 3) (RdC.le (hrb.below hO18.bl) (by omega)) rfl (by omega) (by kernel_rfl) Tryd.underlying23 (by kernel_rfl) hO18) fun _ w19 hO19 => ?_
      clear hO18
      try simp only [List.nil_append, List.cons_append] at hO19
      try simp only [p0, p1, p2, p3]
      refine wl_pure (.int .i64 (((min (l - 16 * j) 16) : Nat) : Int)) rfl (by kernel_rfl) ?_
      try simp only [p0, p1, p2, p3]
      refine wl_nil ?_
      show Code.wp _ _ _ _ _
      refine wp_seq ?_
      refine wl_region ?_
      refine wl_pure (.int .i64 (((min (l - 16 * j) 16) : Nat) : Int)) rfl (by kernel_rfl) ?_
      try simp only [p0, p1, p2, p3]
      refine wl_pure (.pointer (some ⟨g18, (min (l - 16 * j) 16), none⟩)) rfl (p_idx0 Tryd.underlying105 (by kernel_rfl) (min (l - 16 * j) 16) (by omega) rfl (by kernel_rfl) (by kernel_rfl) _) ?_
      try simp only [p0, p1, p2, p3]
      refine wl_runs rfl (r_st (L1 := []) (L2 := ((g16, 104, (aF .u64 3 (polyF (rF key) b l j))) :: (g11, 102, (aF .u64 2 (rF key))) :: (g2, 56, (aF .u8 16 zF)) :: (g1, 22, (aF .u8 32 key)) :: [])) (f := (cpy zF 0 (min (l - 16 * j) 16) (fun t => b (16 * j + t)))) (n := 24) (min (l - 16 * j) 16) 1 (by omega) rfl (by kernel_rfl) (by kernel_rfl) hO19 (by kernel_rfl)) fun _ w20 hO20 => ?_
      clear hO19
      try simp only [List.nil_append, List.cons_append] at hO20
      try simp only [p0, p1, p2, p3]
      refine wl_nil ?_
      show Code.wp _ _ _ _ _
      refine wp_seq ?_
      refine wl_region ?_
      refine wl_pure (.slice (some ⟨gb, ob, none⟩) (l - 16 * j) c') rfl (by kernel_rfl) ?_
      try simp only [p0, p1, p2, p3]
      refine wl_pure (.int .i64 (((min (l - 16 * j) 16) : Nat) : Int)) rfl (by kernel_rfl) ?_
      try simp only [p0, p1, p2, p3]
      refine wl_pure (.slice (mv (some ⟨gb, ob, none⟩) (min (l - 16 * j) 16) c') ((l - 16 * j) - (min (l - 16 * j) 16)) (c' - (min (l - 16 * j) 16))) rfl (s_cut (p := (some ⟨gb, ob, none⟩)) (n := (l - 16 * j)) (c := c') Tryd.underlying23 (by kernel_rfl) (some (.int .i64 (((min (l - 16 * j) 16) : Nat) : Int))) none (min (l - 16 * j) 16) (l - 16 * j) (.inl rfl) (.inr ⟨rfl, rfl⟩) (by omega) (by kernel_rfl)) ?_
      try simp only [p0, p1, p2, p3]
      refine wl_pure (.slice (mv (some ⟨gb, ob, none⟩) (min (l - 16 * j) 16) c') ((l - 16 * j) - (min (l - 16 * j) 16)) (c' - (min (l - 16 * j) 16))) rfl (by kernel_rfl) ?_
      try simp only [p0, p1, p2, p3]
      refine wl_nil ?_
      show Code.wp _ _ _ _ _
      refine wd_region [11] (Tr.ofList [(0, 1), (1, 1), (3, 1), (5, 1), (9, 1), (2, 3), (4, 3), (6, 3), (7, 1), (8, 3), (10, 3), (11, 4)] .nil) (by decide) (by kernel_rfl) (by kernel_rfl) hO20 fun w21 hO21 => ?_
      simp only [Tr.ofList]
      try clear hO20
      refine wd_ld (.agg (aF .u64 3 (polyF (rF key) b l j))) rfl (some 30) (by kernel_rfl) (by kernel_rfl) (fun _ hw => run_row (hw.get (.tail _ (.head _))) Tryd.underlying104 rfl (by kernel_rfl) rfl (by kernel_rfl)) hO21 ?_
      try simp only [p0, p1, p2, p3]
      refine wd_ld (.slice (some ⟨g18, 0, none⟩) 24 24) rfl (some 31) (by kernel_rfl) (by kernel_rfl) (fun _ hw => by kernel_rfl) hO21 ?_
      try simp only [p0, p1, p2, p3]
      refine wd_ld (.slice (some ⟨g18, 8, none⟩) 16 16) rfl (some 33) (by kernel_rfl) (by kernel_rfl) (fun _ hw => by kernel_rfl) hO21 ?_
      try simp only [p0, p1, p2, p3]
      refine wd_ld (.slice (some ⟨g18, 16, none⟩) 8 8) rfl (some 35) (by kernel_rfl) (by kernel_rfl) (fun _ hw => by kernel_rfl) hO21 ?_
      try simp only [p0, p1, p2, p3]
      refine wd_ld (.agg (aF .u64 2 (rF key))) rfl (some 39) (by kernel_rfl) (by kernel_rfl) (fun _ hw => run_row (hw.get (.tail _ (.tail _ (.head _)))) Tryd.underlying102 rfl (by kernel_rfl) rfl (by kernel_rfl)) hO21 ?_
      try simp only [p0, p1, p2, p3]
      refine wd_runs rfl (some 32) (by kernel_rfl) rfl (r_call (args := #[.slice (some ⟨g18, 0, none⟩) 24 24]) (u := .int .u64 (le8 (upd (cpy zF 0 (min (l - 16 * j) 16) (fun t => b (16 * j + t))) (min (l - 16 * j) 16) 1) 8)) (by kernel_rfl) (word8_any (rdc_own1 hO21 (.head _) 24 (by decide)) (by decide)) hO21) (fun _ _ h => h) fun _ w22 hO22 => ?_
      clear hO21
      try simp only [List.nil_append, List.cons_append] at hO22
      try simp only [p0, p1, p2, p3]
      refine wd_runs rfl (some 34) (by kernel_rfl) rfl (r_call (args := #[.slice (some ⟨g18, 8, none⟩) 16 16]) (u := .int .u64 (le8 (fun zz => (upd (cpy zF 0 (min (l - 16 * j) 16) (fun t => b (16 * j + t))) (min (l - 16 * j) 16) 1) (8 + zz)) 8)) (by kernel_rfl) (word8_any (rdc_own hO22 (.head _) 8 16 (by decide)) (by decide)) hO22) (fun _ _ h => h) fun _ w23 hO23 => ?_
      clear hO22
      try simp only [List.nil_append, List.cons_append] at hO23
      try simp only [p0, p1, p2, p3]
      refine wd_runs rfl (some 36) (by kernel_rfl) rfl (r_call (args := #[.slice (some ⟨g18, 16, none⟩) 8 8]) (u := .int .u64 (le8 (fun zz => (upd (cpy zF 0 (min (l - 16 * j) 16) (fun t => b (16 * j + t))) (min (l - 16 * j) 16) 1) (16 + zz)) 8)) (by kernel_rfl) (word8_any (rdc_own hO23 (.head _) 16 8 (by decide)) (by decide)) hO23) (fun _ _ h => h) fun _ w24 hO24 => ?_
      clear hO23
      try simp only [List.nil_append, List.cons_append] at hO24
      try simp only [p0, p1, p2, p3]
      refine wd_ld (.agg (aF .u64 3 (lit3 (le8 (upd (cpy zF 0 (min (l - 16 * j) 16) (fun t => b (16 * j + t))) (min (l - 16 * j) 16) 1) 8) (le8 (fun zz => (upd (cpy zF 0 (min (l - 16 * j) 16) (fun t => b (16 * j + t))) (min (l - 16 * j) 16) 1) (8 + zz)) 8) (le8 (fun zz => (upd (cpy zF 0 (min (l - 16 * j) 16) (fun t => b (16 * j + t))) (min (l - 16 * j) 16) 1) (16 + zz)) 8)))) rfl (some 37) (by kernel_rfl) (by kernel_rfl) (fun _ hw => by kernel_rfl) hO24 ?_
      try simp only [p0, p1, p2, p3]
      refine wd_runs rfl (some 38) (by kernel_rfl) rfl (r_call (args := #[.agg (aF .u64 3 (polyF (rF key) b l j)), .agg (aF .u64 3 (lit3 (le8 (upd (cpy zF 0 (min (l - 16 * j) 16) (fun t => b (16 * j + t))) (min (l - 16 * j) 16) 1) 8) (le8 (fun zz => (upd (cpy zF 0 (min (l - 16 * j) 16) (fun t => b (16 * j + t))) (min (l - 16 * j) 16) 1) (8 + zz)) 8) (le8 (fun zz => (upd (cpy zF 0 (min (l - 16 * j) 16) (fun t => b (16 * j + t))) (min (l - 16 * j) 16) 1) (16 + zz)) 8)))]) (u := .agg (aF .u64 3 (pls (polyF (rF key) b l j) (partN b l j) 3))) (by kernel_rfl) (plus_any (f := polyF (rF key) b l j) (g := partN b l j) (fun i hi => ⟨polyF_R64 j i hi, partN_R64 b l j i⟩) w24) hO24) (fun _ _ h => h) fun _ w25 hO25 => ?_
      clear hO24
      try simp only [List.nil_append, List.cons_append] at hO25
      try simp only [p0, p1, p2, p3]
      refine wd_runs rfl (some 40) (by kernel_rfl) rfl (r_call (args := #[.agg (aF .u64 3 (pls (polyF (rF key) b l j) (partN b l j) 3)), .agg (aF .u64 2 (rF key))]) (u := .agg (aF .u64 3 (polyF (rF key) b l (j + 1)))) (by kernel_rfl) (tmul_any (n := pls (polyF (rF key) b l j) (partN b l j) 3) (r := rF key) (fun i hi => pls_R64 3 i (.inl hi)) (fun i _ => rF_R64 key i) w25) hO25) (fun _ _ h => h) fun _ w26 hO26 => ?_
      clear hO25
      try simp only [List.nil_append, List.cons_append] at hO26
      try simp only [p0, p1, p2, p3]
      refine wd_runx rfl none (by kernel_rfl) rfl (r_row (L1 := [(g18, 105, (aF .u8 24 (upd (cpy zF 0 (min (l - 16 * j) 16) (fun t => b (16 * j + t))) (min (l - 16 * j) 16) 1)))]) (L2 := ((g11, 102, (aF .u64 2 (rF key))) :: (g2, 56, (aF .u8 16 zF)) :: (g1, 22, (aF .u8 32 key)) :: [])) (cs := (aF .u64 3 (polyF (rF key) b l j))) (aF .u64 3 (polyF (rF key) b l (j + 1))) rfl (by kernel_rfl) (by kernel_rfl) hO26 (by simp only [size_aF]) (by kernel_rfl) (one_aF _ _ _)) fun _ w27 hO27 => ?_
      clear hO26
      try simp only [List.nil_append, List.cons_append] at hO27
      try simp only [p0, p1, p2, p3]
      refine wd_nil ?_
      try simp only [Exit.then, Exit.inBlock]
      go_roundw
      case rel => exact ⟨j + 1, _, _, by omega, next16 hf17_1 (by omega), by rw [show l - 16 * (j + 1) = l - 16 * j - min (l - 16 * j) 16 by omega], hO27.tail⟩
      case measure => simp [intOf, slen]; omega
    · have hm17' := hm17
      obtain rfl : j = (l + 15) / 16 := by omega
      refine wp_seq ?_
      refine wp_seq ?_
      refine wl_region ?_
      refine wl_pure (.slice p' (l - 16 * ((l + 15) / 16)) c') rfl (by kernel_rfl) ?_
      try simp only [p0, p1, p2, p3]
      refine wl_pure (.int .i64 (((l - 16 * ((l + 15) / 16)) : Nat) : Int)) rfl (by kernel_rfl) ?_
      try simp only [p0, p1, p2, p3]
      refine wl_pure (.bool false) rfl (i_gtr (k := .i64) (((l - 16 * ((l + 15) / 16)) : Nat) : Int) 0 false (decide_eq_false (by omega)) rfl (by kernel_rfl) (by kernel_rfl) _) ?_
      try simp only [p0, p1, p2, p3]
      refine wl_nil ?_
      show Code.wp _ _ _ _ _
      refine wp_cond_false rfl ?_
      refine wp_exit ?_
      simp only [Exit.then, Exit.inBlock, if_true]
      replace hO17 : Own w ((g16, 104, (aF .u64 3 (nF key l b))) :: (g11, 102, (aF .u64 2 (rF key))) :: (g2, 56, (aF .u8 16 zF)) :: (g1, 22, (aF .u8 32 key)) :: []) wr := hO17
      have hNR : ∀ i, i < 3 → R64 ((nF key l b) i) := polyF_R64 _
      show Code.wp _ _ _ _ _
      refine wp_seq ?_
      refine wl_region ?_
      refine wl_pure (.pointer (some ⟨g16, 0, none⟩)) rfl (by kernel_rfl) ?_
      try simp only [p0, p1, p2, p3]
      refine wl_pure (.int .u64 ((nF key l b) 0)) rfl (run_cell (own_cell hO17 (.head _) 0 (by decide)) (by kernel_rfl) rfl (by kernel_rfl)) ?_
      try simp only [p0, p1, p2, p3]
      refine wl_pure (.pointer (some ⟨g16, 1, none⟩)) rfl (by kernel_rfl) ?_
      try simp only [p0, p1, p2, p3]
      refine wl_pure (.int .u64 ((nF key l b) 1)) rfl (run_cell (own_cell hO17 (.head _) 1 (by decide)) (by kernel_rfl) rfl (by kernel_rfl)) ?_
      try simp only [p0, p1, p2, p3]
      refine wl_pure (.pointer (some ⟨g16, 2, none⟩)) rfl (by kernel_rfl) ?_
      try simp only [p0, p1, p2, p3]
      refine wl_pure (.int .u64 ((nF key l b) 2)) rfl (run_cell (own_cell hO17 (.head _) 2 (by decide)) (by kernel_rfl) rfl (by kernel_rfl)) ?_
      try simp only [p0, p1, p2, p3]
      refine wl_pure (.int .u64 (iand .u64 ((nF key l b) 2) 3)) rfl (by kernel_rfl) ?_
      try simp only [p0, p1, p2, p3]
      refine wl_pure (.agg (aF .u64 3 (lit3 ((nF key l b) 0) ((nF key l b) 1) (iand .u64 ((nF key l b) 2) 3)))) rfl (by kernel_rfl) ?_
      try simp only [p0, p1, p2, p3]
      refine wl_pure (.pointer (some ⟨g16, 2, none⟩)) rfl (by kernel_rfl) ?_
      try simp only [p0, p1, p2, p3]
      refine wl_pure (.int .u64 ((nF key l b) 2)) rfl (run_cell (own_cell hO17 (.head _) 2 (by decide)) (by kernel_rfl) rfl (by kernel_rfl)) ?_
      try simp only [p0, p1, p2, p3]
      refine wl_pure (.int .u64 (ishr ((nF key l b) 2) 2)) rfl (by kernel_rfl) ?_
      try simp only [p0, p1, p2, p3]
      refine wl_pure (.int .u64 (imul .u64 5 (ishr ((nF key l b) 2) 2))) rfl (by kernel_rfl) ?_
      try simp only [p0, p1, p2, p3]
      refine wl_pure (.agg (aF .u64 3 (lit3 (imul .u64 5 (ishr ((nF key l b) 2) 2)) 0 0))) rfl (by kernel_rfl) ?_
      try simp only [p0, p1, p2, p3]
      refine wl_runs rfl (r_call (args := #[.agg (aF .u64 3 (lit3 ((nF key l b) 0) ((nF key l b) 1) (iand .u64 ((nF key l b) 2) 3))), .agg (aF .u64 3 (lit3 (imul .u64 5 (ishr ((nF key l b) 2) 2)) 0 0))]) (u := .agg (aF .u64 3 (red1 (nF key l b)))) (by kernel_rfl) (plus_any (f := redF (nF key l b)) (g := redG (nF key l b)) (fun i hi => ⟨lit3_R64 (hNR 0 (by decide)) (hNR 1 (by decide)) (.iand _ _) i, lit3_R64 (.imul _ _) .zero .zero i⟩) wr) hO17) fun _ w28 hO28 => ?_
      clear hO17
      try simp only [List.nil_append, List.cons_append] at hO28
      try simp only [p0, p1, p2, p3]
      refine wl_runs rfl (r_row (L1 := []) (L2 := ((g11, 102, (aF .u64 2 (rF key))) :: (g2, 56, (aF .u8 16 zF)) :: (g1, 22, (aF .u8 32 key)) :: [])) (cs := (aF .u64 3 (nF key l b))) (aF .u64 3 (red1 (nF key l b))) rfl (by kernel_rfl) (by kernel_rfl) hO28 (by simp only [size_aF]) (by kernel_rfl) (one_aF _ _ _)) fun _ w29 hO29 => ?_
      clear hO28
      try simp only [List.nil_append, List.cons_append] at hO29
      try simp only [p0, p1, p2, p3]
      refine wl_nil ?_
      show Code.wp _ _ _ _ _
      refine wp_seq ?_
      refine wl_region ?_
      refine wl_pure (.agg (aF .u64 3 (red1 (nF key l b)))) rfl (run_row (hO29.get (.head _)) Tryd.underlying104 rfl (by kernel_rfl) rfl (by kernel_rfl)) ?_
      try simp only [p0, p1, p2, p3]
      refine wl_pure (.agg (aF .u64 3 (lit3 5 0 0))) rfl (by kernel_rfl) ?_
      try simp only [p0, p1, p2, p3]
      refine wl_runs rfl (r_call (args := #[.agg (aF .u64 3 (red1 (nF key l b))), .agg (aF .u64 3 (lit3 5 0 0))]) (u := .agg (aF .u64 3 (mF (nF key l b)))) (by kernel_rfl) (plus_any (f := red1 (nF key l b)) (g := lit3 5 0 0) (fun i hi => ⟨pls_R64 3 i (.inl hi), lit3_R64 .five .zero .zero i⟩) w29) hO29) fun _ w30 hO30 => ?_
      clear hO29
      try simp only [List.nil_append, List.cons_append] at hO30
      try simp only [p0, p1, p2, p3]
      refine wl_runs rfl (r_new 104 (aF .u64 3 zF) (by kernel_rfl) hO30) fun g31 w31 hO31 => ?_
      clear hO30
      try simp only [List.nil_append, List.cons_append] at hO31
      try simp only [p0, p1, p2, p3]
      refine wl_runs rfl (r_row (L1 := []) (L2 := ((g16, 104, (aF .u64 3 (red1 (nF key l b)))) :: (g11, 102, (aF .u64 2 (rF key))) :: (g2, 56, (aF .u8 16 zF)) :: (g1, 22, (aF .u8 32 key)) :: [])) (cs := (aF .u64 3 zF)) (aF .u64 3 (mF (nF key l b))) rfl (by kernel_rfl) (by kernel_rfl) hO31 (by simp only [size_aF]) (by kernel_rfl) (one_aF _ _ _)) fun _ w32 hO32 => ?_
      clear hO31
      try simp only [List.nil_append, List.cons_append] at hO32
      try simp only [p0, p1, p2, p3]
      refine wl_nil ?_
      show Code.wp _ _ _ _ _
      by_cases hge : (4 : Int) ≤ mF (nF key l b) 2
      · skip
        refine wp_seq ?_
        refine wp_seq ?_
        refine wl_region ?_
        refine wl_pure (.pointer (some ⟨g31, 2, none⟩)) rfl (by kernel_rfl) ?_
        try simp only [p0, p1, p2, p3]
        refine wl_pure (.int .u64 ((mF (nF key l b)) 2)) rfl (run_cell (own_cell hO32 (.head _) 2 (by decide)) (by kernel_rfl) rfl (by kernel_rfl)) ?_
        try simp only [p0, p1, p2, p3]
        refine wl_pure (.bool true) rfl (i_geq (k := .u64) ((mF (nF key l b)) 2) 4 true (decide_eq_true hge) rfl (by kernel_rfl) (by kernel_rfl) _) ?_
        try simp only [p0, p1, p2, p3]
        refine wl_nil ?_
        show Code.wp _ _ _ _ _
        refine wp_cond_true rfl ?_
        refine wl_region ?_
        refine wl_pure (.agg (aF .u64 3 (mF (nF key l b)))) rfl (run_row (hO32.get (.head _)) Tryd.underlying104 rfl (by kernel_rfl) rfl (by kernel_rfl)) ?_
        try simp only [p0, p1, p2, p3]
        refine wl_runs rfl (r_row (L1 := [(g31, 104, (aF .u64 3 (mF (nF key l b))))]) (L2 := ((g11, 102, (aF .u64 2 (rF key))) :: (g2, 56, (aF .u8 16 zF)) :: (g1, 22, (aF .u8 32 key)) :: [])) (cs := (aF .u64 3 (red1 (nF key l b)))) (aF .u64 3 (mF (nF key l b))) rfl (by kernel_rfl) (by kernel_rfl) hO32 (by simp only [size_aF]) (by kernel_rfl) (one_aF _ _ _)) fun _ w33 hO33 => ?_
        clear hO32
        try simp only [List.nil_append, List.cons_append] at hO33
        try simp only [p0, p1, p2, p3]
        refine wl_nil ?_
        show Code.wp _ _ _ _ _
        refine wp_seq ?_
        refine wd_region [11] (Tr.ofList [(0, 1), (1, 1), (2, 1), (3, 1), (4, 1), (5, 1), (7, 1), (6, 3), (8, 3), (9, 1), (10, 3), (11, 4)] .nil) (by decide) (by kernel_rfl) (by kernel_rfl) hO33 fun w34 hO34 => ?_
        simp only [Tr.ofList]
        try clear hO33
        refine wd_ld (.pointer (some ⟨g16, 0, none⟩)) rfl (some 62) (by kernel_rfl) (by kernel_rfl) (fun _ hw => by kernel_rfl) hO34 ?_
        try simp only [p0, p1, p2, p3]
        refine wd_ld (.int .u64 ((mF (nF key l b)) 0)) rfl (some 63) (by kernel_rfl) (by kernel_rfl) (fun _ hw => run_cell (own_cell hw (.tail _ (.head _)) 0 (by decide)) (by kernel_rfl) rfl (by kernel_rfl)) hO34 ?_
        try simp only [p0, p1, p2, p3]
        refine wd_ld (.pointer (some ⟨g16, 1, none⟩)) rfl (some 64) (by kernel_rfl) (by kernel_rfl) (fun _ hw => by kernel_rfl) hO34 ?_
        try simp only [p0, p1, p2, p3]
        refine wd_ld (.int .u64 ((mF (nF key l b)) 1)) rfl (some 65) (by kernel_rfl) (by kernel_rfl) (fun _ hw => run_cell (own_cell hw (.tail _ (.head _)) 1 (by decide)) (by kernel_rfl) rfl (by kernel_rfl)) hO34 ?_
        try simp only [p0, p1, p2, p3]
        refine wd_ld (.agg (aF .u64 3 (lit3 ((mF (nF key l b)) 0) ((mF (nF key l b)) 1) 0))) rfl (some 66) (by kernel_rfl) (by kernel_rfl) (fun _ hw => by kernel_rfl) hO34 ?_
        try simp only [p0, p1, p2, p3]
        refine wd_ld (.slice (some ⟨g1, 16, none⟩) 16 16) rfl (some 67) (by kernel_rfl) (by kernel_rfl) (fun _ hw => by kernel_rfl) hO34 ?_
        try simp only [p0, p1, p2, p3]
        refine wd_ld (.slice (some ⟨g1, 24, none⟩) 8 8) rfl (some 69) (by kernel_rfl) (by kernel_rfl) (fun _ hw => by kernel_rfl) hO34 ?_
        try simp only [p0, p1, p2, p3]
        refine wd_runs rfl (some 68) (by kernel_rfl) rfl (r_call (args := #[.slice (some ⟨g1, 16, none⟩) 16 16]) (u := .int .u64 (le8 (fun zz => key (16 + zz)) 8)) (by kernel_rfl) (word8_any (rdc_own hO34 (.tail _ (.tail _ (.tail _ (.tail _ (.head _))))) 16 16 (by decide)) (by decide)) hO34) (fun _ _ h => h) fun _ w35 hO35 => ?_
        clear hO34
        try simp only [List.nil_append, List.cons_append] at hO35
        try simp only [p0, p1, p2, p3]
        refine wd_runs rfl (some 70) (by kernel_rfl) rfl (r_call (args := #[.slice (some ⟨g1, 24, none⟩) 8 8]) (u := .int .u64 (le8 (fun zz => key (24 + zz)) 8)) (by kernel_rfl) (word8_any (rdc_own hO35 (.tail _ (.tail _ (.tail _ (.tail _ (.head _))))) 24 8 (by decide)) (by decide)) hO35) (fun _ _ h => h) fun _ w36 hO36 => ?_
        clear hO35
        try simp only [List.nil_append, List.cons_append] at hO36
        try simp only [p0, p1, p2, p3]
        refine wd_ld (.agg (aF .u64 3 (lit3 (le8 (fun zz => key (16 + zz)) 8) (le8 (fun zz => key (24 + zz)) 8) 0))) rfl (some 71) (by kernel_rfl) (by kernel_rfl) (fun _ hw => by kernel_rfl) hO36 ?_
        try simp only [p0, p1, p2, p3]
        refine wd_runs rfl (some 72) (by kernel_rfl) rfl (r_call (args := #[.agg (aF .u64 3 (lit3 ((mF (nF key l b)) 0) ((mF (nF key l b)) 1) 0)), .agg (aF .u64 3 (lit3 (le8 (fun zz => key (16 + zz)) 8) (le8 (fun zz => key (24 + zz)) 8) 0))]) (u := .agg (aF .u64 3 (pls (lowN (mF (nF key l b))) (keyN2 key) 3))) (by kernel_rfl) (plus_any (f := lowN (mF (nF key l b))) (g := keyN2 key) (fun i hi => ⟨lit3_R64 (pls_R64 3 0 (.inl (by decide))) (pls_R64 3 1 (.inl (by decide))) .zero i, lit3_R64 (.le8 _ 7) (.le8 _ 7) .zero i⟩) w36) hO36) (fun _ _ h => h) fun _ w37 hO37 => ?_
        clear hO36
        try simp only [List.nil_append, List.cons_append] at hO37
        try simp only [p0, p1, p2, p3]
        refine wd_runx rfl none (by kernel_rfl) rfl (r_row (L1 := [(g31, 104, (aF .u64 3 (mF (nF key l b))))]) (L2 := ((g11, 102, (aF .u64 2 (rF key))) :: (g2, 56, (aF .u8 16 zF)) :: (g1, 22, (aF .u8 32 key)) :: [])) (cs := (aF .u64 3 (mF (nF key l b)))) (aF .u64 3 (pls (lowN (mF (nF key l b))) (keyN2 key) 3)) rfl (by kernel_rfl) (by kernel_rfl) hO37 (by simp only [size_aF]) (by kernel_rfl) (one_aF _ _ _)) fun _ w38 hO38 => ?_
        clear hO37
        try simp only [List.nil_append, List.cons_append] at hO38
        try simp only [p0, p1, p2, p3]
        refine wd_nil ?_
        show Code.wp _ _ _ _ _
        refine wp_seq ?_
        refine wl_region ?_
        refine wl_runs rfl (r_new 56 (aF .u8 16 zF) (by kernel_rfl) hO38) fun g39 w39 hO39 => ?_
        clear hO38
        try simp only [List.nil_append, List.cons_append] at hO39
        try simp only [p0, p1, p2, p3]
        refine wl_nil ?_
        show Code.wp _ _ _ _ _
        refine wp_seq ?_
        refine wp_seq ?_
        refine wl_region ?_
        refine wl_pure (.int .i64 0) rfl (by kernel_rfl) ?_
        try simp only [p0, p1, p2, p3]
        refine wl_nil ?_
        show Code.wp _ _ _ _ _
        go_wp2_with fail
        go_loopw [73] (fun v40_73 wr40 => ∃ (i : Nat), i ≤ 16 ∧ v40_73 = .int .i64 ((i : Nat) : Int) ∧ Own w ((g39, 56, (aF .u8 16 (outT (pls (lowN (mF (nF key l b))) (keyN2 key) 3) i))) :: (g31, 104, (aF .u64 3 (mF (nF key l b)))) :: (g16, 104, (aF .u64 3 (pls (lowN (mF (nF key l b))) (keyN2 key) 3))) :: (g11, 102, (aF .u64 2 (rF key))) :: (g2, 56, (aF .u8 16 zF)) :: (g1, 22, (aF .u8 32 key)) :: []) wr40) (fun v40_73 wr40 => 16 - (intOf v40_73).toNat)
        case atStart => exact ⟨0, by omega, rfl, hO39⟩
        case round =>
          try clear hO39
          obtain ⟨i, hf40_0, rfl, hO40⟩ := hrel
          by_cases hm40 : i < 16
          · have hm40' := hm40
            refine wp_seq ?_
            refine wl_region ?_
            refine wl_pure (.bool true) rfl (i_lss (k := .i64) ((i : Nat) : Int) 16 true (decide_eq_true (by omega)) rfl (by kernel_rfl) (by kernel_rfl) _) ?_
            try simp only [p0, p1, p2, p3]
            refine wl_nil ?_
            show Code.wp _ _ _ _ _
            refine wp_seq ?_
            refine wp_cond_true rfl ?_
            refine wp_skip ?_
            show Code.wp _ _ _ _ _
            refine wp_seq ?_
            refine wp_block ?_
            refine wp_seq ?_
            refine wl_region ?_
            refine wl_pure (.int .i64 ((i : Nat) : Int)) rfl (by kernel_rfl) ?_
            try simp only [p0, p1, p2, p3]
            refine wl_pure (.int .i64 ((i : Nat) : Int)) rfl (by kernel_rfl) ?_
            try simp only [p0, p1, p2, p3]
            refine wl_nil ?_
            show Code.wp _ _ _ _ _
            refine wl_region ?_
            refine wl_pure (.int .i64 ((i : Nat) : Int)) rfl (by kernel_rfl) ?_
            try simp only [p0, p1, p2, p3]
            refine wl_pure (.int .i64 ((i : Nat) : Int)) rfl (by kernel_rfl) ?_
            try simp only [p0, p1, p2, p3]
            refine wl_pure (.int .i64 ((i / 8 : Nat) : Int)) rfl (n_quo (k := .i64) rfl i 8 (by omega) rfl (by kernel_rfl) (by kernel_rfl) _) ?_
            try simp only [p0, p1, p2, p3]
            refine wl_pure (.pointer (some ⟨g16, i / 8, none⟩)) rfl (p_idx0 Tryd.underlying104 (by kernel_rfl) (i / 8) (by omega) rfl (by kernel_rfl) (by kernel_rfl) _) ?_
            try simp only [p0, p1, p2, p3]
            refine wl_pure (.int .u64 ((pls (lowN (mF (nF key l b))) (keyN2 key) 3) (i / 8))) rfl (run_cell (own_cell hO40 (.tail _ (.tail _ (.head _))) (i / 8) (by omega)) (by kernel_rfl) rfl (by kernel_rfl)) ?_
            try simp only [p0, p1, p2, p3]
            refine wl_pure (.int .i64 ((i : Nat) : Int)) rfl (by kernel_rfl) ?_
            try simp only [p0, p1, p2, p3]
            refine wl_pure (.int .i64 ((i % 8 : Nat) : Int)) rfl (n_rem (k := .i64) rfl i 8 (by omega) rfl (by kernel_rfl) (by kernel_rfl) _) ?_
            try simp only [p0, p1, p2, p3]
            refine wl_pure (.int .i64 ((8 * (i % 8) : Nat) : Int)) rfl (n_mul (k := .i64) rfl 8 (i % 8) (by omega) rfl (by kernel_rfl) (by kernel_rfl) _) ?_
            try simp only [p0, p1, p2, p3]
            refine wl_pure (.int .u64 (ishr ((pls (lowN (mF (nF key l b))) (keyN2 key) 3) (i / 8)) (8 * (i % 8)))) rfl (n_shr (k := .u64) (yk := .i64) ((pls (lowN (mF (nF key l b))) (keyN2 key) 3) (i / 8)) (8 * (i % 8)) (by simp only [IntKind.bits]; omega) rfl (by kernel_rfl) (by kernel_rfl) _) ?_
            try simp only [p0, p1, p2, p3]
            refine wl_pure (.int .u8 (cv .u8 (ishr ((pls (lowN (mF (nF key l b))) (keyN2 key) 3) (i / 8)) (8 * (i % 8))))) rfl (by kernel_rfl) ?_
            try simp only [p0, p1, p2, p3]
            refine wl_pure (.pointer (some ⟨g39, i, none⟩)) rfl (p_idx0 Tryd.underlying56 (by kernel_rfl) i (by omega) rfl (by kernel_rfl) (by kernel_rfl) _) ?_
            try simp only [p0, p1, p2, p3]
            refine wl_runs rfl (r_st (L1 := []) (L2 := ((g31, 104, (aF .u64 3 (mF (nF key l b)))) :: (g16, 104, (aF .u64 3 (pls (lowN (mF (nF key l b))) (keyN2 key) 3))) :: (g11, 102, (aF .u64 2 (rF key))) :: (g2, 56, (aF .u8 16 zF)) :: (g1, 22, (aF .u8 32 key)) :: [])) (f := (outT (pls (lowN (mF (nF key l b))) (keyN2 key) 3) i)) (n := 16) i (cv .u8 (ishr ((pls (lowN (mF (nF key l b))) (keyN2 key) 3) (i / 8)) (8 * (i % 8)))) (by omega) rfl (by kernel_rfl) (by kernel_rfl) hO40 (by kernel_rfl)) fun _ w41 hO41 => ?_
            clear hO40
            try simp only [List.nil_append, List.cons_append] at hO41
            try simp only [p0, p1, p2, p3]
            refine wl_nil ?_
            show Code.wp _ _ _ _ _
            refine wl_region ?_
            refine wl_pure (.int .i64 ((i + 1 : Nat) : Int)) rfl (n_add (k := .i64) rfl i 1 (by omega) rfl (by kernel_rfl) (by kernel_rfl) _) ?_
            try simp only [p0, p1, p2, p3]
            refine wl_pure (.int .i64 ((i + 1 : Nat) : Int)) rfl (by kernel_rfl) ?_
            try simp only [p0, p1, p2, p3]
            refine wl_nil ?_
            try simp only [Exit.then, Exit.inBlock]
            go_roundw
            case rel => exact ⟨i + 1, by omega, rfl, hO41⟩
            case measure => simp [intOf, slen]; omega
          · have hm40' := hm40
            obtain rfl : i = 16 := by omega
            refine wp_seq ?_
            refine wl_region ?_
            refine wl_pure (.bool false) rfl (by kernel_rfl) ?_
            try simp only [p0, p1, p2, p3]
            refine wl_nil ?_
            show Code.wp _ _ _ _ _
            refine wp_seq ?_
            refine wp_cond_false rfl ?_
            refine wp_exit ?_
            simp only [Exit.then, Exit.inBlock, if_true]
            show Code.wp _ _ _ _ _
            refine wp_seq ?_
            refine wl_region ?_
            refine wl_pure (.agg (aF .u8 16 (outT (pls (lowN (mF (nF key l b))) (keyN2 key) 3) 16))) rfl (run_row (hO40.get (.head _)) Tryd.underlying56 rfl (by kernel_rfl) rfl (by kernel_rfl)) ?_
            try simp only [p0, p1, p2, p3]
            refine wl_runs rfl (r_row (L1 := [(g39, 56, (aF .u8 16 (outT (pls (lowN (mF (nF key l b))) (keyN2 key) 3) 16))), (g31, 104, (aF .u64 3 (mF (nF key l b)))), (g16, 104, (aF .u64 3 (pls (lowN (mF (nF key l b))) (keyN2 key) 3))), (g11, 102, (aF .u64 2 (rF key)))]) (L2 := ((g1, 22, (aF .u8 32 key)) :: [])) (cs := (aF .u8 16 zF)) (aF .u8 16 (outT (pls (lowN (mF (nF key l b))) (keyN2 key) 3) 16)) rfl (by kernel_rfl) (by kernel_rfl) hO40 (by simp only [size_aF]) (by kernel_rfl) (one_aF _ _ _)) fun _ w42 hO42 => ?_
            clear hO40
            try simp only [List.nil_append, List.cons_append] at hO42
            try simp only [p0, p1, p2, p3]
            refine wl_nil ?_
            show Code.wp _ _ _ _ _
            refine wp_ret ?_
            refine bodyPost_ret (results_cell_row rfl _ _ g2 56 (aF .u8 16 (outT (pls (lowN (mF (nF key l b))) (keyN2 key) 3) 16)) (0, 0) _ rfl (hO42.get (.tail _ (.tail _ (.tail _ (.tail _ (.head _)))))) Tryd.underlying56 rfl (by kernel_rfl)) rfl ?_
            exact ⟨by rw [show tagF key l b = tagOut key (mF (nF key l b)) by unfold tagF; rw [if_pos (show (4 : Int) ≤ mF (nF key l b) 2 by omega)]]; rfl, hO42.bl⟩
      · skip
        refine wp_seq ?_
        refine wp_seq ?_
        refine wl_region ?_
        refine wl_pure (.pointer (some ⟨g31, 2, none⟩)) rfl (by kernel_rfl) ?_
        try simp only [p0, p1, p2, p3]
        refine wl_pure (.int .u64 ((mF (nF key l b)) 2)) rfl (run_cell (own_cell hO32 (.head _) 2 (by decide)) (by kernel_rfl) rfl (by kernel_rfl)) ?_
        try simp only [p0, p1, p2, p3]
        refine wl_pure (.bool false) rfl (i_geq (k := .u64) ((mF (nF key l b)) 2) 4 false (decide_eq_false hge) rfl (by kernel_rfl) (by kernel_rfl) _) ?_
        try simp only [p0, p1, p2, p3]
        refine wl_nil ?_
        show Code.wp _ _ _ _ _
        refine wp_cond_false rfl ?_
        refine wp_skip ?_
        show Code.wp _ _ _ _ _
        refine wp_seq ?_
        refine wd_region [11] (Tr.ofList [(0, 1), (1, 1), (2, 1), (3, 1), (4, 1), (5, 1), (7, 1), (6, 3), (8, 3), (9, 1), (10, 3), (11, 4)] .nil) (by decide) (by kernel_rfl) (by kernel_rfl) hO32 fun w43 hO43 => ?_
        simp only [Tr.ofList]
        try clear hO32
        refine wd_ld (.pointer (some ⟨g16, 0, none⟩)) rfl (some 62) (by kernel_rfl) (by kernel_rfl) (fun _ hw => by kernel_rfl) hO43 ?_
        try simp only [p0, p1, p2, p3]
        refine wd_ld (.int .u64 ((red1 (nF key l b)) 0)) rfl (some 63) (by kernel_rfl) (by kernel_rfl) (fun _ hw => run_cell (own_cell hw (.tail _ (.head _)) 0 (by decide)) (by kernel_rfl) rfl (by kernel_rfl)) hO43 ?_
        try simp only [p0, p1, p2, p3]
        refine wd_ld (.pointer (some ⟨g16, 1, none⟩)) rfl (some 64) (by kernel_rfl) (by kernel_rfl) (fun _ hw => by kernel_rfl) hO43 ?_
        try simp only [p0, p1, p2, p3]
        refine wd_ld (.int .u64 ((red1 (nF key l b)) 1)) rfl (some 65) (by kernel_rfl) (by kernel_rfl) (fun _ hw => run_cell (own_cell hw (.tail _ (.head _)) 1 (by decide)) (by kernel_rfl) rfl (by kernel_rfl)) hO43 ?_
        try simp only [p0, p1, p2, p3]
        refine wd_ld (.agg (aF .u64 3 (lit3 ((red1 (nF key l b)) 0) ((red1 (nF key l b)) 1) 0))) rfl (some 66) (by kernel_rfl) (by kernel_rfl) (fun _ hw => by kernel_rfl) hO43 ?_
        try simp only [p0, p1, p2, p3]
        refine wd_ld (.slice (some ⟨g1, 16, none⟩) 16 16) rfl (some 67) (by kernel_rfl) (by kernel_rfl) (fun _ hw => by kernel_rfl) hO43 ?_
        try simp only [p0, p1, p2, p3]
        refine wd_ld (.slice (some ⟨g1, 24, none⟩) 8 8) rfl (some 69) (by kernel_rfl) (by kernel_rfl) (fun _ hw => by kernel_rfl) hO43 ?_
        try simp only [p0, p1, p2, p3]
        refine wd_runs rfl (some 68) (by kernel_rfl) rfl (r_call (args := #[.slice (some ⟨g1, 16, none⟩) 16 16]) (u := .int .u64 (le8 (fun zz => key (16 + zz)) 8)) (by kernel_rfl) (word8_any (rdc_own hO43 (.tail _ (.tail _ (.tail _ (.tail _ (.head _))))) 16 16 (by decide)) (by decide)) hO43) (fun _ _ h => h) fun _ w44 hO44 => ?_
        clear hO43
        try simp only [List.nil_append, List.cons_append] at hO44
        try simp only [p0, p1, p2, p3]
        refine wd_runs rfl (some 70) (by kernel_rfl) rfl (r_call (args := #[.slice (some ⟨g1, 24, none⟩) 8 8]) (u := .int .u64 (le8 (fun zz => key (24 + zz)) 8)) (by kernel_rfl) (word8_any (rdc_own hO44 (.tail _ (.tail _ (.tail _ (.tail _ (.head _))))) 24 8 (by decide)) (by decide)) hO44) (fun _ _ h => h) fun _ w45 hO45 => ?_
        clear hO44
        try simp only [List.nil_append, List.cons_append] at hO45
        try simp only [p0, p1, p2, p3]
        refine wd_ld (.agg (aF .u64 3 (lit3 (le8 (fun zz => key (16 + zz)) 8) (le8 (fun zz => key (24 + zz)) 8) 0))) rfl (some 71) (by kernel_rfl) (by kernel_rfl) (fun _ hw => by kernel_rfl) hO45 ?_
        try simp only [p0, p1, p2, p3]
        refine wd_runs rfl (some 72) (by kernel_rfl) rfl (r_call (args := #[.agg (aF .u64 3 (lit3 ((red1 (nF key l b)) 0) ((red1 (nF key l b)) 1) 0)), .agg (aF .u64 3 (lit3 (le8 (fun zz => key (16 + zz)) 8) (le8 (fun zz => key (24 + zz)) 8) 0))]) (u := .agg (aF .u64 3 (pls (lowN (red1 (nF key l b))) (keyN2 key) 3))) (by kernel_rfl) (plus_any (f := lowN (red1 (nF key l b))) (g := keyN2 key) (fun i hi => ⟨lit3_R64 (pls_R64 3 0 (.inl (by decide))) (pls_R64 3 1 (.inl (by decide))) .zero i, lit3_R64 (.le8 _ 7) (.le8 _ 7) .zero i⟩) w45) hO45) (fun _ _ h => h) fun _ w46 hO46 => ?_
        clear hO45
        try simp only [List.nil_append, List.cons_append] at hO46
        try simp only [p0, p1, p2, p3]
        refine wd_runx rfl none (by kernel_rfl) rfl (r_row (L1 := [(g31, 104, (aF .u64 3 (mF (nF key l b))))]) (L2 := ((g11, 102, (aF .u64 2 (rF key))) :: (g2, 56, (aF .u8 16 zF)) :: (g1, 22, (aF .u8 32 key)) :: [])) (cs := (aF .u64 3 (red1 (nF key l b)))) (aF .u64 3 (pls (lowN (red1 (nF key l b))) (keyN2 key) 3)) rfl (by kernel_rfl) (by kernel_rfl) hO46 (by simp only [size_aF]) (by kernel_rfl) (one_aF _ _ _)) fun _ w47 hO47 => ?_
        clear hO46
        try simp only [List.nil_append, List.cons_append] at hO47
        try simp only [p0, p1, p2, p3]
        refine wd_nil ?_
        show Code.wp _ _ _ _ _
        refine wp_seq ?_
        refine wl_region ?_
        refine wl_runs rfl (r_new 56 (aF .u8 16 zF) (by kernel_rfl) hO47) fun g48 w48 hO48 => ?_
        clear hO47
        try simp only [List.nil_append, List.cons_append] at hO48
        try simp only [p0, p1, p2, p3]
        refine wl_nil ?_
        show Code.wp _ _ _ _ _
        refine wp_seq ?_
        refine wp_seq ?_
        refine wl_region ?_
        refine wl_pure (.int .i64 0) rfl (by kernel_rfl) ?_
        try simp only [p0, p1, p2, p3]
        refine wl_nil ?_
        show Code.wp _ _ _ _ _
        go_wp2_with fail
        go_loopw [73] (fun v49_73 wr49 => ∃ (i : Nat), i ≤ 16 ∧ v49_73 = .int .i64 ((i : Nat) : Int) ∧ Own w ((g48, 56, (aF .u8 16 (outT (pls (lowN (red1 (nF key l b))) (keyN2 key) 3) i))) :: (g31, 104, (aF .u64 3 (mF (nF key l b)))) :: (g16, 104, (aF .u64 3 (pls (lowN (red1 (nF key l b))) (keyN2 key) 3))) :: (g11, 102, (aF .u64 2 (rF key))) :: (g2, 56, (aF .u8 16 zF)) :: (g1, 22, (aF .u8 32 key)) :: []) wr49) (fun v49_73 wr49 => 16 - (intOf v49_73).toNat)
        case atStart => exact ⟨0, by omega, rfl, hO48⟩
        case round =>
          try clear hO48
          obtain ⟨i, hf49_0, rfl, hO49⟩ := hrel
          by_cases hm49 : i < 16
          · have hm49' := hm49
            refine wp_seq ?_
            refine wl_region ?_
            refine wl_pure (.bool true) rfl (i_lss (k := .i64) ((i : Nat) : Int) 16 true (decide_eq_true (by omega)) rfl (by kernel_rfl) (by kernel_rfl) _) ?_
            try simp only [p0, p1, p2, p3]
            refine wl_nil ?_
            show Code.wp _ _ _ _ _
            refine wp_seq ?_
            refine wp_cond_true rfl ?_
            refine wp_skip ?_
            show Code.wp _ _ _ _ _
            refine wp_seq ?_
            refine wp_block ?_
            refine wp_seq ?_
            refine wl_region ?_
            refine wl_pure (.int .i64 ((i : Nat) : Int)) rfl (by kernel_rfl) ?_
            try simp only [p0, p1, p2, p3]
            refine wl_pure (.int .i64 ((i : Nat) : Int)) rfl (by kernel_rfl) ?_
            try simp only [p0, p1, p2, p3]
            refine wl_nil ?_
            show Code.wp _ _ _ _ _
            refine wl_region ?_
            refine wl_pure (.int .i64 ((i : Nat) : Int)) rfl (by kernel_rfl) ?_
            try simp only [p0, p1, p2, p3]
            refine wl_pure (.int .i64 ((i : Nat) : Int)) rfl (by kernel_rfl) ?_
            try simp only [p0, p1, p2, p3]
            refine wl_pure (.int .i64 ((i / 8 : Nat) : Int)) rfl (n_quo (k := .i64) rfl i 8 (by omega) rfl (by kernel_rfl) (by kernel_rfl) _) ?_
            try simp only [p0, p1, p2, p3]
            refine wl_pure (.pointer (some ⟨g16, i / 8, none⟩)) rfl (p_idx0 Tryd.underlying104 (by kernel_rfl) (i / 8) (by omega) rfl (by kernel_rfl) (by kernel_rfl) _) ?_
            try simp only [p0, p1, p2, p3]
            refine wl_pure (.int .u64 ((pls (lowN (red1 (nF key l b))) (keyN2 key) 3) (i / 8))) rfl (run_cell (own_cell hO49 (.tail _ (.tail _ (.head _))) (i / 8) (by omega)) (by kernel_rfl) rfl (by kernel_rfl)) ?_
            try simp only [p0, p1, p2, p3]
            refine wl_pure (.int .i64 ((i : Nat) : Int)) rfl (by kernel_rfl) ?_
            try simp only [p0, p1, p2, p3]
            refine wl_pure (.int .i64 ((i % 8 : Nat) : Int)) rfl (n_rem (k := .i64) rfl i 8 (by omega) rfl (by kernel_rfl) (by kernel_rfl) _) ?_
            try simp only [p0, p1, p2, p3]
            refine wl_pure (.int .i64 ((8 * (i % 8) : Nat) : Int)) rfl (n_mul (k := .i64) rfl 8 (i % 8) (by omega) rfl (by kernel_rfl) (by kernel_rfl) _) ?_
            try simp only [p0, p1, p2, p3]
            refine wl_pure (.int .u64 (ishr ((pls (lowN (red1 (nF key l b))) (keyN2 key) 3) (i / 8)) (8 * (i % 8)))) rfl (n_shr (k := .u64) (yk := .i64) ((pls (lowN (red1 (nF key l b))) (keyN2 key) 3) (i / 8)) (8 * (i % 8)) (by simp only [IntKind.bits]; omega) rfl (by kernel_rfl) (by kernel_rfl) _) ?_
            try simp only [p0, p1, p2, p3]
            refine wl_pure (.int .u8 (cv .u8 (ishr ((pls (lowN (red1 (nF key l b))) (keyN2 key) 3) (i / 8)) (8 * (i % 8))))) rfl (by kernel_rfl) ?_
            try simp only [p0, p1, p2, p3]
            refine wl_pure (.pointer (some ⟨g48, i, none⟩)) rfl (p_idx0 Tryd.underlying56 (by kernel_rfl) i (by omega) rfl (by kernel_rfl) (by kernel_rfl) _) ?_
            try simp only [p0, p1, p2, p3]
            refine wl_runs rfl (r_st (L1 := []) (L2 := ((g31, 104, (aF .u64 3 (mF (nF key l b)))) :: (g16, 104, (aF .u64 3 (pls (lowN (red1 (nF key l b))) (keyN2 key) 3))) :: (g11, 102, (aF .u64 2 (rF key))) :: (g2, 56, (aF .u8 16 zF)) :: (g1, 22, (aF .u8 32 key)) :: [])) (f := (outT (pls (lowN (red1 (nF key l b))) (keyN2 key) 3) i)) (n := 16) i (cv .u8 (ishr ((pls (lowN (red1 (nF key l b))) (keyN2 key) 3) (i / 8)) (8 * (i % 8)))) (by omega) rfl (by kernel_rfl) (by kernel_rfl) hO49 (by kernel_rfl)) fun _ w50 hO50 => ?_
            clear hO49
            try simp only [List.nil_append, List.cons_append] at hO50
            try simp only [p0, p1, p2, p3]
            refine wl_nil ?_
            show Code.wp _ _ _ _ _
            refine wl_region ?_
            refine wl_pure (.int .i64 ((i + 1 : Nat) : Int)) rfl (n_add (k := .i64) rfl i 1 (by omega) rfl (by kernel_rfl) (by kernel_rfl) _) ?_
            try simp only [p0, p1, p2, p3]
            refine wl_pure (.int .i64 ((i + 1 : Nat) : Int)) rfl (by kernel_rfl) ?_
            try simp only [p0, p1, p2, p3]
            refine wl_nil ?_
            try simp only [Exit.then, Exit.inBlock]
            go_roundw
            case rel => exact ⟨i + 1, by omega, rfl, hO50⟩
            case measure => simp [intOf, slen]; omega
          · have hm49' := hm49
            obtain rfl : i = 16 := by omega
            refine wp_seq ?_
            refine wl_region ?_
            refine wl_pure (.bool false) rfl (by kernel_rfl) ?_
            try simp only [p0, p1, p2, p3]
            refine wl_nil ?_
            show Code.wp _ _ _ _ _
            refine wp_seq ?_
            refine wp_cond_false rfl ?_
            refine wp_exit ?_
            simp only [Exit.then, Exit.inBlock, if_true]
            show Code.wp _ _ _ _ _
            refine wp_seq ?_
            refine wl_region ?_
            refine wl_pure (.agg (aF .u8 16 (outT (pls (lowN (red1 (nF key l b))) (keyN2 key) 3) 16))) rfl (run_row (hO49.get (.head _)) Tryd.underlying56 rfl (by kernel_rfl) rfl (by kernel_rfl)) ?_
            try simp only [p0, p1, p2, p3]
            refine wl_runs rfl (r_row (L1 := [(g48, 56, (aF .u8 16 (outT (pls (lowN (red1 (nF key l b))) (keyN2 key) 3) 16))), (g31, 104, (aF .u64 3 (mF (nF key l b)))), (g16, 104, (aF .u64 3 (pls (lowN (red1 (nF key l b))) (keyN2 key) 3))), (g11, 102, (aF .u64 2 (rF key)))]) (L2 := ((g1, 22, (aF .u8 32 key)) :: [])) (cs := (aF .u8 16 zF)) (aF .u8 16 (outT (pls (lowN (red1 (nF key l b))) (keyN2 key) 3) 16)) rfl (by kernel_rfl) (by kernel_rfl) hO49 (by simp only [size_aF]) (by kernel_rfl) (one_aF _ _ _)) fun _ w51 hO51 => ?_
            clear hO49
            try simp only [List.nil_append, List.cons_append] at hO51
            try simp only [p0, p1, p2, p3]
            refine wl_nil ?_
            show Code.wp _ _ _ _ _
            refine wp_ret ?_
            refine bodyPost_ret (results_cell_row rfl _ _ g2 56 (aF .u8 16 (outT (pls (lowN (red1 (nF key l b))) (keyN2 key) 3) 16)) (0, 0) _ rfl (hO51.get (.tail _ (.tail _ (.tail _ (.tail _ (.head _)))))) Tryd.underlying56 rfl (by kernel_rfl)) rfl ?_
            exact ⟨by rw [show tagF key l b = tagOut key (red1 (nF key l b)) by unfold tagF; rw [if_neg (show ¬ ((4 : Int) ≤ mF (nF key l b) 2) by omega)]]; rfl, hO51.bl⟩
end Go.Proofs.YtkmgdpbmkbpkjaaDoor
