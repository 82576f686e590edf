/-
  SHA-256: Sum.
-/
import Derived.Test.YtkmgdpbmkbpkjaaDoorWs
set_option linter.unusedVariables false
set_option linter.unusedSimpArgs false
namespace Go.Proofs.YtkmgdpbmkbpkjaaDoor
open Go.RowKit

/-- What ends a text: one bit, zeros, the length. -/
def endF : Nat → Int
  | 0 => 128
  | _ => 0
def padE (m : Nat) : Nat := 1 + (119 - m) % 64
def endC (n : Int) (e : Nat) : Nat → (Nat → Int)
  | 0 => endF
  | k + 1 => cat (endC n e k) (e + k) (lit1 (cv .u8 (ishr n (56 - 8 * k))))
/-- The words' bytes. -/
def outW (S x : Nat → Int) : Nat → (Nat → Int)
  | 0 => zF
  | i + 1 => upd (upd (upd (upd (outW S x i) (4 * i) (cv .u8 (ishr (ia .u32 (x i) (S i)) 24))) (4 * i + 1) (cv .u8 (ishr (ia .u32 (x i) (S i)) 16))) (4 * i + 2) (cv .u8 (ishr (ia .u32 (x i) (S i)) 8))) (4 * i + 3) (cv .u8 (ia .u32 (x i) (S i)))
def dsum (K S s : Nat → Int) (m : Nat) (f : Nat → Int) (n : Int) : Nat → Int := outW S (wrS K S s m f (padE m + 8) (endC (imul .u64 8 n) (padE m) 8)) 8
theorem end_next {q : Option Addr} {e c : Nat} {cs : Array Value} (h : Buf .u8 1 q (e + 1) c cs (cat endF e (lit1 0))) (h1 : 1 ≤ e) : Buf .u8 1 q (e + 1) c cs endF := h.congr fun j hj => by
  unfold cat
  split
  · rfl
  · next h => cases j with
    | zero => omega
    | succ j => rfl
theorem end_one (g : Nat) : Buf .u8 1 (some ⟨g, 0, none⟩) 1 1 (aF .u8 1 (lit1 128)) endF := (Buf.of (k := .u8) (z := 1) (c := 1) (n := 1) (f := lit1 128) g (Nat.le_refl _)).congr fun j hj => by
  obtain rfl : j = 0 := by omega
  rfl
theorem Bk.at {w : World} {g n : Nat} {t : TypeId} {k : IntKind} {f : Nat → Int} (h : Bk w g t (aF k n f)) (j : Nat) (hj : j < n) : w.cell? ⟨g, j, none⟩ = some (.int k (f j)) := (h.cell j).trans (get_aF k n f j hj)
set_option maxRecDepth 100000 in
set_option maxHeartbeats 4000000 in
theorem dsum_any {K S s f : Nat → Int} {q : Option Addr} {m c t2 t3 : Nat} {n : Int} {w : World} (hS : Bk w 2 t2 (aF .u32 8 S)) (hK : Bk w 3 t3 (aF .u32 64 K)) (hd : RdF w (.slice q m c) m f) (hm : m < 64) :
    Ret Tryd.prog 59 #[.agg (dg s (.slice q m c) n)] w (.agg (aF .u8 32 (dsum K S s m f n))) := by
  unfold Ret
  refine calls_of_wp Tryd.func59 rfl ?_
  simp only [Tryd.ntmps59, List.size_toArray, List.length_cons, List.length_nil, Nat.reduceAdd, Nat.reduceSub, Array.replicate_succ, Array.replicate_zero, List.push_toArray, List.append_toArray, List.nil_append, List.cons_append]
  have hO := Own.nil w
  have hpe : padE m ≤ 64 := by unfold padE; omega
  refine wp_seq ?_
  refine wl_region ?_
  refine wl_runs rfl (r_new 91 (dg s (.slice q m c) n) (by kernel_rfl) hO) fun g1 w1 hO1 => ?_
  clear hO
  try simp only [List.nil_append, List.cons_append] at hO1
  try simp only [p0, p1, p2, p3]
  refine wl_runs rfl (r_new 22 (aF .u8 32 zF) (by kernel_rfl) hO1) fun g2 w2 hO2 => ?_
  clear hO1
  try simp only [List.nil_append, List.cons_append] at hO2
  try simp only [p0, p1, p2, p3]
  refine wl_nil ?_
  show Code.wp _ _ _ _ _
  refine wp_seq ?_
  refine wl_region ?_
  refine wl_pure (.pointer (some ⟨g1, 9, none⟩)) rfl (by kernel_rfl) ?_
  try simp only [p0, p1, p2, p3]
  refine wl_pure (.int .u64 n) rfl (run_cell (((hO2.get (.tail _ (.head _))).cell 9).trans dg_9) (by kernel_rfl) rfl (by kernel_rfl)) ?_
  try simp only [p0, p1, p2, p3]
  refine wl_pure (.int .u64 (imul .u64 8 n)) rfl (by kernel_rfl) ?_
  try simp only [p0, p1, p2, p3]
  refine wl_pure (.int .u64 (imul .u64 8 n)) rfl (by kernel_rfl) ?_
  try simp only [p0, p1, p2, p3]
  refine wl_nil ?_
  show Code.wp _ _ _ _ _
  refine wp_seq ?_
  refine wl_region ?_
  refine wl_runs rfl (r_bs 5 (aF .u8 1 (lit1 128)) 1 (by kernel_rfl) hO2) fun g3 w3 hO3 => ?_
  clear hO2
  try simp only [List.nil_append, List.cons_append] at hO3
  try simp only [p0, p1, p2, p3]
  refine wl_pure (.slice (some ⟨g3, 0, none⟩) 1 1) rfl (by kernel_rfl) ?_
  try simp only [p0, p1, p2, p3]
  refine wl_nil ?_
  show Code.wp _ _ _ _ _
  refine wp_seq ?_
  have hOs := hO3.swap
  simp only [List.nil_append, List.cons_append] at hOs
  go_wp2_with fail
  go_loopw [4] (fun v4_4 wr4 => ∃ (e : Nat) (q' : Option Addr) (c' : Nat) (t' : TypeId) (cs' : Array Value), 1 ≤ e ∧ e ≤ padE m ∧ Buf .u8 1 q' e c' cs' endF ∧ v4_4 = .slice q' e c' ∧ Own w ((g2, 22, (aF .u8 32 zF)) :: (g1, 91, (dg s (.slice q m c) n)) :: (buf q' t' cs')) wr4) (fun v4_4 wr4 => 200 - slen v4_4)
  case atStart => exact ⟨1, some ⟨g3, 0, none⟩, 1, 5, (aF .u8 1 (lit1 128)), by omega, by unfold padE; omega, end_one g3, rfl, hOs⟩
  case round =>
    try clear hOs
    obtain ⟨e, q', c', t', cs', hf4_0, hf4_1, hf4_2, rfl, hO4⟩ := hrel
    by_cases hm4 : ¬ ((m + e) % 64 = 56)
    · have hm4' := hm4
      refine wp_seq ?_
      refine wp_seq ?_
      refine wl_region ?_
      refine wl_pure (.pointer (some ⟨g1, 8, none⟩)) rfl (by kernel_rfl) ?_
      try simp only [p0, p1, p2, p3]
      refine wl_pure (.slice q m c) rfl (run_cell (((hO4.get (.tail _ (.head _))).cell 8).trans dg_8) (by kernel_rfl) rfl (by kernel_rfl)) ?_
      try simp only [p0, p1, p2, p3]
      refine wl_pure (.int .i64 ((m : Nat) : Int)) rfl (by kernel_rfl) ?_
      try simp only [p0, p1, p2, p3]
      refine wl_pure (.slice q' e c') rfl (by kernel_rfl) ?_
      try simp only [p0, p1, p2, p3]
      refine wl_pure (.int .i64 ((e : Nat) : Int)) rfl (by kernel_rfl) ?_
      try simp only [p0, p1, p2, p3]
      refine wl_pure (.int .i64 ((m + e : Nat) : Int)) rfl (n_add (k := .i64) rfl m e (by omega) rfl (by kernel_rfl) (by kernel_rfl) _) ?_
      try simp only [p0, p1, p2, p3]
      refine wl_pure (.int .i64 (((m + e) % 64 : Nat) : Int)) rfl (n_rem (k := .i64) rfl (m + e) 64 (by omega) rfl (by kernel_rfl) (by kernel_rfl) _) ?_
      try simp only [p0, p1, p2, p3]
      refine wl_pure (.bool true) rfl (i_neq (k := .i64) (((m + e) % 64 : Nat) : Int) 56 true (by rw [decide_eq_false (by omega)]; rfl) rfl (by kernel_rfl) (by kernel_rfl) _) ?_
      try simp only [p0, p1, p2, p3]
      refine wl_nil ?_
      show Code.wp _ _ _ _ _
      refine wp_cond_true rfl ?_
      refine wp_skip ?_
      show Code.wp _ _ _ _ _
      refine wp_block ?_
      refine wl_region ?_
      refine wl_pure (.slice q' e c') rfl (by kernel_rfl) ?_
      try simp only [p0, p1, p2, p3]
      refine wl_runs rfl (r_bs 5 (aF .u8 1 (lit1 0)) 1 (by kernel_rfl) hO4) fun g5 w5 hO5 => ?_
      clear hO4
      try simp only [List.nil_append, List.cons_append] at hO5
      try simp only [p0, p1, p2, p3]
      refine wl_runs rfl (r_app1 (g' := g5) (o' := 0) (n := e) (c := c') (m := 1) (mc := 1) (q := q') (f := endF) (t0 := t') (t := 23) (tx := 23) (ty := 23) (e := 5) (e' := 5) (cs := cs') (L := ((g5, 5, (aF .u8 1 (lit1 0))) :: (g2, 22, (aF .u8 32 zF)) :: (g1, 91, (dg s (.slice q m c) n)) :: [])) (s := (lit1 0)) (by kernel_rfl) Tryd.underlying23 Tryd.underlying23 (by kernel_rfl) (rdc_own1 hO5 (.head _) 1 (by decide)) (by omega) (by omega) hf4_2 hO5) ?_
      rintro _ w6 ⟨q1b, c1b, t1b, s1b, rfl, hO6, hb1b⟩
      clear hO5
      try simp only [List.nil_append, List.cons_append] at hO6
      try simp only [p0, p1, p2, p3]
      refine wl_pure (.slice q1b (e + 1) c1b) rfl (by kernel_rfl) ?_
      try simp only [p0, p1, p2, p3]
      refine wl_nil ?_
      try simp only [Exit.then, Exit.inBlock]
      go_roundw
      case rel => exact ⟨e + 1, q1b, c1b, t1b, s1b, by omega, by have := hf4_1; unfold padE at this ⊢; omega, (end_next hb1b (by omega)), rfl, hO6.tail⟩
      case measure => simp [intOf, slen]; omega
    · have hm4' := hm4
      obtain rfl : e = padE m := by have := hf4_1; unfold padE at this ⊢; omega
      refine wp_seq ?_
      refine wp_seq ?_
      refine wl_region ?_
      refine wl_pure (.pointer (some ⟨g1, 8, none⟩)) rfl (by kernel_rfl) ?_
      try simp only [p0, p1, p2, p3]
      refine wl_pure (.slice q m c) rfl (run_cell (((hO4.get (.tail _ (.head _))).cell 8).trans dg_8) (by kernel_rfl) rfl (by kernel_rfl)) ?_
      try simp only [p0, p1, p2, p3]
      refine wl_pure (.int .i64 ((m : Nat) : Int)) rfl (by kernel_rfl) ?_
      try simp only [p0, p1, p2, p3]
      refine wl_pure (.slice q' (padE m) c') rfl (by kernel_rfl) ?_
      try simp only [p0, p1, p2, p3]
      refine wl_pure (.int .i64 (((padE m) : Nat) : Int)) rfl (by kernel_rfl) ?_
      try simp only [p0, p1, p2, p3]
      refine wl_pure (.int .i64 ((m + (padE m) : Nat) : Int)) rfl (n_add (k := .i64) rfl m (padE m) (by omega) rfl (by kernel_rfl) (by kernel_rfl) _) ?_
      try simp only [p0, p1, p2, p3]
      refine wl_pure (.int .i64 (((m + (padE m)) % 64 : Nat) : Int)) rfl (n_rem (k := .i64) rfl (m + (padE m)) 64 (by omega) rfl (by kernel_rfl) (by kernel_rfl) _) ?_
      try simp only [p0, p1, p2, p3]
      refine wl_pure (.bool false) rfl (i_neq (k := .i64) (((m + (padE m)) % 64 : Nat) : Int) 56 false (by rw [decide_eq_true (by omega)]; rfl) rfl (by kernel_rfl) (by kernel_rfl) _) ?_
      try simp only [p0, p1, p2, p3]
      refine wl_nil ?_
      show Code.wp _ _ _ _ _
      refine wp_cond_false rfl ?_
      refine wp_exit ?_
      simp only [Exit.then, Exit.inBlock, if_true]
      show Code.wp _ _ _ _ _
      refine wp_seq ?_
      refine wp_seq ?_
      refine wl_region ?_
      refine wl_pure (.int .i64 56) rfl (by kernel_rfl) ?_
      try simp only [p0, p1, p2, p3]
      refine wl_nil ?_
      show Code.wp _ _ _ _ _
      refine wp_block ?_
      refine wp_loop_rounds 9 ?_
      rw [rounds_succ]
      refine wp_seq ?_
      refine wp_seq ?_
      refine wl_region ?_
      refine wl_pure (.int .i64 56) rfl (by kernel_rfl) ?_
      try simp only [p0, p1, p2, p3]
      refine wl_pure (.bool true) rfl (by kernel_rfl) ?_
      try simp only [p0, p1, p2, p3]
      refine wl_nil ?_
      show Code.wp _ _ _ _ _
      refine wp_cond_true rfl ?_
      refine wp_skip ?_
      show Code.wp _ _ _ _ _
      refine wp_seq ?_
      refine wp_block ?_
      refine wl_region ?_
      refine wl_pure (.slice q' (padE m) c') rfl (by kernel_rfl) ?_
      try simp only [p0, p1, p2, p3]
      refine wl_pure (.int .u64 (imul .u64 8 n)) rfl (by kernel_rfl) ?_
      try simp only [p0, p1, p2, p3]
      refine wl_pure (.int .i64 56) rfl (by kernel_rfl) ?_
      try simp only [p0, p1, p2, p3]
      refine wl_pure (.int .u64 (ishr (imul .u64 8 n) 56)) rfl (by kernel_rfl) ?_
      try simp only [p0, p1, p2, p3]
      refine wl_pure (.int .u8 (cv .u8 (ishr (imul .u64 8 n) 56))) rfl (by kernel_rfl) ?_
      try simp only [p0, p1, p2, p3]
      refine wl_runs rfl (r_bs 5 (aF .u8 1 (lit1 (cv .u8 (ishr (imul .u64 8 n) 56)))) 1 (by kernel_rfl) hO4) fun g7 w7 hO7 => ?_
      clear hO4
      try simp only [List.nil_append, List.cons_append] at hO7
      try simp only [p0, p1, p2, p3]
      refine wl_runs rfl (r_app1 (g' := g7) (o' := 0) (n := (padE m)) (c := c') (m := 1) (mc := 1) (q := q') (f := endF) (t0 := t') (t := 23) (tx := 23) (ty := 23) (e := 5) (e' := 5) (cs := cs') (L := ((g7, 5, (aF .u8 1 (lit1 (cv .u8 (ishr (imul .u64 8 n) 56))))) :: (g2, 22, (aF .u8 32 zF)) :: (g1, 91, (dg s (.slice q m c) n)) :: [])) (s := (lit1 (cv .u8 (ishr (imul .u64 8 n) 56)))) (by kernel_rfl) Tryd.underlying23 Tryd.underlying23 (by kernel_rfl) (rdc_own1 hO7 (.head _) 1 (by decide)) (by omega) (by omega) hf4_2 hO7) ?_
      rintro _ w8 ⟨q2b, c2b, t2b, s2b, rfl, hO8, hb2b⟩
      clear hO7
      try simp only [List.nil_append, List.cons_append] at hO8
      try simp only [p0, p1, p2, p3]
      refine wl_pure (.slice q2b ((padE m) + 1) c2b) rfl (by kernel_rfl) ?_
      try simp only [p0, p1, p2, p3]
      refine wl_nil ?_
      show Code.wp _ _ _ _ _
      refine wl_region ?_
      refine wl_pure (.int .i64 56) rfl (by kernel_rfl) ?_
      try simp only [p0, p1, p2, p3]
      refine wl_pure (.int .i64 48) rfl (by kernel_rfl) ?_
      try simp only [p0, p1, p2, p3]
      refine wl_pure (.int .i64 48) rfl (by kernel_rfl) ?_
      try simp only [p0, p1, p2, p3]
      refine wl_nil ?_
      show Code.rounds _ _ _ _ _ _
      rw [rounds_succ]
      refine wp_seq ?_
      refine wp_seq ?_
      refine wl_region ?_
      refine wl_pure (.int .i64 48) rfl (by kernel_rfl) ?_
      try simp only [p0, p1, p2, p3]
      refine wl_pure (.bool true) rfl (by kernel_rfl) ?_
      try simp only [p0, p1, p2, p3]
      refine wl_nil ?_
      show Code.wp _ _ _ _ _
      refine wp_cond_true rfl ?_
      refine wp_skip ?_
      show Code.wp _ _ _ _ _
      refine wp_seq ?_
      refine wp_block ?_
      refine wl_region ?_
      refine wl_pure (.slice q2b ((padE m) + 1) c2b) rfl (by kernel_rfl) ?_
      try simp only [p0, p1, p2, p3]
      refine wl_pure (.int .u64 (imul .u64 8 n)) rfl (by kernel_rfl) ?_
      try simp only [p0, p1, p2, p3]
      refine wl_pure (.int .i64 48) rfl (by kernel_rfl) ?_
      try simp only [p0, p1, p2, p3]
      refine wl_pure (.int .u64 (ishr (imul .u64 8 n) 48)) rfl (by kernel_rfl) ?_
      try simp only [p0, p1, p2, p3]
      refine wl_pure (.int .u8 (cv .u8 (ishr (imul .u64 8 n) 48))) rfl (by kernel_rfl) ?_
      try simp only [p0, p1, p2, p3]
      refine wl_runs rfl (r_bs 5 (aF .u8 1 (lit1 (cv .u8 (ishr (imul .u64 8 n) 48)))) 1 (by kernel_rfl) hO8) fun g9 w9 hO9 => ?_
      clear hO8
      try simp only [List.nil_append, List.cons_append] at hO9
      try simp only [p0, p1, p2, p3]
      refine wl_runs rfl (r_app1 (g' := g9) (o' := 0) (n := ((padE m) + 1)) (c := c2b) (m := 1) (mc := 1) (q := q2b) (f := (cat endF (padE m) (lit1 (cv .u8 (ishr (imul .u64 8 n) 56))))) (t0 := t2b) (t := 23) (tx := 23) (ty := 23) (e := 5) (e' := 5) (cs := s2b) (L := ((g9, 5, (aF .u8 1 (lit1 (cv .u8 (ishr (imul .u64 8 n) 48))))) :: (g7, 5, (aF .u8 1 (lit1 (cv .u8 (ishr (imul .u64 8 n) 56))))) :: (g2, 22, (aF .u8 32 zF)) :: (g1, 91, (dg s (.slice q m c) n)) :: [])) (s := (lit1 (cv .u8 (ishr (imul .u64 8 n) 48)))) (by kernel_rfl) Tryd.underlying23 Tryd.underlying23 (by kernel_rfl) (rdc_own1 hO9 (.head _) 1 (by decide)) (by omega) (by omega) hb2b hO9) ?_
      rintro _ w10 ⟨q3b, c3b, t3b, s3b, rfl, hO10, hb3b⟩
      clear hO9
      try simp only [List.nil_append, List.cons_append] at hO10
      try simp only [p0, p1, p2, p3]
      refine wl_pure (.slice q3b (((padE m) + 1) + 1) c3b) rfl (by kernel_rfl) ?_
      try simp only [p0, p1, p2, p3]
      refine wl_nil ?_
      show Code.wp _ _ _ _ _
      refine wl_region ?_
      refine wl_pure (.int .i64 48) rfl (by kernel_rfl) ?_
      try simp only [p0, p1, p2, p3]
      refine wl_pure (.int .i64 40) rfl (by kernel_rfl) ?_
      try simp only [p0, p1, p2, p3]
      refine wl_pure (.int .i64 40) rfl (by kernel_rfl) ?_
      try simp only [p0, p1, p2, p3]
      refine wl_nil ?_
      show Code.rounds _ _ _ _ _ _
      rw [rounds_succ]
      refine wp_seq ?_
      refine wp_seq ?_
      refine wl_region ?_
      refine wl_pure (.int .i64 40) rfl (by kernel_rfl) ?_
      try simp only [p0, p1, p2, p3]
      refine wl_pure (.bool true) rfl (by kernel_rfl) ?_
      try simp only [p0, p1, p2, p3]
      refine wl_nil ?_
      show Code.wp _ _ _ _ _
      refine wp_cond_true rfl ?_
      refine wp_skip ?_
      show Code.wp _ _ _ _ _
      refine wp_seq ?_
      refine wp_block ?_
      refine wl_region ?_
      refine wl_pure (.slice q3b (((padE m) + 1) + 1) c3b) rfl (by kernel_rfl) ?_
      try simp only [p0, p1, p2, p3]
      refine wl_pure (.int .u64 (imul .u64 8 n)) rfl (by kernel_rfl) ?_
      try simp only [p0, p1, p2, p3]
      refine wl_pure (.int .i64 40) rfl (by kernel_rfl) ?_
      try simp only [p0, p1, p2, p3]
      refine wl_pure (.int .u64 (ishr (imul .u64 8 n) 40)) rfl (by kernel_rfl) ?_
      try simp only [p0, p1, p2, p3]
      refine wl_pure (.int .u8 (cv .u8 (ishr (imul .u64 8 n) 40))) rfl (by kernel_rfl) ?_
      try simp only [p0, p1, p2, p3]
      refine wl_runs rfl (r_bs 5 (aF .u8 1 (lit1 (cv .u8 (ishr (imul .u64 8 n) 40)))) 1 (by kernel_rfl) hO10) fun g11 w11 hO11 => ?_
      clear hO10
      try simp only [List.nil_append, List.cons_append] at hO11
      try simp only [p0, p1, p2, p3]
      refine wl_runs rfl (r_app1 (g' := g11) (o' := 0) (n := (((padE m) + 1) + 1)) (c := c3b) (m := 1) (mc := 1) (q := q3b) (f := (cat (cat endF (padE m) (lit1 (cv .u8 (ishr (imul .u64 8 n) 56)))) ((padE m) + 1) (lit1 (cv .u8 (ishr (imul .u64 8 n) 48))))) (t0 := t3b) (t := 23) (tx := 23) (ty := 23) (e := 5) (e' := 5) (cs := s3b) (L := ((g11, 5, (aF .u8 1 (lit1 (cv .u8 (ishr (imul .u64 8 n) 40))))) :: (g9, 5, (aF .u8 1 (lit1 (cv .u8 (ishr (imul .u64 8 n) 48))))) :: (g7, 5, (aF .u8 1 (lit1 (cv .u8 (ishr (imul .u64 8 n) 56))))) :: (g2, 22, (aF .u8 32 zF)) :: (g1, 91, (dg s (.slice q m c) n)) :: [])) (s := (lit1 (cv .u8 (ishr (imul .u64 8 n) 40)))) (by kernel_rfl) Tryd.underlying23 Tryd.underlying23 (by kernel_rfl) (rdc_own1 hO11 (.head _) 1 (by decide)) (by omega) (by omega) hb3b hO11) ?_
      rintro _ w12 ⟨q4b, c4b, t4b, s4b, rfl, hO12, hb4b⟩
      clear hO11
      try simp only [List.nil_append, List.cons_append] at hO12
      try simp only [p0, p1, p2, p3]
      refine wl_pure (.slice q4b ((((padE m) + 1) + 1) + 1) c4b) rfl (by kernel_rfl) ?_
      try simp only [p0, p1, p2, p3]
      refine wl_nil ?_
      show Code.wp _ _ _ _ _
      refine wl_region ?_
      refine wl_pure (.int .i64 40) rfl (by kernel_rfl) ?_
      try simp only [p0, p1, p2, p3]
      refine wl_pure (.int .i64 32) rfl (by kernel_rfl) ?_
      try simp only [p0, p1, p2, p3]
      refine wl_pure (.int .i64 32) rfl (by kernel_rfl) ?_
      try simp only [p0, p1, p2, p3]
      refine wl_nil ?_
      show Code.rounds _ _ _ _ _ _
      rw [rounds_succ]
      refine wp_seq ?_
      refine wp_seq ?_
      refine wl_region ?_
      refine wl_pure (.int .i64 32) rfl (by kernel_rfl) ?_
      try simp only [p0, p1, p2, p3]
      refine wl_pure (.bool true) rfl (by kernel_rfl) ?_
      try simp only [p0, p1, p2, p3]
      refine wl_nil ?_
      show Code.wp _ _ _ _ _
      refine wp_cond_true rfl ?_
      refine wp_skip ?_
      show Code.wp _ _ _ _ _
      refine wp_seq ?_
      refine wp_block ?_
      refine wl_region ?_
      refine wl_pure (.slice q4b ((((padE m) + 1) + 1) + 1) c4b) rfl (by kernel_rfl) ?_
      try simp only [p0, p1, p2, p3]
      refine wl_pure (.int .u64 (imul .u64 8 n)) rfl (by kernel_rfl) ?_
      try simp only [p0, p1, p2, p3]
      refine wl_pure (.int .i64 32) rfl (by kernel_rfl) ?_
      try simp only [p0, p1, p2, p3]
      refine wl_pure (.int .u64 (ishr (imul .u64 8 n) 32)) rfl (by kernel_rfl) ?_
      try simp only [p0, p1, p2, p3]
      refine wl_pure (.int .u8 (cv .u8 (ishr (imul .u64 8 n) 32))) rfl (by kernel_rfl) ?_
      try simp only [p0, p1, p2, p3]
      refine wl_runs rfl (r_bs 5 (aF .u8 1 (lit1 (cv .u8 (ishr (imul .u64 8 n) 32)))) 1 (by kernel_rfl) hO12) fun g13 w13 hO13 => ?_
      clear hO12
      try simp only [List.nil_append, List.cons_append] at hO13
      try simp only [p0, p1, p2, p3]
      refine wl_runs rfl (r_app1 (g' := g13) (o' := 0) (n := ((((padE m) + 1) + 1) + 1)) (c := c4b) (m := 1) (mc := 1) (q := q4b) (f := (cat (cat (cat endF (padE m) (lit1 (cv .u8 (ishr (imul .u64 8 n) 56)))) ((padE m) + 1) (lit1 (cv .u8 (ishr (imul .u64 8 n) 48)))) (((padE m) + 1) + 1) (lit1 (cv .u8 (ishr (imul .u64 8 n) 40))))) (t0 := t4b) (t := 23) (tx := 23) (ty := 23) (e := 5) (e' := 5) (cs := s4b) (L := ((g13, 5, (aF .u8 1 (lit1 (cv .u8 (ishr (imul .u64 8 n) 32))))) :: (g11, 5, (aF .u8 1 (lit1 (cv .u8 (ishr (imul .u64 8 n) 40))))) :: (g9, 5, (aF .u8 1 (lit1 (cv .u8 (ishr (imul .u64 8 n) 48))))) :: (g7, 5, (aF .u8 1 (lit1 (cv .u8 (ishr (imul .u64 8 n) 56))))) :: (g2, 22, (aF .u8 32 zF)) :: (g1, 91, (dg s (.slice q m c) n)) :: [])) (s := (lit1 (cv .u8 (ishr (imul .u64 8 n) 32)))) (by kernel_rfl) Tryd.underlying23 Tryd.underlying23 (by kernel_rfl) (rdc_own1 hO13 (.head _) 1 (by decide)) (by omega) (by omega) hb4b hO13) ?_
      rintro _ w14 ⟨q5b, c5b, t5b, s5b, rfl, hO14, hb5b⟩
      clear hO13
      try simp only [List.nil_append, List.cons_append] at hO14
      try simp only [p0, p1, p2, p3]
      refine wl_pure (.slice q5b (((((padE m) + 1) + 1) + 1) + 1) c5b) rfl (by kernel_rfl) ?_
      try simp only [p0, p1, p2, p3]
      refine wl_nil ?_
      show Code.wp _ _ _ _ _
      refine wl_region ?_
      refine wl_pure (.int .i64 32) rfl (by kernel_rfl) ?_
      try simp only [p0, p1, p2, p3]
      refine wl_pure (.int .i64 24) rfl (by kernel_rfl) ?_
      try simp only [p0, p1, p2, p3]
      refine wl_pure (.int .i64 24) rfl (by kernel_rfl) ?_
      try simp only [p0, p1, p2, p3]
      refine wl_nil ?_
      show Code.rounds _ _ _ _ _ _
      rw [rounds_succ]
      refine wp_seq ?_
      refine wp_seq ?_
      refine wl_region ?_
      refine wl_pure (.int .i64 24) rfl (by kernel_rfl) ?_
      try simp only [p0, p1, p2, p3]
      refine wl_pure (.bool true) rfl (by kernel_rfl) ?_
      try simp only [p0, p1, p2, p3]
      refine wl_nil ?_
      show Code.wp _ _ _ _ _
      refine wp_cond_true rfl ?_
      refine wp_skip ?_
      show Code.wp _ _ _ _ _
      refine wp_seq ?_
      refine wp_block ?_
      refine wl_region ?_
      refine wl_pure (.slice q5b (((((padE m) + 1) + 1) + 1) + 1) c5b) rfl (by kernel_rfl) ?_
      try simp only [p0, p1, p2, p3]
      refine wl_pure (.int .u64 (imul .u64 8 n)) rfl (by kernel_rfl) ?_
      try simp only [p0, p1, p2, p3]
      refine wl_pure (.int .i64 24) rfl (by kernel_rfl) ?_
      try simp only [p0, p1, p2, p3]
      refine wl_pure (.int .u64 (ishr (imul .u64 8 n) 24)) rfl (by kernel_rfl) ?_
      try simp only [p0, p1, p2, p3]
      refine wl_pure (.int .u8 (cv .u8 (ishr (imul .u64 8 n) 24))) rfl (by kernel_rfl) ?_
      try simp only [p0, p1, p2, p3]
      refine wl_runs rfl (r_bs 5 (aF .u8 1 (lit1 (cv .u8 (ishr (imul .u64 8 n) 24)))) 1 (by kernel_rfl) hO14) fun g15 w15 hO15 => ?_
      clear hO14
      try simp only [List.nil_append, List.cons_append] at hO15
      try simp only [p0, p1, p2, p3]
      refine wl_runs rfl (r_app1 (g' := g15) (o' := 0) (n := (((((padE m) + 1) + 1) + 1) + 1)) (c := c5b) (m := 1) (mc := 1) (q := q5b) (f := (cat (cat (cat (cat endF (padE m) (lit1 (cv .u8 (ishr (imul .u64 8 n) 56)))) ((padE m) + 1) (lit1 (cv .u8 (ishr (imul .u64 8 n) 48)))) (((padE m) + 1) + 1) (lit1 (cv .u8 (ishr (imul .u64 8 n) 40)))) ((((padE m) + 1) + 1) + 1) (lit1 (cv .u8 (ishr (imul .u64 8 n) 32))))) (t0 := t5b) (t := 23) (tx := 23) (ty := 23) (e := 5) (e' := 5) (cs := s5b) (L := ((g15, 5, (aF .u8 1 (lit1 (cv .u8 (ishr (imul .u64 8 n) 24))))) :: (g13, 5, (aF .u8 1 (lit1 (cv .u8 (ishr (imul .u64 8 n) 32))))) :: (g11, 5, (aF .u8 1 (lit1 (cv .u8 (ishr (imul .u64 8 n) 40))))) :: (g9, 5, (aF .u8 1 (lit1 (cv .u8 (ishr (imul .u64 8 n) 48))))) :: (g7, 5, (aF .u8 1 (lit1 (cv .u8 (ishr (imul .u64 8 n) 56))))) :: (g2, 22, (aF .u8 32 zF)) :: (g1, 91, (dg s (.slice q m c) n)) :: [])) (s := (lit1 (cv .u8 (ishr (imul .u64 8 n) 24)))) (by kernel_rfl) Tryd.underlying23 Tryd.underlying23 (by kernel_rfl) (rdc_own1 hO15 (.head _) 1 (by decide)) (by omega) (by omega) hb5b hO15) ?_
      rintro _ w16 ⟨q6b, c6b, t6b, s6b, rfl, hO16, hb6b⟩
      clear hO15
      try simp only [List.nil_append, List.cons_append] at hO16
      try simp only [p0, p1, p2, p3]
      refine wl_pure (.slice q6b ((((((padE m) + 1) + 1) + 1) + 1) + 1) c6b) rfl (by kernel_rfl) ?_
      try simp only [p0, p1, p2, p3]
      refine wl_nil ?_
      show Code.wp _ _ _ _ _
      refine wl_region ?_
      refine wl_pure (.int .i64 24) rfl (by kernel_rfl) ?_
      try simp only [p0, p1, p2, p3]
      refine wl_pure (.int .i64 16) rfl (by kernel_rfl) ?_
      try simp only [p0, p1, p2, p3]
      refine wl_pure (.int .i64 16) rfl (by kernel_rfl) ?_
      try simp only [p0, p1, p2, p3]
      refine wl_nil ?_
      show Code.rounds _ _ _ _ _ _
      rw [rounds_succ]
      refine wp_seq ?_
      refine wp_seq ?_
      refine wl_region ?_
      refine wl_pure (.int .i64 16) rfl (by kernel_rfl) ?_
      try simp only [p0, p1, p2, p3]
      refine wl_pure (.bool true) rfl (by kernel_rfl) ?_
      try simp only [p0, p1, p2, p3]
      refine wl_nil ?_
      show Code.wp _ _ _ _ _
      refine wp_cond_true rfl ?_
      refine wp_skip ?_
      show Code.wp _ _ _ _ _
      refine wp_seq ?_
      refine wp_block ?_
      refine wl_region ?_
      refine wl_pure (.slice q6b ((((((padE m) + 1) + 1) + 1) + 1) + 1) c6b) rfl (by kernel_rfl) ?_
      try simp only [p0, p1, p2, p3]
      refine wl_pure (.int .u64 (imul .u64 8 n)) rfl (by kernel_rfl) ?_
      try simp only [p0, p1, p2, p3]
      refine wl_pure (.int .i64 16) rfl (by kernel_rfl) ?_
      try simp only [p0, p1, p2, p3]
      refine wl_pure (.int .u64 (ishr (imul .u64 8 n) 16)) rfl (by kernel_rfl) ?_
      try simp only [p0, p1, p2, p3]
      refine wl_pure (.int .u8 (cv .u8 (ishr (imul .u64 8 n) 16))) rfl (by kernel_rfl) ?_
      try simp only [p0, p1, p2, p3]
      refine wl_runs rfl (r_bs 5 (aF .u8 1 (lit1 (cv .u8 (ishr (imul .u64 8 n) 16)))) 1 (by kernel_rfl) hO16) fun g17 w17 hO17 => ?_
      clear hO16
      try simp only [List.nil_append, List.cons_append] at hO17
      try simp only [p0, p1, p2, p3]
      refine wl_runs rfl (r_app1 (g' := g17) (o' := 0) (n := ((((((padE m) + 1) + 1) + 1) + 1) + 1)) (c := c6b) (m := 1) (mc := 1) (q := q6b) (f := (cat (cat (cat (cat (cat endF (padE m) (lit1 (cv .u8 (ishr (imul .u64 8 n) 56)))) ((padE m) + 1) (lit1 (cv .u8 (ishr (imul .u64 8 n) 48)))) (((padE m) + 1) + 1) (lit1 (cv .u8 (ishr (imul .u64 8 n) 40)))) ((((padE m) + 1) + 1) + 1) (lit1 (cv .u8 (ishr (imul .u64 8 n) 32)))) (((((padE m) + 1) + 1) + 1) + 1) (lit1 (cv .u8 (ishr (imul .u64 8 n) 24))))) (t0 := t6b) (t := 23) (tx := 23) (ty := 23) (e := 5) (e' := 5) (cs := s6b) (L := ((g17, 5, (aF .u8 1 (lit1 (cv .u8 (ishr (imul .u64 8 n) 16))))) :: (g15, 5, (aF .u8 1 (lit1 (cv .u8 (ishr (imul .u64 8 n) 24))))) :: (g13, 5, (aF .u8 1 (lit1 (cv .u8 (ishr (imul .u64 8 n) 32))))) :: (g11, 5, (aF .u8 1 (lit1 (cv .u8 (ishr (imul .u64 8 n) 40))))) :: (g9, 5, (aF .u8 1 (lit1 (cv .u8 (ishr (imul .u64 8 n) 48))))) :: (g7, 5, (aF .u8 1 (lit1 (cv .u8 (ishr (imul .u64 8 n) 56))))) :: (g2, 22, (aF .u8 32 zF)) :: (g1, 91, (dg s (.slice q m c) n)) :: [])) (s := (lit1 (cv .u8 (ishr (imul .u64 8 n) 16)))) (by kernel_rfl) Tryd.underlying23 Tryd.underlying23 (by kernel_rfl) (rdc_own1 hO17 (.head _) 1 (by decide)) (by omega) (by omega) hb6b hO17) ?_
      rintro _ w18 ⟨q7b, c7b, t7b, s7b, rfl, hO18, hb7b⟩
      clear hO17
      try simp only [List.nil_append, List.cons_append] at hO18
      try simp only [p0, p1, p2, p3]
      refine wl_pure (.slice q7b (((((((padE m) + 1) + 1) + 1) + 1) + 1) + 1) c7b) rfl (by kernel_rfl) ?_
      try simp only [p0, p1, p2, p3]
      refine wl_nil ?_
      show Code.wp _ _ _ _ _
      refine wl_region ?_
      refine wl_pure (.int .i64 16) rfl (by kernel_rfl) ?_
      try simp only [p0, p1, p2, p3]
      refine wl_pure (.int .i64 8) rfl (by kernel_rfl) ?_
      try simp only [p0, p1, p2, p3]
      refine wl_pure (.int .i64 8) rfl (by kernel_rfl) ?_
      try simp only [p0, p1, p2, p3]
      refine wl_nil ?_
      show Code.rounds _ _ _ _ _ _
      rw [rounds_succ]
      refine wp_seq ?_
      refine wp_seq ?_
      refine wl_region ?_
      refine wl_pure (.int .i64 8) rfl (by kernel_rfl) ?_
      try simp only [p0, p1, p2, p3]
      refine wl_pure (.bool true) rfl (by kernel_rfl) ?_
      try simp only [p0, p1, p2, p3]
      refine wl_nil ?_
      show Code.wp _ _ _ _ _
      refine wp_cond_true rfl ?_
      refine wp_skip ?_
      show Code.wp _ _ _ _ _
      refine wp_seq ?_
      refine wp_block ?_
      refine wl_region ?_
      refine wl_pure (.slice q7b (((((((padE m) + 1) + 1) + 1) + 1) + 1) + 1) c7b) rfl (by kernel_rfl) ?_
      try simp only [p0, p1, p2, p3]
      refine wl_pure (.int .u64 (imul .u64 8 n)) rfl (by kernel_rfl) ?_
      try simp only [p0, p1, p2, p3]
      refine wl_pure (.int .i64 8) rfl (by kernel_rfl) ?_
      try simp only [p0, p1, p2, p3]
      refine wl_pure (.int .u64 (ishr (imul .u64 8 n) 8)) rfl (by kernel_rfl) ?_
      try simp only [p0, p1, p2, p3]
      refine wl_pure (.int .u8 (cv .u8 (ishr (imul .u64 8 n) 8))) rfl (by kernel_rfl) ?_
      try simp only [p0, p1, p2, p3]
      refine wl_runs rfl (r_bs 5 (aF .u8 1 (lit1 (cv .u8 (ishr (imul .u64 8 n) 8)))) 1 (by kernel_rfl) hO18) fun g19 w19 hO19 => ?_
      clear hO18
      try simp only [List.nil_append, List.cons_append] at hO19
      try simp only [p0, p1, p2, p3]
      refine wl_runs rfl (r_app1 (g' := g19) (o' := 0) (n := (((((((padE m) + 1) + 1) + 1) + 1) + 1) + 1)) (c := c7b) (m := 1) (mc := 1) (q := q7b) (f := (cat (cat (cat (cat (cat (cat endF (padE m) (lit1 (cv .u8 (ishr (imul .u64 8 n) 56)))) ((padE m) + 1) (lit1 (cv .u8 (ishr (imul .u64 8 n) 48)))) (((padE m) + 1) + 1) (lit1 (cv .u8 (ishr (imul .u64 8 n) 40)))) ((((padE m) + 1) + 1) + 1) (lit1 (cv .u8 (ishr (imul .u64 8 n) 32)))) (((((padE m) + 1) + 1) + 1) + 1) (lit1 (cv .u8 (ishr (imul .u64 8 n) 24)))) ((((((padE m) + 1) + 1) + 1) + 1) + 1) (lit1 (cv .u8 (ishr (imul .u64 8 n) 16))))) (t0 := t7b) (t := 23) (tx := 23) (ty := 23) (e := 5) (e' := 5) (cs := s7b) (L := ((g19, 5, (aF .u8 1 (lit1 (cv .u8 (ishr (imul .u64 8 n) 8))))) :: (g17, 5, (aF .u8 1 (lit1 (cv .u8 (ishr (imul .u64 8 n) 16))))) :: (g15, 5, (aF .u8 1 (lit1 (cv .u8 (ishr (imul .u64 8 n) 24))))) :: (g13, 5, (aF .u8 1 (lit1 (cv .u8 (ishr (imul .u64 8 n) 32))))) :: (g11, 5, (aF .u8 1 (lit1 (cv .u8 (ishr (imul .u64 8 n) 40))))) :: (g9, 5, (aF .u8 1 (lit1 (cv .u8 (ishr (imul .u64 8 n) 48))))) :: (g7, 5, (aF .u8 1 (lit1 (cv .u8 (ishr (imul .u64 8 n) 56))))) :: (g2, 22, (aF .u8 32 zF)) :: (g1, 91, (dg s (.slice q m c) n)) :: [])) (s := (lit1 (cv .u8 (ishr (imul .u64 8 n) 8)))) (by kernel_rfl) Tryd.underlying23 Tryd.underlying23 (by kernel_rfl) (rdc_own1 hO19 (.head _) 1 (by decide)) (by omega) (by omega) hb7b hO19) ?_
      rintro _ w20 ⟨q8b, c8b, t8b, s8b, rfl, hO20, hb8b⟩
      clear hO19
      try simp only [List.nil_append, List.cons_append] at hO20
      try simp only [p0, p1, p2, p3]
      refine wl_pure (.slice q8b ((((((((padE m) + 1) + 1) + 1) + 1) + 1) + 1) + 1) c8b) rfl (by kernel_rfl) ?_
      try simp only [p0, p1, p2, p3]
      refine wl_nil ?_
      show Code.wp _ _ _ _ _
      refine wl_region ?_
      refine wl_pure (.int .i64 8) rfl (by kernel_rfl) ?_
      try simp only [p0, p1, p2, p3]
      refine wl_pure (.int .i64 0) rfl (by kernel_rfl) ?_
      try simp only [p0, p1, p2, p3]
      refine wl_pure (.int .i64 0) rfl (by kernel_rfl) ?_
      try simp only [p0, p1, p2, p3]
      refine wl_nil ?_
      show Code.rounds _ _ _ _ _ _
      rw [rounds_succ]
      refine wp_seq ?_
      refine wp_seq ?_
      refine wl_region ?_
      refine wl_pure (.int .i64 0) rfl (by kernel_rfl) ?_
      try simp only [p0, p1, p2, p3]
      refine wl_pure (.bool true) rfl (by kernel_rfl) ?_
      try simp only [p0, p1, p2, p3]
      refine wl_nil ?_
      show Code.wp _ _ _ _ _
      refine wp_cond_true rfl ?_
      refine wp_skip ?_
      show Code.wp _ _ _ _ _
      refine wp_seq ?_
      refine wp_block ?_
      refine wl_region ?_
      refine wl_pure (.slice q8b ((((((((padE m) + 1) + 1) + 1) + 1) + 1) + 1) + 1) c8b) rfl (by kernel_rfl) ?_
      try simp only [p0, p1, p2, p3]
      refine wl_pure (.int .u64 (imul .u64 8 n)) rfl (by kernel_rfl) ?_
      try simp only [p0, p1, p2, p3]
      refine wl_pure (.int .i64 0) rfl (by kernel_rfl) ?_
      try simp only [p0, p1, p2, p3]
      refine wl_pure (.int .u64 (ishr (imul .u64 8 n) 0)) rfl (by kernel_rfl) ?_
      try simp only [p0, p1, p2, p3]
      refine wl_pure (.int .u8 (cv .u8 (ishr (imul .u64 8 n) 0))) rfl (by kernel_rfl) ?_
      try simp only [p0, p1, p2, p3]
      refine wl_runs rfl (r_bs 5 (aF .u8 1 (lit1 (cv .u8 (ishr (imul .u64 8 n) 0)))) 1 (by kernel_rfl) hO20) fun g21 w21 hO21 => ?_
      clear hO20
      try simp only [List.nil_append, List.cons_append] at hO21
      try simp only [p0, p1, p2, p3]
      refine wl_runs rfl (r_app1 (g' := g21) (o' := 0) (n := ((((((((padE m) + 1) + 1) + 1) + 1) + 1) + 1) + 1)) (c := c8b) (m := 1) (mc := 1) (q := q8b) (f := (cat (cat (cat (cat (cat (cat (cat endF (padE m) (lit1 (cv .u8 (ishr (imul .u64 8 n) 56)))) ((padE m) + 1) (lit1 (cv .u8 (ishr (imul .u64 8 n) 48)))) (((padE m) + 1) + 1) (lit1 (cv .u8 (ishr (imul .u64 8 n) 40)))) ((((padE m) + 1) + 1) + 1) (lit1 (cv .u8 (ishr (imul .u64 8 n) 32)))) (((((padE m) + 1) + 1) + 1) + 1) (lit1 (cv .u8 (ishr (imul .u64 8 n) 24)))) ((((((padE m) + 1) + 1) + 1) + 1) + 1) (lit1 (cv .u8 (ishr (imul .u64 8 n) 16)))) (((((((padE m) + 1) + 1) + 1) + 1) + 1) + 1) (lit1 (cv .u8 (ishr (imul .u64 8 n) 8))))) (t0 := t8b) (t := 23) (tx := 23) (ty := 23) (e := 5) (e' := 5) (cs := s8b) (L := ((g21, 5, (aF .u8 1 (lit1 (cv .u8 (ishr (imul .u64 8 n) 0))))) :: (g19, 5, (aF .u8 1 (lit1 (cv .u8 (ishr (imul .u64 8 n) 8))))) :: (g17, 5, (aF .u8 1 (lit1 (cv .u8 (ishr (imul .u64 8 n) 16))))) :: (g15, 5, (aF .u8 1 (lit1 (cv .u8 (ishr (imul .u64 8 n) 24))))) :: (g13, 5, (aF .u8 1 (lit1 (cv .u8 (ishr (imul .u64 8 n) 32))))) :: (g11, 5, (aF .u8 1 (lit1 (cv .u8 (ishr (imul .u64 8 n) 40))))) :: (g9, 5, (aF .u8 1 (lit1 (cv .u8 (ishr (imul .u64 8 n) 48))))) :: (g7, 5, (aF .u8 1 (lit1 (cv .u8 (ishr (imul .u64 8 n) 56))))) :: (g2, 22, (aF .u8 32 zF)) :: (g1, 91, (dg s (.slice q m c) n)) :: [])) (s := (lit1 (cv .u8 (ishr (imul .u64 8 n) 0)))) (by kernel_rfl) Tryd.underlying23 Tryd.underlying23 (by kernel_rfl) (rdc_own1 hO21 (.head _) 1 (by decide)) (by omega) (by omega) hb8b hO21) ?_
      rintro _ w22 ⟨q9b, c9b, t9b, s9b, rfl, hO22, hb9b⟩
      clear hO21
      try simp only [List.nil_append, List.cons_append] at hO22
      try simp only [p0, p1, p2, p3]
      refine wl_pure (.slice q9b (((((((((padE m) + 1) + 1) + 1) + 1) + 1) + 1) + 1) + 1) c9b) rfl (by kernel_rfl) ?_
      try simp only [p0, p1, p2, p3]
      refine wl_nil ?_
      show Code.wp _ _ _ _ _
      refine wl_region ?_
      refine wl_pure (.int .i64 0) rfl (by kernel_rfl) ?_
      try simp only [p0, p1, p2, p3]
      refine wl_pure (.int .i64 (-8)) rfl (by kernel_rfl) ?_
      try simp only [p0, p1, p2, p3]
      refine wl_pure (.int .i64 (-8)) rfl (by kernel_rfl) ?_
      try simp only [p0, p1, p2, p3]
      refine wl_nil ?_
      show Code.rounds _ _ _ _ _ _
      rw [rounds_succ]
      refine wp_seq ?_
      refine wp_seq ?_
      refine wl_region ?_
      refine wl_pure (.int .i64 (-8)) rfl (by kernel_rfl) ?_
      try simp only [p0, p1, p2, p3]
      refine wl_pure (.bool false) rfl (by kernel_rfl) ?_
      try simp only [p0, p1, p2, p3]
      refine wl_nil ?_
      show Code.wp _ _ _ _ _
      refine wp_cond_false rfl ?_
      refine wp_exit ?_
      show Code.wp _ _ _ _ _
      refine wp_seq ?_
      refine wl_region ?_
      refine wl_pure (.agg (dg s (.slice q m c) n)) rfl (run_row (hO22.get (.tail _ (.tail _ (.tail _ (.tail _ (.tail _ (.tail _ (.tail _ (.tail _ (.tail _ (.head _))))))))))) Tryd.underlying91 rfl (by kernel_rfl) rfl (by kernel_rfl)) ?_
      try simp only [p0, p1, p2, p3]
      refine wl_pure (.slice q9b (((((((((padE m) + 1) + 1) + 1) + 1) + 1) + 1) + 1) + 1) c9b) rfl (by kernel_rfl) ?_
      try simp only [p0, p1, p2, p3]
      have hE : Buf .u8 1 q9b (padE m + 8) c9b s9b (endC (imul .u64 8 n) (padE m) 8) := hb9b
      refine wl_runs rfl (r_dig (args := #[.agg (dg s (.slice q m c) n), .slice q9b (((((((((padE m) + 1) + 1) + 1) + 1) + 1) + 1) + 1) + 1) c9b]) (by kernel_rfl) (write_any (K := K) (S := S) (s := s) (f := f) (b := endC (imul .u64 8 n) (padE m) 8) (q := q) (qb := q9b) (m := m) (c := c) (l := padE m + 8) (cb := c9b) (t2 := t2) (t3 := t3) (n := n) (hS.under hO22.bl) (hK.under hO22.bl) (hd.below hO22.bl) (Rd.rdf (t := t9b) hE.rd hO22 (by intro g e; subst e; simp [buf])) (by unfold padE; omega)) hO22) ?_
      rintro _ w23 ⟨p10x, c10x, q10x, t10x, s10x, rfl, hO23, hB10x⟩
      clear hO22
      try simp only [List.nil_append, List.cons_append] at hO23
      try simp only [p0, p1, p2, p3]
      refine wl_runs rfl (r_row (L1 := [(g21, 5, (aF .u8 1 (lit1 (cv .u8 (ishr (imul .u64 8 n) 0))))), (g19, 5, (aF .u8 1 (lit1 (cv .u8 (ishr (imul .u64 8 n) 8))))), (g17, 5, (aF .u8 1 (lit1 (cv .u8 (ishr (imul .u64 8 n) 16))))), (g15, 5, (aF .u8 1 (lit1 (cv .u8 (ishr (imul .u64 8 n) 24))))), (g13, 5, (aF .u8 1 (lit1 (cv .u8 (ishr (imul .u64 8 n) 32))))), (g11, 5, (aF .u8 1 (lit1 (cv .u8 (ishr (imul .u64 8 n) 40))))), (g9, 5, (aF .u8 1 (lit1 (cv .u8 (ishr (imul .u64 8 n) 48))))), (g7, 5, (aF .u8 1 (lit1 (cv .u8 (ishr (imul .u64 8 n) 56))))), (g2, 22, (aF .u8 32 zF))]) (L2 := (((buf q9b t9b s9b) ++ buf q10x t10x s10x))) (cs := (dg s (.slice q m c) n)) (dg (wrS K S s m f (padE m + 8) (endC (imul .u64 8 n) (padE m) 8)) (.slice p10x (wrM m (padE m + 8)) c10x) (wrN n (padE m + 8))) rfl (by kernel_rfl) (by kernel_rfl) hO23 (by simp only [dg_size]) (by kernel_rfl) (dg_one rfl)) fun _ w24 hO24 => ?_
      clear hO23
      try simp only [List.nil_append, List.cons_append] at hO24
      try simp only [p0, p1, p2, p3]
      refine wl_nil ?_
      show Code.wp _ _ _ _ _
      refine wp_seq ?_
      refine wl_region ?_
      refine wl_runs rfl (r_new 22 (aF .u8 32 zF) (by kernel_rfl) hO24) fun g25 w25 hO25 => ?_
      clear hO24
      try simp only [List.nil_append, List.cons_append] at hO25
      try simp only [p0, p1, p2, p3]
      refine wl_nil ?_
      show Code.wp _ _ _ _ _
      refine wp_seq ?_
      refine wp_seq ?_
      refine wl_region ?_
      refine wl_pure (.pointer (some ⟨g1, 0, none⟩)) rfl (by kernel_rfl) ?_
      try simp only [p0, p1, p2, p3]
      refine wl_pure (.agg (aF .u32 8 (wrS K S s m f (padE m + 8) (endC (imul .u64 8 n) (padE m) 8)))) rfl (run_words hO25 (.tail _ (.tail _ (.tail _ (.tail _ (.tail _ (.tail _ (.tail _ (.tail _ (.tail _ (.tail _ (.head _))))))))))) Tryd.underlying89 rfl (by kernel_rfl) rfl (by kernel_rfl)) ?_
      try simp only [p0, p1, p2, p3]
      refine wl_pure (.int .i64 0) rfl (by kernel_rfl) ?_
      try simp only [p0, p1, p2, p3]
      refine wl_nil ?_
      show Code.wp _ _ _ _ _
      go_wp2_with fail
      go_loopw [40] (fun v26_40 wr26 => ∃ (i : Nat), i ≤ 8 ∧ v26_40 = .int .i64 ((i : Nat) : Int) ∧ Own w ((g25, 22, (aF .u8 32 (outW S (wrS K S s m f (padE m + 8) (endC (imul .u64 8 n) (padE m) 8)) i))) :: (g21, 5, (aF .u8 1 (lit1 (cv .u8 (ishr (imul .u64 8 n) 0))))) :: (g19, 5, (aF .u8 1 (lit1 (cv .u8 (ishr (imul .u64 8 n) 8))))) :: (g17, 5, (aF .u8 1 (lit1 (cv .u8 (ishr (imul .u64 8 n) 16))))) :: (g15, 5, (aF .u8 1 (lit1 (cv .u8 (ishr (imul .u64 8 n) 24))))) :: (g13, 5, (aF .u8 1 (lit1 (cv .u8 (ishr (imul .u64 8 n) 32))))) :: (g11, 5, (aF .u8 1 (lit1 (cv .u8 (ishr (imul .u64 8 n) 40))))) :: (g9, 5, (aF .u8 1 (lit1 (cv .u8 (ishr (imul .u64 8 n) 48))))) :: (g7, 5, (aF .u8 1 (lit1 (cv .u8 (ishr (imul .u64 8 n) 56))))) :: (g2, 22, (aF .u8 32 zF)) :: (g1, 91, (dg (wrS K S s m f (padE m + 8) (endC (imul .u64 8 n) (padE m) 8)) (.slice p10x (wrM m (padE m + 8)) c10x) (wrN n (padE m + 8)))) :: ((buf q9b t9b s9b) ++ buf q10x t10x s10x)) wr26) (fun v26_40 wr26 => 8 - (intOf v26_40).toNat)
      case atStart => exact ⟨0, by omega, rfl, hO25⟩
      case round =>
        try clear hO25
        obtain ⟨i, hf26_0, rfl, hO26⟩ := hrel
        by_cases hm26 : i < 8
        · have hm26' := hm26
          refine wp_seq ?_
          refine wl_region ?_
          refine wl_pure (.bool true) rfl (i_lss (k := .i64) ((i : Nat) : Int) 8 true (decide_eq_true (by omega)) rfl (by kernel_rfl) (by kernel_rfl) _) ?_
          try simp only [p0, p1, p2, p3]
          refine wl_nil ?_
          show Code.wp _ _ _ _ _
          refine wp_seq ?_
          refine wp_cond_true rfl ?_
          refine wp_skip ?_
          show Code.wp _ _ _ _ _
          refine wp_seq ?_
          refine wp_block ?_
          refine wp_seq ?_
          refine wl_region ?_
          refine wl_pure (.int .i64 ((i : Nat) : Int)) rfl (by kernel_rfl) ?_
          try simp only [p0, p1, p2, p3]
          refine wl_pure (.int .u32 ((wrS K S s m f (padE m + 8) (endC (imul .u64 8 n) (padE m) 8)) i)) rfl (a_idx Tryd.underlying89 (by kernel_rfl) (fun _ => by kernel_rfl) i (by omega) rfl (by kernel_rfl) (by kernel_rfl) _) ?_
          try simp only [p0, p1, p2, p3]
          refine wl_pure (.int .i64 ((i : Nat) : Int)) rfl (by kernel_rfl) ?_
          try simp only [p0, p1, p2, p3]
          refine wl_pure (.int .u32 ((wrS K S s m f (padE m + 8) (endC (imul .u64 8 n) (padE m) 8)) i)) rfl (by kernel_rfl) ?_
          try simp only [p0, p1, p2, p3]
          refine wl_nil ?_
          show Code.wp _ _ _ _ _
          refine wp_seq ?_
          refine wl_region ?_
          refine wl_pure (.int .u32 ((wrS K S s m f (padE m + 8) (endC (imul .u64 8 n) (padE m) 8)) i)) rfl (by kernel_rfl) ?_
          try simp only [p0, p1, p2, p3]
          refine wl_pure (.int .i64 ((i : Nat) : Int)) rfl (by kernel_rfl) ?_
          try simp only [p0, p1, p2, p3]
          refine wl_pure (.pointer (some ⟨2, i, none⟩)) rfl (p_idx0 Tryd.underlying89 (by kernel_rfl) i (by omega) rfl (by kernel_rfl) (by kernel_rfl) _) ?_
          try simp only [p0, p1, p2, p3]
          refine wl_pure (.int .u32 (S i)) rfl (run_cell ((hS.under hO26.bl).at i (by omega)) (by kernel_rfl) rfl (by kernel_rfl)) ?_
          try simp only [p0, p1, p2, p3]
          refine wl_pure (.int .u32 (ia .u32 ((wrS K S s m f (padE m + 8) (endC (imul .u64 8 n) (padE m) 8)) i) (S i))) rfl (by kernel_rfl) ?_
          try simp only [p0, p1, p2, p3]
          refine wl_pure (.int .u32 (ia .u32 ((wrS K S s m f (padE m + 8) (endC (imul .u64 8 n) (padE m) 8)) i) (S i))) rfl (by kernel_rfl) ?_
          try simp only [p0, p1, p2, p3]
          refine wl_nil ?_
          show Code.wp _ _ _ _ _
          refine wl_region ?_
          refine wl_pure (.int .i64 ((i : Nat) : Int)) rfl (by kernel_rfl) ?_
          try simp only [p0, p1, p2, p3]
          refine wl_pure (.int .i64 ((4 * i : Nat) : Int)) rfl (n_mul (k := .i64) rfl 4 i (by omega) rfl (by kernel_rfl) (by kernel_rfl) _) ?_
          try simp only [p0, p1, p2, p3]
          refine wl_pure (.int .i64 ((i : Nat) : Int)) rfl (by kernel_rfl) ?_
          try simp only [p0, p1, p2, p3]
          refine wl_pure (.int .i64 ((4 * i : Nat) : Int)) rfl (n_mul (k := .i64) rfl 4 i (by omega) rfl (by kernel_rfl) (by kernel_rfl) _) ?_
          try simp only [p0, p1, p2, p3]
          refine wl_pure (.int .i64 (((4 * i) + 1 : Nat) : Int)) rfl (n_add (k := .i64) rfl (4 * i) 1 (by omega) rfl (by kernel_rfl) (by kernel_rfl) _) ?_
          try simp only [p0, p1, p2, p3]
          refine wl_pure (.int .i64 ((i : Nat) : Int)) rfl (by kernel_rfl) ?_
          try simp only [p0, p1, p2, p3]
          refine wl_pure (.int .i64 ((4 * i : Nat) : Int)) rfl (n_mul (k := .i64) rfl 4 i (by omega) rfl (by kernel_rfl) (by kernel_rfl) _) ?_
          try simp only [p0, p1, p2, p3]
          refine wl_pure (.int .i64 (((4 * i) + 2 : Nat) : Int)) rfl (n_add (k := .i64) rfl (4 * i) 2 (by omega) rfl (by kernel_rfl) (by kernel_rfl) _) ?_
          try simp only [p0, p1, p2, p3]
          refine wl_pure (.int .i64 ((i : Nat) : Int)) rfl (by kernel_rfl) ?_
          try simp only [p0, p1, p2, p3]
          refine wl_pure (.int .i64 ((4 * i : Nat) : Int)) rfl (n_mul (k := .i64) rfl 4 i (by omega) rfl (by kernel_rfl) (by kernel_rfl) _) ?_
          try simp only [p0, p1, p2, p3]
          refine wl_pure (.int .i64 (((4 * i) + 3 : Nat) : Int)) rfl (n_add (k := .i64) rfl (4 * i) 3 (by omega) rfl (by kernel_rfl) (by kernel_rfl) _) ?_
          try simp only [p0, p1, p2, p3]
          refine wl_pure (.int .u32 (ia .u32 ((wrS K S s m f (padE m + 8) (endC (imul .u64 8 n) (padE m) 8)) i) (S i))) rfl (by kernel_rfl) ?_
          try simp only [p0, p1, p2, p3]
          refine wl_pure (.int .u32 (ishr (ia .u32 ((wrS K S s m f (padE m + 8) (endC (imul .u64 8 n) (padE m) 8)) i) (S i)) 24)) rfl (by kernel_rfl) ?_
          try simp only [p0, p1, p2, p3]
          refine wl_pure (.int .u8 (cv .u8 (ishr (ia .u32 ((wrS K S s m f (padE m + 8) (endC (imul .u64 8 n) (padE m) 8)) i) (S i)) 24))) rfl (by kernel_rfl) ?_
          try simp only [p0, p1, p2, p3]
          refine wl_pure (.int .u32 (ia .u32 ((wrS K S s m f (padE m + 8) (endC (imul .u64 8 n) (padE m) 8)) i) (S i))) rfl (by kernel_rfl) ?_
          try simp only [p0, p1, p2, p3]
          refine wl_pure (.int .u32 (ishr (ia .u32 ((wrS K S s m f (padE m + 8) (endC (imul .u64 8 n) (padE m) 8)) i) (S i)) 16)) rfl (by kernel_rfl) ?_
          try simp only [p0, p1, p2, p3]
          refine wl_pure (.int .u8 (cv .u8 (ishr (ia .u32 ((wrS K S s m f (padE m + 8) (endC (imul .u64 8 n) (padE m) 8)) i) (S i)) 16))) rfl (by kernel_rfl) ?_
          try simp only [p0, p1, p2, p3]
          refine wl_pure (.int .u32 (ia .u32 ((wrS K S s m f (padE m + 8) (endC (imul .u64 8 n) (padE m) 8)) i) (S i))) rfl (by kernel_rfl) ?_
          try simp only [p0, p1, p2, p3]
          refine wl_pure (.int .u32 (ishr (ia .u32 ((wrS K S s m f (padE m + 8) (endC (imul .u64 8 n) (padE m) 8)) i) (S i)) 8)) rfl (by kernel_rfl) ?_
          try simp only [p0, p1, p2, p3]
          refine wl_pure (.int .u8 (cv .u8 (ishr (ia .u32 ((wrS K S s m f (padE m + 8) (endC (imul .u64 8 n) (padE m) 8)) i) (S i)) 8))) rfl (by kernel_rfl) ?_
          try simp only [p0, p1, p2, p3]
          refine wl_pure (.int .u32 (ia .u32 ((wrS K S s m f (padE m + 8) (endC (imul .u64 8 n) (padE m) 8)) i) (S i))) rfl (by kernel_rfl) ?_
          try simp only [p0, p1, p2, p3]
          refine wl_pure (.int .u8 (cv .u8 (ia .u32 ((wrS K S s m f (padE m + 8) (endC (imul .u64 8 n) (padE m) 8)) i) (S i)))) rfl (by kernel_rfl) ?_
          try simp only [p0, p1, p2, p3]
          refine wl_pure (.pointer (some ⟨g25, 4 * i, none⟩)) rfl (p_idx0 Tryd.underlying22 (by kernel_rfl) (4 * i) (by omega) rfl (by kernel_rfl) (by kernel_rfl) _) ?_
          try simp only [p0, p1, p2, p3]
          refine wl_runs rfl (r_st (L1 := []) (L2 := ((g21, 5, (aF .u8 1 (lit1 (cv .u8 (ishr (imul .u64 8 n) 0))))) :: (g19, 5, (aF .u8 1 (lit1 (cv .u8 (ishr (imul .u64 8 n) 8))))) :: (g17, 5, (aF .u8 1 (lit1 (cv .u8 (ishr (imul .u64 8 n) 16))))) :: (g15, 5, (aF .u8 1 (lit1 (cv .u8 (ishr (imul .u64 8 n) 24))))) :: (g13, 5, (aF .u8 1 (lit1 (cv .u8 (ishr (imul .u64 8 n) 32))))) :: (g11, 5, (aF .u8 1 (lit1 (cv .u8 (ishr (imul .u64 8 n) 40))))) :: (g9, 5, (aF .u8 1 (lit1 (cv .u8 (ishr (imul .u64 8 n) 48))))) :: (g7, 5, (aF .u8 1 (lit1 (cv .u8 (ishr (imul .u64 8 n) 56))))) :: (g2, 22, (aF .u8 32 zF)) :: (g1, 91, (dg (wrS K S s m f (padE m + 8) (endC (imul .u64 8 n) (padE m) 8)) (.slice p10x (wrM m (padE m + 8)) c10x) (wrN n (padE m + 8)))) :: ((buf q9b t9b s9b) ++ buf q10x t10x s10x))) (f := (outW S (wrS K S s m f (padE m + 8) (endC (imul .u64 8 n) (padE m) 8)) i)) (n := 32) (4 * i) (cv .u8 (ishr (ia .u32 ((wrS K S s m f (padE m + 8) (endC (imul .u64 8 n) (padE m) 8)) i) (S i)) 24)) (by omega) rfl (by kernel_rfl) (by kernel_rfl) hO26 (by kernel_rfl)) fun _ w27 hO27 => ?_
          clear hO26
          try simp only [List.nil_append, List.cons_append] at hO27
          try simp only [p0, p1, p2, p3]
          refine wl_pure (.pointer (some ⟨g25, (4 * i) + 1, none⟩)) rfl (p_idx0 Tryd.underlying22 (by kernel_rfl) ((4 * i) + 1) (by omega) rfl (by kernel_rfl) (by kernel_rfl) _) ?_
          try simp only [p0, p1, p2, p3]
          refine wl_runs rfl (r_st (L1 := []) (L2 := ((g21, 5, (aF .u8 1 (lit1 (cv .u8 (ishr (imul .u64 8 n) 0))))) :: (g19, 5, (aF .u8 1 (lit1 (cv .u8 (ishr (imul .u64 8 n) 8))))) :: (g17, 5, (aF .u8 1 (lit1 (cv .u8 (ishr (imul .u64 8 n) 16))))) :: (g15, 5, (aF .u8 1 (lit1 (cv .u8 (ishr (imul .u64 8 n) 24))))) :: (g13, 5, (aF .u8 1 (lit1 (cv .u8 (ishr (imul .u64 8 n) 32))))) :: (g11, 5, (aF .u8 1 (lit1 (cv .u8 (ishr (imul .u64 8 n) 40))))) :: (g9, 5, (aF .u8 1 (lit1 (cv .u8 (ishr (imul .u64 8 n) 48))))) :: (g7, 5, (aF .u8 1 (lit1 (cv .u8 (ishr (imul .u64 8 n) 56))))) :: (g2, 22, (aF .u8 32 zF)) :: (g1, 91, (dg (wrS K S s m f (padE m + 8) (endC (imul .u64 8 n) (padE m) 8)) (.slice p10x (wrM m (padE m + 8)) c10x) (wrN n (padE m + 8)))) :: ((buf q9b t9b s9b) ++ buf q10x t10x s10x))) (f := (upd (outW S (wrS K S s m f (padE m + 8) (endC (imul .u64 8 n) (padE m) 8)) i) (4 * i) (cv .u8 (ishr (ia .u32 ((wrS K S s m f (padE m + 8) (endC (imul .u64 8 n) (padE m) 8)) i) (S i)) 24)))) (n := 32) ((4 * i) + 1) (cv .u8 (ishr (ia .u32 ((wrS K S s m f (padE m + 8) (endC (imul .u64 8 n) (padE m) 8)) i) (S i)) 16)) (by omega) rfl (by kernel_rfl) (by kernel_rfl) hO27 (by kernel_rfl)) fun _ w28 hO28 => ?_
          clear hO27
          try simp only [List.nil_append, List.cons_append] at hO28
          try simp only [p0, p1, p2, p3]
          refine wl_pure (.pointer (some ⟨g25, (4 * i) + 2, none⟩)) rfl (p_idx0 Tryd.underlying22 (by kernel_rfl) ((4 * i) + 2) (by omega) rfl (by kernel_rfl) (by kernel_rfl) _) ?_
          try simp only [p0, p1, p2, p3]
          refine wl_runs rfl (r_st (L1 := []) (L2 := ((g21, 5, (aF .u8 1 (lit1 (cv .u8 (ishr (imul .u64 8 n) 0))))) :: (g19, 5, (aF .u8 1 (lit1 (cv .u8 (ishr (imul .u64 8 n) 8))))) :: (g17, 5, (aF .u8 1 (lit1 (cv .u8 (ishr (imul .u64 8 n) 16))))) :: (g15, 5, (aF .u8 1 (lit1 (cv .u8 (ishr (imul .u64 8 n) 24))))) :: (g13, 5, (aF .u8 1 (lit1 (cv .u8 (ishr (imul .u64 8 n) 32))))) :: (g11, 5, (aF .u8 1 (lit1 (cv .u8 (ishr (imul .u64 8 n) 40))))) :: (g9, 5, (aF .u8 1 (lit1 (cv .u8 (ishr (imul .u64 8 n) 48))))) :: (g7, 5, (aF .u8 1 (lit1 (cv .u8 (ishr (imul .u64 8 n) 56))))) :: (g2, 22, (aF .u8 32 zF)) :: (g1, 91, (dg (wrS K S s m f (padE m + 8) (endC (imul .u64 8 n) (padE m) 8)) (.slice p10x (wrM m (padE m + 8)) c10x) (wrN n (padE m + 8)))) :: ((buf q9b t9b s9b) ++ buf q10x t10x s10x))) (f := (upd (upd (outW S (wrS K S s m f (padE m + 8) (endC (imul .u64 8 n) (padE m) 8)) i) (4 * i) (cv .u8 (ishr (ia .u32 ((wrS K S s m f (padE m + 8) (endC (imul .u64 8 n) (padE m) 8)) i) (S i)) 24))) ((4 * i) + 1) (cv .u8 (ishr (ia .u32 ((wrS K S s m f (padE m + 8) (endC (imul .u64 8 n) (padE m) 8)) i) (S i)) 16)))) (n := 32) ((4 * i) + 2) (cv .u8 (ishr (ia .u32 ((wrS K S s m f (padE m + 8) (endC (imul .u64 8 n) (padE m) 8)) i) (S i)) 8)) (by omega) rfl (by kernel_rfl) (by kernel_rfl) hO28 (by kernel_rfl)) fun _ w29 hO29 => ?_
          clear hO28
          try simp only [List.nil_append, List.cons_append] at hO29
          try simp only [p0, p1, p2, p3]
          refine wl_pure (.pointer (some ⟨g25, (4 * i) + 3, none⟩)) rfl (p_idx0 Tryd.underlying22 (by kernel_rfl) ((4 * i) + 3) (by omega) rfl (by kernel_rfl) (by kernel_rfl) _) ?_
          try simp only [p0, p1, p2, p3]
          refine wl_runs rfl (r_st (L1 := []) (L2 := ((g21, 5, (aF .u8 1 (lit1 (cv .u8 (ishr (imul .u64 8 n) 0))))) :: (g19, 5, (aF .u8 1 (lit1 (cv .u8 (ishr (imul .u64 8 n) 8))))) :: (g17, 5, (aF .u8 1 (lit1 (cv .u8 (ishr (imul .u64 8 n) 16))))) :: (g15, 5, (aF .u8 1 (lit1 (cv .u8 (ishr (imul .u64 8 n) 24))))) :: (g13, 5, (aF .u8 1 (lit1 (cv .u8 (ishr (imul .u64 8 n) 32))))) :: (g11, 5, (aF .u8 1 (lit1 (cv .u8 (ishr (imul .u64 8 n) 40))))) :: (g9, 5, (aF .u8 1 (lit1 (cv .u8 (ishr (imul .u64 8 n) 48))))) :: (g7, 5, (aF .u8 1 (lit1 (cv .u8 (ishr (imul .u64 8 n) 56))))) :: (g2, 22, (aF .u8 32 zF)) :: (g1, 91, (dg (wrS K S s m f (padE m + 8) (endC (imul .u64 8 n) (padE m) 8)) (.slice p10x (wrM m (padE m + 8)) c10x) (wrN n (padE m + 8)))) :: ((buf q9b t9b s9b) ++ buf q10x t10x s10x))) (f := (upd (upd (upd (outW S (wrS K S s m f (padE m + 8) (endC (imul .u64 8 n) (padE m) 8)) i) (4 * i) (cv .u8 (ishr (ia .u32 ((wrS K S s m f (padE m + 8) (endC (imul .u64 8 n) (padE m) 8)) i) (S i)) 24))) ((4 * i) + 1) (cv .u8 (ishr (ia .u32 ((wrS K S s m f (padE m + 8) (endC (imul .u64 8 n) (padE m) 8)) i) (S i)) 16))) ((4 * i) + 2) (cv .u8 (ishr (ia .u32 ((wrS K S s m f (padE m + 8) (endC (imul .u64 8 n) (padE m) 8)) i) (S i)) 8)))) (n := 32) ((4 * i) + 3) (cv .u8 (ia .u32 ((wrS K S s m f (padE m + 8) (endC (imul .u64 8 n) (padE m) 8)) i) (S i))) (by omega) rfl (by kernel_rfl) (by kernel_rfl) hO29 (by kernel_rfl)) fun _ w30 hO30 => ?_
          clear hO29
          try simp only [List.nil_append, List.cons_append] at hO30
          try simp only [p0, p1, p2, p3]
          refine wl_nil ?_
          show Code.wp _ _ _ _ _
          refine wl_region ?_
          refine wl_pure (.int .i64 ((i + 1 : Nat) : Int)) rfl (n_add (k := .i64) rfl i 1 (by omega) rfl (by kernel_rfl) (by kernel_rfl) _) ?_
          try simp only [p0, p1, p2, p3]
          refine wl_pure (.int .i64 ((i + 1 : Nat) : Int)) rfl (by kernel_rfl) ?_
          try simp only [p0, p1, p2, p3]
          refine wl_nil ?_
          try simp only [Exit.then, Exit.inBlock]
          go_roundw
          case rel => exact ⟨i + 1, by omega, rfl, hO30⟩
          case measure => simp [intOf, slen]; omega
        · have hm26' := hm26
          obtain rfl : i = 8 := by omega
          refine wp_seq ?_
          refine wl_region ?_
          refine wl_pure (.bool false) rfl (by kernel_rfl) ?_
          try simp only [p0, p1, p2, p3]
          refine wl_nil ?_
          show Code.wp _ _ _ _ _
          refine wp_seq ?_
          refine wp_cond_false rfl ?_
          refine wp_exit ?_
          simp only [Exit.then, Exit.inBlock, if_true]
          show Code.wp _ _ _ _ _
          refine wp_seq ?_
          refine wl_region ?_
          refine wl_pure (.agg (aF .u8 32 (outW S (wrS K S s m f (padE m + 8) (endC (imul .u64 8 n) (padE m) 8)) 8))) rfl (run_row (hO26.get (.head _)) Tryd.underlying22 rfl (by kernel_rfl) rfl (by kernel_rfl)) ?_
          try simp only [p0, p1, p2, p3]
          refine wl_runs rfl (r_row (L1 := [(g25, 22, (aF .u8 32 (outW S (wrS K S s m f (padE m + 8) (endC (imul .u64 8 n) (padE m) 8)) 8))), (g21, 5, (aF .u8 1 (lit1 (cv .u8 (ishr (imul .u64 8 n) 0))))), (g19, 5, (aF .u8 1 (lit1 (cv .u8 (ishr (imul .u64 8 n) 8))))), (g17, 5, (aF .u8 1 (lit1 (cv .u8 (ishr (imul .u64 8 n) 16))))), (g15, 5, (aF .u8 1 (lit1 (cv .u8 (ishr (imul .u64 8 n) 24))))), (g13, 5, (aF .u8 1 (lit1 (cv .u8 (ishr (imul .u64 8 n) 32))))), (g11, 5, (aF .u8 1 (lit1 (cv .u8 (ishr (imul .u64 8 n) 40))))), (g9, 5, (aF .u8 1 (lit1 (cv .u8 (ishr (imul .u64 8 n) 48))))), (g7, 5, (aF .u8 1 (lit1 (cv .u8 (ishr (imul .u64 8 n) 56)))))]) (L2 := ((g1, 91, (dg (wrS K S s m f (padE m + 8) (endC (imul .u64 8 n) (padE m) 8)) (.slice p10x (wrM m (padE m + 8)) c10x) (wrN n (padE m + 8)))) :: ((buf q9b t9b s9b) ++ buf q10x t10x s10x))) (cs := (aF .u8 32 zF)) (aF .u8 32 (outW S (wrS K S s m f (padE m + 8) (endC (imul .u64 8 n) (padE m) 8)) 8)) rfl (by kernel_rfl) (by kernel_rfl) hO26 (by simp only [size_aF]) (by kernel_rfl) (one_aF _ _ _)) fun _ w31 hO31 => ?_
          clear hO26
          try simp only [List.nil_append, List.cons_append] at hO31
          try simp only [p0, p1, p2, p3]
          refine wl_nil ?_
          show Code.wp _ _ _ _ _
          refine wp_ret ?_
          refine bodyPost_ret (results_cell_row rfl _ _ g2 22 (aF .u8 32 (outW S (wrS K S s m f (padE m + 8) (endC (imul .u64 8 n) (padE m) 8)) 8)) (0, 0) _ rfl (hO31.get (.tail _ (.tail _ (.tail _ (.tail _ (.tail _ (.tail _ (.tail _ (.tail _ (.tail _ (.head _))))))))))) Tryd.underlying22 rfl (by kernel_rfl)) rfl ?_
          exact ⟨rfl, hO31.bl⟩
end Go.Proofs.YtkmgdpbmkbpkjaaDoor
