/-
  aead.low, aead.locked.
-/
import Derived.Test.YtkmgdpbmkbpkjaaDoorWz
set_option linter.unusedVariables false
set_option linter.unusedSimpArgs false
namespace Go.Proofs.YtkmgdpbmkbpkjaaDoor
open Go.RowKit

theorem r_pure {P : Program} {o : Oper} {a : Act} {w w0 : World} {L : List (Nat × TypeId × Array Value)} {u : Value} (hx : (execOp a.eval o).run P w = .ok (.value u) w) (hO : Own w0 L w) : Runs P o a w (fun _ : Unit => u) fun _ w' => Own w0 L w' := r_val () hx hO
/-- Eight bytes of a number, behind a text. -/
def lowF (f : Nat → Int) (n : Nat) (x : Int) : Nat → (Nat → Int)
  | 0 => f
  | i + 1 => cat (lowF f n x i) (n + i) (lit1 (cv .u8 (ishr x (8 * i))))
set_option maxRecDepth 100000 in
set_option maxHeartbeats 4000000 in
theorem low_any {f : Nat → Int} {x : Int} {n c t : Nat} {q : Option Addr} {cs : Array Value} {w w0 : World} {L : List (Nat × TypeId × Array Value)} (hB : Buf .u8 1 q n c cs f) (hn : n ≤ 900000) (hO : Own w0 (L ++ buf q t cs) w) :
    Ans Tryd.prog 45 #[.slice q n c, .int .u64 x] w (fun v : Value => v) fun v w' => ∃ q' c' t' cs', v = .slice q' (n + 8) c' ∧ Own w0 (L ++ buf q' t' cs') w' ∧ Buf .u8 1 q' (n + 8) c' cs' (lowF f n x 8) := by
  unfold Ans
  refine calls_of_wp Tryd.func45 rfl ?_
  simp only [Tryd.ntmps45, List.size_toArray, List.length_cons, List.length_nil, Nat.reduceAdd, Nat.reduceSub, Array.replicate_succ, Array.replicate_zero, List.push_toArray, List.append_toArray, List.nil_append, List.cons_append]
  refine wp_seq ?_
  refine wl_region ?_
  refine wl_pure (.slice none 0 0) rfl (by kernel_rfl) ?_
  try simp only [p0, p1, p2, p3]
  refine wl_nil ?_
  show Code.wp _ _ _ _ _
  refine wp_seq ?_
  refine wp_seq ?_
  refine wl_region ?_
  refine wl_pure (.int .i64 0) rfl (by kernel_rfl) ?_
  try simp only [p0, p1, p2, p3]
  refine wl_nil ?_
  show Code.wp _ _ _ _ _
  go_wp2_with fail
  go_loopw [0, 6] (fun v1_0 v1_6 wr1 => ∃ (i : Nat) (q' : Option Addr) (c' : Nat) (t' : TypeId) (cs' : Array Value), i ≤ 8 ∧ Buf .u8 1 q' (n + i) c' cs' (lowF f n x i) ∧ v1_0 = .slice q' (n + i) c' ∧ v1_6 = .int .i64 ((i : Nat) : Int) ∧ Own w0 ((L ++ buf q' t' cs')) wr1) (fun v1_0 v1_6 wr1 => 8 - (intOf v1_6).toNat)
  case atStart => exact ⟨0, q, c, t, cs, by omega, hB, rfl, rfl, hO⟩
  case round =>
    try clear hO
    obtain ⟨i, q', c', t', cs', hf1_0, hf1_1, rfl, rfl, hO1⟩ := hrel
    by_cases hm1 : i < 8
    · have hm1' := hm1
      refine wp_seq ?_
      refine wl_region ?_
      refine wl_pure (.bool true) rfl (i_lss (k := .i64) ((i : Nat) : Int) 8 true (decide_eq_true (by omega)) rfl (by kernel_rfl) (by kernel_rfl) _) ?_
      try simp only [p0, p1, p2, p3]
      refine wl_nil ?_
      show Code.wp _ _ _ _ _
      refine wp_seq ?_
      refine wp_cond_true rfl ?_
      refine wp_skip ?_
      show Code.wp _ _ _ _ _
      refine wp_seq ?_
      refine wp_block ?_
      refine wp_seq ?_
      refine wl_region ?_
      refine wl_pure (.int .i64 ((i : Nat) : Int)) rfl (by kernel_rfl) ?_
      try simp only [p0, p1, p2, p3]
      refine wl_pure (.int .i64 ((i : Nat) : Int)) rfl (by kernel_rfl) ?_
      try simp only [p0, p1, p2, p3]
      refine wl_nil ?_
      show Code.wp _ _ _ _ _
      refine wl_region ?_
      refine wl_pure (.slice q' (n + i) c') rfl (by kernel_rfl) ?_
      try simp only [p0, p1, p2, p3]
      refine wl_pure (.int .u64 x) rfl (by kernel_rfl) ?_
      try simp only [p0, p1, p2, p3]
      refine wl_pure (.int .i64 ((i : Nat) : Int)) rfl (by kernel_rfl) ?_
      try simp only [p0, p1, p2, p3]
      refine wl_pure (.int .i64 ((8 * i : Nat) : Int)) rfl (n_mul (k := .i64) rfl 8 i (by omega) rfl (by kernel_rfl) (by kernel_rfl) _) ?_
      try simp only [p0, p1, p2, p3]
      refine wl_pure (.int .u64 (ishr x (8 * i))) rfl (n_shr (k := .u64) (yk := .i64) x (8 * i) (by simp only [IntKind.bits]; omega) rfl (by kernel_rfl) (by kernel_rfl) _) ?_
      try simp only [p0, p1, p2, p3]
      refine wl_pure (.int .u8 (cv .u8 (ishr x (8 * i)))) rfl (by kernel_rfl) ?_
      try simp only [p0, p1, p2, p3]
      refine wl_runs rfl (r_bs 5 (aF .u8 1 (lit1 (cv .u8 (ishr x (8 * i))))) 1 (by kernel_rfl) hO1) fun g2 w2 hO2 => ?_
      clear hO1
      try simp only [List.nil_append, List.cons_append] at hO2
      try simp only [p0, p1, p2, p3]
      refine wl_runs rfl (r_app1 (g' := g2) (o' := 0) (n := (n + i)) (c := c') (m := 1) (mc := 1) (q := q') (f := (lowF f n x i)) (t0 := t') (t := 23) (tx := 23) (ty := 23) (e := 5) (e' := 5) (cs := cs') (L := ((g2, 5, (aF .u8 1 (lit1 (cv .u8 (ishr x (8 * i)))))) :: L)) (s := (lit1 (cv .u8 (ishr x (8 * i))))) (by kernel_rfl) Tryd.underlying23 Tryd.underlying23 (by kernel_rfl) (rdc_own1 hO2 (.head _) 1 (by decide)) (by omega) (by omega) hf1_1 hO2) ?_
      rintro _ w3 ⟨q1b, c1b, t1b, s1b, rfl, hO3, hb1b⟩
      clear hO2
      try simp only [List.nil_append, List.cons_append] at hO3
      try simp only [p0, p1, p2, p3]
      refine wl_pure (.slice q1b ((n + i) + 1) c1b) rfl (by kernel_rfl) ?_
      try simp only [p0, p1, p2, p3]
      refine wl_nil ?_
      show Code.wp _ _ _ _ _
      refine wl_region ?_
      refine wl_pure (.int .i64 ((i + 1 : Nat) : Int)) rfl (n_add (k := .i64) rfl i 1 (by omega) rfl (by kernel_rfl) (by kernel_rfl) _) ?_
      try simp only [p0, p1, p2, p3]
      refine wl_pure (.int .i64 ((i + 1 : Nat) : Int)) rfl (by kernel_rfl) ?_
      try simp only [p0, p1, p2, p3]
      refine wl_nil ?_
      try simp only [Exit.then, Exit.inBlock]
      go_roundw
      case rel => exact ⟨i + 1, q1b, _, t1b, s1b, by omega, hb1b, rfl, rfl, hO3.tail⟩
      case measure => simp [intOf]; omega
    · have hm1' := hm1
      obtain rfl : i = 8 := by omega
      refine wp_seq ?_
      refine wl_region ?_
      refine wl_pure (.bool false) rfl (by kernel_rfl) ?_
      try simp only [p0, p1, p2, p3]
      refine wl_nil ?_
      show Code.wp _ _ _ _ _
      refine wp_seq ?_
      refine wp_cond_false rfl ?_
      refine wp_exit ?_
      simp only [Exit.then, Exit.inBlock, if_true]
      show Code.wp _ _ _ _ _
      refine wp_seq ?_
      refine wl_region ?_
      refine wl_pure (.slice q' (n + 8) c') rfl (by kernel_rfl) ?_
      try simp only [p0, p1, p2, p3]
      refine wl_pure (.slice q' (n + 8) c') rfl (by kernel_rfl) ?_
      try simp only [p0, p1, p2, p3]
      refine wl_nil ?_
      show Code.wp _ _ _ _ _
      refine wp_ret ?_
      refine bodyPost_ret (results_tmp rfl _ _ _) rfl ?_
      exact ⟨_, rfl, q', c', t', cs', rfl, hO1, hf1_1⟩
/-- A key and a counted nonce. -/
def nonF (n : Int) : Nat → Int := lowF zF 4 n 8
def lockF (key : Nat → Int) (n : Int) : Nat → Int := cat key 32 (nonF n)
set_option maxRecDepth 100000 in
set_option maxHeartbeats 4000000 in
theorem locked_any {key : Nat → Int} {n : Int} {w : World} : Ret Tryd.prog 26 #[.agg (aF .u8 32 key), .int .u64 n] w (.agg (aF .u8 44 (lockF key n))) := by
  unfold Ret
  refine calls_of_wp Tryd.func26 rfl ?_
  simp only [Tryd.ntmps26, List.size_toArray, List.length_cons, List.length_nil, Nat.reduceAdd, Nat.reduceSub, Array.replicate_succ, Array.replicate_zero, List.push_toArray, List.append_toArray, List.nil_append, List.cons_append]
  have hO := Own.nil w
  refine wp_seq ?_
  refine wl_region ?_
  refine wl_runs rfl (r_new 22 (aF .u8 32 key) (by kernel_rfl) hO) fun g1 w1 hO1 => ?_
  clear hO
  try simp only [List.nil_append, List.cons_append] at hO1
  try simp only [p0, p1, p2, p3]
  refine wl_runs rfl (r_new 52 (aF .u8 44 zF) (by kernel_rfl) hO1) fun g2 w2 hO2 => ?_
  clear hO1
  try simp only [List.nil_append, List.cons_append] at hO2
  try simp only [p0, p1, p2, p3]
  refine wl_nil ?_
  show Code.wp _ _ _ _ _
  refine wp_seq ?_
  refine wd_region [7] (Tr.ofList [(0, 1), (2, 1), (1, 3), (3, 3), (4, 1), (5, 3), (6, 1), (7, 4)] .nil) (by decide) (by kernel_rfl) (by kernel_rfl) hO2 fun w3 hO3 => ?_
  simp only [Tr.ofList]
  try clear hO2
  refine wd_ld (.agg (aF .u8 32 key)) rfl (some 5) (by kernel_rfl) (by kernel_rfl) (fun _ hw => run_row (hw.get (.tail _ (.head _))) Tryd.underlying22 rfl (by kernel_rfl) rfl (by kernel_rfl)) hO3 ?_
  try simp only [p0, p1, p2, p3]
  refine wd_ld (.int .u64 n) rfl (some 7) (by kernel_rfl) (by kernel_rfl) (fun _ hw => by kernel_rfl) hO3 ?_
  try simp only [p0, p1, p2, p3]
  refine wd_runs rfl (some 6) (by kernel_rfl) rfl (r_make (k := .u8) 4 (t := 23) (e := 5) (by kernel_rfl) Tryd.underlying23 (by kernel_rfl) (by omega) hO3) (fun _ _ h => h.tail) fun g4 w4 hO4 => ?_
  clear hO3
  try simp only [List.nil_append, List.cons_append] at hO4
  try simp only [p0, p1, p2, p3]
  have hsw := hO4.swap
  simp only [List.nil_append, List.cons_append] at hsw
  refine wd_runs rfl (some 8) (by kernel_rfl) rfl (r_ans (args := #[.slice (some ⟨g4, 0, none⟩) 4 4, .int .u64 n]) (by kernel_rfl) (low_any (x := n) (L := [(g2, 52, (aF .u8 44 zF)), (g1, 22, (aF .u8 32 key))]) (q := some ⟨g4, 0, none⟩) (t := 5) (cs := aF .u8 4 zF) (Buf.of1 (f := zF) g4 (Nat.le_refl 4)) (by decide) hsw)) (by rintro _ _ ⟨q', c', t', cs', rfl, h, hB'⟩; exact (Own.sub h (.cons_cons _ (.cons_cons _ (List.nil_sublist _))))) ?_
  rintro _ w5 ⟨q', c', t', cs', rfl, hO5, hB'⟩
  clear hO4
  try simp only [List.nil_append, List.cons_append] at hO5
  obtain ⟨gl, rfl, hcl⟩ := hB'.addr (by decide)
  try simp only [p0, p1, p2, p3]
  refine wd_ld (.pointer (some ⟨gl, 0, none⟩)) rfl (some 9) (by kernel_rfl) (by kernel_rfl) (fun _ hw => by kernel_rfl) (Own.sub hO5 (.cons_cons _ (.cons_cons _ (List.nil_sublist _)))) ?_
  try simp only [p0, p1, p2, p3]
  refine wd_runs rfl (some 10) (by kernel_rfl) rfl (r_pure (u := .agg (aF .u8 12 (nonF n))) (run_part (Rd.rdc (t := t') (n := 12) hB'.rd hO5 (by intro g e; cases e; simp [buf])) Tryd.underlying50 rfl (by kernel_rfl) rfl (by kernel_rfl)) hO5) (fun _ _ h => (Own.sub h (.cons_cons _ (.cons_cons _ (List.nil_sublist _))))) fun _ w6 hO6 => ?_
  clear hO5
  try simp only [List.nil_append, List.cons_append] at hO6
  try simp only [p0, p1, p2, p3]
  refine wd_ld (.agg (aF .u8 44 (cat key 32 (nonF n)))) rfl (some 11) (by kernel_rfl) (by kernel_rfl) (fun _ hw => by kernel_rfl) (Own.sub hO6 (.cons_cons _ (.cons_cons _ (List.nil_sublist _)))) ?_
  try simp only [p0, p1, p2, p3]
  refine wd_runx rfl none (by kernel_rfl) rfl (r_row (L1 := []) (L2 := ((g1, 22, (aF .u8 32 key)) :: (buf (some ⟨gl, 0, none⟩) t' cs'))) (cs := (aF .u8 44 zF)) (aF .u8 44 (cat key 32 (nonF n))) rfl (by kernel_rfl) (by kernel_rfl) hO6 (by simp only [size_aF]) (by kernel_rfl) (one_aF _ _ _)) fun _ w7 hO7 => ?_
  clear hO6
  try simp only [List.nil_append, List.cons_append] at hO7
  try simp only [p0, p1, p2, p3]
  refine wd_nil ?_
  show Code.wp _ _ _ _ _
  refine wp_ret ?_
  refine bodyPost_ret (results_cell_row rfl _ _ g2 52 (aF .u8 44 (cat key 32 (nonF n))) (0, 0) _ rfl (hO7.get (.head _)) Tryd.underlying52 rfl (by kernel_rfl)) rfl ?_
  exact ⟨rfl, hO7.bl⟩
end Go.Proofs.YtkmgdpbmkbpkjaaDoor
