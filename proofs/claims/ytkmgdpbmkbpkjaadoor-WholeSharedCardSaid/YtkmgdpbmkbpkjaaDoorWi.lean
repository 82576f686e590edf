/-
  ChaCha20's quarter round.
-/
import Derived.Test.YtkmgdpbmkbpkjaaDoorWh
set_option linter.unusedVariables false
set_option linter.unusedSimpArgs false
namespace Go.Proofs.YtkmgdpbmkbpkjaaDoor
open Go.RowKit

def lit2 (a b : Int) : Nat → Int
  | 0 => a
  | _ => b
/-- Half a quarter. -/
def qr (p q a b c d : Nat) (f : Nat → Int) : Nat → Int :=
  let f1 := upd f a (ia .u32 (f a) (f b))
  let f2 := upd f1 d (rot (ix .u32 (f1 d) (f1 a)) p)
  let f3 := upd f2 c (ia .u32 (f2 c) (f2 d))
  upd f3 b (rot (ix .u32 (f3 b) (f3 c)) q)
/-- A quarter round. -/
def qrt (a b c d : Nat) (f : Nat → Int) : Nat → Int := qr 8 7 a b c d (qr 16 12 a b c d f)
set_option maxRecDepth 100000 in
set_option maxHeartbeats 4000000 in
theorem quarter_any {a b c d : Nat} (ha : a < 16) (hb : b < 16) (hc : c < 16) (hd : d < 16) {g : Nat} {t : TypeId} {f : Nat → Int} {L : List (Nat × TypeId × Array Value)} {w0 w : World} (hO : Own w0 ((g, t, aF .u32 16 f) :: L) w) :
    Ans Tryd.prog 62 #[.pointer (some ⟨g, 0, none⟩), .int .i64 ((a : Nat) : Int), .int .i64 ((b : Nat) : Int), .int .i64 ((c : Nat) : Int), .int .i64 ((d : Nat) : Int)] w (fun _ : Unit => .tuple #[]) fun _ w' => Own w0 ((g, t, aF .u32 16 (qrt a b c d f)) :: L) w' := by
  refine calls_of_wp Tryd.func62 rfl ?_
  simp only [Tryd.ntmps62, List.size_toArray, List.length_cons, List.length_nil, Nat.reduceAdd, Nat.reduceSub, Array.replicate_succ, Array.replicate_zero, List.push_toArray, List.append_toArray, List.nil_append, List.cons_append]
  refine wp_seq ?_
  refine wl_region ?_
  refine wl_pure (.agg (aF .i64 2 (lit2 16 12))) rfl (by kernel_rfl) ?_
  try simp only [p0, p1, p2, p3]
  refine wl_pure (.agg (aF .i64 2 (lit2 8 7))) rfl (by kernel_rfl) ?_
  try simp only [p0, p1, p2, p3]
  refine wl_pure (.agg ((aF .i64 2 (lit2 16 12)) ++ (aF .i64 2 (lit2 8 7)))) rfl (by kernel_rfl) ?_
  try simp only [p0, p1, p2, p3]
  refine wl_pure (.int .i64 0) rfl (by kernel_rfl) ?_
  try simp only [p0, p1, p2, p3]
  refine wl_nil ?_
  show Code.wp _ _ _ _ _
  refine wp_block ?_
  refine wp_loop_rounds 3 ?_
  rw [rounds_succ]
  refine wp_seq ?_
  refine wl_region ?_
  refine wl_pure (.bool true) rfl (by kernel_rfl) ?_
  try simp only [p0, p1, p2, p3]
  refine wl_nil ?_
  show Code.wp _ _ _ _ _
  refine wp_seq ?_
  refine wp_cond_true rfl ?_
  refine wp_skip ?_
  show Code.wp _ _ _ _ _
  refine wp_seq ?_
  refine wp_block ?_
  refine wp_seq ?_
  refine wl_region ?_
  refine wl_pure (.agg (aF .i64 2 (lit2 16 12))) rfl (by kernel_rfl) ?_
  try simp only [p0, p1, p2, p3]
  refine wl_runs rfl (r_new 121 (aF .i64 2 zF) (by kernel_rfl) hO) fun g1 w1 hO1 => ?_
  clear hO
  try simp only [List.nil_append, List.cons_append] at hO1
  try simp only [p0, p1, p2, p3]
  refine wl_runs rfl (r_row (L1 := []) (L2 := ((g, t, (aF .u32 16 f)) :: L)) (cs := (aF .i64 2 zF)) (aF .i64 2 (lit2 16 12)) rfl (by kernel_rfl) (by kernel_rfl) hO1 (by simp only [size_aF]) (by kernel_rfl) (one_aF _ _ _)) fun _ w2 hO2 => ?_
  clear hO1
  try simp only [List.nil_append, List.cons_append] at hO2
  try simp only [p0, p1, p2, p3]
  refine wl_nil ?_
  show Code.wp _ _ _ _ _
  refine wp_seq ?_
  refine wd_region [13] (Tr.ofList [(0, 1), (1, 1), (2, 1), (3, 1), (4, 1), (5, 1), (6, 1), (7, 1), (8, 1), (9, 1), (10, 1), (11, 0), (12, 1), (13, 4)] .nil) (by decide) (by kernel_rfl) (by kernel_rfl) hO2 fun w3 hO3 => ?_
  simp only [Tr.ofList]
  try clear hO2
  refine wd_ld (.pointer (some ⟨g, 0, none⟩)) rfl (some 18) (by kernel_rfl) (by kernel_rfl) (fun _ hw => by kernel_rfl) hO3 ?_
  try simp only [p0, p1, p2, p3]
  refine wd_ld (.int .i64 ((a : Nat) : Int)) rfl (some 19) (by kernel_rfl) (by kernel_rfl) (fun _ hw => by kernel_rfl) hO3 ?_
  try simp only [p0, p1, p2, p3]
  refine wd_ld (.pointer (some ⟨g, 0, none⟩)) rfl (some 20) (by kernel_rfl) (by kernel_rfl) (fun _ hw => by kernel_rfl) hO3 ?_
  try simp only [p0, p1, p2, p3]
  refine wd_ld (.pointer (some ⟨g, a, none⟩)) rfl (some 21) (by kernel_rfl) (by kernel_rfl) (fun _ hw => p_idx0 Tryd.underlying96 (by kernel_rfl) a (by omega) rfl (by kernel_rfl) (by kernel_rfl) _) hO3 ?_
  try simp only [p0, p1, p2, p3]
  refine wd_ld (.int .u32 (f a)) rfl (some 22) (by kernel_rfl) (by kernel_rfl) (fun _ hw => run_cell (own_cell hw (.tail _ (.head _)) a (by omega)) (by kernel_rfl) rfl (by kernel_rfl)) hO3 ?_
  try simp only [p0, p1, p2, p3]
  refine wd_ld (.pointer (some ⟨g, 0, none⟩)) rfl (some 23) (by kernel_rfl) (by kernel_rfl) (fun _ hw => by kernel_rfl) hO3 ?_
  try simp only [p0, p1, p2, p3]
  refine wd_ld (.int .i64 ((b : Nat) : Int)) rfl (some 24) (by kernel_rfl) (by kernel_rfl) (fun _ hw => by kernel_rfl) hO3 ?_
  try simp only [p0, p1, p2, p3]
  refine wd_ld (.pointer (some ⟨g, 0, none⟩)) rfl (some 25) (by kernel_rfl) (by kernel_rfl) (fun _ hw => by kernel_rfl) hO3 ?_
  try simp only [p0, p1, p2, p3]
  refine wd_ld (.pointer (some ⟨g, b, none⟩)) rfl (some 26) (by kernel_rfl) (by kernel_rfl) (fun _ hw => p_idx0 Tryd.underlying96 (by kernel_rfl) b (by omega) rfl (by kernel_rfl) (by kernel_rfl) _) hO3 ?_
  try simp only [p0, p1, p2, p3]
  refine wd_ld (.int .u32 (f b)) rfl (some 27) (by kernel_rfl) (by kernel_rfl) (fun _ hw => run_cell (own_cell hw (.tail _ (.head _)) b (by omega)) (by kernel_rfl) rfl (by kernel_rfl)) hO3 ?_
  try simp only [p0, p1, p2, p3]
  refine wd_ld (.int .u32 (ia .u32 (f a) (f b))) rfl (some 28) (by kernel_rfl) (by kernel_rfl) (fun _ hw => by kernel_rfl) hO3 ?_
  try simp only [p0, p1, p2, p3]
  refine wd_p (.pointer (some ⟨g, 0, none⟩)) rfl (some 29) (by kernel_rfl) (by kernel_rfl) (fun _ => by kernel_rfl) hO3 ?_
  try simp only [p0, p1, p2, p3]
  refine wd_ld (.pointer (some ⟨g, a, none⟩)) rfl (some 30) (by kernel_rfl) (by kernel_rfl) (fun _ hw => p_idx0 Tryd.underlying96 (by kernel_rfl) a (by omega) rfl (by kernel_rfl) (by kernel_rfl) _) hO3 ?_
  try simp only [p0, p1, p2, p3]
  refine wd_runx rfl none (by kernel_rfl) rfl (r_st (L1 := [(g1, 121, (aF .i64 2 (lit2 16 12)))]) (L2 := (L)) (f := f) (n := 16) a (ia .u32 (f a) (f b)) (by omega) rfl (by kernel_rfl) (by kernel_rfl) hO3 (by kernel_rfl)) fun _ w4 hO4 => ?_
  clear hO3
  try simp only [List.nil_append, List.cons_append] at hO4
  try simp only [p0, p1, p2, p3]
  refine wd_nil ?_
  obtain ⟨F1, eF1⟩ : ∃ x : Nat → Int, x = (upd f a (ia .u32 (f a) (f b))) := ⟨_, rfl⟩
  rw [← eF1] at hO4
  show Code.wp _ _ _ _ _
  refine wp_seq ?_
  refine wd_region [18] (Tr.ofList [(0, 1), (1, 1), (2, 1), (3, 1), (4, 1), (5, 1), (6, 1), (7, 1), (8, 1), (9, 1), (10, 1), (11, 1), (12, 1), (13, 1), (14, 1), (16, 0), (15, 3), (17, 1), (18, 4)] .nil) (by decide) (by kernel_rfl) (by kernel_rfl) hO4 fun w5 hO5 => ?_
  simp only [Tr.ofList]
  try clear hO4
  refine wd_ld (.pointer (some ⟨g, 0, none⟩)) rfl (some 31) (by kernel_rfl) (by kernel_rfl) (fun _ hw => by kernel_rfl) hO5 ?_
  try simp only [p0, p1, p2, p3]
  refine wd_ld (.int .i64 ((d : Nat) : Int)) rfl (some 32) (by kernel_rfl) (by kernel_rfl) (fun _ hw => by kernel_rfl) hO5 ?_
  try simp only [p0, p1, p2, p3]
  refine wd_ld (.pointer (some ⟨g, 0, none⟩)) rfl (some 33) (by kernel_rfl) (by kernel_rfl) (fun _ hw => by kernel_rfl) hO5 ?_
  try simp only [p0, p1, p2, p3]
  refine wd_ld (.int .i64 ((d : Nat) : Int)) rfl (some 34) (by kernel_rfl) (by kernel_rfl) (fun _ hw => by kernel_rfl) hO5 ?_
  try simp only [p0, p1, p2, p3]
  refine wd_ld (.pointer (some ⟨g, 0, none⟩)) rfl (some 35) (by kernel_rfl) (by kernel_rfl) (fun _ hw => by kernel_rfl) hO5 ?_
  try simp only [p0, p1, p2, p3]
  refine wd_ld (.pointer (some ⟨g, d, none⟩)) rfl (some 36) (by kernel_rfl) (by kernel_rfl) (fun _ hw => p_idx0 Tryd.underlying96 (by kernel_rfl) d (by omega) rfl (by kernel_rfl) (by kernel_rfl) _) hO5 ?_
  try simp only [p0, p1, p2, p3]
  refine wd_ld (.int .u32 (F1 d)) rfl (some 37) (by kernel_rfl) (by kernel_rfl) (fun _ hw => run_cell (own_cell hw (.tail _ (.head _)) d (by omega)) (by kernel_rfl) rfl (by kernel_rfl)) hO5 ?_
  try simp only [p0, p1, p2, p3]
  refine wd_ld (.pointer (some ⟨g, 0, none⟩)) rfl (some 38) (by kernel_rfl) (by kernel_rfl) (fun _ hw => by kernel_rfl) hO5 ?_
  try simp only [p0, p1, p2, p3]
  refine wd_ld (.int .i64 ((a : Nat) : Int)) rfl (some 39) (by kernel_rfl) (by kernel_rfl) (fun _ hw => by kernel_rfl) hO5 ?_
  try simp only [p0, p1, p2, p3]
  refine wd_ld (.pointer (some ⟨g, 0, none⟩)) rfl (some 40) (by kernel_rfl) (by kernel_rfl) (fun _ hw => by kernel_rfl) hO5 ?_
  try simp only [p0, p1, p2, p3]
  refine wd_ld (.pointer (some ⟨g, a, none⟩)) rfl (some 41) (by kernel_rfl) (by kernel_rfl) (fun _ hw => p_idx0 Tryd.underlying96 (by kernel_rfl) a (by omega) rfl (by kernel_rfl) (by kernel_rfl) _) hO5 ?_
  try simp only [p0, p1, p2, p3]
  refine wd_ld (.int .u32 (F1 a)) rfl (some 42) (by kernel_rfl) (by kernel_rfl) (fun _ hw => run_cell (own_cell hw (.tail _ (.head _)) a (by omega)) (by kernel_rfl) rfl (by kernel_rfl)) hO5 ?_
  try simp only [p0, p1, p2, p3]
  refine wd_ld (.int .u32 (ix .u32 (F1 d) (F1 a))) rfl (some 43) (by kernel_rfl) (by kernel_rfl) (fun _ hw => by kernel_rfl) hO5 ?_
  try simp only [p0, p1, p2, p3]
  refine wd_ld (.pointer (some ⟨g1, 0, none⟩)) rfl (some 44) (by kernel_rfl) (by kernel_rfl) (fun _ hw => by kernel_rfl) hO5 ?_
  try simp only [p0, p1, p2, p3]
  refine wd_ld (.int .i64 16) rfl (some 45) (by kernel_rfl) (by kernel_rfl) (fun _ hw => run_cell (own_cell hw (.head _) 0 (by decide)) (by kernel_rfl) rfl (by kernel_rfl)) hO5 ?_
  try simp only [p0, p1, p2, p3]
  refine wd_p (.pointer (some ⟨g, 0, none⟩)) rfl (some 47) (by kernel_rfl) (by kernel_rfl) (fun _ => by kernel_rfl) hO5 ?_
  try simp only [p0, p1, p2, p3]
  refine wd_runs rfl (some 46) (by kernel_rfl) rfl (r_call (args := #[.int .u32 (ix .u32 (F1 d) (F1 a)), .int .i64 16]) (u := .int .u32 (rot (ix .u32 (F1 d) (F1 a)) 16)) (by kernel_rfl) (rot_any (ix .u32 (F1 d) (F1 a)) 16 16 (by kernel_rfl) (by decide) _) hO5) (fun _ _ h => h) fun _ w6 hO6 => ?_
  clear hO5
  try simp only [List.nil_append, List.cons_append] at hO6
  try simp only [p0, p1, p2, p3]
  refine wd_ld (.pointer (some ⟨g, d, none⟩)) rfl (some 48) (by kernel_rfl) (by kernel_rfl) (fun _ hw => p_idx0 Tryd.underlying96 (by kernel_rfl) d (by omega) rfl (by kernel_rfl) (by kernel_rfl) _) hO6 ?_
  try simp only [p0, p1, p2, p3]
  refine wd_runx rfl none (by kernel_rfl) rfl (r_st (L1 := [(g1, 121, (aF .i64 2 (lit2 16 12)))]) (L2 := (L)) (f := F1) (n := 16) d (rot (ix .u32 (F1 d) (F1 a)) 16) (by omega) rfl (by kernel_rfl) (by kernel_rfl) hO6 (by kernel_rfl)) fun _ w7 hO7 => ?_
  clear hO6
  try simp only [List.nil_append, List.cons_append] at hO7
  try simp only [p0, p1, p2, p3]
  refine wd_nil ?_
  obtain ⟨F2, eF2⟩ : ∃ x : Nat → Int, x = (upd F1 d (rot (ix .u32 (F1 d) (F1 a)) 16)) := ⟨_, rfl⟩
  rw [← eF2] at hO7
  show Code.wp _ _ _ _ _
  refine wp_seq ?_
  refine wd_region [13] (Tr.ofList [(0, 1), (1, 1), (2, 1), (3, 1), (4, 1), (5, 1), (6, 1), (7, 1), (8, 1), (9, 1), (10, 1), (11, 0), (12, 1), (13, 4)] .nil) (by decide) (by kernel_rfl) (by kernel_rfl) hO7 fun w8 hO8 => ?_
  simp only [Tr.ofList]
  try clear hO7
  refine wd_ld (.pointer (some ⟨g, 0, none⟩)) rfl (some 49) (by kernel_rfl) (by kernel_rfl) (fun _ hw => by kernel_rfl) hO8 ?_
  try simp only [p0, p1, p2, p3]
  refine wd_ld (.int .i64 ((c : Nat) : Int)) rfl (some 50) (by kernel_rfl) (by kernel_rfl) (fun _ hw => by kernel_rfl) hO8 ?_
  try simp only [p0, p1, p2, p3]
  refine wd_ld (.pointer (some ⟨g, 0, none⟩)) rfl (some 51) (by kernel_rfl) (by kernel_rfl) (fun _ hw => by kernel_rfl) hO8 ?_
  try simp only [p0, p1, p2, p3]
  refine wd_ld (.pointer (some ⟨g, c, none⟩)) rfl (some 52) (by kernel_rfl) (by kernel_rfl) (fun _ hw => p_idx0 Tryd.underlying96 (by kernel_rfl) c (by omega) rfl (by kernel_rfl) (by kernel_rfl) _) hO8 ?_
  try simp only [p0, p1, p2, p3]
  refine wd_ld (.int .u32 (F2 c)) rfl (some 53) (by kernel_rfl) (by kernel_rfl) (fun _ hw => run_cell (own_cell hw (.tail _ (.head _)) c (by omega)) (by kernel_rfl) rfl (by kernel_rfl)) hO8 ?_
  try simp only [p0, p1, p2, p3]
  refine wd_ld (.pointer (some ⟨g, 0, none⟩)) rfl (some 54) (by kernel_rfl) (by kernel_rfl) (fun _ hw => by kernel_rfl) hO8 ?_
  try simp only [p0, p1, p2, p3]
  refine wd_ld (.int .i64 ((d : Nat) : Int)) rfl (some 55) (by kernel_rfl) (by kernel_rfl) (fun _ hw => by kernel_rfl) hO8 ?_
  try simp only [p0, p1, p2, p3]
  refine wd_ld (.pointer (some ⟨g, 0, none⟩)) rfl (some 56) (by kernel_rfl) (by kernel_rfl) (fun _ hw => by kernel_rfl) hO8 ?_
  try simp only [p0, p1, p2, p3]
  refine wd_ld (.pointer (some ⟨g, d, none⟩)) rfl (some 57) (by kernel_rfl) (by kernel_rfl) (fun _ hw => p_idx0 Tryd.underlying96 (by kernel_rfl) d (by omega) rfl (by kernel_rfl) (by kernel_rfl) _) hO8 ?_
  try simp only [p0, p1, p2, p3]
  refine wd_ld (.int .u32 (F2 d)) rfl (some 58) (by kernel_rfl) (by kernel_rfl) (fun _ hw => run_cell (own_cell hw (.tail _ (.head _)) d (by omega)) (by kernel_rfl) rfl (by kernel_rfl)) hO8 ?_
  try simp only [p0, p1, p2, p3]
  refine wd_ld (.int .u32 (ia .u32 (F2 c) (F2 d))) rfl (some 59) (by kernel_rfl) (by kernel_rfl) (fun _ hw => by kernel_rfl) hO8 ?_
  try simp only [p0, p1, p2, p3]
  refine wd_p (.pointer (some ⟨g, 0, none⟩)) rfl (some 60) (by kernel_rfl) (by kernel_rfl) (fun _ => by kernel_rfl) hO8 ?_
  try simp only [p0, p1, p2, p3]
  refine wd_ld (.pointer (some ⟨g, c, none⟩)) rfl (some 61) (by kernel_rfl) (by kernel_rfl) (fun _ hw => p_idx0 Tryd.underlying96 (by kernel_rfl) c (by omega) rfl (by kernel_rfl) (by kernel_rfl) _) hO8 ?_
  try simp only [p0, p1, p2, p3]
  refine wd_runx rfl none (by kernel_rfl) rfl (r_st (L1 := [(g1, 121, (aF .i64 2 (lit2 16 12)))]) (L2 := (L)) (f := F2) (n := 16) c (ia .u32 (F2 c) (F2 d)) (by omega) rfl (by kernel_rfl) (by kernel_rfl) hO8 (by kernel_rfl)) fun _ w9 hO9 => ?_
  clear hO8
  try simp only [List.nil_append, List.cons_append] at hO9
  try simp only [p0, p1, p2, p3]
  refine wd_nil ?_
  obtain ⟨F3, eF3⟩ : ∃ x : Nat → Int, x = (upd F2 c (ia .u32 (F2 c) (F2 d))) := ⟨_, rfl⟩
  rw [← eF3] at hO9
  show Code.wp _ _ _ _ _
  refine wd_region [18] (Tr.ofList [(0, 1), (1, 1), (2, 1), (3, 1), (4, 1), (5, 1), (6, 1), (7, 1), (8, 1), (9, 1), (10, 1), (11, 1), (12, 1), (13, 1), (14, 1), (16, 0), (15, 3), (17, 1), (18, 4)] .nil) (by decide) (by kernel_rfl) (by kernel_rfl) hO9 fun w10 hO10 => ?_
  simp only [Tr.ofList]
  try clear hO9
  refine wd_ld (.pointer (some ⟨g, 0, none⟩)) rfl (some 62) (by kernel_rfl) (by kernel_rfl) (fun _ hw => by kernel_rfl) hO10 ?_
  try simp only [p0, p1, p2, p3]
  refine wd_ld (.int .i64 ((b : Nat) : Int)) rfl (some 63) (by kernel_rfl) (by kernel_rfl) (fun _ hw => by kernel_rfl) hO10 ?_
  try simp only [p0, p1, p2, p3]
  refine wd_ld (.pointer (some ⟨g, 0, none⟩)) rfl (some 64) (by kernel_rfl) (by kernel_rfl) (fun _ hw => by kernel_rfl) hO10 ?_
  try simp only [p0, p1, p2, p3]
  refine wd_ld (.int .i64 ((b : Nat) : Int)) rfl (some 65) (by kernel_rfl) (by kernel_rfl) (fun _ hw => by kernel_rfl) hO10 ?_
  try simp only [p0, p1, p2, p3]
  refine wd_ld (.pointer (some ⟨g, 0, none⟩)) rfl (some 66) (by kernel_rfl) (by kernel_rfl) (fun _ hw => by kernel_rfl) hO10 ?_
  try simp only [p0, p1, p2, p3]
  refine wd_ld (.pointer (some ⟨g, b, none⟩)) rfl (some 67) (by kernel_rfl) (by kernel_rfl) (fun _ hw => p_idx0 Tryd.underlying96 (by kernel_rfl) b (by omega) rfl (by kernel_rfl) (by kernel_rfl) _) hO10 ?_
  try simp only [p0, p1, p2, p3]
  refine wd_ld (.int .u32 (F3 b)) rfl (some 68) (by kernel_rfl) (by kernel_rfl) (fun _ hw => run_cell (own_cell hw (.tail _ (.head _)) b (by omega)) (by kernel_rfl) rfl (by kernel_rfl)) hO10 ?_
  try simp only [p0, p1, p2, p3]
  refine wd_ld (.pointer (some ⟨g, 0, none⟩)) rfl (some 69) (by kernel_rfl) (by kernel_rfl) (fun _ hw => by kernel_rfl) hO10 ?_
  try simp only [p0, p1, p2, p3]
  refine wd_ld (.int .i64 ((c : Nat) : Int)) rfl (some 70) (by kernel_rfl) (by kernel_rfl) (fun _ hw => by kernel_rfl) hO10 ?_
  try simp only [p0, p1, p2, p3]
  refine wd_ld (.pointer (some ⟨g, 0, none⟩)) rfl (some 71) (by kernel_rfl) (by kernel_rfl) (fun _ hw => by kernel_rfl) hO10 ?_
  try simp only [p0, p1, p2, p3]
  refine wd_ld (.pointer (some ⟨g, c, none⟩)) rfl (some 72) (by kernel_rfl) (by kernel_rfl) (fun _ hw => p_idx0 Tryd.underlying96 (by kernel_rfl) c (by omega) rfl (by kernel_rfl) (by kernel_rfl) _) hO10 ?_
  try simp only [p0, p1, p2, p3]
  refine wd_ld (.int .u32 (F3 c)) rfl (some 73) (by kernel_rfl) (by kernel_rfl) (fun _ hw => run_cell (own_cell hw (.tail _ (.head _)) c (by omega)) (by kernel_rfl) rfl (by kernel_rfl)) hO10 ?_
  try simp only [p0, p1, p2, p3]
  refine wd_ld (.int .u32 (ix .u32 (F3 b) (F3 c))) rfl (some 74) (by kernel_rfl) (by kernel_rfl) (fun _ hw => by kernel_rfl) hO10 ?_
  try simp only [p0, p1, p2, p3]
  refine wd_ld (.pointer (some ⟨g1, 1, none⟩)) rfl (some 75) (by kernel_rfl) (by kernel_rfl) (fun _ hw => by kernel_rfl) hO10 ?_
  try simp only [p0, p1, p2, p3]
  refine wd_ld (.int .i64 12) rfl (some 76) (by kernel_rfl) (by kernel_rfl) (fun _ hw => run_cell (own_cell hw (.head _) 1 (by decide)) (by kernel_rfl) rfl (by kernel_rfl)) hO10 ?_
  try simp only [p0, p1, p2, p3]
  refine wd_p (.pointer (some ⟨g, 0, none⟩)) rfl (some 78) (by kernel_rfl) (by kernel_rfl) (fun _ => by kernel_rfl) hO10 ?_
  try simp only [p0, p1, p2, p3]
  refine wd_runs rfl (some 77) (by kernel_rfl) rfl (r_call (args := #[.int .u32 (ix .u32 (F3 b) (F3 c)), .int .i64 12]) (u := .int .u32 (rot (ix .u32 (F3 b) (F3 c)) 12)) (by kernel_rfl) (rot_any (ix .u32 (F3 b) (F3 c)) 12 12 (by kernel_rfl) (by decide) _) hO10) (fun _ _ h => h) fun _ w11 hO11 => ?_
  clear hO10
  try simp only [List.nil_append, List.cons_append] at hO11
  try simp only [p0, p1, p2, p3]
  refine wd_ld (.pointer (some ⟨g, b, none⟩)) rfl (some 79) (by kernel_rfl) (by kernel_rfl) (fun _ hw => p_idx0 Tryd.underlying96 (by kernel_rfl) b (by omega) rfl (by kernel_rfl) (by kernel_rfl) _) hO11 ?_
  try simp only [p0, p1, p2, p3]
  refine wd_runx rfl none (by kernel_rfl) rfl (r_st (L1 := [(g1, 121, (aF .i64 2 (lit2 16 12)))]) (L2 := (L)) (f := F3) (n := 16) b (rot (ix .u32 (F3 b) (F3 c)) 12) (by omega) rfl (by kernel_rfl) (by kernel_rfl) hO11 (by kernel_rfl)) fun _ w12 hO12 => ?_
  clear hO11
  try simp only [List.nil_append, List.cons_append] at hO12
  try simp only [p0, p1, p2, p3]
  refine wd_nil ?_
  obtain ⟨F4, eF4⟩ : ∃ x : Nat → Int, x = (upd F3 b (rot (ix .u32 (F3 b) (F3 c)) 12)) := ⟨_, rfl⟩
  rw [← eF4] at hO12
  show Code.wp _ _ _ _ _
  refine wl_region ?_
  refine wl_pure (.int .i64 1) rfl (by kernel_rfl) ?_
  try simp only [p0, p1, p2, p3]
  refine wl_pure (.int .i64 1) rfl (by kernel_rfl) ?_
  try simp only [p0, p1, p2, p3]
  refine wl_nil ?_
  show Code.rounds _ _ _ _ _ _
  rw [rounds_succ]
  refine wp_seq ?_
  refine wl_region ?_
  refine wl_pure (.bool true) rfl (by kernel_rfl) ?_
  try simp only [p0, p1, p2, p3]
  refine wl_nil ?_
  show Code.wp _ _ _ _ _
  refine wp_seq ?_
  refine wp_cond_true rfl ?_
  refine wp_skip ?_
  show Code.wp _ _ _ _ _
  refine wp_seq ?_
  refine wp_block ?_
  refine wp_seq ?_
  refine wl_region ?_
  refine wl_pure (.agg (aF .i64 2 (lit2 8 7))) rfl (by kernel_rfl) ?_
  try simp only [p0, p1, p2, p3]
  refine wl_runs rfl (r_new 121 (aF .i64 2 zF) (by kernel_rfl) hO12) fun g13 w13 hO13 => ?_
  clear hO12
  try simp only [List.nil_append, List.cons_append] at hO13
  try simp only [p0, p1, p2, p3]
  refine wl_runs rfl (r_row (L1 := []) (L2 := ((g1, 121, (aF .i64 2 (lit2 16 12))) :: (g, t, (aF .u32 16 F4)) :: L)) (cs := (aF .i64 2 zF)) (aF .i64 2 (lit2 8 7)) rfl (by kernel_rfl) (by kernel_rfl) hO13 (by simp only [size_aF]) (by kernel_rfl) (one_aF _ _ _)) fun _ w14 hO14 => ?_
  clear hO13
  try simp only [List.nil_append, List.cons_append] at hO14
  try simp only [p0, p1, p2, p3]
  refine wl_nil ?_
  show Code.wp _ _ _ _ _
  refine wp_seq ?_
  refine wd_region [13] (Tr.ofList [(0, 1), (1, 1), (2, 1), (3, 1), (4, 1), (5, 1), (6, 1), (7, 1), (8, 1), (9, 1), (10, 1), (11, 0), (12, 1), (13, 4)] .nil) (by decide) (by kernel_rfl) (by kernel_rfl) hO14 fun w15 hO15 => ?_
  simp only [Tr.ofList]
  try clear hO14
  refine wd_ld (.pointer (some ⟨g, 0, none⟩)) rfl (some 18) (by kernel_rfl) (by kernel_rfl) (fun _ hw => by kernel_rfl) hO15 ?_
  try simp only [p0, p1, p2, p3]
  refine wd_ld (.int .i64 ((a : Nat) : Int)) rfl (some 19) (by kernel_rfl) (by kernel_rfl) (fun _ hw => by kernel_rfl) hO15 ?_
  try simp only [p0, p1, p2, p3]
  refine wd_ld (.pointer (some ⟨g, 0, none⟩)) rfl (some 20) (by kernel_rfl) (by kernel_rfl) (fun _ hw => by kernel_rfl) hO15 ?_
  try simp only [p0, p1, p2, p3]
  refine wd_ld (.pointer (some ⟨g, a, none⟩)) rfl (some 21) (by kernel_rfl) (by kernel_rfl) (fun _ hw => p_idx0 Tryd.underlying96 (by kernel_rfl) a (by omega) rfl (by kernel_rfl) (by kernel_rfl) _) hO15 ?_
  try simp only [p0, p1, p2, p3]
  refine wd_ld (.int .u32 (F4 a)) rfl (some 22) (by kernel_rfl) (by kernel_rfl) (fun _ hw => run_cell (own_cell hw (.tail _ (.tail _ (.head _))) a (by omega)) (by kernel_rfl) rfl (by kernel_rfl)) hO15 ?_
  try simp only [p0, p1, p2, p3]
  refine wd_ld (.pointer (some ⟨g, 0, none⟩)) rfl (some 23) (by kernel_rfl) (by kernel_rfl) (fun _ hw => by kernel_rfl) hO15 ?_
  try simp only [p0, p1, p2, p3]
  refine wd_ld (.int .i64 ((b : Nat) : Int)) rfl (some 24) (by kernel_rfl) (by kernel_rfl) (fun _ hw => by kernel_rfl) hO15 ?_
  try simp only [p0, p1, p2, p3]
  refine wd_ld (.pointer (some ⟨g, 0, none⟩)) rfl (some 25) (by kernel_rfl) (by kernel_rfl) (fun _ hw => by kernel_rfl) hO15 ?_
  try simp only [p0, p1, p2, p3]
  refine wd_ld (.pointer (some ⟨g, b, none⟩)) rfl (some 26) (by kernel_rfl) (by kernel_rfl) (fun _ hw => p_idx0 Tryd.underlying96 (by kernel_rfl) b (by omega) rfl (by kernel_rfl) (by kernel_rfl) _) hO15 ?_
  try simp only [p0, p1, p2, p3]
  refine wd_ld (.int .u32 (F4 b)) rfl (some 27) (by kernel_rfl) (by kernel_rfl) (fun _ hw => run_cell (own_cell hw (.tail _ (.tail _ (.head _))) b (by omega)) (by kernel_rfl) rfl (by kernel_rfl)) hO15 ?_
  try simp only [p0, p1, p2, p3]
  refine wd_ld (.int .u32 (ia .u32 (F4 a) (F4 b))) rfl (some 28) (by kernel_rfl) (by kernel_rfl) (fun _ hw => by kernel_rfl) hO15 ?_
  try simp only [p0, p1, p2, p3]
  refine wd_p (.pointer (some ⟨g, 0, none⟩)) rfl (some 29) (by kernel_rfl) (by kernel_rfl) (fun _ => by kernel_rfl) hO15 ?_
  try simp only [p0, p1, p2, p3]
  refine wd_ld (.pointer (some ⟨g, a, none⟩)) rfl (some 30) (by kernel_rfl) (by kernel_rfl) (fun _ hw => p_idx0 Tryd.underlying96 (by kernel_rfl) a (by omega) rfl (by kernel_rfl) (by kernel_rfl) _) hO15 ?_
  try simp only [p0, p1, p2, p3]
  refine wd_runx rfl none (by kernel_rfl) rfl (r_st (L1 := [(g13, 121, (aF .i64 2 (lit2 8 7))), (g1, 121, (aF .i64 2 (lit2 16 12)))]) (L2 := (L)) (f := F4) (n := 16) a (ia .u32 (F4 a) (F4 b)) (by omega) rfl (by kernel_rfl) (by kernel_rfl) hO15 (by kernel_rfl)) fun _ w16 hO16 => ?_
  clear hO15
  try simp only [List.nil_append, List.cons_append] at hO16
  try simp only [p0, p1, p2, p3]
  refine wd_nil ?_
  obtain ⟨F5, eF5⟩ : ∃ x : Nat → Int, x = (upd F4 a (ia .u32 (F4 a) (F4 b))) := ⟨_, rfl⟩
  rw [← eF5] at hO16
  show Code.wp _ _ _ _ _
  refine wp_seq ?_
  refine wd_region [18] (Tr.ofList [(0, 1), (1, 1), (2, 1), (3, 1), (4, 1), (5, 1), (6, 1), (7, 1), (8, 1), (9, 1), (10, 1), (11, 1), (12, 1), (13, 1), (14, 1), (16, 0), (15, 3), (17, 1), (18, 4)] .nil) (by decide) (by kernel_rfl) (by kernel_rfl) hO16 fun w17 hO17 => ?_
  simp only [Tr.ofList]
  try clear hO16
  refine wd_ld (.pointer (some ⟨g, 0, none⟩)) rfl (some 31) (by kernel_rfl) (by kernel_rfl) (fun _ hw => by kernel_rfl) hO17 ?_
  try simp only [p0, p1, p2, p3]
  refine wd_ld (.int .i64 ((d : Nat) : Int)) rfl (some 32) (by kernel_rfl) (by kernel_rfl) (fun _ hw => by kernel_rfl) hO17 ?_
  try simp only [p0, p1, p2, p3]
  refine wd_ld (.pointer (some ⟨g, 0, none⟩)) rfl (some 33) (by kernel_rfl) (by kernel_rfl) (fun _ hw => by kernel_rfl) hO17 ?_
  try simp only [p0, p1, p2, p3]
  refine wd_ld (.int .i64 ((d : Nat) : Int)) rfl (some 34) (by kernel_rfl) (by kernel_rfl) (fun _ hw => by kernel_rfl) hO17 ?_
  try simp only [p0, p1, p2, p3]
  refine wd_ld (.pointer (some ⟨g, 0, none⟩)) rfl (some 35) (by kernel_rfl) (by kernel_rfl) (fun _ hw => by kernel_rfl) hO17 ?_
  try simp only [p0, p1, p2, p3]
  refine wd_ld (.pointer (some ⟨g, d, none⟩)) rfl (some 36) (by kernel_rfl) (by kernel_rfl) (fun _ hw => p_idx0 Tryd.underlying96 (by kernel_rfl) d (by omega) rfl (by kernel_rfl) (by kernel_rfl) _) hO17 ?_
  try simp only [p0, p1, p2, p3]
  refine wd_ld (.int .u32 (F5 d)) rfl (some 37) (by kernel_rfl) (by kernel_rfl) (fun _ hw => run_cell (own_cell hw (.tail _ (.tail _ (.head _))) d (by omega)) (by kernel_rfl) rfl (by kernel_rfl)) hO17 ?_
  try simp only [p0, p1, p2, p3]
  refine wd_ld (.pointer (some ⟨g, 0, none⟩)) rfl (some 38) (by kernel_rfl) (by kernel_rfl) (fun _ hw => by kernel_rfl) hO17 ?_
  try simp only [p0, p1, p2, p3]
  refine wd_ld (.int .i64 ((a : Nat) : Int)) rfl (some 39) (by kernel_rfl) (by kernel_rfl) (fun _ hw => by kernel_rfl) hO17 ?_
  try simp only [p0, p1, p2, p3]
  refine wd_ld (.pointer (some ⟨g, 0, none⟩)) rfl (some 40) (by kernel_rfl) (by kernel_rfl) (fun _ hw => by kernel_rfl) hO17 ?_
  try simp only [p0, p1, p2, p3]
  refine wd_ld (.pointer (some ⟨g, a, none⟩)) rfl (some 41) (by kernel_rfl) (by kernel_rfl) (fun _ hw => p_idx0 Tryd.underlying96 (by kernel_rfl) a (by omega) rfl (by kernel_rfl) (by kernel_rfl) _) hO17 ?_
  try simp only [p0, p1, p2, p3]
  refine wd_ld (.int .u32 (F5 a)) rfl (some 42) (by kernel_rfl) (by kernel_rfl) (fun _ hw => run_cell (own_cell hw (.tail _ (.tail _ (.head _))) a (by omega)) (by kernel_rfl) rfl (by kernel_rfl)) hO17 ?_
  try simp only [p0, p1, p2, p3]
  refine wd_ld (.int .u32 (ix .u32 (F5 d) (F5 a))) rfl (some 43) (by kernel_rfl) (by kernel_rfl) (fun _ hw => by kernel_rfl) hO17 ?_
  try simp only [p0, p1, p2, p3]
  refine wd_ld (.pointer (some ⟨g13, 0, none⟩)) rfl (some 44) (by kernel_rfl) (by kernel_rfl) (fun _ hw => by kernel_rfl) hO17 ?_
  try simp only [p0, p1, p2, p3]
  refine wd_ld (.int .i64 8) rfl (some 45) (by kernel_rfl) (by kernel_rfl) (fun _ hw => run_cell (own_cell hw (.head _) 0 (by decide)) (by kernel_rfl) rfl (by kernel_rfl)) hO17 ?_
  try simp only [p0, p1, p2, p3]
  refine wd_p (.pointer (some ⟨g, 0, none⟩)) rfl (some 47) (by kernel_rfl) (by kernel_rfl) (fun _ => by kernel_rfl) hO17 ?_
  try simp only [p0, p1, p2, p3]
  refine wd_runs rfl (some 46) (by kernel_rfl) rfl (r_call (args := #[.int .u32 (ix .u32 (F5 d) (F5 a)), .int .i64 8]) (u := .int .u32 (rot (ix .u32 (F5 d) (F5 a)) 8)) (by kernel_rfl) (rot_any (ix .u32 (F5 d) (F5 a)) 8 8 (by kernel_rfl) (by decide) _) hO17) (fun _ _ h => h) fun _ w18 hO18 => ?_
  clear hO17
  try simp only [List.nil_append, List.cons_append] at hO18
  try simp only [p0, p1, p2, p3]
  refine wd_ld (.pointer (some ⟨g, d, none⟩)) rfl (some 48) (by kernel_rfl) (by kernel_rfl) (fun _ hw => p_idx0 Tryd.underlying96 (by kernel_rfl) d (by omega) rfl (by kernel_rfl) (by kernel_rfl) _) hO18 ?_
  try simp only [p0, p1, p2, p3]
  refine wd_runx rfl none (by kernel_rfl) rfl (r_st (L1 := [(g13, 121, (aF .i64 2 (lit2 8 7))), (g1, 121, (aF .i64 2 (lit2 16 12)))]) (L2 := (L)) (f := F5) (n := 16) d (rot (ix .u32 (F5 d) (F5 a)) 8) (by omega) rfl (by kernel_rfl) (by kernel_rfl) hO18 (by kernel_rfl)) fun _ w19 hO19 => ?_
  clear hO18
  try simp only [List.nil_append, List.cons_append] at hO19
  try simp only [p0, p1, p2, p3]
  refine wd_nil ?_
  obtain ⟨F6, eF6⟩ : ∃ x : Nat → Int, x = (upd F5 d (rot (ix .u32 (F5 d) (F5 a)) 8)) := ⟨_, rfl⟩
  rw [← eF6] at hO19
  show Code.wp _ _ _ _ _
  refine wp_seq ?_
  refine wd_region [13] (Tr.ofList [(0, 1), (1, 1), (2, 1), (3, 1), (4, 1), (5, 1), (6, 1), (7, 1), (8, 1), (9, 1), (10, 1), (11, 0), (12, 1), (13, 4)] .nil) (by decide) (by kernel_rfl) (by kernel_rfl) hO19 fun w20 hO20 => ?_
  simp only [Tr.ofList]
  try clear hO19
  refine wd_ld (.pointer (some ⟨g, 0, none⟩)) rfl (some 49) (by kernel_rfl) (by kernel_rfl) (fun _ hw => by kernel_rfl) hO20 ?_
  try simp only [p0, p1, p2, p3]
  refine wd_ld (.int .i64 ((c : Nat) : Int)) rfl (some 50) (by kernel_rfl) (by kernel_rfl) (fun _ hw => by kernel_rfl) hO20 ?_
  try simp only [p0, p1, p2, p3]
  refine wd_ld (.pointer (some ⟨g, 0, none⟩)) rfl (some 51) (by kernel_rfl) (by kernel_rfl) (fun _ hw => by kernel_rfl) hO20 ?_
  try simp only [p0, p1, p2, p3]
  refine wd_ld (.pointer (some ⟨g, c, none⟩)) rfl (some 52) (by kernel_rfl) (by kernel_rfl) (fun _ hw => p_idx0 Tryd.underlying96 (by kernel_rfl) c (by omega) rfl (by kernel_rfl) (by kernel_rfl) _) hO20 ?_
  try simp only [p0, p1, p2, p3]
  refine wd_ld (.int .u32 (F6 c)) rfl (some 53) (by kernel_rfl) (by kernel_rfl) (fun _ hw => run_cell (own_cell hw (.tail _ (.tail _ (.head _))) c (by omega)) (by kernel_rfl) rfl (by kernel_rfl)) hO20 ?_
  try simp only [p0, p1, p2, p3]
  refine wd_ld (.pointer (some ⟨g, 0, none⟩)) rfl (some 54) (by kernel_rfl) (by kernel_rfl) (fun _ hw => by kernel_rfl) hO20 ?_
  try simp only [p0, p1, p2, p3]
  refine wd_ld (.int .i64 ((d : Nat) : Int)) rfl (some 55) (by kernel_rfl) (by kernel_rfl) (fun _ hw => by kernel_rfl) hO20 ?_
  try simp only [p0, p1, p2, p3]
  refine wd_ld (.pointer (some ⟨g, 0, none⟩)) rfl (some 56) (by kernel_rfl) (by kernel_rfl) (fun _ hw => by kernel_rfl) hO20 ?_
  try simp only [p0, p1, p2, p3]
  refine wd_ld (.pointer (some ⟨g, d, none⟩)) rfl (some 57) (by kernel_rfl) (by kernel_rfl) (fun _ hw => p_idx0 Tryd.underlying96 (by kernel_rfl) d (by omega) rfl (by kernel_rfl) (by kernel_rfl) _) hO20 ?_
  try simp only [p0, p1, p2, p3]
  refine wd_ld (.int .u32 (F6 d)) rfl (some 58) (by kernel_rfl) (by kernel_rfl) (fun _ hw => run_cell (own_cell hw (.tail _ (.tail _ (.head _))) d (by omega)) (by kernel_rfl) rfl (by kernel_rfl)) hO20 ?_
  try simp only [p0, p1, p2, p3]
  refine wd_ld (.int .u32 (ia .u32 (F6 c) (F6 d))) rfl (some 59) (by kernel_rfl) (by kernel_rfl) (fun _ hw => by kernel_rfl) hO20 ?_
  try simp only [p0, p1, p2, p3]
  refine wd_p (.pointer (some ⟨g, 0, none⟩)) rfl (some 60) (by kernel_rfl) (by kernel_rfl) (fun _ => by kernel_rfl) hO20 ?_
  try simp only [p0, p1, p2, p3]
  refine wd_ld (.pointer (some ⟨g, c, none⟩)) rfl (some 61) (by kernel_rfl) (by kernel_rfl) (fun _ hw => p_idx0 Tryd.underlying96 (by kernel_rfl) c (by omega) rfl (by kernel_rfl) (by kernel_rfl) _) hO20 ?_
  try simp only [p0, p1, p2, p3]
  refine wd_runx rfl none (by kernel_rfl) rfl (r_st (L1 := [(g13, 121, (aF .i64 2 (lit2 8 7))), (g1, 121, (aF .i64 2 (lit2 16 12)))]) (L2 := (L)) (f := F6) (n := 16) c (ia .u32 (F6 c) (F6 d)) (by omega) rfl (by kernel_rfl) (by kernel_rfl) hO20 (by kernel_rfl)) fun _ w21 hO21 => ?_
  clear hO20
  try simp only [List.nil_append, List.cons_append] at hO21
  try simp only [p0, p1, p2, p3]
  refine wd_nil ?_
  obtain ⟨F7, eF7⟩ : ∃ x : Nat → Int, x = (upd F6 c (ia .u32 (F6 c) (F6 d))) := ⟨_, rfl⟩
  rw [← eF7] at hO21
  show Code.wp _ _ _ _ _
  refine wd_region [18] (Tr.ofList [(0, 1), (1, 1), (2, 1), (3, 1), (4, 1), (5, 1), (6, 1), (7, 1), (8, 1), (9, 1), (10, 1), (11, 1), (12, 1), (13, 1), (14, 1), (16, 0), (15, 3), (17, 1), (18, 4)] .nil) (by decide) (by kernel_rfl) (by kernel_rfl) hO21 fun w22 hO22 => ?_
  simp only [Tr.ofList]
  try clear hO21
  refine wd_ld (.pointer (some ⟨g, 0, none⟩)) rfl (some 62) (by kernel_rfl) (by kernel_rfl) (fun _ hw => by kernel_rfl) hO22 ?_
  try simp only [p0, p1, p2, p3]
  refine wd_ld (.int .i64 ((b : Nat) : Int)) rfl (some 63) (by kernel_rfl) (by kernel_rfl) (fun _ hw => by kernel_rfl) hO22 ?_
  try simp only [p0, p1, p2, p3]
  refine wd_ld (.pointer (some ⟨g, 0, none⟩)) rfl (some 64) (by kernel_rfl) (by kernel_rfl) (fun _ hw => by kernel_rfl) hO22 ?_
  try simp only [p0, p1, p2, p3]
  refine wd_ld (.int .i64 ((b : Nat) : Int)) rfl (some 65) (by kernel_rfl) (by kernel_rfl) (fun _ hw => by kernel_rfl) hO22 ?_
  try simp only [p0, p1, p2, p3]
  refine wd_ld (.pointer (some ⟨g, 0, none⟩)) rfl (some 66) (by kernel_rfl) (by kernel_rfl) (fun _ hw => by kernel_rfl) hO22 ?_
  try simp only [p0, p1, p2, p3]
  refine wd_ld (.pointer (some ⟨g, b, none⟩)) rfl (some 67) (by kernel_rfl) (by kernel_rfl) (fun _ hw => p_idx0 Tryd.underlying96 (by kernel_rfl) b (by omega) rfl (by kernel_rfl) (by kernel_rfl) _) hO22 ?_
  try simp only [p0, p1, p2, p3]
  refine wd_ld (.int .u32 (F7 b)) rfl (some 68) (by kernel_rfl) (by kernel_rfl) (fun _ hw => run_cell (own_cell hw (.tail _ (.tail _ (.head _))) b (by omega)) (by kernel_rfl) rfl (by kernel_rfl)) hO22 ?_
  try simp only [p0, p1, p2, p3]
  refine wd_ld (.pointer (some ⟨g, 0, none⟩)) rfl (some 69) (by kernel_rfl) (by kernel_rfl) (fun _ hw => by kernel_rfl) hO22 ?_
  try simp only [p0, p1, p2, p3]
  refine wd_ld (.int .i64 ((c : Nat) : Int)) rfl (some 70) (by kernel_rfl) (by kernel_rfl) (fun _ hw => by kernel_rfl) hO22 ?_
  try simp only [p0, p1, p2, p3]
  refine wd_ld (.pointer (some ⟨g, 0, none⟩)) rfl (some 71) (by kernel_rfl) (by kernel_rfl) (fun _ hw => by kernel_rfl) hO22 ?_
  try simp only [p0, p1, p2, p3]
  refine wd_ld (.pointer (some ⟨g, c, none⟩)) rfl (some 72) (by kernel_rfl) (by kernel_rfl) (fun _ hw => p_idx0 Tryd.underlying96 (by kernel_rfl) c (by omega) rfl (by kernel_rfl) (by kernel_rfl) _) hO22 ?_
  try simp only [p0, p1, p2, p3]
  refine wd_ld (.int .u32 (F7 c)) rfl (some 73) (by kernel_rfl) (by kernel_rfl) (fun _ hw => run_cell (own_cell hw (.tail _ (.tail _ (.head _))) c (by omega)) (by kernel_rfl) rfl (by kernel_rfl)) hO22 ?_
  try simp only [p0, p1, p2, p3]
  refine wd_ld (.int .u32 (ix .u32 (F7 b) (F7 c))) rfl (some 74) (by kernel_rfl) (by kernel_rfl) (fun _ hw => by kernel_rfl) hO22 ?_
  try simp only [p0, p1, p2, p3]
  refine wd_ld (.pointer (some ⟨g13, 1, none⟩)) rfl (some 75) (by kernel_rfl) (by kernel_rfl) (fun _ hw => by kernel_rfl) hO22 ?_
  try simp only [p0, p1, p2, p3]
  refine wd_ld (.int .i64 7) rfl (some 76) (by kernel_rfl) (by kernel_rfl) (fun _ hw => run_cell (own_cell hw (.head _) 1 (by decide)) (by kernel_rfl) rfl (by kernel_rfl)) hO22 ?_
  try simp only [p0, p1, p2, p3]
  refine wd_p (.pointer (some ⟨g, 0, none⟩)) rfl (some 78) (by kernel_rfl) (by kernel_rfl) (fun _ => by kernel_rfl) hO22 ?_
  try simp only [p0, p1, p2, p3]
  refine wd_runs rfl (some 77) (by kernel_rfl) rfl (r_call (args := #[.int .u32 (ix .u32 (F7 b) (F7 c)), .int .i64 7]) (u := .int .u32 (rot (ix .u32 (F7 b) (F7 c)) 7)) (by kernel_rfl) (rot_any (ix .u32 (F7 b) (F7 c)) 7 7 (by kernel_rfl) (by decide) _) hO22) (fun _ _ h => h) fun _ w23 hO23 => ?_
  clear hO22
  try simp only [List.nil_append, List.cons_append] at hO23
  try simp only [p0, p1, p2, p3]
  refine wd_ld (.pointer (some ⟨g, b, none⟩)) rfl (some 79) (by kernel_rfl) (by kernel_rfl) (fun _ hw => p_idx0 Tryd.underlying96 (by kernel_rfl) b (by omega) rfl (by kernel_rfl) (by kernel_rfl) _) hO23 ?_
  try simp only [p0, p1, p2, p3]
  refine wd_runx rfl none (by kernel_rfl) rfl (r_st (L1 := [(g13, 121, (aF .i64 2 (lit2 8 7))), (g1, 121, (aF .i64 2 (lit2 16 12)))]) (L2 := (L)) (f := F7) (n := 16) b (rot (ix .u32 (F7 b) (F7 c)) 7) (by omega) rfl (by kernel_rfl) (by kernel_rfl) hO23 (by kernel_rfl)) fun _ w24 hO24 => ?_
  clear hO23
  try simp only [List.nil_append, List.cons_append] at hO24
  try simp only [p0, p1, p2, p3]
  refine wd_nil ?_
  obtain ⟨F8, eF8⟩ : ∃ x : Nat → Int, x = (upd F7 b (rot (ix .u32 (F7 b) (F7 c)) 7)) := ⟨_, rfl⟩
  rw [← eF8] at hO24
  show Code.wp _ _ _ _ _
  refine wl_region ?_
  refine wl_pure (.int .i64 2) rfl (by kernel_rfl) ?_
  try simp only [p0, p1, p2, p3]
  refine wl_pure (.int .i64 2) rfl (by kernel_rfl) ?_
  try simp only [p0, p1, p2, p3]
  refine wl_nil ?_
  show Code.rounds _ _ _ _ _ _
  rw [rounds_succ]
  refine wp_seq ?_
  refine wl_region ?_
  refine wl_pure (.bool false) rfl (by kernel_rfl) ?_
  try simp only [p0, p1, p2, p3]
  refine wl_nil ?_
  show Code.wp _ _ _ _ _
  refine wp_seq ?_
  refine wp_cond_false rfl ?_
  refine wp_exit ?_
  (try simp only [Exit.then, Exit.inBlock])
  refine ⟨rfl, .tuple #[], by kernel_rfl, (), rfl, ?_⟩
  have e : qrt a b c d f = F8 := by subst eF8 eF7 eF6 eF5 eF4 eF3 eF2 eF1; kernel_rfl
  rw [e]
  exact hO24.tail.tail
end Go.Proofs.YtkmgdpbmkbpkjaaDoor
