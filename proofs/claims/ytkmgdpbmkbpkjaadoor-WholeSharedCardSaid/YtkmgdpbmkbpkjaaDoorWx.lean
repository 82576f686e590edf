/-
  slices.Chunk over a text of two parts.
-/
import Derived.RangeFuncNested
import Derived.RangeFuncBound
import Derived.RangeFuncCalls
import Derived.RangeFuncLeaves
import Derived.Shelf.Abstract
import Derived.Shelf.RegionOpen
import Derived.WalkKit
import Derived.OwnWalkIn
import Derived.TacticsInMore
import Derived.LoopNIn
import Derived.LoopIn
import Derived.Test.YtkmgdpbmkbpkjaaDoorWv
set_option linter.unusedVariables false
set_option linter.unusedSimpArgs false
namespace Go.Proofs.YtkmgdpbmkbpkjaaDoor
open Go.RowKit Go.Shelf
attribute [local go_sem] Oper.semAt_some

/-- Two blocks lie as they lay. -/
def KeepTwo (B C : Nat) (W W' : World) : Prop := W'.heap[B]? = W.heap[B]? ∧ W'.heap[C]? = W.heap[C]?
theorem KeepTwo.cell {B C : Nat} {W W' : World} (h : KeepTwo B C W W') : W'.cell? ⟨B, 0, none⟩ = W.cell? ⟨B, 0, none⟩ ∧ W'.cell? ⟨C, 0, none⟩ = W.cell? ⟨C, 0, none⟩ :=
  ⟨by simp only [World.cell?, h.1], by simp only [World.cell?, h.2]⟩
def partV (g : Nat) (x : Fin 2) : Value := .slice (some ⟨g, 32 * x.val, none⟩) 32 32
set_option maxRecDepth 100000 in
set_option maxHeartbeats 2000000 in
theorem chunk1_in (n : Nat) (hn : 1 ≤ n) (l Bn Cn g c : Nat) (hc : 64 ≤ c) (J Jx : List (Fin 2) → World → Prop)
    (hY : ∀ pre x W, J pre W → pre.length < 2 → YieldAt Fence.wide (n - 1) Tryd.prog l #[partV g x] W fun e W' =>
      (e = .returned (.bool true) ∧ J (pre ++ [x]) W' ∧ KeepTwo Bn Cn W W') ∨ (e = .returned (.bool false) ∧ Jx (pre ++ [x]) W'))
    (hD : ∀ s W, J s W → J s W.drew) (W : World) (hB : W.cell? ⟨Bn, 0, none⟩ = some (.slice (some ⟨g, 0, none⟩) 64 c)) (hC : W.cell? ⟨Cn, 0, none⟩ = some (.int .i64 32)) (h0 : J [] W) :
    CallsIn Fence.wide n Tryd.prog 44 #[.func (.yield l) #[] #[], .pointer (some ⟨Bn, 0, none⟩), .pointer (some ⟨Cn, 0, none⟩)] W fun e W' => (∃ v, e = .returned v) ∧
      ((∃ ys, ys = [0, 1] ∧ J ys W') ∨ (∃ pre, pre <+: [0, 1] ∧ Jx pre W')) := by
  refine callsIn_of_wp Tryd.func44 rfl trivial ?_ rfl
  simp only [Tryd.ntmps44, List.size_toArray, List.length_cons, List.length_nil, Nat.reduceAdd, Nat.reduceSub, Array.replicate_succ, Array.replicate_zero, List.push_toArray, List.append_toArray, List.nil_append, List.cons_append]
  gi_wp2
  gi_loopw [4] (fun p wr => ((p = .int .i64 0 ∧ J [] wr) ∨ (p = .int .i64 32 ∧ J [0] wr) ∨ (p = .int .i64 64 ∧ J [0, 1] wr)) ∧ wr.cell? ⟨Bn, 0, none⟩ = some (.slice (some ⟨g, 0, none⟩) 64 c) ∧ wr.cell? ⟨Cn, 0, none⟩ = some (.int .i64 32))
    (fun p wr => 64 - (intOf p).toNat)
  case atStart =>
    exact ⟨.inl ⟨rfl, h0⟩, hB, hC⟩
  case round =>
    obtain ⟨⟨rfl, hJs⟩ | ⟨rfl, hJs⟩ | ⟨rfl, hJs⟩, hB1, hC1⟩ := hrel
    · gi_wp2
      refine wpIn_wide.2 ?_
      refine wd_start [] (Tr.ofList [(0, 1), (1, 1), (2, 1), (3, 1), (4, 1), (5, 1), (6, 1)] .nil) (by decide) (by kernel_rfl) (by kernel_rfl) ?_
      simp only [Tr.ofList]
      refine wd_ld (.int .i64 32) rfl (some 13) (by kernel_rfl) (by kernel_rfl) (fun _ hw => by subst hw; exact run_cell (show World.cell? wr.drew _ = _ from hC1) (by kernel_rfl) rfl (by kernel_rfl)) rfl ?_
      try simp only [p0, p1, p2, p3]
      refine wd_ld (.slice (some ⟨g, 0, none⟩) 64 c) rfl (some 14) (by kernel_rfl) (by kernel_rfl) (fun _ hw => by subst hw; exact run_cell (show World.cell? wr.drew _ = _ from hB1) (by kernel_rfl) rfl (by kernel_rfl)) rfl ?_
      try simp only [p0, p1, p2, p3]
      refine wd_ld (.int .i64 0) rfl (some 15) (by kernel_rfl) (by kernel_rfl) (fun _ hw => by kernel_rfl) rfl ?_
      try simp only [p0, p1, p2, p3]
      refine wd_ld (.slice (mv (some ⟨g, 0, none⟩) 0 c) 64 (c - 0)) rfl (some 16) (by kernel_rfl) (by kernel_rfl) (fun _ hw => s_cut (p := (some ⟨g, 0, none⟩)) (n := 64) (c := c) Tryd.underlying23 (by kernel_rfl) (some (.int .i64 0)) none 0 64 (.inl rfl) (.inr ⟨rfl, rfl⟩) (by omega) (by kernel_rfl)) rfl ?_
      try simp only [p0, p1, p2, p3]
      refine wd_ld (.int .i64 64) rfl (some 17) (by kernel_rfl) (by kernel_rfl) (fun _ hw => by kernel_rfl) rfl ?_
      try simp only [p0, p1, p2, p3]
      refine wd_ld (.int .i64 32) rfl (some 18) (by kernel_rfl) (by kernel_rfl) (fun _ hw => by kernel_rfl) rfl ?_
      try simp only [p0, p1, p2, p3]
      refine wd_ld (.int .i64 32) rfl (some 5) (by kernel_rfl) (by kernel_rfl) (fun _ hw => by kernel_rfl) rfl ?_
      try simp only [p0, p1, p2, p3]
      refine wd_nil ?_
      have hJ1 := hD _ _ hJs
      have hB2 : World.cell? wr.drew ⟨Bn, 0, none⟩ = some (.slice (some ⟨g, 0, none⟩) 64 c) := hB1
      have hC2 : World.cell? wr.drew ⟨Cn, 0, none⟩ = some (.int .i64 32) := hC1
      generalize wr.drew = wd at hJ1 hB2 hC2 ⊢
      obtain ⟨fn, tmps, assign, body, hy, hR⟩ := hY [] 0 wd hJ1 (by decide)
      have hy' : (Instr.yield l #[.slice (some ⟨g, 0, none⟩) 32 32]).run Tryd.prog wd = .ok (.round l fn tmps assign body) wd := hy
      clear hy
      gi_wp2
      refine hR.mono ?_
      rintro e W3 (⟨rfl, hJ3, hk3⟩ | ⟨rfl, hJx3⟩)
      · have hB3 := hk3.cell.1.trans hB2
        have hC3 := hk3.cell.2.trans hC2
        gi_wp2
        go_roundw
        case rel => exact ⟨.inr (.inl ⟨rfl, hJ3⟩), hB3, hC3⟩
        case measure => simp [intOf]
      · gi_wp2
        refine bodyPost_ret (results_none rfl _ _ _) rfl ?_
        exact ⟨⟨_, rfl⟩, .inr ⟨_, ⟨[1], rfl⟩, hJx3⟩⟩
    · gi_wp2
      refine wpIn_wide.2 ?_
      refine wd_start [] (Tr.ofList [(0, 1), (1, 1), (2, 1), (3, 1), (4, 1), (5, 1), (6, 1)] .nil) (by decide) (by kernel_rfl) (by kernel_rfl) ?_
      simp only [Tr.ofList]
      refine wd_ld (.int .i64 32) rfl (some 13) (by kernel_rfl) (by kernel_rfl) (fun _ hw => by subst hw; exact run_cell (show World.cell? wr.drew _ = _ from hC1) (by kernel_rfl) rfl (by kernel_rfl)) rfl ?_
      try simp only [p0, p1, p2, p3]
      refine wd_ld (.slice (some ⟨g, 0, none⟩) 64 c) rfl (some 14) (by kernel_rfl) (by kernel_rfl) (fun _ hw => by subst hw; exact run_cell (show World.cell? wr.drew _ = _ from hB1) (by kernel_rfl) rfl (by kernel_rfl)) rfl ?_
      try simp only [p0, p1, p2, p3]
      refine wd_ld (.int .i64 32) rfl (some 15) (by kernel_rfl) (by kernel_rfl) (fun _ hw => by kernel_rfl) rfl ?_
      try simp only [p0, p1, p2, p3]
      refine wd_ld (.slice (mv (some ⟨g, 0, none⟩) 32 c) 32 (c - 32)) rfl (some 16) (by kernel_rfl) (by kernel_rfl) (fun _ hw => s_cut (p := (some ⟨g, 0, none⟩)) (n := 64) (c := c) Tryd.underlying23 (by kernel_rfl) (some (.int .i64 32)) none 32 64 (.inl rfl) (.inr ⟨rfl, rfl⟩) (by omega) (by kernel_rfl)) rfl ?_
      try simp only [p0, p1, p2, p3]
      refine wd_ld (.int .i64 32) rfl (some 17) (by kernel_rfl) (by kernel_rfl) (fun _ hw => by kernel_rfl) rfl ?_
      try simp only [p0, p1, p2, p3]
      refine wd_ld (.int .i64 32) rfl (some 18) (by kernel_rfl) (by kernel_rfl) (fun _ hw => by kernel_rfl) rfl ?_
      try simp only [p0, p1, p2, p3]
      refine wd_ld (.int .i64 32) rfl (some 5) (by kernel_rfl) (by kernel_rfl) (fun _ hw => by kernel_rfl) rfl ?_
      try simp only [p0, p1, p2, p3]
      refine wd_nil ?_
      have hJ1 := hD _ _ hJs
      have hB2 : World.cell? wr.drew ⟨Bn, 0, none⟩ = some (.slice (some ⟨g, 0, none⟩) 64 c) := hB1
      have hC2 : World.cell? wr.drew ⟨Cn, 0, none⟩ = some (.int .i64 32) := hC1
      generalize wr.drew = wd at hJ1 hB2 hC2 ⊢
      obtain ⟨fn, tmps, assign, body, hy, hR⟩ := hY [0] 1 wd hJ1 (by decide)
      have hy' : (Instr.yield l #[.slice (some ⟨g, 32, none⟩) 32 32]).run Tryd.prog wd = .ok (.round l fn tmps assign body) wd := hy
      clear hy
      gi_wp2
      refine hR.mono ?_
      rintro e W3 (⟨rfl, hJ3, hk3⟩ | ⟨rfl, hJx3⟩)
      · have hB3 := hk3.cell.1.trans hB2
        have hC3 := hk3.cell.2.trans hC2
        gi_wp2
        go_roundw
        case rel => exact ⟨.inr (.inr ⟨rfl, hJ3⟩), hB3, hC3⟩
        case measure => simp [intOf]
      · gi_wp2
        refine bodyPost_ret (results_none rfl _ _ _) rfl ?_
        exact ⟨⟨_, rfl⟩, .inr ⟨_, List.prefix_rfl, hJx3⟩⟩
    · gi_wp2
      go_end0
      exact ⟨⟨_, rfl⟩, .inl ⟨_, rfl, hJs⟩⟩
/-- slices.Chunk: what it hands back. -/
theorem chunk_any {g c : Nat} {w : World} : Ans Tryd.prog 25 #[.slice (some ⟨g, 0, none⟩) 64 c, .int .i64 32] w (fun v : Value => v) fun v w' => ∃ B C, v = .func (.func 44) #[] #[.pointer (some ⟨B, 0, none⟩), .pointer (some ⟨C, 0, none⟩)] ∧
    Own w [(C, 3, #[.int .i64 32]), (B, 23, #[.slice (some ⟨g, 0, none⟩) 64 c])] w' := by
  unfold Ans
  refine calls_of_wp Tryd.func25 rfl ?_
  simp only [Tryd.ntmps25, List.size_toArray, List.length_cons, List.length_nil, Nat.reduceAdd, Nat.reduceSub, Array.replicate_succ, Array.replicate_zero, List.push_toArray, List.append_toArray, List.nil_append, List.cons_append]
  have hO := Own.nil w
  refine wp_seq ?_
  refine wl_region ?_
  refine wl_runs rfl (r_new 23 #[.slice (some ⟨g, 0, none⟩) 64 c] (by kernel_rfl) hO) fun g1 w1 hO1 => ?_
  clear hO
  try simp only [List.nil_append, List.cons_append] at hO1
  try simp only [p0, p1, p2, p3]
  refine wl_runs rfl (r_new 3 #[.int .i64 32] (by kernel_rfl) hO1) fun g2 w2 hO2 => ?_
  clear hO1
  try simp only [List.nil_append, List.cons_append] at hO2
  try simp only [p0, p1, p2, p3]
  refine wl_pure (.nilFunc) rfl (by kernel_rfl) ?_
  try simp only [p0, p1, p2, p3]
  refine wl_nil ?_
  show Code.wp _ _ _ _ _
  refine wp_seq ?_
  refine wp_seq ?_
  refine wl_region ?_
  refine wl_pure (.int .i64 32) rfl (run_cell (((hO2.get (.head _)).cell 0).trans rfl) (by kernel_rfl) rfl (by kernel_rfl)) ?_
  try simp only [p0, p1, p2, p3]
  refine wl_pure (.bool false) rfl (by kernel_rfl) ?_
  try simp only [p0, p1, p2, p3]
  refine wl_nil ?_
  show Code.wp _ _ _ _ _
  refine wp_cond_false rfl ?_
  refine wp_skip ?_
  show Code.wp _ _ _ _ _
  refine wp_seq ?_
  refine wl_region ?_
  refine wl_pure (.func (.func 44) #[] #[.pointer (some ⟨g1, 0, none⟩), .pointer (some ⟨g2, 0, none⟩)]) rfl (by kernel_rfl) ?_
  try simp only [p0, p1, p2, p3]
  refine wl_pure (.func (.func 44) #[] #[.pointer (some ⟨g1, 0, none⟩), .pointer (some ⟨g2, 0, none⟩)]) rfl (by kernel_rfl) ?_
  try simp only [p0, p1, p2, p3]
  refine wl_nil ?_
  show Code.wp _ _ _ _ _
  refine wp_ret ?_
  refine bodyPost_ret (results_tmp rfl _ _ _) rfl ?_
  exact ⟨_, rfl, g1, g2, rfl, hO2⟩
theorem chunk_stops (n : Nat) (hn : 1 ≤ n) (Bn Cn g c : Nat) (hc : 64 ≤ c) (w : World) (hB : w.cell? ⟨Bn, 0, none⟩ = some (.slice (some ⟨g, 0, none⟩) 64 c)) (hC : w.cell? ⟨Cn, 0, none⟩ = some (.int .i64 32)) :
    SeqStopsK Fence.wide n Tryd.prog 44 #[.pointer (some ⟨Bn, 0, none⟩), .pointer (some ⟨Cn, 0, none⟩)] (fun x : Fin 2 => #[partV g x]) (KeepTwo Bn Cn) (fun ys => ys = [0, 1]) (fun pre => pre <+: [0, 1]) 2 w := fun l J Jx W hW hJ _ hY h0 =>
  chunk1_in n hn l Bn Cn g c hc J Jx hY (fun s W h => hJ s W W.drew none h ⟨rfl, rfl, rfl, Nat.le_refl _, fun _ _ _ => rfl⟩ (fun _ e => by cases e)) W ((hW.cell (World.block_lt_of_cell? w _ hB)).trans hB) ((hW.cell (World.block_lt_of_cell? w _ hC)).trans hC) h0
end Go.Proofs.YtkmgdpbmkbpkjaaDoor
