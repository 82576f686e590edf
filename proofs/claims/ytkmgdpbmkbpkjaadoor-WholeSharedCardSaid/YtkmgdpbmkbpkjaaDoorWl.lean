/-
  Poly1305's numbers: words of 64 bits in their range; a sum.
-/
import Derived.Test.YtkmgdpbmkbpkjaaDoorWj
set_option linter.unusedVariables false
set_option linter.unusedSimpArgs false
namespace Go.Proofs.YtkmgdpbmkbpkjaaDoor
open Go.RowKit

/-- A word of 64 bits. -/
def R64 (x : Int) : Prop := 0 ≤ x ∧ x < 18446744073709551616
theorem R64.wrap (x : Int) : R64 (IntKind.u64.wrap x) := by
  simp only [R64, IntKind.wrap_u64]
  omega
theorem R64.ia (x y : Int) : R64 (ia .u64 x y) := .wrap _
theorem R64.im (x y : Int) : R64 (im .u64 x y) := .wrap _
theorem R64.imul (x y : Int) : R64 (imul .u64 x y) := .wrap _
theorem R64.ior (x y : Int) : R64 (ior .u64 x y) := .wrap _
theorem R64.iand (x y : Int) : R64 (iand .u64 x y) := .wrap _
theorem R64.iandn (x y : Int) : R64 (iandn .u64 x y) := .wrap _
theorem R64.ishl (x : Int) (n : Nat) : R64 (ishl .u64 x n) := .wrap _
theorem R64.ishr {x : Int} (h : R64 x) (n : Nat) : R64 (ishr x n) := by
  obtain ⟨h0, h1⟩ := h
  obtain ⟨m, rfl⟩ := Int.eq_ofNat_of_zero_le h0
  unfold Go.Proofs.YtkmgdpbmkbpkjaaDoor.ishr R64
  have hp : (0 : Int) ≤ 2 ^ n := Int.pow_nonneg (by decide)
  rw [Int.fdiv_eq_ediv_of_nonneg _ hp]
  refine ⟨Int.ediv_nonneg h0 hp, Int.lt_of_le_of_lt (Int.ediv_le_self _ h0) h1⟩
theorem R64.le8 (f : Nat → Int) (i : Nat) : R64 (le8 f (i + 1)) := .ior _ _
theorem R64.nat {x : Int} (h : R64 x) : ∃ m : Nat, x = (m : Int) ∧ m < 18446744073709551616 := by
  obtain ⟨m, rfl⟩ := Int.eq_ofNat_of_zero_le h.1
  exact ⟨m, rfl, by have := h.2; omega⟩
theorem add64_i (x y c : Int) (hx : R64 x) (hy : R64 y) (hc : 0 ≤ c ∧ c ≤ 1) (w : World) : (callFunc 70 #[.int .u64 x, .int .u64 y, .int .u64 c]).run Tryd.prog w =
      .ok (.value (.tuple #[.int .u64 ((x + y + c) % 18446744073709551616), .int .u64 ((x + y + c) / 18446744073709551616)])) w := by
  rw [run_callFunc_extern Tryd.func70 (by kernel_rfl) (by kernel_rfl) (by kernel_rfl) (e := add64Entry) (by kernel_rfl), run_add64 x y c hx.1 hy.1 hc.1 hc.2]
  rfl
/-- A sum's carries; its words. -/
def plsC (f g : Nat → Int) : Nat → Int
  | 0 => 0
  | i + 1 => (f i + g i + plsC f g i) / 18446744073709551616
def pls (f g : Nat → Int) : Nat → (Nat → Int)
  | 0 => f
  | i + 1 => upd (pls f g i) i ((f i + g i + plsC f g i) % 18446744073709551616)
theorem plsC_le {f g : Nat → Int} : ∀ i, (∀ j, j < i → R64 (f j) ∧ R64 (g j)) → 0 ≤ plsC f g i ∧ plsC f g i ≤ 1
  | 0, _ => ⟨by simp [plsC], by simp [plsC]⟩
  | i + 1, h => by
    have ih := plsC_le i fun j hj => h j (by omega)
    have := h i (by omega)
    unfold R64 at this
    simp only [plsC]
    omega
theorem pls_off {f g : Nat → Int} : ∀ i j, i ≤ j → pls f g i j = f j
  | 0, _, _ => rfl
  | i + 1, j, h => by rw [pls, upd_off _ _ (by omega), pls_off i j (by omega)]
theorem pls_R64 {f g : Nat → Int} : ∀ i j, (j < i ∨ R64 (f j)) → R64 (pls f g i j)
  | 0, j, h => by rcases h with h | h; omega; exact h
  | i + 1, j, h => by
    rw [pls]
    by_cases e : j = i
    · subst e; rw [upd_at]; unfold R64; omega
    · rw [upd_off _ _ e]
      exact pls_R64 i j (h.imp (fun h => by omega) id)
set_option maxRecDepth 100000 in
set_option maxHeartbeats 4000000 in
theorem plus_any {f g : Nat → Int} (hR : ∀ j, j < 3 → R64 (f j) ∧ R64 (g j)) (w : World) : Ret Tryd.prog 64 #[.agg (aF .u64 3 f), .agg (aF .u64 3 g)] w (.agg (aF .u64 3 (pls f g 3))) := by
  unfold Ret
  refine calls_of_wp Tryd.func64 rfl ?_
  simp only [Tryd.ntmps64, List.size_toArray, List.length_cons, List.length_nil, Nat.reduceAdd, Nat.reduceSub, Array.replicate_succ, Array.replicate_zero, List.push_toArray, List.append_toArray, List.nil_append, List.cons_append]
  have hO := Own.nil w
  refine wp_seq ?_
  refine wl_region ?_
  refine wl_runs rfl (r_new 104 (aF .u64 3 f) (by kernel_rfl) hO) fun g1 w1 hO1 => ?_
  clear hO
  try simp only [List.nil_append, List.cons_append] at hO1
  try simp only [p0, p1, p2, p3]
  refine wl_runs rfl (r_new 104 (aF .u64 3 g) (by kernel_rfl) hO1) fun g2 w2 hO2 => ?_
  clear hO1
  try simp only [List.nil_append, List.cons_append] at hO2
  try simp only [p0, p1, p2, p3]
  refine wl_runs rfl (r_new 104 (aF .u64 3 zF) (by kernel_rfl) hO2) fun g3 w3 hO3 => ?_
  clear hO2
  try simp only [List.nil_append, List.cons_append] at hO3
  try simp only [p0, p1, p2, p3]
  refine wl_nil ?_
  show Code.wp _ _ _ _ _
  refine wp_seq ?_
  refine wl_region ?_
  refine wl_pure (.int .u64 0) rfl (by kernel_rfl) ?_
  try simp only [p0, p1, p2, p3]
  refine wl_nil ?_
  show Code.wp _ _ _ _ _
  refine wp_seq ?_
  refine wp_seq ?_
  refine wl_region ?_
  refine wl_pure (.int .i64 0) rfl (by kernel_rfl) ?_
  try simp only [p0, p1, p2, p3]
  refine wl_nil ?_
  show Code.wp _ _ _ _ _
  go_wp2_with fail
  go_loopw [5, 7] (fun v4_5 v4_7 wr4 => ∃ (i : Nat), i ≤ 3 ∧ v4_5 = .int .u64 (plsC f g i) ∧ v4_7 = .int .i64 ((i : Nat) : Int) ∧ Own w ((g3, 104, (aF .u64 3 zF)) :: (g2, 104, (aF .u64 3 g)) :: (g1, 104, (aF .u64 3 (pls f g i))) :: []) wr4) (fun v4_5 v4_7 wr4 => 3 - (intOf v4_7).toNat)
  case atStart => exact ⟨0, by omega, rfl, rfl, hO3⟩
  case round =>
    try clear hO3
    obtain ⟨i, hf4_0, rfl, rfl, hO4⟩ := hrel
    by_cases hm4 : i < 3
    · have hm4' := hm4
      refine wp_seq ?_
      refine wl_region ?_
      refine wl_pure (.bool true) rfl (i_lss (k := .i64) ((i : Nat) : Int) 3 true (decide_eq_true (by omega)) rfl (by kernel_rfl) (by kernel_rfl) _) ?_
      try simp only [p0, p1, p2, p3]
      refine wl_nil ?_
      show Code.wp _ _ _ _ _
      refine wp_seq ?_
      refine wp_cond_true rfl ?_
      refine wp_skip ?_
      show Code.wp _ _ _ _ _
      refine wp_seq ?_
      refine wp_block ?_
      refine wp_seq ?_
      refine wl_region ?_
      refine wl_pure (.int .i64 ((i : Nat) : Int)) rfl (by kernel_rfl) ?_
      try simp only [p0, p1, p2, p3]
      refine wl_pure (.int .i64 ((i : Nat) : Int)) rfl (by kernel_rfl) ?_
      try simp only [p0, p1, p2, p3]
      refine wl_nil ?_
      show Code.wp _ _ _ _ _
      refine wd_region [13] (Tr.ofList [(0, 1), (1, 1), (2, 1), (3, 1), (4, 1), (5, 1), (6, 1), (7, 1), (8, 3), (9, 1), (10, 1), (11, 0), (12, 1), (13, 4), (14, 2)] .nil) (by decide) (by kernel_rfl) (by kernel_rfl) hO4 fun w5 hO5 => ?_
      simp only [Tr.ofList]
      try clear hO4
      refine wd_ld (.int .i64 ((i : Nat) : Int)) rfl (some 11) (by kernel_rfl) (by kernel_rfl) (fun _ hw => by kernel_rfl) hO5 ?_
      try simp only [p0, p1, p2, p3]
      refine wd_ld (.int .i64 ((i : Nat) : Int)) rfl (some 12) (by kernel_rfl) (by kernel_rfl) (fun _ hw => by kernel_rfl) hO5 ?_
      try simp only [p0, p1, p2, p3]
      refine wd_ld (.pointer (some ⟨g1, i, none⟩)) rfl (some 13) (by kernel_rfl) (by kernel_rfl) (fun _ hw => p_idx0 Tryd.underlying104 (by kernel_rfl) i (by omega) rfl (by kernel_rfl) (by kernel_rfl) _) hO5 ?_
      try simp only [p0, p1, p2, p3]
      refine wd_ld (.int .u64 (f i)) rfl (some 14) (by kernel_rfl) (by kernel_rfl) (fun _ hw => run_cell ((own_cell hw (.tail _ (.tail _ (.head _))) i (by omega)).trans (congrArg (fun z => some (Value.int .u64 z)) (pls_off i i (Nat.le_refl i)))) (by kernel_rfl) rfl (by kernel_rfl)) hO5 ?_
      try simp only [p0, p1, p2, p3]
      refine wd_ld (.int .i64 ((i : Nat) : Int)) rfl (some 15) (by kernel_rfl) (by kernel_rfl) (fun _ hw => by kernel_rfl) hO5 ?_
      try simp only [p0, p1, p2, p3]
      refine wd_ld (.pointer (some ⟨g2, i, none⟩)) rfl (some 16) (by kernel_rfl) (by kernel_rfl) (fun _ hw => p_idx0 Tryd.underlying104 (by kernel_rfl) i (by omega) rfl (by kernel_rfl) (by kernel_rfl) _) hO5 ?_
      try simp only [p0, p1, p2, p3]
      refine wd_ld (.int .u64 (g i)) rfl (some 17) (by kernel_rfl) (by kernel_rfl) (fun _ hw => run_cell (own_cell hw (.tail _ (.head _)) i (by omega)) (by kernel_rfl) rfl (by kernel_rfl)) hO5 ?_
      try simp only [p0, p1, p2, p3]
      refine wd_ld (.int .u64 (plsC f g i)) rfl (some 18) (by kernel_rfl) (by kernel_rfl) (fun _ hw => by kernel_rfl) hO5 ?_
      try simp only [p0, p1, p2, p3]
      have ea := add64_i (f i) (g i) (plsC f g i) (hR i (by omega)).1 (hR i (by omega)).2 (plsC_le i fun j hj => hR j (by omega)) w5
      refine wd_runs rfl (some 19) (by kernel_rfl) rfl (r_val (v := fun _ : Unit => .tuple #[.int .u64 ((f i + g i + plsC f g i) % 18446744073709551616), .int .u64 ((f i + g i + plsC f g i) / 18446744073709551616)]) () ((show _ = (callFunc 70 #[.int .u64 (f i), .int .u64 (g i), .int .u64 (plsC f g i)]).run Tryd.prog w5 by kernel_rfl).trans ea) hO5) (fun _ _ h => h) fun _ w6 hO6 => ?_
      clear hO5
      try simp only [List.nil_append, List.cons_append] at hO6
      try simp only [p0, p1, p2, p3]
      refine wd_ld (.tuple #[.int .u64 ((f i + g i + plsC f g i) % 18446744073709551616), .int .u64 ((f i + g i + plsC f g i) / 18446744073709551616)]) rfl (some 10) (by kernel_rfl) (by kernel_rfl) (fun _ hw => by kernel_rfl) hO6 ?_
      try simp only [p0, p1, p2, p3]
      refine wd_ld (.int .u64 ((f i + g i + plsC f g i) % 18446744073709551616)) rfl (some 20) (by kernel_rfl) (by kernel_rfl) (fun _ hw => by kernel_rfl) hO6 ?_
      try simp only [p0, p1, p2, p3]
      refine wd_p (.int .u64 ((f i + g i + plsC f g i) / 18446744073709551616)) rfl (some 21) (by kernel_rfl) (by kernel_rfl) (fun _ => by kernel_rfl) hO6 ?_
      try simp only [p0, p1, p2, p3]
      refine wd_ld (.pointer (some ⟨g1, i, none⟩)) rfl (some 22) (by kernel_rfl) (by kernel_rfl) (fun _ hw => p_idx0 Tryd.underlying104 (by kernel_rfl) i (by omega) rfl (by kernel_rfl) (by kernel_rfl) _) hO6 ?_
      try simp only [p0, p1, p2, p3]
      refine wd_runx rfl none (by kernel_rfl) rfl (r_st (L1 := [(g3, 104, (aF .u64 3 zF)), (g2, 104, (aF .u64 3 g))]) (L2 := ([])) (f := (pls f g i)) (n := 3) i ((f i + g i + plsC f g i) % 18446744073709551616) (by omega) rfl (by kernel_rfl) (by kernel_rfl) hO6 (by kernel_rfl)) fun _ w7 hO7 => ?_
      clear hO6
      try simp only [List.nil_append, List.cons_append] at hO7
      try simp only [p0, p1, p2, p3]
      refine wd_q (.int .u64 ((f i + g i + plsC f g i) / 18446744073709551616)) rfl (some 5) (by kernel_rfl) (by kernel_rfl) (fun _ => by kernel_rfl) ?_
      try simp only [p0, p1, p2, p3]
      refine wd_nil ?_
      show Code.wp _ _ _ _ _
      refine wl_region ?_
      refine wl_pure (.int .i64 ((i + 1 : Nat) : Int)) rfl (n_add (k := .i64) rfl i 1 (by omega) rfl (by kernel_rfl) (by kernel_rfl) _) ?_
      try simp only [p0, p1, p2, p3]
      refine wl_pure (.int .i64 ((i + 1 : Nat) : Int)) rfl (by kernel_rfl) ?_
      try simp only [p0, p1, p2, p3]
      refine wl_nil ?_
      try simp only [Exit.then, Exit.inBlock]
      go_roundw
      case rel => exact ⟨i + 1, by omega, rfl, rfl, hO7⟩
      case measure => simp [intOf]; omega
    · have hm4' := hm4
      obtain rfl : i = 3 := by omega
      refine wp_seq ?_
      refine wl_region ?_
      refine wl_pure (.bool false) rfl (by kernel_rfl) ?_
      try simp only [p0, p1, p2, p3]
      refine wl_nil ?_
      show Code.wp _ _ _ _ _
      refine wp_seq ?_
      refine wp_cond_false rfl ?_
      refine wp_exit ?_
      simp only [Exit.then, Exit.inBlock, if_true]
      show Code.wp _ _ _ _ _
      refine wp_seq ?_
      refine wl_region ?_
      refine wl_pure (.agg (aF .u64 3 (pls f g 3))) rfl (run_row (hO4.get (.tail _ (.tail _ (.head _)))) Tryd.underlying104 rfl (by kernel_rfl) rfl (by kernel_rfl)) ?_
      try simp only [p0, p1, p2, p3]
      refine wl_runs rfl (r_row (L1 := []) (L2 := ((g2, 104, (aF .u64 3 g)) :: (g1, 104, (aF .u64 3 (pls f g 3))) :: [])) (cs := (aF .u64 3 zF)) (aF .u64 3 (pls f g 3)) rfl (by kernel_rfl) (by kernel_rfl) hO4 (by simp only [size_aF]) (by kernel_rfl) (one_aF _ _ _)) fun _ w8 hO8 => ?_
      clear hO4
      try simp only [List.nil_append, List.cons_append] at hO8
      try simp only [p0, p1, p2, p3]
      refine wl_nil ?_
      show Code.wp _ _ _ _ _
      refine wp_ret ?_
      refine bodyPost_ret (results_cell_row rfl _ _ g3 104 (aF .u64 3 (pls f g 3)) (0, 0) _ rfl (hO8.get (.head _)) Tryd.underlying104 rfl (by kernel_rfl)) rfl ?_
      exact ⟨rfl, hO8.bl⟩
end Go.Proofs.YtkmgdpbmkbpkjaaDoor
