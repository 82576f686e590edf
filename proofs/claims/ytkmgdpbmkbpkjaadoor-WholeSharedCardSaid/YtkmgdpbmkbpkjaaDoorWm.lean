/-
  Texts that are compared: a text and itself.
-/
import Derived.Test.YtkmgdpbmkbpkjaaDoorWl
set_option linter.unusedVariables false
set_option linter.unusedSimpArgs false
namespace Go.Proofs.YtkmgdpbmkbpkjaaDoor
open Go.RowKit

theorem val_eq {P : Program} {o : Oper} {a : Act} {w : World} {k : IntKind} {x y : Int} (h : (execOp a.eval o).run P w = .ok (.value (.int k x)) w) (e : x = y) : (execOp a.eval o).run P w = .ok (.value (.int k y)) w := e ▸ h
theorem or_xor0 (y : Int) : ior .u8 0 (ix .u8 y y) = 0 := by
  have e : ix .u8 y y = 0 := by
    unfold ix bits
    show IntKind.u8.wrap (((BitVec.ofInt 8 y ^^^ BitVec.ofInt 8 y).toNat : Nat) : Int) = 0
    have : BitVec.ofInt 8 y ^^^ BitVec.ofInt 8 y = 0#8 := BitVec.xor_self
    rw [this]
    decide +kernel
  rw [e]
  decide +kernel
set_option maxRecDepth 100000 in
set_option maxHeartbeats 4000000 in
theorem equal_any {ga oa ca gb ob cb n : Nat} {f : Nat → Int} {w : World} (hA : RdC w .u8 ga oa n f) (hB : RdC w .u8 gb ob n f) (hn : n < 100000) :
    Ret Tryd.prog 29 #[.slice (some ⟨ga, oa, none⟩) n ca, .slice (some ⟨gb, ob, none⟩) n cb] w (.bool true) := by
  unfold Ret
  refine calls_of_wp Tryd.func29 rfl ?_
  simp only [Tryd.ntmps29, List.size_toArray, List.length_cons, List.length_nil, Nat.reduceAdd, Nat.reduceSub, Array.replicate_succ, Array.replicate_zero, List.push_toArray, List.append_toArray, List.nil_append, List.cons_append]
  have hO := Own.nil w
  refine wp_seq ?_
  refine wl_region ?_
  refine wl_pure (.bool false) rfl (by kernel_rfl) ?_
  try simp only [p0, p1, p2, p3]
  refine wl_nil ?_
  show Code.wp _ _ _ _ _
  refine wp_seq ?_
  refine wp_seq ?_
  refine wl_region ?_
  refine wl_pure (.slice (some ⟨ga, oa, none⟩) n ca) rfl (by kernel_rfl) ?_
  try simp only [p0, p1, p2, p3]
  refine wl_pure (.int .i64 ((n : Nat) : Int)) rfl (by kernel_rfl) ?_
  try simp only [p0, p1, p2, p3]
  refine wl_pure (.slice (some ⟨gb, ob, none⟩) n cb) rfl (by kernel_rfl) ?_
  try simp only [p0, p1, p2, p3]
  refine wl_pure (.int .i64 ((n : Nat) : Int)) rfl (by kernel_rfl) ?_
  try simp only [p0, p1, p2, p3]
  refine wl_pure (.bool false) rfl (i_neq (k := .i64) (n : Int) (n : Int) false (by simp) rfl (by kernel_rfl) (by kernel_rfl) _) ?_
  try simp only [p0, p1, p2, p3]
  refine wl_nil ?_
  show Code.wp _ _ _ _ _
  refine wp_cond_false rfl ?_
  refine wp_skip ?_
  show Code.wp _ _ _ _ _
  refine wp_seq ?_
  refine wl_region ?_
  refine wl_pure (.int .u8 0) rfl (by kernel_rfl) ?_
  try simp only [p0, p1, p2, p3]
  refine wl_nil ?_
  show Code.wp _ _ _ _ _
  refine wp_seq ?_
  refine wp_seq ?_
  refine wl_region ?_
  refine wl_pure (.slice (some ⟨ga, oa, none⟩) n ca) rfl (by kernel_rfl) ?_
  try simp only [p0, p1, p2, p3]
  refine wl_pure (.int .i64 ((n : Nat) : Int)) rfl (by kernel_rfl) ?_
  try simp only [p0, p1, p2, p3]
  refine wl_pure (.int .i64 0) rfl (by kernel_rfl) ?_
  try simp only [p0, p1, p2, p3]
  refine wl_nil ?_
  show Code.wp _ _ _ _ _
  go_wp2_with fail
  go_loopw [5, 15] (fun v1_5 v1_15 wr1 => ∃ (i : Nat), i ≤ n ∧ v1_5 = .int .u8 0 ∧ v1_15 = .int .i64 ((i : Nat) : Int) ∧ Own w ([]) wr1) (fun v1_5 v1_15 wr1 => n - (intOf v1_15).toNat)
  case atStart => exact ⟨0, by omega, rfl, rfl, hO⟩
  case round =>
    try clear hO
    obtain ⟨i, hf1_0, rfl, rfl, hO1⟩ := hrel
    by_cases hm1 : i < n
    · have hm1' := hm1
      refine wp_seq ?_
      refine wl_region ?_
      refine wl_pure (.bool true) rfl (i_lss (k := .i64) ((i : Nat) : Int) ((n : Nat) : Int) true (decide_eq_true (by omega)) rfl (by kernel_rfl) (by kernel_rfl) _) ?_
      try simp only [p0, p1, p2, p3]
      refine wl_nil ?_
      show Code.wp _ _ _ _ _
      refine wp_seq ?_
      refine wp_cond_true rfl ?_
      refine wp_skip ?_
      show Code.wp _ _ _ _ _
      refine wp_seq ?_
      refine wp_block ?_
      refine wp_seq ?_
      refine wl_region ?_
      refine wl_pure (.int .i64 ((i : Nat) : Int)) rfl (by kernel_rfl) ?_
      try simp only [p0, p1, p2, p3]
      refine wl_pure (.pointer (some ⟨ga, oa + i, none⟩)) rfl (s_idx (n := n) (c := ca) Tryd.underlying23 (by kernel_rfl) i (by omega) rfl (by kernel_rfl) (by kernel_rfl) _) ?_
      try simp only [p0, p1, p2, p3]
      refine wl_pure (.int .u8 (f i)) rfl (run_cell ((hA.below hO1.bl) i (by omega)) (by kernel_rfl) rfl (by kernel_rfl)) ?_
      try simp only [p0, p1, p2, p3]
      refine wl_pure (.int .i64 ((i : Nat) : Int)) rfl (by kernel_rfl) ?_
      try simp only [p0, p1, p2, p3]
      refine wl_pure (.int .u8 (f i)) rfl (by kernel_rfl) ?_
      try simp only [p0, p1, p2, p3]
      refine wl_nil ?_
      show Code.wp _ _ _ _ _
      refine wl_region ?_
      refine wl_pure (.int .u8 0) rfl (by kernel_rfl) ?_
      try simp only [p0, p1, p2, p3]
      refine wl_pure (.int .u8 (f i)) rfl (by kernel_rfl) ?_
      try simp only [p0, p1, p2, p3]
      refine wl_pure (.slice (some ⟨gb, ob, none⟩) n cb) rfl (by kernel_rfl) ?_
      try simp only [p0, p1, p2, p3]
      refine wl_pure (.int .i64 ((i : Nat) : Int)) rfl (by kernel_rfl) ?_
      try simp only [p0, p1, p2, p3]
      refine wl_pure (.pointer (some ⟨gb, ob + i, none⟩)) rfl (s_idx (n := n) (c := cb) Tryd.underlying23 (by kernel_rfl) i (by omega) rfl (by kernel_rfl) (by kernel_rfl) _) ?_
      try simp only [p0, p1, p2, p3]
      refine wl_pure (.int .u8 (f i)) rfl (run_cell ((hB.below hO1.bl) i (by omega)) (by kernel_rfl) rfl (by kernel_rfl)) ?_
      try simp only [p0, p1, p2, p3]
      refine wl_pure (.int .u8 (ix .u8 (f i) (f i))) rfl (by kernel_rfl) ?_
      try simp only [p0, p1, p2, p3]
      refine wl_pure (.int .u8 0) rfl (val_eq (x := ior .u8 0 (ix .u8 (f i) (f i))) (by kernel_rfl) (or_xor0 _)) ?_
      try simp only [p0, p1, p2, p3]
      refine wl_pure (.int .u8 0) rfl (by kernel_rfl) ?_
      try simp only [p0, p1, p2, p3]
      refine wl_nil ?_
      show Code.wp _ _ _ _ _
      refine wl_region ?_
      refine wl_pure (.int .i64 ((i + 1 : Nat) : Int)) rfl (n_add (k := .i64) rfl i 1 (by omega) rfl (by kernel_rfl) (by kernel_rfl) _) ?_
      try simp only [p0, p1, p2, p3]
      refine wl_pure (.int .i64 ((i + 1 : Nat) : Int)) rfl (by kernel_rfl) ?_
      try simp only [p0, p1, p2, p3]
      refine wl_nil ?_
      try simp only [Exit.then, Exit.inBlock]
      go_roundw
      case rel => exact ⟨i + 1, by omega, rfl, rfl, hO1⟩
      case measure => simp [intOf]; omega
    · have hm1' := hm1
      obtain rfl : n = i := by omega
      refine wp_seq ?_
      refine wl_region ?_
      refine wl_pure (.bool false) rfl (i_lss (k := .i64) ((n : Nat) : Int) ((n : Nat) : Int) false (decide_eq_false (by omega)) rfl (by kernel_rfl) (by kernel_rfl) _) ?_
      try simp only [p0, p1, p2, p3]
      refine wl_nil ?_
      show Code.wp _ _ _ _ _
      refine wp_seq ?_
      refine wp_cond_false rfl ?_
      refine wp_exit ?_
      simp only [Exit.then, Exit.inBlock, if_true]
      show Code.wp _ _ _ _ _
      refine wp_seq ?_
      refine wl_region ?_
      refine wl_pure (.int .u8 0) rfl (by kernel_rfl) ?_
      try simp only [p0, p1, p2, p3]
      refine wl_pure (.bool true) rfl (by kernel_rfl) ?_
      try simp only [p0, p1, p2, p3]
      refine wl_pure (.bool true) rfl (by kernel_rfl) ?_
      try simp only [p0, p1, p2, p3]
      refine wl_nil ?_
      show Code.wp _ _ _ _ _
      refine wp_ret ?_
      refine bodyPost_ret (results_tmp rfl _ _ _) rfl ?_
      exact ⟨rfl, hO1.bl⟩
end Go.Proofs.YtkmgdpbmkbpkjaaDoor
