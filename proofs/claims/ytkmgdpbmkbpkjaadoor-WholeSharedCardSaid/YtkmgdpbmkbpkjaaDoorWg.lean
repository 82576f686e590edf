/-
  A word that is turned; four bytes as a word; a slice's turns.
-/
import Derived.Test.YtkmgdpbmkbpkjaaDoorWf
import Derived.LoopTactic
set_option linter.unusedVariables false
set_option linter.unusedSimpArgs false
namespace Go.Proofs.YtkmgdpbmkbpkjaaDoor
open Go.RowKit

/-- A word, turned to the left. -/
def rot (x : Int) (s : Nat) : Int := ior .u32 (ishl .u32 x s) (ishr x (32 - s))
theorem rot_any (x k : Int) (s : Nat) (hs : iand .u64 (cv .u64 k) 31 = ((s : Nat) : Int)) (h : s < 32) (w : World) : Ret Tryd.prog 74 #[.int .u32 x, .int .i64 k] w (.int .u32 (rot x s)) := by
  unfold Ret
  refine calls_of_wp Tryd.func74 rfl ?_
  simp only [Tryd.ntmps74, List.size_toArray, List.length_cons, List.length_nil, Nat.reduceAdd, Nat.reduceSub, Array.replicate_succ, Array.replicate_zero, List.push_toArray, List.append_toArray, List.nil_append, List.cons_append]
  have hO := Own.nil w
  refine wp_seq ?_
  refine wl_region ?_
  refine wl_pure (.int .u32 0) rfl (by kernel_rfl) ?_
  try simp only [p0, p1, p2, p3]
  refine wl_nil ?_
  show Code.wp _ _ _ _ _
  refine wp_seq ?_
  refine wl_region ?_
  refine wl_pure (.int .i64 k) rfl (by kernel_rfl) ?_
  try simp only [p0, p1, p2, p3]
  refine wl_pure (.int .u64 (cv .u64 k)) rfl (by kernel_rfl) ?_
  try simp only [p0, p1, p2, p3]
  refine wl_pure (.int .u64 ((s : Nat) : Int)) rfl (by rw [← hs]; kernel_rfl) ?_
  try simp only [p0, p1, p2, p3]
  refine wl_pure (.int .u64 ((s : Nat) : Int)) rfl (by kernel_rfl) ?_
  try simp only [p0, p1, p2, p3]
  refine wl_nil ?_
  show Code.wp _ _ _ _ _
  refine wp_seq ?_
  refine wl_region ?_
  refine wl_pure (.int .u32 x) rfl (by kernel_rfl) ?_
  try simp only [p0, p1, p2, p3]
  refine wl_pure (.int .u64 ((s : Nat) : Int)) rfl (by kernel_rfl) ?_
  try simp only [p0, p1, p2, p3]
  refine wl_pure (.int .u32 (ishl .u32 x s)) rfl (n_shl (k := .u32) (yk := .u64) x s (by simp only [IntKind.bits]; omega) rfl (by kernel_rfl) (by kernel_rfl) _) ?_
  try simp only [p0, p1, p2, p3]
  refine wl_pure (.int .u32 x) rfl (by kernel_rfl) ?_
  try simp only [p0, p1, p2, p3]
  refine wl_pure (.int .u64 ((s : Nat) : Int)) rfl (by kernel_rfl) ?_
  try simp only [p0, p1, p2, p3]
  refine wl_pure (.int .u64 ((32 - s : Nat) : Int)) rfl (n_sub (k := .u64) rfl 32 s (by omega) rfl (by kernel_rfl) (by kernel_rfl) _) ?_
  try simp only [p0, p1, p2, p3]
  refine wl_pure (.int .u32 (ishr x (32 - s))) rfl (n_shr (k := .u32) (yk := .u64) x (32 - s) (by simp only [IntKind.bits]; omega) rfl (by kernel_rfl) (by kernel_rfl) _) ?_
  try simp only [p0, p1, p2, p3]
  refine wl_pure (.int .u32 (ior .u32 (ishl .u32 x s) (ishr x (32 - s)))) rfl (by kernel_rfl) ?_
  try simp only [p0, p1, p2, p3]
  refine wl_pure (.int .u32 (ior .u32 (ishl .u32 x s) (ishr x (32 - s)))) rfl (by kernel_rfl) ?_
  try simp only [p0, p1, p2, p3]
  refine wl_nil ?_
  show Code.wp _ _ _ _ _
  refine wp_ret ?_
  refine bodyPost_ret (results_tmp rfl _ _ _) rfl ?_
  exact ⟨rfl, hO.bl⟩

/-- Words, bytes that can be read behind an address. -/
def RdC (w : World) (k : IntKind) (g o n : Nat) (f : Nat → Int) : Prop := ∀ j, j < n → w.cell? ⟨g, o + j, none⟩ = some (.int k (f j))
theorem RdC.below {w w' : World} {k : IntKind} {g o n : Nat} {f : Nat → Int} (h : RdC w k g o n f) (hb : Below w.heap.size w w') : RdC w' k g o n f := fun j hj =>
  (hb.cell (World.block_lt_of_cell? w _ (h j hj))).trans (h j hj)
theorem RdC.congr {w : World} {k : IntKind} {g o n : Nat} {f f' : Nat → Int} (h : RdC w k g o n f) (e : ∀ j, j < n → f j = f' j) : RdC w k g o n f' := fun j hj => by rw [h j hj, e j hj]
theorem RdC.zero {w : World} {k : IntKind} {g n : Nat} {f : Nat → Int} (h : RdC w k g 0 n f) (j : Nat) (hj : j < n) : w.cell? ⟨g, j, none⟩ = some (.int k (f j)) := by have := h j hj; rwa [Nat.zero_add] at this
theorem rdc_own {w w0 : World} {L : List (Nat × TypeId × Array Value)} {g : Nat} {t : TypeId} {k : IntKind} {n : Nat} {f : Nat → Int} (h : Own w0 L w) (hm : (g, t, aF k n f) ∈ L) (o m : Nat) (hom : o + m ≤ n) : RdC w k g o m (fun j => f (o + j)) := fun j hj =>
  own_cell h hm (o + j) (by omega)
theorem rdc_own1 {w w0 : World} {L : List (Nat × TypeId × Array Value)} {g : Nat} {t : TypeId} {k : IntKind} {n : Nat} {f : Nat → Int} (h : Own w0 L w) (hm : (g, t, aF k n f) ∈ L) (m : Nat) (hmn : m ≤ n) : RdC w k g 0 m f := fun j hj => by
  rw [Nat.zero_add]
  exact own_cell h hm j (by omega)
section
variable {P : Program} {o : Oper} {a : Act} {p q : Operand} {w w0 : World}
theorem s_idx {g off n c : Nat} {T E : TypeId} (hu : P.underlying T = some (.slice E)) (h5 : (P.info? E).map (·.size) = some 1) (i : Nat) (hi : i < n) (ho : o.op = .indexAddr T p q) (hp : a.eval p = .slice (some ⟨g, off, none⟩) n c) (hq : a.eval q = .int .i64 ((i : Nat) : Int)) (w : World) :
    (execOp a.eval o).run P w = .ok (.value (.pointer (some ⟨g, off + i, none⟩))) w := by
  have h1 : (0 : Int) ≤ i ∧ (i : Int) < n := by omega
  obtain ⟨x, hx, hs⟩ := Option.map_eq_some_iff.1 h5
  unfold execOp
  simp only [ho, hp, hq]
  simp [Sem.run_bind, Instr.indexAt, Instr.sureAddr, asIntOf, run_underlying hu, sizeOf, typeInfo, hx, hs, h1, hi, Addr.add]
theorem s_idx0 {g n c : Nat} {T E : TypeId} (hu : P.underlying T = some (.slice E)) (h5 : (P.info? E).map (·.size) = some 1) (i : Nat) (hi : i < n) (ho : o.op = .indexAddr T p q) (hp : a.eval p = .slice (some ⟨g, 0, none⟩) n c) (hq : a.eval q = .int .i64 ((i : Nat) : Int)) (w : World) :
    (execOp a.eval o).run P w = .ok (.value (.pointer (some ⟨g, i, none⟩))) w := by
  have := s_idx hu h5 i hi ho hp hq w
  rwa [Nat.zero_add] at this
end
/-- A word, turned by some amounts, all together. -/
def trn (x : Int) (s : Nat → Nat) : Nat → Int
  | 0 => 0
  | i + 1 => ix .u32 (trn x s i) (rot x (s i))
set_option maxRecDepth 100000 in
theorem turned_any (x : Int) {g n c : Nat} {f : Nat → Int} {s : Nat → Nat} {w : World} (hR : RdC w .i64 g 0 n f) (hn : n < 1000) (hs : ∀ i, i < n → iand .u64 (cv .u64 (ineg .i64 (f i))) 31 = ((s i : Nat) : Int) ∧ s i < 32) :
    Ret Tryd.prog 77 #[.int .u32 x, .slice (some ⟨g, 0, none⟩) n c] w (.int .u32 (trn x s n)) := by
  unfold Ret
  refine calls_of_wp Tryd.func77 rfl ?_
  simp only [Tryd.ntmps77, List.size_toArray, List.length_cons, List.length_nil, Nat.reduceAdd, Nat.reduceSub, Array.replicate_succ, Array.replicate_zero, List.push_toArray, List.append_toArray, List.nil_append, List.cons_append]
  have hO := Own.nil w
  refine wp_seq ?_
  refine wl_region ?_
  refine wl_pure (.int .u32 0) rfl (by kernel_rfl) ?_
  try simp only [p0, p1, p2, p3]
  refine wl_nil ?_
  show Code.wp _ _ _ _ _
  refine wp_seq ?_
  refine wl_region ?_
  refine wl_pure (.int .u32 0) rfl (by kernel_rfl) ?_
  try simp only [p0, p1, p2, p3]
  refine wl_nil ?_
  show Code.wp _ _ _ _ _
  refine wp_seq ?_
  refine wp_seq ?_
  refine wl_region ?_
  refine wl_pure (.slice (some ⟨g, 0, none⟩) n c) rfl (by kernel_rfl) ?_
  try simp only [p0, p1, p2, p3]
  refine wl_pure (.int .i64 ((n : Nat) : Int)) rfl (by kernel_rfl) ?_
  try simp only [p0, p1, p2, p3]
  refine wl_pure (.int .i64 0) rfl (by kernel_rfl) ?_
  try simp only [p0, p1, p2, p3]
  refine wl_nil ?_
  show Code.wp _ _ _ _ _
  go_wp2_with fail
  go_loopw [5, 10] (fun v1_5 v1_10 wr1 => ∃ (i : Nat), i ≤ n ∧ v1_5 = .int .u32 (trn x s i) ∧ v1_10 = .int .i64 ((i : Nat) : Int) ∧ Own w ([]) wr1) (fun v1_5 v1_10 wr1 => n - (intOf v1_10).toNat)
  case atStart => exact ⟨0, by omega, rfl, rfl, hO⟩
  case round =>
    try clear hO
    obtain ⟨i, hf1_0, rfl, rfl, hO1⟩ := hrel
    by_cases hm1 : i < n
    · have hm1' := hm1
      refine wp_seq ?_
      refine wl_region ?_
      refine wl_pure (.bool true) rfl (i_lss (k := .i64) ((i : Nat) : Int) ((n : Nat) : Int) true (decide_eq_true (by omega)) rfl (by kernel_rfl) (by kernel_rfl) _) ?_
      try simp only [p0, p1, p2, p3]
      refine wl_nil ?_
      show Code.wp _ _ _ _ _
      refine wp_seq ?_
      refine wp_cond_true rfl ?_
      refine wp_skip ?_
      show Code.wp _ _ _ _ _
      refine wp_seq ?_
      refine wp_block ?_
      refine wp_seq ?_
      refine wl_region ?_
      refine wl_pure (.pointer (some ⟨g, i, none⟩)) rfl (s_idx0 (n := n) (c := c) Tryd.underlying81 (by kernel_rfl) i (by omega) rfl (by kernel_rfl) (by kernel_rfl) _) ?_
      try simp only [p0, p1, p2, p3]
      refine wl_pure (.int .i64 (f i)) rfl (run_cell ((hR.below hO1.bl).zero i (by omega)) (by kernel_rfl) rfl (by kernel_rfl)) ?_
      try simp only [p0, p1, p2, p3]
      refine wl_pure (.int .i64 (f i)) rfl (by kernel_rfl) ?_
      try simp only [p0, p1, p2, p3]
      refine wl_nil ?_
      show Code.wp _ _ _ _ _
      refine wl_region ?_
      refine wl_pure (.int .u32 (trn x s i)) rfl (by kernel_rfl) ?_
      try simp only [p0, p1, p2, p3]
      refine wl_pure (.int .u32 x) rfl (by kernel_rfl) ?_
      try simp only [p0, p1, p2, p3]
      refine wl_pure (.int .i64 (f i)) rfl (by kernel_rfl) ?_
      try simp only [p0, p1, p2, p3]
      refine wl_pure (.int .i64 (ineg .i64 (f i))) rfl (by kernel_rfl) ?_
      try simp only [p0, p1, p2, p3]
      refine wl_runs rfl (r_call (args := #[.int .u32 x, .int .i64 (ineg .i64 (f i))]) (u := .int .u32 (rot x (s i))) (by kernel_rfl) (rot_any x (ineg .i64 (f i)) (s i) (hs i hm1).1 (hs i hm1).2 _) hO1) fun _ w2 hO2 => ?_
      clear hO1
      try simp only [List.nil_append, List.cons_append] at hO2
      try simp only [p0, p1, p2, p3]
      refine wl_pure (.int .u32 (ix .u32 (trn x s i) (rot x (s i)))) rfl (by kernel_rfl) ?_
      try simp only [p0, p1, p2, p3]
      refine wl_pure (.int .u32 (ix .u32 (trn x s i) (rot x (s i)))) rfl (by kernel_rfl) ?_
      try simp only [p0, p1, p2, p3]
      refine wl_nil ?_
      show Code.wp _ _ _ _ _
      refine wl_region ?_
      refine wl_pure (.int .i64 ((i + 1 : Nat) : Int)) rfl (n_add (k := .i64) rfl i 1 (by omega) rfl (by kernel_rfl) (by kernel_rfl) _) ?_
      try simp only [p0, p1, p2, p3]
      refine wl_pure (.int .i64 ((i + 1 : Nat) : Int)) rfl (by kernel_rfl) ?_
      try simp only [p0, p1, p2, p3]
      refine wl_nil ?_
      try simp only [Exit.then, Exit.inBlock]
      go_roundw
      case rel => exact ⟨i + 1, by omega, rfl, rfl, hO2⟩
      case measure => simp [intOf]; omega
    · have hm1' := hm1
      obtain rfl : n = i := by omega
      refine wp_seq ?_
      refine wl_region ?_
      refine wl_pure (.bool false) rfl (i_lss (k := .i64) ((n : Nat) : Int) ((n : Nat) : Int) false (decide_eq_false (by omega)) rfl (by kernel_rfl) (by kernel_rfl) _) ?_
      try simp only [p0, p1, p2, p3]
      refine wl_nil ?_
      show Code.wp _ _ _ _ _
      refine wp_seq ?_
      refine wp_cond_false rfl ?_
      refine wp_exit ?_
      simp only [Exit.then, Exit.inBlock, if_true]
      show Code.wp _ _ _ _ _
      refine wp_seq ?_
      refine wl_region ?_
      refine wl_pure (.int .u32 (trn x s n)) rfl (by kernel_rfl) ?_
      try simp only [p0, p1, p2, p3]
      refine wl_pure (.int .u32 (trn x s n)) rfl (by kernel_rfl) ?_
      try simp only [p0, p1, p2, p3]
      refine wl_nil ?_
      show Code.wp _ _ _ _ _
      refine wp_ret ?_
      refine bodyPost_ret (results_tmp rfl _ _ _) rfl ?_
      exact ⟨rfl, hO1.bl⟩
end Go.Proofs.YtkmgdpbmkbpkjaaDoor
