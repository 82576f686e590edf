/-
  ladder's Pub and Shared, walked.
-/
import Derived.Test.YtkmgdpbmkbpkjaaDoorLadX
set_option linter.unusedVariables false
set_option linter.unusedSimpArgs false
namespace Go.Proofs.YtkmgdpbmkbpkjaaDoor
open Go.RowKit

theorem XN_256 (k u : Nat) : N256 (Cv.XN k u) := N256.mod _
set_option maxRecDepth 100000 in
set_option maxHeartbeats 1000000 in
theorem pub_any {k : Nat} (hk : N256 k) (w : World) {tG : TypeId} (hG : Bk w 0 tG (c8 121665)) : Ret Tryd.prog 12 #[.agg (c8 k)] w (.agg (c8 (Cv.XN k 9))) := by
  refine calls_of_wp Tryd.func12 rfl ?_
  simp only [Tryd.ntmps12, List.size_toArray, List.length_cons, List.length_nil, Nat.reduceAdd, Nat.reduceSub, Array.replicate_succ, Array.replicate_zero, List.push_toArray, List.append_toArray, List.nil_append, List.cons_append]
  have hO := Own.nil w
  refine wp_seq ?_
  refine wl_region ?_
  refine wl_new 22 (c8 k) rfl (by kernel_rfl) hO fun w1 hO1 => ?_
  clear hO
  try simp only [p0, p1, p2, p3]
  refine wl_new 22 (c8 0) rfl (by kernel_rfl) hO1 fun w2 hO2 => ?_
  clear hO1
  try simp only [p0, p1, p2, p3]
  refine wl_nil ?_
  show Code.wp _ _ _ _ _
  refine wp_seq ?_
  refine wl_region ?_
  refine wl_load (c8 k) rfl 22 (.tmp 1) rfl w.heap.size rfl 22 _ (hO2.get (.tail _ (.head _))) Tryd.underlying22 rfl (inum_c8 _) ?_
  try simp only [p0, p1, p2, p3]
  refine wl_pure (.agg (c8 9)) rfl (by kernel_rfl) ?_
  try simp only [p0, p1, p2, p3]
  refine wl_call (.agg (c8 (Cv.XN k 9))) rfl (by kernel_rfl) (X_any hk (by unfold N256; omega) _ (hG.below hO2.bl hG.lt)) hO2 fun w3 hO3 => ?_
  clear hO2
  try simp only [p0, p1, p2, p3]
  refine wl_store (L1 := []) (L2 := ((w.heap.size, 22, (c8 k)) :: [])) (cs := (c8 0)) (c8 (Cv.XN k 9)) rfl 22 (.tmp 2) (.tmp 5) rfl rfl rfl hO3 (by simp only [size_c8]) (inum_c8 _) (one_c8 _) fun w4 hO4 => ?_
  clear hO3
  simp only [List.nil_append, List.cons_append, List.set_cons_zero, List.set_cons_succ] at hO4
  try simp only [p0, p1, p2, p3]
  refine wl_nil ?_
  show Code.wp _ _ _ _ _
  refine wp_ret ?_
  (try simp only [Exit.then, Exit.inBlock])
  refine bodyPost_ret (results_cell_row rfl _ _ w1.heap.size 22 (c8 (Cv.XN k 9)) (0, 0) _ rfl (hO4.get (.head _)) Tryd.underlying22 rfl (inum_c8 _)) rfl ?_
  exact ⟨rfl, hO4.bl⟩
theorem results_cell_tmp {P : Program} {fn : Func} {p q : Tmp} {ty : TypeId} (h : fn.results = #[.cell p ty, .tmp q]) (tmps : Array Value) (w : World) (g : Nat) (t : TypeId) (cs : Array Value) (v : Value) (d : TypeDesc)
    (hp' : tmps[p]?.getD undef = .pointer (some ⟨g, 0, none⟩)) (hq' : tmps[q]?.getD undef = v) (hg : Bk w g t cs) (hu : P.underlying ty = some d) (hd : d.isRow = true) (hi : (P.info? ty).map (·.size) = some cs.size) :
    (results fn tmps).run P w = .ok (.tuple #[.agg cs, v]) w := by
  have hr := run_loadVar_row w g t ty cs (0, 0) d hg hu (by cases d <;> simp_all [TypeDesc.isRow]) hi
  simp [results, h, hp', hq', asAddr, hr, Sem.run_bind, Result.andThen]
/-- All bytes below the i-th are 0. -/
def zeros (x i : Nat) : Prop := ∀ j, j < i → byteN x j = 0
theorem zeros_all {x : Nat} (hx : N256 x) : zeros x 32 ↔ x = 0 := by
  constructor
  · intro h
    exact c8_inj hx (by unfold N256; omega) fun j hj => by
      have := h j hj
      unfold byteN at this
      rw [this, Nat.zero_div, Nat.zero_mod]
  · rintro rfl j _
    unfold byteN
    rw [Nat.zero_div, Nat.zero_mod]
theorem or_zero {a b : Nat} : a ||| b = 0 ↔ a = 0 ∧ b = 0 := Nat.or_eq_zero_iff
theorem run_byte {cs : Array Value} {v : Value} {o : Oper} {a : Act} (i : Nat) (hi : cs[i]? = some v) (h32 : i < 32) {p q : Operand} (ho : o.op = .index 22 p q) (hp : a.eval p = .agg cs) (hq : a.eval q = .int .i64 ((i : Nat) : Int)) (hv : v.oneCell' = true) (w : World) :
    (execOp a.eval o).run Tryd.prog w = .ok (.value v) w := by
  unfold execOp
  simp only [ho, hp, hq]
  have hx : (Instr.index 22 (.agg cs) (.int .i64 ((i : Nat) : Int))).run Tryd.prog w = .ok v w := by
    have h1 : (0 : Int) ≤ i ∧ (i : Int) < 32 := by omega
    have hu := Tryd.underlying22
    have ha := isAgg_u8 w
    have h5 : (Tryd.prog.info? 5).map (·.size) = some 1 := by kernel_rfl
    obtain ⟨x, hx, hs⟩ := Option.map_eq_some_iff.1 h5
    unfold Instr.index
    simp [Sem.run_bind, asIntOf, run_underlying hu, h1, sizeOf, typeInfo, hx, hs, part, ha, hi, h32]
  rw [Sem.run_bind, hx]
  rfl
theorem zeros_step {x i A : Nat} (h : A = 0 ↔ zeros x i) : A ||| byteN x i = 0 ↔ zeros x (i + 1) := by
  rw [or_zero, h]
  constructor
  · rintro ⟨h1, h2⟩ j hj
    by_cases e : j = i
    · rw [e]; exact h2
    · exact h1 j (by omega)
  · exact fun h1 => ⟨fun j hj => h1 j (by omega), h1 i (by omega)⟩
theorem not_zero {x A : Nat} {B : Bool} (hx : N256 x) (h : A = 0 ↔ zeros x 32) (hB : decide (x ≠ 0) = B) : (!decide (A = 0)) = B := by
  rw [← hB, decide_not]
  congr 1
  rw [decide_eq_decide, h, zeros_all hx]

set_option maxRecDepth 100000 in
set_option maxHeartbeats 4000000 in
theorem shared_any {k u : Nat} (hk : N256 k) (hu : N256 u) {B : Bool} (hB : decide (Cv.XN k u ≠ 0) = B) (w : World) {tG : TypeId} (hG : Bk w 0 tG (c8 121665)) :
    Ret Tryd.prog 11 #[.agg (c8 k), .agg (c8 u)] w (.tuple #[.agg (c8 (Cv.XN k u)), .bool B]) := by
  unfold Ret
  refine calls_of_wp Tryd.func11 rfl ?_
  simp only [Tryd.ntmps11, List.size_toArray, List.length_cons, List.length_nil, Nat.reduceAdd, Nat.reduceSub, Array.replicate_succ, Array.replicate_zero, List.push_toArray, List.append_toArray, List.nil_append, List.cons_append]
  have hO := Own.nil w
  refine wp_seq ?_
  refine wl_region ?_
  refine wl_new 22 (c8 k) rfl (by kernel_rfl) hO fun w1 hO1 => ?_
  clear hO
  try simp only [p0, p1, p2, p3]
  refine wl_new 22 (c8 u) rfl (by kernel_rfl) hO1 fun w2 hO2 => ?_
  clear hO1
  try simp only [p0, p1, p2, p3]
  refine wl_new 22 (c8 0) rfl (by kernel_rfl) hO2 fun w3 hO3 => ?_
  clear hO2
  try simp only [p0, p1, p2, p3]
  refine wl_pure (.bool false) rfl (by kernel_rfl) ?_
  try simp only [p0, p1, p2, p3]
  refine wl_nil ?_
  show Code.wp _ _ _ _ _
  refine wp_seq ?_
  refine wl_region ?_
  refine wl_load (c8 k) rfl 22 (.tmp 2) rfl w.heap.size rfl 22 _ (hO3.get (.tail _ (.tail _ (.head _)))) Tryd.underlying22 rfl (inum_c8 _) ?_
  try simp only [p0, p1, p2, p3]
  refine wl_load (c8 u) rfl 22 (.tmp 3) rfl w1.heap.size rfl 22 _ (hO3.get (.tail _ (.head _))) Tryd.underlying22 rfl (inum_c8 _) ?_
  try simp only [p0, p1, p2, p3]
  refine wl_call (.agg (c8 (Cv.XN k u))) rfl (by kernel_rfl) (X_any hk hu _ (hG.below hO3.bl hG.lt)) hO3 fun w4 hO4 => ?_
  clear hO3
  try simp only [p0, p1, p2, p3]
  refine wl_new 22 (c8 0) rfl (by kernel_rfl) hO4 fun w5 hO5 => ?_
  clear hO4
  try simp only [p0, p1, p2, p3]
  refine wl_store (L1 := []) (L2 := ((w2.heap.size, 22, (c8 0)) :: (w1.heap.size, 22, (c8 u)) :: (w.heap.size, 22, (c8 k)) :: [])) (cs := (c8 0)) (c8 (Cv.XN k u)) rfl 22 (.tmp 6) (.tmp 12) rfl rfl rfl hO5 (by simp only [size_c8]) (inum_c8 _) (one_c8 _) fun w6 hO6 => ?_
  clear hO5
  simp only [List.nil_append, List.cons_append, List.set_cons_zero, List.set_cons_succ] at hO6
  try simp only [p0, p1, p2, p3]
  refine wl_nil ?_
  show Code.wp _ _ _ _ _
  refine wp_seq ?_
  refine wl_region ?_
  refine wl_pure (.int .u8 0) rfl (by kernel_rfl) ?_
  try simp only [p0, p1, p2, p3]
  refine wl_nil ?_
  show Code.wp _ _ _ _ _
  refine wp_seq ?_
  refine wp_seq ?_
  refine wl_region ?_
  refine wl_load (c8 (Cv.XN k u)) rfl 22 (.tmp 6) rfl w4.heap.size rfl 22 _ (hO6.get (.head _)) Tryd.underlying22 rfl (inum_c8 _) ?_
  try simp only [p0, p1, p2, p3]
  refine wl_pure (.int .i64 0) rfl (by kernel_rfl) ?_
  try simp only [p0, p1, p2, p3]
  refine wl_nil ?_
  show Code.wp _ _ _ _ _
  go_wp2_with fail
  go_loopw [7, 14] (fun av iv wr => ∃ (i A : Nat), i ≤ 32 ∧ A < 256 ∧ av = .int .u8 (A : Int) ∧ iv = .int .i64 (i : Int) ∧ (A = 0 ↔ zeros (Cv.XN k u) i) ∧ Own w [(w4.heap.size, 22, (c8 (Cv.XN k u))), (w2.heap.size, 22, (c8 0)), (w1.heap.size, 22, (c8 u)), (w.heap.size, 22, (c8 k))] wr) (fun _ iv _ => (32 - intOf iv).toNat)
  case atStart => exact ⟨0, 0, by omega, by omega, rfl, rfl, ⟨fun _ j hj => absurd hj (by omega), fun _ => rfl⟩, hO6⟩
  case round =>
    clear hO6
    obtain ⟨i, A, hi, hA, rfl, rfl, hz, hO⟩ := hrel
    by_cases hlt : i < 32
    · have hlt' : ((i : Int) < 32) = True := eq_true (by omega)
      have hlt'' : (i < 32) = True := eq_true hlt
      refine wp_seq ?_
      refine wl_region ?_
      refine wl_pure (.bool true) rfl ?cmp106 ?_
      case cmp106 => first | (go_simp; done) | (go_simp; rfl)
      try simp only [p0, p1, p2, p3]
      refine wl_nil ?_
      show Code.wp _ _ _ _ _
      refine wp_seq ?_
      refine wp_cond_true rfl ?_
      refine wp_skip ?_
      show Code.wp _ _ _ _ _
      refine wp_seq ?_
      refine wp_block ?_
      refine wp_seq ?_
      refine wl_region ?_
      refine wl_pure (.int .u8 ((byteN (Cv.XN k u) i : Nat) : Int)) rfl (run_byte i (get_byte _ i hlt) hlt rfl rfl rfl rfl _) ?_
      try simp only [p0, p1, p2, p3]
      refine wl_pure (.int .u8 ((byteN (Cv.XN k u) i : Nat) : Int)) rfl (by kernel_rfl) ?_
      try simp only [p0, p1, p2, p3]
      refine wl_nil ?_
      show Code.wp _ _ _ _ _
      refine wl_region ?_
      refine wl_pure (.int .u8 ((A : Nat) : Int)) rfl (by kernel_rfl) ?_
      try simp only [p0, p1, p2, p3]
      refine wl_pure (.int .u8 ((byteN (Cv.XN k u) i : Nat) : Int)) rfl (by kernel_rfl) ?_
      try simp only [p0, p1, p2, p3]
      refine wl_pure (.int .u8 ((A ||| (byteN (Cv.XN k u) i) : Nat) : Int)) rfl (u8run (run_or A (byteN (Cv.XN k u) i) hA (byteN_lt _ _) _) (fun _ => rfl) rfl rfl rfl _) ?_
      try simp only [p0, p1, p2, p3]
      refine wl_pure (.int .u8 ((A ||| (byteN (Cv.XN k u) i) : Nat) : Int)) rfl (by kernel_rfl) ?_
      try simp only [p0, p1, p2, p3]
      refine wl_nil ?_
      show Code.wp _ _ _ _ _
      go_wp2_with fail
      go_roundw
      case rel => exact ⟨i + 1, A ||| byteN (Cv.XN k u) i, by omega, Nat.or_lt_two_pow (n := 8) hA (byteN_lt _ _), rfl, by go_num, zeros_step hz, hO⟩
      case measure => simp [intOf]; omega
    · obtain rfl : i = 32 := by omega
      refine wp_seq ?_
      refine wl_region ?_
      refine wl_pure (.bool false) rfl ?cmp207 ?_
      case cmp207 => first | (go_simp; done) | (go_simp; rfl)
      try simp only [p0, p1, p2, p3]
      refine wl_nil ?_
      show Code.wp _ _ _ _ _
      refine wp_seq ?_
      refine wp_cond_false rfl ?_
      refine wp_exit ?_
      simp only [Exit.then, Exit.inBlock, if_true]
      show Code.wp _ _ _ _ _
      refine wp_seq ?_
      refine wl_region ?_
      refine wl_load (c8 (Cv.XN k u)) rfl 22 (.tmp 6) rfl w4.heap.size rfl 22 _ (hO.get (.head _)) Tryd.underlying22 rfl (inum_c8 _) ?_
      try simp only [p0, p1, p2, p3]
      refine wl_pure (.int .u8 ((A : Nat) : Int)) rfl (by kernel_rfl) ?_
      try simp only [p0, p1, p2, p3]
      refine wl_pure (.bool B) rfl (u8cmp (run_neq8 A 0 B (not_zero (XN_256 _ _) hz hB) _) (fun _ => rfl) rfl rfl rfl _) ?_
      try simp only [p0, p1, p2, p3]
      refine wl_store (L1 := [(w4.heap.size, 22, (c8 (Cv.XN k u)))]) (L2 := ((w1.heap.size, 22, (c8 u)) :: (w.heap.size, 22, (c8 k)) :: [])) (cs := (c8 0)) (c8 (Cv.XN k u)) rfl 22 (.tmp 4) (.tmp 21) rfl rfl rfl hO (by simp only [size_c8]) (inum_c8 _) (one_c8 _) fun w209 hO209 => ?_
      clear hO
      simp only [List.nil_append, List.cons_append, List.set_cons_zero, List.set_cons_succ] at hO209
      try simp only [p0, p1, p2, p3]
      refine wl_pure (.bool B) rfl (by kernel_rfl) ?_
      try simp only [p0, p1, p2, p3]
      refine wl_nil ?_
      show Code.wp _ _ _ _ _
      refine wp_ret ?_
      refine bodyPost_ret (results_cell_tmp rfl _ _ w2.heap.size 22 (c8 (Cv.XN k u)) (.bool B) _ rfl rfl (hO209.get (.tail _ (.head _))) Tryd.underlying22 rfl (inum_c8 _)) rfl ?_
      exact ⟨rfl, hO209.bl⟩
end Go.Proofs.YtkmgdpbmkbpkjaaDoor
