/-
  Parts of slices; slices.Grow, slices.Concat.
-/
import Derived.Test.YtkmgdpbmkbpkjaaDoorWp
set_option linter.unusedVariables false
set_option linter.unusedSimpArgs false
namespace Go.Proofs.YtkmgdpbmkbpkjaaDoor
open Go.RowKit

/-- Where a part begins. -/
def mv (p : Option Addr) (l c : Nat) : Option Addr := if c = l then p else p.map (·.add l)
section
variable {P : Program} {o : Oper} {a : Act} {w w0 : World} {L : List (Nat × TypeId × Array Value)} {T E : TypeId} {p : Option Addr} {n c m : Nat} {f s : Nat → Int}
theorem s_cut (hu : P.underlying T = some (.slice E)) (h5 : (P.info? E).map (·.size) = some 1) (lv hv : Option Value) (l h : Nat) (hl : lv = some (.int .i64 ((l : Nat) : Int)) ∨ (lv = none ∧ l = 0)) (hh : (hv = some (.int .i64 ((h : Nat) : Int)) ∧ h ≤ c) ∨ (hv = none ∧ h = n)) (hlh : l ≤ h)
    (hx : (execOp a.eval o).run P w = ((do let v ← Instr.sliceAt T (.slice p n c) lv hv none; pure (Next.value v)) : Sem Next).run P w) :
    (execOp a.eval o).run P w = .ok (.value (.slice (mv p l c) (h - l) (c - l))) w := by
  obtain ⟨x, hx1, hs⟩ := Option.map_eq_some_iff.1 h5
  rw [hx]
  rcases hl with rfl | ⟨rfl, rfl⟩ <;> rcases hh with ⟨rfl, hh⟩ | ⟨rfl, rfl⟩ <;>
    simp [Instr.sliceAt, Instr.slice, run_underlying hu, Instr.sliceBounds, run_sliceBound, sizeOf, typeInfo, hx1, hs, mv, hlh, *] <;> rfl
theorem mv0 (p : Option Addr) (c : Nat) : mv p 0 c = p := by
  unfold mv
  split
  · rfl
  · cases p <;> rfl
theorem s_hi (hu : P.underlying T = some (.slice E)) (h5 : (P.info? E).map (·.size) = some 1) (h : Nat) (hh : h ≤ c)
    (hx : (execOp a.eval o).run P w = ((do let v ← Instr.sliceAt T (.slice p n c) none (some (.int .i64 ((h : Nat) : Int))) none; pure (Next.value v)) : Sem Next).run P w) :
    (execOp a.eval o).run P w = .ok (.value (.slice p h c)) w := by
  have := s_cut hu h5 none _ 0 h (.inr ⟨rfl, rfl⟩) (.inl ⟨rfl, hh⟩) (Nat.zero_le _) hx
  rwa [mv0] at this
theorem RdF.opened (h : RdF w (.slice p n c) n f) (h0 : 0 < n) : ∃ g o, p = some ⟨g, o, none⟩ ∧ n ≤ c ∧ RdC w .u8 g o n f := by
  rcases h with ⟨h, _⟩ | ⟨g, o, c', e, hc, hr⟩
  · omega
  · cases e
    exact ⟨g, o, rfl, hc, hr⟩
theorem RdF.cut (h : RdF w (.slice p n c) n f) (l k : Nat) (hl : l ≤ k ∧ k ≤ n) : RdF w (.slice (mv p l c) (k - l) (c - l)) (k - l) (fun t => f (l + t)) := by
  by_cases h0 : k - l = 0
  · exact .inl ⟨h0, _, _, by rw [h0]⟩
  obtain ⟨g, o, rfl, hc, hr⟩ := h.opened (by omega)
  refine .inr ⟨g, o + l, c - l, ?_, by omega, fun j hj => ?_⟩
  · unfold mv
    rw [if_neg (by omega)]
    simp only [Option.map_some, Addr.add]
    by_cases e : l = 0
    · subst e; rfl
    · rw [if_neg e]
  · rw [show o + l + j = o + (l + j) by omega]
    exact hr (l + j) (by omega)
theorem RdF.hi (h : RdF w (.slice p n c) n f) (hm : m ≤ n) : RdF w (.slice p m c) m f := by
  by_cases h0 : m = 0
  · subst h0; exact .inl ⟨rfl, _, _, rfl⟩
  obtain ⟨g, o, rfl, hc, hr⟩ := h.opened (by omega)
  exact .inr ⟨g, o, c, rfl, by omega, fun j hj => hr j (by omega)⟩
theorem RdC.rdf {g o : Nat} (h : RdC w .u8 g o n f) (hc : n ≤ c) : RdF w (.slice (some ⟨g, o, none⟩) n c) n f := .inr ⟨g, o, c, rfl, hc, h⟩
theorem r_app1 {g' o' mc : Nat} {q : Option Addr} {t0 t tx ty e e' : TypeId} {cs : Array Value}
    (hx : (execOp a.eval o).run P w = ((do let v ← Builtin.append_ #[t, tx] ty #[.slice q n c, .slice (some ⟨g', o', none⟩) m mc]; pure (Next.value v)) : Sem Next).run P w)
    (ht : P.underlying t = some (.slice e)) (htx : P.underlying tx = some (.slice e')) (hi : (P.info? e).map (fun i => (i.zero, i.size, i.bytes)) = some (some (.int .u8 0), 1, 1))
    (hR : RdC w .u8 g' o' m s) (h0 : 0 < m) (hb : n + m ≤ 1000000) (hB : Buf .u8 1 q n c cs f) (hO : Own w0 (L ++ buf q t0 cs) w) :
    Runs P o a w (fun v : Value => v) (fun v w' => ∃ q' c' t' cs', v = .slice q' (n + m) c' ∧ Own w0 (L ++ buf q' t' cs') w' ∧ Buf .u8 1 q' (n + m) c' cs' (cat f n s)) := by
  have := r_app (k := .u8) (z := 1) hx ht htx hi rfl (s := s) (by rwa [Nat.mul_one]) h0 ⟨hb, by decide⟩ hB hO
  rwa [Nat.mul_one] at this
/-- A text, behind it. -/
theorem r_appF {mc : Nat} {q q' : Option Addr} {t0 t tx ty e e' : TypeId} {cs : Array Value}
    (hx : (execOp a.eval o).run P w = ((do let v ← Builtin.append_ #[t, tx] ty #[.slice q n c, .slice q' m mc]; pure (Next.value v)) : Sem Next).run P w)
    (ht : P.underlying t = some (.slice e)) (htx : P.underlying tx = some (.slice e')) (hi : (P.info? e).map (fun i => (i.zero, i.size, i.bytes)) = some (some (.int .u8 0), 1, 1))
    (hR : RdF w (.slice q' m mc) m s) (hb : n + m ≤ 1000000) (hB : Buf .u8 1 q n c cs f) (hO : Own w0 (L ++ buf q t0 cs) w) :
    Runs P o a w (fun v : Value => v) (fun v w' => ∃ q' c' t' cs', v = .slice q' (n + m) c' ∧ Own w0 (L ++ buf q' t' cs') w' ∧ Buf .u8 1 q' (n + m) c' cs' (cat f n s)) := by
  by_cases h0 : m = 0
  · subst h0
    intro K Q h
    refine r_app0 hx ht htx hi hB hO K Q fun b w1 => ?_
    rintro ⟨q1, c1, t1, cs1, rfl, h1, h2⟩
    exact h _ _ ⟨q1, c1, t1, cs1, rfl, h1, h2.congr fun j hj => by unfold cat; rw [if_pos (by omega)]⟩
  · obtain ⟨g, o', rfl, hc, hr⟩ := hR.opened (by omega)
    have := r_app (k := .u8) (z := 1) (g' := g) (o' := o') hx ht htx hi rfl (s := s) (by rwa [Nat.mul_one]) (by omega) ⟨hb, by decide⟩ hB hO
    rwa [Nat.mul_one] at this
end
theorem run_append_zeros {P : Program} {w : World} {t tx ty e : TypeId} {kd : IntKind} {i : TypeInfo} {z : Value} (ht : P.underlying t = some (.slice e)) (htx : P.underlying tx = some (.int kd)) (hi : P.info? e = some i) (hz : i.zero = some z) (hs : i.size = 1) (N : Nat) (h0 : 0 < N) (hN : N ≤ 1000000) (hb : i.bytes = 1) :
    (Builtin.append_ #[t, tx] ty #[.slice none 0 0, .int .i64 (N : Int)]).run P w =
      .ok (.slice (some ⟨w.heap.size, 0, none⟩) N (grownCap w N 0 e))
        (w.drew.alloc (.cells (Builtin.zeroCells z.cells N ++ Builtin.zeroCells z.cells (grownCap w N 0 e - N)) e)) := by
  have hw : IntKind.i64.wrap ((N : Nat) : Int) = (N : Int) := wrapN rfl (by omega)
  have hn : ¬ ((N : Int) < 0) := by omega
  have hn2 : ¬ (281474976710656 < (N : Int)) := by omega
  have hn3 : ¬ (N = 0) := by omega
  have h63' : ¬ (9223372036854775807 < ((N : Int))) := by omega
  have hg := growslice_fits (need := N) (old := 0) (bytes := 1) (by omega) (by omega)
  have h48' : ¬ (281474976710656 < Builtin.nextslicecap N 0) := by omega
  simp [Builtin.append_, run_underlying ht, run_underlying htx, sizeOf, typeInfo, zeroValue, asInt, asIntOf, hi, hz, hs, hb, hw, hn, hn2, hn3, h63', h48', Question.forced, newRow, grownCap, Builtin.firstCells]
/-- Room for some bytes, none there yet. -/
theorem r_room {P : Program} {o : Oper} {a : Act} {w w0 : World} {L : List (Nat × TypeId × Array Value)} {t tx ty e : TypeId} {kd : IntKind} {N : Nat} (hx : (execOp a.eval o).run P w = ((do let v ← Builtin.append_ #[t, tx] ty #[.slice none 0 0, .int .i64 ((N : Nat) : Int)]; pure (Next.value v)) : Sem Next).run P w)
    (ht : P.underlying t = some (.slice e)) (htx : P.underlying tx = some (.int kd)) (hi : (P.info? e).map (fun i => (i.zero, i.size, i.bytes)) = some (some (.int .u8 0), 1, 1)) (h0 : 0 < N) (hN : N ≤ 1000000) (hO : Own w0 L w) :
    Runs P o a w (fun v : Value => v) (fun v w' => ∃ q c t' cs, v = .slice q N c ∧ Own w0 (L ++ buf q t' cs) w' ∧ Buf .u8 1 q 0 c cs zF) := by
  obtain ⟨i, hi1, hi2⟩ := Option.map_eq_some_iff.1 hi
  obtain ⟨iz, is, ib⟩ := Prod.mk.injEq _ _ _ _ ▸ (Prod.mk.injEq _ _ _ _ ▸ hi2)
  rw [Sem.run_bind, run_append_zeros ht htx hi1 iz is N h0 hN ib] at hx
  refine r_val _ hx ⟨some ⟨w.heap.size, 0, none⟩, _, e, _, rfl, (hO.drew.new e _).swap, .inr ⟨w.heap.size, rfl, ?_, Nat.zero_le _, fun j hj => by omega⟩⟩
  have := grownCap_ge w N 0 e
  have hzb : ∀ q, (Builtin.zeroCells (Value.int .u8 0).cells q).size = q := fun q => by unfold Builtin.zeroCells; simp [Value.cells]
  rw [Array.size_append, hzb, hzb]
  omega
/-- slices.Grow of nothing. -/
theorem grow_any {N : Nat} {w w0 : World} {L : List (Nat × TypeId × Array Value)} (hN : N ≤ 1000000) (hO : Own w0 L w) :
    Ans Tryd.prog 60 #[.slice none 0 0, .int .i64 ((N : Nat) : Int)] w (fun v : Value => v) (fun v w' => ∃ q c t cs, v = .slice q 0 c ∧ Own w0 (L ++ buf q t cs) w' ∧ Buf .u8 1 q 0 c cs zF) := by
  unfold Ans
  by_cases h0 : 0 < N
  · skip
    refine calls_of_wp Tryd.func60 rfl ?_
    simp only [Tryd.ntmps60, List.size_toArray, List.length_cons, List.length_nil, Nat.reduceAdd, Nat.reduceSub, Array.replicate_succ, Array.replicate_zero, List.push_toArray, List.append_toArray, List.nil_append, List.cons_append]
    refine wp_seq ?_
    refine wl_region ?_
    refine wl_pure (.slice none 0 0) rfl (by kernel_rfl) ?_
    try simp only [p0, p1, p2, p3]
    refine wl_nil ?_
    show Code.wp _ _ _ _ _
    refine wp_seq ?_
    refine wp_seq ?_
    refine wl_region ?_
    refine wl_pure (.int .i64 ((N : Nat) : Int)) rfl (by kernel_rfl) ?_
    try simp only [p0, p1, p2, p3]
    refine wl_pure (.bool false) rfl (i_lss (k := .i64) ((N : Nat) : Int) 0 false (decide_eq_false (by omega)) rfl (by kernel_rfl) (by kernel_rfl) _) ?_
    try simp only [p0, p1, p2, p3]
    refine wl_nil ?_
    show Code.wp _ _ _ _ _
    refine wp_cond_false rfl ?_
    refine wp_skip ?_
    show Code.wp _ _ _ _ _
    refine wp_seq ?_
    refine wp_seq ?_
    refine wl_region ?_
    refine wl_pure (.int .i64 ((N : Nat) : Int)) rfl (by kernel_rfl) ?_
    try simp only [p0, p1, p2, p3]
    refine wl_pure (.slice none 0 0) rfl (by kernel_rfl) ?_
    try simp only [p0, p1, p2, p3]
    refine wl_pure (.int .i64 0) rfl (by kernel_rfl) ?_
    try simp only [p0, p1, p2, p3]
    refine wl_pure (.slice none 0 0) rfl (by kernel_rfl) ?_
    try simp only [p0, p1, p2, p3]
    refine wl_pure (.int .i64 0) rfl (by kernel_rfl) ?_
    try simp only [p0, p1, p2, p3]
    refine wl_pure (.int .i64 0) rfl (by kernel_rfl) ?_
    try simp only [p0, p1, p2, p3]
    refine wl_pure (.int .i64 ((N - 0 : Nat) : Int)) rfl (n_sub (k := .i64) rfl N 0 (by omega) rfl (by kernel_rfl) (by kernel_rfl) _) ?_
    try simp only [p0, p1, p2, p3]
    refine wl_pure (.int .i64 ((N - 0 : Nat) : Int)) rfl (by kernel_rfl) ?_
    try simp only [p0, p1, p2, p3]
    refine wl_nil ?_
    show Code.wp _ _ _ _ _
    refine wp_seq ?_
    refine wl_region ?_
    refine wl_pure (.int .i64 ((N - 0 : Nat) : Int)) rfl (by kernel_rfl) ?_
    try simp only [p0, p1, p2, p3]
    refine wl_pure (.bool true) rfl (i_gtr (k := .i64) ((N - 0 : Nat) : Int) 0 true (decide_eq_true (by omega)) rfl (by kernel_rfl) (by kernel_rfl) _) ?_
    try simp only [p0, p1, p2, p3]
    refine wl_nil ?_
    show Code.wp _ _ _ _ _
    refine wp_cond_true rfl ?_
    refine wl_region ?_
    refine wl_pure (.slice none 0 0) rfl (by kernel_rfl) ?_
    try simp only [p0, p1, p2, p3]
    refine wl_pure (.slice none 0 0) rfl (by kernel_rfl) ?_
    try simp only [p0, p1, p2, p3]
    refine wl_pure (.int .i64 0) rfl (by kernel_rfl) ?_
    try simp only [p0, p1, p2, p3]
    refine wl_pure (.slice none 0 0) rfl (s_hi (p := none) (n := 0) (c := 0) Tryd.underlying23 (by kernel_rfl) 0 (by omega) (by kernel_rfl)) ?_
    try simp only [p0, p1, p2, p3]
    refine wl_pure (.int .i64 ((N - 0 : Nat) : Int)) rfl (by kernel_rfl) ?_
    try simp only [p0, p1, p2, p3]
    refine wl_runs rfl (r_room (N := N - 0) (t := 23) (tx := 3) (ty := 23) (e := 5) (kd := .i64) (by kernel_rfl) Tryd.underlying23 Tryd.underlying3 (by kernel_rfl) (by omega) (by omega) hO) ?_
    rintro _ w1 ⟨q, c, t, cs, rfl, hO1, hB⟩
    clear hO
    try simp only [List.nil_append, List.cons_append] at hO1
    try simp only [p0, p1, p2, p3]
    refine wl_pure (.slice none 0 0) rfl (by kernel_rfl) ?_
    try simp only [p0, p1, p2, p3]
    refine wl_pure (.int .i64 0) rfl (by kernel_rfl) ?_
    try simp only [p0, p1, p2, p3]
    refine wl_pure (.slice q 0 c) rfl (s_hi (p := q) (n := N) (c := c) Tryd.underlying23 (by kernel_rfl) 0 (by omega) (by kernel_rfl)) ?_
    try simp only [p0, p1, p2, p3]
    refine wl_pure (.slice q 0 c) rfl (by kernel_rfl) ?_
    try simp only [p0, p1, p2, p3]
    refine wl_nil ?_
    show Code.wp _ _ _ _ _
    refine wp_seq ?_
    refine wl_region ?_
    refine wl_pure (.slice q 0 c) rfl (by kernel_rfl) ?_
    try simp only [p0, p1, p2, p3]
    refine wl_pure (.slice q 0 c) rfl (by kernel_rfl) ?_
    try simp only [p0, p1, p2, p3]
    refine wl_nil ?_
    show Code.wp _ _ _ _ _
    refine wp_ret ?_
    refine bodyPost_ret (results_tmp rfl _ _ _) rfl ?_
    exact ⟨_, rfl, q, c, t, cs, rfl, hO1, hB⟩
  · skip
    refine calls_of_wp Tryd.func60 rfl ?_
    simp only [Tryd.ntmps60, List.size_toArray, List.length_cons, List.length_nil, Nat.reduceAdd, Nat.reduceSub, Array.replicate_succ, Array.replicate_zero, List.push_toArray, List.append_toArray, List.nil_append, List.cons_append]
    refine wp_seq ?_
    refine wl_region ?_
    refine wl_pure (.slice none 0 0) rfl (by kernel_rfl) ?_
    try simp only [p0, p1, p2, p3]
    refine wl_nil ?_
    show Code.wp _ _ _ _ _
    refine wp_seq ?_
    refine wp_seq ?_
    refine wl_region ?_
    refine wl_pure (.int .i64 ((N : Nat) : Int)) rfl (by kernel_rfl) ?_
    try simp only [p0, p1, p2, p3]
    refine wl_pure (.bool false) rfl (i_lss (k := .i64) ((N : Nat) : Int) 0 false (decide_eq_false (by omega)) rfl (by kernel_rfl) (by kernel_rfl) _) ?_
    try simp only [p0, p1, p2, p3]
    refine wl_nil ?_
    show Code.wp _ _ _ _ _
    refine wp_cond_false rfl ?_
    refine wp_skip ?_
    show Code.wp _ _ _ _ _
    refine wp_seq ?_
    refine wp_seq ?_
    refine wl_region ?_
    refine wl_pure (.int .i64 ((N : Nat) : Int)) rfl (by kernel_rfl) ?_
    try simp only [p0, p1, p2, p3]
    refine wl_pure (.slice none 0 0) rfl (by kernel_rfl) ?_
    try simp only [p0, p1, p2, p3]
    refine wl_pure (.int .i64 0) rfl (by kernel_rfl) ?_
    try simp only [p0, p1, p2, p3]
    refine wl_pure (.slice none 0 0) rfl (by kernel_rfl) ?_
    try simp only [p0, p1, p2, p3]
    refine wl_pure (.int .i64 0) rfl (by kernel_rfl) ?_
    try simp only [p0, p1, p2, p3]
    refine wl_pure (.int .i64 0) rfl (by kernel_rfl) ?_
    try simp only [p0, p1, p2, p3]
    refine wl_pure (.int .i64 ((N - 0 : Nat) : Int)) rfl (n_sub (k := .i64) rfl N 0 (by omega) rfl (by kernel_rfl) (by kernel_rfl) _) ?_
    try simp only [p0, p1, p2, p3]
    refine wl_pure (.int .i64 ((N - 0 : Nat) : Int)) rfl (by kernel_rfl) ?_
    try simp only [p0, p1, p2, p3]
    refine wl_nil ?_
    show Code.wp _ _ _ _ _
    refine wp_seq ?_
    refine wl_region ?_
    refine wl_pure (.int .i64 ((N - 0 : Nat) : Int)) rfl (by kernel_rfl) ?_
    try simp only [p0, p1, p2, p3]
    refine wl_pure (.bool false) rfl (i_gtr (k := .i64) ((N - 0 : Nat) : Int) 0 false (decide_eq_false (by omega)) rfl (by kernel_rfl) (by kernel_rfl) _) ?_
    try simp only [p0, p1, p2, p3]
    refine wl_nil ?_
    show Code.wp _ _ _ _ _
    refine wp_cond_false rfl ?_
    refine wp_skip ?_
    show Code.wp _ _ _ _ _
    refine wp_seq ?_
    refine wl_region ?_
    refine wl_pure (.slice none 0 0) rfl (by kernel_rfl) ?_
    try simp only [p0, p1, p2, p3]
    refine wl_pure (.slice none 0 0) rfl (by kernel_rfl) ?_
    try simp only [p0, p1, p2, p3]
    refine wl_nil ?_
    show Code.wp _ _ _ _ _
    refine wp_ret ?_
    refine bodyPost_ret (results_tmp rfl _ _ _) rfl ?_
    exact ⟨_, rfl, none, 0, 0, #[], rfl, by rw [buf, List.append_nil]; exact hO, .nil⟩
theorem Own.merge {w0 w w' : World} {L L' : List (Nat × TypeId × Array Value)} (h : Own w0 L w) (h' : Own w L' w') : Own w0 (L ++ L') w' := by
  refine ⟨fun x hx => ?_, ?_, fun x hx => ?_, bl_call h.bl h'.bl⟩
  · rcases List.mem_append.1 hx with hx | hx
    · exact (h.bk x hx).under h'.bl
    · exact h'.bk x hx
  · rw [List.map_append, List.nodup_append]
    refine ⟨h.nd, h'.nd, fun a ha b hb e => ?_⟩
    obtain ⟨x, hx, rfl⟩ := List.mem_map.1 ha
    obtain ⟨y, hy, rfl⟩ := List.mem_map.1 hb
    have h1 := (h.bk x hx).lt
    have h2 := h'.up y hy
    omega
  · rcases List.mem_append.1 hx with hx | hx
    · exact h.up x hx
    · exact Nat.le_trans h.bl.size (h'.up x hx)
/-- A text of its own. -/
def Txt (P : Program) (f : FuncId) (args : Array Value) (w : World) (n : Nat) (s : Nat → Int) : Prop := Ans P f args w (fun v : Value => v) fun v w' => ∃ q c t cs, v = .slice q n c ∧ Own w (buf q t cs) w' ∧ Buf .u8 1 q n c cs s
theorem r_txt {P : Program} {o : Oper} {a : Act} {w w0 : World} {L : List (Nat × TypeId × Array Value)} {f : FuncId} {args : Array Value} {n : Nat} {s : Nat → Int} (hx : (execOp a.eval o).run P w = .ok (.enter f args) w) (hc : Txt P f args w n s) (hO : Own w0 L w) :
    Runs P o a w (fun v : Value => v) fun v w' => ∃ q c t cs, v = .slice q n c ∧ Own w0 (L ++ buf q t cs) w' ∧ Buf .u8 1 q n c cs s := fun K Q h => by
  unfold Oper.wp
  rw [hx]
  refine Calls.mono hc ?_
  rintro e w' ⟨b, rfl, q, c, t, cs, rfl, hO', hB⟩
  exact h _ w' ⟨q, c, t, cs, rfl, hO.merge hO', hB⟩
/-- A part of a block that can be read. -/
def Rd (q : Option Addr) (cs : Array Value) (p : Option Addr) (n c : Nat) (f : Nat → Int) : Prop := n = 0 ∨ ∃ g o, q = some ⟨g, 0, none⟩ ∧ p = some ⟨g, o, none⟩ ∧ n ≤ c ∧ ∀ j, j < n → cs[o + j]? = some (.int .u8 (f j))
theorem Rd.rdf {w w0 : World} {L : List (Nat × TypeId × Array Value)} {q p : Option Addr} {t : TypeId} {cs : Array Value} {n c : Nat} {f : Nat → Int} (h : Rd q cs p n c f) (hO : Own w0 L w) (hm : ∀ g, q = some ⟨g, 0, none⟩ → (g, t, cs) ∈ L) : RdF w (.slice p n c) n f := by
  rcases h with rfl | ⟨g, o, rfl, rfl, hc, hr⟩
  · exact .inl ⟨rfl, _, _, rfl⟩
  · exact .inr ⟨g, o, c, rfl, hc, fun j hj => by rw [(hO.get (hm g rfl)).cell]; exact hr j hj⟩
theorem Buf.rd {q : Option Addr} {cs : Array Value} {n c : Nat} {f : Nat → Int} (h : Buf .u8 1 q n c cs f) : Rd q cs q n c f := by
  rcases h with ⟨_, h, _⟩ | ⟨g, rfl, _, h3, h4⟩
  · exact .inl h
  · exact .inr ⟨g, 0, rfl, rfl, h3, fun j hj => by rw [Nat.zero_add]; exact h4 j (by omega)⟩
theorem Rd.cut {q p : Option Addr} {cs : Array Value} {n c : Nat} {f : Nat → Int} (h : Rd q cs p n c f) (l k : Nat) (hl : l ≤ k ∧ k ≤ n) : Rd q cs (mv p l c) (k - l) (c - l) (fun t => f (l + t)) := by
  by_cases h0 : k - l = 0
  · exact .inl h0
  rcases h with h | ⟨g, o, rfl, rfl, hc, hr⟩
  · omega
  refine .inr ⟨g, o + l, rfl, ?_, by omega, fun j hj => ?_⟩
  · unfold mv
    rw [if_neg (by omega)]
    simp only [Option.map_some, Addr.add]
    by_cases e : l = 0
    · subst e; rfl
    · rw [if_neg e]
  · rw [show o + l + j = o + (l + j) by omega]
    exact hr (l + j) (by omega)
theorem Rd.hi {q p : Option Addr} {cs : Array Value} {n c m : Nat} {f : Nat → Int} (h : Rd q cs p n c f) (hm : m ≤ n) : Rd q cs p m c f := by
  rcases h with h | ⟨g, o, rfl, rfl, hc, hr⟩
  · exact .inl (by omega)
  · exact .inr ⟨g, o, rfl, rfl, by omega, fun j hj => hr j (by omega)⟩
theorem Rd.congr {q p : Option Addr} {cs : Array Value} {n c : Nat} {f f' : Nat → Int} (h : Rd q cs p n c f) (e : ∀ j, j < n → f j = f' j) : Rd q cs p n c f' := by
  rcases h with h | ⟨g, o, rfl, rfl, hc, hr⟩
  · exact .inl h
  · exact .inr ⟨g, o, rfl, rfl, hc, fun j hj => by rw [hr j hj, e j hj]⟩
/-- Texts, one behind the other. -/
def lenA (n : Nat → Nat) : Nat → Nat
  | 0 => 0
  | i + 1 => lenA n i + n i
def catA (n : Nat → Nat) (f : Nat → Nat → Int) : Nat → (Nat → Int)
  | 0 => zF
  | i + 1 => cat (catA n f i) (lenA n i) (f i)
theorem lenA_le (n : Nat → Nat) : ∀ {i K : Nat}, i ≤ K → lenA n i ≤ lenA n K
  | i, 0, h => by obtain rfl : i = 0 := by omega
                  exact Nat.le_refl _
  | i, K + 1, h => by
    by_cases e : i = K + 1
    · subst e; exact Nat.le_refl _
    · exact Nat.le_trans (lenA_le n (show i ≤ K by omega)) (Nat.le_add_right ..)
set_option maxRecDepth 100000 in
set_option maxHeartbeats 4000000 in
/-- slices.Concat. -/
theorem concat_any {p : Nat → Option Addr} {n c : Nat → Nat} {f : Nat → Nat → Int} {g K : Nat} {w : World} (hS : ∀ i, i < K → w.cell? ⟨g, i, none⟩ = some (.slice (p i) (n i) (c i))) (hR : ∀ i, i < K → RdF w (.slice (p i) (n i) (c i)) (n i) (f i)) (hK : K ≤ 1000) (hN : lenA n K ≤ 1000000) :
    Txt Tryd.prog 43 #[.slice (some ⟨g, 0, none⟩) K K] w (lenA n K) (catA n f K) := by
  unfold Txt Ans
  refine calls_of_wp Tryd.func43 rfl ?_
  simp only [Tryd.ntmps43, List.size_toArray, List.length_cons, List.length_nil, Nat.reduceAdd, Nat.reduceSub, Array.replicate_succ, Array.replicate_zero, List.push_toArray, List.append_toArray, List.nil_append, List.cons_append]
  have hO := Own.nil w
  refine wp_seq ?_
  refine wl_region ?_
  refine wl_pure (.slice none 0 0) rfl (by kernel_rfl) ?_
  try simp only [p0, p1, p2, p3]
  refine wl_nil ?_
  show Code.wp _ _ _ _ _
  refine wp_seq ?_
  refine wl_region ?_
  refine wl_pure (.int .i64 0) rfl (by kernel_rfl) ?_
  try simp only [p0, p1, p2, p3]
  refine wl_nil ?_
  show Code.wp _ _ _ _ _
  refine wp_seq ?_
  refine wp_seq ?_
  refine wl_region ?_
  refine wl_pure (.slice (some ⟨g, 0, none⟩) K K) rfl (by kernel_rfl) ?_
  try simp only [p0, p1, p2, p3]
  refine wl_pure (.int .i64 ((K : Nat) : Int)) rfl (by kernel_rfl) ?_
  try simp only [p0, p1, p2, p3]
  refine wl_pure (.int .i64 0) rfl (by kernel_rfl) ?_
  try simp only [p0, p1, p2, p3]
  refine wl_nil ?_
  show Code.wp _ _ _ _ _
  go_wp2_with fail
  go_loopw [3, 11] (fun v1_3 v1_11 wr1 => ∃ (i : Nat), i ≤ K ∧ v1_3 = .int .i64 ((lenA n i : Nat) : Int) ∧ v1_11 = .int .i64 ((i : Nat) : Int) ∧ Own w ([]) wr1) (fun v1_3 v1_11 wr1 => K - (intOf v1_11).toNat)
  case atStart => exact ⟨0, by omega, rfl, rfl, hO⟩
  case round =>
    try clear hO
    obtain ⟨i, hf1_0, rfl, rfl, hO1⟩ := hrel
    by_cases hm1 : i < K
    · have hm1' := hm1
      have hle := lenA_le n (show i + 1 ≤ K by omega)
      have hsu : lenA n (i + 1) = lenA n i + n i := rfl
      refine wp_seq ?_
      refine wl_region ?_
      refine wl_pure (.bool true) rfl (i_lss (k := .i64) ((i : Nat) : Int) ((K : Nat) : Int) true (decide_eq_true (by omega)) rfl (by kernel_rfl) (by kernel_rfl) _) ?_
      try simp only [p0, p1, p2, p3]
      refine wl_nil ?_
      show Code.wp _ _ _ _ _
      refine wp_seq ?_
      refine wp_cond_true rfl ?_
      refine wp_skip ?_
      show Code.wp _ _ _ _ _
      refine wp_seq ?_
      refine wp_block ?_
      refine wp_seq ?_
      refine wl_region ?_
      refine wl_pure (.pointer (some ⟨g, i, none⟩)) rfl (s_idx0 (n := K) (c := K) Tryd.underlying78 (by kernel_rfl) i (by omega) rfl (by kernel_rfl) (by kernel_rfl) _) ?_
      try simp only [p0, p1, p2, p3]
      refine wl_pure (.slice (p i) (n i) (c i)) rfl (run_cell ((hO1.bl.cell (World.block_lt_of_cell? w _ (hS i hm1))).trans (hS i hm1)) (by kernel_rfl) rfl (by kernel_rfl)) ?_
      try simp only [p0, p1, p2, p3]
      refine wl_pure (.slice (p i) (n i) (c i)) rfl (by kernel_rfl) ?_
      try simp only [p0, p1, p2, p3]
      refine wl_nil ?_
      show Code.wp _ _ _ _ _
      refine wp_seq ?_
      refine wl_region ?_
      refine wl_pure (.int .i64 ((lenA n i : Nat) : Int)) rfl (by kernel_rfl) ?_
      try simp only [p0, p1, p2, p3]
      refine wl_pure (.slice (p i) (n i) (c i)) rfl (by kernel_rfl) ?_
      try simp only [p0, p1, p2, p3]
      refine wl_pure (.int .i64 (((n i) : Nat) : Int)) rfl (by kernel_rfl) ?_
      try simp only [p0, p1, p2, p3]
      refine wl_pure (.int .i64 (((lenA n i) + (n i) : Nat) : Int)) rfl (n_add (k := .i64) rfl (lenA n i) (n i) (by omega) rfl (by kernel_rfl) (by kernel_rfl) _) ?_
      try simp only [p0, p1, p2, p3]
      refine wl_pure (.int .i64 (((lenA n i) + (n i) : Nat) : Int)) rfl (by kernel_rfl) ?_
      try simp only [p0, p1, p2, p3]
      refine wl_nil ?_
      show Code.wp _ _ _ _ _
      refine wp_seq ?_
      refine wl_region ?_
      refine wl_pure (.int .i64 (((lenA n i) + (n i) : Nat) : Int)) rfl (by kernel_rfl) ?_
      try simp only [p0, p1, p2, p3]
      refine wl_pure (.bool false) rfl (i_lss (k := .i64) (((lenA n i) + (n i) : Nat) : Int) 0 false (decide_eq_false (by omega)) rfl (by kernel_rfl) (by kernel_rfl) _) ?_
      try simp only [p0, p1, p2, p3]
      refine wl_nil ?_
      show Code.wp _ _ _ _ _
      refine wp_cond_false rfl ?_
      refine wp_skip ?_
      show Code.wp _ _ _ _ _
      refine wl_region ?_
      refine wl_pure (.int .i64 ((i + 1 : Nat) : Int)) rfl (n_add (k := .i64) rfl i 1 (by omega) rfl (by kernel_rfl) (by kernel_rfl) _) ?_
      try simp only [p0, p1, p2, p3]
      refine wl_pure (.int .i64 ((i + 1 : Nat) : Int)) rfl (by kernel_rfl) ?_
      try simp only [p0, p1, p2, p3]
      refine wl_nil ?_
      try simp only [Exit.then, Exit.inBlock]
      go_roundw
      case rel => exact ⟨i + 1, by omega, rfl, rfl, hO1⟩
      case measure => simp [intOf]; omega
    · have hm1' := hm1
      obtain rfl : K = i := by omega
      refine wp_seq ?_
      refine wl_region ?_
      refine wl_pure (.bool false) rfl (i_lss (k := .i64) ((K : Nat) : Int) ((K : Nat) : Int) false (decide_eq_false (by omega)) rfl (by kernel_rfl) (by kernel_rfl) _) ?_
      try simp only [p0, p1, p2, p3]
      refine wl_nil ?_
      show Code.wp _ _ _ _ _
      refine wp_seq ?_
      refine wp_cond_false rfl ?_
      refine wp_exit ?_
      simp only [Exit.then, Exit.inBlock, if_true]
      show Code.wp _ _ _ _ _
      refine wp_seq ?_
      refine wl_region ?_
      refine wl_pure (.int .i64 ((lenA n K : Nat) : Int)) rfl (by kernel_rfl) ?_
      try simp only [p0, p1, p2, p3]
      refine wl_runs rfl (r_ans (args := #[.slice none 0 0, .int .i64 ((lenA n K : Nat) : Int)]) (by kernel_rfl) (grow_any (N := lenA n K) hN hO1)) ?_
      rintro _ w2 ⟨q, c0, t, cs, rfl, hO2, hB⟩
      clear hO1
      try simp only [List.nil_append, List.cons_append] at hO2
      try simp only [p0, p1, p2, p3]
      refine wl_pure (.slice q 0 c0) rfl (by kernel_rfl) ?_
      try simp only [p0, p1, p2, p3]
      refine wl_nil ?_
      show Code.wp _ _ _ _ _
      refine wp_seq ?_
      refine wp_seq ?_
      refine wl_region ?_
      refine wl_pure (.slice (some ⟨g, 0, none⟩) K K) rfl (by kernel_rfl) ?_
      try simp only [p0, p1, p2, p3]
      refine wl_pure (.int .i64 ((K : Nat) : Int)) rfl (by kernel_rfl) ?_
      try simp only [p0, p1, p2, p3]
      refine wl_pure (.int .i64 0) rfl (by kernel_rfl) ?_
      try simp only [p0, p1, p2, p3]
      refine wl_nil ?_
      show Code.wp _ _ _ _ _
      go_wp2_with fail
      go_loopw [6, 27] (fun v3_6 v3_27 wr3 => ∃ (i : Nat) (q' : Option Addr) (c' : Nat) (t' : TypeId) (cs' : Array Value), i ≤ K ∧ Buf .u8 1 q' (lenA n i) c' cs' (catA n f i) ∧ v3_6 = .slice q' (lenA n i) c' ∧ v3_27 = .int .i64 ((i : Nat) : Int) ∧ Own w (([] ++ buf q' t' cs')) wr3) (fun v3_6 v3_27 wr3 => K - (intOf v3_27).toNat)
      case atStart => exact ⟨0, q, c0, t, cs, by omega, hB, rfl, rfl, hO2⟩
      case round =>
        try clear hO2
        obtain ⟨i, q', c', t', cs', hf3_0, hf3_1, rfl, rfl, hO3⟩ := hrel
        by_cases hm3 : i < K
        · have hm3' := hm3
          have hle := lenA_le n (show i + 1 ≤ K by omega)
          have hsu : lenA n (i + 1) = lenA n i + n i := rfl
          refine wp_seq ?_
          refine wl_region ?_
          refine wl_pure (.bool true) rfl (i_lss (k := .i64) ((i : Nat) : Int) ((K : Nat) : Int) true (decide_eq_true (by omega)) rfl (by kernel_rfl) (by kernel_rfl) _) ?_
          try simp only [p0, p1, p2, p3]
          refine wl_nil ?_
          show Code.wp _ _ _ _ _
          refine wp_seq ?_
          refine wp_cond_true rfl ?_
          refine wp_skip ?_
          show Code.wp _ _ _ _ _
          refine wp_seq ?_
          refine wp_block ?_
          refine wp_seq ?_
          refine wl_region ?_
          refine wl_pure (.pointer (some ⟨g, i, none⟩)) rfl (s_idx0 (n := K) (c := K) Tryd.underlying78 (by kernel_rfl) i (by omega) rfl (by kernel_rfl) (by kernel_rfl) _) ?_
          try simp only [p0, p1, p2, p3]
          refine wl_pure (.slice (p i) (n i) (c i)) rfl (run_cell ((hO3.bl.cell (World.block_lt_of_cell? w _ (hS i hm3))).trans (hS i hm3)) (by kernel_rfl) rfl (by kernel_rfl)) ?_
          try simp only [p0, p1, p2, p3]
          refine wl_pure (.slice (p i) (n i) (c i)) rfl (by kernel_rfl) ?_
          try simp only [p0, p1, p2, p3]
          refine wl_nil ?_
          show Code.wp _ _ _ _ _
          refine wl_region ?_
          refine wl_pure (.slice q' (lenA n i) c') rfl (by kernel_rfl) ?_
          try simp only [p0, p1, p2, p3]
          refine wl_pure (.slice (p i) (n i) (c i)) rfl (by kernel_rfl) ?_
          try simp only [p0, p1, p2, p3]
          refine wl_runs rfl (r_appF (n := lenA n i) (c := c') (m := (n i)) (mc := (c i)) (q := q') (f := (catA n f i)) (t0 := t') (t := 23) (tx := 23) (ty := 23) (e := 5) (e' := 5) (cs := cs') (L := ([])) (q' := (p i)) (s := (f i)) (by kernel_rfl) Tryd.underlying23 Tryd.underlying23 (by kernel_rfl) ((hR i hm3).below hO3.bl) (by omega) hf3_1 hO3) ?_
          rintro _ w4 ⟨q1b, c1b, t1b, s1b, rfl, hO4, hb1b⟩
          clear hO3
          try simp only [List.nil_append, List.cons_append] at hO4
          try simp only [p0, p1, p2, p3]
          refine wl_pure (.slice q1b (lenA n i + (n i)) c1b) rfl (by kernel_rfl) ?_
          try simp only [p0, p1, p2, p3]
          refine wl_nil ?_
          show Code.wp _ _ _ _ _
          refine wl_region ?_
          refine wl_pure (.int .i64 ((i + 1 : Nat) : Int)) rfl (n_add (k := .i64) rfl i 1 (by omega) rfl (by kernel_rfl) (by kernel_rfl) _) ?_
          try simp only [p0, p1, p2, p3]
          refine wl_pure (.int .i64 ((i + 1 : Nat) : Int)) rfl (by kernel_rfl) ?_
          try simp only [p0, p1, p2, p3]
          refine wl_nil ?_
          try simp only [Exit.then, Exit.inBlock]
          go_roundw
          case rel => exact ⟨i + 1, q1b, c1b, t1b, s1b, by omega, hb1b, rfl, rfl, hO4⟩
          case measure => simp [intOf]; omega
        · have hm3' := hm3
          obtain rfl : K = i := by omega
          refine wp_seq ?_
          refine wl_region ?_
          refine wl_pure (.bool false) rfl (i_lss (k := .i64) ((K : Nat) : Int) ((K : Nat) : Int) false (decide_eq_false (by omega)) rfl (by kernel_rfl) (by kernel_rfl) _) ?_
          try simp only [p0, p1, p2, p3]
          refine wl_nil ?_
          show Code.wp _ _ _ _ _
          refine wp_seq ?_
          refine wp_cond_false rfl ?_
          refine wp_exit ?_
          simp only [Exit.then, Exit.inBlock, if_true]
          show Code.wp _ _ _ _ _
          refine wp_seq ?_
          refine wl_region ?_
          refine wl_pure (.slice q' (lenA n K) c') rfl (by kernel_rfl) ?_
          try simp only [p0, p1, p2, p3]
          refine wl_pure (.slice q' (lenA n K) c') rfl (by kernel_rfl) ?_
          try simp only [p0, p1, p2, p3]
          refine wl_nil ?_
          show Code.wp _ _ _ _ _
          refine wp_ret ?_
          refine bodyPost_ret (results_tmp rfl _ _ _) rfl ?_
          exact ⟨_, rfl, q', c', t', cs', rfl, hO3, hf3_1⟩
end Go.Proofs.YtkmgdpbmkbpkjaaDoor
