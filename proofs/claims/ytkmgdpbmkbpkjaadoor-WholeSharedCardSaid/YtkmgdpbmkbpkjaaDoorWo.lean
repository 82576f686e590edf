/-
  A slice of one's own that is appended to: nothing yet, or a block at its start.
-/
import Derived.Test.YtkmgdpbmkbpkjaaDoorWn
import Derived.Laws.AppendOwn
import Derived.RangeFuncCalls
set_option linter.unusedVariables false
set_option linter.unusedSimpArgs false
namespace Go.Proofs.YtkmgdpbmkbpkjaaDoor
open Go.RowKit

theorem putAll_size : ∀ (l : List Value) (cs : Array Value) (o : Nat), (putAll cs o l).size = cs.size
  | [], _, _ => rfl
  | v :: l, cs, o => by rw [putAll, putAll_size l]; simp
theorem Own.drop2 {w w0 : World} {x y : Nat × TypeId × Array Value} {L : List (Nat × TypeId × Array Value)} (h : Own w0 (x :: y :: L) w) : Own w0 (x :: L) w := by
  have hn := h.nd
  simp only [List.map_cons, List.nodup_cons, List.mem_cons, not_or] at hn
  refine h.perm (fun z hz => ?_) ?_
  · rcases List.mem_cons.1 hz with rfl | hz
    · exact List.mem_cons_self ..
    · exact List.mem_cons_of_mem _ (List.mem_cons_of_mem _ hz)
  · simp only [List.map_cons, List.nodup_cons]
    exact ⟨hn.1.2, hn.2.2⟩
/-- One of an array value's. -/
theorem a_idx {P : Program} {o : Oper} {a : Act} {p q : Operand} {k : IntKind} {n : Nat} {f : Nat → Int} {T E : TypeId} (hu : P.underlying T = some (.array n E)) (h5 : (P.info? E).map (·.size) = some 1) (hA : ∀ w, (isAgg E).run P w = .ok false w) (i : Nat) (hi : i < n)
    (ho : o.op = .index T p q) (hp : a.eval p = .agg (aF k n f)) (hq : a.eval q = .int .i64 ((i : Nat) : Int)) (w : World) : (execOp a.eval o).run P w = .ok (.value (.int k (f i))) w := by
  have h1 : (0 : Int) ≤ i ∧ (i : Int) < n := by omega
  obtain ⟨x, hx, hs⟩ := Option.map_eq_some_iff.1 h5
  unfold execOp
  simp only [ho, hp, hq]
  simp [Sem.run_bind, Instr.index, asIntOf, run_underlying hu, sizeOf, typeInfo, hx, hs, h1, hi, part, hA, get_aF k n f i hi]
theorem keeps_cells (g : Nat) : ∀ (l : List Value) (o : Nat) (w : World), KeepsOthers w (w.setCells g o l)
  | [], _, w => .refl w
  | v :: l, o, w => (KeepsOthers.setCell w _ v).trans (keeps_cells g l (o + 1) _)
/-- One. -/
def lit1 (a : Int) : Nat → Int := fun _ => a
/-- One text behind another. -/
def cat (f : Nat → Int) (n : Nat) (s : Nat → Int) : Nat → Int := fun j => if j < n then f j else s (j - n)
/-- The block of a slice that is appended to, if there is one. -/
def buf (q : Option Addr) (t : TypeId) (cs : Array Value) : List (Nat × TypeId × Array Value) :=
  match q with
  | none => []
  | some a => [(a.block, t, cs)]
/-- It holds n elements of z cells each, c of them have room. -/
def Buf (k : IntKind) (z : Nat) (q : Option Addr) (n c : Nat) (cs : Array Value) (f : Nat → Int) : Prop :=
  (q = none ∧ n = 0 ∧ c = 0) ∨ ∃ g, q = some ⟨g, 0, none⟩ ∧ cs.size = c * z ∧ n ≤ c ∧ ∀ j, j < n * z → cs[j]? = some (.int k (f j))
section
variable {w0 w w' : World} {L : List (Nat × TypeId × Array Value)} {k : IntKind} {z n c : Nat} {q : Option Addr} {f f' : Nat → Int} {t : TypeId} {cs : Array Value}
theorem Own.front {L2 : List (Nat × TypeId × Array Value)} (h : Own w0 (L ++ L2) w) : Own w0 L w :=
  h.perm (fun x hx => List.mem_append_left _ hx) (by have := h.nd; rw [List.map_append, List.nodup_append] at this; exact this.1)
theorem Own.swap {x : Nat × TypeId × Array Value} (h : Own w0 (x :: L) w) : Own w0 (L ++ [x]) w :=
  h.perm (fun y hy => by simpa [or_comm] using hy) (by
    have hn := h.nd
    simp only [List.map_cons, List.nodup_cons] at hn
    simp only [List.map_append, List.map_cons, List.map_nil, List.nodup_append, List.nodup_cons, List.mem_singleton, List.not_mem_nil, not_false_eq_true, List.nodup_nil, and_self, true_and]
    exact ⟨hn.2, fun a ha b hb => by subst hb; exact fun he => hn.1 (he ▸ ha)⟩)
theorem Buf.nil : Buf k z none 0 0 cs f := .inl ⟨rfl, rfl, rfl⟩
theorem Buf.congr (h : Buf k z q n c cs f) (e : ∀ j, j < n * z → f j = f' j) : Buf k z q n c cs f' := by
  rcases h with h | ⟨g, h1, h2, h3, h4⟩
  · exact .inl h
  · exact .inr ⟨g, h1, h2, h3, fun j hj => by rw [h4 j hj, e j hj]⟩
theorem Buf.of (g : Nat) (hn : n ≤ c) : Buf k z (some ⟨g, 0, none⟩) n c (aF k (c * z) f) f :=
  .inr ⟨g, rfl, size_aF _ _ _, hn, fun j hj => get_aF k (c * z) f j (Nat.lt_of_lt_of_le hj (Nat.mul_le_mul_right z hn))⟩
theorem Buf.rdc (h : Buf k z q n c cs f) (hO : Own w0 (L ++ buf q t cs) w) (h0 : 0 < n) : ∃ g, q = some ⟨g, 0, none⟩ ∧ n ≤ c ∧ RdC w k g 0 (n * z) f := by
  rcases h with ⟨_, h, _⟩ | ⟨g, rfl, h2, h3, h4⟩
  · omega
  · exact ⟨g, rfl, h3, fun j hj => by rw [Nat.zero_add, (hO.get (g := g) (t := t) (cs := cs) (by simp [buf])).cell j]; exact h4 j hj⟩
theorem Buf.rdf (h : Buf .u8 1 q n c cs f) (hO : Own w0 (L ++ buf q t cs) w) : RdF w (.slice q n c) n f := by
  by_cases h0 : 0 < n
  · obtain ⟨g, rfl, hc, hr⟩ := h.rdc hO h0
    exact .inr ⟨g, 0, c, rfl, hc, fun j hj => hr j (by omega)⟩
  · obtain rfl : n = 0 := by omega
    exact .inl ⟨rfl, q, c, rfl⟩
theorem Buf.cap (h : Buf k z q n c cs f) : n ≤ c := by
  rcases h with ⟨_, h1, h2⟩ | ⟨g, _, _, h, _⟩ <;> omega
end
section
variable {P : Program} {o : Oper} {a : Act} {w w0 : World} {L : List (Nat × TypeId × Array Value)}
/-- Some more, behind it. -/
theorem r_appK {k : IntKind} {z g' o' n c m mc b : Nat} {q : Option Addr} {f s : Nat → Int} {t0 t tx ty e e' : TypeId} {zv : Value} {cs : Array Value}
    (hx : (execOp a.eval o).run P w = ((do let v ← Builtin.append_ #[t, tx] ty #[.slice q n c, .slice (some ⟨g', o', none⟩) m mc]; pure (Next.value v)) : Sem Next).run P w)
    (ht : P.underlying t = some (.slice e)) (htx : P.underlying tx = some (.slice e')) (hi : (P.info? e).map (fun i => (i.zero, i.size, i.bytes)) = some (some zv, z, b)) (hz : zv.cells.size = z)
    (hR : RdC w k g' o' (m * z) s) (h0 : 0 < m) (hb : n + m ≤ 1000000 ∧ b ≤ 1000) (hB : Buf k z q n c cs f) (hO : Own w0 (L ++ buf q t0 cs) w) :
    Runs P o a w (fun v : Value => v) (fun v w' => ∃ q' c' t' cs', v = .slice q' (n + m) c' ∧ Own w0 (L ++ buf q' t' cs') w' ∧ Buf k z q' (n + m) c' cs' (cat f (n * z) s) ∧ KeepsOthers w w') := by
  obtain ⟨i, hi1, hi2⟩ := Option.map_eq_some_iff.1 hi
  obtain ⟨iz, is, ib⟩ := Prod.mk.injEq _ _ _ _ ▸ (Prod.mk.injEq _ _ _ _ ▸ hi2)
  have hcs : ∀ j u, (ints k (m * z) s)[j]? = some u → w.cell? ((⟨g', o', none⟩ : Addr).add j) = some u := by
    intro j u hu
    have hj : j < m * z := by have := (List.getElem?_eq_some_iff.1 hu).1; rwa [len_ints] at this
    rw [at_ints hj] at hu
    obtain rfl := Option.some.inj hu
    have := hR j hj
    unfold Addr.add
    split
    · next h0 => simp_all
    · exact this
  have hS : Src P i.size tx (.slice (some ⟨g', o', none⟩) m mc) m (ints k (m * z) s) w := Src.ofSlice w htx _ m mc _ (by rw [len_ints, is]) hcs (one_ints _ _ _)
  have hfit : c < n + m → Builtin.nextslicecap (n + m) c * i.bytes ≤ 281474976710656 := fun h => growslice_fits h (by rw [ib]; exact Nat.le_trans (Nat.mul_le_mul hb.1 hb.2) (by decide))
  have hzb : ∀ q, (Builtin.zeroCells zv.cells q).size = q * z := fun q => by unfold Builtin.zeroCells; simp [hz]
  rcases hB with ⟨rfl, rfl, rfl⟩ | ⟨g, rfl, h2, h3, h4⟩
  · have eg := run_append_grow_src w t tx ty e i zv ht hi1 iz none 0 0 [] (run_firstCells_none w.drew i.size 0 0 0) _ m _ hS (by omega) (by omega) (hfit (by omega))
    rw [Sem.run_bind, eg] at hx
    refine r_val _ hx ⟨some ⟨w.heap.size, 0, none⟩, _, e, _, rfl, (hO.front.drew.new e _).swap, .inr ⟨w.heap.size, rfl, ?_, grownCap_ge w (0 + m) 0 e, ?_⟩, (KeepsOthers.drew w).trans (.alloc _ _)⟩
    · have := grownCap_ge w (0 + m) 0 e
      simp only [Array.size_append, List.size_toArray, List.length_append, List.length_nil, len_ints, hzb]
      rw [Nat.zero_add, ← Nat.add_mul]; congr 1; omega
    · intro j hj
      rw [Nat.zero_add] at hj
      rw [Array.getElem?_append_left (by simpa [len_ints] using hj)]
      simp only [List.nil_append, List.getElem?_toArray, at_ints hj, cat, Nat.zero_mul, Nat.not_lt_zero, if_false, Nat.sub_zero]
  · have hnz : n * z ≤ c * z := Nat.mul_le_mul_right z h3
    have hg : Bk w g t0 cs := hO.get (by simp [buf])
    by_cases hr : n + m ≤ c
    · have hmz : n * z + m * z ≤ c * z := by rw [← Nat.add_mul]; exact Nat.mul_le_mul_right z hr
      have hth := there_at hg (n * z) (m * z) (by rw [h2]; exact hmz)
      have eg := run_append_room_src w t tx ty e i ht hi1 g 0 n c _ m _ hS hr (fun j hj => by rw [Nat.zero_add, is]; exact (hth j (by rwa [len_ints] at hj)).1) (fun j hj => by rw [Nat.zero_add, is]; exact (hth j (by rwa [len_ints] at hj)).2)
      rw [Sem.run_bind, eg, Nat.zero_add, is] at hx
      refine r_val _ hx ⟨some ⟨g, 0, none⟩, c, t0, putAll cs (n * z) (ints k (m * z) s), rfl, Own.span (L2 := []) hO _ _, .inr ⟨g, rfl, by rw [putAll_size, h2], hr, ?_⟩, keeps_cells _ _ _ _⟩
      intro j hj
      rw [Nat.add_mul] at hj
      rw [putAll_get _ _ _ _ (by rw [len_ints, h2]; exact hmz), len_ints]
      unfold cat
      by_cases hjn : j < n * z
      · rw [if_neg (by omega), if_pos hjn, h4 j hjn]
      · rw [if_pos (by omega), if_neg hjn, at_ints (by omega)]
    · have ho : (Builtin.firstCells i.size n (.slice (some ⟨g, 0, none⟩) n c)).run P w.drew = .ok (ints k (n * z) f).toArray w.drew :=
        run_firstCells_some w.drew i.size n ⟨g, 0, none⟩ n c _ (by rw [len_ints, is]) (fun j v hv => by
          have hj : j < n * z := by have := (List.getElem?_eq_some_iff.1 hv).1; rwa [len_ints] at this
          rw [at_ints hj] at hv
          obtain rfl := Option.some.inj hv
          rw [show (⟨g, 0, none⟩ : Addr).add j = ⟨g, j, none⟩ by unfold Addr.add; split <;> simp_all]
          exact (hg.drew.cell j).trans (h4 j hj))
      have eg := run_append_grow_src w t tx ty e i zv ht hi1 iz (some ⟨g, 0, none⟩) n c _ ho _ m _ hS (by omega) (by omega) (hfit (by omega))
      rw [Sem.run_bind, eg] at hx
      refine r_val _ hx ⟨some ⟨w.heap.size, 0, none⟩, _, e, _, rfl, (hO.front.drew.new e _).swap, .inr ⟨w.heap.size, rfl, ?_, grownCap_ge w (n + m) c e, ?_⟩, (KeepsOthers.drew w).trans (.alloc _ _)⟩
      · have := grownCap_ge w (n + m) c e
        simp only [Array.size_append, List.size_toArray, List.length_append, len_ints, hzb]
        rw [← Nat.add_mul, ← Nat.add_mul]; congr 1; omega
      · intro j hj
        rw [Nat.add_mul] at hj
        rw [Array.getElem?_append_left (by simpa [len_ints] using hj), List.getElem?_toArray]
        unfold cat
        by_cases hjn : j < n * z
        · rw [List.getElem?_append_left (by rwa [len_ints]), at_ints hjn, if_pos hjn]
        · rw [List.getElem?_append_right (by rw [len_ints]; omega), len_ints, at_ints (by omega), if_neg hjn]
/-- Some more, behind it. -/
theorem r_app {k : IntKind} {z g' o' n c m mc b : Nat} {q : Option Addr} {f s : Nat → Int} {t0 t tx ty e e' : TypeId} {zv : Value} {cs : Array Value}
    (hx : (execOp a.eval o).run P w = ((do let v ← Builtin.append_ #[t, tx] ty #[.slice q n c, .slice (some ⟨g', o', none⟩) m mc]; pure (Next.value v)) : Sem Next).run P w)
    (ht : P.underlying t = some (.slice e)) (htx : P.underlying tx = some (.slice e')) (hi : (P.info? e).map (fun i => (i.zero, i.size, i.bytes)) = some (some zv, z, b)) (hz : zv.cells.size = z)
    (hR : RdC w k g' o' (m * z) s) (h0 : 0 < m) (hb : n + m ≤ 1000000 ∧ b ≤ 1000) (hB : Buf k z q n c cs f) (hO : Own w0 (L ++ buf q t0 cs) w) :
    Runs P o a w (fun v : Value => v) (fun v w' => ∃ q' c' t' cs', v = .slice q' (n + m) c' ∧ Own w0 (L ++ buf q' t' cs') w' ∧ Buf k z q' (n + m) c' cs' (cat f (n * z) s)) := fun K Q h => r_appK hx ht htx hi hz hR h0 hb hB hO K Q fun v w1 ⟨q1, c1, t1, cs1, e1, h1, h2, _⟩ => h v w1 ⟨q1, c1, t1, cs1, e1, h1, h2⟩
/-- Nothing, behind it. -/
theorem r_app0 {k : IntKind} {z n c mc b : Nat} {q q' : Option Addr} {f : Nat → Int} {t0 t tx ty e e' : TypeId} {zv : Value} {cs : Array Value}
    (hx : (execOp a.eval o).run P w = ((do let v ← Builtin.append_ #[t, tx] ty #[.slice q n c, .slice q' 0 mc]; pure (Next.value v)) : Sem Next).run P w)
    (ht : P.underlying t = some (.slice e)) (htx : P.underlying tx = some (.slice e')) (hi : (P.info? e).map (fun i => (i.zero, i.size, i.bytes)) = some (some zv, z, b))
    (hB : Buf k z q n c cs f) (hO : Own w0 (L ++ buf q t0 cs) w) :
    Runs P o a w (fun v : Value => v) (fun v w' => ∃ q' c' t' cs', v = .slice q' n c' ∧ Own w0 (L ++ buf q' t' cs') w' ∧ Buf k z q' n c' cs' f) := by
  obtain ⟨i, hi1, hi2⟩ := Option.map_eq_some_iff.1 hi
  have hc := hB.cap
  have e0 : ∀ x : Option Addr, (Builtin.firstCells i.size 0 (.slice x 0 mc)).run P w = .ok #[] w := fun x => by
    cases x with
    | none => exact run_firstCells_none w i.size 0 0 mc
    | some x => exact run_firstCells_some w i.size 0 x 0 mc [] (by simp) (fun j v hv => by simp at hv)
  have eg : (Builtin.append_ #[t, tx] ty #[.slice q n c, .slice q' 0 mc]).run P w = .ok (.slice q n c) w := by
    cases q <;> simp [Builtin.append_, run_underlying ht, run_underlying htx, sizeOf, typeInfo, hi1, Builtin.lenOf, hc, e0, storeCells]
  rw [Sem.run_bind, eg] at hx
  exact r_val _ hx ⟨q, c, t0, cs, rfl, hO, hB⟩
end
end Go.Proofs.YtkmgdpbmkbpkjaaDoor
