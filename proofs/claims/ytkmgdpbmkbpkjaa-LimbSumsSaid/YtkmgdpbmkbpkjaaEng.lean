/-
  Steps of a walk whose memory is a list of blocks known whole: one lemma a kind of operation, in plain regions and in drawn ones.
-/
import Derived.Test.YtkmgdpbmkbpkjaaCmp
import Derived.Deep.RegionHeld3
set_option linter.unusedVariables false
set_option linter.unusedSimpArgs false
namespace Go.Proofs.Ytkmgdpbmkbpkjaa
open Go.RowKit

/-- Blocks that the call made, known whole, each another one; nothing below has turned. -/
structure Own (w0 : World) (L : List (Nat × TypeId × Array Value)) (w : World) : Prop where
  bk : ∀ x ∈ L, Bk w x.1 x.2.1 x.2.2
  nd : (L.map (·.1)).Nodup
  up : ∀ x ∈ L, w0.heap.size ≤ x.1
  bl : Below w0.heap.size w0 w
section
variable {w0 w w1 : World} {L L1 L2 : List (Nat × TypeId × Array Value)}
theorem Own.nil (w : World) : Own w [] w := ⟨(fun x hx => by cases hx), List.nodup_nil, (fun x hx => by cases hx), Below.refl _ _⟩
theorem Own.call (h : Own w0 L w) (hb : Below w.heap.size w w1) : Own w0 L w1 := ⟨fun x hx => (h.bk x hx).under hb, h.nd, h.up, bl_call h.bl hb⟩
theorem Own.drew (h : Own w0 L w) : Own w0 L w.drew := ⟨h.bk, h.nd, h.up, h.bl.drew⟩
theorem Own.new (h : Own w0 L w) (t : TypeId) (cs : Array Value) : Own w0 ((w.heap.size, t, cs) :: L) (w.alloc (.cells cs t)) := by
  refine ⟨fun x hx => ?_, ?_, fun x hx => ?_, bl_alloc h.bl _⟩
  · rcases List.mem_cons.1 hx with rfl | hx
    · exact Bk.new _ _ _
    · exact (h.bk x hx).alloc _
  · rw [List.map_cons, List.nodup_cons]
    refine ⟨fun hm => ?_, h.nd⟩
    obtain ⟨x, hx, he⟩ := List.mem_map.1 hm
    have := (h.bk x hx).lt
    omega
  · rcases List.mem_cons.1 hx with rfl | hx
    · exact h.bl.size
    · exact h.up x hx
theorem Own.get (h : Own w0 L w) {g : Nat} {t : TypeId} {cs : Array Value} (hm : (g, t, cs) ∈ L) : Bk w g t cs := h.bk _ hm
theorem Own.set {g : Nat} {t : TypeId} {cs ds : Array Value} (h : Own w0 (L1 ++ (g, t, cs) :: L2) w) (hs : ds.size = cs.size) : Own w0 (L1 ++ (g, t, ds) :: L2) (w.setCells g 0 ds.toList) := by
  have hg := h.get (g := g) (t := t) (cs := cs) (by simp)
  have hu : w0.heap.size ≤ g := h.up (g, t, cs) (by simp)
  have hnd := h.nd
  have e : (L1 ++ (g, t, ds) :: L2).map (·.1) = (L1 ++ (g, t, cs) :: L2).map (·.1) := by simp
  have far : ∀ x, x ∈ L1 ∨ x ∈ L2 → x.1 ≠ g := by
    intro x hx he
    rw [List.map_append, List.map_cons, List.nodup_append] at hnd
    rcases hx with hx | hx
    · exact hnd.2.2 x.1 (List.mem_map_of_mem hx) g (List.mem_cons_self ..) he
    · have hm : x.1 ∈ L2.map (·.1) := List.mem_map_of_mem hx
      rw [he] at hm
      exact (List.nodup_cons.1 hnd.2.1).1 hm
  refine ⟨fun x hx => ?_, by rw [e]; exact hnd, fun x hx => ?_, bl_cells hu _ _ _ h.bl⟩
  · rcases List.mem_append.1 hx with hx | hx
    · exact Bk.offs (far x (.inl hx)) _ _ _ (h.bk x (by simp [hx]))
    · rcases List.mem_cons.1 hx with rfl | hx
      · exact hg.all hs
      · exact Bk.offs (far x (.inr hx)) _ _ _ (h.bk x (by simp [hx]))
  · rcases List.mem_append.1 hx with hx | hx
    · exact h.up x (by simp [hx])
    · rcases List.mem_cons.1 hx with rfl | hx
      · exact hu
      · exact h.up x (by simp [hx])
theorem Own.tail {x : Nat × TypeId × Array Value} (h : Own w0 (x :: L) w) : Own w0 L w :=
  ⟨fun y hy => h.bk y (List.mem_cons_of_mem _ hy), (List.nodup_cons.1 h.nd).2, fun y hy => h.up y (List.mem_cons_of_mem _ hy), h.bl⟩
theorem Own.perm {L' : List (Nat × TypeId × Array Value)} (h : Own w0 L w) (hp : ∀ x ∈ L', x ∈ L) (hn : (L'.map (·.1)).Nodup) : Own w0 L' w :=
  ⟨fun y hy => h.bk y (hp y hy), hn, fun y hy => h.up y (hp y hy), h.bl⟩
end

/-- A contract of a call that hands back v and turns nothing that was there. -/
def Ret (P : Program) (f : FuncId) (args : Array Value) (w : World) (v : Value) : Prop := Calls P f args w fun e w' => e = .returned v ∧ Below w.heap.size w w'

section
variable {P : Program} {ops : Array Oper} {Q : Exit → Act → World → Prop} {rest : List Oper} {o : Oper} {a : Act} {w w0 : World} {L L1 L2 : List (Nat × TypeId × Array Value)}

theorem wp_enter {K : Act → World → Prop} {f : FuncId} {args : Array Value} {v : Value} (hx : (execOp a.eval o).run P w = .ok (.enter f args) w) (hc : Ret P f args w v)
    (h : ∀ w', Below w.heap.size w w' → K (a.put o.dst v) w') : o.wp P a w K Q := by
  unfold Oper.wp
  rw [hx]
  refine Calls.mono hc ?_
  rintro e w' ⟨rfl, hb⟩
  exact h w' hb

theorem pl_pure (v : Value) (hw : Region.wanted o (yielded ops a.tmps) = true) (hy : (execOp a.eval o).run P w = .ok (.value v) w) (h : wpList P ops Q rest (a.put o.dst v) w) : wpList P ops Q (o :: rest) a w := by
  unfold wpList
  rw [if_pos hw]
  left
  unfold Oper.wp
  rw [hy]
  exact h
theorem pl_skip (hw : Region.wanted o (yielded ops a.tmps) = false) (h : wpList P ops Q rest (a.put o.dst undef) w) : wpList P ops Q (o :: rest) a w := by
  unfold wpList
  rw [if_neg (by rw [hw]; decide)]
  exact h
theorem pl_load (cs : Array Value) (hw : Region.wanted o (yielded ops a.tmps) = true) (ty : TypeId) (x : Operand) (ho : o.op = .load ty x) (g : Nat) (hx : a.eval x = .pointer (some ⟨g, 0, none⟩))
    (t : TypeId) (d : TypeDesc) (hg : Bk w g t cs) (hu : P.underlying ty = some d) (hd : d.isRow = true) (hn : (P.info? ty).map (·.size) = some cs.size)
    (h : wpList P ops Q rest (a.put o.dst (.agg cs)) w) : wpList P ops Q (o :: rest) a w := by
  refine pl_pure (.agg cs) hw ?_ h
  unfold execOp
  have e := run_loadVar_row w g t ty cs (0, 0) d hg hu (by cases d <;> simp_all [TypeDesc.isRow]) hn
  simp only [ho, hx, Instr.loadAt, Instr.sureAddr, Sem.run_bind, Sem.run_pure, Result.andThen_ok, e]
theorem pl_call {f : FuncId} {args : Array Value} (v : Value) (hw : Region.wanted o (yielded ops a.tmps) = true) (hx : (execOp a.eval o).run P w = .ok (.enter f args) w) (hc : Ret P f args w v) (hO : Own w0 L w)
    (h : ∀ w', Own w0 L w' → wpList P ops Q rest (a.put o.dst v) w') : wpList P ops Q (o :: rest) a w := by
  unfold wpList
  rw [if_pos hw]
  exact .inl (wp_enter hx hc fun w' hb => h w' (hO.call hb))
theorem pl_new (t : TypeId) (cs : Array Value) (hw : Region.wanted o (yielded ops a.tmps) = true) (hx : (execOp a.eval o).run P w = .ok (.value (.pointer (some ⟨w.heap.size, 0, none⟩))) (w.alloc (.cells cs t))) (hO : Own w0 L w)
    (h : ∀ w', Own w0 ((w.heap.size, t, cs) :: L) w' → wpList P ops Q rest (a.put o.dst (.pointer (some ⟨w.heap.size, 0, none⟩))) w') : wpList P ops Q (o :: rest) a w := by
  unfold wpList
  rw [if_pos hw]
  left
  unfold Oper.wp
  rw [hx]
  exact h _ (hO.new t cs)
theorem pl_store {g : Nat} {t : TypeId} {cs : Array Value} (ds : Array Value) (hg : o.guard = none) (ty : TypeId) (x y : Operand) (ho : o.op = .store ty x y) (hx : a.eval x = .pointer (some ⟨g, 0, none⟩)) (hy : a.eval y = .agg ds)
    (hO : Own w0 (L1 ++ (g, t, cs) :: L2) w) (hs : ds.size = cs.size) (hi : (P.info? ty).map (·.size) = some ds.size) (h1 : ds.all (·.oneCell') = true)
    (h : ∀ w', Own w0 (L1 ++ (g, t, ds) :: L2) w' → wpList P ops Q rest (a.put o.dst undef) w') : wpList P ops Q (o :: rest) a w := by
  have ht := (hO.get (g := g) (t := t) (cs := cs) (by simp)).there
  rw [← hs] at ht
  exact wpList_store_mid hg ty x y ho g 0 ds hx hy ht hi h1 (h _ (hO.set hs))
theorem pl_nil (h : Q .normal a w) : wpList P ops Q [] a w := h

variable {md : Region.Mode} {fuel : Nat} {listed : Array Bool}
theorem pl_eql {x y : Nat} (b : Bool) (hx : N256 x) (hy : N256 y) (hb : decide (x = y) = b) (hw : Region.wanted o (yielded ops a.tmps) = true) (p q : Operand) (z : TypeId) (ho : o.op = .binOp .eql 22 p q z)
    (hp : a.eval p = .agg (c8 x)) (hq : a.eval q = .agg (c8 y)) (h : wpList Try.prog ops Q rest (a.put o.dst (.bool b)) w) : wpList Try.prog ops Q (o :: rest) a w := by
  refine pl_pure _ hw ?_ h
  subst hb
  have e := run_cmp_eql hx hy p q w
  rw [Sem.run_bind] at e
  unfold execOp
  simp only [ho, hp, hq, Sem.run_bind]
  rw [e]
  rfl
theorem pl_neq {x y : Nat} (b : Bool) (hx : N256 x) (hy : N256 y) (hb : (!decide (x = y)) = b) (hw : Region.wanted o (yielded ops a.tmps) = true) (p q : Operand) (z : TypeId) (ho : o.op = .binOp .neq 22 p q z)
    (hp : a.eval p = .agg (c8 x)) (hq : a.eval q = .agg (c8 y)) (h : wpList Try.prog ops Q rest (a.put o.dst (.bool b)) w) : wpList Try.prog ops Q (o :: rest) a w := by
  refine pl_pure _ hw ?_ h
  subst hb
  have e := run_cmp_neq hx hy p q w
  rw [Sem.run_bind] at e
  unfold execOp
  simp only [ho, hp, hq, Sem.run_bind]
  rw [e]
  rfl
theorem hl_start {id : Nat} {l : List Oper} (l' : Array Bool) (hl : Array.replicate l.length false = l') (hm : P.follows .mixedOrders = true) (hO : Own w0 L w) (h : ∀ w', Own w0 L w' → wpAnyH P .any l.toArray (NoPanic Q) (Own w0 L) l.length l' a w') :
    (Code.region id l.toArray true).wp P Q a w := wp_region_noPanic <| held_start (Own w0 L) hm hO.drew fun _ => by rw [hl]; exact h _ hO.drew
variable (i : Nat) (l' : Array Bool) {o : Oper} (hl : listed.setIfInBounds i true = l') (hi : ops[i]? = some o) (dst : Option Tmp) (hdst : o.dst = dst) (hs : Region.noSelect ops = true) (hf : Region.free md ops listed i = true) (hr : (Region.ready md ops listed).contains i = true)
include hl hi hdst hs hf hr
theorem hl_load (cs : Array Value)
    (hw : Region.wanted o (yielded ops a.tmps) = true) (ty : TypeId) (x : Operand) (ho : o.op = .load ty x) (g : Nat) (hx : a.eval x = .pointer (some ⟨g, 0, none⟩))
    (t : TypeId) (d : TypeDesc) (hm : (g, t, cs) ∈ L) (hu : P.underlying ty = some d) (hd : d.isRow = true) (hn : (P.info? ty).map (·.size) = some cs.size) (hO : Own w0 L w)
    (h : wpAnyH P md ops (NoPanic Q) (Own w0 L) fuel l' (a.put dst (.agg cs)) w) : wpAnyH P md ops (NoPanic Q) (Own w0 L) (fuel + 1) listed a w := by
  subst hl hdst
  exact held_load i cs hi hs hf hr (fun _ _ _ h => False.elim h) hw ty x ho g hx t d (fun _ h => h.get hm) hu hd hn hO h
theorem hl_pure (v : Value)
    (hw : Region.wanted o (yielded ops a.tmps) = true) (hy : ∀ w, (execOp a.eval o).run P w = .ok (.value v) w) (hO : Own w0 L w)
    (h : wpAnyH P md ops (NoPanic Q) (Own w0 L) fuel l' (a.put dst v) w) : wpAnyH P md ops (NoPanic Q) (Own w0 L) (fuel + 1) listed a w := by
  subst hl hdst
  exact held_pure i v hi hs hf hr (fun _ _ _ h => False.elim h) hw hy hO h
theorem hl_skip (hw : Region.wanted o (yielded ops a.tmps) = false) (hO : Own w0 L w)
    (h : wpAnyH P md ops (NoPanic Q) (Own w0 L) fuel l' (a.put dst undef) w) : wpAnyH P md ops (NoPanic Q) (Own w0 L) (fuel + 1) listed a w := by
  subst hl hdst
  exact held_skip i hi hs hf hr (fun _ _ _ h => False.elim h) hw hO h
omit hs hf hr
theorem hl_call {f : FuncId} {args : Array Value} (v : Value) (hr : Region.ready md ops listed = [i]) (hw : Region.wanted o (yielded ops a.tmps) = true)
    (hx : (execOp a.eval o).run P w = .ok (.enter f args) w) (hc : Ret P f args w v) (hO : Own w0 L w)
    (h : ∀ w', Own w0 L w' → wpAnyH P md ops (NoPanic Q) (Own w0 L) fuel l' (a.put dst v) w') : wpAnyH P md ops (NoPanic Q) (Own w0 L) (fuel + 1) listed a w := by
  subst hl hdst
  exact held_go i hr hi hw fun K hK => wp_enter hx hc fun w' hb => hK _ _ (hO.call hb) (h w' (hO.call hb))
end
section
variable {ops : Array Oper} {Q : Exit → Act → World → Prop} {a : Act} {w w0 : World} {L : List (Nat × TypeId × Array Value)} {md : Region.Mode} {fuel : Nat} {listed : Array Bool}
variable (i : Nat) (l' : Array Bool) {o : Oper} (hl : listed.setIfInBounds i true = l') (hi : ops[i]? = some o) (dst : Option Tmp) (hdst : o.dst = dst) (hs : Region.noSelect ops = true) (hf : Region.free md ops listed i = true) (hr : (Region.ready md ops listed).contains i = true)
include hl hi hdst hs hf hr
theorem hl_eql {x y : Nat} (b : Bool) (hx : N256 x) (hy : N256 y) (hb : decide (x = y) = b)
    (hw : Region.wanted o (yielded ops a.tmps) = true) (p q : Operand) (z : TypeId) (ho : o.op = .binOp .eql 22 p q z)
    (hp : a.eval p = .agg (c8 x)) (hq : a.eval q = .agg (c8 y)) (hO : Own w0 L w)
    (h : wpAnyH Try.prog md ops (NoPanic Q) (Own w0 L) fuel l' (a.put dst (.bool b)) w) : wpAnyH Try.prog md ops (NoPanic Q) (Own w0 L) (fuel + 1) listed a w := by
  subst hl hdst
  exact held_eql i b hx hy hb hi hs hf hr (fun _ _ _ h => False.elim h) hw p q z ho hp hq hO h
theorem hl_neq {x y : Nat} (b : Bool) (hx : N256 x) (hy : N256 y) (hb : (!decide (x = y)) = b)
    (hw : Region.wanted o (yielded ops a.tmps) = true) (p q : Operand) (z : TypeId) (ho : o.op = .binOp .neq 22 p q z)
    (hp : a.eval p = .agg (c8 x)) (hq : a.eval q = .agg (c8 y)) (hO : Own w0 L w)
    (h : wpAnyH Try.prog md ops (NoPanic Q) (Own w0 L) fuel l' (a.put dst (.bool b)) w) : wpAnyH Try.prog md ops (NoPanic Q) (Own w0 L) (fuel + 1) listed a w := by
  subst hl hdst
  exact held_neq i b hx hy hb hi hs hf hr (fun _ _ _ h => False.elim h) hw p q z ho hp hq hO h
omit hl hi hdst hs hf hr
theorem hl_done {P : Program} (hr : Region.ready md ops listed = []) (h : Q .normal a w) : wpAnyH P md ops (NoPanic Q) (Own w0 L) fuel listed a w := wpAnyH_done hr (NoPanic.normal h) _
end
end Go.Proofs.Ytkmgdpbmkbpkjaa
