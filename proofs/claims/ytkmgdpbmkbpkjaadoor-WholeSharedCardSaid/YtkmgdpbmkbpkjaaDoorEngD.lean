/-
  Blocks that hold several numbers, written in their midst; steps of a drawn region with stores; two allocations beside a chain of calls.
-/
import Derived.Test.YtkmgdpbmkbpkjaaDoorEngB
import Derived.Test.YtkmgdpbmkbpkjaaDoorEngF
set_option linter.unusedVariables false
set_option linter.unusedSimpArgs false
namespace Go.Proofs.YtkmgdpbmkbpkjaaDoor
open Go.RowKit

theorem len_slab : ∀ l : List Nat, (slab l).length = 32 * l.length
  | [] => rfl
  | n :: l => by rw [slab, List.length_append, len_c8, len_slab l, List.length_cons]; omega
theorem slab_set : ∀ (l : List Nat) (i n j : Nat), i < l.length → (slab (l.set i n))[j]? = if 32 * i ≤ j ∧ j < 32 * i + 32 then (c8 n).toList[j - 32 * i]? else (slab l)[j]?
  | [], _, _, _, h => by simp at h
  | m :: l, 0, n, j, _ => by
    rw [List.set_cons_zero, slab, slab, List.getElem?_append, List.getElem?_append, len_c8, len_c8]
    by_cases h : j < 32
    · rw [if_pos h, if_pos ⟨by omega, by omega⟩]; rfl
    · rw [if_neg h, if_neg (by omega), if_neg h]
  | m :: l, i + 1, n, j, hi => by
    rw [List.set_cons_succ, slab, slab, List.getElem?_append, List.getElem?_append, len_c8]
    by_cases h : j < 32
    · rw [if_pos h, if_neg (by omega), if_pos h]
    · rw [if_neg h, if_neg h, slab_set l i n (j - 32) (by simpa using hi)]
      by_cases h2 : 32 * i ≤ j - 32 ∧ j - 32 < 32 * i + 32
      · rw [if_pos h2, if_pos (by omega), show j - 32 - 32 * i = j - 32 * (i + 1) by omega]
      · rw [if_neg h2, if_neg (by omega)]
theorem slab_put (l : List Nat) (i n : Nat) (hi : i < l.length) : putAll (slab l).toArray (32 * i) (c8 n).toList = (slab (l.set i n)).toArray := by
  apply Array.ext_getElem?
  intro j
  rw [putAll_get _ _ _ _ (by rw [len_c8, List.size_toArray, len_slab]; omega), List.getElem?_toArray, List.getElem?_toArray, slab_set l i n j hi, len_c8]
theorem one_slab : ∀ l : List Nat, ((slab l).toArray).all (·.oneCell') = true
  | [] => by simp [slab]
  | n :: l => by
    have h := one_slab l
    rw [List.all_toArray] at h ⊢
    rw [slab, List.all_append, h, Bool.and_true, Array.all_toList]
    exact one_c8 n
theorem there_at {w : World} {g : Nat} {t : TypeId} {cs : Array Value} (h : Bk w g t cs) (o n : Nat) (ho : o + n ≤ cs.size) : w.there g o n := fun j hj => by
  refine ⟨?_, h.frozen _⟩
  rw [h.cell, Array.getElem?_eq_getElem (by omega)]
  rfl
section
variable {w0 w : World} {L L1 L2 : List (Nat × TypeId × Array Value)} {g : Nat} {t : TypeId} {l : List Nat}
theorem Own.put (h : Own w0 (L1 ++ (g, t, (slab l).toArray) :: L2) w) (i n : Nat) (hi : i < l.length) :
    Own w0 (L1 ++ (g, t, (slab (l.set i n)).toArray) :: L2) (w.setCells g (32 * i) (c8 n).toList) := by
  have hg := h.get (g := g) (t := t) (cs := (slab l).toArray) (by simp)
  have hu : w0.heap.size ≤ g := h.up (g, t, (slab l).toArray) (by simp)
  have hnd := h.nd
  have e : (L1 ++ (g, t, (slab (l.set i n)).toArray) :: L2).map (·.1) = (L1 ++ (g, t, (slab l).toArray) :: L2).map (·.1) := by simp
  have far : ∀ x, x ∈ L1 ∨ x ∈ L2 → x.1 ≠ g := by
    intro x hx he
    rw [List.map_append, List.map_cons, List.nodup_append] at hnd
    rcases hx with hx | hx
    · exact hnd.2.2 x.1 (List.mem_map_of_mem hx) g (List.mem_cons_self ..) he
    · have hm : x.1 ∈ L2.map (·.1) := List.mem_map_of_mem hx
      rw [he] at hm
      exact (List.nodup_cons.1 hnd.2.1).1 hm
  refine ⟨fun x hx => ?_, by rw [e]; exact hnd, fun x hx => ?_, bl_cells hu _ _ _ h.bl⟩
  · rcases List.mem_append.1 hx with hx | hx
    · exact Bk.offs (far x (.inl hx)) _ _ _ (h.bk x (by simp [hx]))
    · rcases List.mem_cons.1 hx with rfl | hx
      · have hp := Bk.putAll (c8 n).toList w (slab l).toArray (32 * i) hg
        rw [slab_put l i n hi] at hp
        exact hp
      · exact Bk.offs (far x (.inr hx)) _ _ _ (h.bk x (by simp [hx]))
  · rcases List.mem_append.1 hx with hx | hx
    · exact h.up x (by simp [hx])
    · rcases List.mem_cons.1 hx with rfl | hx
      · exact hu
      · exact h.up x (by simp [hx])
end

section
variable {P : Program} {ops : Array Oper} {Q : Exit → Act → World → Prop} {rest : List Oper} {o : Oper} {a : Act} {w w0 : World} {L L0 L1 L2 : List (Nat × TypeId × Array Value)} {md : Region.Mode} {S : World → Prop} {X : List Nat} {fuel : Nat} {listed : Array Bool}

/-- One number of a row, turned, in a plain region. -/
theorem wl_put {g : Nat} {t : TypeId} {l : List Nat} (i n : Nat) (hg : o.guard = none) (ty : TypeId) (x y : Operand) (ho : o.op = .store ty x y) (hx : a.eval x = .pointer (some ⟨g, 32 * i, none⟩)) (hy : a.eval y = .agg (c8 n))
    (hO : Own w0 (L1 ++ (g, t, (slab l).toArray) :: L2) w) (hi : i < l.length) (hs : (P.info? ty).map (·.size) = some (c8 n).size)
    (h : ∀ w', Own w0 (L1 ++ (g, t, (slab (l.set i n)).toArray) :: L2) w' → WL P ops Q rest (a.put o.dst undef) w') : WL P ops Q (o :: rest) a w := by
  have ht := there_at (hO.get (g := g) (t := t) (cs := (slab l).toArray) (by simp)) (32 * i) (c8 n).size (by rw [size_c8, List.size_toArray, len_slab]; omega)
  exact .mk (wpList_store_mid hg ty x y ho g (32 * i) (c8 n) hx hy ht hs (one_c8 n) (h _ (hO.put i n hi)).out)
theorem wl_nth {g : Nat} {t : TypeId} {l : List Nat} (i n : Nat) (hgd : o.guard = none) (ty : TypeId) (x : Operand) (ho : o.op = .load ty x) (hx : a.eval x = .pointer (some ⟨g, 32 * i, none⟩))
    (d : TypeDesc) (hm : (g, t, (slab l).toArray) ∈ L) (hn : l[i]? = some n) (hO : Own w0 L w) (hu : P.underlying ty = some d) (hd : d.isRow = true) (hi : (P.info? ty).map (·.size) = some (c8 n).toList.length)
    (h : WL P ops Q rest (a.put o.dst (.agg (c8 n))) w) : WL P ops Q (o :: rest) a w :=
  .mk (pl_nth i n hgd ty x ho hx d hm hn hO hu hd hi h.out)

/-- A drawn region, from its beginning. -/
theorem fl_start {id : Nat} {l : List Oper} (X : List Nat) (l' : Array Bool) (hl : Array.replicate l.length false = l') (hm : P.follows .mixedOrders = true) (hO : Own w0 L w)
    (h : ∀ w', Own w0 L w' → wpF P .any l.toArray (NoPanic Q) (Own w0 L) X l.length l' a w') : (Code.region id l.toArray true).wp P Q a w := by
  subst hl
  refine wp_region_noPanic (wp_region_any hm (wpAny_of_F (S := Own w0 L) (X := X) _ _ _ _ ?_))
  have := h _ hO.drew
  simpa using this
theorem fl_done (hr : Region.ready md ops listed = []) (h : Q .normal a w) : ∀ {fuel : Nat}, wpF P md ops (NoPanic Q) S X fuel listed a w
  | 0 => ⟨hr, NoPanic.normal h⟩
  | _ + 1 => ⟨fun _ => NoPanic.normal h, by rw [hr]; simp⟩
variable (i : Nat) (l' : Array Bool) {o : Oper} (hl : listed.setIfInBounds i true = l') (hi : ops[i]? = some o) (dst : Option Tmp) (hdst : o.dst = dst) (hs : Region.noSelect ops = true) (hf : Region.free md ops listed i = true) (hr : (Region.ready md ops listed).contains i = true) (hiX : X.contains i = false)
include hl hi hdst hs hf hr hiX
theorem fl_take (ld : Bool) (v : Value) (hX : ld = true → ∀ k ∈ X, ∀ ok, ops[k]? = some ok → ∃ e ∈ ok.after, Region.binds md e = true ∧ e.on = i) (hc : ld = true → clean X listed = true)
    (hy : YieldsIf P ops (fun w => ld = true → S w) o v a) (hS : clean X listed = true → S w)
    (h : wpF P md ops (NoPanic Q) S X fuel l' (a.put dst v) w) : wpF P md ops (NoPanic Q) S X (fuel + 1) listed a w := by
  subst hl hdst
  exact wpF_first ld (by simpa using hiX) hi (Region.noSelect_spec hs) (fun _ _ _ h => False.elim h) hX fuel listed a w (Region.free_spec hi hf) (by simpa using hr) hy hS hc h
/-- What yields whatever the world. -/
theorem fl_pure (v : Value) (hw : Region.wanted o (yielded ops a.tmps) = true) (hy : ∀ w, (execOp a.eval o).run P w = .ok (.value v) w) (hS : clean X listed = true → S w)
    (h : wpF P md ops (NoPanic Q) S X fuel l' (a.put dst v) w) : wpF P md ops (NoPanic Q) S X (fuel + 1) listed a w :=
  fl_take i l' hl hi dst hdst hs hf hr hiX false v (fun h => by cases h) (fun h => by cases h) (.inl ⟨hw, fun w _ => hy w⟩) hS h
theorem fl_skip (hw : Region.wanted o (yielded ops a.tmps) = false) (hS : clean X listed = true → S w)
    (h : wpF P md ops (NoPanic Q) S X fuel l' (a.put dst undef) w) : wpF P md ops (NoPanic Q) S X (fuel + 1) listed a w :=
  fl_take i l' hl hi dst hdst hs hf hr hiX false undef (fun h => by cases h) (fun h => by cases h) (.inr ⟨hw, rfl⟩) hS h
/-- The named stores wait for it. -/
def waits (md : Region.Mode) (ops : Array Oper) (X : List Nat) (i : Nat) : Bool := X.all fun k => match ops[k]? with | some ok => ok.after.any fun e => Region.binds md e && e.on == i | none => true
omit hl hi hdst hs hf hr hiX in
theorem waits_spec {i : Nat} (h : waits md ops X i = true) : ∀ k ∈ X, ∀ ok, ops[k]? = some ok → ∃ e ∈ ok.after, Region.binds md e = true ∧ e.on = i := fun k hk ok hok => by
  have := (List.all_eq_true.1 h) k hk
  simp only [hok, Array.any_eq_true', Bool.and_eq_true, beq_iff_eq] at this
  exact this
theorem fl_load (cs : Array Value) (hwt : waits md ops X i = true) (hc : clean X listed = true)
    (hw : Region.wanted o (yielded ops a.tmps) = true) (ty : TypeId) (x : Operand) (ho : o.op = .load ty x) (g : Nat) (hx : a.eval x = .pointer (some ⟨g, 0, none⟩))
    (t : TypeId) (d : TypeDesc) (hm : ∀ w, S w → Bk w g t cs) (hu : P.underlying ty = some d) (hd : d.isRow = true) (hn : (P.info? ty).map (·.size) = some cs.size) (hS : S w)
    (h : wpF P md ops (NoPanic Q) S X fuel l' (a.put dst (.agg cs)) w) : wpF P md ops (NoPanic Q) S X (fuel + 1) listed a w := by
  refine fl_take i l' hl hi dst hdst hs hf hr hiX true (.agg cs) (fun _ => waits_spec hwt) (fun _ => hc) (.inl ⟨hw, fun w hw' => ?_⟩) (fun _ => hS) h
  unfold execOp
  have e := run_loadVar_row w g t ty cs (0, 0) d (hm w (hw' rfl)) hu (by cases d <;> simp_all [TypeDesc.isRow]) hn
  simp only [ho, hx, Instr.loadAt, Instr.sureAddr, Sem.run_bind, Sem.run_pure, Result.andThen_ok, e]
theorem fl_nth {g : Nat} {t : TypeId} {l : List Nat} (k n : Nat) (hwt : waits md ops X i = true) (hc : clean X listed = true)
    (hw : Region.wanted o (yielded ops a.tmps) = true) (ty : TypeId) (x : Operand) (ho : o.op = .load ty x) (hx : a.eval x = .pointer (some ⟨g, 32 * k, none⟩))
    (d : TypeDesc) (hm : ∀ w, S w → Bk w g t (slab l).toArray) (hn : l[k]? = some n) (hu : P.underlying ty = some d) (hd : d.isRow = true) (hs' : (P.info? ty).map (·.size) = some (c8 n).toList.length) (hS : S w)
    (h : wpF P md ops (NoPanic Q) S X fuel l' (a.put dst (.agg (c8 n))) w) : wpF P md ops (NoPanic Q) S X (fuel + 1) listed a w := by
  refine fl_take i l' hl hi dst hdst hs hf hr hiX true (.agg (c8 n)) (fun _ => waits_spec hwt) (fun _ => hc) (.inl ⟨hw, fun w hw' => ?_⟩) (fun _ => hS) h
  have hR := slab_range (hm w (hw' rfl)) k n hn
  have e := run_loadVar_mid w g (32 * k) ty (c8 n).toList d hR hu hd hs'
  rw [Array.toArray_toList] at e
  unfold execOp
  simp only [ho, hx, Instr.loadAt, Instr.sureAddr, Sem.run_bind, Sem.run_pure, Result.andThen_ok, e]
end
section
variable {ops : Array Oper} {Q : Exit → Act → World → Prop} {o : Oper} {a : Act} {w w0 : World} {md : Region.Mode} {S : World → Prop} {X : List Nat} {fuel : Nat} {listed : Array Bool}
variable (i : Nat) (l' : Array Bool) {o : Oper} (hl : listed.setIfInBounds i true = l') (hi : ops[i]? = some o) (dst : Option Tmp) (hdst : o.dst = dst) (hs : Region.noSelect ops = true) (hf : Region.free md ops listed i = true) (hr : (Region.ready md ops listed).contains i = true) (hiX : X.contains i = false)
include hl hi hdst hs hf hr hiX
theorem fl_eql {x y : Nat} (b : Bool) (hx : N256 x) (hy : N256 y) (hb : decide (x = y) = b)
    (hw : Region.wanted o (yielded ops a.tmps) = true) (p q : Operand) (z : TypeId) (ho : o.op = .binOp .eql 22 p q z)
    (hp : a.eval p = .agg (c8 x)) (hq : a.eval q = .agg (c8 y)) (hS : clean X listed = true → S w)
    (h : wpF Tryd.prog md ops (NoPanic Q) S X fuel l' (a.put dst (.bool b)) w) : wpF Tryd.prog md ops (NoPanic Q) S X (fuel + 1) listed a w := by
  refine fl_pure i l' hl hi dst hdst hs hf hr hiX (.bool b) hw (fun w => ?_) hS h
  subst hb
  have e := run_cmp_eql hx hy p q w
  rw [Sem.run_bind] at e
  unfold execOp
  simp only [ho, hp, hq, Sem.run_bind]
  rw [e]
  rfl
theorem fl_neq {x y : Nat} (b : Bool) (hx : N256 x) (hy : N256 y) (hb : (!decide (x = y)) = b)
    (hw : Region.wanted o (yielded ops a.tmps) = true) (p q : Operand) (z : TypeId) (ho : o.op = .binOp .neq 22 p q z)
    (hp : a.eval p = .agg (c8 x)) (hq : a.eval q = .agg (c8 y)) (hS : clean X listed = true → S w)
    (h : wpF Tryd.prog md ops (NoPanic Q) S X fuel l' (a.put dst (.bool b)) w) : wpF Tryd.prog md ops (NoPanic Q) S X (fuel + 1) listed a w := by
  refine fl_pure i l' hl hi dst hdst hs hf hr hiX (.bool b) hw (fun w => ?_) hS h
  subst hb
  have e := run_cmp_neq hx hy p q w
  rw [Sem.run_bind] at e
  unfold execOp
  simp only [ho, hp, hq, Sem.run_bind]
  rw [e]
  rfl
end
section
variable {P : Program} {ops : Array Oper} {Q : Exit → Act → World → Prop} {rest : List Oper} {o : Oper} {a : Act} {w w0 : World} {L L0 L1 L2 : List (Nat × TypeId × Array Value)} {md : Region.Mode} {S : World → Prop} {X : List Nat} {fuel : Nat} {listed : Array Bool}
/-- Whichever comes up. -/
theorem fl_next (hne : Region.ready md ops listed ≠ []) (h : ∀ i ∈ Region.ready md ops listed, ∃ o, ops[i]? = some o ∧ o.guard = none ∧ ∀ K : Act → World → Prop,
      (∀ a' w', (clean X (listed.setIfInBounds i true) = true → S w') → wpF P md ops (NoPanic Q) S X fuel (listed.setIfInBounds i true) a' w' → K a' w') → o.wp P a w K (NoPanic Q)) :
    wpF P md ops (NoPanic Q) S X (fuel + 1) listed a w := by
  refine ⟨fun h0 => absurd h0 hne, fun i hi => ?_⟩
  obtain ⟨o, ho, hg, hk⟩ := h i hi
  unfold wpOp
  simp only [ho]
  rw [if_pos (by simp [Region.wanted, hg])]
  exact .inl (hk _ fun a' w' h1 h2 => ⟨h1, h2⟩)
section
variable (i : Nat) (l' : Array Bool) {o : Oper} (hl : listed.setIfInBounds i true = l') (hi : ops[i]? = some o) (dst : Option Tmp) (hdst : o.dst = dst) (hg : o.guard = none) (hr : Region.ready md ops listed = [i])
include hl hi hdst hg hr
omit hdst in
theorem fl_one (h : ∀ K : Act → World → Prop, (∀ a' w', (clean X l' = true → S w') → wpF P md ops (NoPanic Q) S X fuel l' a' w' → K a' w') → o.wp P a w K (NoPanic Q)) : wpF P md ops (NoPanic Q) S X (fuel + 1) listed a w := by
  subst hl
  exact fl_next (by rw [hr]; simp) fun j hj => by
    rw [hr] at hj
    obtain rfl := List.mem_singleton.1 hj
    exact ⟨o, hi, hg, h⟩
theorem fl_call {f : FuncId} {args : Array Value} (v : Value) (hx : (execOp a.eval o).run P w = .ok (.enter f args) w) (hc : Ret P f args w v) (hO : Own w0 L w) (hS : ∀ w, Own w0 L w → S w)
    (h : ∀ w', Own w0 L w' → wpF P md ops (NoPanic Q) S X fuel l' (a.put dst v) w') : wpF P md ops (NoPanic Q) S X (fuel + 1) listed a w := by
  subst hdst
  exact fl_one i l' hl hi hg hr fun K hK => wp_enter hx hc fun w' hb => hK _ _ (fun _ => hS _ (hO.call hb)) (h w' (hO.call hb))
/-- A store in the midst of a block, named. -/
theorem fl_put {g : Nat} {t : TypeId} {l : List Nat} (k n : Nat) (hX : clean X l' = false) (ty : TypeId) (x y : Operand) (ho : o.op = .store ty x y) (hx : a.eval x = .pointer (some ⟨g, 32 * k, none⟩)) (hy : a.eval y = .agg (c8 n))
    (hO : Own w0 (L1 ++ (g, t, (slab l).toArray) :: L2) w) (hk : k < l.length) (hs : (P.info? ty).map (·.size) = some (c8 n).size)
    (h : ∀ w', Own w0 (L1 ++ (g, t, (slab (l.set k n)).toArray) :: L2) w' → wpF P md ops (NoPanic Q) S X fuel l' (a.put dst undef) w') : wpF P md ops (NoPanic Q) S X (fuel + 1) listed a w := by
  subst hdst
  refine fl_one i l' hl hi hg hr fun K hK => ?_
  have ht := there_at (hO.get (g := g) (t := t) (cs := (slab l).toArray) (by simp)) (32 * k) (c8 n).size (by rw [size_c8, List.size_toArray, len_slab]; omega)
  exact wp_store_mid ty x y ho g (32 * k) (c8 n) hx hy ht hs (one_c8 n) (hK _ _ (fun h => by rw [hX] at h; cases h) (h _ (hO.put k n hk)))
/-- A store of a whole block. -/
theorem fl_set {g : Nat} {t : TypeId} {cs : Array Value} (ds : Array Value) (ty : TypeId) (x y : Operand) (ho : o.op = .store ty x y) (hx : a.eval x = .pointer (some ⟨g, 0, none⟩)) (hy : a.eval y = .agg ds)
    (hO : Own w0 (L1 ++ (g, t, cs) :: L2) w) (hs : ds.size = cs.size) (hn : (P.info? ty).map (·.size) = some ds.size) (h1 : ds.all (·.oneCell') = true) (hS : ∀ w, Own w0 (L1 ++ (g, t, ds) :: L2) w → clean X l' = true → S w)
    (h : ∀ w', Own w0 (L1 ++ (g, t, ds) :: L2) w' → wpF P md ops (NoPanic Q) S X fuel l' (a.put dst undef) w') : wpF P md ops (NoPanic Q) S X (fuel + 1) listed a w := by
  subst hdst
  refine fl_one i l' hl hi hg hr fun K hK => ?_
  have ht := (hO.get (g := g) (t := t) (cs := cs) (by simp)).there
  rw [← hs] at ht
  have hO3 : Own w0 (L1 ++ (g, t, ds) :: L2) (w.setCells g 0 ds.toList) := hO.set hs
  exact wp_store_mid ty x y ho g 0 ds hx hy ht hn h1 (hK _ _ (hS _ hO3) (h _ hO3))
end

theorem clean_no {p : Prop} {l : Array Bool} (h : clean X l = false) : clean X l = true → p := fun h' => by rw [h] at h'; cases h'
/-- A call that is made in state a. -/
def CallAt (P : Program) (ops : Array Oper) (S : World → Prop) (a : Act) (i d : Nat) (v : Value) : Prop :=
  ∃ o, ops[i]? = some o ∧ o.guard = none ∧ o.dst = some d ∧ (∀ cs b, o.op ≠ .select cs b) ∧ ∃ f args, (∀ w, (execOp a.eval o).run P w = .ok (.enter f args) w) ∧ ∀ w, S w → Ret P f args w v
theorem CallAt.mk {a : Act} {i d : Nat} {v : Value} {o : Oper} (hi : ops[i]? = some o) (hs : Region.noSelect ops = true) (hg : o.guard = none) (hd : o.dst = some d) {f : FuncId} {args : Array Value} (hx : ∀ w, (execOp a.eval o).run P w = .ok (.enter f args) w) (hc : ∀ w, S w → Ret P f args w v) :
    CallAt P ops S a i d v := ⟨o, hi, hg, hd, fun cs b => Region.noSelect_spec hs i o cs b hi, f, args, hx, hc⟩
def AllocAt (P : Program) (ops : Array Oper) (i d : Nat) (t : TypeId) (cs : Array Value) : Prop :=
  ∃ o, ops[i]? = some o ∧ o.guard = none ∧ o.dst = some d ∧ ∀ (a : Act) w, (execOp a.eval o).run P w = .ok (.value (.pointer (some ⟨w.heap.size, 0, none⟩))) (w.alloc (.cells cs t))
theorem AllocAt.mk {i d : Nat} {t : TypeId} {cs : Array Value} {o : Oper} (hi : ops[i]? = some o) (hg : o.guard = none) (hd : o.dst = some d)
    (hx : ∀ (a : Act) w, (execOp a.eval o).run P w = .ok (.value (.pointer (some ⟨w.heap.size, 0, none⟩))) (w.alloc (.cells cs t))) : AllocAt P ops i d t cs := ⟨o, hi, hg, hd, hx⟩
def lst (l : Array Bool) : List (Nat × Nat × Value) → Array Bool
  | [] => l
  | r :: rs => lst (l.setIfInBounds r.1 true) rs
def acts (a : Act) : List (Nat × Nat × Value) → Act
  | [] => a
  | r :: rs => acts (a.put (some r.2.1) r.2.2) rs
def CallsOk (P : Program) (ops : Array Oper) (S : World → Prop) (a : Act) : List (Nat × Nat × Value) → Prop
  | [] => True
  | r :: rs => CallAt P ops S a r.1 r.2.1 r.2.2 ∧ CallsOk P ops S (a.put (some r.2.1) r.2.2) rs
def nolook (ops : Array Oper) (d : Nat) (rs : List (Nat × Nat)) : Bool := rs.all fun r => (match ops[r.1]? with | some o => !(o.looksAt ops).contains d | none => true) && !(r.2 == d)
def rdy (md : Region.Mode) (ops : Array Oper) (l : Array Bool) (is : List Nat) : Bool := (Region.ready md ops l).all (is.contains ·) && !(Region.ready md ops l).isEmpty
def ok0 (md : Region.Mode) (ops : Array Oper) : Array Bool → List Nat → Bool
  | _, [] => true
  | l, r :: rs => rdy md ops l [r] && ok0 md ops (l.setIfInBounds r true) rs
def ok1 (md : Region.Mode) (ops : Array Oper) (i : Nat) : Array Bool → List Nat → Bool
  | l, [] => rdy md ops l [i]
  | l, r :: rs => !(r == i) && rdy md ops l [i, r] && ok0 md ops (l.setIfInBounds i true) (r :: rs) && ok1 md ops i (l.setIfInBounds r true) rs
def ok2 (md : Region.Mode) (ops : Array Oper) (i j : Nat) : Array Bool → List Nat → Bool
  | l, [] => rdy md ops l [i, j] && ok1 md ops j (l.setIfInBounds i true) [] && ok1 md ops i (l.setIfInBounds j true) []
  | l, r :: rs => !(r == i) && !(r == j) && rdy md ops l [i, j, r] && ok1 md ops j (l.setIfInBounds i true) (r :: rs) && ok1 md ops i (l.setIfInBounds j true) (r :: rs) && ok2 md ops i j (l.setIfInBounds r true) rs
theorem rdy_ne {l : Array Bool} {is : List Nat} (h : rdy md ops l is = true) : Region.ready md ops l ≠ [] := by
  intro e
  unfold rdy at h
  rw [e] at h
  simp at h
theorem rdy_mem {l : Array Bool} {is : List Nat} (h : rdy md ops l is = true) {i : Nat} (hi : i ∈ Region.ready md ops l) : i ∈ is := by
  unfold rdy at h
  rw [Bool.and_eq_true, List.all_eq_true] at h
  simpa using h.1 i hi
theorem CallAt.step {a : Act} {i d : Nat} {v : Value} (hc : CallAt P ops S a i d v) (hO : Own w0 L w) (hS : ∀ w, Own w0 L w → S w)
    (h : ∀ w', Own w0 L w' → wpF P md ops (NoPanic Q) S X fuel (listed.setIfInBounds i true) (a.put (some d) v) w') :
    ∃ o, ops[i]? = some o ∧ o.guard = none ∧ ∀ K : Act → World → Prop,
      (∀ a' w', (clean X (listed.setIfInBounds i true) = true → S w') → wpF P md ops (NoPanic Q) S X fuel (listed.setIfInBounds i true) a' w' → K a' w') → o.wp P a w K (NoPanic Q) := by
  obtain ⟨o, hi, hg, hd, _, f, args, hx, hr⟩ := hc
  refine ⟨o, hi, hg, fun K hK => wp_enter (hx w) (hr w (hS w hO)) fun w' hb => ?_⟩
  rw [hd]
  exact hK _ _ (fun _ => hS _ (hO.call hb)) (h w' (hO.call hb))
theorem AllocAt.step {i d : Nat} {t : TypeId} {cs : Array Value} (hc : AllocAt P ops i d t cs) (hO : Own w0 L w) (hS : ∀ w, Own w0 L w → S w)
    (h : ∀ g w', Own w0 ((g, t, cs) :: L) w' → wpF P md ops (NoPanic Q) S X fuel (listed.setIfInBounds i true) (a.put (some d) (.pointer (some ⟨g, 0, none⟩))) w') :
    ∃ o, ops[i]? = some o ∧ o.guard = none ∧ ∀ K : Act → World → Prop,
      (∀ a' w', (clean X (listed.setIfInBounds i true) = true → S w') → wpF P md ops (NoPanic Q) S X fuel (listed.setIfInBounds i true) a' w' → K a' w') → o.wp P a w K (NoPanic Q) := by
  obtain ⟨o, hi, hg, hd, hx⟩ := hc
  refine ⟨o, hi, hg, fun K hK => ?_⟩
  unfold Oper.wp
  rw [hx a w]
  exact hK _ _ (fun _ => hS _ (hO.new t cs).tail) (by rw [hd]; exact h _ _ (hO.new t cs))
theorem CallAt.put {a : Act} {i d d' : Nat} {v u : Value} (hc : CallAt P ops S a i d v) (h : ∀ o, ops[i]? = some o → d' ∉ o.looksAt ops) : CallAt P ops S (a.put (some d') u) i d v := by
  obtain ⟨o, hi, hg, hd, hs, f, args, hx, hr⟩ := hc
  refine ⟨o, hi, hg, hd, hs, f, args, fun w => ?_, hr⟩
  rw [execOp_put (ops := ops) o hs a (some d') u (fun e he => by obtain rfl := Option.some.inj he; exact h o hi)]
  exact hx w
theorem CallsOk.put {d' : Nat} {u : Value} : ∀ {rs : List (Nat × Nat × Value)} {a : Act}, CallsOk P ops S a rs → nolook ops d' (rs.map fun r => (r.1, r.2.1)) = true → CallsOk P ops S (a.put (some d') u) rs ∧ acts (a.put (some d') u) rs = (acts a rs).put (some d') u
  | [], _, _, _ => ⟨trivial, rfl⟩
  | r :: rs, a, h, hn => by
    unfold nolook at hn
    rw [List.map_cons, List.all_cons, Bool.and_eq_true, Bool.and_eq_true] at hn
    obtain ⟨⟨h1, h2⟩, h3⟩ := hn
    have hne : r.2.1 ≠ d' := by simpa using h2
    have hc : (a.put (some d') u).put (some r.2.1) r.2.2 = (a.put (some r.2.1) r.2.2).put (some d') u := Act.put_comm a u r.2.2 fun e he hq => by
      obtain rfl := Option.some.inj he
      exact hne (Option.some.inj hq)
    have ih := CallsOk.put (d' := d') (u := u) h.2 h3
    refine ⟨⟨h.1.put fun o ho => ?_, ?_⟩, ?_⟩
    · simp only [ho] at h1
      simpa using h1
    · rw [hc]; exact ih.1
    · show acts ((a.put (some d') u).put (some r.2.1) r.2.2) rs = _
      rw [hc]; exact ih.2
theorem lst_set : ∀ (rs : List (Nat × Nat × Value)) (l : Array Bool) (i : Nat), (∀ r ∈ rs, r.1 ≠ i) → lst (l.setIfInBounds i true) rs = (lst l rs).setIfInBounds i true
  | [], _, _, _ => rfl
  | r :: rs, l, i, h => by
    show lst ((l.setIfInBounds i true).setIfInBounds r.1 true) rs = _
    rw [Array.setIfInBounds_comm _ _ (Ne.symm (h r (List.mem_cons_self ..))), lst_set rs _ i fun r hr => h r (List.mem_cons_of_mem _ hr)]
    rfl
theorem ok1_ne {i : Nat} : ∀ {rs : List (Nat × Nat × Value)} {l : Array Bool}, ok1 md ops i l (rs.map (·.1)) = true → ∀ r ∈ rs, r.1 ≠ i
  | [], _, _ => fun r hr => by cases hr
  | x :: rs, l, h => fun r hr => by
    rw [List.map_cons, ok1] at h
    simp only [Bool.and_eq_true, Bool.not_eq_true', beq_eq_false_iff_ne] at h
    rcases List.mem_cons.1 hr with rfl | hr
    · exact h.1.1.1
    · exact ok1_ne h.2 r hr
theorem calls0 : ∀ (rs : List (Nat × Nat × Value)) (l : Array Bool) (a : Act), ok0 md ops l (rs.map (·.1)) = true → CallsOk P ops S a rs → (∀ w, Own w0 L w → S w) →
    (∀ w', Own w0 L w' → wpF P md ops (NoPanic Q) S X fuel (lst l rs) (acts a rs) w') → ∀ w, Own w0 L w → wpF P md ops (NoPanic Q) S X (fuel + rs.length) l a w
  | [], _, _, _, _, _, h => h
  | r :: rs, l, a, ho, hc, hS, h => fun w hO => by
    rw [List.map_cons, ok0, Bool.and_eq_true] at ho
    refine fl_next (rdy_ne ho.1) fun j hj => ?_
    obtain rfl := List.mem_singleton.1 (rdy_mem ho.1 hj)
    exact hc.1.step hO hS fun w' hO' => calls0 rs _ _ ho.2 hc.2 hS h w' hO'
theorem calls1 {i d : Nat} {t : TypeId} {cs : Array Value} (hA : AllocAt P ops i d t cs) : ∀ (rs : List (Nat × Nat × Value)) (l : Array Bool) (a : Act) (L : List (Nat × TypeId × Array Value)), ok1 md ops i l (rs.map (·.1)) = true → CallsOk P ops S a rs →
    nolook ops d (rs.map fun r => (r.1, r.2.1)) = true → (∀ w, Own w0 L w → S w) →
    (∀ g w', Own w0 ((g, t, cs) :: L) w' → wpF P md ops (NoPanic Q) S X fuel ((lst l rs).setIfInBounds i true) ((acts a rs).put (some d) (.pointer (some ⟨g, 0, none⟩))) w') →
    ∀ w, Own w0 L w → wpF P md ops (NoPanic Q) S X (fuel + rs.length + 1) l a w
  | [], l, a, L, ho, _, _, hS, h => fun w hO => by
    refine fl_next (rdy_ne ho) fun j hj => ?_
    obtain rfl := List.mem_singleton.1 (rdy_mem ho hj)
    exact hA.step hO hS h
  | r :: rs, l, a, L, ho, hc, hn, hS, h => fun w hO => by
    have hne := ok1_ne ho
    rw [List.map_cons, ok1] at ho
    simp only [Bool.and_eq_true] at ho
    obtain ⟨⟨⟨ho0, ho1⟩, ho2⟩, ho3⟩ := ho
    refine fl_next (rdy_ne ho1) fun j hj => ?_
    rcases List.mem_cons.1 (rdy_mem ho1 hj) with rfl | hj
    · refine hA.step hO hS fun g w' hO' => ?_
      obtain ⟨k1, k2⟩ := hc.put (u := .pointer (some ⟨g, 0, none⟩)) hn
      refine calls0 (r :: rs) _ _ ho2 k1 (fun w hw => hS w hw.tail) (fun w2 hO2 => ?_) w' hO'
      rw [k2, lst_set _ _ _ hne]
      exact h g w2 hO2
    · obtain rfl := List.mem_singleton.1 hj
      refine hc.1.step hO hS fun w' hO' => calls1 hA rs _ _ L ho3 hc.2 ?_ hS h w' hO'
      unfold nolook at hn ⊢
      rw [List.map_cons, List.all_cons, Bool.and_eq_true] at hn
      exact hn.2
theorem Own.flip {x y : Nat × TypeId × Array Value} (h : Own w0 (x :: y :: L) w) : Own w0 (y :: x :: L) w := by
  refine h.perm (fun z hz => ?_) ?_
  · simp only [List.mem_cons] at hz ⊢
    rcases hz with h | h | h
    · exact .inr (.inl h)
    · exact .inl h
    · exact .inr (.inr h)
  · have := h.nd
    simp only [List.map_cons, List.nodup_cons, List.mem_cons, not_or] at this ⊢
    exact ⟨⟨Ne.symm this.1.1, this.2.1⟩, this.1.2, this.2.2⟩
theorem calls2 {i d j e : Nat} {t u : TypeId} {cs ds : Array Value} (hA : AllocAt P ops i d t cs) (hB : AllocAt P ops j e u ds) (hde : d ≠ e) (hij : i ≠ j) : ∀ (rs : List (Nat × Nat × Value)) (l : Array Bool) (a : Act), ok2 md ops i j l (rs.map (·.1)) = true → CallsOk P ops S a rs →
    nolook ops d (rs.map fun r => (r.1, r.2.1)) = true → nolook ops e (rs.map fun r => (r.1, r.2.1)) = true → (∀ w, Own w0 L w → S w) →
    (∀ g g' w', Own w0 ((g, t, cs) :: (g', u, ds) :: L) w' → wpF P md ops (NoPanic Q) S X fuel (((lst l rs).setIfInBounds i true).setIfInBounds j true) (((acts a rs).put (some d) (.pointer (some ⟨g, 0, none⟩))).put (some e) (.pointer (some ⟨g', 0, none⟩))) w') →
    ∀ w, Own w0 L w → wpF P md ops (NoPanic Q) S X (fuel + rs.length + 1 + 1) l a w := by
  intro rs
  have fin1 : ∀ (rs : List (Nat × Nat × Value)) (l : Array Bool) (a : Act), CallsOk P ops S a rs → nolook ops d (rs.map fun r => (r.1, r.2.1)) = true → nolook ops e (rs.map fun r => (r.1, r.2.1)) = true → (∀ w, Own w0 L w → S w) →
      ok1 md ops j (l.setIfInBounds i true) (rs.map (·.1)) = true → (∀ r ∈ rs, r.1 ≠ i) →
      (∀ g g' w', Own w0 ((g, t, cs) :: (g', u, ds) :: L) w' → wpF P md ops (NoPanic Q) S X fuel (((lst l rs).setIfInBounds i true).setIfInBounds j true) (((acts a rs).put (some d) (.pointer (some ⟨g, 0, none⟩))).put (some e) (.pointer (some ⟨g', 0, none⟩))) w') →
      ∀ g w', Own w0 ((g, t, cs) :: L) w' → wpF P md ops (NoPanic Q) S X (fuel + rs.length + 1) (l.setIfInBounds i true) (a.put (some d) (.pointer (some ⟨g, 0, none⟩))) w' := by
    intro rs l a hc hn hn' hS ho hri h g w' hO'
    obtain ⟨k1, k2⟩ := hc.put (u := .pointer (some ⟨g, 0, none⟩)) hn
    refine calls1 hB rs _ _ _ ho k1 hn' (fun w hw => hS w hw.tail) (fun g' w2 hO2 => ?_) w' hO'
    rw [k2, lst_set _ _ _ hri]
    exact h g g' w2 hO2.flip
  have fin2 : ∀ (rs : List (Nat × Nat × Value)) (l : Array Bool) (a : Act), CallsOk P ops S a rs → nolook ops d (rs.map fun r => (r.1, r.2.1)) = true → nolook ops e (rs.map fun r => (r.1, r.2.1)) = true → (∀ w, Own w0 L w → S w) →
      ok1 md ops i (l.setIfInBounds j true) (rs.map (·.1)) = true → (∀ r ∈ rs, r.1 ≠ j) →
      (∀ g g' w', Own w0 ((g, t, cs) :: (g', u, ds) :: L) w' → wpF P md ops (NoPanic Q) S X fuel (((lst l rs).setIfInBounds i true).setIfInBounds j true) (((acts a rs).put (some d) (.pointer (some ⟨g, 0, none⟩))).put (some e) (.pointer (some ⟨g', 0, none⟩))) w') →
      ∀ g' w', Own w0 ((g', u, ds) :: L) w' → wpF P md ops (NoPanic Q) S X (fuel + rs.length + 1) (l.setIfInBounds j true) (a.put (some e) (.pointer (some ⟨g', 0, none⟩))) w' := by
    intro rs l a hc hn hn' hS ho hrj h g' w' hO'
    obtain ⟨k1, k2⟩ := hc.put (u := .pointer (some ⟨g', 0, none⟩)) hn'
    refine calls1 hA rs _ _ _ ho k1 hn (fun w hw => hS w hw.tail) (fun g w2 hO2 => ?_) w' hO'
    rw [k2, lst_set _ _ _ hrj]
    have e1 : ((acts a rs).put (some e) (.pointer (some ⟨g', 0, none⟩))).put (some d) (.pointer (some ⟨g, 0, none⟩)) = ((acts a rs).put (some d) (.pointer (some ⟨g, 0, none⟩))).put (some e) (.pointer (some ⟨g', 0, none⟩)) :=
      Act.put_comm _ _ _ fun x hx hq => by
        obtain rfl := Option.some.inj hx
        exact hde (Option.some.inj hq)
    rw [e1, ← Array.setIfInBounds_comm _ _ hij]
    exact h g g' w2 hO2
  induction rs with
  | nil =>
    intro l a ho hc hn hn' hS h w hO
    rw [List.map_nil, ok2] at ho
    simp only [Bool.and_eq_true] at ho
    obtain ⟨⟨ho1, ho2⟩, ho3⟩ := ho
    refine fl_next (rdy_ne ho1) fun k hk => ?_
    rcases List.mem_cons.1 (rdy_mem ho1 hk) with rfl | hk
    · exact hA.step hO hS (fin1 [] l a hc hn hn' hS ho2 (fun r hr => by cases hr) h)
    · obtain rfl := List.mem_singleton.1 hk
      exact hB.step hO hS (fin2 [] l a hc hn hn' hS ho3 (fun r hr => by cases hr) h)
  | cons r rs ih =>
    intro l a ho hc hn hn' hS h w hO
    rw [List.map_cons, ok2] at ho
    simp only [Bool.and_eq_true] at ho
    obtain ⟨⟨⟨⟨⟨ho0, ho00⟩, ho1⟩, ho2⟩, ho3⟩, ho4⟩ := ho
    refine fl_next (rdy_ne ho1) fun k hk => ?_
    rcases List.mem_cons.1 (rdy_mem ho1 hk) with rfl | hk
    · exact hA.step hO hS (fin1 (r :: rs) l a hc hn hn' hS ho2 (ok1_ne (rs := r :: rs) ho3) h)
    · rcases List.mem_cons.1 hk with rfl | hk
      · exact hB.step hO hS (fin2 (r :: rs) l a hc hn hn' hS ho3 (ok1_ne (rs := r :: rs) ho2) h)
      · obtain rfl := List.mem_singleton.1 hk
        refine hc.1.step hO hS fun w' hO' => ih _ _ ho4 hc.2 ?_ ?_ hS h w' hO'
        · unfold nolook at hn ⊢
          rw [List.map_cons, List.all_cons, Bool.and_eq_true] at hn
          exact hn.2
        · unfold nolook at hn' ⊢
          rw [List.map_cons, List.all_cons, Bool.and_eq_true] at hn'
          exact hn'.2
/-- The rest of the walk once, whatever order the one new block was made in. -/
theorem fl_cut {t : TypeId} {cs : Array Value} {a' : Nat → Act} (h : (∀ g w', Own w0 ((g, t, cs) :: L) w' → Q .normal (a' g) w') → wpF P md ops (NoPanic Q) S X fuel listed a w)
    (rest : ∀ g w', Own w0 ((g, t, cs) :: L) w' → Q .normal (a' g) w') : wpF P md ops (NoPanic Q) S X fuel listed a w := h rest
/-- Operation i, taken next. -/
def StepF (P : Program) (md : Region.Mode) (ops : Array Oper) (Q : Exit → Act → World → Prop) (S : World → Prop) (X : List Nat) (fuel : Nat) (listed : Array Bool) (a : Act) (w : World) (i : Nat) : Prop :=
  ∃ o, ops[i]? = some o ∧ o.guard = none ∧ ∀ K : Act → World → Prop, (∀ a' w', (clean X (listed.setIfInBounds i true) = true → S w') → wpF P md ops (NoPanic Q) S X fuel (listed.setIfInBounds i true) a' w' → K a' w') → o.wp P a w K (NoPanic Q)
theorem fl_both (i j : Nat) (hr : Region.ready md ops listed = [i, j]) (h : StepF P md ops Q S X fuel listed a w i) (h' : StepF P md ops Q S X fuel listed a w j) : wpF P md ops (NoPanic Q) S X (fuel + 1) listed a w :=
  fl_next (by rw [hr]; simp) fun k hk => by
    rw [hr] at hk
    rcases List.mem_cons.1 hk with rfl | hk
    · exact h
    · obtain rfl := List.mem_singleton.1 hk; exact h'
section
variable (i : Nat) (l' : Array Bool) {o : Oper} (hl : listed.setIfInBounds i true = l') (hi : ops[i]? = some o) (dst : Option Tmp) (hdst : o.dst = dst) (hg : o.guard = none)
include hl hi hdst hg
theorem sf_call {f : FuncId} {args : Array Value} (v : Value) (hx : (execOp a.eval o).run P w = .ok (.enter f args) w) (hc : Ret P f args w v) (hO : Own w0 L w) (hS : ∀ w, Own w0 L w → S w)
    (h : ∀ w', Own w0 L w' → wpF P md ops (NoPanic Q) S X fuel l' (a.put dst v) w') : StepF P md ops Q S X fuel listed a w i := by
  subst hl hdst
  exact ⟨o, hi, hg, fun K hK => wp_enter hx hc fun w' hb => hK _ _ (fun _ => hS _ (hO.call hb)) (h w' (hO.call hb))⟩
theorem sf_alloc (t : TypeId) (cs : Array Value) (hx : (execOp a.eval o).run P w = .ok (.value (.pointer (some ⟨w.heap.size, 0, none⟩))) (w.alloc (.cells cs t))) (hO : Own w0 L w) (hS : ∀ w, Own w0 L w → S w)
    (h : ∀ g w', Own w0 ((g, t, cs) :: L) w' → wpF P md ops (NoPanic Q) S X fuel l' (a.put dst (.pointer (some ⟨g, 0, none⟩))) w') : StepF P md ops Q S X fuel listed a w i := by
  subst hl hdst
  refine ⟨o, hi, hg, fun K hK => ?_⟩
  unfold Oper.wp
  rw [hx]
  exact hK _ _ (fun _ => hS _ (hO.new t cs).tail) (h _ _ (hO.new t cs))
theorem fl_alloc (hr : Region.ready md ops listed = [i]) (t : TypeId) (cs : Array Value) (hx : (execOp a.eval o).run P w = .ok (.value (.pointer (some ⟨w.heap.size, 0, none⟩))) (w.alloc (.cells cs t))) (hO : Own w0 L w) (hS : ∀ w, Own w0 L w → S w)
    (h : ∀ g w', Own w0 ((g, t, cs) :: L) w' → wpF P md ops (NoPanic Q) S X fuel l' (a.put dst (.pointer (some ⟨g, 0, none⟩))) w') : wpF P md ops (NoPanic Q) S X (fuel + 1) listed a w :=
  fl_next (by rw [hr]; simp) fun k hk => by
    rw [hr] at hk
    obtain rfl := List.mem_singleton.1 hk
    exact sf_alloc _ l' hl hi dst hdst hg t cs hx hO hS h
end
/-- A guarded call. -/
theorem fl_callg (i : Nat) (l' : Array Bool) {o : Oper} (hl : listed.setIfInBounds i true = l') (hi : ops[i]? = some o) (dst : Option Tmp) (hdst : o.dst = dst) (hw : Region.wanted o (yielded ops a.tmps) = true) (hr : Region.ready md ops listed = [i])
    {f : FuncId} {args : Array Value} (v : Value) (hx : (execOp a.eval o).run P w = .ok (.enter f args) w) (hc : Ret P f args w v) (hO : Own w0 L w) (hS : ∀ w, Own w0 L w → S w)
    (h : ∀ w', Own w0 L w' → wpF P md ops (NoPanic Q) S X fuel l' (a.put dst v) w') : wpF P md ops (NoPanic Q) S X (fuel + 1) listed a w := by
  subst hl hdst
  refine ⟨fun h0 => absurd h0 (by rw [hr]; simp), fun j hj => ?_⟩
  rw [hr] at hj
  obtain rfl := List.mem_singleton.1 hj
  unfold wpOp
  simp only [hi]
  rw [if_pos hw]
  exact .inl (wp_enter hx hc fun w' hb => ⟨fun _ => hS _ (hO.call hb), h w' (hO.call hb)⟩)
end
end Go.Proofs.YtkmgdpbmkbpkjaaDoor
