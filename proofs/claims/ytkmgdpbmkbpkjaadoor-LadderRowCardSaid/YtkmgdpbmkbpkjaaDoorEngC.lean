/-
  A slice of numbers as an argument: opened; the place of one of them reckoned, and it read out of old memory, in plain regions and in drawn ones.
-/
import Derived.Test.YtkmgdpbmkbpkjaaDoorEngB
import Derived.Test.YtkmgdpbmkbpkjaaDoorArr
import Derived.Deep.Slices
import Derived.ProofKit
import Derived.SizedLaws
import Derived.ChangeOld
import Derived.Still
set_option linter.unusedVariables false
set_option linter.unusedSimpArgs false
namespace Go.Proofs.YtkmgdpbmkbpkjaaDoor
open Go.RowKit Go.ChangeShapes

/-- Numbers lie behind an address, one behind the other. -/
def Rows (w : World) (ad : Addr) (l : List Nat) : Prop := ∀ i n, l[i]? = some n → ∀ j, j < 32 → w.cell? ((ad.add (i * 32)).add j) = some (.int .u8 ((n / 256 ^ j % 256 : Nat) : Int))
theorem add_block (ad : Addr) (k : Nat) : (ad.add k).block = ad.block := by unfold Addr.add; split <;> rfl
theorem Rows.below {w0 w : World} {ad : Addr} {l : List Nat} (h : Rows w0 ad l) (hb : Below w0.heap.size w0 w) : Rows w ad l := fun i n hi j hj =>
  (hb.cell (World.block_lt_of_cell? w0 _ (h i n hi j hj))).trans (h i n hi j hj)

section
variable {P : Program}
theorem run_indexAt {T e : TypeId} (hT : P.underlying T = some (.slice e)) (he : (P.info? e).map (·.size) = some 32) (ad : Addr) (len c i : Nat) (hi : i < len) (w : World) :
    (Instr.indexAt T (.slice (some ad) len c) (.int .i64 i)).run P w = .ok (.pointer (some (ad.add (i * 32)))) w := by
  obtain ⟨x, hx, hs⟩ := Option.map_eq_some_iff.1 he
  have h1 : (0 : Int) ≤ i ∧ (i : Int) < len := ⟨by omega, by omega⟩
  simp [Instr.indexAt, asIntOf, run_underlying hT, sizeOf, typeInfo, hx, hs, h1, hi]
  try omega
theorem run_loadOld {T : TypeId} {d : TypeDesc} (hu : P.underlying T = some d) (hd : d.isRow = true) (hi : (P.info? T).map (·.size) = some 32) {w : World} {ad : Addr} {l : List Nat} (h : Rows w ad l) (i n : Nat) (hn : l[i]? = some n) :
    (Instr.loadAt T (.pointer (some (ad.add (i * 32))))).run P w = .ok (.agg (c8 n)) w := by
  have hl : (loadCells (ad.add (i * 32)) 32).run P w = .ok (c8 n) w := by
    have := run_loadCells_list (P := P) w (ad.add (i * 32)) (c8 n).toList (fun j v hv => by
      have hj : j < 32 := by have := (List.getElem?_eq_some_iff.1 hv).1; rwa [len_c8] at this
      have hg := get_c8 n j hj
      rw [Array.getElem?_toList, hg] at hv
      rw [← hv]
      exact h i n hn j hj)
    rw [len_c8, Array.toArray_toList] at this
    exact this
  obtain ⟨x, hx, hs⟩ := Option.map_eq_some_iff.1 hi
  have hagg : (isAgg T).run P w = .ok true w := by
    unfold isAgg
    rw [Sem.run_bind, run_underlying hu w]
    cases d <;> simp_all
  simp [Instr.loadAt, Instr.sureAddr, loadVar, Sem.run_bind, hagg, sizeOf, typeInfo, hx, hs, hl]
end

section
variable {P : Program} {ops : Array Oper} {Q : Exit → Act → World → Prop} {rest : List Oper} {o : Oper} {a : Act} {w w0 : World} {L : List (Nat × TypeId × Array Value)} {md : Region.Mode} {fuel : Nat} {listed : Array Bool}
theorem pl_idx {T e : TypeId} (ad : Addr) (len c i : Nat) (hw : Region.wanted o (yielded ops a.tmps) = true) (x y : Operand) (ho : o.op = .indexAddr T x y) (hx : a.eval x = .slice (some ad) len c) (hy : a.eval y = .int .i64 (i : Int)) (hlt : i < len)
    (hT : P.underlying T = some (.slice e)) (he : (P.info? e).map (·.size) = some 32)
    (h : wpList P ops Q rest (a.put o.dst (.pointer (some (ad.add (i * 32))))) w) : wpList P ops Q (o :: rest) a w := by
  refine pl_pure _ hw ?_ h
  unfold execOp
  simp only [ho, hx, hy]
  rw [Sem.run_bind, run_indexAt hT he ad len c i hlt]
  rfl
theorem pl_old {T : TypeId} {d : TypeDesc} (ad : Addr) (l : List Nat) (i n : Nat) (hw : Region.wanted o (yielded ops a.tmps) = true) (x : Operand) (ho : o.op = .load T x) (hx : a.eval x = .pointer (some (ad.add (i * 32))))
    (hu : P.underlying T = some d) (hd : d.isRow = true) (hi : (P.info? T).map (·.size) = some 32) (hR : Rows w0 ad l) (hn : l[i]? = some n) (hO : Own w0 L w)
    (h : wpList P ops Q rest (a.put o.dst (.agg (c8 n))) w) : wpList P ops Q (o :: rest) a w := by
  refine pl_pure _ hw ?_ h
  unfold execOp
  simp only [ho, hx]
  rw [Sem.run_bind, run_loadOld hu hd hi (hR.below hO.bl) i n hn]
  rfl
variable (i : Nat) (l' : Array Bool) {o : Oper} (hl : listed.setIfInBounds i true = l') (hi : ops[i]? = some o) (dst : Option Tmp) (hdst : o.dst = dst) (hs : Region.noSelect ops = true) (hf : Region.free md ops listed i = true) (hr : (Region.ready md ops listed).contains i = true)
include hl hi hdst hs hf hr
theorem hl_idx {T e : TypeId} (ad : Addr) (len c j : Nat) (hw : Region.wanted o (yielded ops a.tmps) = true) (x y : Operand) (ho : o.op = .indexAddr T x y) (hx : a.eval x = .slice (some ad) len c) (hy : a.eval y = .int .i64 (j : Int)) (hlt : j < len)
    (hT : P.underlying T = some (.slice e)) (he : (P.info? e).map (·.size) = some 32) (hO : Own w0 L w)
    (h : wpAnyH P md ops (NoPanic Q) (Own w0 L) fuel l' (a.put dst (.pointer (some (ad.add (j * 32))))) w) : wpAnyH P md ops (NoPanic Q) (Own w0 L) (fuel + 1) listed a w := by
  refine hl_pure i l' hl hi dst hdst hs hf hr _ hw (fun w => ?_) hO h
  unfold execOp
  simp only [ho, hx, hy]
  rw [Sem.run_bind, run_indexAt hT he ad len c j hlt]
  rfl
theorem hl_old {T : TypeId} {d : TypeDesc} (ad : Addr) (l : List Nat) (j n : Nat) (hw : Region.wanted o (yielded ops a.tmps) = true) (x : Operand) (ho : o.op = .load T x) (hx : a.eval x = .pointer (some (ad.add (j * 32))))
    (hu : P.underlying T = some d) (hd : d.isRow = true) (hi' : (P.info? T).map (·.size) = some 32) (hR : Rows w0 ad l) (hn : l[j]? = some n) (hO : Own w0 L w)
    (h : wpAnyH P md ops (NoPanic Q) (Own w0 L) fuel l' (a.put dst (.agg (c8 n))) w) : wpAnyH P md ops (NoPanic Q) (Own w0 L) (fuel + 1) listed a w := by
  subst hl hdst
  refine wpAnyH_take hi hs hf hr (fun _ _ _ h => False.elim h) (Or.inl ⟨hw, fun w hw' => ?_⟩) hO h
  unfold execOp
  simp only [ho, hx]
  rw [Sem.run_bind, run_loadOld hu hd hi' (hR.below hw'.bl) j n hn]
  rfl
/-- An operation on numbers alone. -/
theorem hl_val (v : Value) (hw : Region.wanted o (yielded ops a.tmps) = true) (hy : ∀ w, (execOp a.eval o).run P w = .ok (.value v) w) (hO : Own w0 L w)
    (h : wpAnyH P md ops (NoPanic Q) (Own w0 L) fuel l' (a.put dst v) w) : wpAnyH P md ops (NoPanic Q) (Own w0 L) (fuel + 1) listed a w := hl_pure i l' hl hi dst hdst hs hf hr v hw hy hO h
end
section
variable {P : Program} {ops : Array Oper} {Q : Act → Prop} {rest : List Oper} {o : Oper} {a : Act} {w w0 : World} {L : List (Nat × TypeId × Array Value)}
/-- A region that draws its order, of which the first n operations read alone and the rest stand in one order. -/
theorem sl_start {Q : Exit → Act → World → Prop} {id : Nat} {l : List Oper} (n : Nat) (hm : P.follows .mixedOrders = true) (hB : Region.lexTailB .any l.toArray n = true) (hO : Own w0 L w)
    (h : ∀ w', Own w0 L w' → wpStill P l.toArray w' (fun a' => wpList P l.toArray Q (l.drop n) a' w') (l.take n) a) : (Code.region id l.toArray true).wp P Q a w := drawn_region n hm hB (h _ hO.drew)
theorem sl_pure (v : Value) (hw : Region.wanted o (yielded ops a.tmps) = true) (hy : (execOp a.eval o).run P w = .ok (.value v) w) (h : wpStill P ops w Q rest (a.put o.dst v)) : wpStill P ops w Q (o :: rest) a := by
  unfold wpStill
  rw [if_pos hw]
  unfold Oper.still
  rw [hy]
  exact ⟨rfl, h⟩
theorem sl_load (cs : Array Value) (hw : Region.wanted o (yielded ops a.tmps) = true) (ty : TypeId) (x : Operand) (ho : o.op = .load ty x) (g : Nat) (hx : a.eval x = .pointer (some ⟨g, 0, none⟩))
    (t : TypeId) (d : TypeDesc) (hg : Bk w g t cs) (hu : P.underlying ty = some d) (hd : d.isRow = true) (hn : (P.info? ty).map (·.size) = some cs.size)
    (h : wpStill P ops w Q rest (a.put o.dst (.agg cs))) : wpStill P ops w Q (o :: rest) a := by
  refine sl_pure (.agg cs) hw ?_ h
  unfold execOp
  have e := run_loadVar_row w g t ty cs (0, 0) d hg hu (by cases d <;> simp_all [TypeDesc.isRow]) hn
  simp only [ho, hx, Instr.loadAt, Instr.sureAddr, Sem.run_bind, Sem.run_pure, Result.andThen_ok, e]
theorem sl_idx {T e : TypeId} (ad : Addr) (len c i : Nat) (hw : Region.wanted o (yielded ops a.tmps) = true) (x y : Operand) (ho : o.op = .indexAddr T x y) (hx : a.eval x = .slice (some ad) len c) (hy : a.eval y = .int .i64 (i : Int)) (hlt : i < len)
    (hT : P.underlying T = some (.slice e)) (he : (P.info? e).map (·.size) = some 32)
    (h : wpStill P ops w Q rest (a.put o.dst (.pointer (some (ad.add (i * 32)))))) : wpStill P ops w Q (o :: rest) a := by
  refine sl_pure _ hw ?_ h
  unfold execOp
  simp only [ho, hx, hy]
  rw [Sem.run_bind, run_indexAt hT he ad len c i hlt]
  rfl
theorem sl_old {T : TypeId} {d : TypeDesc} (ad : Addr) (l : List Nat) (i n : Nat) (hw : Region.wanted o (yielded ops a.tmps) = true) (x : Operand) (ho : o.op = .load T x) (hx : a.eval x = .pointer (some (ad.add (i * 32))))
    (hu : P.underlying T = some d) (hd : d.isRow = true) (hi : (P.info? T).map (·.size) = some 32) (hR : Rows w0 ad l) (hn : l[i]? = some n) (hO : Own w0 L w)
    (h : wpStill P ops w Q rest (a.put o.dst (.agg (c8 n)))) : wpStill P ops w Q (o :: rest) a := by
  refine sl_pure _ hw ?_ h
  unfold execOp
  simp only [ho, hx]
  rw [Sem.run_bind, run_loadOld hu hd hi (hR.below hO.bl) i n hn]
  rfl
end
end Go.Proofs.YtkmgdpbmkbpkjaaDoor
