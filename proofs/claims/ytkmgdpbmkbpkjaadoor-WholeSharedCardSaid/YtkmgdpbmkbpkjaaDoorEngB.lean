/-
  Steps for a row of numbers: a literal of several numbers in one block, one number of it read, a number's highest byte held against 127.
-/
import Derived.Test.YtkmgdpbmkbpkjaaDoorGBase
import Derived.Deep.MidRow
set_option linter.unusedVariables false
set_option linter.unusedSimpArgs false
namespace Go.Proofs.YtkmgdpbmkbpkjaaDoor
open Go.RowKit

/-- Numbers, one behind the other. -/
def slab : List Nat → List Value
  | [] => []
  | n :: l => (c8 n).toList ++ slab l
theorem len_c8 (n : Nat) : (c8 n).toList.length = 32 := by rw [Array.length_toList, size_c8]
theorem slab_at : ∀ (l : List Nat) (i n : Nat), l[i]? = some n → ∀ j, j < 32 → (slab l)[32 * i + j]? = (c8 n).toList[j]?
  | [], _, _, h, _, _ => by simp at h
  | m :: l, 0, n, h, j, hj => by
    obtain rfl : m = n := by simpa using h
    rw [slab, Nat.mul_zero, Nat.zero_add, List.getElem?_append_left (by rw [len_c8]; exact hj)]
  | m :: l, i + 1, n, h, j, hj => by
    rw [slab, List.getElem?_append_right (by rw [len_c8]; omega), len_c8, show 32 * (i + 1) + j - 32 = 32 * i + j by omega]
    exact slab_at l i n (by simpa using h) j hj
theorem slab_range {w : World} {g : Nat} {t : TypeId} {l : List Nat} (q : Bk w g t (slab l).toArray) (i n : Nat) (h : l[i]? = some n) : w.rangeAt g (32 * i) (c8 n).toList := fun j v hv => by
  have hj : j < 32 := by have := (List.getElem?_eq_some_iff.1 hv).1; rwa [len_c8] at this
  rw [q.cell, List.getElem?_toArray, slab_at l i n h j hj, hv]

section
variable {P : Program} {ops : Array Oper} {Q : Exit → Act → World → Prop} {rest : List Oper} {o : Oper} {a : Act} {w w0 : World} {L : List (Nat × TypeId × Array Value)} {md : Region.Mode} {S : World → Prop} {fuel : Nat} {listed : Array Bool}

theorem st_slice (i : Nat) (l' : Array Bool) {o : Oper} (hl : listed.setIfInBounds i true = l') (hi : ops[i]? = some o) (dst : Option Tmp) (hdst : o.dst = dst) (hg : o.guard = none)
    (t : TypeId) (cs : Array Value) (n : Nat) (hx : (execOp a.eval o).run P w = .ok (.value (.slice (some ⟨w.heap.size, 0, none⟩) n n)) (w.alloc (.cells cs t))) (hO : Own w0 L w) (hS : ∀ w, Own w0 L w → S w)
    (h : ∀ g w', Own w0 ((g, t, cs) :: L) w' → wpAnyH P md ops (NoPanic Q) S fuel l' (a.put dst (.slice (some ⟨g, 0, none⟩) n n)) w') : Step P md ops Q S fuel listed a w i := by
  subst hl hdst
  refine ⟨o, hi, hg, fun K hK => ?_⟩
  unfold Oper.wp
  rw [hx]
  exact hK _ _ (hS _ (hO.new t cs).tail) (h _ _ (hO.new t cs))

/-- One number of a row, read. -/
theorem pl_nth {g : Nat} {t : TypeId} {l : List Nat} (i n : Nat) (hgd : o.guard = none) (ty : TypeId) (x : Operand) (ho : o.op = .load ty x) (hx : a.eval x = .pointer (some ⟨g, 32 * i, none⟩))
    (d : TypeDesc) (hm : (g, t, (slab l).toArray) ∈ L) (hn : l[i]? = some n) (hO : Own w0 L w) (hu : P.underlying ty = some d) (hd : d.isRow = true) (hi : (P.info? ty).map (·.size) = some (c8 n).toList.length)
    (h : wpList P ops Q rest (a.put o.dst (.agg (c8 n))) w) : wpList P ops Q (o :: rest) a w := by
  refine wpList_load_mid hgd ty x ho g (32 * i) hx (c8 n).toList d (slab_range (hO.get hm) i n hn) hu hd hi ?_
  rw [Array.toArray_toList]
  exact h

variable (i : Nat) (l' : Array Bool) {o : Oper} (hl : listed.setIfInBounds i true = l') (hi : ops[i]? = some o) (dst : Option Tmp) (hdst : o.dst = dst) (hs : Region.noSelect ops = true) (hf : Region.free md ops listed i = true) (hr : (Region.ready md ops listed).contains i = true)
include hl hi hdst hs hf hr
/-- One byte of a number, read. -/
theorem hl_byte {g : Nat} {t : TypeId} {n : Nat} (j : Nat) (hj : j < 32) (hw : Region.wanted o (yielded ops a.tmps) = true) (ty : TypeId) (x : Operand) (ho : o.op = .load ty x) (hx : a.eval x = .pointer (some ⟨g, j, none⟩))
    (hm : (g, t, c8 n) ∈ L) (ha : ∀ w, (isAgg ty).run P w = .ok false w) (hO : Own w0 L w)
    (h : wpAnyH P md ops (NoPanic Q) (Own w0 L) fuel l' (a.put dst (.int .u8 ((n / 256 ^ j % 256 : Nat) : Int))) w) : wpAnyH P md ops (NoPanic Q) (Own w0 L) (fuel + 1) listed a w := by
  subst hl hdst
  refine wpAnyH_take hi hs hf hr (fun _ _ _ h => False.elim h) (Or.inl ⟨hw, fun w hw' => ?_⟩) hO h
  have hc : w.cell? ⟨g, j, none⟩ = some (.int .u8 ((n / 256 ^ j % 256 : Nat) : Int)) := ((hw'.get hm).cell j).trans (get_c8 n j hj)
  unfold execOp
  simp only [ho, hx, Instr.loadAt, Instr.sureAddr, Sem.run_bind, Sem.run_pure, Result.andThen_ok]
  simp [loadVar, Sem.run_bind, ha, hc, go_sem]
/-- It is not above 127. -/
theorem hl_gtr {n : Nat} (hb : n ≤ 127) (hw : Region.wanted o (yielded ops a.tmps) = true) (p q : Operand) (z y : TypeId) (ho : o.op = .binOp .gtr z p q y)
    (hp : a.eval p = .int .u8 ((n : Nat) : Int)) (hq : a.eval q = .int .u8 127) (hO : Own w0 L w)
    (h : wpAnyH P md ops (NoPanic Q) (Own w0 L) fuel l' (a.put dst (.bool false)) w) : wpAnyH P md ops (NoPanic Q) (Own w0 L) (fuel + 1) listed a w := by
  subst hl hdst
  refine held_pure i (.bool false) hi hs hf hr (fun _ _ _ h => False.elim h) hw (fun w => ?_) hO h
  have hd : decide ((127 : Int) < (n : Int)) = false := decide_eq_false (by omega)
  have hd2 : (127 < n) = False := eq_false (by omega)
  unfold execOp
  simp only [ho, hp, hq]
  simp [go_sem, hd, hd2]
end
theorem top_low {n : Nat} (h : n < 57896044618658097711785492504343953926634992332820282019728792003956564819949) : n / 256 ^ 31 % 256 ≤ 127 := by
  have e : 256 ^ 31 = 452312848583266388373324160190187140051835877600158453279131187530910662656 := by decide +kernel
  rw [e]; omega
end Go.Proofs.YtkmgdpbmkbpkjaaDoor
