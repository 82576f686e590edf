/-
  Words and bytes without ranges: arrays as functions of the index, readable slices of bytes, their steps.
-/
import Derived.Test.YtkmgdpbmkbpkjaaDoorEngU
set_option linter.unusedVariables false
set_option linter.unusedSimpArgs false
namespace Go.Proofs.YtkmgdpbmkbpkjaaDoor
open Go.RowKit

theorem Own.sub {w0 w : World} {L L' : List (Nat × TypeId × Array Value)} (h : Own w0 L w) (hs : L'.Sublist L) : Own w0 L' w := h.perm (fun x hx => hs.subset hx) (h.nd.sublist (hs.map _))
/-- An array of n integers of a kind. -/
def aF (k : IntKind) (n : Nat) (f : Nat → Int) : Array Value := ((List.range n).map fun i => Value.int k (f i)).toArray
theorem size_aF (k : IntKind) (n : Nat) (f : Nat → Int) : (aF k n f).size = n := by simp [aF]
theorem get_aF (k : IntKind) (n : Nat) (f : Nat → Int) (i : Nat) (h : i < n) : (aF k n f)[i]? = some (.int k (f i)) := by simp [aF, h]
theorem one_aF (k : IntKind) (n : Nat) (f : Nat → Int) : (aF k n f).all (·.oneCell') = true := by simp [aF, Value.oneCell']
theorem aF_of {k : IntKind} {n : Nat} {f : Nat → Int} {cs : Array Value} (hs : cs.size = n) (h : ∀ i, i < n → cs[i]? = some (.int k (f i))) : cs = aF k n f := by
  apply Array.ext_getElem?
  intro i
  by_cases hi : i < n
  · rw [h i hi, get_aF k n f i hi]
  · rw [Array.getElem?_eq_none (by omega), Array.getElem?_eq_none (by rw [size_aF]; omega)]
/-- One of them set. -/
def upd (f : Nat → Int) (i : Nat) (v : Int) : Nat → Int := fun j => if j = i then v else f j
theorem upd_at (f : Nat → Int) (i : Nat) (v : Int) : upd f i v i = v := by simp [upd]
theorem upd_off (f : Nat → Int) {i j : Nat} (v : Int) (h : j ≠ i) : upd f i v j = f j := by simp [upd, h]
theorem aF_set (k : IntKind) (n : Nat) (f : Nat → Int) (i : Nat) (v : Int) (h : i < n) : (aF k n f).setIfInBounds i (.int k v) = aF k n (upd f i v) := by
  refine aF_of (by simp [size_aF]) fun j hj => ?_
  rw [Array.getElem?_setIfInBounds]
  by_cases e : i = j
  · subst e
    rw [if_pos rfl, if_pos (by rw [size_aF]; exact h), upd_at]
  · rw [if_neg e, get_aF k n f j hj, upd_off f v (Ne.symm e)]
/-- The model's arithmetic, named. -/
def ia (k : IntKind) (x y : Int) : Int := k.wrap (x + y)
def im (k : IntKind) (x y : Int) : Int := k.wrap (x - y)
def ix (k : IntKind) (x y : Int) : Int := bits .xor k x y
def iand (k : IntKind) (x y : Int) : Int := bits .and k x y
def ior (k : IntKind) (x y : Int) : Int := bits .or k x y
def ishl (k : IntKind) (x : Int) (n : Nat) : Int := k.wrap (x * 2 ^ n)
def ishr (x : Int) (n : Nat) : Int := x.fdiv (2 ^ n)

/-- A slice of bytes that can be read: n of them, f tells each. -/
def RdF (w : World) (v : Value) (n : Nat) (f : Nat → Int) : Prop :=
  (n = 0 ∧ ∃ a c, v = .slice a 0 c) ∨ ∃ g o c, v = .slice (some ⟨g, o, none⟩) n c ∧ n ≤ c ∧ ∀ j, j < n → w.cell? ⟨g, o + j, none⟩ = some (.int .u8 (f j))
theorem RdF.congr {w : World} {v : Value} {n : Nat} {f g : Nat → Int} (h : RdF w v n f) (e : ∀ j, j < n → f j = g j) : RdF w v n g := by
  rcases h with h | ⟨b, o, c, rfl, hc, hr⟩
  · exact .inl h
  · exact .inr ⟨b, o, c, rfl, hc, fun j hj => by rw [hr j hj, e j hj]⟩
theorem RdF.below {w w' : World} {v : Value} {n : Nat} {f : Nat → Int} (h : RdF w v n f) (hb : Below w.heap.size w w') : RdF w' v n f := by
  rcases h with h | ⟨b, o, c, rfl, hc, hr⟩
  · exact .inl h
  · exact .inr ⟨b, o, c, rfl, hc, fun j hj => (hb.cell (World.block_lt_of_cell? w _ (hr j hj))).trans (hr j hj)⟩

section
variable {P : Program} {ops : Array Oper} {Q : Exit → Act → World → Prop} {rest : List Oper} {o : Oper} {a : Act} {w w0 : World} {L L0 L1 L2 : List (Nat × TypeId × Array Value)} {md : Region.Mode} {S : World → Prop} {X : List Nat} {fuel : Nat} {listed : Array Bool}
theorem run_cell {w : World} {g i : Nat} {v : Value} (hc : w.cell? ⟨g, i, none⟩ = some v) {ty : TypeId} {x : Operand} (ha : (isAgg ty).run P w = .ok false w) (ho : o.op = .load ty x) (hx : a.eval x = .pointer (some ⟨g, i, none⟩)) :
    (execOp a.eval o).run P w = .ok (.value v) w := by
  unfold execOp
  simp only [ho, hx, Instr.loadAt, Instr.sureAddr, Sem.run_bind, Sem.run_pure, Result.andThen_ok]
  simp [loadVar, Sem.run_bind, ha, hc, go_sem]
/-- One of an array's, read. -/
theorem wl_ld {g : Nat} {t : TypeId} {k : IntKind} {n : Nat} {f : Nat → Int} (i : Nat) (hi : i < n) (hw : Region.wanted o (yielded ops a.tmps) = true) (ty : TypeId) (x : Operand) (ho : o.op = .load ty x) (hx : a.eval x = .pointer (some ⟨g, i, none⟩))
    (hm : (g, t, aF k n f) ∈ L) (ha : ∀ w, (isAgg ty).run P w = .ok false w) (hO : Own w0 L w) (h : WL P ops Q rest (a.put o.dst (.int k (f i))) w) : WL P ops Q (o :: rest) a w :=
  wl_pure _ hw (run_cell (((hO.get hm).cell i).trans (get_aF k n f i hi)) (ha w) ho hx) h
/-- One of an array's, written. -/
theorem wl_st {g : Nat} {t : TypeId} {k : IntKind} {n : Nat} {f : Nat → Int} (i : Nat) (v : Int) (f' : Nat → Int) (hf : upd f i v = f') (hi : i < n) (hg : o.guard = none) (ty : TypeId) (x y : Operand) (ho : o.op = .store ty x y)
    (hx : a.eval x = .pointer (some ⟨g, i, none⟩)) (hy : a.eval y = .int k v) (hO : Own w0 (L1 ++ (g, t, aF k n f) :: L2) w) (hs : (P.info? ty).map (·.size) = some 1)
    (h : ∀ w', Own w0 (L1 ++ (g, t, aF k n f') :: L2) w' → WL P ops Q rest (a.put o.dst undef) w') : WL P ops Q (o :: rest) a w := by
  subst hf
  have ht := there_at (hO.get (g := g) (t := t) (cs := aF k n f) (by simp)) i 1 (by rw [size_aF]; omega)
  refine .mk (wpList_plain hg fun K hK => ?_)
  unfold Oper.wp execOp
  simp only [ho, hx, hy, Instr.storeAt, Instr.sureAddr, Sem.run_bind, Sem.run_pure, Result.andThen_ok, run_storeVar_one w g i ty (.int k v) rfl rfl ht hs]
  exact hK _ _ (h _ (hO.cell (aF_set k n f i v hi))).out
/-- A whole array, read. -/
theorem wl_arr {g : Nat} {t : TypeId} (cs : Array Value) (hw : Region.wanted o (yielded ops a.tmps) = true) (ty : TypeId) (x : Operand) (ho : o.op = .load ty x) (hx : a.eval x = .pointer (some ⟨g, 0, none⟩))
    (d : TypeDesc) (hm : Bk w g t cs) (hu : P.underlying ty = some d) (hd : d.isRow = true) (hn : (P.info? ty).map (·.size) = some cs.size)
    (h : WL P ops Q rest (a.put o.dst (.agg cs)) w) : WL P ops Q (o :: rest) a w :=
  wl_load cs hw ty x ho g hx t d hm hu hd hn h
/-- A byte of a readable slice. -/
theorem rd_cell {v : Value} {n : Nat} {f : Nat → Int} (h : RdF w v n f) {i : Nat} (hi : i < n) : ∃ g o c, v = .slice (some ⟨g, o, none⟩) n c ∧ w.cell? ⟨g, o + i, none⟩ = some (.int .u8 (f i)) := by
  rcases h with ⟨h, _⟩ | ⟨g, o, c, rfl, _, hr⟩
  · omega
  · exact ⟨g, o, c, rfl, hr i hi⟩
end
end Go.Proofs.YtkmgdpbmkbpkjaaDoor
