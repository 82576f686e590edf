/-
  Words for the walks over package limb: numbers of 256 bits as arrays of bytes, blocks of memory that are known whole, a drawn region walked in the text's order.
  A region that draws its order and holds calls, walked step by step: loads of blocks that no call touches are taken first.
  Two arrays of 32 bytes are held against each other; pure operations of a drawn region are taken first.
  Steps of a walk whose memory is a list of blocks known whole: one lemma a kind of operation, in plain regions and in drawn ones.
  Steps of a drawn region that holds calls and an allocation at any moment: branches, and the rest of the walk once.
  The rest of a region, hidden from what looks at a goal: the engine's steps over it.
-/
import Derived.Test.YtkmgdpbmkbpkjaaDoorProg
import Derived.WalkKit
import Derived.WalkSpells
import Derived.WalkLawsBesides
import Derived.StillTailTactics
import Derived.Deep.MidRow
import Derived.Lib.Hide
import Derived.Deep.RegionHeld
import Derived.ChangeKeysEq
import Derived.Deep.RegionHeld3
set_option linter.unusedVariables false
set_option linter.unusedSimpArgs false
namespace Go.Proofs.YtkmgdpbmkbpkjaaDoor
open Go.RowKit

/-- A region that draws its order: its first n operations only read, the rest stand in one order. -/
theorem drawn_region {P : Program} {id : Nat} {Q : Exit → Act → World → Prop} {a : Act} {w : World} {l : List Oper} (n : Nat) (hm : P.follows .mixedOrders = true) (hB : Region.lexTailB .any l.toArray n = true)
    (h : wpStill P l.toArray w.drew (fun a' => wpList P l.toArray Q (l.drop n) a' w.drew) (l.take n) a) : (Code.region id l.toArray true).wp P Q a w :=
  wp_region_still_tail n hm hB h

/-- A number's 32 bytes, the lowest first. -/
def c8 (n : Nat) : Array Value := ((List.range 32).map fun i => Value.int .u8 ((n / 256 ^ i % 256 : Nat) : Int)).toArray
/-- Five limbs. -/
def c5 (a b c d e : Nat) : Array Value := #[.int .u64 a, .int .u64 b, .int .u64 c, .int .u64 d, .int .u64 e]

theorem size_c8 (n : Nat) : (c8 n).size = 32 := by simp [c8]
theorem size_c5 (a b c d e : Nat) : (c5 a b c d e).size = 5 := rfl
theorem get_c8 (n i : Nat) (h : i < 32) : (c8 n)[i]? = some (.int .u8 ((n / 256 ^ i % 256 : Nat) : Int)) := by
  simp [c8, h]
theorem one_c8 (n : Nat) : (c8 n).all (·.oneCell') = true := by
  simp [c8, Value.oneCell']
theorem one_c5 (a b c d e : Nat) : (c5 a b c d e).all (·.oneCell') = true := by
  simp [c5, Value.oneCell']

theorem inum : (Tryd.prog.info? 22).map (·.size) = some 32 := by kernel_rfl
theorem inum_c8 (n : Nat) : (Tryd.prog.info? 22).map (·.size) = some (c8 n).size := by rw [size_c8]; exact inum
/-- Below 2^256. -/
def N256 (n : Nat) : Prop := n < 115792089237316195423570985008687907853269984665640564039457584007913129639936
/-- A block that is known whole. -/
def Bk (w : World) (g : Nat) (t : TypeId) (cs : Array Value) : Prop := w.heap[g]? = some (.cells cs t (0, 0))
section
variable {w w' : World} {g : Nat} {t : TypeId} {cs : Array Value}
theorem Bk.lt (h : Bk w g t cs) : g < w.heap.size := (Array.getElem?_eq_some_iff.1 h).1
theorem Bk.cell (h : Bk w g t cs) (i : Nat) : w.cell? ⟨g, i, none⟩ = cs[i]? := cell_of_row w g i cs t (0, 0) h
theorem Bk.frozen (h : Bk w g t cs) (i : Nat) : w.frozen? ⟨g, i, none⟩ = false := frozen_of_row w g i cs t h
theorem Bk.new (w : World) (t : TypeId) (cs : Array Value) : Bk (w.alloc (.cells cs t)) w.heap.size t cs := heap_alloc_new w _
theorem Bk.at_ (w : World) (t : TypeId) (cs : Array Value) (g : Nat) (h : g = w.heap.size) : Bk (w.alloc (.cells cs t)) g t cs := by subst h; exact Bk.new _ _ _
theorem Bk.drew (h : Bk w g t cs) : Bk w.drew g t cs := h
theorem Bk.drewN (h : Bk w g t cs) (n : Nat) : Bk (w.drewN n) g t cs := h
theorem Bk.alloc (h : Bk w g t cs) (o : Obj) : Bk (w.alloc o) g t cs := (Below.heap_alloc w o g h.lt).trans h
theorem Bk.put (h : Bk w g t cs) (i : Nat) (u : Value) : Bk (w.setCell ⟨g, i, none⟩ u) g t (cs.setIfInBounds i u) := by
  unfold Bk at h ⊢
  simp [World.setCell, Array.getElem?_modify, h]
theorem Bk.far (h : Bk w g t cs) {p : Addr} (hp : g ≠ p.block) (u : Value) : Bk (w.setCell p u) g t cs := (heap_setCell_other w p g u hp).trans h
theorem Bk.off (h : Bk w g t cs) {g' : Nat} (hne : g ≠ g') (i : Nat) (u : Value) : Bk (w.setCell ⟨g', i, none⟩ u) g t cs := h.far hne u
theorem Bk.below {B : Nat} (h : Bk w g t cs) (hb : Below B w w') (hg : g < B) : Bk w' g t cs := (hb.block g hg).trans h
theorem Bk.under (h : Bk w g t cs) (hb : Below w.heap.size w w') : Bk w' g t cs := h.below hb h.lt
theorem Bk.range (h : Bk w g t cs) : w.rangeAt g 0 cs.toList := fun j v hv => by
  rw [Nat.zero_add, h.cell]; simpa using hv
theorem Bk.there (h : Bk w g t cs) : w.there g 0 cs.size := fun j hj => by
  refine ⟨?_, h.frozen _⟩
  rw [Nat.zero_add, h.cell]
  simp [hj]
end
/-- Cells put one behind the other. -/
def putAll (cs : Array Value) : Nat → List Value → Array Value
  | _, [] => cs
  | o, v :: l => putAll (cs.setIfInBounds o v) (o + 1) l
theorem putAll_get : ∀ (l : List Value) (cs : Array Value) (o j : Nat), o + l.length ≤ cs.size → (putAll cs o l)[j]? = if o ≤ j ∧ j < o + l.length then l[j - o]? else cs[j]?
  | [], cs, o, j, _ => by
    rw [if_neg (by simp only [List.length_nil]; omega)]
    rfl
  | v :: l, cs, o, j, h => by
    simp only [List.length_cons] at h ⊢
    rw [putAll, putAll_get l _ (o + 1) j (by simp; omega)]
    by_cases h1 : o + 1 ≤ j ∧ j < o + 1 + l.length
    · rw [if_pos h1, if_pos (by omega)]
      obtain ⟨d, rfl⟩ : ∃ d, j = o + 1 + d := ⟨j - (o + 1), by omega⟩
      rw [show o + 1 + d - (o + 1) = d by omega, show o + 1 + d - o = d + 1 by omega]
      rfl
    · rw [if_neg h1, Array.getElem?_setIfInBounds]
      by_cases h2 : o = j
      · subst h2
        rw [if_pos rfl, if_pos (by omega), if_pos (by omega)]
        simp
      · rw [if_neg h2, if_neg (by omega)]
theorem putAll_all (l : List Value) (cs : Array Value) (h : l.length = cs.size) : putAll cs 0 l = l.toArray := by
  apply Array.ext_getElem?
  intro j
  rw [putAll_get l cs 0 j (by omega)]
  by_cases hj : j < l.length
  · rw [if_pos (by omega)]; simp
  · rw [if_neg (by omega), Array.getElem?_eq_none (by omega), Array.getElem?_eq_none (by simpa using hj)]
theorem Bk.putAll {g : Nat} {t : TypeId} : ∀ (l : List Value) (w : World) (cs : Array Value) (o : Nat), Bk w g t cs → Bk (w.setCells g o l) g t (Go.Proofs.YtkmgdpbmkbpkjaaDoor.putAll cs o l)
  | [], _, _, _, h => h
  | v :: l, w, cs, o, h => Bk.putAll l _ _ (o + 1) (h.put o v)
theorem Bk.all {w : World} {g : Nat} {t : TypeId} {cs ds : Array Value} (h : Bk w g t cs) (hs : ds.size = cs.size) : Bk (w.setCells g 0 ds.toList) g t ds := by
  have := Bk.putAll ds.toList w cs 0 h
  rw [putAll_all _ _ (by simpa using hs)] at this
  simpa using this
theorem Bk.offs {g g' : Nat} {t : TypeId} {cs : Array Value} (hne : g ≠ g') : ∀ (l : List Value) (w : World) (o : Nat), Bk w g t cs → Bk (w.setCells g' o l) g t cs
  | [], _, _, h => h
  | v :: l, w, o, h => Bk.offs hne l _ (o + 1) (h.off hne o v)
section
variable {w w1 w2 : World}
theorem bl_alloc (h : Below w.heap.size w w1) (o : Obj) : Below w.heap.size w (w1.alloc o) := h.alloc h.size o
theorem bl_call (h : Below w.heap.size w w1) (h2 : Below w1.heap.size w1 w2) : Below w.heap.size w w2 := h.trans (h2.mono h.size)
theorem bl_drewN (h : Below w.heap.size w w1) (n : Nat) : Below w.heap.size w (w1.drewN n) := h.trans ⟨rfl, rfl, rfl, Nat.le_refl _, fun _ _ => rfl⟩
theorem bl_put (h : Below w.heap.size w w1) {g i : Nat} (hg : w.heap.size ≤ g) (u : Value) : Below w.heap.size w (w1.setCell ⟨g, i, none⟩ u) := h.setCell (p := ⟨g, i, none⟩) hg u
theorem bl_cells {g : Nat} (hg : w.heap.size ≤ g) : ∀ (l : List Value) (o : Nat) (w1 : World), Below w.heap.size w w1 → Below w.heap.size w (w1.setCells g o l)
  | [], _, _, h => h
  | v :: l, o, w1, h => bl_cells hg l (o + 1) _ (h.setCell (p := ⟨g, o, none⟩) hg v)
end
end Go.Proofs.YtkmgdpbmkbpkjaaDoor
set_option linter.unusedVariables false
set_option linter.unusedSimpArgs false
namespace Go.Proofs.YtkmgdpbmkbpkjaaDoor
open Go.RowKit

section
variable {P : Program} {ops : Array Oper} {Q : Exit → Act → World → Prop} {md : Region.Mode} {S : World → Prop} {fuel : Nat} {listed : Array Bool} {a : Act} {w : World}

theorem held_start {id : Nat} {l : List Oper} (S : World → Prop) (hm : P.follows .mixedOrders = true) (hS : S w.drew)
    (h : S w.drew → wpAnyH P .any l.toArray Q S l.length (Array.replicate l.length false) a w.drew) : (Code.region id l.toArray true).wp P Q a w :=
  wp_region_held_drew hm hS (by simpa using h)

/-- A load of a whole row that S keeps. -/
theorem held_row (i : Nat) (cs : Array Value) {o : Oper} (hi : ops[i]? = some o) (hs : Region.noSelect ops = true) (hf : Region.free md ops listed i = true) (hr : (Region.ready md ops listed).contains i = true)
    (hQ : ∀ c a w, Q (.panic c) (a.put o.dst (.agg cs)) w → Q (.panic c) a w) (hw : o.guard = none) (ty : TypeId) (x : Operand) (ho : o.op = .load ty x) (g : Nat) (hx : a.eval x = .pointer (some ⟨g, 0, none⟩))
    (t : TypeId) (d : TypeDesc) (hg : ∀ w, S w → Bk w g t cs) (hu : P.underlying ty = some d) (hd : d.isRow = true) (hn : (P.info? ty).map (·.size) = some cs.size) (hS : S w)
    (h : wpAnyH P md ops Q S fuel (listed.setIfInBounds i true) (a.put o.dst (.agg cs)) w) : wpAnyH P md ops Q S (fuel + 1) listed a w := by
  refine wpAnyH_take hi hs hf hr hQ (Or.inl ⟨by simp [Region.wanted, hw], fun w hw' => ?_⟩) hS h
  unfold execOp
  have e := run_loadVar_row w g t ty cs (0, 0) d (hg w hw') hu (by cases d <;> simp_all [TypeDesc.isRow]) hn
  simp only [ho, hx, Instr.loadAt, Instr.sureAddr, Sem.run_bind, Sem.run_pure, Result.andThen_ok, e]

/-- Whatever comes up next. -/
theorem held_next {rs : List Nat} (hr : Region.ready md ops listed = rs) (hne : rs ≠ [])
    (h : ∀ i ∈ rs, ∃ o, ops[i]? = some o ∧ o.guard = none ∧ ∀ K : Act → World → Prop, (∀ a' w', S w' → wpAnyH P md ops Q S fuel (listed.setIfInBounds i true) a' w' → K a' w') → o.wp P a w K Q) :
    wpAnyH P md ops Q S (fuel + 1) listed a w := by
  refine wpAnyH_all hr hne fun i hi => ?_
  obtain ⟨o, ho, hg, hk⟩ := h i hi
  unfold wpOp
  simp only [ho]
  rw [if_pos (by simp [Region.wanted, hg])]
  exact .inl (hk _ fun a' w' h1 h2 => ⟨h1, h2⟩)
theorem held_one (i : Nat) {o : Oper} (hr : Region.ready md ops listed = [i]) (ho : ops[i]? = some o) (hg : o.guard = none)
    (h : ∀ K : Act → World → Prop, (∀ a' w', S w' → wpAnyH P md ops Q S fuel (listed.setIfInBounds i true) a' w' → K a' w') → o.wp P a w K Q) : wpAnyH P md ops Q S (fuel + 1) listed a w :=
  held_next hr (by simp) fun j hj => by obtain rfl := List.mem_singleton.1 hj; exact ⟨o, ho, hg, h⟩
end
end Go.Proofs.YtkmgdpbmkbpkjaaDoor
set_option linter.unusedVariables false
set_option linter.unusedSimpArgs false
namespace Go.Proofs.YtkmgdpbmkbpkjaaDoor
open Go.RowKit

theorem digits_eq (x y : Nat) : ∀ n, (∀ i, i < n → x / 256 ^ i % 256 = y / 256 ^ i % 256) → x % 256 ^ n = y % 256 ^ n := by
  intro n
  induction n with
  | zero => intro _; simp [Nat.mod_one]
  | succ n ih =>
    intro h
    rw [Nat.mod_pow_succ, Nat.mod_pow_succ, ih (fun i hi => h i (by omega)), h n (by omega)]
theorem c8_inj {x y : Nat} (hx : N256 x) (hy : N256 y) (h : ∀ i, i < 32 → x / 256 ^ i % 256 = y / 256 ^ i % 256) : x = y := by
  have := digits_eq x y 32 h
  unfold N256 at hx hy
  rwa [Nat.mod_eq_of_lt (by simpa using hx), Nat.mod_eq_of_lt (by simpa using hy)] at this

theorem run_eqItems_c8 (d x y : Nat) (w : World) : ∀ is : List Nat, (∀ i ∈ is, i < 32) →
    (Op.eqItems (d + 1) 5 1 (c8 x) (c8 y) is).run Tryd.prog w = .ok (is.all fun i => decide (x / 256 ^ i % 256 = y / 256 ^ i % 256)) w
  | [], _ => rfl
  | i :: is, h => by
    have hi := h i (List.mem_cons_self ..)
    have ih := run_eqItems_c8 d x y w is fun j hj => h j (List.mem_cons_of_mem _ hj)
    have px := run_part_plain (P := Tryd.prog) w (e := 5) (by kernel_rfl) (off := i * 1) ((by rw [Nat.mul_one]; exact get_c8 x i hi) : (c8 x)[i * 1]? = _)
    have py := run_part_plain (P := Tryd.prog) w (e := 5) (by kernel_rfl) (off := i * 1) ((by rw [Nat.mul_one]; exact get_c8 y i hi) : (c8 y)[i * 1]? = _)
    simp only [Op.eqItems, Sem.run_bind, px, py, Result.andThen_ok, run_equalIn_int w d 5 .u8 .u8 _ _ Tryd.underlying5]
    by_cases e : x / 256 ^ i % 256 = y / 256 ^ i % 256
    · rw [e]
      simp only [BEq.rfl, Bool.not_true, Bool.false_eq_true, if_false, ih, List.all_cons, e, decide_true, Bool.true_and]
    · have e' : (((x / 256 ^ i % 256 : Nat) : Int) == ((y / 256 ^ i % 256 : Nat) : Int)) = false := by
        rw [beq_eq_false_iff_ne]; omega
      simp only [e', Bool.not_false, if_true, Sem.run_pure, List.all_cons, e, decide_false, Bool.false_and]

theorem cells5 : Tryd.prog.cellsOf 5 = 1 := by kernel_rfl
set_option maxRecDepth 100000 in
theorem run_equalIn_c8 {x y : Nat} (hx : N256 x) (hy : N256 y) (w : World) : (Op.equalIn 10000 22 (.agg (c8 x)) (.agg (c8 y))).run Tryd.prog w = .ok (decide (x = y)) w := by
  have hi : ∃ i, Tryd.prog.info? 5 = some i := Option.isSome_iff_exists.1 (by kernel_rfl)
  obtain ⟨i, hi⟩ := hi
  rw [show (10000 : Nat) = 9998 + 1 + 1 from rfl, run_equalIn_array w (9998 + 1) (c8 x) (c8 y) Tryd.underlying22 hi, cells5, run_eqItems_c8 9998 x y w _ fun j hj => List.mem_range.1 hj]
  congr 1
  by_cases e : x = y
  · subst e
    simp
  · rw [decide_eq_false e, List.all_eq_false]
    refine Classical.byContradiction fun hn => e (c8_inj hx hy fun j hj => ?_)
    refine Classical.byContradiction fun hne => hn ⟨j, List.mem_range.2 hj, by simpa using hne⟩

theorem run_cmp_eql {x y : Nat} (hx : N256 x) (hy : N256 y) (p q : Operand) (w : World) :
    (do eqGuard .eql 22 p q (.agg (c8 x)) (.agg (c8 y)); binOp .eql 22 (.agg (c8 x)) (.agg (c8 y)) : Sem Value).run Tryd.prog w = .ok (.bool (decide (x = y))) w := by
  rw [Sem.run_bind, run_eqGuard_agg w .eql _ p q _ _ (by kernel_rfl), Result.andThen_ok, run_eql_struct, run_equalIn_c8 hx hy]
  rfl
theorem run_cmp_neq {x y : Nat} (hx : N256 x) (hy : N256 y) (p q : Operand) (w : World) :
    (do eqGuard .neq 22 p q (.agg (c8 x)) (.agg (c8 y)); binOp .neq 22 (.agg (c8 x)) (.agg (c8 y)) : Sem Value).run Tryd.prog w = .ok (.bool (!decide (x = y))) w := by
  rw [Sem.run_bind, run_eqGuard_agg w .neq _ p q _ _ (by kernel_rfl), Result.andThen_ok, run_neq_struct, run_equalIn_c8 hx hy]
  rfl

section
variable {P : Program} {ops : Array Oper} {Q : Exit → Act → World → Prop} {md : Region.Mode} {S : World → Prop} {fuel : Nat} {listed : Array Bool} {a : Act} {w : World}
/-- A pure operation, taken first. -/
theorem held_pure (i : Nat) (v : Value) {o : Oper} (hi : ops[i]? = some o) (hs : Region.noSelect ops = true) (hf : Region.free md ops listed i = true) (hr : (Region.ready md ops listed).contains i = true)
    (hQ : ∀ c a w, Q (.panic c) (a.put o.dst v) w → Q (.panic c) a w) (hw : Region.wanted o (yielded ops a.tmps) = true) (hy : ∀ w, (execOp a.eval o).run P w = .ok (.value v) w) (hS : S w)
    (h : wpAnyH P md ops Q S fuel (listed.setIfInBounds i true) (a.put o.dst v) w) : wpAnyH P md ops Q S (fuel + 1) listed a w :=
  wpAnyH_take hi hs hf hr hQ (Or.inl ⟨hw, fun w _ => hy w⟩) hS h
/-- An operation that its guard passes over. -/
theorem held_skip (i : Nat) {o : Oper} (hi : ops[i]? = some o) (hs : Region.noSelect ops = true) (hf : Region.free md ops listed i = true) (hr : (Region.ready md ops listed).contains i = true)
    (hQ : ∀ c a w, Q (.panic c) (a.put o.dst undef) w → Q (.panic c) a w) (hw : Region.wanted o (yielded ops a.tmps) = false) (hS : S w)
    (h : wpAnyH P md ops Q S fuel (listed.setIfInBounds i true) (a.put o.dst undef) w) : wpAnyH P md ops Q S (fuel + 1) listed a w :=
  wpAnyH_take hi hs hf hr hQ (Or.inr ⟨hw, rfl⟩) hS h
/-- A load of a whole row that S keeps, behind a guard or not. -/
theorem held_load (i : Nat) (cs : Array Value) {o : Oper} (hi : ops[i]? = some o) (hs : Region.noSelect ops = true) (hf : Region.free md ops listed i = true) (hr : (Region.ready md ops listed).contains i = true)
    (hQ : ∀ c a w, Q (.panic c) (a.put o.dst (.agg cs)) w → Q (.panic c) a w) (hw : Region.wanted o (yielded ops a.tmps) = true) (ty : TypeId) (x : Operand) (ho : o.op = .load ty x) (g : Nat) (hx : a.eval x = .pointer (some ⟨g, 0, none⟩))
    (t : TypeId) (d : TypeDesc) (hg : ∀ w, S w → Bk w g t cs) (hu : P.underlying ty = some d) (hd : d.isRow = true) (hn : (P.info? ty).map (·.size) = some cs.size) (hS : S w)
    (h : wpAnyH P md ops Q S fuel (listed.setIfInBounds i true) (a.put o.dst (.agg cs)) w) : wpAnyH P md ops Q S (fuel + 1) listed a w := by
  refine wpAnyH_take hi hs hf hr hQ (Or.inl ⟨hw, fun w hw' => ?_⟩) hS h
  unfold execOp
  have e := run_loadVar_row w g t ty cs (0, 0) d (hg w hw') hu (by cases d <;> simp_all [TypeDesc.isRow]) hn
  simp only [ho, hx, Instr.loadAt, Instr.sureAddr, Sem.run_bind, Sem.run_pure, Result.andThen_ok, e]
/-- The one operation that is left to come up. -/
theorem held_go (i : Nat) {o : Oper} (hr : Region.ready md ops listed = [i]) (ho : ops[i]? = some o) (hw : Region.wanted o (yielded ops a.tmps) = true)
    (h : ∀ K : Act → World → Prop, (∀ a' w', S w' → wpAnyH P md ops Q S fuel (listed.setIfInBounds i true) a' w' → K a' w') → o.wp P a w K Q) : wpAnyH P md ops Q S (fuel + 1) listed a w := by
  refine wpAnyH_all hr (by simp) fun j hj => ?_
  obtain rfl := List.mem_singleton.1 hj
  unfold wpOp
  simp only [ho]
  rw [if_pos hw]
  exact .inl (h _ fun a' w' h1 h2 => ⟨h1, h2⟩)
end
section
variable {ops : Array Oper} {Q : Exit → Act → World → Prop} {md : Region.Mode} {S : World → Prop} {fuel : Nat} {listed : Array Bool} {a : Act} {w : World}
theorem held_eql (i : Nat) {x y : Nat} (b : Bool) (hx : N256 x) (hy : N256 y) (hb : decide (x = y) = b) {o : Oper} (hi : ops[i]? = some o) (hs : Region.noSelect ops = true) (hf : Region.free md ops listed i = true) (hr : (Region.ready md ops listed).contains i = true)
    (hQ : ∀ c a w, Q (.panic c) (a.put o.dst (.bool b)) w → Q (.panic c) a w) (hw : Region.wanted o (yielded ops a.tmps) = true) (p q : Operand) (z : TypeId) (ho : o.op = .binOp .eql 22 p q z)
    (hp : a.eval p = .agg (c8 x)) (hq : a.eval q = .agg (c8 y)) (hS : S w)
    (h : wpAnyH Tryd.prog md ops Q S fuel (listed.setIfInBounds i true) (a.put o.dst (.bool b)) w) : wpAnyH Tryd.prog md ops Q S (fuel + 1) listed a w := by
  refine wpAnyH_take hi hs hf hr hQ (Or.inl ⟨hw, fun w _ => ?_⟩) hS h
  subst hb
  have e := run_cmp_eql hx hy p q w
  rw [Sem.run_bind] at e
  unfold execOp
  simp only [ho, hp, hq, Sem.run_bind]
  rw [e]
  rfl
theorem held_neq (i : Nat) {x y : Nat} (b : Bool) (hx : N256 x) (hy : N256 y) (hb : (!decide (x = y)) = b) {o : Oper} (hi : ops[i]? = some o) (hs : Region.noSelect ops = true) (hf : Region.free md ops listed i = true) (hr : (Region.ready md ops listed).contains i = true)
    (hQ : ∀ c a w, Q (.panic c) (a.put o.dst (.bool b)) w → Q (.panic c) a w) (hw : Region.wanted o (yielded ops a.tmps) = true) (p q : Operand) (z : TypeId) (ho : o.op = .binOp .neq 22 p q z)
    (hp : a.eval p = .agg (c8 x)) (hq : a.eval q = .agg (c8 y)) (hS : S w)
    (h : wpAnyH Tryd.prog md ops Q S fuel (listed.setIfInBounds i true) (a.put o.dst (.bool b)) w) : wpAnyH Tryd.prog md ops Q S (fuel + 1) listed a w := by
  refine wpAnyH_take hi hs hf hr hQ (Or.inl ⟨hw, fun w _ => ?_⟩) hS h
  subst hb
  have e := run_cmp_neq hx hy p q w
  rw [Sem.run_bind] at e
  unfold execOp
  simp only [ho, hp, hq, Sem.run_bind]
  rw [e]
  rfl
end

/-- Blocks that the call made, known whole; nothing below has turned. -/
def Keep (w : World) (L : List (Nat × TypeId × Array Value)) (w' : World) : Prop := (∀ x ∈ L, Bk w' x.1 x.2.1 x.2.2) ∧ Below w.heap.size w w'
section
variable {w w1 w2 : World} {L : List (Nat × TypeId × Array Value)}
theorem Keep.call (h : Keep w L w1) (hb : Below w1.heap.size w1 w2) : Keep w L w2 := ⟨fun x hx => (h.1 x hx).under hb, bl_call h.2 hb⟩
theorem Keep.alloc (h : Keep w L w1) (o : Obj) : Keep w L (w1.alloc o) := ⟨fun x hx => (h.1 x hx).alloc o, bl_alloc h.2 o⟩
theorem Keep.drew (h : Keep w L w1) : Keep w L w1.drew := ⟨h.1, h.2.drew⟩
theorem Keep.get (h : Keep w L w1) (g : Nat) (t : TypeId) (cs : Array Value) (hm : (g, t, cs) ∈ L) : Bk w1 g t cs := h.1 _ hm
theorem Keep.nil (w : World) : Keep w [] w := ⟨(fun x hx => by cases hx), Below.refl _ _⟩
theorem Keep.cons (h : Keep w L w1) {g : Nat} {t : TypeId} {cs : Array Value} (hb : Bk w1 g t cs) : Keep w ((g, t, cs) :: L) w1 :=
  ⟨fun x hx => by
    rcases List.mem_cons.1 hx with rfl | hx
    · exact hb
    · exact h.1 x hx, h.2⟩
theorem Keep.off (h : Keep w L w1) {g : Nat} (hg : w.heap.size ≤ g) (hL : ∀ x ∈ L, x.1 ≠ g) (l : List Value) : Keep w L (w1.setCells g 0 l) :=
  ⟨fun x hx => Bk.offs (hL x hx) _ _ _ (h.1 x hx), bl_cells hg _ _ _ h.2⟩
end
end Go.Proofs.YtkmgdpbmkbpkjaaDoor
set_option linter.unusedVariables false
set_option linter.unusedSimpArgs false
namespace Go.Proofs.YtkmgdpbmkbpkjaaDoor
open Go.RowKit

/-- Blocks that the call made, known whole, each another one; nothing below has turned. -/
structure Own (w0 : World) (L : List (Nat × TypeId × Array Value)) (w : World) : Prop where
  bk : ∀ x ∈ L, Bk w x.1 x.2.1 x.2.2
  nd : (L.map (·.1)).Nodup
  up : ∀ x ∈ L, w0.heap.size ≤ x.1
  bl : Below w0.heap.size w0 w
section
variable {w0 w w1 : World} {L L1 L2 : List (Nat × TypeId × Array Value)}
theorem Own.nil (w : World) : Own w [] w := ⟨(fun x hx => by cases hx), List.nodup_nil, (fun x hx => by cases hx), Below.refl _ _⟩
theorem Own.call (h : Own w0 L w) (hb : Below w.heap.size w w1) : Own w0 L w1 := ⟨fun x hx => (h.bk x hx).under hb, h.nd, h.up, bl_call h.bl hb⟩
theorem Own.drew (h : Own w0 L w) : Own w0 L w.drew := ⟨h.bk, h.nd, h.up, h.bl.drew⟩
theorem Own.new (h : Own w0 L w) (t : TypeId) (cs : Array Value) : Own w0 ((w.heap.size, t, cs) :: L) (w.alloc (.cells cs t)) := by
  refine ⟨fun x hx => ?_, ?_, fun x hx => ?_, bl_alloc h.bl _⟩
  · rcases List.mem_cons.1 hx with rfl | hx
    · exact Bk.new _ _ _
    · exact (h.bk x hx).alloc _
  · rw [List.map_cons, List.nodup_cons]
    refine ⟨fun hm => ?_, h.nd⟩
    obtain ⟨x, hx, he⟩ := List.mem_map.1 hm
    have := (h.bk x hx).lt
    omega
  · rcases List.mem_cons.1 hx with rfl | hx
    · exact h.bl.size
    · exact h.up x hx
theorem Own.get (h : Own w0 L w) {g : Nat} {t : TypeId} {cs : Array Value} (hm : (g, t, cs) ∈ L) : Bk w g t cs := h.bk _ hm
theorem Own.set {g : Nat} {t : TypeId} {cs ds : Array Value} (h : Own w0 (L1 ++ (g, t, cs) :: L2) w) (hs : ds.size = cs.size) : Own w0 (L1 ++ (g, t, ds) :: L2) (w.setCells g 0 ds.toList) := by
  have hg := h.get (g := g) (t := t) (cs := cs) (by simp)
  have hu : w0.heap.size ≤ g := h.up (g, t, cs) (by simp)
  have hnd := h.nd
  have e : (L1 ++ (g, t, ds) :: L2).map (·.1) = (L1 ++ (g, t, cs) :: L2).map (·.1) := by simp
  have far : ∀ x, x ∈ L1 ∨ x ∈ L2 → x.1 ≠ g := by
    intro x hx he
    rw [List.map_append, List.map_cons, List.nodup_append] at hnd
    rcases hx with hx | hx
    · exact hnd.2.2 x.1 (List.mem_map_of_mem hx) g (List.mem_cons_self ..) he
    · have hm : x.1 ∈ L2.map (·.1) := List.mem_map_of_mem hx
      rw [he] at hm
      exact (List.nodup_cons.1 hnd.2.1).1 hm
  refine ⟨fun x hx => ?_, by rw [e]; exact hnd, fun x hx => ?_, bl_cells hu _ _ _ h.bl⟩
  · rcases List.mem_append.1 hx with hx | hx
    · exact Bk.offs (far x (.inl hx)) _ _ _ (h.bk x (by simp [hx]))
    · rcases List.mem_cons.1 hx with rfl | hx
      · exact hg.all hs
      · exact Bk.offs (far x (.inr hx)) _ _ _ (h.bk x (by simp [hx]))
  · rcases List.mem_append.1 hx with hx | hx
    · exact h.up x (by simp [hx])
    · rcases List.mem_cons.1 hx with rfl | hx
      · exact hu
      · exact h.up x (by simp [hx])
theorem Own.tail {x : Nat × TypeId × Array Value} (h : Own w0 (x :: L) w) : Own w0 L w :=
  ⟨fun y hy => h.bk y (List.mem_cons_of_mem _ hy), (List.nodup_cons.1 h.nd).2, fun y hy => h.up y (List.mem_cons_of_mem _ hy), h.bl⟩
theorem Own.perm {L' : List (Nat × TypeId × Array Value)} (h : Own w0 L w) (hp : ∀ x ∈ L', x ∈ L) (hn : (L'.map (·.1)).Nodup) : Own w0 L' w :=
  ⟨fun y hy => h.bk y (hp y hy), hn, fun y hy => h.up y (hp y hy), h.bl⟩
end

/-- A contract of a call that hands back v and turns nothing that was there. -/
def Ret (P : Program) (f : FuncId) (args : Array Value) (w : World) (v : Value) : Prop := Calls P f args w fun e w' => e = .returned v ∧ Below w.heap.size w w'

section
variable {P : Program} {ops : Array Oper} {Q : Exit → Act → World → Prop} {rest : List Oper} {o : Oper} {a : Act} {w w0 : World} {L L1 L2 : List (Nat × TypeId × Array Value)}

theorem wp_enter {K : Act → World → Prop} {f : FuncId} {args : Array Value} {v : Value} (hx : (execOp a.eval o).run P w = .ok (.enter f args) w) (hc : Ret P f args w v)
    (h : ∀ w', Below w.heap.size w w' → K (a.put o.dst v) w') : o.wp P a w K Q := by
  unfold Oper.wp
  rw [hx]
  refine Calls.mono hc ?_
  rintro e w' ⟨rfl, hb⟩
  exact h w' hb

theorem pl_pure (v : Value) (hw : Region.wanted o (yielded ops a.tmps) = true) (hy : (execOp a.eval o).run P w = .ok (.value v) w) (h : wpList P ops Q rest (a.put o.dst v) w) : wpList P ops Q (o :: rest) a w := by
  unfold wpList
  rw [if_pos hw]
  left
  unfold Oper.wp
  rw [hy]
  exact h
theorem pl_skip (hw : Region.wanted o (yielded ops a.tmps) = false) (h : wpList P ops Q rest (a.put o.dst undef) w) : wpList P ops Q (o :: rest) a w := by
  unfold wpList
  rw [if_neg (by rw [hw]; decide)]
  exact h
theorem pl_load (cs : Array Value) (hw : Region.wanted o (yielded ops a.tmps) = true) (ty : TypeId) (x : Operand) (ho : o.op = .load ty x) (g : Nat) (hx : a.eval x = .pointer (some ⟨g, 0, none⟩))
    (t : TypeId) (d : TypeDesc) (hg : Bk w g t cs) (hu : P.underlying ty = some d) (hd : d.isRow = true) (hn : (P.info? ty).map (·.size) = some cs.size)
    (h : wpList P ops Q rest (a.put o.dst (.agg cs)) w) : wpList P ops Q (o :: rest) a w := by
  refine pl_pure (.agg cs) hw ?_ h
  unfold execOp
  have e := run_loadVar_row w g t ty cs (0, 0) d hg hu (by cases d <;> simp_all [TypeDesc.isRow]) hn
  simp only [ho, hx, Instr.loadAt, Instr.sureAddr, Sem.run_bind, Sem.run_pure, Result.andThen_ok, e]
theorem pl_call {f : FuncId} {args : Array Value} (v : Value) (hw : Region.wanted o (yielded ops a.tmps) = true) (hx : (execOp a.eval o).run P w = .ok (.enter f args) w) (hc : Ret P f args w v) (hO : Own w0 L w)
    (h : ∀ w', Own w0 L w' → wpList P ops Q rest (a.put o.dst v) w') : wpList P ops Q (o :: rest) a w := by
  unfold wpList
  rw [if_pos hw]
  exact .inl (wp_enter hx hc fun w' hb => h w' (hO.call hb))
theorem pl_new (t : TypeId) (cs : Array Value) (hw : Region.wanted o (yielded ops a.tmps) = true) (hx : (execOp a.eval o).run P w = .ok (.value (.pointer (some ⟨w.heap.size, 0, none⟩))) (w.alloc (.cells cs t))) (hO : Own w0 L w)
    (h : ∀ w', Own w0 ((w.heap.size, t, cs) :: L) w' → wpList P ops Q rest (a.put o.dst (.pointer (some ⟨w.heap.size, 0, none⟩))) w') : wpList P ops Q (o :: rest) a w := by
  unfold wpList
  rw [if_pos hw]
  left
  unfold Oper.wp
  rw [hx]
  exact h _ (hO.new t cs)
theorem pl_store {g : Nat} {t : TypeId} {cs : Array Value} (ds : Array Value) (hg : o.guard = none) (ty : TypeId) (x y : Operand) (ho : o.op = .store ty x y) (hx : a.eval x = .pointer (some ⟨g, 0, none⟩)) (hy : a.eval y = .agg ds)
    (hO : Own w0 (L1 ++ (g, t, cs) :: L2) w) (hs : ds.size = cs.size) (hi : (P.info? ty).map (·.size) = some ds.size) (h1 : ds.all (·.oneCell') = true)
    (h : ∀ w', Own w0 (L1 ++ (g, t, ds) :: L2) w' → wpList P ops Q rest (a.put o.dst undef) w') : wpList P ops Q (o :: rest) a w := by
  have ht := (hO.get (g := g) (t := t) (cs := cs) (by simp)).there
  rw [← hs] at ht
  exact wpList_store_mid hg ty x y ho g 0 ds hx hy ht hi h1 (h _ (hO.set hs))
theorem pl_nil (h : Q .normal a w) : wpList P ops Q [] a w := h

variable {md : Region.Mode} {fuel : Nat} {listed : Array Bool}
theorem pl_eql {x y : Nat} (b : Bool) (hx : N256 x) (hy : N256 y) (hb : decide (x = y) = b) (hw : Region.wanted o (yielded ops a.tmps) = true) (p q : Operand) (z : TypeId) (ho : o.op = .binOp .eql 22 p q z)
    (hp : a.eval p = .agg (c8 x)) (hq : a.eval q = .agg (c8 y)) (h : wpList Tryd.prog ops Q rest (a.put o.dst (.bool b)) w) : wpList Tryd.prog ops Q (o :: rest) a w := by
  refine pl_pure _ hw ?_ h
  subst hb
  have e := run_cmp_eql hx hy p q w
  rw [Sem.run_bind] at e
  unfold execOp
  simp only [ho, hp, hq, Sem.run_bind]
  rw [e]
  rfl
theorem pl_neq {x y : Nat} (b : Bool) (hx : N256 x) (hy : N256 y) (hb : (!decide (x = y)) = b) (hw : Region.wanted o (yielded ops a.tmps) = true) (p q : Operand) (z : TypeId) (ho : o.op = .binOp .neq 22 p q z)
    (hp : a.eval p = .agg (c8 x)) (hq : a.eval q = .agg (c8 y)) (h : wpList Tryd.prog ops Q rest (a.put o.dst (.bool b)) w) : wpList Tryd.prog ops Q (o :: rest) a w := by
  refine pl_pure _ hw ?_ h
  subst hb
  have e := run_cmp_neq hx hy p q w
  rw [Sem.run_bind] at e
  unfold execOp
  simp only [ho, hp, hq, Sem.run_bind]
  rw [e]
  rfl
theorem hl_start {id : Nat} {l : List Oper} (l' : Array Bool) (hl : Array.replicate l.length false = l') (hm : P.follows .mixedOrders = true) (hO : Own w0 L w) (h : ∀ w', Own w0 L w' → wpAnyH P .any l.toArray (NoPanic Q) (Own w0 L) l.length l' a w') :
    (Code.region id l.toArray true).wp P Q a w := wp_region_noPanic <| held_start (Own w0 L) hm hO.drew fun _ => by rw [hl]; exact h _ hO.drew
variable (i : Nat) (l' : Array Bool) {o : Oper} (hl : listed.setIfInBounds i true = l') (hi : ops[i]? = some o) (dst : Option Tmp) (hdst : o.dst = dst) (hs : Region.noSelect ops = true) (hf : Region.free md ops listed i = true) (hr : (Region.ready md ops listed).contains i = true)
include hl hi hdst hs hf hr
theorem hl_load (cs : Array Value)
    (hw : Region.wanted o (yielded ops a.tmps) = true) (ty : TypeId) (x : Operand) (ho : o.op = .load ty x) (g : Nat) (hx : a.eval x = .pointer (some ⟨g, 0, none⟩))
    (t : TypeId) (d : TypeDesc) (hm : (g, t, cs) ∈ L) (hu : P.underlying ty = some d) (hd : d.isRow = true) (hn : (P.info? ty).map (·.size) = some cs.size) (hO : Own w0 L w)
    (h : wpAnyH P md ops (NoPanic Q) (Own w0 L) fuel l' (a.put dst (.agg cs)) w) : wpAnyH P md ops (NoPanic Q) (Own w0 L) (fuel + 1) listed a w := by
  subst hl hdst
  exact held_load i cs hi hs hf hr (fun _ _ _ h => False.elim h) hw ty x ho g hx t d (fun _ h => h.get hm) hu hd hn hO h
theorem hl_pure (v : Value)
    (hw : Region.wanted o (yielded ops a.tmps) = true) (hy : ∀ w, (execOp a.eval o).run P w = .ok (.value v) w) (hO : Own w0 L w)
    (h : wpAnyH P md ops (NoPanic Q) (Own w0 L) fuel l' (a.put dst v) w) : wpAnyH P md ops (NoPanic Q) (Own w0 L) (fuel + 1) listed a w := by
  subst hl hdst
  exact held_pure i v hi hs hf hr (fun _ _ _ h => False.elim h) hw hy hO h
theorem hl_skip (hw : Region.wanted o (yielded ops a.tmps) = false) (hO : Own w0 L w)
    (h : wpAnyH P md ops (NoPanic Q) (Own w0 L) fuel l' (a.put dst undef) w) : wpAnyH P md ops (NoPanic Q) (Own w0 L) (fuel + 1) listed a w := by
  subst hl hdst
  exact held_skip i hi hs hf hr (fun _ _ _ h => False.elim h) hw hO h
omit hs hf hr
theorem hl_call {f : FuncId} {args : Array Value} (v : Value) (hr : Region.ready md ops listed = [i]) (hw : Region.wanted o (yielded ops a.tmps) = true)
    (hx : (execOp a.eval o).run P w = .ok (.enter f args) w) (hc : Ret P f args w v) (hO : Own w0 L w)
    (h : ∀ w', Own w0 L w' → wpAnyH P md ops (NoPanic Q) (Own w0 L) fuel l' (a.put dst v) w') : wpAnyH P md ops (NoPanic Q) (Own w0 L) (fuel + 1) listed a w := by
  subst hl hdst
  exact held_go i hr hi hw fun K hK => wp_enter hx hc fun w' hb => hK _ _ (hO.call hb) (h w' (hO.call hb))
end
section
variable {ops : Array Oper} {Q : Exit → Act → World → Prop} {a : Act} {w w0 : World} {L : List (Nat × TypeId × Array Value)} {md : Region.Mode} {fuel : Nat} {listed : Array Bool}
variable (i : Nat) (l' : Array Bool) {o : Oper} (hl : listed.setIfInBounds i true = l') (hi : ops[i]? = some o) (dst : Option Tmp) (hdst : o.dst = dst) (hs : Region.noSelect ops = true) (hf : Region.free md ops listed i = true) (hr : (Region.ready md ops listed).contains i = true)
include hl hi hdst hs hf hr
theorem hl_eql {x y : Nat} (b : Bool) (hx : N256 x) (hy : N256 y) (hb : decide (x = y) = b)
    (hw : Region.wanted o (yielded ops a.tmps) = true) (p q : Operand) (z : TypeId) (ho : o.op = .binOp .eql 22 p q z)
    (hp : a.eval p = .agg (c8 x)) (hq : a.eval q = .agg (c8 y)) (hO : Own w0 L w)
    (h : wpAnyH Tryd.prog md ops (NoPanic Q) (Own w0 L) fuel l' (a.put dst (.bool b)) w) : wpAnyH Tryd.prog md ops (NoPanic Q) (Own w0 L) (fuel + 1) listed a w := by
  subst hl hdst
  exact held_eql i b hx hy hb hi hs hf hr (fun _ _ _ h => False.elim h) hw p q z ho hp hq hO h
theorem hl_neq {x y : Nat} (b : Bool) (hx : N256 x) (hy : N256 y) (hb : (!decide (x = y)) = b)
    (hw : Region.wanted o (yielded ops a.tmps) = true) (p q : Operand) (z : TypeId) (ho : o.op = .binOp .neq 22 p q z)
    (hp : a.eval p = .agg (c8 x)) (hq : a.eval q = .agg (c8 y)) (hO : Own w0 L w)
    (h : wpAnyH Tryd.prog md ops (NoPanic Q) (Own w0 L) fuel l' (a.put dst (.bool b)) w) : wpAnyH Tryd.prog md ops (NoPanic Q) (Own w0 L) (fuel + 1) listed a w := by
  subst hl hdst
  exact held_neq i b hx hy hb hi hs hf hr (fun _ _ _ h => False.elim h) hw p q z ho hp hq hO h
omit hl hi hdst hs hf hr
theorem hl_done {P : Program} (hr : Region.ready md ops listed = []) (h : Q .normal a w) : wpAnyH P md ops (NoPanic Q) (Own w0 L) fuel listed a w := wpAnyH_done hr (NoPanic.normal h) _
end
end Go.Proofs.YtkmgdpbmkbpkjaaDoor
set_option linter.unusedVariables false
set_option linter.unusedSimpArgs false
namespace Go.Proofs.YtkmgdpbmkbpkjaaDoor
open Go.RowKit

section
variable {P : Program} {ops : Array Oper} {Q : Exit → Act → World → Prop} {a : Act} {w w0 : World} {L L1 L2 : List (Nat × TypeId × Array Value)} {md : Region.Mode} {S : World → Prop} {fuel : Nat} {listed : Array Bool}

theorem hl_cut {t : TypeId} {cs : Array Value} {a' : Nat → Act} (h : (∀ g w', Own w0 ((g, t, cs) :: L) w' → Q .normal (a' g) w') → wpAnyH P md ops (NoPanic Q) S fuel listed a w)
    (rest : ∀ g w', Own w0 ((g, t, cs) :: L) w' → Q .normal (a' g) w') : wpAnyH P md ops (NoPanic Q) S fuel listed a w := h rest

/-- Operation i, taken next. -/
def Step (P : Program) (md : Region.Mode) (ops : Array Oper) (Q : Exit → Act → World → Prop) (S : World → Prop) (fuel : Nat) (listed : Array Bool) (a : Act) (w : World) (i : Nat) : Prop :=
  ∃ o, ops[i]? = some o ∧ o.guard = none ∧ ∀ K : Act → World → Prop, (∀ a' w', S w' → wpAnyH P md ops (NoPanic Q) S fuel (listed.setIfInBounds i true) a' w' → K a' w') → o.wp P a w K (NoPanic Q)
theorem hl_one (i : Nat) (hr : Region.ready md ops listed = [i]) (h : Step P md ops Q S fuel listed a w i) : wpAnyH P md ops (NoPanic Q) S (fuel + 1) listed a w :=
  held_next hr (by simp) fun k hk => by obtain rfl := List.mem_singleton.1 hk; exact h
theorem hl_two (i j : Nat) (hr : Region.ready md ops listed = [i, j]) (h : Step P md ops Q S fuel listed a w i) (h' : Step P md ops Q S fuel listed a w j) : wpAnyH P md ops (NoPanic Q) S (fuel + 1) listed a w :=
  held_next hr (by simp) fun k hk => by
    rcases List.mem_cons.1 hk with rfl | hk
    · exact h
    · obtain rfl := List.mem_singleton.1 hk; exact h'
variable (i : Nat) (l' : Array Bool) {o : Oper} (hl : listed.setIfInBounds i true = l') (hi : ops[i]? = some o) (dst : Option Tmp) (hdst : o.dst = dst) (hg : o.guard = none)
include hl hi hdst hg
theorem st_call {f : FuncId} {args : Array Value} (v : Value) (hx : (execOp a.eval o).run P w = .ok (.enter f args) w) (hc : Ret P f args w v) (hO : Own w0 L w) (hS : ∀ w, Own w0 L w → S w)
    (h : ∀ w', Own w0 L w' → wpAnyH P md ops (NoPanic Q) S fuel l' (a.put dst v) w') : Step P md ops Q S fuel listed a w i := by
  subst hl hdst
  exact ⟨o, hi, hg, fun K hK => wp_enter hx hc fun w' hb => hK _ _ (hS _ (hO.call hb)) (h w' (hO.call hb))⟩
theorem st_alloc (t : TypeId) (cs : Array Value) (hx : (execOp a.eval o).run P w = .ok (.value (.pointer (some ⟨w.heap.size, 0, none⟩))) (w.alloc (.cells cs t))) (hO : Own w0 L w) (hS : ∀ w, Own w0 L w → S w)
    (h : ∀ g w', Own w0 ((g, t, cs) :: L) w' → wpAnyH P md ops (NoPanic Q) S fuel l' (a.put dst (.pointer (some ⟨g, 0, none⟩))) w') : Step P md ops Q S fuel listed a w i := by
  subst hl hdst
  refine ⟨o, hi, hg, fun K hK => ?_⟩
  unfold Oper.wp
  rw [hx]
  exact hK _ _ (hS _ (hO.new t cs).tail) (h _ _ (hO.new t cs))
theorem st_store {g : Nat} {t : TypeId} {cs : Array Value} (ds : Array Value) (ty : TypeId) (x y : Operand) (ho : o.op = .store ty x y) (hx : a.eval x = .pointer (some ⟨g, 0, none⟩)) (hy : a.eval y = .agg ds)
    (hO : Own w0 ((g, t, cs) :: L) w) (hs : ds.size = cs.size) (hn : (P.info? ty).map (·.size) = some ds.size) (h1 : ds.all (·.oneCell') = true) (hS : ∀ w, Own w0 ((g, t, ds) :: L) w → S w)
    (h : ∀ w', Own w0 ((g, t, ds) :: L) w' → wpAnyH P md ops (NoPanic Q) S fuel l' (a.put dst undef) w') : Step P md ops Q S fuel listed a w i := by
  subst hl hdst
  refine ⟨o, hi, hg, fun K hK => ?_⟩
  have hO2 : Own w0 ([] ++ (g, t, cs) :: L) w := hO
  have ht := (hO.get (g := g) (t := t) (cs := cs) (by simp)).there
  rw [← hs] at ht
  have hO3 : Own w0 ((g, t, ds) :: L) (w.setCells g 0 ds.toList) := hO2.set hs
  exact wp_store_mid ty x y ho g 0 ds hx hy ht hn h1 (hK _ _ (hS _ hO3) (h _ hO3))
end
end Go.Proofs.YtkmgdpbmkbpkjaaDoor
set_option linter.unusedVariables false
set_option linter.unusedSimpArgs false
namespace Go.Proofs.YtkmgdpbmkbpkjaaDoor
open Go.RowKit

/-- The rest of a region. -/
@[irreducible] def WL (P : Program) (ops : Array Oper) (Q : Exit → Act → World → Prop) (l : List Oper) (a : Act) (w : World) : Prop := wpList P ops Q l a w
section
variable {P : Program} {ops : Array Oper} {Q : Exit → Act → World → Prop} {rest : List Oper} {o : Oper} {a : Act} {w w0 : World} {L L1 L2 : List (Nat × TypeId × Array Value)}
theorem WL.out {l : List Oper} (h : WL P ops Q l a w) : wpList P ops Q l a w := by unfold WL at h; exact h
theorem WL.mk {l : List Oper} (h : wpList P ops Q l a w) : WL P ops Q l a w := by unfold WL; exact h
theorem wl_region {id : Nat} {l : List Oper} (h : WL P l.toArray Q l a w) : (Code.region id l.toArray false).wp P Q a w := wp_region_lit h.out
theorem wl_pure (v : Value) (hw : Region.wanted o (yielded ops a.tmps) = true) (hy : (execOp a.eval o).run P w = .ok (.value v) w) (h : WL P ops Q rest (a.put o.dst v) w) : WL P ops Q (o :: rest) a w :=
  .mk (pl_pure v hw hy h.out)
theorem wl_skip (hw : Region.wanted o (yielded ops a.tmps) = false) (h : WL P ops Q rest (a.put o.dst undef) w) : WL P ops Q (o :: rest) a w :=
  .mk (pl_skip hw h.out)
theorem wl_load (cs : Array Value) (hw : Region.wanted o (yielded ops a.tmps) = true) (ty : TypeId) (x : Operand) (ho : o.op = .load ty x) (g : Nat) (hx : a.eval x = .pointer (some ⟨g, 0, none⟩))
    (t : TypeId) (d : TypeDesc) (hg : Bk w g t cs) (hu : P.underlying ty = some d) (hd : d.isRow = true) (hn : (P.info? ty).map (·.size) = some cs.size)
    (h : WL P ops Q rest (a.put o.dst (.agg cs)) w) : WL P ops Q (o :: rest) a w :=
  .mk (pl_load cs hw ty x ho g hx t d hg hu hd hn h.out)
theorem wl_call {f : FuncId} {args : Array Value} (v : Value) (hw : Region.wanted o (yielded ops a.tmps) = true) (hx : (execOp a.eval o).run P w = .ok (.enter f args) w) (hc : Ret P f args w v) (hO : Own w0 L w)
    (h : ∀ w', Own w0 L w' → WL P ops Q rest (a.put o.dst v) w') : WL P ops Q (o :: rest) a w :=
  .mk (pl_call v hw hx hc hO fun w' hw' => (h w' hw').out)
theorem wl_new (t : TypeId) (cs : Array Value) (hw : Region.wanted o (yielded ops a.tmps) = true) (hx : (execOp a.eval o).run P w = .ok (.value (.pointer (some ⟨w.heap.size, 0, none⟩))) (w.alloc (.cells cs t))) (hO : Own w0 L w)
    (h : ∀ w', Own w0 ((w.heap.size, t, cs) :: L) w' → WL P ops Q rest (a.put o.dst (.pointer (some ⟨w.heap.size, 0, none⟩))) w') : WL P ops Q (o :: rest) a w :=
  .mk (pl_new t cs hw hx hO fun w' hw' => (h w' hw').out)
theorem wl_store {g : Nat} {t : TypeId} {cs : Array Value} (ds : Array Value) (hg : o.guard = none) (ty : TypeId) (x y : Operand) (ho : o.op = .store ty x y) (hx : a.eval x = .pointer (some ⟨g, 0, none⟩)) (hy : a.eval y = .agg ds)
    (hO : Own w0 (L1 ++ (g, t, cs) :: L2) w) (hs : ds.size = cs.size) (hi : (P.info? ty).map (·.size) = some ds.size) (h1 : ds.all (·.oneCell') = true)
    (h : ∀ w', Own w0 (L1 ++ (g, t, ds) :: L2) w' → WL P ops Q rest (a.put o.dst undef) w') : WL P ops Q (o :: rest) a w :=
  .mk (pl_store ds hg ty x y ho hx hy hO hs hi h1 fun w' hw' => (h w' hw').out)
theorem wl_nil (h : Q .normal a w) : WL P ops Q [] a w :=
  .mk (h)
theorem wl_eql {x y : Nat} (b : Bool) (hx : N256 x) (hy : N256 y) (hb : decide (x = y) = b) (hw : Region.wanted o (yielded ops a.tmps) = true) (p q : Operand) (z : TypeId) (ho : o.op = .binOp .eql 22 p q z)
    (hp : a.eval p = .agg (c8 x)) (hq : a.eval q = .agg (c8 y)) (h : WL Tryd.prog ops Q rest (a.put o.dst (.bool b)) w) : WL Tryd.prog ops Q (o :: rest) a w :=
  .mk (pl_eql b hx hy hb hw p q z ho hp hq h.out)
theorem wl_neq {x y : Nat} (b : Bool) (hx : N256 x) (hy : N256 y) (hb : (!decide (x = y)) = b) (hw : Region.wanted o (yielded ops a.tmps) = true) (p q : Operand) (z : TypeId) (ho : o.op = .binOp .neq 22 p q z)
    (hp : a.eval p = .agg (c8 x)) (hq : a.eval q = .agg (c8 y)) (h : WL Tryd.prog ops Q rest (a.put o.dst (.bool b)) w) : WL Tryd.prog ops Q (o :: rest) a w :=
  .mk (pl_neq b hx hy hb hw p q z ho hp hq h.out)
end
theorem p0 (t : List Value) (D : List Deferred) (d : Nat) (v : Value) : Act.put { tmps := t.toArray, defers := D } (some d) v = { tmps := (t.set d v).toArray, defers := D } := congrArg (fun x => ({ tmps := x, defers := D } : Act)) (List.setIfInBounds_toArray ..)
theorem p1 (a : Act) (v : Value) : Act.put a none v = a := rfl
theorem p2 (l : List Value) (a v : Value) : (a :: l).set 0 v = v :: l := rfl
theorem p3 (l : List Value) (i : Nat) (a v : Value) : (a :: l).set (i + 1) v = a :: l.set i v := rfl
end Go.Proofs.YtkmgdpbmkbpkjaaDoor
