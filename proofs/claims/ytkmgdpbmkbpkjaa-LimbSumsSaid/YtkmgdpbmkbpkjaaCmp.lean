/-
  Two arrays of 32 bytes are held against each other; pure operations of a drawn region are taken first.
-/
import Derived.Test.YtkmgdpbmkbpkjaaHeld
import Derived.ChangeKeysEq
set_option linter.unusedVariables false
set_option linter.unusedSimpArgs false
namespace Go.Proofs.Ytkmgdpbmkbpkjaa
open Go.RowKit

theorem digits_eq (x y : Nat) : ∀ n, (∀ i, i < n → x / 256 ^ i % 256 = y / 256 ^ i % 256) → x % 256 ^ n = y % 256 ^ n := by
  intro n
  induction n with
  | zero => intro _; simp [Nat.mod_one]
  | succ n ih =>
    intro h
    rw [Nat.mod_pow_succ, Nat.mod_pow_succ, ih (fun i hi => h i (by omega)), h n (by omega)]
theorem c8_inj {x y : Nat} (hx : N256 x) (hy : N256 y) (h : ∀ i, i < 32 → x / 256 ^ i % 256 = y / 256 ^ i % 256) : x = y := by
  have := digits_eq x y 32 h
  unfold N256 at hx hy
  rwa [Nat.mod_eq_of_lt (by simpa using hx), Nat.mod_eq_of_lt (by simpa using hy)] at this

theorem run_eqItems_c8 (d x y : Nat) (w : World) : ∀ is : List Nat, (∀ i ∈ is, i < 32) →
    (Op.eqItems (d + 1) 5 1 (c8 x) (c8 y) is).run Try.prog w = .ok (is.all fun i => decide (x / 256 ^ i % 256 = y / 256 ^ i % 256)) w
  | [], _ => rfl
  | i :: is, h => by
    have hi := h i (List.mem_cons_self ..)
    have ih := run_eqItems_c8 d x y w is fun j hj => h j (List.mem_cons_of_mem _ hj)
    have px := run_part_plain (P := Try.prog) w (e := 5) (by kernel_rfl) (off := i * 1) ((by rw [Nat.mul_one]; exact get_c8 x i hi) : (c8 x)[i * 1]? = _)
    have py := run_part_plain (P := Try.prog) w (e := 5) (by kernel_rfl) (off := i * 1) ((by rw [Nat.mul_one]; exact get_c8 y i hi) : (c8 y)[i * 1]? = _)
    simp only [Op.eqItems, Sem.run_bind, px, py, Result.andThen_ok, run_equalIn_int w d 5 .u8 .u8 _ _ Try.underlying5]
    by_cases e : x / 256 ^ i % 256 = y / 256 ^ i % 256
    · rw [e]
      simp only [BEq.rfl, Bool.not_true, Bool.false_eq_true, if_false, ih, List.all_cons, e, decide_true, Bool.true_and]
    · have e' : (((x / 256 ^ i % 256 : Nat) : Int) == ((y / 256 ^ i % 256 : Nat) : Int)) = false := by
        rw [beq_eq_false_iff_ne]; omega
      simp only [e', Bool.not_false, if_true, Sem.run_pure, List.all_cons, e, decide_false, Bool.false_and]

theorem cells5 : Try.prog.cellsOf 5 = 1 := by kernel_rfl
theorem run_equalIn_c8 {x y : Nat} (hx : N256 x) (hy : N256 y) (w : World) : (Op.equalIn 10000 22 (.agg (c8 x)) (.agg (c8 y))).run Try.prog w = .ok (decide (x = y)) w := by
  have hi : ∃ i, Try.prog.info? 5 = some i := Option.isSome_iff_exists.1 (by kernel_rfl)
  obtain ⟨i, hi⟩ := hi
  rw [show (10000 : Nat) = 9998 + 1 + 1 from rfl, run_equalIn_array w (9998 + 1) (c8 x) (c8 y) Try.underlying22 hi, cells5, run_eqItems_c8 9998 x y w _ fun j hj => List.mem_range.1 hj]
  congr 1
  by_cases e : x = y
  · subst e
    simp
  · rw [decide_eq_false e, List.all_eq_false]
    refine Classical.byContradiction fun hn => e (c8_inj hx hy fun j hj => ?_)
    refine Classical.byContradiction fun hne => hn ⟨j, List.mem_range.2 hj, by simpa using hne⟩

theorem run_cmp_eql {x y : Nat} (hx : N256 x) (hy : N256 y) (p q : Operand) (w : World) :
    (do eqGuard .eql 22 p q (.agg (c8 x)) (.agg (c8 y)); binOp .eql 22 (.agg (c8 x)) (.agg (c8 y)) : Sem Value).run Try.prog w = .ok (.bool (decide (x = y))) w := by
  rw [Sem.run_bind, run_eqGuard_agg w .eql _ p q _ _ (by kernel_rfl), Result.andThen_ok, run_eql_struct, run_equalIn_c8 hx hy]
  rfl
theorem run_cmp_neq {x y : Nat} (hx : N256 x) (hy : N256 y) (p q : Operand) (w : World) :
    (do eqGuard .neq 22 p q (.agg (c8 x)) (.agg (c8 y)); binOp .neq 22 (.agg (c8 x)) (.agg (c8 y)) : Sem Value).run Try.prog w = .ok (.bool (!decide (x = y))) w := by
  rw [Sem.run_bind, run_eqGuard_agg w .neq _ p q _ _ (by kernel_rfl), Result.andThen_ok, run_neq_struct, run_equalIn_c8 hx hy]
  rfl

section
variable {P : Program} {ops : Array Oper} {Q : Exit → Act → World → Prop} {md : Region.Mode} {S : World → Prop} {fuel : Nat} {listed : Array Bool} {a : Act} {w : World}
/-- A pure operation, taken first. -/
theorem held_pure (i : Nat) (v : Value) {o : Oper} (hi : ops[i]? = some o) (hs : Region.noSelect ops = true) (hf : Region.free md ops listed i = true) (hr : (Region.ready md ops listed).contains i = true)
    (hQ : ∀ c a w, Q (.panic c) (a.put o.dst v) w → Q (.panic c) a w) (hw : Region.wanted o (yielded ops a.tmps) = true) (hy : ∀ w, (execOp a.eval o).run P w = .ok (.value v) w) (hS : S w)
    (h : wpAnyH P md ops Q S fuel (listed.setIfInBounds i true) (a.put o.dst v) w) : wpAnyH P md ops Q S (fuel + 1) listed a w :=
  wpAnyH_take hi hs hf hr hQ (Or.inl ⟨hw, fun w _ => hy w⟩) hS h
/-- An operation that its guard passes over. -/
theorem held_skip (i : Nat) {o : Oper} (hi : ops[i]? = some o) (hs : Region.noSelect ops = true) (hf : Region.free md ops listed i = true) (hr : (Region.ready md ops listed).contains i = true)
    (hQ : ∀ c a w, Q (.panic c) (a.put o.dst undef) w → Q (.panic c) a w) (hw : Region.wanted o (yielded ops a.tmps) = false) (hS : S w)
    (h : wpAnyH P md ops Q S fuel (listed.setIfInBounds i true) (a.put o.dst undef) w) : wpAnyH P md ops Q S (fuel + 1) listed a w :=
  wpAnyH_take hi hs hf hr hQ (Or.inr ⟨hw, rfl⟩) hS h
/-- A load of a whole row that S keeps, behind a guard or not. -/
theorem held_load (i : Nat) (cs : Array Value) {o : Oper} (hi : ops[i]? = some o) (hs : Region.noSelect ops = true) (hf : Region.free md ops listed i = true) (hr : (Region.ready md ops listed).contains i = true)
    (hQ : ∀ c a w, Q (.panic c) (a.put o.dst (.agg cs)) w → Q (.panic c) a w) (hw : Region.wanted o (yielded ops a.tmps) = true) (ty : TypeId) (x : Operand) (ho : o.op = .load ty x) (g : Nat) (hx : a.eval x = .pointer (some ⟨g, 0, none⟩))
    (t : TypeId) (d : TypeDesc) (hg : ∀ w, S w → Bk w g t cs) (hu : P.underlying ty = some d) (hd : d.isRow = true) (hn : (P.info? ty).map (·.size) = some cs.size) (hS : S w)
    (h : wpAnyH P md ops Q S fuel (listed.setIfInBounds i true) (a.put o.dst (.agg cs)) w) : wpAnyH P md ops Q S (fuel + 1) listed a w := by
  refine wpAnyH_take hi hs hf hr hQ (Or.inl ⟨hw, fun w hw' => ?_⟩) hS h
  unfold execOp
  have e := run_loadVar_row w g t ty cs (0, 0) d (hg w hw') hu (by cases d <;> simp_all [TypeDesc.isRow]) hn
  simp only [ho, hx, Instr.loadAt, Instr.sureAddr, Sem.run_bind, Sem.run_pure, Result.andThen_ok, e]
/-- The one operation that is left to come up. -/
theorem held_go (i : Nat) {o : Oper} (hr : Region.ready md ops listed = [i]) (ho : ops[i]? = some o) (hw : Region.wanted o (yielded ops a.tmps) = true)
    (h : ∀ K : Act → World → Prop, (∀ a' w', S w' → wpAnyH P md ops Q S fuel (listed.setIfInBounds i true) a' w' → K a' w') → o.wp P a w K Q) : wpAnyH P md ops Q S (fuel + 1) listed a w := by
  refine wpAnyH_all hr (by simp) fun j hj => ?_
  obtain rfl := List.mem_singleton.1 hj
  unfold wpOp
  simp only [ho]
  rw [if_pos hw]
  exact .inl (h _ fun a' w' h1 h2 => ⟨h1, h2⟩)
end
section
variable {ops : Array Oper} {Q : Exit → Act → World → Prop} {md : Region.Mode} {S : World → Prop} {fuel : Nat} {listed : Array Bool} {a : Act} {w : World}
theorem held_eql (i : Nat) {x y : Nat} (b : Bool) (hx : N256 x) (hy : N256 y) (hb : decide (x = y) = b) {o : Oper} (hi : ops[i]? = some o) (hs : Region.noSelect ops = true) (hf : Region.free md ops listed i = true) (hr : (Region.ready md ops listed).contains i = true)
    (hQ : ∀ c a w, Q (.panic c) (a.put o.dst (.bool b)) w → Q (.panic c) a w) (hw : Region.wanted o (yielded ops a.tmps) = true) (p q : Operand) (z : TypeId) (ho : o.op = .binOp .eql 22 p q z)
    (hp : a.eval p = .agg (c8 x)) (hq : a.eval q = .agg (c8 y)) (hS : S w)
    (h : wpAnyH Try.prog md ops Q S fuel (listed.setIfInBounds i true) (a.put o.dst (.bool b)) w) : wpAnyH Try.prog md ops Q S (fuel + 1) listed a w := by
  refine wpAnyH_take hi hs hf hr hQ (Or.inl ⟨hw, fun w _ => ?_⟩) hS h
  subst hb
  have e := run_cmp_eql hx hy p q w
  rw [Sem.run_bind] at e
  unfold execOp
  simp only [ho, hp, hq, Sem.run_bind]
  rw [e]
  rfl
theorem held_neq (i : Nat) {x y : Nat} (b : Bool) (hx : N256 x) (hy : N256 y) (hb : (!decide (x = y)) = b) {o : Oper} (hi : ops[i]? = some o) (hs : Region.noSelect ops = true) (hf : Region.free md ops listed i = true) (hr : (Region.ready md ops listed).contains i = true)
    (hQ : ∀ c a w, Q (.panic c) (a.put o.dst (.bool b)) w → Q (.panic c) a w) (hw : Region.wanted o (yielded ops a.tmps) = true) (p q : Operand) (z : TypeId) (ho : o.op = .binOp .neq 22 p q z)
    (hp : a.eval p = .agg (c8 x)) (hq : a.eval q = .agg (c8 y)) (hS : S w)
    (h : wpAnyH Try.prog md ops Q S fuel (listed.setIfInBounds i true) (a.put o.dst (.bool b)) w) : wpAnyH Try.prog md ops Q S (fuel + 1) listed a w := by
  refine wpAnyH_take hi hs hf hr hQ (Or.inl ⟨hw, fun w _ => ?_⟩) hS h
  subst hb
  have e := run_cmp_neq hx hy p q w
  rw [Sem.run_bind] at e
  unfold execOp
  simp only [ho, hp, hq, Sem.run_bind]
  rw [e]
  rfl
end

/-- Blocks that the call made, known whole; nothing below has turned. -/
def Keep (w : World) (L : List (Nat × TypeId × Array Value)) (w' : World) : Prop := (∀ x ∈ L, Bk w' x.1 x.2.1 x.2.2) ∧ Below w.heap.size w w'
section
variable {w w1 w2 : World} {L : List (Nat × TypeId × Array Value)}
theorem Keep.call (h : Keep w L w1) (hb : Below w1.heap.size w1 w2) : Keep w L w2 := ⟨fun x hx => (h.1 x hx).under hb, bl_call h.2 hb⟩
theorem Keep.alloc (h : Keep w L w1) (o : Obj) : Keep w L (w1.alloc o) := ⟨fun x hx => (h.1 x hx).alloc o, bl_alloc h.2 o⟩
theorem Keep.drew (h : Keep w L w1) : Keep w L w1.drew := ⟨h.1, h.2.drew⟩
theorem Keep.get (h : Keep w L w1) (g : Nat) (t : TypeId) (cs : Array Value) (hm : (g, t, cs) ∈ L) : Bk w1 g t cs := h.1 _ hm
theorem Keep.nil (w : World) : Keep w [] w := ⟨(fun x hx => by cases hx), Below.refl _ _⟩
theorem Keep.cons (h : Keep w L w1) {g : Nat} {t : TypeId} {cs : Array Value} (hb : Bk w1 g t cs) : Keep w ((g, t, cs) :: L) w1 :=
  ⟨fun x hx => by
    rcases List.mem_cons.1 hx with rfl | hx
    · exact hb
    · exact h.1 x hx, h.2⟩
theorem Keep.off (h : Keep w L w1) {g : Nat} (hg : w.heap.size ≤ g) (hL : ∀ x ∈ L, x.1 ≠ g) (l : List Value) : Keep w L (w1.setCells g 0 l) :=
  ⟨fun x hx => Bk.offs (hL x hx) _ _ _ (h.1 x hx), bl_cells hg _ _ _ h.2⟩
end
end Go.Proofs.Ytkmgdpbmkbpkjaa
