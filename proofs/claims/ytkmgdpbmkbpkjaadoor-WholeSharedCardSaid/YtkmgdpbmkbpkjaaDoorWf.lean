/-
  Whole numbers that count; cells of arrays and slices: what a step yields.
-/
import Derived.Test.YtkmgdpbmkbpkjaaDoorWe
import Derived.Laws.IdiomCopy
import Derived.Deep.AppendSrc
import Derived.Laws.MakeOwn
set_option linter.unusedVariables false
set_option linter.unusedSimpArgs false
namespace Go.Proofs.YtkmgdpbmkbpkjaaDoor
open Go.RowKit

section
variable {P : Program} {o : Oper} {a : Act} {p q : Operand} {z T : TypeId}
def big : IntKind → Bool
  | .i64 => true
  | .u64 => true
  | _ => false
theorem wrapN {k : IntKind} {n : Nat} (hk : big k = true) (h : n < 9223372036854775808) : k.wrap ((n : Nat) : Int) = (n : Int) := by
  cases k <;> first | (simp [big] at hk; done) | (simp [IntKind.wrap, IntKind.bits, IntKind.signed]; omega)
theorem n_add {k : IntKind} (hk : big k = true) (x y : Nat) (h : x + y < 9223372036854775808) (ho : o.op = .binOp .add z p q T) (hp : a.eval p = .int k ((x : Nat) : Int)) (hq : a.eval q = .int k ((y : Nat) : Int)) (w : World) :
    (execOp a.eval o).run P w = .ok (.value (.int k ((x + y : Nat) : Int))) w := by
  have e : (execOp a.eval o).run P w = .ok (.value (.int k (k.wrap ((x : Int) + (y : Int))))) w := by unfold execOp; simp only [ho, hp, hq]; cases k <;> first | (simp [big] at hk; done) | kernel_rfl
  rw [e, show ((x : Int) + (y : Int)) = ((x + y : Nat) : Int) by omega, wrapN hk h]
theorem n_sub {k : IntKind} (hk : big k = true) (x y : Nat) (h : y ≤ x ∧ x < 9223372036854775808) (ho : o.op = .binOp .sub z p q T) (hp : a.eval p = .int k ((x : Nat) : Int)) (hq : a.eval q = .int k ((y : Nat) : Int)) (w : World) :
    (execOp a.eval o).run P w = .ok (.value (.int k ((x - y : Nat) : Int))) w := by
  have e : (execOp a.eval o).run P w = .ok (.value (.int k (k.wrap ((x : Int) - (y : Int))))) w := by unfold execOp; simp only [ho, hp, hq]; cases k <;> first | (simp [big] at hk; done) | kernel_rfl
  rw [e, show ((x : Int) - (y : Int)) = ((x - y : Nat) : Int) by omega, wrapN hk (by omega)]
theorem n_mul {k : IntKind} (hk : big k = true) (x y : Nat) (h : x * y < 9223372036854775808) (ho : o.op = .binOp .mul z p q T) (hp : a.eval p = .int k ((x : Nat) : Int)) (hq : a.eval q = .int k ((y : Nat) : Int)) (w : World) :
    (execOp a.eval o).run P w = .ok (.value (.int k ((x * y : Nat) : Int))) w := by
  have e : (execOp a.eval o).run P w = .ok (.value (.int k (k.wrap ((x : Int) * (y : Int))))) w := by unfold execOp; simp only [ho, hp, hq]; cases k <;> first | (simp [big] at hk; done) | kernel_rfl
  rw [e, ← Int.natCast_mul, wrapN hk h]
theorem n_quo {k : IntKind} (hk : big k = true) (x y : Nat) (h : 0 < y ∧ x < 9223372036854775808) (ho : o.op = .binOp .quo z p q T) (hp : a.eval p = .int k ((x : Nat) : Int)) (hq : a.eval q = .int k ((y : Nat) : Int)) (w : World) :
    (execOp a.eval o).run P w = .ok (.value (.int k ((x / y : Nat) : Int))) w := by
  have hy : ¬ ((y : Int) = 0) := by omega
  have e : (binOp .quo z (.int k (x : Int)) (.int k (y : Int)) : Sem Value) = if (y : Int) = 0 then runtimePanic (.error "integer divide by zero") else pure (.int k (k.wrap ((x : Int).tdiv (y : Int)))) := by cases k <;> first | (simp [big] at hk; done) | rfl
  rw [if_neg hy, Int.tdiv_eq_ediv_of_nonneg (by omega), ← Int.natCast_ediv, wrapN hk (Nat.lt_of_le_of_lt (Nat.div_le_self _ _) h.2)] at e
  unfold execOp
  simp only [ho, hp, hq, e]
  cases k <;> first | (simp [big] at hk; done) | rfl
theorem n_rem {k : IntKind} (hk : big k = true) (x y : Nat) (h : 0 < y) (ho : o.op = .binOp .rem z p q T) (hp : a.eval p = .int k ((x : Nat) : Int)) (hq : a.eval q = .int k ((y : Nat) : Int)) (w : World) :
    (execOp a.eval o).run P w = .ok (.value (.int k ((x % y : Nat) : Int))) w := by
  have hy : ¬ ((y : Int) = 0) := by omega
  have e : (binOp .rem z (.int k (x : Int)) (.int k (y : Int)) : Sem Value) = if (y : Int) = 0 then runtimePanic (.error "integer divide by zero") else pure (.int k ((x : Int).tmod (y : Int))) := by cases k <;> first | (simp [big] at hk; done) | rfl
  rw [if_neg hy, Int.tmod_eq_emod_of_nonneg (by omega), ← Int.natCast_emod] at e
  unfold execOp
  simp only [ho, hp, hq, e]
  cases k <;> first | (simp [big] at hk; done) | rfl
theorem n_shr {k yk : IntKind} (x : Int) (n : Nat) (h : n ≤ k.bits) (ho : o.op = .binOp .shr z p q T) (hp : a.eval p = .int k x) (hq : a.eval q = .int yk ((n : Nat) : Int)) (w : World) :
    (execOp a.eval o).run P w = .ok (.value (.int k (ishr x n))) w := by
  have hy : ¬ ((n : Int) < 0) := by omega
  have : (binOp .shr z (.int k x) (.int yk (n : Int)) : Sem Value) = if (n : Int) < 0 then runtimePanic (.error "negative shift amount") else pure (.int k (x.fdiv (2 ^ (min n k.bits)))) := rfl
  rw [if_neg hy, Nat.min_eq_left h] at this
  unfold execOp
  simp only [ho, hp, hq, this]
  rfl
theorem n_shl {k yk : IntKind} (x : Int) (n : Nat) (h : n ≤ k.bits) (ho : o.op = .binOp .shl z p q T) (hp : a.eval p = .int k x) (hq : a.eval q = .int yk ((n : Nat) : Int)) (w : World) :
    (execOp a.eval o).run P w = .ok (.value (.int k (ishl k x n))) w := by
  have hy : ¬ ((n : Int) < 0) := by omega
  have : (binOp .shl z (.int k x) (.int yk (n : Int)) : Sem Value) = if (n : Int) < 0 then runtimePanic (.error "negative shift amount") else pure (.int k (k.wrap (x * 2 ^ (min n k.bits)))) := rfl
  rw [if_neg hy, Nat.min_eq_left h] at this
  unfold execOp
  simp only [ho, hp, hq, this]
  rfl
theorem i_lss {k : IntKind} (x y : Int) (b : Bool) (h : decide (x < y) = b) (ho : o.op = .binOp .lss z p q T) (hp : a.eval p = .int k x) (hq : a.eval q = .int k y) (w : World) :
    (execOp a.eval o).run P w = .ok (.value (.bool b)) w := by
  subst h; unfold execOp; simp only [ho, hp, hq]; cases k <;> kernel_rfl
theorem i_geq {k : IntKind} (x y : Int) (b : Bool) (h : decide (y ≤ x) = b) (ho : o.op = .binOp .geq z p q T) (hp : a.eval p = .int k x) (hq : a.eval q = .int k y) (w : World) :
    (execOp a.eval o).run P w = .ok (.value (.bool b)) w := by
  subst h; unfold execOp; simp only [ho, hp, hq]; cases k <;> kernel_rfl
theorem i_gtr {k : IntKind} (x y : Int) (b : Bool) (h : decide (y < x) = b) (ho : o.op = .binOp .gtr z p q T) (hp : a.eval p = .int k x) (hq : a.eval q = .int k y) (w : World) :
    (execOp a.eval o).run P w = .ok (.value (.bool b)) w := by
  subst h; unfold execOp; simp only [ho, hp, hq]; cases k <;> kernel_rfl
theorem i_neq {k : IntKind} (x y : Int) (b : Bool) (h : (!decide (x = y)) = b) (ho : o.op = .binOp .neq z p q T) (hp : a.eval p = .int k x) (hq : a.eval q = .int k y) (w : World) :
    (execOp a.eval o).run P w = .ok (.value (.bool b)) w := by
  subst h; unfold execOp; simp only [ho, hp, hq]; cases k <;> kernel_rfl
theorem i_eql {k : IntKind} (x y : Int) (b : Bool) (h : decide (x = y) = b) (ho : o.op = .binOp .eql z p q T) (hp : a.eval p = .int k x) (hq : a.eval q = .int k y) (w : World) :
    (execOp a.eval o).run P w = .ok (.value (.bool b)) w := by
  subst h; unfold execOp; simp only [ho, hp, hq]; cases k <;> kernel_rfl
/-- Names of what the walker writes. -/
def imul (k : IntKind) (x y : Int) : Int := k.wrap (x * y)
def iandn (k : IntKind) (x y : Int) : Int := bits .andNot k x y
def ineg (k : IntKind) (x : Int) : Int := k.wrap (0 - x)
def inot (k : IntKind) (x : Int) : Int := bits .xor k (if k.signed then -1 else k.max) x
def cv (k : IntKind) (x : Int) : Int := k.wrap x
def zF : Nat → Int := fun _ => 0
end
section
variable {P : Program} {o : Oper} {a : Act} {p q : Operand} {w w0 : World} {L L1 L2 : List (Nat × TypeId × Array Value)}
theorem own_cell {g : Nat} {t : TypeId} {k : IntKind} {n : Nat} {f : Nat → Int} (h : Own w0 L w) (hm : (g, t, aF k n f) ∈ L) (i : Nat) (hi : i < n) : w.cell? ⟨g, i, none⟩ = some (.int k (f i)) :=
  ((h.get hm).cell i).trans (get_aF k n f i hi)
theorem run_row {g : Nat} {t ty : TypeId} {cs : Array Value} {d : TypeDesc} {x : Operand} (hm : Bk w g t cs) (hu : P.underlying ty = some d) (hd : d.isRow = true) (hn : (P.info? ty).map (·.size) = some cs.size)
    (ho : o.op = .load ty x) (hx : a.eval x = .pointer (some ⟨g, 0, none⟩)) : (execOp a.eval o).run P w = .ok (.value (.agg cs)) w := by
  unfold execOp
  have e := run_loadVar_row w g t ty cs (0, 0) d hm hu (by cases d <;> simp_all [TypeDesc.isRow]) hn
  simp only [ho, hx, Instr.loadAt, Instr.sureAddr, Sem.run_bind, Sem.run_pure, Result.andThen_ok, e]
/-- One of an array's, written. -/
theorem r_st {g : Nat} {t : TypeId} {k : IntKind} {n : Nat} {f : Nat → Int} (i : Nat) (v : Int) (hi : i < n) {ty : TypeId} {x y : Operand} (ho : o.op = .store ty x y)
    (hx : a.eval x = .pointer (some ⟨g, i, none⟩)) (hy : a.eval y = .int k v) (hO : Own w0 (L1 ++ (g, t, aF k n f) :: L2) w) (hs : (P.info? ty).map (·.size) = some 1) :
    Runs P o a w (fun _ : Unit => undef) fun _ w' => Own w0 (L1 ++ (g, t, aF k n (upd f i v)) :: L2) w' := by
  have ht := there_at (hO.get (g := g) (t := t) (cs := aF k n f) (by simp)) i 1 (by rw [size_aF]; omega)
  intro K Q h
  unfold Oper.wp execOp
  simp only [ho, hx, hy, Instr.storeAt, Instr.sureAddr, Sem.run_bind, Sem.run_pure, Result.andThen_ok, run_storeVar_one w g i ty (.int k v) rfl rfl ht hs]
  exact h () _ (hO.cell (aF_set k n f i v hi))
/-- A whole block, written. -/
theorem r_row {g : Nat} {t : TypeId} {cs : Array Value} (ds : Array Value) {ty : TypeId} {x y : Operand} (ho : o.op = .store ty x y) (hx : a.eval x = .pointer (some ⟨g, 0, none⟩)) (hy : a.eval y = .agg ds)
    (hO : Own w0 (L1 ++ (g, t, cs) :: L2) w) (hs : ds.size = cs.size) (hn : (P.info? ty).map (·.size) = some ds.size) (h1 : ds.all (·.oneCell') = true) :
    Runs P o a w (fun _ : Unit => undef) fun _ w' => Own w0 (L1 ++ (g, t, ds) :: L2) w' := by
  have ht := (hO.get (g := g) (t := t) (cs := cs) (by simp)).there
  rw [← hs] at ht
  exact fun K Q h => wp_store_mid ty x y ho g 0 ds hx hy ht hn h1 (h () _ (hO.set hs))
/-- A new block. -/
theorem r_new (t : TypeId) (cs : Array Value) (hx : (execOp a.eval o).run P w = .ok (.value (.pointer (some ⟨w.heap.size, 0, none⟩))) (w.alloc (.cells cs t))) (hO : Own w0 L w) :
    Runs P o a w (fun g : Nat => .pointer (some ⟨g, 0, none⟩)) fun g w' => Own w0 ((g, t, cs) :: L) w' := r_val _ hx (hO.new t cs)
theorem p_idx {g off n : Nat} {T E : TypeId} (hu : P.underlying T = some (.array n E)) (h5 : (P.info? E).map (·.size) = some 1) (i : Nat) (hi : i < n) (ho : o.op = .indexAddr T p q) (hp : a.eval p = .pointer (some ⟨g, off, none⟩)) (hq : a.eval q = .int .i64 ((i : Nat) : Int)) (w : World) :
    (execOp a.eval o).run P w = .ok (.value (.pointer (some ⟨g, off + i, none⟩))) w := by
  have h1 : (0 : Int) ≤ i ∧ (i : Int) < n := by omega
  obtain ⟨x, hx, hs⟩ := Option.map_eq_some_iff.1 h5
  unfold execOp
  simp only [ho, hp, hq]
  simp [Sem.run_bind, Instr.indexAt, Instr.sureAddr, asIntOf, run_underlying hu, sizeOf, typeInfo, hx, hs, h1, hi, Addr.add]
theorem p_idx0 {g n : Nat} {T E : TypeId} (hu : P.underlying T = some (.array n E)) (h5 : (P.info? E).map (·.size) = some 1) (i : Nat) (hi : i < n) (ho : o.op = .indexAddr T p q) (hp : a.eval p = .pointer (some ⟨g, 0, none⟩)) (hq : a.eval q = .int .i64 ((i : Nat) : Int)) (w : World) :
    (execOp a.eval o).run P w = .ok (.value (.pointer (some ⟨g, i, none⟩))) w := by
  have := p_idx hu h5 i hi ho hp hq w
  rwa [Nat.zero_add] at this
end
end Go.Proofs.YtkmgdpbmkbpkjaaDoor
