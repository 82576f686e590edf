/-
  SHA-256's block: what it comes to; slices of amounts.
-/
import Derived.Test.YtkmgdpbmkbpkjaaDoorWm
set_option linter.unusedVariables false
set_option linter.unusedSimpArgs false
namespace Go.Proofs.YtkmgdpbmkbpkjaaDoor
open Go.RowKit

def lit3 (a b c : Int) : Nat → Int
  | 0 => a
  | 1 => b
  | _ => c
def am2 (a b : Nat) : Nat → Nat
  | 0 => a
  | _ => b
def am3 (a b c : Nat) : Nat → Nat
  | 0 => a
  | 1 => b
  | _ => c
section
variable {P : Program} {o : Oper} {a : Act} {w w0 : World} {L : List (Nat × TypeId × Array Value)}
/-- A literal of a slice. -/
theorem r_bs (t : TypeId) (cs : Array Value) (n : Nat) (hx : (execOp a.eval o).run P w = .ok (.value (.slice (some ⟨w.heap.size, 0, none⟩) n n)) (w.alloc (.cells cs t))) (hO : Own w0 L w) :
    Runs P o a w (fun g : Nat => .slice (some ⟨g, 0, none⟩) n n) fun g w' => Own w0 ((g, t, cs) :: L) w' := r_val _ hx (hO.new t cs)
end
theorem rdc_own0 {w w0 : World} {L : List (Nat × TypeId × Array Value)} {g : Nat} {t : TypeId} {k : IntKind} {n : Nat} {f : Nat → Int} (h : Own w0 L w) (hm : (g, t, aF k n f) ∈ L) : RdC w k g 0 n f := fun j hj => by
  rw [Nat.zero_add]
  exact own_cell h hm j hj
/-- Two words' amounts, three: what `turned` wants to know. -/
theorem amt2 (x y : Int) (p q : Nat) (hp : iand .u64 (cv .u64 (ineg .i64 x)) 31 = ((p : Nat) : Int)) (hq : iand .u64 (cv .u64 (ineg .i64 y)) 31 = ((q : Nat) : Int)) (h : p < 32 ∧ q < 32) :
    ∀ i, i < 2 → iand .u64 (cv .u64 (ineg .i64 (lit2 x y i))) 31 = ((am2 p q i : Nat) : Int) ∧ am2 p q i < 32 := by
  intro i hi
  have : i = 0 ∨ i = 1 := by omega
  rcases this with rfl | rfl
  · exact ⟨hp, h.1⟩
  · exact ⟨hq, h.2⟩
theorem amt3 (x y z : Int) (p q r : Nat) (hp : iand .u64 (cv .u64 (ineg .i64 x)) 31 = ((p : Nat) : Int)) (hq : iand .u64 (cv .u64 (ineg .i64 y)) 31 = ((q : Nat) : Int)) (hr : iand .u64 (cv .u64 (ineg .i64 z)) 31 = ((r : Nat) : Int)) (h : p < 32 ∧ q < 32 ∧ r < 32) :
    ∀ i, i < 3 → iand .u64 (cv .u64 (ineg .i64 (lit3 x y z i))) 31 = ((am3 p q r i : Nat) : Int) ∧ am3 p q r i < 32 := by
  intro i hi
  have : i = 0 ∨ i = 1 ∨ i = 2 := by omega
  rcases this with rfl | rfl | rfl
  · exact ⟨hp, h.1⟩
  · exact ⟨hq, h.2.1⟩
  · exact ⟨hr, h.2.2⟩
example : iand .u64 (cv .u64 (ineg .i64 17)) 31 = ((15 : Nat) : Int) := by decide +kernel
/-- The words of a block: sixteen of its bytes, the others of those before. -/
def schW (b : Nat → Int) : Nat → (Nat → Int)
  | 0 => zF
  | i + 1 =>
    let w := schW b i
    upd w i (if i < 16 then ior .u32 (ior .u32 (ior .u32 (ishl .u32 (cv .u32 (b (4 * i))) 24) (ishl .u32 (cv .u32 (b (4 * i + 1))) 16)) (ishl .u32 (cv .u32 (b (4 * i + 2))) 8)) (cv .u32 (b (4 * i + 3)))
      else ia .u32 (ia .u32 (ia .u32 (ix .u32 (trn (w (i - 2)) (am2 15 13) 2) (ishr (w (i - 2)) 10)) (w (i - 7))) (ix .u32 (trn (w (i - 15)) (am2 25 14) 2) (ishr (w (i - 15)) 3))) (w (i - 16)))
/-- One step of a block. -/
def stepW (k : Int) (w : Int) (x : Nat → Int) : Nat → Int :=
  let t := ia .u32 (ia .u32 (ia .u32 (ia .u32 (x 7) (trn (x 4) (am3 26 21 7) 3)) (ix .u32 (iand .u32 (x 4) (x 5)) (iand .u32 (inot .u32 (x 4)) (x 6)))) k) w
  let u := ia .u32 (trn (x 0) (am3 30 19 10) 3) (ix .u32 (ix .u32 (iand .u32 (x 0) (x 1)) (iand .u32 (x 0) (x 2))) (iand .u32 (x 1) (x 2)))
  let y := cpy x 1 7 x
  let z := upd y 4 (ia .u32 (y 4) t)
  upd z 0 (ia .u32 t u)
def stepsW (K w x : Nat → Int) : Nat → (Nat → Int)
  | 0 => x
  | i + 1 => stepW (K i) (w i) (stepsW K w x i)
def sumW (s x : Nat → Int) : Nat → (Nat → Int)
  | 0 => s
  | i + 1 => upd (sumW s x i) i (ia .u32 (sumW s x i i) (x i))
/-- The state behind a block. -/
def mix (K s b : Nat → Int) : Nat → Int := sumW s (stepsW K (schW b 64) s 64) 8
end Go.Proofs.YtkmgdpbmkbpkjaaDoor
