/-
  Words for the walks over package limb: numbers of 256 bits as arrays of bytes, blocks of memory that are known whole, a drawn region walked in the text's order.
-/
import Derived.Test.YtkmgdpbmkbpkjaaProg
import Derived.WalkKit
import Derived.WalkSpells
import Derived.WalkLawsBesides
import Derived.StillTailTactics
import Derived.Deep.MidRow
import Derived.Lib.Hide
set_option linter.unusedVariables false
namespace Go.Proofs.Ytkmgdpbmkbpkjaa
open Go.RowKit

/-- A region that draws its order: its first n operations only read, the rest stand in one order. -/
theorem drawn_region {P : Program} {id : Nat} {Q : Exit → Act → World → Prop} {a : Act} {w : World} {l : List Oper} (n : Nat) (hm : P.follows .mixedOrders = true) (hB : Region.lexTailB .any l.toArray n = true)
    (h : wpStill P l.toArray w.drew (fun a' => wpList P l.toArray Q (l.drop n) a' w.drew) (l.take n) a) : (Code.region id l.toArray true).wp P Q a w :=
  wp_region_still_tail n hm hB h

/-- A number's 32 bytes, the lowest first. -/
def c8 (n : Nat) : Array Value := ((List.range 32).map fun i => Value.int .u8 ((n / 256 ^ i % 256 : Nat) : Int)).toArray
/-- Five limbs. -/
def c5 (a b c d e : Nat) : Array Value := #[.int .u64 a, .int .u64 b, .int .u64 c, .int .u64 d, .int .u64 e]

theorem size_c8 (n : Nat) : (c8 n).size = 32 := by simp [c8]
theorem size_c5 (a b c d e : Nat) : (c5 a b c d e).size = 5 := rfl
theorem get_c8 (n i : Nat) (h : i < 32) : (c8 n)[i]? = some (.int .u8 ((n / 256 ^ i % 256 : Nat) : Int)) := by
  simp [c8, h]
theorem one_c8 (n : Nat) : (c8 n).all (·.oneCell') = true := by
  simp [c8, Value.oneCell']
theorem one_c5 (a b c d e : Nat) : (c5 a b c d e).all (·.oneCell') = true := by
  simp [c5, Value.oneCell']

theorem inum : (Try.prog.info? 22).map (·.size) = some 32 := by kernel_rfl
theorem inum_c8 (n : Nat) : (Try.prog.info? 22).map (·.size) = some (c8 n).size := by rw [size_c8]; exact inum
/-- Below 2^256. -/
def N256 (n : Nat) : Prop := n < 115792089237316195423570985008687907853269984665640564039457584007913129639936
/-- A block that is known whole. -/
def Bk (w : World) (g : Nat) (t : TypeId) (cs : Array Value) : Prop := w.heap[g]? = some (.cells cs t (0, 0))
section
variable {w w' : World} {g : Nat} {t : TypeId} {cs : Array Value}
theorem Bk.lt (h : Bk w g t cs) : g < w.heap.size := (Array.getElem?_eq_some_iff.1 h).1
theorem Bk.cell (h : Bk w g t cs) (i : Nat) : w.cell? ⟨g, i, none⟩ = cs[i]? := cell_of_row w g i cs t (0, 0) h
theorem Bk.frozen (h : Bk w g t cs) (i : Nat) : w.frozen? ⟨g, i, none⟩ = false := frozen_of_row w g i cs t h
theorem Bk.new (w : World) (t : TypeId) (cs : Array Value) : Bk (w.alloc (.cells cs t)) w.heap.size t cs := heap_alloc_new w _
theorem Bk.at_ (w : World) (t : TypeId) (cs : Array Value) (g : Nat) (h : g = w.heap.size) : Bk (w.alloc (.cells cs t)) g t cs := by subst h; exact Bk.new _ _ _
theorem Bk.drew (h : Bk w g t cs) : Bk w.drew g t cs := h
theorem Bk.drewN (h : Bk w g t cs) (n : Nat) : Bk (w.drewN n) g t cs := h
theorem Bk.alloc (h : Bk w g t cs) (o : Obj) : Bk (w.alloc o) g t cs := (Below.heap_alloc w o g h.lt).trans h
theorem Bk.put (h : Bk w g t cs) (i : Nat) (u : Value) : Bk (w.setCell ⟨g, i, none⟩ u) g t (cs.setIfInBounds i u) := by
  unfold Bk at h ⊢
  simp [World.setCell, Array.getElem?_modify, h]
theorem Bk.far (h : Bk w g t cs) {p : Addr} (hp : g ≠ p.block) (u : Value) : Bk (w.setCell p u) g t cs := (heap_setCell_other w p g u hp).trans h
theorem Bk.off (h : Bk w g t cs) {g' : Nat} (hne : g ≠ g') (i : Nat) (u : Value) : Bk (w.setCell ⟨g', i, none⟩ u) g t cs := h.far hne u
theorem Bk.below {B : Nat} (h : Bk w g t cs) (hb : Below B w w') (hg : g < B) : Bk w' g t cs := (hb.block g hg).trans h
theorem Bk.under (h : Bk w g t cs) (hb : Below w.heap.size w w') : Bk w' g t cs := h.below hb h.lt
theorem Bk.range (h : Bk w g t cs) : w.rangeAt g 0 cs.toList := fun j v hv => by
  rw [Nat.zero_add, h.cell]; simpa using hv
theorem Bk.there (h : Bk w g t cs) : w.there g 0 cs.size := fun j hj => by
  refine ⟨?_, h.frozen _⟩
  rw [Nat.zero_add, h.cell]
  simp [hj]
end
/-- Cells put one behind the other. -/
def putAll (cs : Array Value) : Nat → List Value → Array Value
  | _, [] => cs
  | o, v :: l => putAll (cs.setIfInBounds o v) (o + 1) l
theorem putAll_get : ∀ (l : List Value) (cs : Array Value) (o j : Nat), o + l.length ≤ cs.size → (putAll cs o l)[j]? = if o ≤ j ∧ j < o + l.length then l[j - o]? else cs[j]?
  | [], cs, o, j, _ => by
    rw [if_neg (by simp only [List.length_nil]; omega)]
    rfl
  | v :: l, cs, o, j, h => by
    simp only [List.length_cons] at h ⊢
    rw [putAll, putAll_get l _ (o + 1) j (by simp; omega)]
    by_cases h1 : o + 1 ≤ j ∧ j < o + 1 + l.length
    · rw [if_pos h1, if_pos (by omega)]
      obtain ⟨d, rfl⟩ : ∃ d, j = o + 1 + d := ⟨j - (o + 1), by omega⟩
      rw [show o + 1 + d - (o + 1) = d by omega, show o + 1 + d - o = d + 1 by omega]
      rfl
    · rw [if_neg h1, Array.getElem?_setIfInBounds]
      by_cases h2 : o = j
      · subst h2
        rw [if_pos rfl, if_pos (by omega), if_pos (by omega)]
        simp
      · rw [if_neg h2, if_neg (by omega)]
theorem putAll_all (l : List Value) (cs : Array Value) (h : l.length = cs.size) : putAll cs 0 l = l.toArray := by
  apply Array.ext_getElem?
  intro j
  rw [putAll_get l cs 0 j (by omega)]
  by_cases hj : j < l.length
  · rw [if_pos (by omega)]; simp
  · rw [if_neg (by omega), Array.getElem?_eq_none (by omega), Array.getElem?_eq_none (by simpa using hj)]
theorem Bk.putAll {g : Nat} {t : TypeId} : ∀ (l : List Value) (w : World) (cs : Array Value) (o : Nat), Bk w g t cs → Bk (w.setCells g o l) g t (Go.Proofs.Ytkmgdpbmkbpkjaa.putAll cs o l)
  | [], _, _, _, h => h
  | v :: l, w, cs, o, h => Bk.putAll l _ _ (o + 1) (h.put o v)
theorem Bk.all {w : World} {g : Nat} {t : TypeId} {cs ds : Array Value} (h : Bk w g t cs) (hs : ds.size = cs.size) : Bk (w.setCells g 0 ds.toList) g t ds := by
  have := Bk.putAll ds.toList w cs 0 h
  rw [putAll_all _ _ (by simpa using hs)] at this
  simpa using this
theorem Bk.offs {g g' : Nat} {t : TypeId} {cs : Array Value} (hne : g ≠ g') : ∀ (l : List Value) (w : World) (o : Nat), Bk w g t cs → Bk (w.setCells g' o l) g t cs
  | [], _, _, h => h
  | v :: l, w, o, h => Bk.offs hne l _ (o + 1) (h.off hne o v)
section
variable {w w1 w2 : World}
theorem bl_alloc (h : Below w.heap.size w w1) (o : Obj) : Below w.heap.size w (w1.alloc o) := h.alloc h.size o
theorem bl_call (h : Below w.heap.size w w1) (h2 : Below w1.heap.size w1 w2) : Below w.heap.size w w2 := h.trans (h2.mono h.size)
theorem bl_drewN (h : Below w.heap.size w w1) (n : Nat) : Below w.heap.size w (w1.drewN n) := h.trans ⟨rfl, rfl, rfl, Nat.le_refl _, fun _ _ => rfl⟩
theorem bl_put (h : Below w.heap.size w w1) {g i : Nat} (hg : w.heap.size ≤ g) (u : Value) : Below w.heap.size w (w1.setCell ⟨g, i, none⟩ u) := h.setCell (p := ⟨g, i, none⟩) hg u
theorem bl_cells {g : Nat} (hg : w.heap.size ≤ g) : ∀ (l : List Value) (o : Nat) (w1 : World), Below w.heap.size w w1 → Below w.heap.size w (w1.setCells g o l)
  | [], _, _, h => h
  | v :: l, o, w1, h => bl_cells hg l (o + 1) _ (h.setCell (p := ⟨g, o, none⟩) hg v)
end
end Go.Proofs.Ytkmgdpbmkbpkjaa
