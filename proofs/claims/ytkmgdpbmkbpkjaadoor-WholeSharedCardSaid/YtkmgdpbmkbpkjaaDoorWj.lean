/-
  Cells that are copied; a part of a block, written.
-/
import Derived.Test.YtkmgdpbmkbpkjaaDoorWi
set_option linter.unusedVariables false
set_option linter.unusedSimpArgs false
namespace Go.Proofs.YtkmgdpbmkbpkjaaDoor
open Go.RowKit

section
variable {w0 w : World} {L1 L2 : List (Nat × TypeId × Array Value)} {g : Nat} {t : TypeId} {cs : Array Value}
theorem Own.span (h : Own w0 (L1 ++ (g, t, cs) :: L2) w) (o : Nat) (l : List Value) :
    Own w0 (L1 ++ (g, t, putAll cs o l) :: L2) (w.setCells g o l) := by
  have hg := h.get (g := g) (t := t) (cs := cs) (by simp)
  have hu : w0.heap.size ≤ g := h.up (g, t, cs) (by simp)
  have hnd := h.nd
  have e : (L1 ++ (g, t, putAll cs o l) :: L2).map (·.1) = (L1 ++ (g, t, cs) :: L2).map (·.1) := by simp
  have far : ∀ x, x ∈ L1 ∨ x ∈ L2 → x.1 ≠ g := by
    intro x hx he
    rw [List.map_append, List.map_cons, List.nodup_append] at hnd
    rcases hx with hx | hx
    · exact hnd.2.2 x.1 (List.mem_map_of_mem hx) g (List.mem_cons_self ..) he
    · have hm : x.1 ∈ L2.map (·.1) := List.mem_map_of_mem hx
      rw [he] at hm
      exact (List.nodup_cons.1 hnd.2.1).1 hm
  refine ⟨fun x hx => ?_, by rw [e]; exact hnd, fun x hx => ?_, bl_cells hu _ _ _ h.bl⟩
  · rcases List.mem_append.1 hx with hx | hx
    · exact Bk.offs (far x (.inl hx)) _ _ _ (h.bk x (by simp [hx]))
    · rcases List.mem_cons.1 hx with rfl | hx
      · exact Bk.putAll l w cs o hg
      · exact Bk.offs (far x (.inr hx)) _ _ _ (h.bk x (by simp [hx]))
  · rcases List.mem_append.1 hx with hx | hx
    · exact h.up x (by simp [hx])
    · rcases List.mem_cons.1 hx with rfl | hx
      · exact hu
      · exact h.up x (by simp [hx])
end
/-- Some of them copied. -/
def cpy (f : Nat → Int) (d m : Nat) (s : Nat → Int) : Nat → Int := fun j => if d ≤ j ∧ j < d + m then s (j - d) else f j
/-- Cells of whole numbers. -/
def ints (k : IntKind) (m : Nat) (s : Nat → Int) : List Value := (List.range m).map fun i => .int k (s i)
theorem len_ints (k : IntKind) (m : Nat) (s : Nat → Int) : (ints k m s).length = m := by simp [ints]
theorem at_ints {k : IntKind} {m : Nat} {s : Nat → Int} {j : Nat} (h : j < m) : (ints k m s)[j]? = some (.int k (s j)) := by simp [ints, h]
theorem one_ints (k : IntKind) (m : Nat) (s : Nat → Int) : ∀ v ∈ ints k m s, v.oneCell' = true := by
  intro v hv
  obtain ⟨i, _, rfl⟩ := List.mem_map.1 hv
  rfl
theorem aF_copy {k : IntKind} {n : Nat} {f : Nat → Int} {d m : Nat} {s : Nat → Int} (h : d + m ≤ n) : putAll (aF k n f) d (ints k m s) = aF k n (cpy f d m s) := by
  apply Array.ext_getElem?
  intro j
  rw [putAll_get _ _ _ _ (by rw [len_ints, size_aF]; exact h), len_ints]
  by_cases hj : j < n
  · rw [get_aF k n (cpy f d m s) j hj]
    unfold cpy
    by_cases hd : d ≤ j ∧ j < d + m
    · rw [if_pos hd, if_pos hd, at_ints (by omega)]
    · rw [if_neg hd, if_neg hd, get_aF _ _ _ _ hj]
  · rw [if_neg (by omega), Array.getElem?_eq_none (by rw [size_aF]; omega), Array.getElem?_eq_none (by rw [size_aF]; omega)]
section
variable {P : Program} {o : Oper} {a : Act} {w w0 : World} {L L1 L2 : List (Nat × TypeId × Array Value)}
/-- Cells, copied into a block. -/
theorem r_copy {g : Nat} {t : TypeId} {k : IntKind} {n : Nat} {f : Nat → Int} {d m g' o' dL dC sL sC : Nat} {s : Nat → Int} {dT sT ty elem : TypeId} (hR : RdC w k g' o' m s) (hm : m = Nat.min sL dL) (hd : d + m ≤ n)
    (hx : (execOp a.eval o).run P w = ((do let v ← Builtin.copy_ #[dT, sT] ty #[.slice (some ⟨g, d, none⟩) dL dC, .slice (some ⟨g', o', none⟩) sL sC]; pure (Next.value v)) : Sem Next).run P w)
    (hu : P.underlying dT = some (.slice elem)) (hs : (P.info? elem).map (·.size) = some 1) (hO : Own w0 (L1 ++ (g, t, aF k n f) :: L2) w) :
    Runs P o a w (fun _ : Unit => .int .i64 (m : Int)) fun _ w' => Own w0 (L1 ++ (g, t, aF k n (cpy f d m s)) :: L2) w' := by
  have ht := there_at (hO.get (g := g) (t := t) (cs := aF k n f) (by simp)) d m (by rw [size_aF]; exact hd)
  have e := run_copy_cells (P := P) w dT sT ty elem g d dL dC ⟨g', o', none⟩ sL sC (ints k m s) hu hs (by rw [len_ints]; exact hm)
    (fun j v hv => by
      have hj : j < m := by have := (List.getElem?_eq_some_iff.1 hv).1; rwa [len_ints] at this
      rw [at_ints hj] at hv
      obtain rfl := Option.some.inj hv
      have := hR j hj
      unfold Addr.add
      split
      · next h0 => simp_all
      · exact this)
    (fun j hj => (ht j (by rwa [len_ints] at hj)).1) (fun j hj => (ht j (by rwa [len_ints] at hj)).2) (one_ints k m s)
  rw [Sem.run_bind, e, len_ints] at hx
  refine r_val () hx ?_
  have := hO.span d (ints k m s)
  rwa [aF_copy hd] at this
end
end Go.Proofs.YtkmgdpbmkbpkjaaDoor
