/-
  Steps of a drawn region that holds calls and an allocation at any moment: branches, and the rest of the walk once.
-/
import Derived.Test.YtkmgdpbmkbpkjaaEng
set_option linter.unusedVariables false
set_option linter.unusedSimpArgs false
namespace Go.Proofs.Ytkmgdpbmkbpkjaa
open Go.RowKit

section
variable {P : Program} {ops : Array Oper} {Q : Exit → Act → World → Prop} {a : Act} {w w0 : World} {L L1 L2 : List (Nat × TypeId × Array Value)} {md : Region.Mode} {S : World → Prop} {fuel : Nat} {listed : Array Bool}

theorem hl_cut {t : TypeId} {cs : Array Value} {a' : Nat → Act} (h : (∀ g w', Own w0 ((g, t, cs) :: L) w' → Q .normal (a' g) w') → wpAnyH P md ops (NoPanic Q) S fuel listed a w)
    (rest : ∀ g w', Own w0 ((g, t, cs) :: L) w' → Q .normal (a' g) w') : wpAnyH P md ops (NoPanic Q) S fuel listed a w := h rest

/-- Operation i, taken next. -/
def Step (P : Program) (md : Region.Mode) (ops : Array Oper) (Q : Exit → Act → World → Prop) (S : World → Prop) (fuel : Nat) (listed : Array Bool) (a : Act) (w : World) (i : Nat) : Prop :=
  ∃ o, ops[i]? = some o ∧ o.guard = none ∧ ∀ K : Act → World → Prop, (∀ a' w', S w' → wpAnyH P md ops (NoPanic Q) S fuel (listed.setIfInBounds i true) a' w' → K a' w') → o.wp P a w K (NoPanic Q)
theorem hl_one (i : Nat) (hr : Region.ready md ops listed = [i]) (h : Step P md ops Q S fuel listed a w i) : wpAnyH P md ops (NoPanic Q) S (fuel + 1) listed a w :=
  held_next hr (by simp) fun k hk => by obtain rfl := List.mem_singleton.1 hk; exact h
theorem hl_two (i j : Nat) (hr : Region.ready md ops listed = [i, j]) (h : Step P md ops Q S fuel listed a w i) (h' : Step P md ops Q S fuel listed a w j) : wpAnyH P md ops (NoPanic Q) S (fuel + 1) listed a w :=
  held_next hr (by simp) fun k hk => by
    rcases List.mem_cons.1 hk with rfl | hk
    · exact h
    · obtain rfl := List.mem_singleton.1 hk; exact h'
variable (i : Nat) (l' : Array Bool) {o : Oper} (hl : listed.setIfInBounds i true = l') (hi : ops[i]? = some o) (dst : Option Tmp) (hdst : o.dst = dst) (hg : o.guard = none)
include hl hi hdst hg
theorem st_call {f : FuncId} {args : Array Value} (v : Value) (hx : (execOp a.eval o).run P w = .ok (.enter f args) w) (hc : Ret P f args w v) (hO : Own w0 L w) (hS : ∀ w, Own w0 L w → S w)
    (h : ∀ w', Own w0 L w' → wpAnyH P md ops (NoPanic Q) S fuel l' (a.put dst v) w') : Step P md ops Q S fuel listed a w i := by
  subst hl hdst
  exact ⟨o, hi, hg, fun K hK => wp_enter hx hc fun w' hb => hK _ _ (hS _ (hO.call hb)) (h w' (hO.call hb))⟩
theorem st_alloc (t : TypeId) (cs : Array Value) (hx : (execOp a.eval o).run P w = .ok (.value (.pointer (some ⟨w.heap.size, 0, none⟩))) (w.alloc (.cells cs t))) (hO : Own w0 L w) (hS : ∀ w, Own w0 L w → S w)
    (h : ∀ g w', Own w0 ((g, t, cs) :: L) w' → wpAnyH P md ops (NoPanic Q) S fuel l' (a.put dst (.pointer (some ⟨g, 0, none⟩))) w') : Step P md ops Q S fuel listed a w i := by
  subst hl hdst
  refine ⟨o, hi, hg, fun K hK => ?_⟩
  unfold Oper.wp
  rw [hx]
  exact hK _ _ (hS _ (hO.new t cs).tail) (h _ _ (hO.new t cs))
theorem st_store {g : Nat} {t : TypeId} {cs : Array Value} (ds : Array Value) (ty : TypeId) (x y : Operand) (ho : o.op = .store ty x y) (hx : a.eval x = .pointer (some ⟨g, 0, none⟩)) (hy : a.eval y = .agg ds)
    (hO : Own w0 ((g, t, cs) :: L) w) (hs : ds.size = cs.size) (hn : (P.info? ty).map (·.size) = some ds.size) (h1 : ds.all (·.oneCell') = true) (hS : ∀ w, Own w0 ((g, t, ds) :: L) w → S w)
    (h : ∀ w', Own w0 ((g, t, ds) :: L) w' → wpAnyH P md ops (NoPanic Q) S fuel l' (a.put dst undef) w') : Step P md ops Q S fuel listed a w i := by
  subst hl hdst
  refine ⟨o, hi, hg, fun K hK => ?_⟩
  have hO2 : Own w0 ([] ++ (g, t, cs) :: L) w := hO
  have ht := (hO.get (g := g) (t := t) (cs := cs) (by simp)).there
  rw [← hs] at ht
  have hO3 : Own w0 ((g, t, ds) :: L) (w.setCells g 0 ds.toList) := hO2.set hs
  exact wp_store_mid ty x y ho g 0 ds hx hy ht hn h1 (hK _ _ (hS _ hO3) (h _ hO3))
end
end Go.Proofs.Ytkmgdpbmkbpkjaa
