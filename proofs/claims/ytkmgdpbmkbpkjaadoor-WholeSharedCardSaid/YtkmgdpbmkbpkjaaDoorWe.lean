/-
  A drawn region in an order of one's own: held steps first, the forced ones as they come; steps whose value or memory is told by a property.
-/
import Derived.Test.YtkmgdpbmkbpkjaaDoorWd
set_option linter.unusedVariables false
set_option linter.unusedSimpArgs false
namespace Go.Proofs.YtkmgdpbmkbpkjaaDoor
open Go.RowKit

/-- What a function answers, by a property. -/
def Ans {β : Type} (P : Program) (f : FuncId) (args : Array Value) (w : World) (v : β → Value) (C : β → World → Prop) : Prop := Calls P f args w fun e w' => ∃ b, e = .returned (v b) ∧ C b w'
/-- What a step yields, by a property. -/
def Runs {β : Type} (P : Program) (o : Oper) (a : Act) (w : World) (v : β → Value) (C : β → World → Prop) : Prop := ∀ (K : Act → World → Prop) (Q : Exit → Act → World → Prop), (∀ b w1, C b w1 → K (a.put o.dst (v b)) w1) → o.wp P a w K Q
section
variable {P : Program} {ops : Array Oper} {Q : Exit → Act → World → Prop} {rest : List Oper} {o : Oper} {a : Act} {w w0 : World} {L L0 L1 L2 : List (Nat × TypeId × Array Value)} {md : Region.Mode} {S : World → Prop} {X : List Nat} {fuel : Nat} {listed : Array Bool} {β : Type} {v : β → Value} {C : β → World → Prop}
theorem wl_runs (hw : Region.wanted o (yielded ops a.tmps) = true) (hx : Runs P o a w v C) (h : ∀ b w1, C b w1 → WL P ops Q rest (a.put o.dst (v b)) w1) : WL P ops Q (o :: rest) a w := by
  refine .mk ?_
  unfold wpList
  rw [if_pos hw]
  exact .inl (hx _ _ fun b w1 hc => (h b w1 hc).out)
theorem r_call {f : FuncId} {args : Array Value} {u : Value} (hx : (execOp a.eval o).run P w = .ok (.enter f args) w) (hc : Ret P f args w u) (hO : Own w0 L w) : Runs P o a w (fun _ : Unit => u) fun _ w' => Own w0 L w' :=
  fun K Q h => wp_enter hx hc fun w' hb => h () w' (hO.call hb)
theorem r_ans {f : FuncId} {args : Array Value} (hx : (execOp a.eval o).run P w = .ok (.enter f args) w) (hc : Ans P f args w v C) : Runs P o a w v C := fun K Q h => by
  unfold Oper.wp
  rw [hx]
  refine Calls.mono hc ?_
  rintro e w' ⟨b, rfl, hr⟩
  exact h b w' hr
theorem r_val {w1 : World} (b : β) (hx : (execOp a.eval o).run P w = .ok (.value (v b)) w1) (hc : C b w1) : Runs P o a w v C := fun K Q h => by
  unfold Oper.wp
  rw [hx]
  exact h b w1 hc

/-- May the i-th come up now: held (0: it hangs on nothing, 1: on what is held, 2: after a named store), alone (3), alone and named, or after a named one (4). -/
def okAt (md : Region.Mode) (ops : Array Oper) (X : List Nat) (l : Array Bool) (i k : Nat) : Bool :=
  if k ≤ 2 then Region.noSelect ops && Region.free md ops l i && (Region.ready md ops l).contains i && !X.contains i && (if k = 0 then true else if k = 1 then clean X l && waits md ops X i else !clean X l)
  else decide (Region.ready md ops l = [i]) && (if k = 3 then true else !clean X (l.setIfInBounds i true))
/-- Orders: one step, or either of two. -/
inductive Tr
  | nil : Tr
  | st (i k : Nat) (r : Tr) : Tr
  | br (i j : Nat) (x y : Tr) : Tr
def Tr.len : Tr → Nat
  | .nil => 0
  | .st _ _ r => r.len + 1
  | .br _ _ x y => max x.len y.len + 1
def Tr.ofList : List (Nat × Nat) → Tr → Tr
  | [], t => t
  | (i, k) :: r, t => .st i k (Tr.ofList r t)
def okAll (md : Region.Mode) (ops : Array Oper) (X : List Nat) : Array Bool → Tr → Bool
  | l, .nil => (Region.ready md ops l).isEmpty
  | l, .st i k r => okAt md ops X l i k && okAll md ops X (l.setIfInBounds i true) r
  | l, .br i j x y => decide (Region.ready md ops l = [i, j]) && (okAll md ops X (l.setIfInBounds i true) x && okAll md ops X (l.setIfInBounds j true) y)
@[irreducible] def WD (P : Program) (md : Region.Mode) (ops : Array Oper) (Q : Exit → Act → World → Prop) (S : World → Prop) (X : List Nat) (ord : Tr) (a : Act) (w : World) : Prop :=
  ∀ l fuel, okAll md ops X l ord = true → ord.len ≤ fuel → wpF P md ops (NoPanic Q) S X fuel l a w
theorem WD.out {ord : Tr} (h : WD P md ops Q S X ord a w) : ∀ l fuel, okAll md ops X l ord = true → ord.len ≤ fuel → wpF P md ops (NoPanic Q) S X fuel l a w := by unfold WD at h; exact h
theorem WD.mk {ord : Tr} (h : ∀ l fuel, okAll md ops X l ord = true → ord.len ≤ fuel → wpF P md ops (NoPanic Q) S X fuel l a w) : WD P md ops Q S X ord a w := by unfold WD; exact h
theorem wd_region {id : Nat} {l : List Oper} (X : List Nat) (ord : Tr) (hn : ord.len ≤ l.length) (hk : okAll .any l.toArray X (Array.replicate l.length false) ord = true) (hm : P.follows .mixedOrders = true) (hO : Own w0 L w)
    (h : ∀ w', Own w0 L w' → WD P .any l.toArray Q (Own w0 L) X ord a w') : (Code.region id l.toArray true).wp P Q a w :=
  fl_start X _ rfl hm hO fun w' hw' => (h w' hw').out _ _ hk hn
theorem wd_start {id : Nat} {l : List Oper} (X : List Nat) (ord : Tr) (hn : ord.len ≤ l.length) (hk : okAll .any l.toArray X (Array.replicate l.length false) ord = true) (hm : P.follows .mixedOrders = true)
    (h : WD P .any l.toArray Q (fun x => x = w.drew) X ord a w.drew) : (Code.region id l.toArray true).wp P Q a w := by
  refine wp_region_noPanic (wp_region_any hm (wpAny_of_F (S := fun x => x = w.drew) (X := X) _ _ _ _ ?_))
  have := h.out _ _ hk hn
  simpa using this
theorem wd_nil (h : Q .normal a w) : WD P md ops Q S X .nil a w := .mk fun l fuel hl _ => fl_done (List.isEmpty_iff.1 hl) h
theorem okAll_cons {l : Array Bool} {i k : Nat} {r : Tr} (h : okAll md ops X l (.st i k r) = true) : okAt md ops X l i k = true ∧ okAll md ops X (l.setIfInBounds i true) r = true := by
  simpa [okAll] using h
theorem WD.st {i k : Nat} {r : Tr} (h : ∀ l fuel, okAt md ops X l i k = true → okAll md ops X (l.setIfInBounds i true) r = true → r.len ≤ fuel → wpF P md ops (NoPanic Q) S X (fuel + 1) l a w) : WD P md ops Q S X (.st i k r) a w :=
  .mk fun l fuel hl hn => by
    obtain ⟨h1, h2⟩ := okAll_cons hl
    cases fuel with
    | zero => simp [Tr.len] at hn
    | succ f => exact h l f h1 h2 (by simp only [Tr.len] at hn; omega)
variable {r : Tr} {i : Nat}
/-- What is held, of what stood before. -/
theorem wd_ld (v : Value) (hi : ops[i]? = some o) (dst : Option Tmp) (hdst : o.dst = dst) (hw : Region.wanted o (yielded ops a.tmps) = true) (hy : ∀ w, S w → (execOp a.eval o).run P w = .ok (.value v) w) (hS : S w)
    (h : WD P md ops Q S X r (a.put dst v) w) : WD P md ops Q S X (.st i 1 r) a w := .st fun l fuel h1 h2 hn => by
  subst hdst
  simp only [okAt, Nat.reduceLeDiff, if_true, Bool.and_eq_true, Nat.one_ne_zero, if_false, Bool.not_eq_true'] at h1
  obtain ⟨⟨⟨⟨hs, hf⟩, hr⟩, hX⟩, hc, hwt⟩ := h1
  exact fl_take i _ rfl hi _ rfl hs hf hr hX true v (fun _ => waits_spec hwt) (fun _ => hc) (.inl ⟨hw, fun w hw' => hy w (hw' rfl)⟩) (fun _ => hS) (h.out _ _ h2 hn)
theorem wd_sk (hi : ops[i]? = some o) (dst : Option Tmp) (hdst : o.dst = dst) (hw : Region.wanted o (yielded ops a.tmps) = false) (hS : S w)
    (h : WD P md ops Q S X r (a.put dst undef) w) : WD P md ops Q S X (.st i 1 r) a w := .st fun l fuel h1 h2 hn => by
  subst hdst
  simp only [okAt, Nat.reduceLeDiff, if_true, Bool.and_eq_true, Nat.one_ne_zero, if_false, Bool.not_eq_true'] at h1
  obtain ⟨⟨⟨⟨hs, hf⟩, hr⟩, hX⟩, hc, hwt⟩ := h1
  exact fl_take i _ rfl hi _ rfl hs hf hr hX true undef (fun _ => waits_spec hwt) (fun _ => hc) (.inr ⟨hw, rfl⟩) (fun _ => hS) (h.out _ _ h2 hn)
theorem wd_p (v : Value) (hi : ops[i]? = some o) (dst : Option Tmp) (hdst : o.dst = dst) (hw : Region.wanted o (yielded ops a.tmps) = true) (hy : ∀ w, (execOp a.eval o).run P w = .ok (.value v) w) (hS : S w)
    (h : WD P md ops Q S X r (a.put dst v) w) : WD P md ops Q S X (.st i 0 r) a w := .st fun l fuel h1 h2 hn => by
  subst hdst
  simp only [okAt, Nat.reduceLeDiff, if_true, Bool.and_eq_true, Bool.not_eq_true'] at h1
  obtain ⟨⟨⟨⟨hs, hf⟩, hr⟩, hX⟩, _⟩ := h1
  exact fl_take i _ rfl hi _ rfl hs hf hr hX false v (fun h => by cases h) (fun h => by cases h) (.inl ⟨hw, fun w _ => hy w⟩) (fun _ => hS) (h.out _ _ h2 hn)
theorem wd_q (v : Value) (hi : ops[i]? = some o) (dst : Option Tmp) (hdst : o.dst = dst) (hw : Region.wanted o (yielded ops a.tmps) = true) (hy : ∀ w, (execOp a.eval o).run P w = .ok (.value v) w)
    (h : WD P md ops Q S X r (a.put dst v) w) : WD P md ops Q S X (.st i 2 r) a w := .st fun l fuel h1 h2 hn => by
  subst hdst
  simp only [okAt, Nat.reduceLeDiff, if_true, Bool.and_eq_true, Bool.not_eq_true', if_false, (by decide : ¬ (2 : Nat) = 0), (by decide : ¬ (2 : Nat) = 1)] at h1
  obtain ⟨⟨⟨⟨hs, hf⟩, hr⟩, hX⟩, hc⟩ := h1
  exact fl_take i _ rfl hi _ rfl hs hf hr hX false v (fun h => by cases h) (fun h => by cases h) (.inl ⟨hw, fun w _ => hy w⟩) (fun h => by rw [hc] at h; cases h) (h.out _ _ h2 hn)
theorem wd_one (hi : ops[i]? = some o) (hg : o.guard = none) (h : ∀ K : Act → World → Prop, (∀ a' w', S w' → WD P md ops Q S X r a' w' → K a' w') → o.wp P a w K (NoPanic Q)) : WD P md ops Q S X (.st i 3 r) a w := .st fun l fuel h1 h2 hn => by
  simp only [okAt, Nat.reduceLeDiff, if_false, Bool.and_eq_true, decide_eq_true_eq, if_true] at h1
  exact fl_one i _ rfl hi hg h1.1 fun K hK => h K fun a' w' hs hd => hK a' w' (fun _ => hs) (hd.out _ _ h2 hn)
theorem wd_named (hi : ops[i]? = some o) (hg : o.guard = none) (h : ∀ K : Act → World → Prop, (∀ a' w', WD P md ops Q S X r a' w' → K a' w') → o.wp P a w K (NoPanic Q)) : WD P md ops Q S X (.st i 4 r) a w := .st fun l fuel h1 h2 hn => by
  simp only [okAt, Nat.reduceLeDiff, if_false, Bool.and_eq_true, decide_eq_true_eq, if_true, (by decide : ¬ (4 : Nat) = 3), Bool.not_eq_true'] at h1
  exact fl_one i _ rfl hi hg h1.1 fun K hK => h K fun a' w' hd => hK a' w' (fun hc => by rw [h1.2] at hc; cases hc) (hd.out _ _ h2 hn)
theorem wd_runs (hi : ops[i]? = some o) (dst : Option Tmp) (hdst : o.dst = dst) (hg : o.guard = none) (hx : Runs P o a w v C) (hS : ∀ b w1, C b w1 → S w1) (h : ∀ b w1, C b w1 → WD P md ops Q S X r (a.put dst (v b)) w1) : WD P md ops Q S X (.st i 3 r) a w := by
  subst hdst
  exact wd_one hi hg fun K hK => hx K _ fun b w1 hc => hK _ _ (hS b w1 hc) (h b w1 hc)
theorem wd_runx (hi : ops[i]? = some o) (dst : Option Tmp) (hdst : o.dst = dst) (hg : o.guard = none) (hx : Runs P o a w v C) (h : ∀ b w1, C b w1 → WD P md ops Q S X r (a.put dst (v b)) w1) : WD P md ops Q S X (.st i 4 r) a w := by
  subst hdst
  exact wd_named hi hg fun K hK => hx K _ fun b w1 hc => hK _ _ (h b w1 hc)
/-- The i-th, taken next of two. -/
def Nxt (P : Program) (md : Region.Mode) (ops : Array Oper) (Q : Exit → Act → World → Prop) (S : World → Prop) (X : List Nat) (r : Tr) (a : Act) (w : World) (i : Nat) : Prop :=
  ∃ o, ops[i]? = some o ∧ o.guard = none ∧ ∀ K : Act → World → Prop, (∀ a' w', S w' → WD P md ops Q S X r a' w' → K a' w') → o.wp P a w K (NoPanic Q)
theorem wd_br {i j : Nat} {x y : Tr} (hx : Nxt P md ops Q S X x a w i) (hy : Nxt P md ops Q S X y a w j) : WD P md ops Q S X (.br i j x y) a w := .mk fun l fuel hl hn => by
  simp only [okAll, Bool.and_eq_true, decide_eq_true_eq] at hl
  obtain ⟨hr, h1, h2⟩ := hl
  cases fuel with
  | zero => simp [Tr.len] at hn
  | succ f =>
    simp only [Tr.len] at hn
    obtain ⟨ox, hox, hgx, hkx⟩ := hx
    obtain ⟨oy, hoy, hgy, hky⟩ := hy
    exact fl_both i j hr ⟨ox, hox, hgx, fun K hK => hkx K fun a' w' hs hd => hK a' w' (fun _ => hs) (hd.out _ _ h1 (by omega))⟩
      ⟨oy, hoy, hgy, fun K hK => hky K fun a' w' hs hd => hK a' w' (fun _ => hs) (hd.out _ _ h2 (by omega))⟩
theorem nx_runs (hi : ops[i]? = some o) (dst : Option Tmp) (hdst : o.dst = dst) (hg : o.guard = none) (hx : Runs P o a w v C) (hS : ∀ b w1, C b w1 → S w1) (h : ∀ b w1, C b w1 → WD P md ops Q S X r (a.put dst (v b)) w1) : Nxt P md ops Q S X r a w i := by
  subst hdst
  exact ⟨o, hi, hg, fun K hK => hx K _ fun b w1 hc => hK _ _ (hS b w1 hc) (h b w1 hc)⟩
/-- Whatever the branches, what they end in is proved once. -/
theorem wd_cut {a' : β → Act} {ord : Tr} (h : (∀ b w', C b w' → Q .normal (a' b) w') → WD P md ops Q S X ord a w) (rest : ∀ b w', C b w' → Q .normal (a' b) w') : WD P md ops Q S X ord a w := h rest
theorem wd_cut5 {β1 β2 β3 β4 β5 : Type} {C : β1 → β2 → β3 → β4 → β5 → World → Prop} {a' : β1 → β2 → β3 → β4 → β5 → Act} {ord : Tr} (h : (∀ b c d e f w', C b c d e f w' → Q .normal (a' b c d e f) w') → WD P md ops Q S X ord a w) (rest : ∀ b c d e f w', C b c d e f w' → Q .normal (a' b c d e f) w') : WD P md ops Q S X ord a w := h rest
theorem wd_cut1 {C : Nat → World → Prop} {a' : Nat → Act} {ord : Tr} (h : (∀ b w', C b w' → Q .normal (a' b) w') → WD P md ops Q S X ord a w) (rest : ∀ b w', C b w' → Q .normal (a' b) w') : WD P md ops Q S X ord a w := h rest
theorem wd_cut4 {β1 β2 β3 β4 : Type} {C : β1 → β2 → β3 → β4 → World → Prop} {a' : β1 → β2 → β3 → β4 → Act} {ord : Tr} (h : (∀ b c d e w', C b c d e w' → Q .normal (a' b c d e) w') → WD P md ops Q S X ord a w) (rest : ∀ b c d e w', C b c d e w' → Q .normal (a' b c d e) w') : WD P md ops Q S X ord a w := h rest
theorem wd_cut2 {C : Nat → Nat → World → Prop} {a' : Nat → Nat → Act} {ord : Tr} (h : (∀ b c w', C b c w' → Q .normal (a' b c) w') → WD P md ops Q S X ord a w) (rest : ∀ b c w', C b c w' → Q .normal (a' b c) w') : WD P md ops Q S X ord a w := h rest
end
end Go.Proofs.YtkmgdpbmkbpkjaaDoor
