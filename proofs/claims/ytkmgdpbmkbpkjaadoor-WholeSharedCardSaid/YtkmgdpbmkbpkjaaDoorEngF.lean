/-
  A region that draws its order, holds calls and stores into memory that its loads read: what is held, is held until one of the named stores has come up.
-/
import Derived.Test.YtkmgdpbmkbpkjaaDoorGBase
set_option linter.unusedVariables false
set_option linter.unusedSimpArgs false
namespace Go.Proofs.YtkmgdpbmkbpkjaaDoor
open Go.RowKit

section
variable {P : Program} {ops : Array Oper} {Q : Exit → Act → World → Prop} {md : Region.Mode} {S : World → Prop} {X : List Nat}

/-- None of the named ones has come up. -/
def clean (X : List Nat) (l : Array Bool) : Bool := X.all fun k => !l.getD k true
theorem clean_set {l : Array Bool} {i : Nat} (h : clean X (l.setIfInBounds i true) = true) : clean X l = true := by
  unfold clean at *
  rw [List.all_eq_true] at *
  intro k hk
  have := h k hk
  simp only [Bool.not_eq_true', Array.getD_eq_getD_getElem?, Array.getElem?_setIfInBounds] at *
  split at this
  · split at this <;> simp_all
  · exact this
/-- Whatever order is picked from here on; S holds as long as none of the named ones has come up. -/
def wpF (P : Program) (md : Region.Mode) (ops : Array Oper) (Q : Exit → Act → World → Prop) (S : World → Prop) (X : List Nat) : Nat → Array Bool → Act → World → Prop
  | 0, listed, a, w => Region.ready md ops listed = [] ∧ Q .normal a w
  | fuel + 1, listed, a, w =>
    (Region.ready md ops listed = [] → Q .normal a w) ∧
    ∀ i ∈ Region.ready md ops listed, wpOp P ops Q i (fun a' w' => (clean X (listed.setIfInBounds i true) = true → S w') ∧ wpF P md ops Q S X fuel (listed.setIfInBounds i true) a' w') a w
theorem wpAny_of_F : ∀ (fuel : Nat) (listed : Array Bool) (a : Act) (w : World), wpF P md ops Q S X fuel listed a w → wpAny P md ops Q fuel listed a w
  | 0, _, _, _, h => h
  | fuel + 1, _, _, _, h => ⟨h.1, fun i hi => wpOp_mono (fun a' w' h' => wpAny_of_F fuel _ a' w' h'.2) (h.2 i hi)⟩

/-- An operation may be taken first, where what it yields hangs on nothing (ld is false), or on S alone and the named ones wait for it. -/
theorem wpF_first {i : Nat} {oi : Oper} {v : Value} (ld : Bool) (hiX : i ∉ X) (hi : ops[i]? = some oi) (hsel : ∀ (j : Nat) (o : Oper) cs b, ops[j]? = some o → o.op ≠ .select cs b)
    (hQ : ∀ c a w, Q (.panic c) (a.put oi.dst v) w → Q (.panic c) a w)
    (hX : ld = true → ∀ k ∈ X, ∀ ok, ops[k]? = some ok → ∃ e ∈ ok.after, Region.binds md e = true ∧ e.on = i) :
    ∀ (fuel : Nat) (listed : Array Bool) (a : Act) (w : World),
      (∀ j oj, ops[j]? = some oj → j ≠ i → listed.getD j true = false → (∀ e ∈ oj.after, Region.binds md e = true → e.on ≠ i) → oi.apart ops oj = true) →
      i ∈ Region.ready md ops listed → YieldsIf P ops (fun w => ld = true → S w) oi v a → (clean X listed = true → S w) → (ld = true → clean X listed = true) →
      wpF P md ops Q S X fuel (listed.setIfInBounds i true) (a.put oi.dst v) w → wpF P md ops Q S X (fuel + 1) listed a w := by
  intro fuel
  induction fuel with
  | zero =>
    intro listed a w _ hr hy hS hc H
    refine ⟨fun h => (by rw [h] at hr; cases hr), fun j hj => ?_⟩
    by_cases hji : j = i
    · subst hji
      exact hy.wpOp hi (fun h => hS (hc h)) ⟨fun h => hS (clean_set h), H⟩
    · have := ready_mono hj hji
      rw [H.1] at this
      cases this
  | succ fuel ih =>
    intro listed a w hfree hr hy hS hc H
    refine ⟨fun h => (by rw [h] at hr; cases hr), fun j hj => ?_⟩
    by_cases hji : j = i
    · subst hji
      exact hy.wpOp hi (fun h => hS (hc h)) ⟨fun h => hS (clean_set h), H⟩
    · have h1 := H.2 j (ready_mono hj hji)
      obtain ⟨hjun, oj, hoj, hall⟩ := mem_ready.1 hj
      have hnot : ∀ e ∈ oj.after, Region.binds md e = true → e.on ≠ i := fun e he hb heq => by
        have h1 := hall e he hb
        have h0 := (mem_ready.1 hr).1
        rw [heq] at h1
        rcases Nat.lt_or_ge i listed.size with h' | h'
        · simp [h'] at h0 h1; rw [h0] at h1; cases h1
        · simp [Array.getElem?_eq_none h'] at h1
      have hcl : ld = true → clean X (listed.setIfInBounds j true) = true := fun hl => by
        have h0 := hc hl
        unfold clean at h0 ⊢
        rw [List.all_eq_true] at h0 ⊢
        intro k hk
        have hkj : k ≠ j := fun e => by
          subst e
          obtain ⟨e, he, hb, hon⟩ := hX hl k hk oj hoj
          exact hnot e he hb hon
        rw [getD_set_ne true (Ne.symm hkj)]
        exact h0 k hk
      have h2 := wpOp_putIf hoj (hfree j oj hoj hji hjun hnot) (fun cs b => hsel i oi cs b hi) (fun cs b => hsel j oj cs b hoj) hQ hy h1
      have hfree' : ∀ k ok, ops[k]? = some ok → k ≠ i → (listed.setIfInBounds j true).getD k true = false →
          (∀ e ∈ ok.after, Region.binds md e = true → e.on ≠ i) → oi.apart ops ok = true := fun k ok hk hki hun hno => by
        refine hfree k ok hk hki ?_ hno
        by_cases hjk : j = k
        · subst hjk; exact hjun
        · rw [getD_set_ne true hjk] at hun; exact hun
      refine wpOp_mono (fun a' w' h3 => ?_) h2
      have hS' : clean X (listed.setIfInBounds j true) = true → S w' := fun hcl' => by
        refine h3.2.1 ?_
        unfold clean at hcl' ⊢
        rw [List.all_eq_true] at hcl' ⊢
        intro k hk
        have hki : k ≠ i := fun e => hiX (e ▸ hk)
        rw [← Array.setIfInBounds_comm _ _ hji, getD_set_ne true (Ne.symm hki)]
        exact hcl' k hk
      refine ⟨hS', ih (listed.setIfInBounds j true) a' w' hfree' (ready_mono hr (Ne.symm hji)) h3.1 hS' hcl ?_⟩
      rw [Array.setIfInBounds_comm _ _ hji]
      exact h3.2.2
end
end Go.Proofs.YtkmgdpbmkbpkjaaDoor
