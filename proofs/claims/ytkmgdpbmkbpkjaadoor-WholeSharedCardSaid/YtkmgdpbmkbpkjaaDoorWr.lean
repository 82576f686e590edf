/-
  SHA-256's state as a struct; Write.
-/
import Derived.Test.YtkmgdpbmkbpkjaaDoorWq
set_option linter.unusedVariables false
set_option linter.unusedSimpArgs false
namespace Go.Proofs.YtkmgdpbmkbpkjaaDoor
open Go.RowKit

/-- Eight words, a slice, a number. -/
def dg (s : Nat → Int) (v : Value) (n : Int) : Array Value := aF .u32 8 s ++ #[v, .int .u64 n]
section
variable {s s' : Nat → Int} {v v' : Value} {n n' : Int}
theorem dg_size : (dg s v n).size = 10 := by simp [dg, size_aF]
theorem dg_w (i : Nat) (h : i < 8) : (dg s v n)[i]? = some (.int .u32 (s i)) := by
  unfold dg
  rw [Array.getElem?_append_left (by rw [size_aF]; exact h)]
  exact get_aF _ _ _ _ h
theorem dg_8 : (dg s v n)[8]? = some v := by
  unfold dg
  rw [Array.getElem?_append_right (by rw [size_aF]; exact Nat.le_refl _), size_aF]
  rfl
theorem dg_9 : (dg s v n)[9]? = some (.int .u64 n) := by
  unfold dg
  rw [Array.getElem?_append_right (by rw [size_aF]; decide), size_aF]
  rfl
theorem dg_ext {cs : Array Value} (h0 : cs.size = 10) (h : ∀ i, i < 8 → cs[i]? = some (.int .u32 (s i))) (h8 : cs[8]? = some v) (h9 : cs[9]? = some (.int .u64 n)) : cs = dg s v n := by
  apply Array.ext_getElem?
  intro i
  by_cases hi : i < 8
  · rw [h i hi, dg_w i hi]
  by_cases e : i = 8
  · subst e; rw [h8, dg_8]
  by_cases e : i = 9
  · subst e; rw [h9, dg_9]
  rw [Array.getElem?_eq_none (by omega), Array.getElem?_eq_none (by rw [dg_size]; omega)]
theorem dg_setw (i : Nat) (x : Int) (h : i < 8) : (dg s v n).setIfInBounds i (.int .u32 x) = dg (upd s i x) v n := by
  refine dg_ext (by rw [Array.size_setIfInBounds, dg_size]) (fun j hj => ?_) ?_ ?_
  · rw [Array.getElem?_setIfInBounds]
    by_cases e : i = j
    · subst e; rw [if_pos rfl, if_pos (by rw [dg_size]; omega), upd_at]
    · rw [if_neg e, dg_w j hj, upd_off s x (Ne.symm e)]
  · rw [Array.getElem?_setIfInBounds, if_neg (by omega), dg_8]
  · rw [Array.getElem?_setIfInBounds, if_neg (by omega), dg_9]
theorem dg_set8 : (dg s v n).setIfInBounds 8 v' = dg s v' n := by
  refine dg_ext (by rw [Array.size_setIfInBounds, dg_size]) (fun j hj => ?_) ?_ ?_
  · rw [Array.getElem?_setIfInBounds, if_neg (by omega), dg_w j hj]
  · rw [Array.getElem?_setIfInBounds, if_pos rfl, if_pos (by rw [dg_size]; omega)]
  · rw [Array.getElem?_setIfInBounds, if_neg (by omega), dg_9]
theorem dg_set9 : (dg s v n).setIfInBounds 9 (.int .u64 n') = dg s v n' := by
  refine dg_ext (by rw [Array.size_setIfInBounds, dg_size]) (fun j hj => ?_) ?_ ?_
  · rw [Array.getElem?_setIfInBounds, if_neg (by omega), dg_w j hj]
  · rw [Array.getElem?_setIfInBounds, if_neg (by omega), dg_8]
  · rw [Array.getElem?_setIfInBounds, if_pos rfl, if_pos (by rw [dg_size]; omega)]
theorem dg_put : putAll (dg s v n) 0 (aF .u32 8 s').toList = dg s' v n := by
  have hl : (aF .u32 8 s').toList.length = 8 := by rw [Array.length_toList, size_aF]
  have hg := fun j => putAll_get (aF .u32 8 s').toList (dg s v n) 0 j (by rw [hl, dg_size]; decide)
  refine dg_ext (by rw [putAll_size, dg_size]) (fun j hj => ?_) ?_ ?_
  · rw [hg, if_pos (by rw [hl]; omega), Array.getElem?_toList, Nat.sub_zero, get_aF _ _ _ _ hj]
  · rw [hg, if_neg (by rw [hl]; omega), dg_8]
  · rw [hg, if_neg (by rw [hl]; omega), dg_9]
theorem dg_one (h : v.oneCell' = true) : (dg s v n).all (·.oneCell') = true := by
  unfold dg
  have e : (Value.int .u64 n).oneCell' = true := rfl
  rw [Array.all_append, one_aF]
  simp [h, e]
end
section
variable {P : Program} {o : Oper} {a : Act} {w w0 : World} {L1 L2 L : List (Nat × TypeId × Array Value)} {g : Nat} {t ty : TypeId} {s s' : Nat → Int} {v v' : Value} {n : Int}
/-- One cell, written. -/
theorem r_one {cs ds : Array Value} (i : Nat) (u : Value) (hi : i < cs.size) (hu : u.cells = #[u]) (hu1 : u.oneCell' = true) (hd : cs.setIfInBounds i u = ds) {x y : Operand} (ho : o.op = .store ty x y) (hx : a.eval x = .pointer (some ⟨g, i, none⟩)) (hy : a.eval y = u)
    (hO : Own w0 (L1 ++ (g, t, cs) :: L2) w) (hs : (P.info? ty).map (·.size) = some 1) : Runs P o a w (fun _ : Unit => undef) fun _ w' => Own w0 (L1 ++ (g, t, ds) :: L2) w' := by
  have ht := there_at (hO.get (g := g) (t := t) (cs := cs) (by simp)) i 1 (by omega)
  intro K Q h
  unfold Oper.wp execOp
  simp only [ho, hx, hy, Instr.storeAt, Instr.sureAddr, Sem.run_bind, Sem.run_pure, Result.andThen_ok, run_storeVar_one w g i ty u hu hu1 ht hs]
  exact h () _ (hO.cell hd)
/-- The words, read together. -/
theorem run_words (hO : Own w0 L w) (hm : (g, t, dg s v n) ∈ L) {d : TypeDesc} (hu : P.underlying ty = some d) (hd : d.isRow = true) (hn : (P.info? ty).map (·.size) = some 8) {x : Operand} (ho : o.op = .load ty x) (hx : a.eval x = .pointer (some ⟨g, 0, none⟩)) :
    (execOp a.eval o).run P w = .ok (.value (.agg (aF .u32 8 s))) w := by
  have e := run_loadVar_mid w g 0 ty (aF .u32 8 s).toList d (fun j u hj => by
    rw [Nat.zero_add, (hO.get hm).cell j]
    rw [Array.getElem?_toList] at hj
    have h8 : j < 8 := by have := (Array.getElem?_eq_some_iff.1 hj).1; rwa [size_aF] at this
    rw [get_aF _ _ _ _ h8] at hj
    rw [dg_w j h8, hj]) hu hd (by rw [Array.length_toList, size_aF, hn])
  unfold execOp
  simp only [ho, hx, Instr.loadAt, Instr.sureAddr, Sem.run_bind, Sem.run_pure, Result.andThen_ok, e]
/-- The words, written together. -/
theorem r_words {x y : Operand} (ho : o.op = .store ty x y) (hx : a.eval x = .pointer (some ⟨g, 0, none⟩)) (hy : a.eval y = .agg (aF .u32 8 s')) (hO : Own w0 (L1 ++ (g, t, dg s v n) :: L2) w) (hn : (P.info? ty).map (·.size) = some 8) :
    Runs P o a w (fun _ : Unit => undef) fun _ w' => Own w0 (L1 ++ (g, t, dg s' v n) :: L2) w' := by
  have ht := there_at (hO.get (g := g) (t := t) (cs := dg s v n) (by simp)) 0 8 (by rw [dg_size]; decide)
  intro K Q h
  refine wp_store_mid ty x y ho g 0 _ hx hy (by rwa [size_aF]) (by rw [size_aF, hn]) (one_aF _ _ _) (h () _ ?_)
  have := hO.span 0 (aF .u32 8 s').toList
  rwa [dg_put] at this
end
/-- A state that comes: the words, what is left of the text, how much there was. -/
def Dig (P : Program) (f : FuncId) (args : Array Value) (w : World) (s : Nat → Int) (m : Nat) (r : Nat → Int) (n : Int) : Prop := Ans P f args w (fun v : Value => v) fun v w' => ∃ p c q t cs, v = .agg (dg s (.slice p m c) n) ∧ Own w (buf q t cs) w' ∧ Rd q cs p m c r
theorem r_dig {P : Program} {o : Oper} {a : Act} {w w0 : World} {L : List (Nat × TypeId × Array Value)} {f : FuncId} {args : Array Value} {m : Nat} {s r : Nat → Int} {n : Int} (hx : (execOp a.eval o).run P w = .ok (.enter f args) w) (hc : Dig P f args w s m r n) (hO : Own w0 L w) :
    Runs P o a w (fun v : Value => v) fun v w' => ∃ p c q t cs, v = .agg (dg s (.slice p m c) n) ∧ Own w0 (L ++ buf q t cs) w' ∧ Rd q cs p m c r := fun K Q h => by
  unfold Oper.wp
  rw [hx]
  refine Calls.mono hc ?_
  rintro e w' ⟨b, rfl, p, c, q, t, cs, rfl, hO', hB⟩
  exact h _ w' ⟨p, c, q, t, cs, rfl, hO.merge hO', hB⟩
theorem Rd.addr {q : Option Addr} {cs : Array Value} {p : Option Addr} {n c : Nat} {f : Nat → Int} (h : Rd q cs p n c f) (h0 : 0 < n) : ∃ g o, p = some ⟨g, o, none⟩ ∧ n ≤ c := by
  rcases h with h | ⟨g, o, _, rfl, hc, _⟩
  · omega
  · exact ⟨g, o, rfl, hc⟩
theorem Rd.rdc {w w0 : World} {L : List (Nat × TypeId × Array Value)} {q : Option Addr} {t : TypeId} {cs : Array Value} {g o n c : Nat} {f : Nat → Int} (h : Rd q cs (some ⟨g, o, none⟩) n c f) (hO : Own w0 L w) (hm : ∀ g, q = some ⟨g, 0, none⟩ → (g, t, cs) ∈ L) : RdC w .u8 g o n f := fun j hj => by
  rcases h with h | ⟨g, o, rfl, e, hc, hr⟩
  · omega
  · cases e
    rw [(hO.get (hm g rfl)).cell]
    exact hr j hj
theorem RdC.le {w : World} {k : IntKind} {g o n m : Nat} {f : Nat → Int} (h : RdC w k g o n f) (hm : m ≤ n) : RdC w k g o m f := fun j hj => h j (by omega)
theorem Rd.next {q : Option Addr} {cs : Array Value} {p : Option Addr} {N j c : Nat} {f : Nat → Int} (h : Rd q cs p (N - 64 * j) c (fun t => f (64 * j + t))) (hj : 64 ≤ N - 64 * j) : Rd q cs (mv p 64 c) (N - 64 * (j + 1)) (c - 64) (fun t => f (64 * (j + 1) + t)) := by
  have := h.cut 64 (N - 64 * j) ⟨hj, Nat.le_refl _⟩
  rw [show N - 64 * j - 64 = N - 64 * (j + 1) by omega] at this
  exact this.congr fun t _ => by rw [show 64 * j + (64 + t) = 64 * (j + 1) + t by omega]
def slen : Value → Nat
  | .slice _ n _ => n
  | _ => 0
/-- Of two, of three. -/
def two {α : Type} (a b : α) : Nat → α
  | 0 => a
  | _ => b
def thr {α : Type} (a b c : α) : Nat → α
  | 0 => a
  | 1 => b
  | _ => c
theorem Txt.congr {P : Program} {f : FuncId} {args : Array Value} {w : World} {n n' : Nat} {s s' : Nat → Int} (h : Txt P f args w n s) (hn : n = n') (hs : ∀ j, j < n → s j = s' j) : Txt P f args w n' s' := by
  subst hn
  refine Calls.mono h ?_
  rintro e w' ⟨b, rfl, q, c, t, cs, rfl, hO, hB⟩
  exact ⟨_, rfl, q, c, t, cs, rfl, hO, hB.congr fun j hj => hs j (by omega)⟩
theorem concat2_any {p0 p1 : Option Addr} {n0 n1 c0 c1 : Nat} {f0 f1 : Nat → Int} {g : Nat} {w : World} (h0 : w.cell? ⟨g, 0, none⟩ = some (.slice p0 n0 c0)) (h1 : w.cell? ⟨g, 1, none⟩ = some (.slice p1 n1 c1)) (r0 : RdF w (.slice p0 n0 c0) n0 f0) (r1 : RdF w (.slice p1 n1 c1) n1 f1) (hN : n0 + n1 ≤ 1000000) :
    Txt Tryd.prog 43 #[.slice (some ⟨g, 0, none⟩) 2 2] w (n0 + n1) (cat f0 n0 f1) := by
  refine (concat_any (p := two p0 p1) (n := two n0 n1) (c := two c0 c1) (f := two f0 f1) (K := 2) ?_ ?_ (by decide) (by simp only [lenA, two]; omega)).congr (by simp only [lenA, two]; omega) fun j hj => ?_
  · intro i hi
    have : i = 0 ∨ i = 1 := by omega
    rcases this with rfl | rfl
    · exact h0
    · exact h1
  · intro i hi
    have : i = 0 ∨ i = 1 := by omega
    rcases this with rfl | rfl
    · exact r0
    · exact r1
  · simp only [catA, lenA, two, cat, Nat.not_lt_zero, if_false, Nat.sub_zero, Nat.zero_add]
theorem concat3_any {p0 p1 p2 : Option Addr} {n0 n1 n2 c0 c1 c2 : Nat} {f0 f1 f2 : Nat → Int} {g : Nat} {w : World} (h0 : w.cell? ⟨g, 0, none⟩ = some (.slice p0 n0 c0)) (h1 : w.cell? ⟨g, 1, none⟩ = some (.slice p1 n1 c1)) (h2 : w.cell? ⟨g, 2, none⟩ = some (.slice p2 n2 c2)) (r0 : RdF w (.slice p0 n0 c0) n0 f0) (r1 : RdF w (.slice p1 n1 c1) n1 f1) (r2 : RdF w (.slice p2 n2 c2) n2 f2) (hN : n0 + n1 + n2 ≤ 1000000) :
    Txt Tryd.prog 43 #[.slice (some ⟨g, 0, none⟩) 3 3] w (n0 + n1 + n2) (cat (cat f0 n0 f1) (n0 + n1) f2) := by
  refine (concat_any (p := thr p0 p1 p2) (n := thr n0 n1 n2) (c := thr c0 c1 c2) (f := thr f0 f1 f2) (K := 3) ?_ ?_ (by decide) (by simp only [lenA, thr]; omega)).congr (by simp only [lenA, thr]; omega) fun j hj => ?_
  · intro i hi
    have : i = 0 ∨ i = 1 ∨ i = 2 := by omega
    rcases this with rfl | rfl | rfl
    · exact h0
    · exact h1
    · exact h2
  · intro i hi
    have : i = 0 ∨ i = 1 ∨ i = 2 := by omega
    rcases this with rfl | rfl | rfl
    · exact r0
    · exact r1
    · exact r2
  · simp only [catA, lenA, thr, cat, Nat.not_lt_zero, if_false, Nat.sub_zero, Nat.zero_add]
/-- What is in a state behind some more text. -/
def subW (s x : Nat → Int) : Nat → (Nat → Int)
  | 0 => s
  | i + 1 => upd (subW s x i) i (im .u32 (subW s x i i) (x i))
def blocksW (K s b : Nat → Int) : Nat → (Nat → Int)
  | 0 => s
  | j + 1 => mix K (blocksW K s b j) (fun t => b (64 * j + t))
def wrS (K S s : Nat → Int) (m : Nat) (f : Nat → Int) (l : Nat) (b : Nat → Int) : Nat → Int := subW (blocksW K (sumW s S 8) (cat f m b) ((m + l) / 64)) S 8
def wrM (m l : Nat) : Nat := m + l - 64 * ((m + l) / 64)
def wrF (m : Nat) (f : Nat → Int) (l : Nat) (b : Nat → Int) : Nat → Int := fun t => cat f m b (64 * ((m + l) / 64) + t)
def wrN (n : Int) (l : Nat) : Int := ia .u64 n (cv .u64 (l : Int))
end Go.Proofs.YtkmgdpbmkbpkjaaDoor
