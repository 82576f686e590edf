/-
  A drawn region in the round of a range over a function; mac.Keys.
-/
import Derived.Test.YtkmgdpbmkbpkjaaDoorWx
set_option linter.unusedVariables false
set_option linter.unusedSimpArgs false
namespace Go.Proofs.YtkmgdpbmkbpkjaaDoor
open Go.RowKit Go.Shelf

section
variable {P : Program} {ops : Array Oper} {Q : Exit → Act → World → Prop} {md : Region.Mode} {S : World → Prop} {X : List Nat} {l0 n : Nat}
def noDefer (ops : Array Oper) : Bool := ops.all fun o => match o.op with
  | .defer _ => false
  | _ => true
theorem noDefer_spec (h : noDefer ops = true) {i : Nat} {o : Oper} (ho : ops[i]? = some o) : ∀ c, o.op ≠ .defer c := by
  intro c hc
  unfold noDefer at h
  rw [Array.all_eq_true] at h
  obtain ⟨hi, he⟩ := Array.getElem?_eq_some_iff.1 ho
  have := h i hi
  rw [he, hc] at this
  cases this
theorem operIn_of {o : Oper} {a : Act} {w : World} {K : Act → World → Prop} (hd : ∀ c, o.op ≠ .defer c) (h : o.wp P a w K Q) : o.wpIn (Fence.wide.inRound l0) n P a w K Q := by
  refine ⟨fun _ _ => trivial, ?_⟩
  rw [Oper.semAt_eq _ _ _ hd]
  unfold Oper.wp at h
  generalize (execOp a.eval o).run P w = r at h ⊢
  cases r with
  | ok x w' =>
    cases x with
    | enter f args => exact ⟨fun e => by simp [Fence.wide] at e, callsIn_wide.2 h⟩
    | row r args => exact ⟨fun e => by simp [Fence.wide] at e, fun c cs _ => let ⟨v, w', r, s⟩ := h c cs; ⟨v, w', r, stepsIn_wide.2 s⟩⟩
    | _ => first | exact h | exact (h : False).elim
  | halt e w' => cases e <;> first | exact h | exact (h : False).elim
theorem anyIn_of (hd : noDefer ops = true) (hL : ¬ LetsOut Q) : ∀ (fuel : Nat) (listed : Array Bool) (a : Act) (w : World), wpAny P md ops Q fuel listed a w → wpAnyIn (Fence.wide.inRound l0) n P md ops Q fuel listed a w
  | 0, _, _, _, h => h
  | fuel + 1, _, _, _, h => ⟨h.1, fun i hi => by
    have hx := wpOp_mono (fun a' w' h' => anyIn_of hd hL fuel _ a' w' h') (h.2 i hi)
    unfold wpOp at hx
    unfold wpOpIn
    split
    · next e => rw [e] at hx; exact hx
    · next o e =>
      rw [e] at hx
      dsimp only at hx
      split
      · next hw =>
        rw [if_pos hw] at hx
        rcases hx with hx | ⟨_, hx⟩
        · exact operIn_of (noDefer_spec hd e) hx
        · exact absurd hx hL
      · next hw =>
        rw [if_neg hw] at hx
        exact ⟨fun _ _ => trivial, hx⟩⟩
theorem noPanic_out (hL : ¬ LetsOut Q) : ¬ LetsOut (NoPanic Q) := fun ⟨a, w, h⟩ => hL ⟨a, w, h⟩
theorem wd_regionIn {id : Nat} {l : List Oper} {a : Act} {w : World} (X : List Nat) (ord : Tr) (hn : ord.len ≤ l.length) (hk : okAll .any l.toArray X (Array.replicate l.length false) ord = true) (hm : P.follows .mixedOrders = true) (hd : noDefer l.toArray = true) (hL : ¬ LetsOut Q)
    (h : WD P .any l.toArray Q S X ord a w.drew) : (Code.region id l.toArray true).wpIn (Fence.wide.inRound l0) n P Q a w := by
  refine wpIn_mono (wpIn_region_any hm (anyIn_of hd (noPanic_out hL) _ _ _ _ (wpAny_of_F (S := S) (X := X) _ _ _ _ ?_))) fun e a w => NoPanic.imp e a w
  have := h.out _ _ hk hn
  simpa using this
end
section
variable {P : Program} {o : Oper} {a : Act} {w w0 : World} {L L1 L2 : List (Nat × TypeId × Array Value)}
theorem r_bsK (t : TypeId) (cs : Array Value) (n : Nat) (hx : (execOp a.eval o).run P w = .ok (.value (.slice (some ⟨w.heap.size, 0, none⟩) n n)) (w.alloc (.cells cs t))) (hO : Own w0 L w) :
    Runs P o a w (fun g : Nat => .slice (some ⟨g, 0, none⟩) n n) fun g w' => Own w0 ((g, t, cs) :: L) w' ∧ KeepsOthers w w' := r_val _ hx ⟨hO.new t cs, .alloc _ _⟩
theorem r_oneK {g : Nat} {t ty : TypeId} {cs ds : Array Value} (i : Nat) (u : Value) (hi : i < cs.size) (hu : u.cells = #[u]) (hu1 : u.oneCell' = true) (hd : cs.setIfInBounds i u = ds) {x y : Operand} (ho : o.op = .store ty x y) (hx : a.eval x = .pointer (some ⟨g, i, none⟩)) (hy : a.eval y = u)
    (hO : Own w0 (L1 ++ (g, t, cs) :: L2) w) (hs : (P.info? ty).map (·.size) = some 1) : Runs P o a w (fun _ : Unit => undef) fun _ w' => Own w0 (L1 ++ (g, t, ds) :: L2) w' ∧ KeepsOthers w w' := by
  have ht := there_at (hO.get (g := g) (t := t) (cs := cs) (by simp)) i 1 (by omega)
  intro K Q h
  unfold Oper.wp execOp
  simp only [ho, hx, hy, Instr.storeAt, Instr.sureAddr, Sem.run_bind, Sem.run_pure, Result.andThen_ok, run_storeVar_one w g i ty u hu hu1 ht hs]
  exact h () _ ⟨hO.cell hd, .setCell _ _ _⟩
/-- Some cells, read together. -/
theorem run_part {k : IntKind} {g o' n : Nat} {f : Nat → Int} {ty : TypeId} (hR : RdC w k g o' n f) {d : TypeDesc} (hu : P.underlying ty = some d) (hd : d.isRow = true) (hn : (P.info? ty).map (·.size) = some n) {x : Operand} (ho : o.op = .load ty x) (hx : a.eval x = .pointer (some ⟨g, o', none⟩)) :
    (execOp a.eval o).run P w = .ok (.value (.agg (aF k n f))) w := by
  have e := run_loadVar_mid w g o' ty (ints k n f) d (fun j u hj => by
    have hj' : j < n := by have := (List.getElem?_eq_some_iff.1 hj).1; rwa [len_ints] at this
    rw [at_ints hj'] at hj
    rw [← hj]
    exact hR j hj') hu hd (by rw [len_ints, hn])
  unfold execOp
  simp only [ho, hx, Instr.loadAt, Instr.sureAddr, Sem.run_bind, Sem.run_pure, Result.andThen_ok, e]
  rfl
theorem Own.nilbuf (h : Own w0 L w) : Own w0 (L ++ buf none 0 #[]) w := by
  rw [show buf none 0 #[] = [] from rfl, List.append_nil]
  exact h
theorem Own.grown {W W' : World} {B : Nat} {row : Option Nat} (h : Own w0 L W) (hg : W.grownBy W' row) (hr : ∀ r, row = some r → B ≤ r ∧ ∃ o : Obj, W.heap[r]? = some o ∧ o.isCells = false) (hB : w0.heap.size ≤ B) : Own w0 L W' :=
  ⟨fun x hx => (hg.block x.1 (h.bk x hx).lt (fun e => by
      obtain ⟨_, o, ho, hc⟩ := hr _ e.symm
      rw [h.bk x hx] at ho
      cases ho
      cases hc)).trans (h.bk x hx), h.nd, h.up, h.bl.grown hg h.bl.size (fun k e => Nat.le_trans hB (hr k e).1)⟩
theorem Buf.addr {k : IntKind} {z n c : Nat} {q : Option Addr} {cs : Array Value} {f : Nat → Int} (h : Buf k z q n c cs f) (h0 : 0 < n) : ∃ g, q = some ⟨g, 0, none⟩ ∧ n ≤ c := by
  rcases h with ⟨_, h, _⟩ | ⟨g, rfl, _, h, _⟩
  · omega
  · exact ⟨g, rfl, h⟩
end
theorem RdC.part {w : World} {k : IntKind} {g n : Nat} {f : Nat → Int} (h : RdC w k g 0 n f) (o m : Nat) (hm : o + m ≤ n) : RdC w k g o m (fun j => f (o + j)) := fun j hj => by
  have := h (o + j) (by omega)
  rwa [Nat.zero_add] at this
theorem r_chunk {o : Oper} {a : Act} {w w0 : World} {L : List (Nat × TypeId × Array Value)} {g c : Nat} (hx : (execOp a.eval o).run Tryd.prog w = .ok (.enter 25 #[.slice (some ⟨g, 0, none⟩) 64 c, .int .i64 32]) w) (hO : Own w0 L w) :
    Runs Tryd.prog o a w (fun v : Value => v) fun v w' => ∃ B C, v = .func (.func 44) #[] #[.pointer (some ⟨B, 0, none⟩), .pointer (some ⟨C, 0, none⟩)] ∧ Own w0 (L ++ [(C, 3, #[.int .i64 32]), (B, 23, #[.slice (some ⟨g, 0, none⟩) 64 c])]) w' := fun K Q h => by
  unfold Oper.wp
  rw [hx]
  refine Calls.mono chunk_any ?_
  rintro e w' ⟨b, rfl, B, C, rfl, hO'⟩
  exact h _ w' ⟨B, C, rfl, hO.merge hO'⟩
/-- What the parts hold that have come. -/
def partsF (E : Nat → Int) (pre : List (Fin 2)) : Nat → Int := fun j => match pre[j / 32]? with
  | some x => E (32 * x.val + j % 32)
  | none => 0
theorem partsF_next {E : Nat → Int} {pre : List (Fin 2)} {x : Fin 2} {j : Nat} (hj : j < (pre.length + 1) * 32) : cat (partsF E pre) (pre.length * 32) (fun j => E (32 * x.val + j)) j = partsF E (pre ++ [x]) j := by
  unfold cat partsF
  by_cases h : j < pre.length * 32
  · rw [if_pos h, List.getElem?_append_left (by omega)]
  · rw [if_neg h, show j / 32 = pre.length by omega, List.getElem?_append_right (Nat.le_refl _), Nat.sub_self]
    simp only [List.getElem?_cons_zero]
    rw [show j % 32 = j - pre.length * 32 by omega]
theorem partsF_all {E : Nat → Int} {j : Nat} (hj : j < 64) : partsF E [0, 1] j = E j := by
  unfold partsF
  have : j / 32 = 0 ∨ j / 32 = 1 := by omega
  rcases this with h | h
  · rw [h]
    show E (32 * 0 + j % 32) = E j
    congr 1; omega
  · rw [h]
    show E (32 * 1 + j % 32) = E j
    congr 1; omega
/-- Two keys. -/
def keysF (K S k : Nat → Int) (l : Nat) (b : Nat → Int) : Nat → Int := expF K S (hmac K S k l b)
def KeysA (P : Program) (f : FuncId) (args : Array Value) (w : World) (n : Nat) (s : Nat → Int) : Prop := Ans P f args w (fun v : Value => v) fun v w' => ∃ q c t cs, v = .tuple #[.slice q n c, .int .i64 0] ∧ Own w (buf q t cs) w' ∧ Buf .u8 32 q n c cs s
attribute [local go_sem] Oper.semAt_some
set_option maxRecDepth 100000 in
set_option maxHeartbeats 4000000 in
theorem keys_any {K S k b : Nat → Int} {l cb t2 t3 : Nat} {qb : Option Addr} {w : World} (hS : Bk w 2 t2 (aF .u32 8 S)) (hK : Bk w 3 t3 (aF .u32 64 K)) (hb : RdF w (.slice qb l cb) l b) (hl : l ≤ 900000) :
    KeysA Tryd.prog 14 #[.agg (aF .u8 32 k), .slice qb l cb, .int .i64 2] w 2 (keysF K S k l b) := by
  unfold KeysA Ans
  refine callsIn_wide.1 (callsIn_of_wp_marks (n := 9) Tryd.func14 rfl trivial ?_ rfl)
  refine wpIn_wide.2 ?_
  simp only [Tryd.ntmps14, List.size_toArray, List.length_cons, List.length_nil, Nat.reduceAdd, Nat.reduceSub, Array.replicate_succ, Array.replicate_zero, List.push_toArray, List.append_toArray, List.nil_append, List.cons_append]
  have hO := Own.nil w
  refine wp_seq ?_
  refine wl_region ?_
  refine wl_runs rfl (r_new 22 (aF .u8 32 k) (by kernel_rfl) hO) fun g1 w1 hO1 => ?_
  clear hO
  try simp only [List.nil_append, List.cons_append] at hO1
  try simp only [p0, p1, p2, p3]
  refine wl_pure (.slice none 0 0) rfl (by kernel_rfl) ?_
  try simp only [p0, p1, p2, p3]
  refine wl_pure (.int .i64 0) rfl (by kernel_rfl) ?_
  try simp only [p0, p1, p2, p3]
  refine wl_nil ?_
  show Code.wp _ _ _ _ _
  refine wp_seq ?_
  refine wp_seq ?_
  refine wl_region ?_
  refine wl_pure (.int .i64 2) (by kernel_rfl) (by kernel_rfl) ?_
  try simp only [p0, p1, p2, p3]
  refine wl_pure (.bool false) (by kernel_rfl) (by kernel_rfl) ?_
  try simp only [p0, p1, p2, p3]
  refine wl_pure (.bool false) (by kernel_rfl) (by kernel_rfl) ?_
  try simp only [p0, p1, p2, p3]
  refine wl_pure (.int .i64 2) (by kernel_rfl) (by kernel_rfl) ?_
  try simp only [p0, p1, p2, p3]
  refine wl_pure (.bool false) (by kernel_rfl) (by kernel_rfl) ?_
  try simp only [p0, p1, p2, p3]
  refine wl_pure (.bool false) (by kernel_rfl) (by kernel_rfl) ?_
  try simp only [p0, p1, p2, p3]
  refine wl_nil ?_
  show Code.wp _ _ _ _ _
  refine wp_cond_false rfl ?_
  refine wp_skip ?_
  show Code.wp _ _ _ _ _
  refine wp_seq ?_
  refine wl_region ?_
  refine wl_pure (.slice (some ⟨g1, 0, none⟩) 32 32) rfl (by kernel_rfl) ?_
  try simp only [p0, p1, p2, p3]
  refine wl_pure (.slice qb l cb) rfl (by kernel_rfl) ?_
  try simp only [p0, p1, p2, p3]
  refine wl_runs rfl (r_call (args := #[.slice (some ⟨g1, 0, none⟩) 32 32, .slice qb l cb]) (u := .agg (aF .u8 32 (hmac K S k l b))) (by kernel_rfl) (extract_any (K := K) (S := S) (k := k) (b := b) (t2 := t2) (t3 := t3) (hS.under hO1.bl) (hK.under hO1.bl) (rdc_own1 hO1 (.head _) 32 (by decide)) (hb.below hO1.bl) hl) hO1) fun _ w2 hO2 => ?_
  clear hO1
  try simp only [List.nil_append, List.cons_append] at hO2
  try simp only [p0, p1, p2, p3]
  refine wl_pure (.int .i64 2) rfl (by kernel_rfl) ?_
  try simp only [p0, p1, p2, p3]
  refine wl_pure (.int .i64 64) rfl (by kernel_rfl) ?_
  try simp only [p0, p1, p2, p3]
  refine wl_runs rfl (r_txtE (args := #[.agg (aF .u8 32 (hmac K S k l b)), .slice none 0 0, .int .i64 64]) (by kernel_rfl) (expand_any (K := K) (S := S) (k := hmac K S k l b) (t2 := t2) (t3 := t3) (hS.under hO2.bl) (hK.under hO2.bl)) hO2) ?_
  rintro _ w3 ⟨q1x, c1x, t1x, s1x, rfl, hO3, hB1x⟩
  clear hO2
  try simp only [List.nil_append, List.cons_append] at hO3
  try simp only [p0, p1, p2, p3]
  refine wl_pure (.tuple #[.slice q1x 64 c1x, .int .i64 0]) rfl (by kernel_rfl) ?_
  try simp only [p0, p1, p2, p3]
  refine wl_pure (.slice q1x 64 c1x) rfl (by kernel_rfl) ?_
  try simp only [p0, p1, p2, p3]
  refine wl_pure (.int .i64 0) rfl (by kernel_rfl) ?_
  try simp only [p0, p1, p2, p3]
  refine wl_pure (.slice q1x 64 c1x) rfl (by kernel_rfl) ?_
  try simp only [p0, p1, p2, p3]
  refine wl_pure (.int .i64 0) rfl (by kernel_rfl) ?_
  try simp only [p0, p1, p2, p3]
  refine wl_nil ?_
  obtain ⟨gE, rfl, hcE⟩ := hB1x.addr (by decide)
  show Code.wp _ _ _ _ _
  refine wp_seq ?_
  refine wl_region ?_
  refine wl_runs rfl (r_new 27 #[.slice none 0 0] (by kernel_rfl) hO3) fun g4 w4 hO4 => ?_
  clear hO3
  try simp only [List.nil_append, List.cons_append] at hO4
  try simp only [p0, p1, p2, p3]
  refine wl_nil ?_
  show Code.wp _ _ _ _ _
  refine wp_seq ?_
  refine wp_seq ?_
  refine wl_region ?_
  refine wl_pure (.slice (some ⟨gE, 0, none⟩) 64 c1x) rfl (by kernel_rfl) ?_
  try simp only [p0, p1, p2, p3]
  refine wl_runs rfl (r_chunk (g := gE) (c := c1x) (by kernel_rfl) hO4) ?_
  rintro _ w5 ⟨Bn, Cn, rfl, hO5⟩
  clear hO4
  try simp only [List.nil_append, List.cons_append] at hO5
  try simp only [p0, p1, p2, p3]
  refine wl_nil ?_
  show Code.wp _ _ _ _ _
  refine wp_block ?_
  have hBk : Bk w5 Bn 23 #[.slice (some ⟨gE, 0, none⟩) 64 c1x] := hO5.get (by simp)
  have hCk : Bk w5 Cn 3 #[.int .i64 32] := hO5.get (by simp)
  refine (wpIn_wide (n := 9)).1 ?_
  refine wpIn_rangeFunc_ownF rfl (by decide) (gf := 44) (lb := #[.pointer (some ⟨Bn, 0, none⟩), .pointer (some ⟨Cn, 0, none⟩)]) rfl trivial (enters_of Tryd.func44 (by kernel_rfl) rfl) (chunk_stops 8 (by decide) Bn Cn gE c1x hcE w5 ((hBk.cell 0).trans rfl) ((hCk.cell 0).trans rfl)) (fun h k => ⟨k.1.trans h.1, k.2.trans h.2⟩) (fun W l o o' hl _ _ _ => ⟨World.putObj_heap_other (by have := hBk.lt; omega), World.putObj_heap_other (by have := hCk.lt; omega)⟩) (Below.refl _ _) (fun _ => rfl)
    (fun pre W => ∃ q kc t cs, Own w ((g4, 27, #[.slice q pre.length kc]) :: (g1, 22, (aF .u8 32 k)) :: (((buf (some ⟨gE, 0, none⟩) t1x s1x) ++ [(Cn, 3, #[.int .i64 32]), (Bn, 23, #[.slice (some ⟨gE, 0, none⟩) 64 c1x])]) ++ buf q t cs)) W ∧ Buf .u8 32 q pre.length kc cs (partsF (keysF K S k l b) pre)) (fun _ _ _ => False)
    (fun s A B row hs hg hr => by obtain ⟨q, kc, t, cs, h1, h2⟩ := hs; exact ⟨q, kc, t, cs, h1.grown hg hr hO5.bl.size, h2⟩) (fun _ _ _ _ _ hs _ _ => hs)
    ⟨none, 0, 0, #[], by have := hO5.nilbuf; simpa only [List.cons_append, List.nil_append, List.length_nil] using this, Buf.nil⟩
    (fun x => { tmps := #[.agg (aF .u8 32 k), .slice qb l cb, .int .i64 2, .pointer (some ⟨g1, 0, none⟩), undef, undef, .slice none 0 0, .int .i64 0, .slice (some ⟨gE, 0, none⟩) 64 c1x, .int .i64 0, .pointer (some ⟨g4, 0, none⟩), partV gE x, .int .i64 2, .bool false, .bool false, .int .i64 2, .bool false, .bool false, .tuple #[.slice (some ⟨gE, 0, none⟩) 64 c1x, .int .i64 0], .slice (some ⟨g1, 0, none⟩) 32 32, .slice qb l cb, .agg (aF .u8 32 (hmac K S k l b)), .int .i64 2, .int .i64 64, .tuple #[.slice (some ⟨gE, 0, none⟩) 64 c1x, .int .i64 0], .slice (some ⟨gE, 0, none⟩) 64 c1x, .int .i64 0, .slice (some ⟨gE, 0, none⟩) 64 c1x, .func (.func 44) #[] #[.pointer (some ⟨Bn, 0, none⟩), .pointer (some ⟨Cn, 0, none⟩)], partV gE x, undef, undef, undef, undef, undef, undef, undef, undef], defers := [] }) ?assign ?body ?done ?stop
  case assign =>
    intro l x W K hK
    gi_wp2
    exact hK
  case stop =>
    rintro D c pre W _ _ h _
    exact h.elim
  case body =>
    rintro l0 pre x W ⟨q, kc, tb, csb, hOb, hBb⟩ hlt
    refine wpIn_block ?_
    refine wd_regionIn (S := (fun y => Own w ((g4, 27, #[.slice q pre.length kc]) :: (g1, 22, (aF .u8 32 k)) :: ((buf (some ⟨gE, 0, none⟩) t1x s1x) ++ [(Cn, 3, #[.int .i64 32]), (Bn, 23, #[.slice (some ⟨gE, 0, none⟩) 64 c1x])])) y ∧ KeepsOthers W y)) [6] (Tr.ofList [(0, 1), (1, 1), (2, 1), (3, 1), (4, 3), (5, 3), (6, 4)] .nil) (by decide) (by kernel_rfl) (by kernel_rfl) (by kernel_rfl) (fun ⟨_, _, h⟩ => h) ?_
    simp only [Tr.ofList]
    have hOd := hOb.drew
    refine wd_ld (.slice q pre.length kc) rfl (some 30) (by kernel_rfl) (by kernel_rfl) (fun _ hw => run_cell (((hw.1.get (.head _)).cell 0).trans rfl) (by kernel_rfl) rfl (by kernel_rfl)) ⟨Own.sub hOd (.cons_cons _ (.cons_cons _ (List.sublist_append_left _ _))), (KeepsOthers.drew W)⟩ ?_
    try simp only [p0, p1, p2, p3]
    refine wd_ld (partV gE x) rfl (some 31) (by kernel_rfl) (by kernel_rfl) (fun _ _ => by kernel_rfl) ⟨Own.sub hOd (.cons_cons _ (.cons_cons _ (List.sublist_append_left _ _))), (KeepsOthers.drew W)⟩ ?_
    try simp only [p0, p1, p2, p3]
    refine wd_ld (.pointer (some ⟨gE, 32 * x.val, none⟩)) rfl (some 32) (by kernel_rfl) (by kernel_rfl) (fun _ _ => by kernel_rfl) ⟨Own.sub hOd (.cons_cons _ (.cons_cons _ (List.sublist_append_left _ _))), (KeepsOthers.drew W)⟩ ?_
    try simp only [p0, p1, p2, p3]
    refine wd_ld (.agg (aF .u8 32 (fun j => keysF K S k l b (32 * x.val + j)))) rfl (some 33) (by kernel_rfl) (by kernel_rfl) (fun _ hw => run_part (RdC.part (Rd.rdc (t := t1x) hB1x.rd hw.1 (by intro g e; cases e; simp [buf])) (32 * x.val) 32 (by omega)) Tryd.underlying22 rfl (by kernel_rfl) rfl (by kernel_rfl)) ⟨Own.sub hOd (.cons_cons _ (.cons_cons _ (List.sublist_append_left _ _))), (KeepsOthers.drew W)⟩ ?_
    try simp only [p0, p1, p2, p3]
    refine wd_runs rfl (some 34) (by kernel_rfl) rfl (r_bsK 22 (aF .u8 32 (fun j => keysF K S k l b (32 * x.val + j))) 1 (by kernel_rfl) hOd) (fun _ _ h => ⟨Own.sub h.1 (.cons _ (.cons_cons _ (.cons_cons _ (List.sublist_append_left _ _)))), (KeepsOthers.drew W).trans h.2⟩) fun gn w1n h1n => ?_
    obtain ⟨h2n, hk2⟩ := h1n
    replace hk2 := (KeepsOthers.drew W).trans hk2
    try simp only [p0, p1, p2, p3]
    refine wd_runs rfl (some 35) (by kernel_rfl) rfl (r_appK (k := .u8) (z := 32) (g' := gn) (o' := 0) (b := 32) (zv := .agg (aF .u8 32 zF)) (n := pre.length) (c := kc) (m := 1) (mc := 1) (q := q) (f := partsF (keysF K S k l b) pre) (s := (fun j => keysF K S k l b (32 * x.val + j))) (t0 := tb) (t := 27) (tx := 27) (ty := 27) (e := 22) (e' := 22) (cs := csb) (L := ((gn, 22, (aF .u8 32 (fun j => keysF K S k l b (32 * x.val + j)))) :: (g4, 27, #[.slice q pre.length kc]) :: (g1, 22, (aF .u8 32 k)) :: ((buf (some ⟨gE, 0, none⟩) t1x s1x) ++ [(Cn, 3, #[.int .i64 32]), (Bn, 23, #[.slice (some ⟨gE, 0, none⟩) 64 c1x])]))) (by kernel_rfl) Tryd.underlying27 Tryd.underlying27 (by kernel_rfl) (by kernel_rfl) (rdc_own1 h2n (.head _) 32 (by decide)) (by decide) ⟨by omega, by decide⟩ hBb h2n) (by rintro _ _ ⟨q', c', t', cs', rfl, h, hb', hk'⟩; exact ⟨Own.sub h (.cons _ (.cons_cons _ (.cons_cons _ (List.sublist_append_left _ _)))), hk2.trans hk'⟩) ?_
    rintro _ w3 ⟨q', c', t', cs', rfl, h3, hB3, hk3⟩
    replace hk3 := hk2.trans hk3
    try simp only [List.nil_append, List.cons_append] at h3
    try simp only [p0, p1, p2, p3]
    refine wd_runx rfl none (by kernel_rfl) rfl (r_oneK (L1 := [(gn, 22, (aF .u8 32 (fun j => keysF K S k l b (32 * x.val + j))))]) (L2 := ((g1, 22, (aF .u8 32 k)) :: (((buf (some ⟨gE, 0, none⟩) t1x s1x) ++ [(Cn, 3, #[.int .i64 32]), (Bn, 23, #[.slice (some ⟨gE, 0, none⟩) 64 c1x])]) ++ buf q' t' cs'))) (g := g4) (t := 27) (cs := #[.slice q pre.length kc]) (ds := #[.slice q' (pre.length + 1) c']) 0 (.slice q' (pre.length + 1) c') (by simp) rfl rfl rfl rfl (by kernel_rfl) (by kernel_rfl) h3 (by kernel_rfl)) fun _ w4 h4 => ?_
    obtain ⟨h5, hk5⟩ := h4
    replace hk5 := hk3.trans hk5
    try simp only [List.nil_append, List.cons_append] at h5
    try simp only [p0, p1, p2, p3]
    refine wd_nil ?_
    exact ⟨hk5, ⟨Eq.trans (show Bk w4 Bn 23 #[.slice (some ⟨gE, 0, none⟩) 64 c1x] from h5.get (by simp)) (show Bk W Bn 23 #[.slice (some ⟨gE, 0, none⟩) 64 c1x] from hOb.get (by simp)).symm, Eq.trans (show Bk w4 Cn 3 #[.int .i64 32] from h5.get (by simp)) (show Bk W Cn 3 #[.int .i64 32] from hOb.get (by simp)).symm⟩, q', c', t', cs', by rw [show (pre ++ [x]).length = pre.length + 1 by simp]; exact h5.tail, by rw [show (pre ++ [x]).length = pre.length + 1 by simp]; exact hB3.congr fun j hj => partsF_next hj⟩
  case done =>
    rintro D xs W hD rfl ⟨q, kc, tb, csb, hOf, hBf⟩ hKD
    simp only [List.length_cons, List.length_nil, Nat.zero_add, Nat.reduceAdd] at hOf hBf
    simp only [Exit.then, Exit.inBlock, if_true]
    show Code.wp _ _ _ _ _
    refine wp_seq ?_
    refine wl_region ?_
    refine wl_pure (.slice q 2 kc) rfl (run_cell (((hOf.get (.head _)).cell 0).trans rfl) (by kernel_rfl) rfl (by kernel_rfl)) ?_
    try simp only [p0, p1, p2, p3]
    refine wl_pure (.int .i64 0) rfl (by kernel_rfl) ?_
    try simp only [p0, p1, p2, p3]
    refine wl_pure (.slice q 2 kc) rfl (by kernel_rfl) ?_
    try simp only [p0, p1, p2, p3]
    refine wl_pure (.int .i64 0) rfl (by kernel_rfl) ?_
    try simp only [p0, p1, p2, p3]
    refine wl_nil ?_
    show Code.wp _ _ _ _ _
    refine wp_ret ?_
    refine ⟨by simp, .inl ⟨_, _, rfl, run_takeDeferred hKD, ?_⟩⟩
    exact ⟨_, results_tmp2 rfl _ _ _, _, rfl, q, kc, tb, csb, rfl, Own.sub (hOf.grown (grownBy_putObj' W D _) (fun r e => by cases e; exact ⟨hD, _, hKD, rfl⟩) hO5.bl.size) (.cons _ (.cons _ (List.sublist_append_right _ _))), hBf.congr fun j hj => partsF_all hj⟩
end Go.Proofs.YtkmgdpbmkbpkjaaDoor
