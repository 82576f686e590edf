/-
  Bytes of a number: read, reckoned with, written; small whole numbers beside them.
-/
import Derived.Test.YtkmgdpbmkbpkjaaDoorEngD
import Derived.Test.YtkmgdpbmkbpkjaaDoorArr
set_option linter.unusedVariables false
set_option linter.unusedSimpArgs false
namespace Go.Proofs.YtkmgdpbmkbpkjaaDoor
open Go.RowKit

/-- The i-th byte. -/
def byteN (n i : Nat) : Nat := n / 256 ^ i % 256
theorem byteN_lt (n i : Nat) : byteN n i < 256 := Nat.mod_lt _ (by decide)
theorem get_byte (n i : Nat) (h : i < 32) : (c8 n)[i]? = some (.int .u8 ((byteN n i : Nat) : Int)) := get_c8 n i h
theorem byteN_low (x i j : Nat) (h : i < j) : byteN (x % 256 ^ j) i = byteN x i := by
  unfold byteN
  rw [← Nat.mod_mul_right_div_self, ← Nat.mod_mul_right_div_self x, ← Nat.pow_succ, Nat.mod_mod_of_dvd _ (Nat.pow_dvd_pow 256 h)]
theorem c8_of {n m : Nat} {cs : Array Value} (hs : cs.size = 32) (h : ∀ i, i < 32 → cs[i]? = some (.int .u8 ((byteN m i : Nat) : Int))) : cs = c8 m := by
  apply Array.ext_getElem?
  intro i
  by_cases hi : i < 32
  · rw [h i hi, get_byte m i hi]
  · rw [Array.getElem?_eq_none (by omega), Array.getElem?_eq_none (by rw [size_c8]; omega)]
/-- The lowest byte set. -/
def set0 (n b : Nat) : Nat := n / 256 * 256 + b
/-- The highest byte set. -/
def set31 (n b : Nat) : Nat := n % 256 ^ 31 + b * 256 ^ 31
theorem c8_set0 (n b : Nat) (hb : b < 256) : (c8 n).setIfInBounds 0 (.int .u8 ((b : Nat) : Int)) = c8 (set0 n b) := by
  refine c8_of (n := n) (by simp [size_c8]) fun i hi => ?_
  rw [Array.getElem?_setIfInBounds]
  by_cases h : 0 = i
  · subst h
    rw [if_pos rfl, if_pos (by rw [size_c8]; decide)]
    unfold set0 byteN
    congr 3
    rw [Nat.pow_zero, Nat.div_one]
    omega
  · rw [if_neg h, get_byte n i hi]
    unfold set0 byteN
    congr 4
    obtain ⟨k, rfl⟩ : ∃ k, i = k + 1 := ⟨i - 1, by omega⟩
    rw [Nat.pow_succ, Nat.mul_comm, ← Nat.div_div_eq_div_mul, ← Nat.div_div_eq_div_mul, show (n / 256 * 256 + b) / 256 = n / 256 by omega]
theorem c8_set31 (n b : Nat) (hb : b < 256) : (c8 n).setIfInBounds 31 (.int .u8 ((b : Nat) : Int)) = c8 (set31 n b) := by
  refine c8_of (n := n) (by simp [size_c8]) fun i hi => ?_
  rw [Array.getElem?_setIfInBounds]
  have hm : set31 n b % 256 ^ 31 = n % 256 ^ 31 := by unfold set31; rw [Nat.add_mul_mod_self_right, Nat.mod_mod]
  by_cases h : 31 = i
  · subst h
    rw [if_pos rfl, if_pos (by rw [size_c8]; decide)]
    unfold set31 byteN
    congr 3
    rw [Nat.add_mul_div_right _ _ (Nat.pow_pos (by decide)), Nat.div_eq_of_lt (Nat.mod_lt _ (Nat.pow_pos (by decide))), Nat.zero_add, Nat.mod_eq_of_lt hb]
  · rw [if_neg h, get_byte n i hi, ← byteN_low n i 31 (by omega), ← byteN_low (set31 n b) i 31 (by omega), hm]
theorem set0_256 {n b : Nat} (hn : N256 n) (hb : b < 256) : N256 (set0 n b) := by unfold N256 set0 at *; omega
theorem set31_256 {n b : Nat} (hb : b < 256) : N256 (set31 n b) := by
  unfold N256 set31
  have e : 256 ^ 31 = 452312848583266388373324160190187140051835877600158453279131187530910662656 := by decide +kernel
  rw [e]
  omega

theorem wrap8 (z : Nat) (h : z < 256) : IntKind.u8.wrap ((z : Nat) : Int) = (z : Int) := by
  simp [IntKind.wrap, IntKind.bits, IntKind.signed]
  omega
section
variable {P : Program} {ops : Array Oper} {Q : Exit → Act → World → Prop} {rest : List Oper} {o : Oper} {a : Act} {w w0 : World} {L L0 L1 L2 : List (Nat × TypeId × Array Value)} {md : Region.Mode} {S : World → Prop} {X : List Nat} {fuel : Nat} {listed : Array Bool}
theorem u8run {op : BinOp} {z T : TypeId} {p q : Operand} {x y r : Nat} (hr : ∀ w, (binOp op z (.int .u8 (x : Int)) (.int .u8 (y : Int)) : Sem Value).run P w = .ok (.int .u8 (r : Int)) w) (hq' : ∀ w, (eqGuard op z p q (.int .u8 (x : Int)) (.int .u8 (y : Int)) : Sem Unit).run P w = .ok () w)
    (ho : o.op = .binOp op z p q T) (hp : a.eval p = .int .u8 (x : Int)) (hq : a.eval q = .int .u8 (y : Int)) (w : World) :
    (execOp a.eval o).run P w = .ok (.value (.int .u8 (r : Int))) w := by
  unfold execOp
  simp only [ho, hp, hq]
  simp [Sem.run_bind, hr, hq']
theorem run_and (x y : Nat) (hx : x < 256) (hy : y < 256) (z : TypeId) (w : World) : (binOp .and z (.int .u8 (x : Int)) (.int .u8 (y : Int)) : Sem Value).run P w = .ok (.int .u8 ((x &&& y : Nat) : Int)) w := by
  have := u8_and_nat x y hx hy
  simp [go_sem, this]
theorem run_xor (x y : Nat) (hx : x < 256) (hy : y < 256) (z : TypeId) (w : World) : (binOp .xor z (.int .u8 (x : Int)) (.int .u8 (y : Int)) : Sem Value).run P w = .ok (.int .u8 ((x ^^^ y : Nat) : Int)) w := by
  have := u8_xor_nat x y hx hy
  simp [go_sem, this]
theorem run_or (x y : Nat) (hx : x < 256) (hy : y < 256) (z : TypeId) (w : World) : (binOp .or z (.int .u8 (x : Int)) (.int .u8 (y : Int)) : Sem Value).run P w = .ok (.int .u8 ((x ||| y : Nat) : Int)) w := by
  have := u8_or_nat x y hx hy
  simp [go_sem, this]
theorem run_rem (x y : Nat) (hx : x < 256) (hy : y < 256) (h0 : 0 < y) (z : TypeId) (w : World) : (binOp .rem z (.int .u8 (x : Int)) (.int .u8 (y : Int)) : Sem Value).run P w = .ok (.int .u8 ((x % y : Nat) : Int)) w := by
  have h : (y : Int) ≠ 0 := by omega
  have h' : y ≠ 0 := by omega
  have e : Int.tmod (x : Int) (y : Int) = ((x % y : Nat) : Int) := by rw [Int.tmod_eq_emod_of_nonneg (by omega)]; omega
  have e2 : x % y < 256 := Nat.lt_of_le_of_lt (Nat.mod_le _ _) hx
  simp [go_sem, h, h', e]
  try omega
theorem run_quo (x y : Nat) (hx : x < 256) (hy : y < 256) (h0 : 0 < y) (z : TypeId) (w : World) : (binOp .quo z (.int .u8 (x : Int)) (.int .u8 (y : Int)) : Sem Value).run P w = .ok (.int .u8 ((x / y : Nat) : Int)) w := by
  have h : (y : Int) ≠ 0 := by omega
  have h' : y ≠ 0 := by omega
  have e2 : x / y < 256 := Nat.lt_of_le_of_lt (Nat.div_le_self _ _) hx
  have e3 := wrap8 (x / y) e2
  rw [Int.natCast_ediv] at e3
  simp [go_sem, h, h', e3]
theorem run_sub (x y : Nat) (hx : x < 256) (hy : y ≤ x) (z : TypeId) (w : World) : (binOp .sub z (.int .u8 (x : Int)) (.int .u8 (y : Int)) : Sem Value).run P w = .ok (.int .u8 ((x - y : Nat) : Int)) w := by
  have e : ((x : Int) - (y : Int)) = ((x - y : Nat) : Int) := by omega
  have e3 := wrap8 (x - y) (by omega)
  simp [go_sem, e, e3]
theorem run_add (x y : Nat) (hx : x + y < 256) (z : TypeId) (w : World) : (binOp .add z (.int .u8 (x : Int)) (.int .u8 (y : Int)) : Sem Value).run P w = .ok (.int .u8 ((x + y : Nat) : Int)) w := by
  have e3 := wrap8 (x + y) hx
  rw [Int.natCast_add] at e3
  simp [go_sem, e3]
theorem u8cmp {op : BinOp} {z T : TypeId} {p q : Operand} {x y : Nat} {b : Bool} (hr : ∀ w, (binOp op z (.int .u8 (x : Int)) (.int .u8 (y : Int)) : Sem Value).run P w = .ok (.bool b) w) (hq' : ∀ w, (eqGuard op z p q (.int .u8 (x : Int)) (.int .u8 (y : Int)) : Sem Unit).run P w = .ok () w)
    (ho : o.op = .binOp op z p q T) (hp : a.eval p = .int .u8 (x : Int)) (hq : a.eval q = .int .u8 (y : Int)) (w : World) :
    (execOp a.eval o).run P w = .ok (.value (.bool b)) w := by
  unfold execOp
  simp only [ho, hp, hq]
  simp [Sem.run_bind, hr, hq']
theorem run_eql8 (x y : Nat) (b : Bool) (hb : decide (x = y) = b) (z : TypeId) (w : World) : (binOp .eql z (.int .u8 (x : Int)) (.int .u8 (y : Int)) : Sem Value).run P w = .ok (.bool b) w := by
  subst hb
  have e : ((x : Int) == (y : Int)) = decide (x = y) := by
    rw [Bool.eq_iff_iff, beq_iff_eq, decide_eq_true_iff]
    omega
  simp [go_sem, e]
theorem run_neq8 (x y : Nat) (b : Bool) (hb : (!decide (x = y)) = b) (z : TypeId) (w : World) : (binOp .neq z (.int .u8 (x : Int)) (.int .u8 (y : Int)) : Sem Value).run P w = .ok (.bool b) w := by
  subst hb
  have e : ((x : Int) != (y : Int)) = !decide (x = y) := by
    unfold bne
    congr 1
    rw [Bool.eq_iff_iff, beq_iff_eq, decide_eq_true_iff]
    omega
  simp [go_sem, e]
theorem run_geq8 (x y : Nat) (b : Bool) (hb : decide (y ≤ x) = b) (z : TypeId) (w : World) : (binOp .geq z (.int .u8 (x : Int)) (.int .u8 (y : Int)) : Sem Value).run P w = .ok (.bool b) w := by
  subst hb
  have e : decide ((y : Int) ≤ (x : Int)) = decide (y ≤ x) := by
    rw [decide_eq_decide]
    omega
  simp [go_sem, e]
theorem run_lss8 (x y : Nat) (b : Bool) (hb : decide (x < y) = b) (z : TypeId) (w : World) : (binOp .lss z (.int .u8 (x : Int)) (.int .u8 (y : Int)) : Sem Value).run P w = .ok (.bool b) w := by
  subst hb
  have e : decide ((x : Int) < (y : Int)) = decide (x < y) := by
    rw [decide_eq_decide]
    omega
  simp [go_sem, e]
theorem i64run {op : BinOp} {z T : TypeId} {p q : Operand} {x y r : Int} (hr : ∀ w, (binOp op z (.int .i64 x) (.int .i64 y) : Sem Value).run P w = .ok (.int .i64 r) w) (hq' : ∀ w, (eqGuard op z p q (.int .i64 x) (.int .i64 y) : Sem Unit).run P w = .ok () w)
    (ho : o.op = .binOp op z p q T) (hp : a.eval p = .int .i64 x) (hq : a.eval q = .int .i64 y) (w : World) :
    (execOp a.eval o).run P w = .ok (.value (.int .i64 r)) w := by
  unfold execOp
  simp only [ho, hp, hq]
  simp [Sem.run_bind, hr, hq']
theorem run_quo8 (x : Nat) (hx : x < 256) (z : TypeId) (w : World) : (binOp .quo z (.int .i64 (x : Int)) (.int .i64 8) : Sem Value).run P w = .ok (.int .i64 ((x / 8 : Nat) : Int)) w := by
  have e : Int.tdiv (x : Int) 8 = ((x / 8 : Nat) : Int) := by rw [Int.tdiv_eq_ediv_of_nonneg (by omega)]; omega
  have e2 : wrap64 ((x / 8 : Nat) : Int) = ((x / 8 : Nat) : Int) := by unfold wrap64; omega
  have e3 : IntKind.i64.wrap ((x : Int) / 8) = (x : Int) / 8 := by
    simp [IntKind.wrap, IntKind.bits, IntKind.signed]
    omega
  simp [go_sem, e, e2, e3]
theorem run_rem8 (x : Nat) (hx : x < 256) (z : TypeId) (w : World) : (binOp .rem z (.int .i64 (x : Int)) (.int .i64 8) : Sem Value).run P w = .ok (.int .i64 ((x % 8 : Nat) : Int)) w := by
  have e : Int.tmod (x : Int) 8 = ((x % 8 : Nat) : Int) := by rw [Int.tmod_eq_emod_of_nonneg (by omega)]; omega
  have e2 : wrap64 ((x % 8 : Nat) : Int) = ((x % 8 : Nat) : Int) := by unfold wrap64; omega
  have e3 : wrap64 ((x : Int) % 8) = (x : Int) % 8 := by unfold wrap64; omega
  simp [go_sem, e, e2, e3]
theorem shrrun {z T : TypeId} {p q : Operand} {x n : Nat} (hx : x < 256) (hn : n < 8) (ho : o.op = .binOp .shr z p q T) (hp : a.eval p = .int .u8 (x : Int)) (hq : a.eval q = .int .i64 (n : Int)) (w : World) :
    (execOp a.eval o).run P w = .ok (.value (.int .u8 ((x / 2 ^ n : Nat) : Int))) w := by
  have h2 : x / 2 ^ n < 256 := Nat.lt_of_le_of_lt (Nat.div_le_self _ _) hx
  have e := wrap8 (x / 2 ^ n) h2
  unfold execOp
  simp only [ho, hp, hq]
  have : n = 0 ∨ n = 1 ∨ n = 2 ∨ n = 3 ∨ n = 4 ∨ n = 5 ∨ n = 6 ∨ n = 7 := by omega
  rcases this with rfl | rfl | rfl | rfl | rfl | rfl | rfl | rfl <;> simp [go_sem] at e ⊢ <;> first | exact e | done | trace_state
/-- One byte of a number, read. -/
theorem wl_byte {g : Nat} {t : TypeId} {n : Nat} (j : Nat) (hj : j < 32) (hw : Region.wanted o (yielded ops a.tmps) = true) (ty : TypeId) (x : Operand) (ho : o.op = .load ty x) (hx : a.eval x = .pointer (some ⟨g, j, none⟩))
    (hm : (g, t, c8 n) ∈ L) (ha : ∀ w, (isAgg ty).run P w = .ok false w) (hO : Own w0 L w)
    (h : WL P ops Q rest (a.put o.dst (.int .u8 ((byteN n j : Nat) : Int))) w) : WL P ops Q (o :: rest) a w := by
  refine wl_pure _ hw ?_ h
  have hc : w.cell? ⟨g, j, none⟩ = some (.int .u8 ((byteN n j : Nat) : Int)) := ((hO.get hm).cell j).trans (get_byte n j hj)
  unfold execOp
  simp only [ho, hx, Instr.loadAt, Instr.sureAddr, Sem.run_bind, Sem.run_pure, Result.andThen_ok]
  simp [loadVar, Sem.run_bind, ha, hc, go_sem]
theorem run_storeVar_one (w : World) (b o : Nat) (ty : TypeId) (v : Value) (hv : v.cells = #[v]) (h1 : v.oneCell' = true) (ht : w.there b o 1) (hi : (P.info? ty).map (·.size) = some 1) :
    (storeVar ty ⟨b, o, none⟩ v).run P w = .ok () (w.setCell ⟨b, o, none⟩ v) := by
  have := run_storeCells_cells (P := P) b o [v] 0 w (fun j hj => by simpa using (ht j (by simpa using hj)).1) (fun j hj => by simpa using (ht j (by simpa using hj)).2)
    (fun u hu => by obtain rfl := List.mem_singleton.1 hu; exact h1)
  cases hq : P.info? ty with
  | none => simp [hq] at hi
  | some i =>
    have hs : i.size = 1 := by simpa [hq] using hi
    simp only [Nat.add_zero] at this
    simp [storeVar, sizeOf, typeInfo, hq, hv, hs, this, World.setCells]
theorem Own.cell {g : Nat} {t : TypeId} {cs ds : Array Value} {i : Nat} {v : Value} (h : Own w0 (L1 ++ (g, t, cs) :: L2) w) (hd : cs.setIfInBounds i v = ds) :
    Own w0 (L1 ++ (g, t, ds) :: L2) (w.setCell ⟨g, i, none⟩ v) := by
  subst hd
  have hg := h.get (g := g) (t := t) (cs := cs) (by simp)
  have hu : w0.heap.size ≤ g := h.up (g, t, cs) (by simp)
  have hnd := h.nd
  have e : (L1 ++ (g, t, cs.setIfInBounds i v) :: L2).map (·.1) = (L1 ++ (g, t, cs) :: L2).map (·.1) := by simp
  have far : ∀ x, x ∈ L1 ∨ x ∈ L2 → x.1 ≠ g := by
    intro x hx he
    rw [List.map_append, List.map_cons, List.nodup_append] at hnd
    rcases hx with hx | hx
    · exact hnd.2.2 x.1 (List.mem_map_of_mem hx) g (List.mem_cons_self ..) he
    · have hm : x.1 ∈ L2.map (·.1) := List.mem_map_of_mem hx
      rw [he] at hm
      exact (List.nodup_cons.1 hnd.2.1).1 hm
  refine ⟨fun x hx => ?_, by rw [e]; exact hnd, fun x hx => ?_, bl_put h.bl hu v⟩
  · rcases List.mem_append.1 hx with hx | hx
    · exact (h.bk x (by simp [hx])).off (far x (.inl hx)) _ _
    · rcases List.mem_cons.1 hx with rfl | hx
      · exact hg.put i v
      · exact (h.bk x (by simp [hx])).off (far x (.inr hx)) _ _
  · rcases List.mem_append.1 hx with hx | hx
    · exact h.up x (by simp [hx])
    · rcases List.mem_cons.1 hx with rfl | hx
      · exact hu
      · exact h.up x (by simp [hx])
/-- One byte of a number, written. -/
theorem wl_setb {g : Nat} {t : TypeId} {n m b : Nat} (i : Nat) (hi : i < 32) (hd : (c8 n).setIfInBounds i (.int .u8 ((b : Nat) : Int)) = c8 m) (hg : o.guard = none) (ty : TypeId) (x y : Operand) (ho : o.op = .store ty x y)
    (hx : a.eval x = .pointer (some ⟨g, i, none⟩)) (hy : a.eval y = .int .u8 ((b : Nat) : Int)) (hO : Own w0 (L1 ++ (g, t, c8 n) :: L2) w) (hs : (P.info? ty).map (·.size) = some 1)
    (h : ∀ w', Own w0 (L1 ++ (g, t, c8 m) :: L2) w' → WL P ops Q rest (a.put o.dst undef) w') : WL P ops Q (o :: rest) a w := by
  have ht := there_at (hO.get (g := g) (t := t) (cs := c8 n) (by simp)) i 1 (by rw [size_c8]; omega)
  refine .mk (wpList_plain hg fun K hK => ?_)
  unfold Oper.wp execOp
  simp only [ho, hx, hy, Instr.storeAt, Instr.sureAddr, Sem.run_bind, Sem.run_pure, Result.andThen_ok, run_storeVar_one w g i ty (.int .u8 ((b : Nat) : Int)) rfl rfl ht hs]
  exact hK _ _ (h _ (hO.cell hd)).out
theorem fl_byte {g : Nat} {t : TypeId} {n : Nat} (i : Nat) (l' : Array Bool) {o : Oper} (hl : listed.setIfInBounds i true = l') (hi : ops[i]? = some o) (dst : Option Tmp) (hdst : o.dst = dst) (hs : Region.noSelect ops = true) (hf : Region.free md ops listed i = true) (hr : (Region.ready md ops listed).contains i = true) (hiX : X.contains i = false)
    (j : Nat) (hj : j < 32) (hwt : waits md ops X i = true) (hc : clean X listed = true) (hw : Region.wanted o (yielded ops a.tmps) = true) (ty : TypeId) (x : Operand) (ho : o.op = .load ty x) (hx : a.eval x = .pointer (some ⟨g, j, none⟩))
    (hm : ∀ w, S w → Bk w g t (c8 n)) (ha : ∀ w, (isAgg ty).run P w = .ok false w) (hS : S w)
    (h : wpF P md ops (NoPanic Q) S X fuel l' (a.put dst (.int .u8 ((byteN n j : Nat) : Int))) w) : wpF P md ops (NoPanic Q) S X (fuel + 1) listed a w := by
  refine fl_take i l' hl hi dst hdst hs hf hr hiX true _ (fun _ => waits_spec hwt) (fun _ => hc) (.inl ⟨hw, fun w hw' => ?_⟩) (fun _ => hS) h
  have hcc : w.cell? ⟨g, j, none⟩ = some (.int .u8 ((byteN n j : Nat) : Int)) := ((hm w (hw' rfl)).cell j).trans (get_byte n j hj)
  unfold execOp
  simp only [ho, hx, Instr.loadAt, Instr.sureAddr, Sem.run_bind, Sem.run_pure, Result.andThen_ok]
  simp [loadVar, Sem.run_bind, ha, hcc, go_sem]
/-- A number out of the midst of a block. -/
theorem fl_part {g : Nat} {t : TypeId} {cs : Array Value} (i : Nat) (l' : Array Bool) {o : Oper} (hl : listed.setIfInBounds i true = l') (hi : ops[i]? = some o) (dst : Option Tmp) (hdst : o.dst = dst) (hs : Region.noSelect ops = true) (hf : Region.free md ops listed i = true) (hr : (Region.ready md ops listed).contains i = true) (hiX : X.contains i = false)
    (off n : Nat) (hcs : ∀ j, j < 32 → cs[off + j]? = (c8 n)[j]?) (hwt : waits md ops X i = true) (hc : clean X listed = true) (hw : Region.wanted o (yielded ops a.tmps) = true) (ty : TypeId) (x : Operand) (ho : o.op = .load ty x) (hx : a.eval x = .pointer (some ⟨g, off, none⟩))
    (d : TypeDesc) (hm : ∀ w, S w → Bk w g t cs) (hu : P.underlying ty = some d) (hd : d.isRow = true) (hs' : (P.info? ty).map (·.size) = some (c8 n).toList.length) (hS : S w)
    (h : wpF P md ops (NoPanic Q) S X fuel l' (a.put dst (.agg (c8 n))) w) : wpF P md ops (NoPanic Q) S X (fuel + 1) listed a w := by
  refine fl_take i l' hl hi dst hdst hs hf hr hiX true (.agg (c8 n)) (fun _ => waits_spec hwt) (fun _ => hc) (.inl ⟨hw, fun w hw' => ?_⟩) (fun _ => hS) h
  have hR : w.rangeAt g off (c8 n).toList := fun j v hv => by
    have hj : j < 32 := by have := (List.getElem?_eq_some_iff.1 hv).1; rwa [len_c8] at this
    rw [(hm w (hw' rfl)).cell, hcs j hj, ← hv, Array.getElem?_toList]
  have e := run_loadVar_mid w g off ty (c8 n).toList d hR hu hd hs'
  rw [Array.toArray_toList] at e
  unfold execOp
  simp only [ho, hx, Instr.loadAt, Instr.sureAddr, Sem.run_bind, Sem.run_pure, Result.andThen_ok, e]
theorem fl_cell {g : Nat} {t : TypeId} {cs : Array Value} (i : Nat) (l' : Array Bool) {o : Oper} (hl : listed.setIfInBounds i true = l') (hi : ops[i]? = some o) (dst : Option Tmp) (hdst : o.dst = dst) (hs : Region.noSelect ops = true) (hf : Region.free md ops listed i = true) (hr : (Region.ready md ops listed).contains i = true) (hiX : X.contains i = false)
    (off : Nat) (b : Int) (hcs : cs[off]? = some (.int .u8 b)) (hwt : waits md ops X i = true) (hc : clean X listed = true) (hw : Region.wanted o (yielded ops a.tmps) = true) (ty : TypeId) (x : Operand) (ho : o.op = .load ty x) (hx : a.eval x = .pointer (some ⟨g, off, none⟩))
    (hm : ∀ w, S w → Bk w g t cs) (ha : ∀ w, (isAgg ty).run P w = .ok false w) (hS : S w)
    (h : wpF P md ops (NoPanic Q) S X fuel l' (a.put dst (.int .u8 b)) w) : wpF P md ops (NoPanic Q) S X (fuel + 1) listed a w := by
  refine fl_take i l' hl hi dst hdst hs hf hr hiX true _ (fun _ => waits_spec hwt) (fun _ => hc) (.inl ⟨hw, fun w hw' => ?_⟩) (fun _ => hS) h
  have hcc : w.cell? ⟨g, off, none⟩ = some (.int .u8 b) := ((hm w (hw' rfl)).cell off).trans hcs
  unfold execOp
  simp only [ho, hx, Instr.loadAt, Instr.sureAddr, Sem.run_bind, Sem.run_pure, Result.andThen_ok]
  simp [loadVar, Sem.run_bind, ha, hcc, go_sem]
end
/-- A byte's address in a number. -/
theorem isAgg_u8 (w : World) : (isAgg 5).run Tryd.prog w = .ok false w := by kernel_rfl
theorem one_u8 : (Tryd.prog.info? 5).map (·.size) = some 1 := by kernel_rfl
end Go.Proofs.YtkmgdpbmkbpkjaaDoor
