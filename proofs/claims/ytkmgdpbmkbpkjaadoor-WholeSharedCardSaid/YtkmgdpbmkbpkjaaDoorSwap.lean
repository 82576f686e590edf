/-
  limb.Swap: both numbers, in the other order if so.
-/
import Derived.Test.YtkmgdpbmkbpkjaaDoorGAny
set_option linter.unusedVariables false
set_option linter.unusedSimpArgs false
namespace Go.Proofs.YtkmgdpbmkbpkjaaDoor
open Go.RowKit

theorem results_rows2 {P : Program} {fn : Func} {p q : Tmp} {ty : TypeId} (h : fn.results = #[.cell p ty, .cell q ty]) (tmps : Array Value) (w : World) (g g' : Nat) (t : TypeId) (cs ds : Array Value) (d : TypeDesc)
    (hp : tmps.getD p undef = .pointer (some ⟨g, 0, none⟩)) (hq : tmps.getD q undef = .pointer (some ⟨g', 0, none⟩)) (hg : Bk w g t cs) (hg' : Bk w g' t ds)
    (hu : P.underlying ty = some d) (hd : (match d with | .struct _ | .array _ _ => true | _ => false) = true) (hi : (P.info? ty).map (·.size) = some cs.size) (hi' : (P.info? ty).map (·.size) = some ds.size) :
    (results fn tmps).run P w = .ok (.tuple #[.agg cs, .agg ds]) w := by
  have hp' : tmps[p]?.getD undef = .pointer (some ⟨g, 0, none⟩) := by simpa using hp
  have hq' : tmps[q]?.getD undef = .pointer (some ⟨g', 0, none⟩) := by simpa using hq
  simp [results, h, hp', hq', asAddr, run_loadVar_row w g t ty cs (0, 0) d hg hu hd hi, run_loadVar_row w g' t ty ds (0, 0) d hg' hu hd hi', Sem.run_bind, Result.andThen]

/-- A load of a whole row at the head of a drawn region. -/
theorem still_row {P : Program} {ops : Array Oper} {w : World} {Q : Act → Prop} {a : Act} {o : Oper} {rest : List Oper} (hgd : o.guard = none) (ty : TypeId) (x : Operand) (ho : o.op = .load ty x)
    (g : Nat) (hx : a.eval x = .pointer (some ⟨g, 0, none⟩)) (t : TypeId) (cs : Array Value) (d : TypeDesc) (hg : Bk w g t cs) (hu : P.underlying ty = some d) (hd : (match d with | .struct _ | .array _ _ => true | _ => false) = true)
    (hi : (P.info? ty).map (·.size) = some cs.size) (h : wpStill P ops w Q rest (a.put o.dst (.agg cs))) : wpStill P ops w Q (o :: rest) a := by
  refine wpStill_step fun K hK => ?_
  rw [if_pos (by simp [Region.wanted, hgd])]
  unfold Oper.still execOp
  simp only [ho, hx, Instr.loadAt, Instr.sureAddr, Sem.run_bind, Sem.run_pure, Result.andThen_ok, run_loadVar_row w g t ty cs (0, 0) d hg hu hd hi]
  exact ⟨rfl, hK _ h⟩

/-- The first n bytes of one number, the others of another one. -/
def c8m (x y n : Nat) : Array Value := ((List.range 32).map fun j => Value.int .u8 ((if j < n then x / 256 ^ j % 256 else y / 256 ^ j % 256 : Nat) : Int)).toArray
theorem c8m_zero (x y : Nat) : c8m x y 0 = c8 y := by
  unfold c8m c8
  refine congrArg List.toArray (List.map_congr_left fun j hj => ?_)
  rw [if_neg (by omega)]
theorem c8m_all (x y : Nat) : c8m x y 32 = c8 x := by
  unfold c8m c8
  refine congrArg List.toArray (List.map_congr_left fun j hj => ?_)
  rw [if_pos (List.mem_range.1 hj)]
theorem size_c8m (x y n : Nat) : (c8m x y n).size = 32 := by simp [c8m]
theorem get_c8m (x y n j : Nat) (h : j < 32) : (c8m x y n)[j]? = some (.int .u8 ((if j < n then x / 256 ^ j % 256 else y / 256 ^ j % 256 : Nat) : Int)) := by
  simp [c8m, h]
theorem put_c8m (x y n : Nat) (h : n < 32) : (c8m x y n).setIfInBounds n (.int .u8 ((x / 256 ^ n % 256 : Nat) : Int)) = c8m x y (n + 1) := by
  apply Array.ext
  · simp [size_c8m]
  · intro j h1 h2
    have hj : j < 32 := by simpa [size_c8m] using h2
    have g1 := get_c8m x y n j hj
    have g2 := get_c8m x y (n + 1) j hj
    rw [Array.getElem?_eq_getElem (by simpa [size_c8m] using hj)] at g1
    rw [Array.getElem?_eq_getElem h2] at g2
    rw [Option.some.inj g2, Array.getElem_setIfInBounds (by simpa [size_c8m] using hj)]
    by_cases e : n = j
    · subst e; simp
    · rw [if_neg e, Option.some.inj g1]
      by_cases hl : j < n
      · rw [if_pos hl, if_pos (by omega)]
      · rw [if_neg hl, if_neg (by omega)]
theorem u8_x (a b : Nat) (ha : a < 256) (hb : b < 256) : bits .xor .u8 (a : Int) (b : Int) = ((a ^^^ b : Nat) : Int) := u8_xor_nat a b ha hb
theorem xor_lt (a b : Nat) (ha : a < 256) (hb : b < 256) : a ^^^ b < 256 := Nat.xor_lt_two_pow (n := 8) ha hb
theorem and_255 (a : Nat) (ha : a < 256) : bits .and .u8 255 (a : Int) = (a : Int) := by
  have e := u8_and_nat 255 a (by omega) ha
  rw [Nat.and_comm, show (255 : Nat) = 2 ^ 8 - 1 from rfl, Nat.and_two_pow_sub_one_eq_mod, Nat.mod_eq_of_lt ha] at e
  exact e
theorem and_0 (a : Nat) (ha : a < 256) : bits .and .u8 0 (a : Int) = 0 := by
  have e := u8_and_nat 0 a (by omega) ha
  rw [Nat.zero_and] at e
  exact e
theorem xor_0 (a : Nat) (ha : a < 256) : bits .xor .u8 (a : Int) 0 = (a : Int) := by
  have e := u8_x a 0 ha (by omega)
  rw [Nat.xor_zero] at e
  exact e

/-- Two boxes, and two places for answers. -/
def S4 (w : World) (x y : Nat) (w' : World) : Prop := Bk w' w.heap.size 22 (c8 x) ∧ Bk w' (w.heap.size + 1) 22 (c8 y) ∧
  (∃ z, z.size = 32 ∧ Bk w' (w.heap.size + 1 + 1) 22 z) ∧ (∃ z, z.size = 32 ∧ Bk w' (w.heap.size + 1 + 1 + 1) 22 z) ∧ Below w.heap.size w w'
theorem S4.six {w : World} {x y : Nat} {w1 : World} (h : S4 w x y w1) (r : Nat) : S4 w x y (w1.setCells (w.heap.size + 1 + 1) 0 (c8 r).toList) ∧
    Bk (w1.setCells (w.heap.size + 1 + 1) 0 (c8 r).toList) (w.heap.size + 1 + 1) 22 (c8 r) ∧ w1.there (w.heap.size + 1 + 1) 0 (c8 r).size := by
  obtain ⟨ha, hb, ⟨z, hz, hk⟩, ⟨z', hz', hk'⟩, L⟩ := h
  have h6 : Bk (w1.setCells (w.heap.size + 1 + 1) 0 (c8 r).toList) (w.heap.size + 1 + 1) 22 (c8 r) := hk.all (by rw [hz, size_c8])
  refine ⟨⟨Bk.offs (by omega) _ _ _ ha, Bk.offs (by omega) _ _ _ hb, ⟨_, size_c8 r, h6⟩, ⟨z', hz', Bk.offs (by omega) _ _ _ hk'⟩, bl_cells (by omega) _ _ _ L⟩, h6, ?_⟩
  rw [size_c8, ← hz]; exact hk.there
theorem S4.seven {w : World} {x y : Nat} {w1 : World} (h : S4 w x y w1) (r : Nat) : S4 w x y (w1.setCells (w.heap.size + 1 + 1 + 1) 0 (c8 r).toList) ∧
    Bk (w1.setCells (w.heap.size + 1 + 1 + 1) 0 (c8 r).toList) (w.heap.size + 1 + 1 + 1) 22 (c8 r) ∧ w1.there (w.heap.size + 1 + 1 + 1) 0 (c8 r).size := by
  obtain ⟨ha, hb, ⟨z, hz, hk⟩, ⟨z', hz', hk'⟩, L⟩ := h
  have h6 : Bk (w1.setCells (w.heap.size + 1 + 1 + 1) 0 (c8 r).toList) (w.heap.size + 1 + 1 + 1) 22 (c8 r) := hk'.all (by rw [hz', size_c8])
  refine ⟨⟨Bk.offs (by omega) _ _ _ ha, Bk.offs (by omega) _ _ _ hb, ⟨z, hz, Bk.offs (by omega) _ _ _ hk⟩, ⟨_, size_c8 r, h6⟩, bl_cells (by omega) _ _ _ L⟩, h6, ?_⟩
  rw [size_c8, ← hz']; exact hk'.there

set_option maxRecDepth 100000 in
set_option maxHeartbeats 4000000 in
theorem swap_any (is : Bool) (a b : Nat) (w : World) :
    Calls Tryd.prog 52 #[.bool is, .agg (c8 a), .agg (c8 b)] w fun e w' => e = .returned (.tuple #[.agg (c8 (if is then b else a)), .agg (c8 (if is then a else b))]) ∧ Below w.heap.size w w' := by
  cases is
  all_goals
    go_enter Tryd.func52, Tryd.ntmps52
    go_wp2_with fail
    rw [← c8p_zero 0]

  · go_loopw [12] (fun iv wr => ∃ i : Nat, i ≤ 32 ∧ iv = .int .i64 i ∧ Bk wr w.heap.size 22 (c8m a a i) ∧ Bk wr (w.heap.size + 1) 22 (c8m b b i) ∧ Bk wr (w.heap.size + 1 + 1) 22 (c8p 0 0) ∧ Bk wr (w.heap.size + 1 + 1 + 1) 22 (c8p 0 0) ∧ Below w.heap.size w wr) (fun iv _ => 32 - (intOf iv).toNat)
    case atStart =>
      refine ⟨0, by omega, rfl, ?_, ?_, ?_, ?_, ?_⟩
      · rw [c8m_zero]; repeat (first | (refine Bk.at_ _ _ _ _ ?_; simp; done) | refine Bk.drew ?_ | refine Bk.alloc ?_ _)
      · rw [c8m_zero]; repeat (first | (refine Bk.at_ _ _ _ _ ?_; simp; done) | refine Bk.drew ?_ | refine Bk.alloc ?_ _)
      · repeat (first | (refine Bk.at_ _ _ _ _ ?_; simp; done) | refine Bk.drew ?_ | refine Bk.alloc ?_ _)
      · repeat (first | (refine Bk.at_ _ _ _ _ ?_; simp; done) | refine Bk.drew ?_ | refine Bk.alloc ?_ _)
      · repeat (first | exact Below.refl _ _ | assumption | refine Below.drew ?_ | refine bl_alloc ?_ _ | refine bl_drewN ?_ _)
    case round =>
      obtain ⟨i, hi, rfl, qa, qb, q6, q7, L⟩ := hrel
      by_cases hlt : i < 32
      · obtain ⟨A0, hA0⟩ : ∃ A0, A0 = a / 256 ^ i % 256 := ⟨_, rfl⟩
        obtain ⟨B0, hB0⟩ : ∃ B0, B0 = b / 256 ^ i % 256 := ⟨_, rfl⟩
        have la : A0 < 256 := by rw [hA0]; exact Nat.mod_lt _ (by omega)
        have lb : B0 < 256 := by rw [hB0]; exact Nat.mod_lt _ (by omega)
        have ca : wr.cell? ⟨w.heap.size, i, none⟩ = some (.int .u8 (A0 : Int)) := (qa.cell i).trans ((get_c8m a a i i hlt).trans (by rw [if_neg (Nat.lt_irrefl i), hA0]))
        have cb : wr.cell? ⟨(w.heap.size + 1), i, none⟩ = some (.int .u8 (B0 : Int)) := (qb.cell i).trans ((get_c8m b b i i hlt).trans (by rw [if_neg (Nat.lt_irrefl i), hB0]))
        have fa : ∀ j, wr.frozen? ⟨w.heap.size, j, none⟩ = false := qa.frozen
        have fb : ∀ j, wr.frozen? ⟨(w.heap.size + 1), j, none⟩ = false := qb.frozen
        have r0 := u8_x A0 B0 la lb
        have lx := xor_lt A0 B0 la lb
        have ra := xor_0 A0 la
        have rb := xor_0 B0 lb
        obtain ⟨X0, hX⟩ : ∃ X, X = A0 ^^^ B0 := ⟨_, rfl⟩
        rw [← hX] at r0 lx
        have rx := and_0 X0 lx
        have HA := Lib.hid hA0
        have HB := Lib.hid hB0
        clear hA0 hB0 hX la lb lx
        go_wp2_with fail
        refine drawn_region 9 (by kernel_rfl) (by kernel_rfl) ?_
        simp only [List.take_succ_cons, List.take_zero, List.drop_succ_cons, List.drop_zero]
        repeat (refine wpStill_step (fun K hK => ?_); go_simp; (try go_bits); refine hK _ ?_; clear hK K)
        refine wpStill_nil ?_
        go_wp2_with fail
        go_roundw
        case rel =>
          have pa' : Bk (wr.setCell ⟨w.heap.size, i, none⟩ (.int .u8 (A0 : Int))) w.heap.size 22 (c8m a a (i + 1)) := by
            rw [← put_c8m a a i hlt, ← HA.out]; exact qa.put i _
          have pb' : Bk ((wr.setCell ⟨w.heap.size, i, none⟩ (.int .u8 (A0 : Int))).setCell ⟨(w.heap.size + 1), i, none⟩ (.int .u8 (B0 : Int))) (w.heap.size + 1) 22 (c8m b b (i + 1)) := by
            rw [← put_c8m b b i hlt, ← HB.out]; exact (qb.off (g' := w.heap.size) (by omega) i _).put i _
          refine ⟨i + 1, by omega, by go_num, ?_, ?_, (q6.off (g' := w.heap.size) (by omega) i (.int .u8 (A0 : Int))).off (g' := (w.heap.size + 1)) (by omega) i (.int .u8 (B0 : Int)), (q7.off (g' := w.heap.size) (by omega) i (.int .u8 (A0 : Int))).off (g' := (w.heap.size + 1)) (by omega) i (.int .u8 (B0 : Int)), ?_⟩
          · exact pa'.off (g' := (w.heap.size + 1)) (by omega) i (.int .u8 (B0 : Int))
          · exact pb'
          · first | exact (bl_put (bl_put L (g := w.heap.size) (i := i) (by omega) (.int .u8 (A0 : Int))) (g := (w.heap.size + 1)) (i := i) (by omega) (.int .u8 (B0 : Int))).drew | exact (bl_put (bl_put L.drew (g := w.heap.size) (i := i) (by omega) (.int .u8 (A0 : Int))) (g := (w.heap.size + 1)) (i := i) (by omega) (.int .u8 (B0 : Int)))
        case measure => simp [intOf]; omega
      · obtain rfl : i = 32 := by omega
        rw [c8m_all] at qa qb
        go_wp2_with fail
        have hS0 : S4 w a b wr.drew := ⟨qa, qb, ⟨_, size_c8p 0 0, q6⟩, ⟨_, size_c8p 0 0, q7⟩, L.drew⟩
        clear qa qb q6 q7 L
        refine held_start (S4 w a b) (by kernel_rfl) hS0 fun hS => ?_
        refine held_row 0 (c8 a) rfl (by kernel_rfl) (by kernel_rfl) (by kernel_rfl) (fun _ _ _ h => h) rfl 22 (.tmp 4) rfl w.heap.size rfl 22 _ (fun _ h => h.1) Tryd.underlying22 rfl (inum_c8 _) hS ?_
        refine held_row 1 (c8 b) rfl (by kernel_rfl) (by kernel_rfl) (by kernel_rfl) (fun _ _ _ h => h) rfl 22 (.tmp 5) rfl (w.heap.size + 1) rfl 22 _ (fun _ h => h.2.1) Tryd.underlying22 rfl (inum_c8 _) hS ?_
        refine held_one 2 (by kernel_rfl) rfl rfl fun K hK => ?_
        refine wp_store_mid 22 (.tmp 6) (.tmp 37) rfl (w.heap.size + 1 + 1) 0 (c8 a) rfl rfl (hS.six _).2.2 (inum_c8 _) (one_c8 _) ?_
        refine hK _ _ (hS.six _).1 ?_
        obtain ⟨hS1, p6, _⟩ := hS.six a
        obtain ⟨wz, hwz⟩ : ∃ wz, wz = wr.drew.setCells (w.heap.size + 1 + 1) 0 (c8 a).toList := ⟨_, rfl⟩
        rw [← hwz] at hS1 p6 ⊢
        clear hK K hS hS0 hwz
        refine held_one 3 (by kernel_rfl) rfl rfl fun K hK => ?_
        refine wp_store_mid 22 (.tmp 7) (.tmp 38) rfl (w.heap.size + 1 + 1 + 1) 0 (c8 b) rfl rfl (hS1.seven _).2.2 (inum_c8 _) (one_c8 _) ?_
        refine hK _ _ (hS1.seven _).1 ?_
        obtain ⟨hS2, p7, _⟩ := hS1.seven b
        have p6' := Bk.offs (show (w.heap.size + 1 + 1) ≠ (w.heap.size + 1 + 1 + 1) by omega) (c8 b).toList wz 0 p6
        obtain ⟨wy, hwy⟩ : ∃ wy, wy = wz.setCells (w.heap.size + 1 + 1 + 1) 0 (c8 b).toList := ⟨_, rfl⟩
        rw [← hwy] at hS2 p7 p6' ⊢
        clear hK K hS1 hwy p6
        refine wpAnyH_done (by kernel_rfl) ?_ _
        (try simp only [Act.put, List.setIfInBounds_toArray, List.set_cons_zero, List.set_cons_succ])
        go_wp2_with fail
        refine bodyPost_ret (results_rows2 rfl _ _ (w.heap.size + 1 + 1) (w.heap.size + 1 + 1 + 1) 22 (c8 a) (c8 b) _ rfl rfl p6' p7 Tryd.underlying22 rfl (inum_c8 _) (inum_c8 _)) rfl ?_
        exact ⟨rfl, hS2.2.2.2.2⟩

  · go_loopw [12] (fun iv wr => ∃ i : Nat, i ≤ 32 ∧ iv = .int .i64 i ∧ Bk wr w.heap.size 22 (c8m b a i) ∧ Bk wr (w.heap.size + 1) 22 (c8m a b i) ∧ Bk wr (w.heap.size + 1 + 1) 22 (c8p 0 0) ∧ Bk wr (w.heap.size + 1 + 1 + 1) 22 (c8p 0 0) ∧ Below w.heap.size w wr) (fun iv _ => 32 - (intOf iv).toNat)
    case atStart =>
      refine ⟨0, by omega, rfl, ?_, ?_, ?_, ?_, ?_⟩
      · rw [c8m_zero]; repeat (first | (refine Bk.at_ _ _ _ _ ?_; simp; done) | refine Bk.drew ?_ | refine Bk.alloc ?_ _)
      · rw [c8m_zero]; repeat (first | (refine Bk.at_ _ _ _ _ ?_; simp; done) | refine Bk.drew ?_ | refine Bk.alloc ?_ _)
      · repeat (first | (refine Bk.at_ _ _ _ _ ?_; simp; done) | refine Bk.drew ?_ | refine Bk.alloc ?_ _)
      · repeat (first | (refine Bk.at_ _ _ _ _ ?_; simp; done) | refine Bk.drew ?_ | refine Bk.alloc ?_ _)
      · repeat (first | exact Below.refl _ _ | assumption | refine Below.drew ?_ | refine bl_alloc ?_ _ | refine bl_drewN ?_ _)
    case round =>
      obtain ⟨i, hi, rfl, qa, qb, q6, q7, L⟩ := hrel
      by_cases hlt : i < 32
      · obtain ⟨A0, hA0⟩ : ∃ A0, A0 = a / 256 ^ i % 256 := ⟨_, rfl⟩
        obtain ⟨B0, hB0⟩ : ∃ B0, B0 = b / 256 ^ i % 256 := ⟨_, rfl⟩
        have la : A0 < 256 := by rw [hA0]; exact Nat.mod_lt _ (by omega)
        have lb : B0 < 256 := by rw [hB0]; exact Nat.mod_lt _ (by omega)
        have ca : wr.cell? ⟨w.heap.size, i, none⟩ = some (.int .u8 (A0 : Int)) := (qa.cell i).trans ((get_c8m b a i i hlt).trans (by rw [if_neg (Nat.lt_irrefl i), hA0]))
        have cb : wr.cell? ⟨(w.heap.size + 1), i, none⟩ = some (.int .u8 (B0 : Int)) := (qb.cell i).trans ((get_c8m a b i i hlt).trans (by rw [if_neg (Nat.lt_irrefl i), hB0]))
        have fa : ∀ j, wr.frozen? ⟨w.heap.size, j, none⟩ = false := qa.frozen
        have fb : ∀ j, wr.frozen? ⟨(w.heap.size + 1), j, none⟩ = false := qb.frozen
        have r0 := u8_x A0 B0 la lb
        have lx := xor_lt A0 B0 la lb
        have ra : bits .xor .u8 (A0 : Int) ((A0 ^^^ B0 : Nat) : Int) = (B0 : Int) := by rw [u8_x _ _ la lx, ← Nat.xor_assoc, Nat.xor_self, Nat.zero_xor]
        have rb : bits .xor .u8 (B0 : Int) ((A0 ^^^ B0 : Nat) : Int) = (A0 : Int) := by rw [u8_x _ _ lb lx, Nat.xor_comm A0, ← Nat.xor_assoc, Nat.xor_self, Nat.zero_xor]
        obtain ⟨X0, hX⟩ : ∃ X, X = A0 ^^^ B0 := ⟨_, rfl⟩
        rw [← hX] at r0 lx ra rb
        have rx := and_255 X0 lx
        have HA := Lib.hid hA0
        have HB := Lib.hid hB0
        clear hA0 hB0 hX la lb lx
        go_wp2_with fail
        refine drawn_region 9 (by kernel_rfl) (by kernel_rfl) ?_
        simp only [List.take_succ_cons, List.take_zero, List.drop_succ_cons, List.drop_zero]
        repeat (refine wpStill_step (fun K hK => ?_); go_simp; (try go_bits); refine hK _ ?_; clear hK K)
        refine wpStill_nil ?_
        go_wp2_with fail
        go_roundw
        case rel =>
          have pa' : Bk (wr.setCell ⟨w.heap.size, i, none⟩ (.int .u8 (B0 : Int))) w.heap.size 22 (c8m b a (i + 1)) := by
            rw [← put_c8m b a i hlt, ← HB.out]; exact qa.put i _
          have pb' : Bk ((wr.setCell ⟨w.heap.size, i, none⟩ (.int .u8 (B0 : Int))).setCell ⟨(w.heap.size + 1), i, none⟩ (.int .u8 (A0 : Int))) (w.heap.size + 1) 22 (c8m a b (i + 1)) := by
            rw [← put_c8m a b i hlt, ← HA.out]; exact (qb.off (g' := w.heap.size) (by omega) i _).put i _
          refine ⟨i + 1, by omega, by go_num, ?_, ?_, (q6.off (g' := w.heap.size) (by omega) i (.int .u8 (B0 : Int))).off (g' := (w.heap.size + 1)) (by omega) i (.int .u8 (A0 : Int)), (q7.off (g' := w.heap.size) (by omega) i (.int .u8 (B0 : Int))).off (g' := (w.heap.size + 1)) (by omega) i (.int .u8 (A0 : Int)), ?_⟩
          · exact pa'.off (g' := (w.heap.size + 1)) (by omega) i (.int .u8 (A0 : Int))
          · exact pb'
          · first | exact (bl_put (bl_put L (g := w.heap.size) (i := i) (by omega) (.int .u8 (B0 : Int))) (g := (w.heap.size + 1)) (i := i) (by omega) (.int .u8 (A0 : Int))).drew | exact (bl_put (bl_put L.drew (g := w.heap.size) (i := i) (by omega) (.int .u8 (B0 : Int))) (g := (w.heap.size + 1)) (i := i) (by omega) (.int .u8 (A0 : Int)))
        case measure => simp [intOf]; omega
      · obtain rfl : i = 32 := by omega
        rw [c8m_all] at qa qb
        go_wp2_with fail
        have hS0 : S4 w b a wr.drew := ⟨qa, qb, ⟨_, size_c8p 0 0, q6⟩, ⟨_, size_c8p 0 0, q7⟩, L.drew⟩
        clear qa qb q6 q7 L
        refine held_start (S4 w b a) (by kernel_rfl) hS0 fun hS => ?_
        refine held_row 0 (c8 b) rfl (by kernel_rfl) (by kernel_rfl) (by kernel_rfl) (fun _ _ _ h => h) rfl 22 (.tmp 4) rfl w.heap.size rfl 22 _ (fun _ h => h.1) Tryd.underlying22 rfl (inum_c8 _) hS ?_
        refine held_row 1 (c8 a) rfl (by kernel_rfl) (by kernel_rfl) (by kernel_rfl) (fun _ _ _ h => h) rfl 22 (.tmp 5) rfl (w.heap.size + 1) rfl 22 _ (fun _ h => h.2.1) Tryd.underlying22 rfl (inum_c8 _) hS ?_
        refine held_one 2 (by kernel_rfl) rfl rfl fun K hK => ?_
        refine wp_store_mid 22 (.tmp 6) (.tmp 37) rfl (w.heap.size + 1 + 1) 0 (c8 b) rfl rfl (hS.six _).2.2 (inum_c8 _) (one_c8 _) ?_
        refine hK _ _ (hS.six _).1 ?_
        obtain ⟨hS1, p6, _⟩ := hS.six b
        obtain ⟨wz, hwz⟩ : ∃ wz, wz = wr.drew.setCells (w.heap.size + 1 + 1) 0 (c8 b).toList := ⟨_, rfl⟩
        rw [← hwz] at hS1 p6 ⊢
        clear hK K hS hS0 hwz
        refine held_one 3 (by kernel_rfl) rfl rfl fun K hK => ?_
        refine wp_store_mid 22 (.tmp 7) (.tmp 38) rfl (w.heap.size + 1 + 1 + 1) 0 (c8 a) rfl rfl (hS1.seven _).2.2 (inum_c8 _) (one_c8 _) ?_
        refine hK _ _ (hS1.seven _).1 ?_
        obtain ⟨hS2, p7, _⟩ := hS1.seven a
        have p6' := Bk.offs (show (w.heap.size + 1 + 1) ≠ (w.heap.size + 1 + 1 + 1) by omega) (c8 a).toList wz 0 p6
        obtain ⟨wy, hwy⟩ : ∃ wy, wy = wz.setCells (w.heap.size + 1 + 1 + 1) 0 (c8 a).toList := ⟨_, rfl⟩
        rw [← hwy] at hS2 p7 p6' ⊢
        clear hK K hS1 hwy p6
        refine wpAnyH_done (by kernel_rfl) ?_ _
        (try simp only [Act.put, List.setIfInBounds_toArray, List.set_cons_zero, List.set_cons_succ])
        go_wp2_with fail
        refine bodyPost_ret (results_rows2 rfl _ _ (w.heap.size + 1 + 1) (w.heap.size + 1 + 1 + 1) 22 (c8 b) (c8 a) _ rfl rfl p6' p7 Tryd.underlying22 rfl (inum_c8 _) (inum_c8 _)) rfl ?_
        exact ⟨rfl, hS2.2.2.2.2⟩
end Go.Proofs.YtkmgdpbmkbpkjaaDoor
