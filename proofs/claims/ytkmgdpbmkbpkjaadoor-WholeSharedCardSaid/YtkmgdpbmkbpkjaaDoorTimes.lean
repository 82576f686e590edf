/-
  limb's element.times: the product of two numbers of five limbs, modulo 2^255 - 19: the walk.
-/
import Derived.Test.YtkmgdpbmkbpkjaaDoorGNum
set_option linter.unusedVariables false
set_option linter.unusedSimpArgs false
namespace Go.Proofs.YtkmgdpbmkbpkjaaDoor
open Go.RowKit

/-- What is gathered at a limb. -/
def Sm0 (E0 E1 E2 E3 E4 F0 F1 F2 F3 F4 : Nat) : Nat := 0 + E0 * F0 + E1 * (19 * F4) + E2 * (19 * F3) + E3 * (19 * F2) + E4 * (19 * F1)
def Sm1 (E0 E1 E2 E3 E4 F0 F1 F2 F3 F4 : Nat) : Nat := 0 + E0 * F1 + E1 * F0 + E2 * (19 * F4) + E3 * (19 * F3) + E4 * (19 * F2)
def Sm2 (E0 E1 E2 E3 E4 F0 F1 F2 F3 F4 : Nat) : Nat := 0 + E0 * F2 + E1 * F1 + E2 * F0 + E3 * (19 * F4) + E4 * (19 * F3)
def Sm3 (E0 E1 E2 E3 E4 F0 F1 F2 F3 F4 : Nat) : Nat := 0 + E0 * F3 + E1 * F2 + E2 * F1 + E3 * F0 + E4 * (19 * F4)
def Sm4 (E0 E1 E2 E3 E4 F0 F1 F2 F3 F4 : Nat) : Nat := 0 + E0 * F4 + E1 * F3 + E2 * F2 + E3 * F1 + E4 * F0
def Vars (x : Int) (n : Nat) : Prop := x = (n : Int) ∧ n < 4503599627370496
theorem Vars.p19 {x : Int} {n : Nat} (h : Lm x n) : Lp (IntKind.u64.wrap (x * 19)) (19 * n) := by
  obtain ⟨rfl, h⟩ := h
  have e : ((n : Int) * 19) = ((19 * n : Nat) : Int) := by omega
  exact ⟨by rw [e, wrap_id _ (by omega)], by omega⟩
theorem Lm.lp {x : Int} {n : Nat} (h : Lm x n) : Lp x n := ⟨h.1, by have := h.2; omega⟩

set_option maxRecDepth 100000 in
set_option maxHeartbeats 16000000 in
theorem times_raw (e0 e1 e2 e3 e4 f0 f1 f2 f3 f4 : Int) (E0 E1 E2 E3 E4 F0 F1 F2 F3 F4 : Nat) (w : World)
    (he0 : Lm e0 E0) (he1 : Lm e1 E1) (he2 : Lm e2 E2) (he3 : Lm e3 E3) (he4 : Lm e4 E4) (hf0 : Lm f0 F0) (hf1 : Lm f1 F1) (hf2 : Lm f2 F2) (hf3 : Lm f3 F3) (hf4 : Lm f4 F4) :
    Calls Tryd.prog 55 #[.agg #[.int .u64 e0, .int .u64 e1, .int .u64 e2, .int .u64 e3, .int .u64 e4], .agg #[.int .u64 f0, .int .u64 f1, .int .u64 f2, .int .u64 f3, .int .u64 f4]] w fun e w' =>
      ∃ z0 z1 z2 z3 z4 r0 r1 r2 r3 r4 : Nat, Hid (∃ S0 S1 S2 S3 S4 c1 c2 c3 c4 c5 : Nat,
        (S0 = Sm0 E0 E1 E2 E3 E4 F0 F1 F2 F3 F4 ∧ S1 = Sm1 E0 E1 E2 E3 E4 F0 F1 F2 F3 F4 ∧ S2 = Sm2 E0 E1 E2 E3 E4 F0 F1 F2 F3 F4 ∧ S3 = Sm3 E0 E1 E2 E3 E4 F0 F1 F2 F3 F4 ∧ S4 = Sm4 E0 E1 E2 E3 E4 F0 F1 F2 F3 F4) ∧
        (c1 = S0 / 2251799813685248 ∧ c2 = (S1 + c1) / 2251799813685248 ∧ c3 = (S2 + c2) / 2251799813685248 ∧ c4 = (S3 + c3) / 2251799813685248 ∧ c5 = (S4 + c4) / 2251799813685248) ∧ c5 < 9223372036854775808 ∧
        z0 = (c5 * 19 + S0 % 2251799813685248) % 2251799813685248 ∧ z1 = (S1 + c1) % 2251799813685248 + (c5 * 19 + S0 % 2251799813685248) / 2251799813685248 ∧
        z2 = (S2 + c2) % 2251799813685248 ∧ z3 = (S3 + c3) % 2251799813685248 ∧ z4 = (S4 + c4) % 2251799813685248) ∧
      Hid (Car z0 z1 z2 z3 z4 r0 r1 r2 r3 r4) ∧ e = .returned (.agg (c5 r0 r1 r2 r3 r4)) ∧ Below w.heap.size w w' := by
  have ie0 : ∀ w, (Instr.index 70 (.agg #[.int .u64 e0, .int .u64 e1, .int .u64 e2, .int .u64 e3, .int .u64 e4]) (.int .i64 0)).run Tryd.prog w = .ok (.int .u64 e0) w := fun _ => by kernel_rfl
  have ie1 : ∀ w, (Instr.index 70 (.agg #[.int .u64 e0, .int .u64 e1, .int .u64 e2, .int .u64 e3, .int .u64 e4]) (.int .i64 1)).run Tryd.prog w = .ok (.int .u64 e1) w := fun _ => by kernel_rfl
  have ie2 : ∀ w, (Instr.index 70 (.agg #[.int .u64 e0, .int .u64 e1, .int .u64 e2, .int .u64 e3, .int .u64 e4]) (.int .i64 2)).run Tryd.prog w = .ok (.int .u64 e2) w := fun _ => by kernel_rfl
  have ie3 : ∀ w, (Instr.index 70 (.agg #[.int .u64 e0, .int .u64 e1, .int .u64 e2, .int .u64 e3, .int .u64 e4]) (.int .i64 3)).run Tryd.prog w = .ok (.int .u64 e3) w := fun _ => by kernel_rfl
  have ie4 : ∀ w, (Instr.index 70 (.agg #[.int .u64 e0, .int .u64 e1, .int .u64 e2, .int .u64 e3, .int .u64 e4]) (.int .i64 4)).run Tryd.prog w = .ok (.int .u64 e4) w := fun _ => by kernel_rfl
  have if0 : ∀ w, (Instr.index 70 (.agg #[.int .u64 f0, .int .u64 f1, .int .u64 f2, .int .u64 f3, .int .u64 f4]) (.int .i64 0)).run Tryd.prog w = .ok (.int .u64 f0) w := fun _ => by kernel_rfl
  have if1 : ∀ w, (Instr.index 70 (.agg #[.int .u64 f0, .int .u64 f1, .int .u64 f2, .int .u64 f3, .int .u64 f4]) (.int .i64 1)).run Tryd.prog w = .ok (.int .u64 f1) w := fun _ => by kernel_rfl
  have if2 : ∀ w, (Instr.index 70 (.agg #[.int .u64 f0, .int .u64 f1, .int .u64 f2, .int .u64 f3, .int .u64 f4]) (.int .i64 2)).run Tryd.prog w = .ok (.int .u64 f2) w := fun _ => by kernel_rfl
  have if3 : ∀ w, (Instr.index 70 (.agg #[.int .u64 f0, .int .u64 f1, .int .u64 f2, .int .u64 f3, .int .u64 f4]) (.int .i64 3)).run Tryd.prog w = .ok (.int .u64 f3) w := fun _ => by kernel_rfl
  have if4 : ∀ w, (Instr.index 70 (.agg #[.int .u64 f0, .int .u64 f1, .int .u64 f2, .int .u64 f3, .int .u64 f4]) (.int .i64 4)).run Tryd.prog w = .ok (.int .u64 f4) w := fun _ => by kernel_rfl
  go_enter Tryd.func55, Tryd.ntmps55
  go_wp2
  refine wp_loop_rounds 6 ?_
  rw [rounds_succ]
  go_wp2
  refine wp_loop_rounds 6 ?_
  rw [rounds_succ]
  go_wp2_with fail
  refine (more_v (k := 0) Ac.zero (by omega) he0 (Lm.lp hf0) _).mono ?_
  rintro e wa1 ⟨h1, l1, rfl, hA1, hb1⟩
  have q5_1 : Bk wa1 (w.heap.size + 1 + 1 + 1) 113 #[.int .u64 0, .int .u64 0, .int .u64 0, .int .u64 0, .int .u64 0, .int .u64 0, .int .u64 0, .int .u64 0, .int .u64 0, .int .u64 0] := Bk.under (by repeat (first | (refine Bk.at_ _ _ _ _ ?_; simp; done) | refine Bk.alloc ?_ _)) hb1
  have q4_1 : Bk wa1 (w.heap.size + 1 + 1) 70 #[.int .u64 0, .int .u64 0, .int .u64 0, .int .u64 0, .int .u64 0] := Bk.under (by repeat (first | (refine Bk.at_ _ _ _ _ ?_; simp; done) | refine Bk.alloc ?_ _)) hb1
  have q3_1 : Bk wa1 (w.heap.size + 1) 70 #[.int .u64 f0, .int .u64 f1, .int .u64 f2, .int .u64 f3, .int .u64 f4] := Bk.under (by repeat (first | (refine Bk.at_ _ _ _ _ ?_; simp; done) | refine Bk.alloc ?_ _)) hb1
  have L1 := bl_call (bl_alloc (bl_alloc (bl_alloc (bl_alloc (Below.refl w.heap.size w) _) _) _) _) hb1
  clear hb1
  have fz1 : ∀ i, wa1.frozen? ⟨(w.heap.size + 1 + 1 + 1), i, none⟩ = false := q5_1.frozen
  have c1_0 : wa1.cell? ⟨(w.heap.size + 1 + 1 + 1), 0, none⟩ = some (.int .u64 0) := q5_1.cell 0
  have c1_1 : wa1.cell? ⟨(w.heap.size + 1 + 1 + 1), 1, none⟩ = some (.int .u64 0) := q5_1.cell 1
  have c1_2 : wa1.cell? ⟨(w.heap.size + 1 + 1 + 1), 2, none⟩ = some (.int .u64 0) := q5_1.cell 2
  have c1_3 : wa1.cell? ⟨(w.heap.size + 1 + 1 + 1), 3, none⟩ = some (.int .u64 0) := q5_1.cell 3
  go_wp2_with fail
  rw [rounds_succ]
  go_wp2_with fail
  refine (more_v (k := 0) Ac.zero (by omega) he0 (Lm.lp hf1) _).mono ?_
  rintro e wa2 ⟨h2, l2, rfl, hA2, hb2⟩
  have q5_2 : Bk wa2 (w.heap.size + 1 + 1 + 1) 113 #[.int .u64 h1, .int .u64 l1, .int .u64 0, .int .u64 0, .int .u64 0, .int .u64 0, .int .u64 0, .int .u64 0, .int .u64 0, .int .u64 0] := Bk.under (Bk.put (Bk.put q5_1 0 (.int .u64 h1)) 1 (.int .u64 l1)) hb2
  have q4_2 := Bk.under (Bk.off (Bk.off q4_1 (g' := (w.heap.size + 1 + 1 + 1)) (by omega) 0 (.int .u64 h1)) (g' := (w.heap.size + 1 + 1 + 1)) (by omega) 1 (.int .u64 l1)) hb2
  have q3_2 := Bk.under (Bk.off (Bk.off q3_1 (g' := (w.heap.size + 1 + 1 + 1)) (by omega) 0 (.int .u64 h1)) (g' := (w.heap.size + 1 + 1 + 1)) (by omega) 1 (.int .u64 l1)) hb2
  have L2 := bl_call (bl_put (bl_put L1 (g := (w.heap.size + 1 + 1 + 1)) (i := 0) (by omega) (.int .u64 h1)) (g := (w.heap.size + 1 + 1 + 1)) (i := 1) (by omega) (.int .u64 l1)) hb2
  clear q5_1 q4_1 q3_1 L1 hb2 fz1
  clear c1_0
  clear c1_1
  clear c1_2
  clear c1_3
  have fz2 : ∀ i, wa2.frozen? ⟨(w.heap.size + 1 + 1 + 1), i, none⟩ = false := q5_2.frozen
  have c2_2 : wa2.cell? ⟨(w.heap.size + 1 + 1 + 1), 2, none⟩ = some (.int .u64 0) := q5_2.cell 2
  have c2_3 : wa2.cell? ⟨(w.heap.size + 1 + 1 + 1), 3, none⟩ = some (.int .u64 0) := q5_2.cell 3
  have c2_4 : wa2.cell? ⟨(w.heap.size + 1 + 1 + 1), 4, none⟩ = some (.int .u64 0) := q5_2.cell 4
  have c2_5 : wa2.cell? ⟨(w.heap.size + 1 + 1 + 1), 5, none⟩ = some (.int .u64 0) := q5_2.cell 5
  go_wp2_with fail
  rw [rounds_succ]
  go_wp2_with fail
  refine (more_v (k := 0) Ac.zero (by omega) he0 (Lm.lp hf2) _).mono ?_
  rintro e wa3 ⟨h3, l3, rfl, hA3, hb3⟩
  have q5_3 : Bk wa3 (w.heap.size + 1 + 1 + 1) 113 #[.int .u64 h1, .int .u64 l1, .int .u64 h2, .int .u64 l2, .int .u64 0, .int .u64 0, .int .u64 0, .int .u64 0, .int .u64 0, .int .u64 0] := Bk.under (Bk.put (Bk.put q5_2 2 (.int .u64 h2)) 3 (.int .u64 l2)) hb3
  have q4_3 := Bk.under (Bk.off (Bk.off q4_2 (g' := (w.heap.size + 1 + 1 + 1)) (by omega) 2 (.int .u64 h2)) (g' := (w.heap.size + 1 + 1 + 1)) (by omega) 3 (.int .u64 l2)) hb3
  have q3_3 := Bk.under (Bk.off (Bk.off q3_2 (g' := (w.heap.size + 1 + 1 + 1)) (by omega) 2 (.int .u64 h2)) (g' := (w.heap.size + 1 + 1 + 1)) (by omega) 3 (.int .u64 l2)) hb3
  have L3 := bl_call (bl_put (bl_put L2 (g := (w.heap.size + 1 + 1 + 1)) (i := 2) (by omega) (.int .u64 h2)) (g := (w.heap.size + 1 + 1 + 1)) (i := 3) (by omega) (.int .u64 l2)) hb3
  clear q5_2 q4_2 q3_2 L2 hb3 fz2
  clear c2_2
  clear c2_3
  clear c2_4
  clear c2_5
  have fz3 : ∀ i, wa3.frozen? ⟨(w.heap.size + 1 + 1 + 1), i, none⟩ = false := q5_3.frozen
  have c3_4 : wa3.cell? ⟨(w.heap.size + 1 + 1 + 1), 4, none⟩ = some (.int .u64 0) := q5_3.cell 4
  have c3_5 : wa3.cell? ⟨(w.heap.size + 1 + 1 + 1), 5, none⟩ = some (.int .u64 0) := q5_3.cell 5
  have c3_6 : wa3.cell? ⟨(w.heap.size + 1 + 1 + 1), 6, none⟩ = some (.int .u64 0) := q5_3.cell 6
  have c3_7 : wa3.cell? ⟨(w.heap.size + 1 + 1 + 1), 7, none⟩ = some (.int .u64 0) := q5_3.cell 7
  go_wp2_with fail
  rw [rounds_succ]
  go_wp2_with fail
  refine (more_v (k := 0) Ac.zero (by omega) he0 (Lm.lp hf3) _).mono ?_
  rintro e wa4 ⟨h4, l4, rfl, hA4, hb4⟩
  have q5_4 : Bk wa4 (w.heap.size + 1 + 1 + 1) 113 #[.int .u64 h1, .int .u64 l1, .int .u64 h2, .int .u64 l2, .int .u64 h3, .int .u64 l3, .int .u64 0, .int .u64 0, .int .u64 0, .int .u64 0] := Bk.under (Bk.put (Bk.put q5_3 4 (.int .u64 h3)) 5 (.int .u64 l3)) hb4
  have q4_4 := Bk.under (Bk.off (Bk.off q4_3 (g' := (w.heap.size + 1 + 1 + 1)) (by omega) 4 (.int .u64 h3)) (g' := (w.heap.size + 1 + 1 + 1)) (by omega) 5 (.int .u64 l3)) hb4
  have q3_4 := Bk.under (Bk.off (Bk.off q3_3 (g' := (w.heap.size + 1 + 1 + 1)) (by omega) 4 (.int .u64 h3)) (g' := (w.heap.size + 1 + 1 + 1)) (by omega) 5 (.int .u64 l3)) hb4
  have L4 := bl_call (bl_put (bl_put L3 (g := (w.heap.size + 1 + 1 + 1)) (i := 4) (by omega) (.int .u64 h3)) (g := (w.heap.size + 1 + 1 + 1)) (i := 5) (by omega) (.int .u64 l3)) hb4
  clear q5_3 q4_3 q3_3 L3 hb4 fz3
  clear c3_4
  clear c3_5
  clear c3_6
  clear c3_7
  have fz4 : ∀ i, wa4.frozen? ⟨(w.heap.size + 1 + 1 + 1), i, none⟩ = false := q5_4.frozen
  have c4_6 : wa4.cell? ⟨(w.heap.size + 1 + 1 + 1), 6, none⟩ = some (.int .u64 0) := q5_4.cell 6
  have c4_7 : wa4.cell? ⟨(w.heap.size + 1 + 1 + 1), 7, none⟩ = some (.int .u64 0) := q5_4.cell 7
  have c4_8 : wa4.cell? ⟨(w.heap.size + 1 + 1 + 1), 8, none⟩ = some (.int .u64 0) := q5_4.cell 8
  have c4_9 : wa4.cell? ⟨(w.heap.size + 1 + 1 + 1), 9, none⟩ = some (.int .u64 0) := q5_4.cell 9
  go_wp2_with fail
  rw [rounds_succ]
  go_wp2_with fail
  refine (more_v (k := 0) Ac.zero (by omega) he0 (Lm.lp hf4) _).mono ?_
  rintro e wa5 ⟨h5, l5, rfl, hA5, hb5⟩
  have q5_5 : Bk wa5 (w.heap.size + 1 + 1 + 1) 113 #[.int .u64 h1, .int .u64 l1, .int .u64 h2, .int .u64 l2, .int .u64 h3, .int .u64 l3, .int .u64 h4, .int .u64 l4, .int .u64 0, .int .u64 0] := Bk.under (Bk.put (Bk.put q5_4 6 (.int .u64 h4)) 7 (.int .u64 l4)) hb5
  have q4_5 := Bk.under (Bk.off (Bk.off q4_4 (g' := (w.heap.size + 1 + 1 + 1)) (by omega) 6 (.int .u64 h4)) (g' := (w.heap.size + 1 + 1 + 1)) (by omega) 7 (.int .u64 l4)) hb5
  have q3_5 := Bk.under (Bk.off (Bk.off q3_4 (g' := (w.heap.size + 1 + 1 + 1)) (by omega) 6 (.int .u64 h4)) (g' := (w.heap.size + 1 + 1 + 1)) (by omega) 7 (.int .u64 l4)) hb5
  have L5 := bl_call (bl_put (bl_put L4 (g := (w.heap.size + 1 + 1 + 1)) (i := 6) (by omega) (.int .u64 h4)) (g := (w.heap.size + 1 + 1 + 1)) (i := 7) (by omega) (.int .u64 l4)) hb5
  clear q5_4 q4_4 q3_4 L4 hb5 fz4
  clear c4_6
  clear c4_7
  clear c4_8
  clear c4_9
  have fz5 : ∀ i, wa5.frozen? ⟨(w.heap.size + 1 + 1 + 1), i, none⟩ = false := q5_5.frozen
  have c5_2 : wa5.cell? ⟨(w.heap.size + 1 + 1 + 1), 2, none⟩ = some (.int .u64 h2) := q5_5.cell 2
  have c5_3 : wa5.cell? ⟨(w.heap.size + 1 + 1 + 1), 3, none⟩ = some (.int .u64 l2) := q5_5.cell 3
  have c5_8 : wa5.cell? ⟨(w.heap.size + 1 + 1 + 1), 8, none⟩ = some (.int .u64 0) := q5_5.cell 8
  have c5_9 : wa5.cell? ⟨(w.heap.size + 1 + 1 + 1), 9, none⟩ = some (.int .u64 0) := q5_5.cell 9
  have d5_0 : wa5.cell? ⟨(w.heap.size + 1), 0, none⟩ = some (.int .u64 f0) := q3_5.cell 0
  have d5_1 : wa5.cell? ⟨(w.heap.size + 1), 1, none⟩ = some (.int .u64 f1) := q3_5.cell 1
  have d5_2 : wa5.cell? ⟨(w.heap.size + 1), 2, none⟩ = some (.int .u64 f2) := q3_5.cell 2
  have d5_3 : wa5.cell? ⟨(w.heap.size + 1), 3, none⟩ = some (.int .u64 f3) := q3_5.cell 3
  have d5_4 : wa5.cell? ⟨(w.heap.size + 1), 4, none⟩ = some (.int .u64 f4) := q3_5.cell 4
  go_wp2_with fail
  rw [rounds_succ]
  go_wp2_with fail
  rw [rounds_succ]
  go_wp2_with fail
  refine wp_loop_rounds 6 ?_
  rw [rounds_succ]
  go_wp2_with fail
  refine (more_v (k := 1) hA2 (by omega) he1 (Lm.lp hf0) _).mono ?_
  rintro e wa6 ⟨h6, l6, rfl, hA6, hb6⟩
  have q5_6 : Bk wa6 (w.heap.size + 1 + 1 + 1) 113 #[.int .u64 h1, .int .u64 l1, .int .u64 h2, .int .u64 l2, .int .u64 h3, .int .u64 l3, .int .u64 h4, .int .u64 l4, .int .u64 h5, .int .u64 l5] := Bk.under (Bk.put (Bk.put q5_5 8 (.int .u64 h5)) 9 (.int .u64 l5)) hb6
  have q4_6 := Bk.under (Bk.off (Bk.off q4_5 (g' := (w.heap.size + 1 + 1 + 1)) (by omega) 8 (.int .u64 h5)) (g' := (w.heap.size + 1 + 1 + 1)) (by omega) 9 (.int .u64 l5)) hb6
  have q3_6 := Bk.under (Bk.off (Bk.off q3_5 (g' := (w.heap.size + 1 + 1 + 1)) (by omega) 8 (.int .u64 h5)) (g' := (w.heap.size + 1 + 1 + 1)) (by omega) 9 (.int .u64 l5)) hb6
  have L6 := bl_call (bl_put (bl_put L5 (g := (w.heap.size + 1 + 1 + 1)) (i := 8) (by omega) (.int .u64 h5)) (g := (w.heap.size + 1 + 1 + 1)) (i := 9) (by omega) (.int .u64 l5)) hb6
  clear q5_5 q4_5 q3_5 L5 hb6 fz5
  clear c5_2
  clear c5_3
  clear c5_8
  clear c5_9
  clear d5_0
  clear d5_1
  clear d5_2
  clear d5_3
  clear d5_4
  have fz6 : ∀ i, wa6.frozen? ⟨(w.heap.size + 1 + 1 + 1), i, none⟩ = false := q5_6.frozen
  have c6_2 : wa6.cell? ⟨(w.heap.size + 1 + 1 + 1), 2, none⟩ = some (.int .u64 h2) := q5_6.cell 2
  have c6_3 : wa6.cell? ⟨(w.heap.size + 1 + 1 + 1), 3, none⟩ = some (.int .u64 l2) := q5_6.cell 3
  have c6_4 : wa6.cell? ⟨(w.heap.size + 1 + 1 + 1), 4, none⟩ = some (.int .u64 h3) := q5_6.cell 4
  have c6_5 : wa6.cell? ⟨(w.heap.size + 1 + 1 + 1), 5, none⟩ = some (.int .u64 l3) := q5_6.cell 5
  go_wp2_with fail
  rw [rounds_succ]
  go_wp2_with fail
  refine (more_v (k := 1) hA3 (by omega) he1 (Lm.lp hf1) _).mono ?_
  rintro e wa7 ⟨h7, l7, rfl, hA7, hb7⟩
  have q5_7 : Bk wa7 (w.heap.size + 1 + 1 + 1) 113 #[.int .u64 h1, .int .u64 l1, .int .u64 h6, .int .u64 l6, .int .u64 h3, .int .u64 l3, .int .u64 h4, .int .u64 l4, .int .u64 h5, .int .u64 l5] := Bk.under (Bk.put (Bk.put q5_6 2 (.int .u64 h6)) 3 (.int .u64 l6)) hb7
  have q4_7 := Bk.under (Bk.off (Bk.off q4_6 (g' := (w.heap.size + 1 + 1 + 1)) (by omega) 2 (.int .u64 h6)) (g' := (w.heap.size + 1 + 1 + 1)) (by omega) 3 (.int .u64 l6)) hb7
  have q3_7 := Bk.under (Bk.off (Bk.off q3_6 (g' := (w.heap.size + 1 + 1 + 1)) (by omega) 2 (.int .u64 h6)) (g' := (w.heap.size + 1 + 1 + 1)) (by omega) 3 (.int .u64 l6)) hb7
  have L7 := bl_call (bl_put (bl_put L6 (g := (w.heap.size + 1 + 1 + 1)) (i := 2) (by omega) (.int .u64 h6)) (g := (w.heap.size + 1 + 1 + 1)) (i := 3) (by omega) (.int .u64 l6)) hb7
  clear q5_6 q4_6 q3_6 L6 hb7 fz6
  clear c6_2
  clear c6_3
  clear c6_4
  clear c6_5
  have fz7 : ∀ i, wa7.frozen? ⟨(w.heap.size + 1 + 1 + 1), i, none⟩ = false := q5_7.frozen
  have c7_4 : wa7.cell? ⟨(w.heap.size + 1 + 1 + 1), 4, none⟩ = some (.int .u64 h3) := q5_7.cell 4
  have c7_5 : wa7.cell? ⟨(w.heap.size + 1 + 1 + 1), 5, none⟩ = some (.int .u64 l3) := q5_7.cell 5
  have c7_6 : wa7.cell? ⟨(w.heap.size + 1 + 1 + 1), 6, none⟩ = some (.int .u64 h4) := q5_7.cell 6
  have c7_7 : wa7.cell? ⟨(w.heap.size + 1 + 1 + 1), 7, none⟩ = some (.int .u64 l4) := q5_7.cell 7
  go_wp2_with fail
  rw [rounds_succ]
  go_wp2_with fail
  refine (more_v (k := 1) hA4 (by omega) he1 (Lm.lp hf2) _).mono ?_
  rintro e wa8 ⟨h8, l8, rfl, hA8, hb8⟩
  have q5_8 : Bk wa8 (w.heap.size + 1 + 1 + 1) 113 #[.int .u64 h1, .int .u64 l1, .int .u64 h6, .int .u64 l6, .int .u64 h7, .int .u64 l7, .int .u64 h4, .int .u64 l4, .int .u64 h5, .int .u64 l5] := Bk.under (Bk.put (Bk.put q5_7 4 (.int .u64 h7)) 5 (.int .u64 l7)) hb8
  have q4_8 := Bk.under (Bk.off (Bk.off q4_7 (g' := (w.heap.size + 1 + 1 + 1)) (by omega) 4 (.int .u64 h7)) (g' := (w.heap.size + 1 + 1 + 1)) (by omega) 5 (.int .u64 l7)) hb8
  have q3_8 := Bk.under (Bk.off (Bk.off q3_7 (g' := (w.heap.size + 1 + 1 + 1)) (by omega) 4 (.int .u64 h7)) (g' := (w.heap.size + 1 + 1 + 1)) (by omega) 5 (.int .u64 l7)) hb8
  have L8 := bl_call (bl_put (bl_put L7 (g := (w.heap.size + 1 + 1 + 1)) (i := 4) (by omega) (.int .u64 h7)) (g := (w.heap.size + 1 + 1 + 1)) (i := 5) (by omega) (.int .u64 l7)) hb8
  clear q5_7 q4_7 q3_7 L7 hb8 fz7
  clear c7_4
  clear c7_5
  clear c7_6
  clear c7_7
  have fz8 : ∀ i, wa8.frozen? ⟨(w.heap.size + 1 + 1 + 1), i, none⟩ = false := q5_8.frozen
  have c8_6 : wa8.cell? ⟨(w.heap.size + 1 + 1 + 1), 6, none⟩ = some (.int .u64 h4) := q5_8.cell 6
  have c8_7 : wa8.cell? ⟨(w.heap.size + 1 + 1 + 1), 7, none⟩ = some (.int .u64 l4) := q5_8.cell 7
  have c8_8 : wa8.cell? ⟨(w.heap.size + 1 + 1 + 1), 8, none⟩ = some (.int .u64 h5) := q5_8.cell 8
  have c8_9 : wa8.cell? ⟨(w.heap.size + 1 + 1 + 1), 9, none⟩ = some (.int .u64 l5) := q5_8.cell 9
  go_wp2_with fail
  rw [rounds_succ]
  go_wp2_with fail
  refine (more_v (k := 1) hA5 (by omega) he1 (Lm.lp hf3) _).mono ?_
  rintro e wa9 ⟨h9, l9, rfl, hA9, hb9⟩
  have q5_9 : Bk wa9 (w.heap.size + 1 + 1 + 1) 113 #[.int .u64 h1, .int .u64 l1, .int .u64 h6, .int .u64 l6, .int .u64 h7, .int .u64 l7, .int .u64 h8, .int .u64 l8, .int .u64 h5, .int .u64 l5] := Bk.under (Bk.put (Bk.put q5_8 6 (.int .u64 h8)) 7 (.int .u64 l8)) hb9
  have q4_9 := Bk.under (Bk.off (Bk.off q4_8 (g' := (w.heap.size + 1 + 1 + 1)) (by omega) 6 (.int .u64 h8)) (g' := (w.heap.size + 1 + 1 + 1)) (by omega) 7 (.int .u64 l8)) hb9
  have q3_9 := Bk.under (Bk.off (Bk.off q3_8 (g' := (w.heap.size + 1 + 1 + 1)) (by omega) 6 (.int .u64 h8)) (g' := (w.heap.size + 1 + 1 + 1)) (by omega) 7 (.int .u64 l8)) hb9
  have L9 := bl_call (bl_put (bl_put L8 (g := (w.heap.size + 1 + 1 + 1)) (i := 6) (by omega) (.int .u64 h8)) (g := (w.heap.size + 1 + 1 + 1)) (i := 7) (by omega) (.int .u64 l8)) hb9
  clear q5_8 q4_8 q3_8 L8 hb9 fz8
  clear c8_6
  clear c8_7
  clear c8_8
  clear c8_9
  have fz9 : ∀ i, wa9.frozen? ⟨(w.heap.size + 1 + 1 + 1), i, none⟩ = false := q5_9.frozen
  have c9_0 : wa9.cell? ⟨(w.heap.size + 1 + 1 + 1), 0, none⟩ = some (.int .u64 h1) := q5_9.cell 0
  have c9_1 : wa9.cell? ⟨(w.heap.size + 1 + 1 + 1), 1, none⟩ = some (.int .u64 l1) := q5_9.cell 1
  have c9_8 : wa9.cell? ⟨(w.heap.size + 1 + 1 + 1), 8, none⟩ = some (.int .u64 h5) := q5_9.cell 8
  have c9_9 : wa9.cell? ⟨(w.heap.size + 1 + 1 + 1), 9, none⟩ = some (.int .u64 l5) := q5_9.cell 9
  go_wp2_with fail
  rw [rounds_succ]
  go_wp2_with fail
  refine (more_v (k := 1) hA1 (by omega) he1 (Vars.p19 hf4) _).mono ?_
  rintro e wa10 ⟨h10, l10, rfl, hA10, hb10⟩
  have q5_10 : Bk wa10 (w.heap.size + 1 + 1 + 1) 113 #[.int .u64 h1, .int .u64 l1, .int .u64 h6, .int .u64 l6, .int .u64 h7, .int .u64 l7, .int .u64 h8, .int .u64 l8, .int .u64 h9, .int .u64 l9] := Bk.under (Bk.put (Bk.put q5_9 8 (.int .u64 h9)) 9 (.int .u64 l9)) hb10
  have q4_10 := Bk.under (Bk.off (Bk.off q4_9 (g' := (w.heap.size + 1 + 1 + 1)) (by omega) 8 (.int .u64 h9)) (g' := (w.heap.size + 1 + 1 + 1)) (by omega) 9 (.int .u64 l9)) hb10
  have q3_10 := Bk.under (Bk.off (Bk.off q3_9 (g' := (w.heap.size + 1 + 1 + 1)) (by omega) 8 (.int .u64 h9)) (g' := (w.heap.size + 1 + 1 + 1)) (by omega) 9 (.int .u64 l9)) hb10
  have L10 := bl_call (bl_put (bl_put L9 (g := (w.heap.size + 1 + 1 + 1)) (i := 8) (by omega) (.int .u64 h9)) (g := (w.heap.size + 1 + 1 + 1)) (i := 9) (by omega) (.int .u64 l9)) hb10
  clear q5_9 q4_9 q3_9 L9 hb10 fz9
  clear c9_0
  clear c9_1
  clear c9_8
  clear c9_9
  have fz10 : ∀ i, wa10.frozen? ⟨(w.heap.size + 1 + 1 + 1), i, none⟩ = false := q5_10.frozen
  have c10_0 : wa10.cell? ⟨(w.heap.size + 1 + 1 + 1), 0, none⟩ = some (.int .u64 h1) := q5_10.cell 0
  have c10_1 : wa10.cell? ⟨(w.heap.size + 1 + 1 + 1), 1, none⟩ = some (.int .u64 l1) := q5_10.cell 1
  have c10_4 : wa10.cell? ⟨(w.heap.size + 1 + 1 + 1), 4, none⟩ = some (.int .u64 h7) := q5_10.cell 4
  have c10_5 : wa10.cell? ⟨(w.heap.size + 1 + 1 + 1), 5, none⟩ = some (.int .u64 l7) := q5_10.cell 5
  have d10_0 : wa10.cell? ⟨(w.heap.size + 1), 0, none⟩ = some (.int .u64 f0) := q3_10.cell 0
  have d10_1 : wa10.cell? ⟨(w.heap.size + 1), 1, none⟩ = some (.int .u64 f1) := q3_10.cell 1
  have d10_2 : wa10.cell? ⟨(w.heap.size + 1), 2, none⟩ = some (.int .u64 f2) := q3_10.cell 2
  have d10_3 : wa10.cell? ⟨(w.heap.size + 1), 3, none⟩ = some (.int .u64 f3) := q3_10.cell 3
  have d10_4 : wa10.cell? ⟨(w.heap.size + 1), 4, none⟩ = some (.int .u64 f4) := q3_10.cell 4
  go_wp2_with fail
  rw [rounds_succ]
  go_wp2_with fail
  rw [rounds_succ]
  go_wp2_with fail
  refine wp_loop_rounds 6 ?_
  rw [rounds_succ]
  go_wp2_with fail
  refine (more_v (k := 2) hA7 (by omega) he2 (Lm.lp hf0) _).mono ?_
  rintro e wa11 ⟨h11, l11, rfl, hA11, hb11⟩
  have q5_11 : Bk wa11 (w.heap.size + 1 + 1 + 1) 113 #[.int .u64 h10, .int .u64 l10, .int .u64 h6, .int .u64 l6, .int .u64 h7, .int .u64 l7, .int .u64 h8, .int .u64 l8, .int .u64 h9, .int .u64 l9] := Bk.under (Bk.put (Bk.put q5_10 0 (.int .u64 h10)) 1 (.int .u64 l10)) hb11
  have q4_11 := Bk.under (Bk.off (Bk.off q4_10 (g' := (w.heap.size + 1 + 1 + 1)) (by omega) 0 (.int .u64 h10)) (g' := (w.heap.size + 1 + 1 + 1)) (by omega) 1 (.int .u64 l10)) hb11
  have q3_11 := Bk.under (Bk.off (Bk.off q3_10 (g' := (w.heap.size + 1 + 1 + 1)) (by omega) 0 (.int .u64 h10)) (g' := (w.heap.size + 1 + 1 + 1)) (by omega) 1 (.int .u64 l10)) hb11
  have L11 := bl_call (bl_put (bl_put L10 (g := (w.heap.size + 1 + 1 + 1)) (i := 0) (by omega) (.int .u64 h10)) (g := (w.heap.size + 1 + 1 + 1)) (i := 1) (by omega) (.int .u64 l10)) hb11
  clear q5_10 q4_10 q3_10 L10 hb11 fz10
  clear c10_0
  clear c10_1
  clear c10_4
  clear c10_5
  clear d10_0
  clear d10_1
  clear d10_2
  clear d10_3
  clear d10_4
  have fz11 : ∀ i, wa11.frozen? ⟨(w.heap.size + 1 + 1 + 1), i, none⟩ = false := q5_11.frozen
  have c11_4 : wa11.cell? ⟨(w.heap.size + 1 + 1 + 1), 4, none⟩ = some (.int .u64 h7) := q5_11.cell 4
  have c11_5 : wa11.cell? ⟨(w.heap.size + 1 + 1 + 1), 5, none⟩ = some (.int .u64 l7) := q5_11.cell 5
  have c11_6 : wa11.cell? ⟨(w.heap.size + 1 + 1 + 1), 6, none⟩ = some (.int .u64 h8) := q5_11.cell 6
  have c11_7 : wa11.cell? ⟨(w.heap.size + 1 + 1 + 1), 7, none⟩ = some (.int .u64 l8) := q5_11.cell 7
  go_wp2_with fail
  rw [rounds_succ]
  go_wp2_with fail
  refine (more_v (k := 2) hA8 (by omega) he2 (Lm.lp hf1) _).mono ?_
  rintro e wa12 ⟨h12, l12, rfl, hA12, hb12⟩
  have q5_12 : Bk wa12 (w.heap.size + 1 + 1 + 1) 113 #[.int .u64 h10, .int .u64 l10, .int .u64 h6, .int .u64 l6, .int .u64 h11, .int .u64 l11, .int .u64 h8, .int .u64 l8, .int .u64 h9, .int .u64 l9] := Bk.under (Bk.put (Bk.put q5_11 4 (.int .u64 h11)) 5 (.int .u64 l11)) hb12
  have q4_12 := Bk.under (Bk.off (Bk.off q4_11 (g' := (w.heap.size + 1 + 1 + 1)) (by omega) 4 (.int .u64 h11)) (g' := (w.heap.size + 1 + 1 + 1)) (by omega) 5 (.int .u64 l11)) hb12
  have q3_12 := Bk.under (Bk.off (Bk.off q3_11 (g' := (w.heap.size + 1 + 1 + 1)) (by omega) 4 (.int .u64 h11)) (g' := (w.heap.size + 1 + 1 + 1)) (by omega) 5 (.int .u64 l11)) hb12
  have L12 := bl_call (bl_put (bl_put L11 (g := (w.heap.size + 1 + 1 + 1)) (i := 4) (by omega) (.int .u64 h11)) (g := (w.heap.size + 1 + 1 + 1)) (i := 5) (by omega) (.int .u64 l11)) hb12
  clear q5_11 q4_11 q3_11 L11 hb12 fz11
  clear c11_4
  clear c11_5
  clear c11_6
  clear c11_7
  have fz12 : ∀ i, wa12.frozen? ⟨(w.heap.size + 1 + 1 + 1), i, none⟩ = false := q5_12.frozen
  have c12_6 : wa12.cell? ⟨(w.heap.size + 1 + 1 + 1), 6, none⟩ = some (.int .u64 h8) := q5_12.cell 6
  have c12_7 : wa12.cell? ⟨(w.heap.size + 1 + 1 + 1), 7, none⟩ = some (.int .u64 l8) := q5_12.cell 7
  have c12_8 : wa12.cell? ⟨(w.heap.size + 1 + 1 + 1), 8, none⟩ = some (.int .u64 h9) := q5_12.cell 8
  have c12_9 : wa12.cell? ⟨(w.heap.size + 1 + 1 + 1), 9, none⟩ = some (.int .u64 l9) := q5_12.cell 9
  go_wp2_with fail
  rw [rounds_succ]
  go_wp2_with fail
  refine (more_v (k := 2) hA9 (by omega) he2 (Lm.lp hf2) _).mono ?_
  rintro e wa13 ⟨h13, l13, rfl, hA13, hb13⟩
  have q5_13 : Bk wa13 (w.heap.size + 1 + 1 + 1) 113 #[.int .u64 h10, .int .u64 l10, .int .u64 h6, .int .u64 l6, .int .u64 h11, .int .u64 l11, .int .u64 h12, .int .u64 l12, .int .u64 h9, .int .u64 l9] := Bk.under (Bk.put (Bk.put q5_12 6 (.int .u64 h12)) 7 (.int .u64 l12)) hb13
  have q4_13 := Bk.under (Bk.off (Bk.off q4_12 (g' := (w.heap.size + 1 + 1 + 1)) (by omega) 6 (.int .u64 h12)) (g' := (w.heap.size + 1 + 1 + 1)) (by omega) 7 (.int .u64 l12)) hb13
  have q3_13 := Bk.under (Bk.off (Bk.off q3_12 (g' := (w.heap.size + 1 + 1 + 1)) (by omega) 6 (.int .u64 h12)) (g' := (w.heap.size + 1 + 1 + 1)) (by omega) 7 (.int .u64 l12)) hb13
  have L13 := bl_call (bl_put (bl_put L12 (g := (w.heap.size + 1 + 1 + 1)) (i := 6) (by omega) (.int .u64 h12)) (g := (w.heap.size + 1 + 1 + 1)) (i := 7) (by omega) (.int .u64 l12)) hb13
  clear q5_12 q4_12 q3_12 L12 hb13 fz12
  clear c12_6
  clear c12_7
  clear c12_8
  clear c12_9
  have fz13 : ∀ i, wa13.frozen? ⟨(w.heap.size + 1 + 1 + 1), i, none⟩ = false := q5_13.frozen
  have c13_0 : wa13.cell? ⟨(w.heap.size + 1 + 1 + 1), 0, none⟩ = some (.int .u64 h10) := q5_13.cell 0
  have c13_1 : wa13.cell? ⟨(w.heap.size + 1 + 1 + 1), 1, none⟩ = some (.int .u64 l10) := q5_13.cell 1
  have c13_8 : wa13.cell? ⟨(w.heap.size + 1 + 1 + 1), 8, none⟩ = some (.int .u64 h9) := q5_13.cell 8
  have c13_9 : wa13.cell? ⟨(w.heap.size + 1 + 1 + 1), 9, none⟩ = some (.int .u64 l9) := q5_13.cell 9
  go_wp2_with fail
  rw [rounds_succ]
  go_wp2_with fail
  refine (more_v (k := 2) hA10 (by omega) he2 (Vars.p19 hf3) _).mono ?_
  rintro e wa14 ⟨h14, l14, rfl, hA14, hb14⟩
  have q5_14 : Bk wa14 (w.heap.size + 1 + 1 + 1) 113 #[.int .u64 h10, .int .u64 l10, .int .u64 h6, .int .u64 l6, .int .u64 h11, .int .u64 l11, .int .u64 h12, .int .u64 l12, .int .u64 h13, .int .u64 l13] := Bk.under (Bk.put (Bk.put q5_13 8 (.int .u64 h13)) 9 (.int .u64 l13)) hb14
  have q4_14 := Bk.under (Bk.off (Bk.off q4_13 (g' := (w.heap.size + 1 + 1 + 1)) (by omega) 8 (.int .u64 h13)) (g' := (w.heap.size + 1 + 1 + 1)) (by omega) 9 (.int .u64 l13)) hb14
  have q3_14 := Bk.under (Bk.off (Bk.off q3_13 (g' := (w.heap.size + 1 + 1 + 1)) (by omega) 8 (.int .u64 h13)) (g' := (w.heap.size + 1 + 1 + 1)) (by omega) 9 (.int .u64 l13)) hb14
  have L14 := bl_call (bl_put (bl_put L13 (g := (w.heap.size + 1 + 1 + 1)) (i := 8) (by omega) (.int .u64 h13)) (g := (w.heap.size + 1 + 1 + 1)) (i := 9) (by omega) (.int .u64 l13)) hb14
  clear q5_13 q4_13 q3_13 L13 hb14 fz13
  clear c13_0
  clear c13_1
  clear c13_8
  clear c13_9
  have fz14 : ∀ i, wa14.frozen? ⟨(w.heap.size + 1 + 1 + 1), i, none⟩ = false := q5_14.frozen
  have c14_0 : wa14.cell? ⟨(w.heap.size + 1 + 1 + 1), 0, none⟩ = some (.int .u64 h10) := q5_14.cell 0
  have c14_1 : wa14.cell? ⟨(w.heap.size + 1 + 1 + 1), 1, none⟩ = some (.int .u64 l10) := q5_14.cell 1
  have c14_2 : wa14.cell? ⟨(w.heap.size + 1 + 1 + 1), 2, none⟩ = some (.int .u64 h6) := q5_14.cell 2
  have c14_3 : wa14.cell? ⟨(w.heap.size + 1 + 1 + 1), 3, none⟩ = some (.int .u64 l6) := q5_14.cell 3
  go_wp2_with fail
  rw [rounds_succ]
  go_wp2_with fail
  refine (more_v (k := 2) hA6 (by omega) he2 (Vars.p19 hf4) _).mono ?_
  rintro e wa15 ⟨h15, l15, rfl, hA15, hb15⟩
  have q5_15 : Bk wa15 (w.heap.size + 1 + 1 + 1) 113 #[.int .u64 h14, .int .u64 l14, .int .u64 h6, .int .u64 l6, .int .u64 h11, .int .u64 l11, .int .u64 h12, .int .u64 l12, .int .u64 h13, .int .u64 l13] := Bk.under (Bk.put (Bk.put q5_14 0 (.int .u64 h14)) 1 (.int .u64 l14)) hb15
  have q4_15 := Bk.under (Bk.off (Bk.off q4_14 (g' := (w.heap.size + 1 + 1 + 1)) (by omega) 0 (.int .u64 h14)) (g' := (w.heap.size + 1 + 1 + 1)) (by omega) 1 (.int .u64 l14)) hb15
  have q3_15 := Bk.under (Bk.off (Bk.off q3_14 (g' := (w.heap.size + 1 + 1 + 1)) (by omega) 0 (.int .u64 h14)) (g' := (w.heap.size + 1 + 1 + 1)) (by omega) 1 (.int .u64 l14)) hb15
  have L15 := bl_call (bl_put (bl_put L14 (g := (w.heap.size + 1 + 1 + 1)) (i := 0) (by omega) (.int .u64 h14)) (g := (w.heap.size + 1 + 1 + 1)) (i := 1) (by omega) (.int .u64 l14)) hb15
  clear q5_14 q4_14 q3_14 L14 hb15 fz14
  clear c14_0
  clear c14_1
  clear c14_2
  clear c14_3
  have fz15 : ∀ i, wa15.frozen? ⟨(w.heap.size + 1 + 1 + 1), i, none⟩ = false := q5_15.frozen
  have c15_2 : wa15.cell? ⟨(w.heap.size + 1 + 1 + 1), 2, none⟩ = some (.int .u64 h6) := q5_15.cell 2
  have c15_3 : wa15.cell? ⟨(w.heap.size + 1 + 1 + 1), 3, none⟩ = some (.int .u64 l6) := q5_15.cell 3
  have c15_6 : wa15.cell? ⟨(w.heap.size + 1 + 1 + 1), 6, none⟩ = some (.int .u64 h12) := q5_15.cell 6
  have c15_7 : wa15.cell? ⟨(w.heap.size + 1 + 1 + 1), 7, none⟩ = some (.int .u64 l12) := q5_15.cell 7
  have d15_0 : wa15.cell? ⟨(w.heap.size + 1), 0, none⟩ = some (.int .u64 f0) := q3_15.cell 0
  have d15_1 : wa15.cell? ⟨(w.heap.size + 1), 1, none⟩ = some (.int .u64 f1) := q3_15.cell 1
  have d15_2 : wa15.cell? ⟨(w.heap.size + 1), 2, none⟩ = some (.int .u64 f2) := q3_15.cell 2
  have d15_3 : wa15.cell? ⟨(w.heap.size + 1), 3, none⟩ = some (.int .u64 f3) := q3_15.cell 3
  have d15_4 : wa15.cell? ⟨(w.heap.size + 1), 4, none⟩ = some (.int .u64 f4) := q3_15.cell 4
  go_wp2_with fail
  rw [rounds_succ]
  go_wp2_with fail
  rw [rounds_succ]
  go_wp2_with fail
  refine wp_loop_rounds 6 ?_
  rw [rounds_succ]
  go_wp2_with fail
  refine (more_v (k := 3) hA12 (by omega) he3 (Lm.lp hf0) _).mono ?_
  rintro e wa16 ⟨h16, l16, rfl, hA16, hb16⟩
  have q5_16 : Bk wa16 (w.heap.size + 1 + 1 + 1) 113 #[.int .u64 h14, .int .u64 l14, .int .u64 h15, .int .u64 l15, .int .u64 h11, .int .u64 l11, .int .u64 h12, .int .u64 l12, .int .u64 h13, .int .u64 l13] := Bk.under (Bk.put (Bk.put q5_15 2 (.int .u64 h15)) 3 (.int .u64 l15)) hb16
  have q4_16 := Bk.under (Bk.off (Bk.off q4_15 (g' := (w.heap.size + 1 + 1 + 1)) (by omega) 2 (.int .u64 h15)) (g' := (w.heap.size + 1 + 1 + 1)) (by omega) 3 (.int .u64 l15)) hb16
  have q3_16 := Bk.under (Bk.off (Bk.off q3_15 (g' := (w.heap.size + 1 + 1 + 1)) (by omega) 2 (.int .u64 h15)) (g' := (w.heap.size + 1 + 1 + 1)) (by omega) 3 (.int .u64 l15)) hb16
  have L16 := bl_call (bl_put (bl_put L15 (g := (w.heap.size + 1 + 1 + 1)) (i := 2) (by omega) (.int .u64 h15)) (g := (w.heap.size + 1 + 1 + 1)) (i := 3) (by omega) (.int .u64 l15)) hb16
  clear q5_15 q4_15 q3_15 L15 hb16 fz15
  clear c15_2
  clear c15_3
  clear c15_6
  clear c15_7
  clear d15_0
  clear d15_1
  clear d15_2
  clear d15_3
  clear d15_4
  have fz16 : ∀ i, wa16.frozen? ⟨(w.heap.size + 1 + 1 + 1), i, none⟩ = false := q5_16.frozen
  have c16_6 : wa16.cell? ⟨(w.heap.size + 1 + 1 + 1), 6, none⟩ = some (.int .u64 h12) := q5_16.cell 6
  have c16_7 : wa16.cell? ⟨(w.heap.size + 1 + 1 + 1), 7, none⟩ = some (.int .u64 l12) := q5_16.cell 7
  have c16_8 : wa16.cell? ⟨(w.heap.size + 1 + 1 + 1), 8, none⟩ = some (.int .u64 h13) := q5_16.cell 8
  have c16_9 : wa16.cell? ⟨(w.heap.size + 1 + 1 + 1), 9, none⟩ = some (.int .u64 l13) := q5_16.cell 9
  go_wp2_with fail
  rw [rounds_succ]
  go_wp2_with fail
  refine (more_v (k := 3) hA13 (by omega) he3 (Lm.lp hf1) _).mono ?_
  rintro e wa17 ⟨h17, l17, rfl, hA17, hb17⟩
  have q5_17 : Bk wa17 (w.heap.size + 1 + 1 + 1) 113 #[.int .u64 h14, .int .u64 l14, .int .u64 h15, .int .u64 l15, .int .u64 h11, .int .u64 l11, .int .u64 h16, .int .u64 l16, .int .u64 h13, .int .u64 l13] := Bk.under (Bk.put (Bk.put q5_16 6 (.int .u64 h16)) 7 (.int .u64 l16)) hb17
  have q4_17 := Bk.under (Bk.off (Bk.off q4_16 (g' := (w.heap.size + 1 + 1 + 1)) (by omega) 6 (.int .u64 h16)) (g' := (w.heap.size + 1 + 1 + 1)) (by omega) 7 (.int .u64 l16)) hb17
  have q3_17 := Bk.under (Bk.off (Bk.off q3_16 (g' := (w.heap.size + 1 + 1 + 1)) (by omega) 6 (.int .u64 h16)) (g' := (w.heap.size + 1 + 1 + 1)) (by omega) 7 (.int .u64 l16)) hb17
  have L17 := bl_call (bl_put (bl_put L16 (g := (w.heap.size + 1 + 1 + 1)) (i := 6) (by omega) (.int .u64 h16)) (g := (w.heap.size + 1 + 1 + 1)) (i := 7) (by omega) (.int .u64 l16)) hb17
  clear q5_16 q4_16 q3_16 L16 hb17 fz16
  clear c16_6
  clear c16_7
  clear c16_8
  clear c16_9
  have fz17 : ∀ i, wa17.frozen? ⟨(w.heap.size + 1 + 1 + 1), i, none⟩ = false := q5_17.frozen
  have c17_0 : wa17.cell? ⟨(w.heap.size + 1 + 1 + 1), 0, none⟩ = some (.int .u64 h14) := q5_17.cell 0
  have c17_1 : wa17.cell? ⟨(w.heap.size + 1 + 1 + 1), 1, none⟩ = some (.int .u64 l14) := q5_17.cell 1
  have c17_8 : wa17.cell? ⟨(w.heap.size + 1 + 1 + 1), 8, none⟩ = some (.int .u64 h13) := q5_17.cell 8
  have c17_9 : wa17.cell? ⟨(w.heap.size + 1 + 1 + 1), 9, none⟩ = some (.int .u64 l13) := q5_17.cell 9
  go_wp2_with fail
  rw [rounds_succ]
  go_wp2_with fail
  refine (more_v (k := 3) hA14 (by omega) he3 (Vars.p19 hf2) _).mono ?_
  rintro e wa18 ⟨h18, l18, rfl, hA18, hb18⟩
  have q5_18 : Bk wa18 (w.heap.size + 1 + 1 + 1) 113 #[.int .u64 h14, .int .u64 l14, .int .u64 h15, .int .u64 l15, .int .u64 h11, .int .u64 l11, .int .u64 h16, .int .u64 l16, .int .u64 h17, .int .u64 l17] := Bk.under (Bk.put (Bk.put q5_17 8 (.int .u64 h17)) 9 (.int .u64 l17)) hb18
  have q4_18 := Bk.under (Bk.off (Bk.off q4_17 (g' := (w.heap.size + 1 + 1 + 1)) (by omega) 8 (.int .u64 h17)) (g' := (w.heap.size + 1 + 1 + 1)) (by omega) 9 (.int .u64 l17)) hb18
  have q3_18 := Bk.under (Bk.off (Bk.off q3_17 (g' := (w.heap.size + 1 + 1 + 1)) (by omega) 8 (.int .u64 h17)) (g' := (w.heap.size + 1 + 1 + 1)) (by omega) 9 (.int .u64 l17)) hb18
  have L18 := bl_call (bl_put (bl_put L17 (g := (w.heap.size + 1 + 1 + 1)) (i := 8) (by omega) (.int .u64 h17)) (g := (w.heap.size + 1 + 1 + 1)) (i := 9) (by omega) (.int .u64 l17)) hb18
  clear q5_17 q4_17 q3_17 L17 hb18 fz17
  clear c17_0
  clear c17_1
  clear c17_8
  clear c17_9
  have fz18 : ∀ i, wa18.frozen? ⟨(w.heap.size + 1 + 1 + 1), i, none⟩ = false := q5_18.frozen
  have c18_0 : wa18.cell? ⟨(w.heap.size + 1 + 1 + 1), 0, none⟩ = some (.int .u64 h14) := q5_18.cell 0
  have c18_1 : wa18.cell? ⟨(w.heap.size + 1 + 1 + 1), 1, none⟩ = some (.int .u64 l14) := q5_18.cell 1
  have c18_2 : wa18.cell? ⟨(w.heap.size + 1 + 1 + 1), 2, none⟩ = some (.int .u64 h15) := q5_18.cell 2
  have c18_3 : wa18.cell? ⟨(w.heap.size + 1 + 1 + 1), 3, none⟩ = some (.int .u64 l15) := q5_18.cell 3
  go_wp2_with fail
  rw [rounds_succ]
  go_wp2_with fail
  refine (more_v (k := 3) hA15 (by omega) he3 (Vars.p19 hf3) _).mono ?_
  rintro e wa19 ⟨h19, l19, rfl, hA19, hb19⟩
  have q5_19 : Bk wa19 (w.heap.size + 1 + 1 + 1) 113 #[.int .u64 h18, .int .u64 l18, .int .u64 h15, .int .u64 l15, .int .u64 h11, .int .u64 l11, .int .u64 h16, .int .u64 l16, .int .u64 h17, .int .u64 l17] := Bk.under (Bk.put (Bk.put q5_18 0 (.int .u64 h18)) 1 (.int .u64 l18)) hb19
  have q4_19 := Bk.under (Bk.off (Bk.off q4_18 (g' := (w.heap.size + 1 + 1 + 1)) (by omega) 0 (.int .u64 h18)) (g' := (w.heap.size + 1 + 1 + 1)) (by omega) 1 (.int .u64 l18)) hb19
  have q3_19 := Bk.under (Bk.off (Bk.off q3_18 (g' := (w.heap.size + 1 + 1 + 1)) (by omega) 0 (.int .u64 h18)) (g' := (w.heap.size + 1 + 1 + 1)) (by omega) 1 (.int .u64 l18)) hb19
  have L19 := bl_call (bl_put (bl_put L18 (g := (w.heap.size + 1 + 1 + 1)) (i := 0) (by omega) (.int .u64 h18)) (g := (w.heap.size + 1 + 1 + 1)) (i := 1) (by omega) (.int .u64 l18)) hb19
  clear q5_18 q4_18 q3_18 L18 hb19 fz18
  clear c18_0
  clear c18_1
  clear c18_2
  clear c18_3
  have fz19 : ∀ i, wa19.frozen? ⟨(w.heap.size + 1 + 1 + 1), i, none⟩ = false := q5_19.frozen
  have c19_2 : wa19.cell? ⟨(w.heap.size + 1 + 1 + 1), 2, none⟩ = some (.int .u64 h15) := q5_19.cell 2
  have c19_3 : wa19.cell? ⟨(w.heap.size + 1 + 1 + 1), 3, none⟩ = some (.int .u64 l15) := q5_19.cell 3
  have c19_4 : wa19.cell? ⟨(w.heap.size + 1 + 1 + 1), 4, none⟩ = some (.int .u64 h11) := q5_19.cell 4
  have c19_5 : wa19.cell? ⟨(w.heap.size + 1 + 1 + 1), 5, none⟩ = some (.int .u64 l11) := q5_19.cell 5
  go_wp2_with fail
  rw [rounds_succ]
  go_wp2_with fail
  refine (more_v (k := 3) hA11 (by omega) he3 (Vars.p19 hf4) _).mono ?_
  rintro e wa20 ⟨h20, l20, rfl, hA20, hb20⟩
  have q5_20 : Bk wa20 (w.heap.size + 1 + 1 + 1) 113 #[.int .u64 h18, .int .u64 l18, .int .u64 h19, .int .u64 l19, .int .u64 h11, .int .u64 l11, .int .u64 h16, .int .u64 l16, .int .u64 h17, .int .u64 l17] := Bk.under (Bk.put (Bk.put q5_19 2 (.int .u64 h19)) 3 (.int .u64 l19)) hb20
  have q4_20 := Bk.under (Bk.off (Bk.off q4_19 (g' := (w.heap.size + 1 + 1 + 1)) (by omega) 2 (.int .u64 h19)) (g' := (w.heap.size + 1 + 1 + 1)) (by omega) 3 (.int .u64 l19)) hb20
  have q3_20 := Bk.under (Bk.off (Bk.off q3_19 (g' := (w.heap.size + 1 + 1 + 1)) (by omega) 2 (.int .u64 h19)) (g' := (w.heap.size + 1 + 1 + 1)) (by omega) 3 (.int .u64 l19)) hb20
  have L20 := bl_call (bl_put (bl_put L19 (g := (w.heap.size + 1 + 1 + 1)) (i := 2) (by omega) (.int .u64 h19)) (g := (w.heap.size + 1 + 1 + 1)) (i := 3) (by omega) (.int .u64 l19)) hb20
  clear q5_19 q4_19 q3_19 L19 hb20 fz19
  clear c19_2
  clear c19_3
  clear c19_4
  clear c19_5
  have fz20 : ∀ i, wa20.frozen? ⟨(w.heap.size + 1 + 1 + 1), i, none⟩ = false := q5_20.frozen
  have c20_4 : wa20.cell? ⟨(w.heap.size + 1 + 1 + 1), 4, none⟩ = some (.int .u64 h11) := q5_20.cell 4
  have c20_5 : wa20.cell? ⟨(w.heap.size + 1 + 1 + 1), 5, none⟩ = some (.int .u64 l11) := q5_20.cell 5
  have c20_8 : wa20.cell? ⟨(w.heap.size + 1 + 1 + 1), 8, none⟩ = some (.int .u64 h17) := q5_20.cell 8
  have c20_9 : wa20.cell? ⟨(w.heap.size + 1 + 1 + 1), 9, none⟩ = some (.int .u64 l17) := q5_20.cell 9
  have d20_0 : wa20.cell? ⟨(w.heap.size + 1), 0, none⟩ = some (.int .u64 f0) := q3_20.cell 0
  have d20_1 : wa20.cell? ⟨(w.heap.size + 1), 1, none⟩ = some (.int .u64 f1) := q3_20.cell 1
  have d20_2 : wa20.cell? ⟨(w.heap.size + 1), 2, none⟩ = some (.int .u64 f2) := q3_20.cell 2
  have d20_3 : wa20.cell? ⟨(w.heap.size + 1), 3, none⟩ = some (.int .u64 f3) := q3_20.cell 3
  have d20_4 : wa20.cell? ⟨(w.heap.size + 1), 4, none⟩ = some (.int .u64 f4) := q3_20.cell 4
  go_wp2_with fail
  rw [rounds_succ]
  go_wp2_with fail
  rw [rounds_succ]
  go_wp2_with fail
  refine wp_loop_rounds 6 ?_
  rw [rounds_succ]
  go_wp2_with fail
  refine (more_v (k := 4) hA17 (by omega) he4 (Lm.lp hf0) _).mono ?_
  rintro e wa21 ⟨h21, l21, rfl, hA21, hb21⟩
  have q5_21 : Bk wa21 (w.heap.size + 1 + 1 + 1) 113 #[.int .u64 h18, .int .u64 l18, .int .u64 h19, .int .u64 l19, .int .u64 h20, .int .u64 l20, .int .u64 h16, .int .u64 l16, .int .u64 h17, .int .u64 l17] := Bk.under (Bk.put (Bk.put q5_20 4 (.int .u64 h20)) 5 (.int .u64 l20)) hb21
  have q4_21 := Bk.under (Bk.off (Bk.off q4_20 (g' := (w.heap.size + 1 + 1 + 1)) (by omega) 4 (.int .u64 h20)) (g' := (w.heap.size + 1 + 1 + 1)) (by omega) 5 (.int .u64 l20)) hb21
  have q3_21 := Bk.under (Bk.off (Bk.off q3_20 (g' := (w.heap.size + 1 + 1 + 1)) (by omega) 4 (.int .u64 h20)) (g' := (w.heap.size + 1 + 1 + 1)) (by omega) 5 (.int .u64 l20)) hb21
  have L21 := bl_call (bl_put (bl_put L20 (g := (w.heap.size + 1 + 1 + 1)) (i := 4) (by omega) (.int .u64 h20)) (g := (w.heap.size + 1 + 1 + 1)) (i := 5) (by omega) (.int .u64 l20)) hb21
  clear q5_20 q4_20 q3_20 L20 hb21 fz20
  clear c20_4
  clear c20_5
  clear c20_8
  clear c20_9
  clear d20_0
  clear d20_1
  clear d20_2
  clear d20_3
  clear d20_4
  have fz21 : ∀ i, wa21.frozen? ⟨(w.heap.size + 1 + 1 + 1), i, none⟩ = false := q5_21.frozen
  have c21_0 : wa21.cell? ⟨(w.heap.size + 1 + 1 + 1), 0, none⟩ = some (.int .u64 h18) := q5_21.cell 0
  have c21_1 : wa21.cell? ⟨(w.heap.size + 1 + 1 + 1), 1, none⟩ = some (.int .u64 l18) := q5_21.cell 1
  have c21_8 : wa21.cell? ⟨(w.heap.size + 1 + 1 + 1), 8, none⟩ = some (.int .u64 h17) := q5_21.cell 8
  have c21_9 : wa21.cell? ⟨(w.heap.size + 1 + 1 + 1), 9, none⟩ = some (.int .u64 l17) := q5_21.cell 9
  go_wp2_with fail
  rw [rounds_succ]
  go_wp2_with fail
  refine (more_v (k := 4) hA18 (by omega) he4 (Vars.p19 hf1) _).mono ?_
  rintro e wa22 ⟨h22, l22, rfl, hA22, hb22⟩
  have q5_22 : Bk wa22 (w.heap.size + 1 + 1 + 1) 113 #[.int .u64 h18, .int .u64 l18, .int .u64 h19, .int .u64 l19, .int .u64 h20, .int .u64 l20, .int .u64 h16, .int .u64 l16, .int .u64 h21, .int .u64 l21] := Bk.under (Bk.put (Bk.put q5_21 8 (.int .u64 h21)) 9 (.int .u64 l21)) hb22
  have q4_22 := Bk.under (Bk.off (Bk.off q4_21 (g' := (w.heap.size + 1 + 1 + 1)) (by omega) 8 (.int .u64 h21)) (g' := (w.heap.size + 1 + 1 + 1)) (by omega) 9 (.int .u64 l21)) hb22
  have q3_22 := Bk.under (Bk.off (Bk.off q3_21 (g' := (w.heap.size + 1 + 1 + 1)) (by omega) 8 (.int .u64 h21)) (g' := (w.heap.size + 1 + 1 + 1)) (by omega) 9 (.int .u64 l21)) hb22
  have L22 := bl_call (bl_put (bl_put L21 (g := (w.heap.size + 1 + 1 + 1)) (i := 8) (by omega) (.int .u64 h21)) (g := (w.heap.size + 1 + 1 + 1)) (i := 9) (by omega) (.int .u64 l21)) hb22
  clear q5_21 q4_21 q3_21 L21 hb22 fz21
  clear c21_0
  clear c21_1
  clear c21_8
  clear c21_9
  have fz22 : ∀ i, wa22.frozen? ⟨(w.heap.size + 1 + 1 + 1), i, none⟩ = false := q5_22.frozen
  have c22_0 : wa22.cell? ⟨(w.heap.size + 1 + 1 + 1), 0, none⟩ = some (.int .u64 h18) := q5_22.cell 0
  have c22_1 : wa22.cell? ⟨(w.heap.size + 1 + 1 + 1), 1, none⟩ = some (.int .u64 l18) := q5_22.cell 1
  have c22_2 : wa22.cell? ⟨(w.heap.size + 1 + 1 + 1), 2, none⟩ = some (.int .u64 h19) := q5_22.cell 2
  have c22_3 : wa22.cell? ⟨(w.heap.size + 1 + 1 + 1), 3, none⟩ = some (.int .u64 l19) := q5_22.cell 3
  go_wp2_with fail
  rw [rounds_succ]
  go_wp2_with fail
  refine (more_v (k := 4) hA19 (by omega) he4 (Vars.p19 hf2) _).mono ?_
  rintro e wa23 ⟨h23, l23, rfl, hA23, hb23⟩
  have q5_23 : Bk wa23 (w.heap.size + 1 + 1 + 1) 113 #[.int .u64 h22, .int .u64 l22, .int .u64 h19, .int .u64 l19, .int .u64 h20, .int .u64 l20, .int .u64 h16, .int .u64 l16, .int .u64 h21, .int .u64 l21] := Bk.under (Bk.put (Bk.put q5_22 0 (.int .u64 h22)) 1 (.int .u64 l22)) hb23
  have q4_23 := Bk.under (Bk.off (Bk.off q4_22 (g' := (w.heap.size + 1 + 1 + 1)) (by omega) 0 (.int .u64 h22)) (g' := (w.heap.size + 1 + 1 + 1)) (by omega) 1 (.int .u64 l22)) hb23
  have q3_23 := Bk.under (Bk.off (Bk.off q3_22 (g' := (w.heap.size + 1 + 1 + 1)) (by omega) 0 (.int .u64 h22)) (g' := (w.heap.size + 1 + 1 + 1)) (by omega) 1 (.int .u64 l22)) hb23
  have L23 := bl_call (bl_put (bl_put L22 (g := (w.heap.size + 1 + 1 + 1)) (i := 0) (by omega) (.int .u64 h22)) (g := (w.heap.size + 1 + 1 + 1)) (i := 1) (by omega) (.int .u64 l22)) hb23
  clear q5_22 q4_22 q3_22 L22 hb23 fz22
  clear c22_0
  clear c22_1
  clear c22_2
  clear c22_3
  have fz23 : ∀ i, wa23.frozen? ⟨(w.heap.size + 1 + 1 + 1), i, none⟩ = false := q5_23.frozen
  have c23_2 : wa23.cell? ⟨(w.heap.size + 1 + 1 + 1), 2, none⟩ = some (.int .u64 h19) := q5_23.cell 2
  have c23_3 : wa23.cell? ⟨(w.heap.size + 1 + 1 + 1), 3, none⟩ = some (.int .u64 l19) := q5_23.cell 3
  have c23_4 : wa23.cell? ⟨(w.heap.size + 1 + 1 + 1), 4, none⟩ = some (.int .u64 h20) := q5_23.cell 4
  have c23_5 : wa23.cell? ⟨(w.heap.size + 1 + 1 + 1), 5, none⟩ = some (.int .u64 l20) := q5_23.cell 5
  go_wp2_with fail
  rw [rounds_succ]
  go_wp2_with fail
  refine (more_v (k := 4) hA20 (by omega) he4 (Vars.p19 hf3) _).mono ?_
  rintro e wa24 ⟨h24, l24, rfl, hA24, hb24⟩
  have q5_24 : Bk wa24 (w.heap.size + 1 + 1 + 1) 113 #[.int .u64 h22, .int .u64 l22, .int .u64 h23, .int .u64 l23, .int .u64 h20, .int .u64 l20, .int .u64 h16, .int .u64 l16, .int .u64 h21, .int .u64 l21] := Bk.under (Bk.put (Bk.put q5_23 2 (.int .u64 h23)) 3 (.int .u64 l23)) hb24
  have q4_24 := Bk.under (Bk.off (Bk.off q4_23 (g' := (w.heap.size + 1 + 1 + 1)) (by omega) 2 (.int .u64 h23)) (g' := (w.heap.size + 1 + 1 + 1)) (by omega) 3 (.int .u64 l23)) hb24
  have q3_24 := Bk.under (Bk.off (Bk.off q3_23 (g' := (w.heap.size + 1 + 1 + 1)) (by omega) 2 (.int .u64 h23)) (g' := (w.heap.size + 1 + 1 + 1)) (by omega) 3 (.int .u64 l23)) hb24
  have L24 := bl_call (bl_put (bl_put L23 (g := (w.heap.size + 1 + 1 + 1)) (i := 2) (by omega) (.int .u64 h23)) (g := (w.heap.size + 1 + 1 + 1)) (i := 3) (by omega) (.int .u64 l23)) hb24
  clear q5_23 q4_23 q3_23 L23 hb24 fz23
  clear c23_2
  clear c23_3
  clear c23_4
  clear c23_5
  have fz24 : ∀ i, wa24.frozen? ⟨(w.heap.size + 1 + 1 + 1), i, none⟩ = false := q5_24.frozen
  have c24_4 : wa24.cell? ⟨(w.heap.size + 1 + 1 + 1), 4, none⟩ = some (.int .u64 h20) := q5_24.cell 4
  have c24_5 : wa24.cell? ⟨(w.heap.size + 1 + 1 + 1), 5, none⟩ = some (.int .u64 l20) := q5_24.cell 5
  have c24_6 : wa24.cell? ⟨(w.heap.size + 1 + 1 + 1), 6, none⟩ = some (.int .u64 h16) := q5_24.cell 6
  have c24_7 : wa24.cell? ⟨(w.heap.size + 1 + 1 + 1), 7, none⟩ = some (.int .u64 l16) := q5_24.cell 7
  go_wp2_with fail
  rw [rounds_succ]
  go_wp2_with fail
  refine (more_v (k := 4) hA16 (by omega) he4 (Vars.p19 hf4) _).mono ?_
  rintro e wa25 ⟨h25, l25, rfl, hA25, hb25⟩
  have q5_25 : Bk wa25 (w.heap.size + 1 + 1 + 1) 113 #[.int .u64 h22, .int .u64 l22, .int .u64 h23, .int .u64 l23, .int .u64 h24, .int .u64 l24, .int .u64 h16, .int .u64 l16, .int .u64 h21, .int .u64 l21] := Bk.under (Bk.put (Bk.put q5_24 4 (.int .u64 h24)) 5 (.int .u64 l24)) hb25
  have q4_25 := Bk.under (Bk.off (Bk.off q4_24 (g' := (w.heap.size + 1 + 1 + 1)) (by omega) 4 (.int .u64 h24)) (g' := (w.heap.size + 1 + 1 + 1)) (by omega) 5 (.int .u64 l24)) hb25
  have q3_25 := Bk.under (Bk.off (Bk.off q3_24 (g' := (w.heap.size + 1 + 1 + 1)) (by omega) 4 (.int .u64 h24)) (g' := (w.heap.size + 1 + 1 + 1)) (by omega) 5 (.int .u64 l24)) hb25
  have L25 := bl_call (bl_put (bl_put L24 (g := (w.heap.size + 1 + 1 + 1)) (i := 4) (by omega) (.int .u64 h24)) (g := (w.heap.size + 1 + 1 + 1)) (i := 5) (by omega) (.int .u64 l24)) hb25
  clear q5_24 q4_24 q3_24 L24 hb25 fz24
  clear c24_4
  clear c24_5
  clear c24_6
  clear c24_7
  have fz25 : ∀ i, wa25.frozen? ⟨(w.heap.size + 1 + 1 + 1), i, none⟩ = false := q5_25.frozen
  have c25_0 : wa25.cell? ⟨(w.heap.size + 1 + 1 + 1), 0, none⟩ = some (.int .u64 h22) := q5_25.cell 0
  have c25_1 : wa25.cell? ⟨(w.heap.size + 1 + 1 + 1), 1, none⟩ = some (.int .u64 l22) := q5_25.cell 1
  have c25_2 : wa25.cell? ⟨(w.heap.size + 1 + 1 + 1), 2, none⟩ = some (.int .u64 h23) := q5_25.cell 2
  have c25_3 : wa25.cell? ⟨(w.heap.size + 1 + 1 + 1), 3, none⟩ = some (.int .u64 l23) := q5_25.cell 3
  have c25_4 : wa25.cell? ⟨(w.heap.size + 1 + 1 + 1), 4, none⟩ = some (.int .u64 h24) := q5_25.cell 4
  have c25_5 : wa25.cell? ⟨(w.heap.size + 1 + 1 + 1), 5, none⟩ = some (.int .u64 l24) := q5_25.cell 5
  have c25_6 : wa25.cell? ⟨(w.heap.size + 1 + 1 + 1), 6, none⟩ = some (.int .u64 h16) := q5_25.cell 6
  have c25_7 : wa25.cell? ⟨(w.heap.size + 1 + 1 + 1), 7, none⟩ = some (.int .u64 l16) := q5_25.cell 7
  have c25_8 : wa25.cell? ⟨(w.heap.size + 1 + 1 + 1), 8, none⟩ = some (.int .u64 h21) := q5_25.cell 8
  have c25_9 : wa25.cell? ⟨(w.heap.size + 1 + 1 + 1), 9, none⟩ = some (.int .u64 l21) := q5_25.cell 9
  clear hA1 hA2 hA3 hA4 hA5 hA6 hA7 hA8 hA9 hA10 hA11 hA12 hA13 hA14 hA15 hA16 hA17 hA18 hA19 hA20
  have ac0 := hA22
  obtain ⟨s0, hs0⟩ : ∃ s, s = 0 + E0 * F0 + E1 * (19 * F4) + E2 * (19 * F3) + E3 * (19 * F2) + E4 * (19 * F1) := ⟨_, rfl⟩
  rw [← hs0] at ac0
  obtain ⟨k1, hk1⟩ : ∃ c, c = (s0 + 0) / 2251799813685248 := ⟨_, rfl⟩
  obtain ⟨o0, ho0⟩ : ∃ c, c = (s0 + 0) % 2251799813685248 := ⟨_, rfl⟩
  have or0 := car_or (c := 0) ac0 (by unfold Lt63; omega)
  have an0 := car_and (c := 0) ac0 (by unfold Lt63; omega)
  have hc1 := ac_lt (c := 0) ac0 (by unfold Lt63; omega)
  rw [← hk1] at or0 hc1
  rw [← ho0] at an0
  have ac1 := hA23
  obtain ⟨s1, hs1⟩ : ∃ s, s = 0 + E0 * F1 + E1 * F0 + E2 * (19 * F4) + E3 * (19 * F3) + E4 * (19 * F2) := ⟨_, rfl⟩
  rw [← hs1] at ac1
  obtain ⟨k2, hk2⟩ : ∃ c, c = (s1 + k1) / 2251799813685248 := ⟨_, rfl⟩
  obtain ⟨o1, ho1⟩ : ∃ c, c = (s1 + k1) % 2251799813685248 := ⟨_, rfl⟩
  have or1 := car_or (c := k1) ac1 hc1
  have an1 := car_and (c := k1) ac1 hc1
  have hc2 := ac_lt (c := k1) ac1 hc1
  rw [← hk2] at or1 hc2
  rw [← ho1] at an1
  have ac2 := hA24
  obtain ⟨s2, hs2⟩ : ∃ s, s = 0 + E0 * F2 + E1 * F1 + E2 * F0 + E3 * (19 * F4) + E4 * (19 * F3) := ⟨_, rfl⟩
  rw [← hs2] at ac2
  obtain ⟨k3, hk3⟩ : ∃ c, c = (s2 + k2) / 2251799813685248 := ⟨_, rfl⟩
  obtain ⟨o2, ho2⟩ : ∃ c, c = (s2 + k2) % 2251799813685248 := ⟨_, rfl⟩
  have or2 := car_or (c := k2) ac2 hc2
  have an2 := car_and (c := k2) ac2 hc2
  have hc3 := ac_lt (c := k2) ac2 hc2
  rw [← hk3] at or2 hc3
  rw [← ho2] at an2
  have ac3 := hA25
  obtain ⟨s3, hs3⟩ : ∃ s, s = 0 + E0 * F3 + E1 * F2 + E2 * F1 + E3 * F0 + E4 * (19 * F4) := ⟨_, rfl⟩
  rw [← hs3] at ac3
  obtain ⟨k4, hk4⟩ : ∃ c, c = (s3 + k3) / 2251799813685248 := ⟨_, rfl⟩
  obtain ⟨o3, ho3⟩ : ∃ c, c = (s3 + k3) % 2251799813685248 := ⟨_, rfl⟩
  have or3 := car_or (c := k3) ac3 hc3
  have an3 := car_and (c := k3) ac3 hc3
  have hc4 := ac_lt (c := k3) ac3 hc3
  rw [← hk4] at or3 hc4
  rw [← ho3] at an3
  have ac4 := hA21
  obtain ⟨s4, hs4⟩ : ∃ s, s = 0 + E0 * F4 + E1 * F3 + E2 * F2 + E3 * F1 + E4 * F0 := ⟨_, rfl⟩
  rw [← hs4] at ac4
  obtain ⟨k5, hk5⟩ : ∃ c, c = (s4 + k4) / 2251799813685248 := ⟨_, rfl⟩
  obtain ⟨o4, ho4⟩ : ∃ c, c = (s4 + k4) % 2251799813685248 := ⟨_, rfl⟩
  have or4 := car_or (c := k4) ac4 hc4
  have an4 := car_and (c := k4) ac4 hc4
  have hc5 := ac_lt (c := k4) ac4 hc4
  rw [← hk5] at or4 hc5
  rw [← ho4] at an4
  have acm := ac_mul k5 hc5
  have ho0' : Lt63 o0 := by unfold Lt63; omega
  obtain ⟨y, hy⟩ : ∃ c, c = (k5 * 19 + o0) / 2251799813685248 := ⟨_, rfl⟩
  obtain ⟨z0, hz0⟩ : ∃ c, c = (k5 * 19 + o0) % 2251799813685248 := ⟨_, rfl⟩
  have orm := car_or acm ho0'
  have anm := car_and acm ho0'
  rw [← hy] at orm
  rw [← hz0] at anm
  obtain ⟨z1, hz1⟩ : ∃ c, c = o1 + y := ⟨_, rfl⟩
  have hu5 : U k5 := by unfold U; unfold Lt63 at hc5; omega
  have wz1 : IntKind.u64.wrap ((o1 : Int) + (y : Int)) = (z1 : Int) := by rw [← Int.natCast_add, ← hz1, wrap_id]; unfold Lt63 at hc5; omega
  have zb0 : Lt63 z0 := by unfold Lt63; omega
  have zb1 : Lt63 z1 := by unfold Lt63 at *; omega
  have zb2 : Lt63 o2 := by unfold Lt63; omega
  have zb3 : Lt63 o3 := by unfold Lt63; omega
  have zb4 : Lt63 o4 := by unfold Lt63; omega
  have HF : Hid (∃ S0 S1 S2 S3 S4 c1 c2 c3 c4 c5 : Nat,
        (S0 = Sm0 E0 E1 E2 E3 E4 F0 F1 F2 F3 F4 ∧ S1 = Sm1 E0 E1 E2 E3 E4 F0 F1 F2 F3 F4 ∧ S2 = Sm2 E0 E1 E2 E3 E4 F0 F1 F2 F3 F4 ∧ S3 = Sm3 E0 E1 E2 E3 E4 F0 F1 F2 F3 F4 ∧ S4 = Sm4 E0 E1 E2 E3 E4 F0 F1 F2 F3 F4) ∧
        (c1 = S0 / 2251799813685248 ∧ c2 = (S1 + c1) / 2251799813685248 ∧ c3 = (S2 + c2) / 2251799813685248 ∧ c4 = (S3 + c3) / 2251799813685248 ∧ c5 = (S4 + c4) / 2251799813685248) ∧ c5 < 9223372036854775808 ∧
        z0 = (c5 * 19 + S0 % 2251799813685248) % 2251799813685248 ∧ z1 = (S1 + c1) % 2251799813685248 + (c5 * 19 + S0 % 2251799813685248) / 2251799813685248 ∧
        o2 = (S2 + c2) % 2251799813685248 ∧ o3 = (S3 + c3) % 2251799813685248 ∧ o4 = (S4 + c4) % 2251799813685248) :=
    ⟨s0, s1, s2, s3, s4, k1, k2, k3, k4, k5, ⟨hs0, hs1, hs2, hs3, hs4⟩, ⟨hk1, hk2, hk3, hk4, hk5⟩, hc5, by rw [hz0, ho0, Nat.add_zero], by rw [hz1, hy, ho0, ho1, Nat.add_zero], ho2, ho3, ho4⟩
  clear hs0 hs1 hs2 hs3 hs4 hk1 hk2 hk3 hk4 hk5 ho0 ho1 ho2 ho3 ho4 hy hz0 hz1 hc1 hc2 hc3 hc4 hc5 ac0 ac1 ac2 ac3 ac4 acm ho0'
  have ad00 := add64_00
  have ad0 := add64_0
  clear hA22 hA23 hA24 hA25 hA21
  have hz5 := q5_25.lt
  have hz4 := q4_25.lt
  clear he0 he1 he2 he3 he4 hf0 hf1 hf2 hf3 hf4
  go_wp2_with fail
  rw [rounds_succ]
  go_wp2_with fail
  rw [rounds_succ]
  go_wp2_with fail
  refine wp_loop_rounds 6 ?_
  rw [rounds_succ]
  go_wp2_with fail
  rw [rounds_succ]
  go_wp2_with fail
  rw [rounds_succ]
  go_wp2_with fail
  rw [rounds_succ]
  go_wp2_with fail
  rw [rounds_succ]
  go_wp2_with fail
  rw [rounds_succ]
  go_wp2_with fail
  refine (mul64_any k5 19 hu5 (by unfold U; omega) _).mono ?_
  rintro e wm ⟨rfl, rfl⟩
  go_wp2_with fail
  refine (carried_bl z0 z1 o2 o3 o4 zb0 zb1 zb2 zb3 zb4 _).mono ?_
  rintro e wz ⟨r0, r1, r2, r3, r4, hcar, rfl, hbz⟩
  have q4_z : Bk wz (w.heap.size + 1 + 1) 70 #[.int .u64 0, .int .u64 0, .int .u64 0, .int .u64 0, .int .u64 0] := Bk.under (Bk.alloc (Bk.off (Bk.off q4_25 (g' := (w.heap.size + 1 + 1 + 1)) (by omega) 6 (.int .u64 h25)) (g' := (w.heap.size + 1 + 1 + 1)) (by omega) 7 (.int .u64 l25)) _) hbz
  have LZ := bl_call (bl_alloc (bl_put (bl_put L25 (g := (w.heap.size + 1 + 1 + 1)) (i := 6) (by omega) (.int .u64 h25)) (g := (w.heap.size + 1 + 1 + 1)) (i := 7) (by omega) (.int .u64 l25)) _) hbz
  clear hbz L25 q5_25 q4_25 q3_25 fz25 c25_0 c25_1 c25_2 c25_3 c25_4 c25_5 c25_6 c25_7 c25_8 c25_9
  clear or0 or1 or2 or3 or4 orm an0 an1 an2 an3 an4 anm wz1 hz5 hz4 ad00 ad0
  have fz : ∀ i, wz.frozen? ⟨(w.heap.size + 1 + 1), i, none⟩ = false := q4_z.frozen
  have cz0 : wz.cell? ⟨(w.heap.size + 1 + 1), 0, none⟩ = some (.int .u64 0) := q4_z.cell 0
  have cz1 : wz.cell? ⟨(w.heap.size + 1 + 1), 1, none⟩ = some (.int .u64 0) := q4_z.cell 1
  have cz2 : wz.cell? ⟨(w.heap.size + 1 + 1), 2, none⟩ = some (.int .u64 0) := q4_z.cell 2
  have cz3 : wz.cell? ⟨(w.heap.size + 1 + 1), 3, none⟩ = some (.int .u64 0) := q4_z.cell 3
  have cz4 : wz.cell? ⟨(w.heap.size + 1 + 1), 4, none⟩ = some (.int .u64 0) := q4_z.cell 4
  clear q4_z
  simp only [c5]
  go_wp2_with fail
  refine bodyPost_ret (v := ?v) ?h rfl ?_
  case h => simp [results, Tryd.results55, go_sem, cz0, cz1, cz2, cz3, cz4]; rfl
  refine ⟨z0, z1, o2, o3, o4, r0, r1, r2, r3, r4, HF, hcar, rfl, ?_⟩
  exact bl_put (bl_put (bl_put (bl_put (bl_put LZ (by omega) _) (by omega) _) (by omega) _) (by omega) _) (by omega) _
end Go.Proofs.YtkmgdpbmkbpkjaaDoor
