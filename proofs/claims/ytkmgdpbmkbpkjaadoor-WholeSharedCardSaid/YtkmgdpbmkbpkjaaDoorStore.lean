/-
  limb's element.store: a number's bytes, below 2^255 - 19: the walk.
-/
import Derived.Test.YtkmgdpbmkbpkjaaDoorGNum
set_option linter.unusedVariables false
set_option linter.unusedSimpArgs false
namespace Go.Proofs.YtkmgdpbmkbpkjaaDoor
open Go.RowKit

set_option maxRecDepth 100000 in
set_option maxHeartbeats 16000000 in
theorem store_raw (e0 e1 e2 e3 e4 : Nat) (b0 : Lt63 e0) (b1 : Lt63 e1) (b2 : Lt63 e2) (b3 : Lt63 e3) (b4 : Lt63 e4) (w : World) :
    Calls Tryd.prog 41 #[.agg (c5 e0 e1 e2 e3 e4)] w fun e w' => ∃ u0 u1 u2 u3 u4 : Nat,
      Hid (∃ r0 r1 r2 r3 r4 s0 s1 s2 s3 s4, Car e0 e1 e2 e3 e4 r0 r1 r2 r3 r4 ∧ Car r0 r1 r2 r3 r4 s0 s1 s2 s3 s4 ∧ St s0 s1 s2 s3 s4 u0 u1 u2 u3 u4) ∧
      e = .returned (.agg (c8 (val5 u0 u1 u2 u3 u4))) ∧ Below w.heap.size w w' := by
  go_enter Tryd.func41, Tryd.ntmps41
  simp only [c5]
  go_wp2_with fail
  refine (carried_any e0 e1 e2 e3 e4 b0 b1 b2 b3 b4 _).mono ?_
  rintro e wa ⟨r0, r1, r2, r3, r4, hc1, rfl, rfl⟩
  have sm := hc1.small b3 b2 b1 b0 b4
  have v0 : Lt63 r0 := by unfold Lt63; omega
  have v1 : Lt63 r1 := by unfold Lt63; omega
  have v2 : Lt63 r2 := by unfold Lt63; omega
  have v3 : Lt63 r3 := by unfold Lt63; omega
  have v4 : Lt63 r4 := by unfold Lt63; omega
  clear sm
  simp only [c5]
  go_wp2_with fail
  refine (carried_any r0 r1 r2 r3 r4 v0 v1 v2 v3 v4 _).mono ?_
  rintro e wa ⟨s0, s1, s2, s3, s4, hc2, rfl, rfl⟩
  simp only [c5]
  have tp := Car.top b0 b1 b2 b3 b4 hc1 hc2
  obtain ⟨a0, h_a0⟩ : ∃ c, c = s0 + 19 := ⟨_, rfl⟩
  obtain ⟨q0, h_q0⟩ : ∃ c, c = a0 / 2251799813685248 := ⟨_, rfl⟩
  obtain ⟨a1, h_a1⟩ : ∃ c, c = s1 + q0 := ⟨_, rfl⟩
  obtain ⟨q1, h_q1⟩ : ∃ c, c = a1 / 2251799813685248 := ⟨_, rfl⟩
  obtain ⟨a2, h_a2⟩ : ∃ c, c = s2 + q1 := ⟨_, rfl⟩
  obtain ⟨q2, h_q2⟩ : ∃ c, c = a2 / 2251799813685248 := ⟨_, rfl⟩
  obtain ⟨a3, h_a3⟩ : ∃ c, c = s3 + q2 := ⟨_, rfl⟩
  obtain ⟨q3, h_q3⟩ : ∃ c, c = a3 / 2251799813685248 := ⟨_, rfl⟩
  obtain ⟨a4, h_a4⟩ : ∃ c, c = s4 + q3 := ⟨_, rfl⟩
  obtain ⟨q4, h_q4⟩ : ∃ c, c = a4 / 2251799813685248 := ⟨_, rfl⟩
  obtain ⟨m, h_m⟩ : ∃ c, c = 19 * q4 := ⟨_, rfl⟩
  obtain ⟨t0, h_t0⟩ : ∃ c, c = s0 + m := ⟨_, rfl⟩
  obtain ⟨d0, h_d0⟩ : ∃ c, c = t0 / 2251799813685248 := ⟨_, rfl⟩
  obtain ⟨t1, h_t1⟩ : ∃ c, c = s1 + d0 := ⟨_, rfl⟩
  obtain ⟨d1, h_d1⟩ : ∃ c, c = t1 / 2251799813685248 := ⟨_, rfl⟩
  obtain ⟨t2, h_t2⟩ : ∃ c, c = s2 + d1 := ⟨_, rfl⟩
  obtain ⟨d2, h_d2⟩ : ∃ c, c = t2 / 2251799813685248 := ⟨_, rfl⟩
  obtain ⟨t3, h_t3⟩ : ∃ c, c = s3 + d2 := ⟨_, rfl⟩
  obtain ⟨d3, h_d3⟩ : ∃ c, c = t3 / 2251799813685248 := ⟨_, rfl⟩
  obtain ⟨t4, h_t4⟩ : ∃ c, c = s4 + d3 := ⟨_, rfl⟩
  obtain ⟨u0, h_u0⟩ : ∃ c, c = t0 % 2251799813685248 := ⟨_, rfl⟩
  obtain ⟨u1, h_u1⟩ : ∃ c, c = t1 % 2251799813685248 := ⟨_, rfl⟩
  obtain ⟨u2, h_u2⟩ : ∃ c, c = t2 % 2251799813685248 := ⟨_, rfl⟩
  obtain ⟨u3, h_u3⟩ : ∃ c, c = t3 % 2251799813685248 := ⟨_, rfl⟩
  obtain ⟨u4, h_u4⟩ : ∃ c, c = t4 % 2251799813685248 := ⟨_, rfl⟩
  obtain ⟨x0, h_x0⟩ : ∃ c, c = u1 % 8192 * 2251799813685248 := ⟨_, rfl⟩
  obtain ⟨x1, h_x1⟩ : ∃ c, c = u2 % 67108864 * 274877906944 := ⟨_, rfl⟩
  obtain ⟨y1, h_y1⟩ : ∃ c, c = u1 / 8192 := ⟨_, rfl⟩
  obtain ⟨x2, h_x2⟩ : ∃ c, c = u3 % 549755813888 * 33554432 := ⟨_, rfl⟩
  obtain ⟨y2, h_y2⟩ : ∃ c, c = u2 / 67108864 := ⟨_, rfl⟩
  obtain ⟨x3, h_x3⟩ : ∃ c, c = u4 * 4096 := ⟨_, rfl⟩
  obtain ⟨y3, h_y3⟩ : ∃ c, c = u3 / 549755813888 := ⟨_, rfl⟩
  obtain ⟨R, h_R⟩ : ∃ R, R = val5 u0 u1 u2 u3 u4 := ⟨_, rfl⟩
  obtain ⟨w0_, w1_, w2_, w3_⟩ := wo_val (u0 := u0) (u1 := u1) (u2 := u2) (u3 := u3) (u4 := u4) (by omega) (by omega) (by omega) (by omega) (by omega)
  rw [← h_R] at w0_ w1_ w2_ w3_
  have rA0 : IntKind.u64.wrap ((s0 : Int) + 19) = (a0 : Int) := add_up s0 19 a0 h_a0 (by omega)
  have rQ0 : ((a0 : Int) / 2251799813685248) = (q0 : Int) := div_up a0 q0 2251799813685248 h_q0
  have rA1 : IntKind.u64.wrap ((s1 : Int) + (q0 : Int)) = (a1 : Int) := add_up s1 q0 a1 h_a1 (by omega)
  have rQ1 : ((a1 : Int) / 2251799813685248) = (q1 : Int) := div_up a1 q1 2251799813685248 h_q1
  have rA2 : IntKind.u64.wrap ((s2 : Int) + (q1 : Int)) = (a2 : Int) := add_up s2 q1 a2 h_a2 (by omega)
  have rQ2 : ((a2 : Int) / 2251799813685248) = (q2 : Int) := div_up a2 q2 2251799813685248 h_q2
  have rA3 : IntKind.u64.wrap ((s3 : Int) + (q2 : Int)) = (a3 : Int) := add_up s3 q2 a3 h_a3 (by omega)
  have rQ3 : ((a3 : Int) / 2251799813685248) = (q3 : Int) := div_up a3 q3 2251799813685248 h_q3
  have rA4 : IntKind.u64.wrap ((s4 : Int) + (q3 : Int)) = (a4 : Int) := add_up s4 q3 a4 h_a4 (by omega)
  have rQ4 : ((a4 : Int) / 2251799813685248) = (q4 : Int) := div_up a4 q4 2251799813685248 h_q4
  have rM : IntKind.u64.wrap (19 * (q4 : Int)) = (m : Int) := by rw [show (19 * (q4 : Int)) = (m : Int) by omega]; exact wrap_id _ (by omega)
  have rT0 : IntKind.u64.wrap ((s0 : Int) + (m : Int)) = (t0 : Int) := add_up s0 m t0 h_t0 (by omega)
  have rD0 : ((t0 : Int) / 2251799813685248) = (d0 : Int) := div_up t0 d0 2251799813685248 h_d0
  have rT1 : IntKind.u64.wrap ((s1 : Int) + (d0 : Int)) = (t1 : Int) := add_up s1 d0 t1 h_t1 (by omega)
  have rD1 : ((t1 : Int) / 2251799813685248) = (d1 : Int) := div_up t1 d1 2251799813685248 h_d1
  have rT2 : IntKind.u64.wrap ((s2 : Int) + (d1 : Int)) = (t2 : Int) := add_up s2 d1 t2 h_t2 (by omega)
  have rD2 : ((t2 : Int) / 2251799813685248) = (d2 : Int) := div_up t2 d2 2251799813685248 h_d2
  have rT3 : IntKind.u64.wrap ((s3 : Int) + (d2 : Int)) = (t3 : Int) := add_up s3 d2 t3 h_t3 (by omega)
  have rD3 : ((t3 : Int) / 2251799813685248) = (d3 : Int) := div_up t3 d3 2251799813685248 h_d3
  have rT4 : IntKind.u64.wrap ((s4 : Int) + (d3 : Int)) = (t4 : Int) := add_up s4 d3 t4 h_t4 (by omega)
  have rU0 : bits .and .u64 (t0 : Int) 2251799813685247 = (u0 : Int) := and_up t0 u0 h_u0 (by omega)
  have rU1 : bits .and .u64 (t1 : Int) 2251799813685247 = (u1 : Int) := and_up t1 u1 h_u1 (by omega)
  have rU2 : bits .and .u64 (t2 : Int) 2251799813685247 = (u2 : Int) := and_up t2 u2 h_u2 (by omega)
  have rU3 : bits .and .u64 (t3 : Int) 2251799813685247 = (u3 : Int) := and_up t3 u3 h_u3 (by omega)
  have rU4 : bits .and .u64 (t4 : Int) 2251799813685247 = (u4 : Int) := and_up t4 u4 h_u4 (by omega)
  have rX0 : IntKind.u64.wrap ((u1 : Int) * 2251799813685248) = (x0 : Int) := by rw [show ((u1 : Int) * 2251799813685248) = ((u1 * 2251799813685248 : Nat) : Int) by omega, wrap_nat]; congr 1; omega
  have rW0 : bits .or .u64 (u0 : Int) (x0 : Int) = ((wo R 0 : Nat) : Int) := by rw [w0_, h_x0]; exact or_add' (u1 % 8192) 51 u0 (by omega) (by omega)
  have rX1 : IntKind.u64.wrap ((u2 : Int) * 274877906944) = (x1 : Int) := by rw [show ((u2 : Int) * 274877906944) = ((u2 * 274877906944 : Nat) : Int) by omega, wrap_nat]; congr 1; omega
  have rY1 : ((u1 : Int) / 8192) = (y1 : Int) := div_up u1 y1 8192 h_y1
  have rW1 : bits .or .u64 (y1 : Int) (x1 : Int) = ((wo R 1 : Nat) : Int) := by rw [w1_, h_x1]; rw [← h_y1]; exact or_add' (u2 % 67108864) 38 y1 (by omega) (by omega)
  have rX2 : IntKind.u64.wrap ((u3 : Int) * 33554432) = (x2 : Int) := by rw [show ((u3 : Int) * 33554432) = ((u3 * 33554432 : Nat) : Int) by omega, wrap_nat]; congr 1; omega
  have rY2 : ((u2 : Int) / 67108864) = (y2 : Int) := div_up u2 y2 67108864 h_y2
  have rW2 : bits .or .u64 (y2 : Int) (x2 : Int) = ((wo R 2 : Nat) : Int) := by rw [w2_, h_x2]; rw [← h_y2]; exact or_add' (u3 % 549755813888) 25 y2 (by omega) (by omega)
  have rX3 : IntKind.u64.wrap ((u4 : Int) * 4096) = (x3 : Int) := by rw [show ((u4 : Int) * 4096) = ((u4 * 4096 : Nat) : Int) by omega, wrap_nat]; congr 1; omega
  have rY3 : ((u3 : Int) / 549755813888) = (y3 : Int) := div_up u3 y3 549755813888 h_y3
  have rW3 : bits .or .u64 (y3 : Int) (x3 : Int) = ((wo R 3 : Nat) : Int) := by rw [w3_, h_x3]; rw [← h_y3]; exact or_add' (u4) 12 y3 (by omega) (by omega)
  have iw0 : ∀ w, (Instr.index 86 (.agg #[.int .u64 ((wo R 0 : Nat) : Int), .int .u64 ((wo R 1 : Nat) : Int), .int .u64 ((wo R 2 : Nat) : Int), .int .u64 ((wo R 3 : Nat) : Int)]) (.int .i64 ((0 : Nat) : Int))).run Tryd.prog w = .ok (.int .u64 ((wo R 0 : Nat) : Int)) w := fun _ => by kernel_rfl
  have iw1 : ∀ w, (Instr.index 86 (.agg #[.int .u64 ((wo R 0 : Nat) : Int), .int .u64 ((wo R 1 : Nat) : Int), .int .u64 ((wo R 2 : Nat) : Int), .int .u64 ((wo R 3 : Nat) : Int)]) (.int .i64 ((1 : Nat) : Int))).run Tryd.prog w = .ok (.int .u64 ((wo R 1 : Nat) : Int)) w := fun _ => by kernel_rfl
  have iw2 : ∀ w, (Instr.index 86 (.agg #[.int .u64 ((wo R 0 : Nat) : Int), .int .u64 ((wo R 1 : Nat) : Int), .int .u64 ((wo R 2 : Nat) : Int), .int .u64 ((wo R 3 : Nat) : Int)]) (.int .i64 ((2 : Nat) : Int))).run Tryd.prog w = .ok (.int .u64 ((wo R 2 : Nat) : Int)) w := fun _ => by kernel_rfl
  have iw3 : ∀ w, (Instr.index 86 (.agg #[.int .u64 ((wo R 0 : Nat) : Int), .int .u64 ((wo R 1 : Nat) : Int), .int .u64 ((wo R 2 : Nat) : Int), .int .u64 ((wo R 3 : Nat) : Int)]) (.int .i64 ((3 : Nat) : Int))).run Tryd.prog w = .ok (.int .u64 ((wo R 3 : Nat) : Int)) w := fun _ => by kernel_rfl
  have iw : ∀ i : Nat, i < 4 → ∀ w, (Instr.index 86 (.agg #[.int .u64 ((wo R 0 : Nat) : Int), .int .u64 ((wo R 1 : Nat) : Int), .int .u64 ((wo R 2 : Nat) : Int), .int .u64 ((wo R 3 : Nat) : Int)]) (.int .i64 (i : Int))).run Tryd.prog w = .ok (.int .u64 ((wo R i : Nat) : Int)) w := by
    intro i hi w
    have hi' : i = 0 ∨ i = 1 ∨ i = 2 ∨ i = 3 := by omega
    rcases hi' with rfl | rfl | rfl | rfl
    · exact iw0 w
    · exact iw1 w
    · exact iw2 w
    · exact iw3 w
  clear iw0 iw1 iw2 iw3
  have HS : Hid (∃ r0 r1 r2 r3 r4 s0 s1 s2 s3 s4, Car e0 e1 e2 e3 e4 r0 r1 r2 r3 r4 ∧ Car r0 r1 r2 r3 r4 s0 s1 s2 s3 s4 ∧ St s0 s1 s2 s3 s4 u0 u1 u2 u3 u4) :=
    ⟨r0, r1, r2, r3, r4, s0, s1, s2, s3, s4, hc1, hc2, q0, q1, q2, q3, q4, t0, t1, t2, t3, t4, ⟨by omega, by omega, by omega, by omega, by omega⟩, ⟨by omega, by omega, by omega, by omega, by omega⟩, ⟨h_u0, h_u1, h_u2, h_u3, h_u4⟩⟩
  have HR := Lib.hid h_R
  clear h_R w0_ w1_ w2_ w3_
  clear tp hc1 hc2 b0 b1 b2 b3 b4 v0 v1 v2 v3 v4 h_a0 h_q0 h_a1 h_q1 h_a2 h_q2 h_a3 h_q3 h_a4 h_q4 h_m h_t0 h_d0 h_t1 h_d1 h_t2 h_d2 h_t3 h_d3 h_t4 h_u0 h_u1 h_u2 h_u3 h_u4 h_x0 h_x1 h_y1 h_x2 h_y2 h_x3 h_y3
  go_wp2_with fail
  refine wp_loop_rounds 5 ?_
  rw [rounds_succ]
  go_wp2_with fail
  rw [rounds_succ]
  go_wp2_with fail
  rw [rounds_succ]
  go_wp2_with fail
  rw [rounds_succ]
  go_wp2_with fail
  rw [rounds_succ]
  go_wp2_with fail
  refine wp_loop_rounds 5 ?_
  rw [rounds_succ]
  go_wp2_with fail
  refine drawn_region 9 (by kernel_rfl) (by kernel_rfl) ?_
  simp only [List.take_succ_cons, List.take_zero, List.drop_succ_cons, List.drop_zero]
  repeat (refine wpStill_step (fun K hK => ?_); go_simp; (try go_bits); refine hK _ ?_; clear hK K)
  refine wpStill_nil ?_
  go_wp2_with fail
  rw [rounds_succ]
  go_wp2_with fail
  refine drawn_region 9 (by kernel_rfl) (by kernel_rfl) ?_
  simp only [List.take_succ_cons, List.take_zero, List.drop_succ_cons, List.drop_zero]
  repeat (refine wpStill_step (fun K hK => ?_); go_simp; (try go_bits); refine hK _ ?_; clear hK K)
  refine wpStill_nil ?_
  go_wp2_with fail
  rw [rounds_succ]
  go_wp2_with fail
  refine drawn_region 9 (by kernel_rfl) (by kernel_rfl) ?_
  simp only [List.take_succ_cons, List.take_zero, List.drop_succ_cons, List.drop_zero]
  repeat (refine wpStill_step (fun K hK => ?_); go_simp; (try go_bits); refine hK _ ?_; clear hK K)
  refine wpStill_nil ?_
  go_wp2_with fail
  rw [rounds_succ]
  go_wp2_with fail
  refine drawn_region 9 (by kernel_rfl) (by kernel_rfl) ?_
  simp only [List.take_succ_cons, List.take_zero, List.drop_succ_cons, List.drop_zero]
  repeat (refine wpStill_step (fun K hK => ?_); go_simp; (try go_bits); refine hK _ ?_; clear hK K)
  refine wpStill_nil ?_
  go_wp2_with fail
  rw [rounds_succ]
  go_wp2_with fail
  rw [← c8p_zero R]
  have HI := Lib.hid iw
  clear iw rA0 rA1 rA2 rA3 rA4 rQ0 rQ1 rQ2 rQ3 rQ4 rD0 rD1 rD2 rD3 rU0 rU1 rU2 rU3 rU4 rM rT0 rT1 rT2 rT3 rT4 rX0 rX1 rX2 rX3 rW0 rW1 rW2 rW3 rY1 rY2 rY3
  go_loopw [84] (fun iv wr => ∃ i : Nat, i ≤ 4 ∧ iv = .int .i64 i ∧ Bk wr (w.heap.size + 1 + 1 + 1 + 1 + 1 + 1) 22 (c8p R (8 * i)) ∧ Bk wr (w.heap.size + 1) 22 (c8p R 0) ∧ Below w.heap.size w wr) (fun iv _ => 4 - (intOf iv).toNat)
  case atStart =>
    refine ⟨0, by omega, rfl, (by repeat (first | (refine Bk.at_ _ _ _ _ ?_; simp; done) | refine Bk.drew ?_ | refine Bk.alloc ?_ _)), (by repeat (first | (refine Bk.at_ _ _ _ _ ?_; simp; done) | refine Bk.drew ?_ | refine Bk.alloc ?_ _)), ?_⟩
    repeat (first | exact Below.refl _ _ | assumption | refine Below.drew ?_ | refine bl_alloc ?_ _ | refine bl_drewN ?_ _)
  case round =>
    obtain ⟨i, hi, rfl, hC, hZ, hb⟩ := hrel
    by_cases hlt : i < 4
    · have iwi := HI.out i hlt
      go_wp2_with fail
      obtain ⟨wx, rfl⟩ : ∃ wx : World, wx = wr := ⟨_, rfl⟩
      clear iwi
      go_loopw [88] (fun kv wr => ∃ k : Nat, k ≤ 8 ∧ kv = .int .i64 k ∧ Bk wr (w.heap.size + 1 + 1 + 1 + 1 + 1 + 1) 22 (c8p R (8 * i + k)) ∧ Bk wr (w.heap.size + 1) 22 (c8p R 0) ∧ Below w.heap.size w wr) (fun kv _ => 8 - (intOf kv).toNat)
      case atStart => exact ⟨0, by omega, rfl, hC, hZ, hb⟩
      case round =>
        clear hC hZ hb
        obtain ⟨k, hk, rfl, hC, hZ, hb⟩ := hrel
        by_cases hk8 : k < 8
        · have hcell : wr.cell? ⟨(w.heap.size + 1 + 1 + 1 + 1 + 1 + 1), 8 * i + k, none⟩ = some (.int .u8 (if 8 * i + k < 8 * i + k then ((R / 256 ^ (8 * i + k) % 256 : Nat) : Int) else 0)) := (hC.cell _).trans (get_c8p R _ _ (by omega))
          rw [if_neg (Nat.lt_irrefl _)] at hcell
          have hfz : ∀ j, wr.frozen? ⟨(w.heap.size + 1 + 1 + 1 + 1 + 1 + 1), j, none⟩ = false := hC.frozen
          go_wp2_with fail
          go_roundw
          case rel =>
            refine ⟨k + 1, by omega, by go_num, ?_, hZ.off (by omega) _ _, bl_put hb (by omega) _⟩
            have := hC.put (8 * i + k) (.int .u8 ((R / 256 ^ (8 * i + k) % 256 : Nat) : Int))
            rw [put_c8p R _ (by omega), ← byte_wo R i k hk8] at this
            exact this
          case measure => simp [intOf]; omega
        · go_wp2_with fail
          go_roundw
          case rel =>
            obtain rfl : k = 8 := by omega
            exact ⟨i + 1, by omega, by go_num, hC, hZ, hb⟩
          case measure => simp [intOf]; omega
    · obtain rfl : i = 4 := by omega
      rw [show 8 * 4 = 32 from rfl, c8p_all] at hC
      have hth : wr.there (w.heap.size + 1) 0 (c8 R).size := by rw [size_c8]; have := hZ.there; rwa [size_c8p] at this
      have hs8 : (Tryd.prog.info? 22).map (·.size) = some (c8 R).size := by rw [size_c8]; kernel_rfl
      have hres : Bk (wr.setCells (w.heap.size + 1) 0 (c8 R).toList) (w.heap.size + 1) 22 (c8 R) := hZ.all (by rw [size_c8, size_c8p])
      go_wp2_with (first | (refine wpList_load_row rfl 22 (.tmp 6) rfl (w.heap.size + 1 + 1 + 1 + 1 + 1 + 1) rfl 22 (c8 R) (0, 0) _ hC Tryd.underlying22 rfl hs8 ?_) | (refine wpList_store_mid rfl 22 (.tmp 2) (.tmp 103) rfl (w.heap.size + 1) 0 (c8 R) rfl rfl hth hs8 (one_c8 R) ?_))
      refine bodyPost_ret (results_cell_row rfl _ _ (w.heap.size + 1) 22 (c8 R) (0, 0) _ rfl hres Tryd.underlying22 rfl hs8) rfl ?_
      refine ⟨u0, u1, u2, u3, u4, HS, ?_, bl_cells (by omega) _ _ _ hb⟩
      rw [HR.out]
end Go.Proofs.YtkmgdpbmkbpkjaaDoor
