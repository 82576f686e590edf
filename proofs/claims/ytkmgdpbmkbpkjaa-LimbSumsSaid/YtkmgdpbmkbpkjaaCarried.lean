/-
  limb's element.carried: the same number in limbs that are hardly above 51 bits.
-/
import Derived.Test.YtkmgdpbmkbpkjaaBase
namespace Go.Proofs.Ytkmgdpbmkbpkjaa
open Go.RowKit

/-- The five limbs as the walk leaves them. -/
def ra (x : Int) : Int := bits .and .u64 x 2251799813685247
def rs0 (e0 e4 : Int) : Int := IntKind.u64.wrap (e0 + IntKind.u64.wrap (19 * (e4 / 2251799813685248)))
def rs (e f : Int) : Int := IntKind.u64.wrap (e + f / 2251799813685248)
def cr (e0 e1 e2 e3 e4 : Int) : Array Value :=
  #[.int .u64 (ra (rs0 e0 e4)), .int .u64 (ra (rs e1 (rs0 e0 e4))), .int .u64 (ra (rs e2 (rs e1 (rs0 e0 e4)))),
    .int .u64 (ra (rs e3 (rs e2 (rs e1 (rs0 e0 e4))))), .int .u64 (rs (ra e4) (rs e3 (rs e2 (rs e1 (rs0 e0 e4)))))]

set_option maxRecDepth 100000 in
set_option maxHeartbeats 2000000 in
theorem carried_raw (e0 e1 e2 e3 e4 : Int) (w : World) :
    Calls Try.prog 34 #[.agg #[.int .u64 e0, .int .u64 e1, .int .u64 e2, .int .u64 e3, .int .u64 e4]] w fun e w' =>
      e = .returned (.agg (cr e0 e1 e2 e3 e4)) ∧ w' = (((((w.alloc (.cells (cr e0 e1 e2 e3 e4) 37)).alloc (.cells (cr e0 e1 e2 e3 e4) 37)).drew).drew).drew).drew := by
  go_enter Try.func34, Try.ntmps34
  go_wp2
  refine wp_loop_rounds 5 ?_
  rw [rounds_succ]
  go_wp2
  refine drawn_region 9 (by kernel_rfl) (by kernel_rfl) ?_
  simp only [List.take_succ_cons, List.take_zero, List.drop_succ_cons, List.drop_zero]
  repeat (refine wpStill_step (fun K hK => ?_); go_simp; (try go_bits); refine hK _ ?_; clear hK K)
  refine wpStill_nil ?_
  go_wp2
  rw [rounds_succ]
  go_wp2
  refine drawn_region 9 (by kernel_rfl) (by kernel_rfl) ?_
  simp only [List.take_succ_cons, List.take_zero, List.drop_succ_cons, List.drop_zero]
  repeat (refine wpStill_step (fun K hK => ?_); go_simp; (try go_bits); refine hK _ ?_; clear hK K)
  refine wpStill_nil ?_
  go_wp2
  rw [rounds_succ]
  go_wp2
  refine drawn_region 9 (by kernel_rfl) (by kernel_rfl) ?_
  simp only [List.take_succ_cons, List.take_zero, List.drop_succ_cons, List.drop_zero]
  repeat (refine wpStill_step (fun K hK => ?_); go_simp; (try go_bits); refine hK _ ?_; clear hK K)
  refine wpStill_nil ?_
  go_wp2
  rw [rounds_succ]
  go_wp2
  refine drawn_region 9 (by kernel_rfl) (by kernel_rfl) ?_
  simp only [List.take_succ_cons, List.take_zero, List.drop_succ_cons, List.drop_zero]
  repeat (refine wpStill_step (fun K hK => ?_); go_simp; (try go_bits); refine hK _ ?_; clear hK K)
  refine wpStill_nil ?_
  go_wp2
  rw [rounds_succ]
  go_wp2
  refine bodyPost_ret (v := ?v) ?h rfl ?_
  case h => simp [results, Try.results34, go_sem]; rfl
  exact ⟨rfl, rfl⟩
end Go.Proofs.Ytkmgdpbmkbpkjaa
