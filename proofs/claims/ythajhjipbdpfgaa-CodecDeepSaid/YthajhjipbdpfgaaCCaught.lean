/-
  The deferred call of package codec: where the caller's frame panics with an error number it recovers and stores it; where the frame returns it turns nothing.
-/
import Derived.Test.YthajhjipbdpfgaaCTake
import Derived.Tactics
import Derived.Tactics2
import Derived.Defers
import Derived.Recover
set_option linter.unusedVariables false
set_option linter.unusedSimpArgs false
namespace Go.Proofs.Ythajhjipbdpfgaa
open Go.RowKit

theorem caught_idle (p : Addr) (w : World) :
    CallsD Try.prog 29 #[.pointer (some p)] .returning w fun e u' w' => e = .returned (.tuple #[]) ∧ u' = .returning ∧ w' = w := by
  refine callsD_of_wpS Try.func29 rfl fun c₀ cs hu => ?_
  apply wpS_seq
  apply wpS_region
  simp [wpOpsS, go_sem, recoverD, hu, Try.ntmps29, Exit.thenS]
  refine wpS_of_wp ?_
  go_wp2
  cases c₀
  simp_all [bodyPostS, results, Try.results29]

theorem caught_panicking (p : Addr) (x : Int) (w : World) (hc : w.cell? p = some (.int .i64 x)) (hz : w.frozen? p = false) :
    CallsD Try.prog 29 #[.pointer (some p)] (.panicking EForm) w fun e u' w' =>
      e = .returned (.tuple #[]) ∧ u' = .panicking [{ v := .iface 25 (.int .i64 4), recovered := true }] ∧ w' = w.setCell p (.int .i64 4) := by
  have hta : ∀ w : World, (Instr.typeAssert (.iface 25 (.int .i64 4)) 20 25 true).run Try.prog w = .ok (.tuple #[.int .i64 4, .bool true]) w := fun _ => by kernel_rfl
  refine callsD_of_wpS Try.func29 rfl fun c₀ cs hu => ?_
  apply wpS_seq
  apply wpS_region
  simp [wpOpsS, go_sem, recoverD, hu, EForm, Try.ntmps29, Exit.thenS]
  refine wpS_of_wp ?_
  go_wp2
  simp [bodyPostS, results, Try.results29]

end Go.Proofs.Ythajhjipbdpfgaa
