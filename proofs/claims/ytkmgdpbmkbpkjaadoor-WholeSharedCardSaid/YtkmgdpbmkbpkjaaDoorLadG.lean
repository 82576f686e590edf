/-
  What the row's condition says of the ladder's constant: the first block holds 121665; the door's own heap meets the condition.
-/
import Derived.Test.YtkmgdpbmkbpkjaaDoorRows
import Derived.Test.YtkmgdpbmkbpkjaaDoorArr
import Derived.Test.YtkmgdpbmkbpkjaaDoorEngU
import Derived.ProofKit
import Derived.LaidMore
import Derived.LaidHandle
import Derived.MakeChecks
import Derived.OpenShut
import Derived.Stop.Joined
set_option linter.unusedVariables false
namespace Go.Proofs.YtkmgdpbmkbpkjaaDoor
open Go.ChangeShapes Go.WideShapes Go.ChangeAt Go.RowKit

theorem gA24 : Tryd.prog.globalNamed "signetring/ladder.a24" = some 0 := by kernel_rfl
theorem tA24 : (Tryd.prog.globals[0]?).map (·.type) = some 22 := by kernel_rfl
/-- The constant's data, as the row lists them. -/
def laid1 : List (String × DataW Unit) := [("signetring/ladder.a24", Rows.laid_signetring_ladder_a24)]
theorem laid_list : (Rows.laid_signetring_ladder_a24 : DataW Unit) = .agg ((List.range 32).map fun i => .lit (.int .u8 ((byteN 121665 i : Nat) : Int))) := by kernel_rfl
theorem cells_of_laid {W : World} {cs : Array Value} {fuel : Nat} {p : List MemPlace} (h : DataW.trod (fun _ => ()) Tryd.prog W 0 (fun _ => true) false fuel 22 cs.toList = some (Rows.laid_signetring_ladder_a24, p)) : cs = c8 121665 := by
  obtain ⟨xs, m, rfl, hx, hl, hxl, hel⟩ := DataW.trod_array Tryd.underlying22 h
  have hc : Tryd.prog.cellsOf 5 = 1 := by kernel_rfl
  have hc2 : Tryd.prog.cellsOf 22 = 32 := by kernel_rfl
  rw [hc] at hel
  rw [hc2, Array.length_toList] at hl
  simp only [Prod.mk.injEq] at hx
  have hd := hx.1
  rw [laid_list] at hd
  have hd2 : ((List.range 32).map fun i => (DataW.lit (.int .u8 ((byteN 121665 i : Nat) : Int)) : DataW Unit)) = xs.map (·.1) := by injection hd
  refine c8_of (n := 0) hl fun i hi => ?_
  have e := hel i hi
  have hg : (cs.toList.drop (i * 1)).take 1 = [cs[i]'(by omega)] := by
    rw [Nat.mul_one]
    have : i < cs.toList.length := by simpa using (by omega : i < cs.size)
    rw [List.drop_eq_getElem_cons this]
    simp
  have hxi : xs[i]? = some (xs[i]'(by omega)) := List.getElem?_eq_getElem _
  rw [hg, hxi] at e
  obtain ⟨z, hz, hx', wz⟩ := DataW.trod_int Tryd.underlying5 e
  simp at hz
  have h1 := congrArg (fun l => l[i]?) hd2
  simp only [List.getElem?_map, hxi, Option.map_some, List.getElem?_range hi, hx', Option.some.injEq, DataW.lit.injEq, Lit.int.injEq, true_and] at h1
  rw [Array.getElem?_eq_getElem (by omega), hz, h1]
theorem glob_of {W : World} (h : laidMetH Tryd.prog laid1 W) : ∃ t, Bk W 0 t (c8 121665) := by
  rw [MakeChecks.laidMetH_plain _ _ _ (by kernel_rfl)] at h
  obtain ⟨ps, ⟨g0, t0, cs0, f0, p0, q0, hg0, ht0, hv0, hd0, hr0, hps⟩, _, hfz⟩ := h
  obtain rfl := Option.some.inj (gA24.symm.trans hg0)
  obtain rfl := Option.some.inj (tA24.symm.trans ht0)
  obtain rfl := cells_of_laid hd0
  have hm : MemPlace.cell 0 0 ∈ ps := by
    rw [hps]
    refine List.mem_append_left _ (List.mem_append_left _ ?_)
    rw [size_c8]
    decide
  obtain ⟨⟨c, t, hc⟩, _⟩ := hfz 0 0 hm
  refine ⟨t, ?_⟩
  have := hv0
  simp only [World.var?, gA24, Option.bind_some, hc] at this
  rw [Option.some.injEq] at this
  rw [← this]
  exact hc
/-- The door's own heap meets the condition. -/
theorem door_met (os : Os) (args : Array Value) : laidMetH Tryd.prog laid1 ((World.doorLaid Tryd.prog 29 os).forCall (fun _ _ => 0) ⟨#[], args, []⟩).memory :=
  laidMetH_of_parts3 (fuel := 8) (laidMet_of_run' 8 (by kernel_rfl) (by kernel_rfl)) (by kernel_rfl) (by kernel_rfl)
end Go.Proofs.YtkmgdpbmkbpkjaaDoor
