/- What the printed texts share. -/
import Derived.Test.YthajhjipbdpfgaaProg
import Derived.Below
import Derived.Deep.Draws
import Derived.Deep.AppendLies
import Derived.Maps.AppendAt
import Derived.OwnWalk
import Derived.Laws.BytesArg
import Derived.Laws.MakeOwn
import Derived.Laws.OwnMore
import Derived.Deep.OwnRows
import Derived.Tactics
import Derived.Lib.ConvBytes
import Derived.Laws.Slices
import Derived.WalkKit
import Derived.KernelRfl
import Derived.RowKit3
import Derived.Deep.LoopGhost
import Derived.Deep.QuietTactic
import Derived.BigQuiet
import Derived.WideLaws
import Derived.Deep.DeepCutAuto
import Derived.Deep.CutBlock
import Derived.Deep.RegionHeld3
import Derived.Laws.Rows
import Derived.Lib.AppendStr
import Derived.ArgAppend
import Derived.Laws.IdiomCopy
import Derived.OrdersHeld
import Derived.Laws.BitsLemmas
import Derived.RowKit
import Derived.Test.YthajhjipbdpfgaaWWords
import Derived.Test.YthajhjipbdpfgaaWLast
import Derived.Test.YthajhjipbdpfgaaWTab
import Derived.Test.YthajhjipbdpfgaaWFour
import Derived.Test.YthajhjipbdpfgaaWQPut
import Derived.Test.YthajhjipbdpfgaaWApart
import Derived.Test.YthajhjipbdpfgaaWArr
import Derived.Test.YthajhjipbdpfgaaWZeros
import Derived.Test.YthajhjipbdpfgaaWFoot
import Derived.Test.YthajhjipbdpfgaaWKept
import Derived.Test.YthajhjipbdpfgaaWShare
import Derived.Test.YthajhjipbdpfgaaWN
import Derived.Test.YthajhjipbdpfgaaWFootNe
import Derived.Test.YthajhjipbdpfgaaWAt
import Derived.Test.YthajhjipbdpfgaaWEqStruct
import Derived.Test.YthajhjipbdpfgaaWRepsOne
import Derived.Test.YthajhjipbdpfgaaWInv
import Derived.Test.YthajhjipbdpfgaaWInvWords
import Derived.Test.YthajhjipbdpfgaaWGuard
import Derived.Test.YthajhjipbdpfgaaWNEv
import Derived.Test.YthajhjipbdpfgaaWMore
namespace Go.Proofs.Ythajhjipbdpfgaa.C
open Go.RowKit Go.Proofs.YthajhjipbdpfgaaW.PrintWords Go.Proofs.YthajhjipbdpfgaaW.PrintLast Go.Proofs.YthajhjipbdpfgaaW.PrintMore
attribute [local go_sem] max2_int min2_int max_two min_two max_three min_three max_four min_four   -- for this text's walks alone
set_option linter.unusedVariables false
set_option linter.unusedSimpArgs false



def errW : Option Int → Value
  | none => .nilIface
  | some c => .iface 0 (.int .i64 c)
theorem errW_none : errW none = .nilIface := rfl
theorem errW_some (c : Int) : errW (some c) = .iface 0 (.int .i64 c) := rfl

theorem info5 : (Try.prog.info? 5).map (fun i => (i.zero, i.size, i.bytes)) = some (some (.int .u8 0), 1, 1) := by kernel_rfl
theorem info9 : (Try.prog.info? 9).map (fun i => (i.zero, i.size, i.bytes)) = some (some (.string ⟨#[]⟩), 1, 16) := by kernel_rfl
-- the values' own types

end Go.Proofs.Ythajhjipbdpfgaa.C
