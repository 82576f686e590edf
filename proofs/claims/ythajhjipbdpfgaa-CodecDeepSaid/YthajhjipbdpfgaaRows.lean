/-
  No cell of these rows narrows 'for every input' (looked for: loops, veiled, ifaces, maps, wideKeys, modest, calm, conditions, laid).
  DERIVED. THE GIVEN ROWS OF THIS SEAT. 7 by the template 'for every input the law returns true; each argument reads behind the call as it read before'; 0 by the template 'total and deterministic' (their statements: YthajhjipbdpfgaaTotals.lean).
  GIVEN WITH THE SEED: the statements are not yours to turn. If you find one false, say at which input.
  Laid BY PROGRAM, IN A SANDBOX (cutbox-rows.mjs): the forced cells as the released guide's own fill.sh prints them over the translation 9bfef076724179a0… (all of the seat's roots in one cut). By AI agents, Wed Nov 11 2026. No macro, syntax, notation, axiom, sorry.
-/
import Derived.Test.YthajhjipbdpfgaaChecked
import GoSem.Claim
import GoSem.ClaimJoined
import GoSem.ClaimMapViews
import Derived.JoinedTies
import Derived.KernelRfl
namespace Go.Proofs.Ythajhjipbdpfgaa
/- THE CELL 'sum', in the pinned program and in every row, IS THE sha256 OF THE DUMP (.gsa) THAT YthajhjipbdpfgaaProg.lean LOADS. Nothing in Lean hashes anything: it is a label: what it is worth is what the hold of that sum in a sandbox is worth. -/
noncomputable def Try.pinned : Pinned := { name := "ythajhjipbdpfgaa", sum := "9bfef076724179a0896a10f17c5d582b4e6270c4e933411dcd6e2e909e4f4e6f", checked := Try.checked }
namespace Rows
def none {H : Type} : Left H := { results := [], args := [] }

/-- 'signetringlaw08.CodecJoins': WHATEVER THE INPUT: true; the input reads as it did. -/
def codecJoinsSpec : ChangeSpec := { name := "codecJoins", fn := fun _ => fun
  | [d1, d2, d3] => { results := [.lit (.bool true)], args := [d1, d2, d3] }
  | _ => none }
def codecJoinsRow : OpenClaim := { program := "ythajhjipbdpfgaa", sum := "9bfef076724179a0896a10f17c5d582b4e6270c4e933411dcd6e2e909e4f4e6f", func := "signetring/signetringlaw08.CodecJoins", spec := "codecJoins", inPlace := ["internal/abi.NoEscape"], apart := false }
def CodecJoinsSaid : Prop := codecJoinsRow.holds Try.pinned (OpenSpec.ofChange codecJoinsSpec)

/-- ITS FALSE NEIGHBOUR: 'it returns false'. Refute it at one input. -/
def codecJoinsWrong : ChangeSpec := { name := "codecJoins", fn := fun _ => fun
  | [d1, d2, d3] => { results := [.lit (.bool false)], args := [d1, d2, d3] }
  | _ => none }
def CodecJoinsWrongFalsely : Prop := codecJoinsRow.holds Try.pinned (OpenSpec.ofChange codecJoinsWrong)

/-- 'signetringlaw08.CodecSplits': WHATEVER THE INPUT: true; the input reads as it did. -/
def codecSplitsSpec : ChangeSpec := { name := "codecSplits", fn := fun _ => fun
  | [d1, d2, d3] => { results := [.lit (.bool true)], args := [d1, d2, d3] }
  | _ => none }
def codecSplitsRow : OpenClaim := { program := "ythajhjipbdpfgaa", sum := "9bfef076724179a0896a10f17c5d582b4e6270c4e933411dcd6e2e909e4f4e6f", func := "signetring/signetringlaw08.CodecSplits", spec := "codecSplits", inPlace := ["internal/abi.NoEscape"], apart := false }
def CodecSplitsSaid : Prop := codecSplitsRow.holds Try.pinned (OpenSpec.ofChange codecSplitsSpec)

/-- ITS FALSE NEIGHBOUR: 'it returns false'. Refute it at one input. -/
def codecSplitsWrong : ChangeSpec := { name := "codecSplits", fn := fun _ => fun
  | [d1, d2, d3] => { results := [.lit (.bool false)], args := [d1, d2, d3] }
  | _ => none }
def CodecSplitsWrongFalsely : Prop := codecSplitsRow.holds Try.pinned (OpenSpec.ofChange codecSplitsWrong)

/-- 'signetringlaw08.CodecNumbers': WHATEVER THE INPUT: true; the input reads as it did. -/
def codecNumbersSpec : ChangeSpec := { name := "codecNumbers", fn := fun _ => fun
  | [d1, d2, d3] => { results := [.lit (.bool true)], args := [d1, d2, d3] }
  | _ => none }
def codecNumbersRow : OpenClaim := { program := "ythajhjipbdpfgaa", sum := "9bfef076724179a0896a10f17c5d582b4e6270c4e933411dcd6e2e909e4f4e6f", func := "signetring/signetringlaw08.CodecNumbers", spec := "codecNumbers", inPlace := ["internal/abi.NoEscape"], apart := false }
def CodecNumbersSaid : Prop := codecNumbersRow.holds Try.pinned (OpenSpec.ofChange codecNumbersSpec)

/-- ITS FALSE NEIGHBOUR: 'it returns false'. Refute it at one input. -/
def codecNumbersWrong : ChangeSpec := { name := "codecNumbers", fn := fun _ => fun
  | [d1, d2, d3] => { results := [.lit (.bool false)], args := [d1, d2, d3] }
  | _ => none }
def CodecNumbersWrongFalsely : Prop := codecNumbersRow.holds Try.pinned (OpenSpec.ofChange codecNumbersWrong)

/-- 'signetringlaw08.CodecOne': WHATEVER THE INPUT: true; the input reads as it did. -/
def codecOneSpec : ChangeSpec := { name := "codecOne", fn := fun _ => fun
  | [d1, d2, d3] => { results := [.lit (.bool true)], args := [d1, d2, d3] }
  | _ => none }
def codecOneRow : OpenClaim := { program := "ythajhjipbdpfgaa", sum := "9bfef076724179a0896a10f17c5d582b4e6270c4e933411dcd6e2e909e4f4e6f", func := "signetring/signetringlaw08.CodecOne", spec := "codecOne", inPlace := ["internal/abi.NoEscape"], apart := false }
def CodecOneSaid : Prop := codecOneRow.holds Try.pinned (OpenSpec.ofChange codecOneSpec)

/-- ITS FALSE NEIGHBOUR: 'it returns false'. Refute it at one input. -/
def codecOneWrong : ChangeSpec := { name := "codecOne", fn := fun _ => fun
  | [d1, d2, d3] => { results := [.lit (.bool false)], args := [d1, d2, d3] }
  | _ => none }
def CodecOneWrongFalsely : Prop := codecOneRow.holds Try.pinned (OpenSpec.ofChange codecOneWrong)

/-- 'signetringlaw08.CodecSizes': WHATEVER THE INPUT: true; the input reads as it did. -/
def codecSizesSpec : ChangeSpec := { name := "codecSizes", fn := fun _ => fun
  | [d1, d2] => { results := [.lit (.bool true)], args := [d1, d2] }
  | _ => none }
def codecSizesRow : OpenClaim := { program := "ythajhjipbdpfgaa", sum := "9bfef076724179a0896a10f17c5d582b4e6270c4e933411dcd6e2e909e4f4e6f", func := "signetring/signetringlaw08.CodecSizes", spec := "codecSizes", inPlace := ["internal/abi.NoEscape"], apart := false }
def CodecSizesSaid : Prop := codecSizesRow.holds Try.pinned (OpenSpec.ofChange codecSizesSpec)

/-- ITS FALSE NEIGHBOUR: 'it returns false'. Refute it at one input. -/
def codecSizesWrong : ChangeSpec := { name := "codecSizes", fn := fun _ => fun
  | [d1, d2] => { results := [.lit (.bool false)], args := [d1, d2] }
  | _ => none }
def CodecSizesWrongFalsely : Prop := codecSizesRow.holds Try.pinned (OpenSpec.ofChange codecSizesWrong)

/-- 'signetringlaw08.CodecDeep': WHATEVER THE INPUT: true; the input reads as it did. -/
def codecDeepSpec : ChangeSpec := { name := "codecDeep", fn := fun _ => fun
  | [d1, d2, d3] => { results := [.lit (.bool true)], args := [d1, d2, d3] }
  | _ => none }
def codecDeepRow : OpenClaim := { program := "ythajhjipbdpfgaa", sum := "9bfef076724179a0896a10f17c5d582b4e6270c4e933411dcd6e2e909e4f4e6f", func := "signetring/signetringlaw08.CodecDeep", spec := "codecDeep", inPlace := ["internal/abi.NoEscape"], apart := false }
def CodecDeepSaid : Prop := codecDeepRow.holds Try.pinned (OpenSpec.ofChange codecDeepSpec)

/-- ITS FALSE NEIGHBOUR: 'it returns false'. Refute it at one input. -/
def codecDeepWrong : ChangeSpec := { name := "codecDeep", fn := fun _ => fun
  | [d1, d2, d3] => { results := [.lit (.bool false)], args := [d1, d2, d3] }
  | _ => none }
def CodecDeepWrongFalsely : Prop := codecDeepRow.holds Try.pinned (OpenSpec.ofChange codecDeepWrong)

/-- 'signetringlaw08.CodecKinds': WHATEVER THE INPUT: true; the input reads as it did. -/
def codecKindsSpec : ChangeSpec := { name := "codecKinds", fn := fun _ => fun
  | [d1, d2, d3] => { results := [.lit (.bool true)], args := [d1, d2, d3] }
  | _ => none }
def codecKindsRow : OpenClaim := { program := "ythajhjipbdpfgaa", sum := "9bfef076724179a0896a10f17c5d582b4e6270c4e933411dcd6e2e909e4f4e6f", func := "signetring/signetringlaw08.CodecKinds", spec := "codecKinds", inPlace := ["internal/abi.NoEscape"], apart := false }
def CodecKindsSaid : Prop := codecKindsRow.holds Try.pinned (OpenSpec.ofChange codecKindsSpec)

/-- ITS FALSE NEIGHBOUR: 'it returns false'. Refute it at one input. -/
def codecKindsWrong : ChangeSpec := { name := "codecKinds", fn := fun _ => fun
  | [d1, d2, d3] => { results := [.lit (.bool false)], args := [d1, d2, d3] }
  | _ => none }
def CodecKindsWrongFalsely : Prop := codecKindsRow.holds Try.pinned (OpenSpec.ofChange codecKindsWrong)

/- THE SECOND FORM. 'bulk': how many values and letters a reading holds, each counted each time it is reached (what is shared counts as often as it is met; a slice's spare places count too). A statement '..UptoSaid' is the law's where the arguments, and the package variables that the reading takes, are together of bulk at most 1048576: NARROWER than '..Said'. Prove '..Said' where nothing that the law and all that it calls make is longer than what came in: it says more and counts as full. Else prove '..UptoSaid'. A law counts once. -/
mutual
def uptoBulk {H : Type} : DataW H → Nat
  | .lit (.string bytes) => bytes.length + 1
  | .lit _ => 1
  | .nil => 1
  | .ptr d => uptoBulk d + 1
  | .slice elems spare => uptoBulkAll elems + uptoBulkAll spare + 1
  | .agg parts => uptoBulkAll parts + 1
  | .iface _ d => uptoBulk d + 1
  | .map entries => uptoBulkEntries entries + 1
  | .held _ => 1
def uptoBulkAll {H : Type} : List (DataW H) → Nat
  | [] => 0
  | d :: r => uptoBulk d + uptoBulkAll r
def uptoBulkEntries {H : Type} : List (Lit × DataW H) → Nat
  | [] => 0
  | x :: r => uptoBulkEntry x + uptoBulkEntries r
def uptoBulkEntry {H : Type} : Lit × DataW H → Nat
  | (.string bytes, d) => bytes.length + uptoBulk d + 1
  | (_, d) => uptoBulk d + 1
 end
def uptoSmall : (H : Type) → List (DataW H) → Bool := fun _ ds => decide (uptoBulkAll ds ≤ 1048576)
def OpenSpec.upto (s : _root_.Go.ChangeSpec) : _root_.Go.OpenSpec := { _root_.Go.OpenSpec.ofChange s with cond := some uptoSmall }

/-- 'signetringlaw08.CodecJoins', WHERE WHAT IT READS IS OF BULK AT MOST 1048576: true; the input reads as it did. -/
def codecJoinsUptoRow : OpenClaim := { program := "ythajhjipbdpfgaa", sum := "9bfef076724179a0896a10f17c5d582b4e6270c4e933411dcd6e2e909e4f4e6f", func := "signetring/signetringlaw08.CodecJoins", spec := "codecJoins", inPlace := ["internal/abi.NoEscape"], apart := false, narrowed := true }
def CodecJoinsUptoSaid : Prop := codecJoinsUptoRow.holds Try.pinned (OpenSpec.upto codecJoinsSpec)

/-- 'signetringlaw08.CodecSplits', WHERE WHAT IT READS IS OF BULK AT MOST 1048576: true; the input reads as it did. -/
def codecSplitsUptoRow : OpenClaim := { program := "ythajhjipbdpfgaa", sum := "9bfef076724179a0896a10f17c5d582b4e6270c4e933411dcd6e2e909e4f4e6f", func := "signetring/signetringlaw08.CodecSplits", spec := "codecSplits", inPlace := ["internal/abi.NoEscape"], apart := false, narrowed := true }
def CodecSplitsUptoSaid : Prop := codecSplitsUptoRow.holds Try.pinned (OpenSpec.upto codecSplitsSpec)

/-- 'signetringlaw08.CodecNumbers', WHERE WHAT IT READS IS OF BULK AT MOST 1048576: true; the input reads as it did. -/
def codecNumbersUptoRow : OpenClaim := { program := "ythajhjipbdpfgaa", sum := "9bfef076724179a0896a10f17c5d582b4e6270c4e933411dcd6e2e909e4f4e6f", func := "signetring/signetringlaw08.CodecNumbers", spec := "codecNumbers", inPlace := ["internal/abi.NoEscape"], apart := false, narrowed := true }
def CodecNumbersUptoSaid : Prop := codecNumbersUptoRow.holds Try.pinned (OpenSpec.upto codecNumbersSpec)

/-- 'signetringlaw08.CodecOne', WHERE WHAT IT READS IS OF BULK AT MOST 1048576: true; the input reads as it did. -/
def codecOneUptoRow : OpenClaim := { program := "ythajhjipbdpfgaa", sum := "9bfef076724179a0896a10f17c5d582b4e6270c4e933411dcd6e2e909e4f4e6f", func := "signetring/signetringlaw08.CodecOne", spec := "codecOne", inPlace := ["internal/abi.NoEscape"], apart := false, narrowed := true }
def CodecOneUptoSaid : Prop := codecOneUptoRow.holds Try.pinned (OpenSpec.upto codecOneSpec)

/-- 'signetringlaw08.CodecSizes', WHERE WHAT IT READS IS OF BULK AT MOST 1048576: true; the input reads as it did. -/
def codecSizesUptoRow : OpenClaim := { program := "ythajhjipbdpfgaa", sum := "9bfef076724179a0896a10f17c5d582b4e6270c4e933411dcd6e2e909e4f4e6f", func := "signetring/signetringlaw08.CodecSizes", spec := "codecSizes", inPlace := ["internal/abi.NoEscape"], apart := false, narrowed := true }
def CodecSizesUptoSaid : Prop := codecSizesUptoRow.holds Try.pinned (OpenSpec.upto codecSizesSpec)

/-- 'signetringlaw08.CodecDeep', WHERE WHAT IT READS IS OF BULK AT MOST 1048576: true; the input reads as it did. -/
def codecDeepUptoRow : OpenClaim := { program := "ythajhjipbdpfgaa", sum := "9bfef076724179a0896a10f17c5d582b4e6270c4e933411dcd6e2e909e4f4e6f", func := "signetring/signetringlaw08.CodecDeep", spec := "codecDeep", inPlace := ["internal/abi.NoEscape"], apart := false, narrowed := true }
def CodecDeepUptoSaid : Prop := codecDeepUptoRow.holds Try.pinned (OpenSpec.upto codecDeepSpec)

/-- 'signetringlaw08.CodecKinds', WHERE WHAT IT READS IS OF BULK AT MOST 1048576: true; the input reads as it did. -/
def codecKindsUptoRow : OpenClaim := { program := "ythajhjipbdpfgaa", sum := "9bfef076724179a0896a10f17c5d582b4e6270c4e933411dcd6e2e909e4f4e6f", func := "signetring/signetringlaw08.CodecKinds", spec := "codecKinds", inPlace := ["internal/abi.NoEscape"], apart := false, narrowed := true }
def CodecKindsUptoSaid : Prop := codecKindsUptoRow.holds Try.pinned (OpenSpec.upto codecKindsSpec)

end Rows
end Go.Proofs.Ythajhjipbdpfgaa
