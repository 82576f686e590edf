/-
  No cell of these rows narrows 'for every input' (looked for: loops, veiled, ifaces, maps, wideKeys, modest, calm, conditions, laid).
  DERIVED. THE GIVEN ROWS OF THIS SEAT. 8 by the template 'for every input the law returns true; each argument reads behind the call as it read before'; 0 by the template 'total and deterministic' (their statements: YtkmgdpbmkbpkjaaTotals.lean).
  GIVEN WITH THE SEED: the statements are not yours to turn. If you find one false, say at which input.
  Laid BY PROGRAM, IN A SANDBOX (cutbox-rows.mjs): the forced cells as the released guide's own fill.sh prints them over the translation 4d64e94e74699064… (all of the seat's roots in one cut). By AI agents, Wed Nov 11 2026. No macro, syntax, notation, axiom, sorry.
-/
import Derived.Test.YtkmgdpbmkbpkjaaChecked
import GoSem.Claim
import GoSem.ClaimJoined
import GoSem.ClaimMapViews
import Derived.JoinedTies
import Derived.KernelRfl
namespace Go.Proofs.Ytkmgdpbmkbpkjaa
/- THE CELL 'sum', in the pinned program and in every row, IS THE sha256 OF THE DUMP (.gsa) THAT YtkmgdpbmkbpkjaaProg.lean LOADS. Nothing in Lean hashes anything: it is a label: what it is worth is what the hold of that sum in a sandbox is worth. -/
noncomputable def Try.pinned : Pinned := { name := "ytkmgdpbmkbpkjaa", sum := "4d64e94e74699064928c7fa34b5a09990d5bd2e95ae1e0afd3ee25041f676330", checked := Try.checked }
namespace Rows
def none {H : Type} : Left H := { results := [], args := [] }

/-- 'signetringlaw01.LimbInverts': WHATEVER THE INPUT: true; the input reads as it did. -/
def limbInvertsSpec : ChangeSpec := { name := "limbInverts", fn := fun _ => fun
  | [d] => { results := [.lit (.bool true)], args := [d] }
  | _ => none }
def limbInvertsRow : OpenClaim := { program := "ytkmgdpbmkbpkjaa", sum := "4d64e94e74699064928c7fa34b5a09990d5bd2e95ae1e0afd3ee25041f676330", func := "signetring/signetringlaw01.LimbInverts", spec := "limbInverts", inPlace := ["math/bits.Add64"], apart := false }
def LimbInvertsSaid : Prop := limbInvertsRow.holds Try.pinned (OpenSpec.ofChange limbInvertsSpec)

/-- ITS FALSE NEIGHBOUR: 'it returns false'. Refute it at one input. -/
def limbInvertsWrong : ChangeSpec := { name := "limbInverts", fn := fun _ => fun
  | [d] => { results := [.lit (.bool false)], args := [d] }
  | _ => none }
def LimbInvertsWrongFalsely : Prop := limbInvertsRow.holds Try.pinned (OpenSpec.ofChange limbInvertsWrong)

/-- 'signetringlaw01.LimbField': WHATEVER THE INPUT: true; the input reads as it did. -/
def limbFieldSpec : ChangeSpec := { name := "limbField", fn := fun _ => fun
  | [d1, d2, d3] => { results := [.lit (.bool true)], args := [d1, d2, d3] }
  | _ => none }
def limbFieldRow : OpenClaim := { program := "ytkmgdpbmkbpkjaa", sum := "4d64e94e74699064928c7fa34b5a09990d5bd2e95ae1e0afd3ee25041f676330", func := "signetring/signetringlaw01.LimbField", spec := "limbField", inPlace := ["math/bits.Add64"], apart := false }
def LimbFieldSaid : Prop := limbFieldRow.holds Try.pinned (OpenSpec.ofChange limbFieldSpec)

/-- ITS FALSE NEIGHBOUR: 'it returns false'. Refute it at one input. -/
def limbFieldWrong : ChangeSpec := { name := "limbField", fn := fun _ => fun
  | [d1, d2, d3] => { results := [.lit (.bool false)], args := [d1, d2, d3] }
  | _ => none }
def LimbFieldWrongFalsely : Prop := limbFieldRow.holds Try.pinned (OpenSpec.ofChange limbFieldWrong)

/-- 'signetringlaw01.LimbBelow': WHATEVER THE INPUT: true; the input reads as it did. -/
def limbBelowSpec : ChangeSpec := { name := "limbBelow", fn := fun _ => fun
  | [d1, d2] => { results := [.lit (.bool true)], args := [d1, d2] }
  | _ => none }
def limbBelowRow : OpenClaim := { program := "ytkmgdpbmkbpkjaa", sum := "4d64e94e74699064928c7fa34b5a09990d5bd2e95ae1e0afd3ee25041f676330", func := "signetring/signetringlaw01.LimbBelow", spec := "limbBelow", inPlace := ["math/bits.Add64"], apart := false }
def LimbBelowSaid : Prop := limbBelowRow.holds Try.pinned (OpenSpec.ofChange limbBelowSpec)

/-- ITS FALSE NEIGHBOUR: 'it returns false'. Refute it at one input. -/
def limbBelowWrong : ChangeSpec := { name := "limbBelow", fn := fun _ => fun
  | [d1, d2] => { results := [.lit (.bool false)], args := [d1, d2] }
  | _ => none }
def LimbBelowWrongFalsely : Prop := limbBelowRow.holds Try.pinned (OpenSpec.ofChange limbBelowWrong)

/-- 'signetringlaw01.LimbProducts': WHATEVER THE INPUT: true; the input reads as it did. -/
def limbProductsSpec : ChangeSpec := { name := "limbProducts", fn := fun _ => fun
  | [d1, d2] => { results := [.lit (.bool true)], args := [d1, d2] }
  | _ => none }
def limbProductsRow : OpenClaim := { program := "ytkmgdpbmkbpkjaa", sum := "4d64e94e74699064928c7fa34b5a09990d5bd2e95ae1e0afd3ee25041f676330", func := "signetring/signetringlaw01.LimbProducts", spec := "limbProducts", inPlace := ["math/bits.Add64"], apart := false }
def LimbProductsSaid : Prop := limbProductsRow.holds Try.pinned (OpenSpec.ofChange limbProductsSpec)

/-- ITS FALSE NEIGHBOUR: 'it returns false'. Refute it at one input. -/
def limbProductsWrong : ChangeSpec := { name := "limbProducts", fn := fun _ => fun
  | [d1, d2] => { results := [.lit (.bool false)], args := [d1, d2] }
  | _ => none }
def LimbProductsWrongFalsely : Prop := limbProductsRow.holds Try.pinned (OpenSpec.ofChange limbProductsWrong)

/-- 'signetringlaw01.LimbSquares': WHATEVER THE INPUT: true; the input reads as it did. -/
def limbSquaresSpec : ChangeSpec := { name := "limbSquares", fn := fun _ => fun
  | [d1, d2] => { results := [.lit (.bool true)], args := [d1, d2] }
  | _ => none }
def limbSquaresRow : OpenClaim := { program := "ytkmgdpbmkbpkjaa", sum := "4d64e94e74699064928c7fa34b5a09990d5bd2e95ae1e0afd3ee25041f676330", func := "signetring/signetringlaw01.LimbSquares", spec := "limbSquares", inPlace := ["math/bits.Add64"], apart := false }
def LimbSquaresSaid : Prop := limbSquaresRow.holds Try.pinned (OpenSpec.ofChange limbSquaresSpec)

/-- ITS FALSE NEIGHBOUR: 'it returns false'. Refute it at one input. -/
def limbSquaresWrong : ChangeSpec := { name := "limbSquares", fn := fun _ => fun
  | [d1, d2] => { results := [.lit (.bool false)], args := [d1, d2] }
  | _ => none }
def LimbSquaresWrongFalsely : Prop := limbSquaresRow.holds Try.pinned (OpenSpec.ofChange limbSquaresWrong)

/-- 'signetringlaw01.LimbSums': WHATEVER THE INPUT: true; the input reads as it did. -/
def limbSumsSpec : ChangeSpec := { name := "limbSums", fn := fun _ => fun
  | [d1, d2] => { results := [.lit (.bool true)], args := [d1, d2] }
  | _ => none }
def limbSumsRow : OpenClaim := { program := "ytkmgdpbmkbpkjaa", sum := "4d64e94e74699064928c7fa34b5a09990d5bd2e95ae1e0afd3ee25041f676330", func := "signetring/signetringlaw01.LimbSums", spec := "limbSums", inPlace := ["math/bits.Add64"], apart := false }
def LimbSumsSaid : Prop := limbSumsRow.holds Try.pinned (OpenSpec.ofChange limbSumsSpec)

/-- ITS FALSE NEIGHBOUR: 'it returns false'. Refute it at one input. -/
def limbSumsWrong : ChangeSpec := { name := "limbSums", fn := fun _ => fun
  | [d1, d2] => { results := [.lit (.bool false)], args := [d1, d2] }
  | _ => none }
def LimbSumsWrongFalsely : Prop := limbSumsRow.holds Try.pinned (OpenSpec.ofChange limbSumsWrong)

/-- 'signetringlaw01.LimbQuotients': WHATEVER THE INPUT: true; the input reads as it did. -/
def limbQuotientsSpec : ChangeSpec := { name := "limbQuotients", fn := fun _ => fun
  | [d1, d2] => { results := [.lit (.bool true)], args := [d1, d2] }
  | _ => none }
def limbQuotientsRow : OpenClaim := { program := "ytkmgdpbmkbpkjaa", sum := "4d64e94e74699064928c7fa34b5a09990d5bd2e95ae1e0afd3ee25041f676330", func := "signetring/signetringlaw01.LimbQuotients", spec := "limbQuotients", inPlace := ["math/bits.Add64"], apart := false }
def LimbQuotientsSaid : Prop := limbQuotientsRow.holds Try.pinned (OpenSpec.ofChange limbQuotientsSpec)

/-- ITS FALSE NEIGHBOUR: 'it returns false'. Refute it at one input. -/
def limbQuotientsWrong : ChangeSpec := { name := "limbQuotients", fn := fun _ => fun
  | [d1, d2] => { results := [.lit (.bool false)], args := [d1, d2] }
  | _ => none }
def LimbQuotientsWrongFalsely : Prop := limbQuotientsRow.holds Try.pinned (OpenSpec.ofChange limbQuotientsWrong)

/-- 'signetringlaw01.LimbTells': WHATEVER THE INPUT: true; the input reads as it did. -/
def limbTellsSpec : ChangeSpec := { name := "limbTells", fn := fun _ => fun
  | [d1, d2, d3] => { results := [.lit (.bool true)], args := [d1, d2, d3] }
  | _ => none }
def limbTellsRow : OpenClaim := { program := "ytkmgdpbmkbpkjaa", sum := "4d64e94e74699064928c7fa34b5a09990d5bd2e95ae1e0afd3ee25041f676330", func := "signetring/signetringlaw01.LimbTells", spec := "limbTells", inPlace := ["math/bits.Add64"], apart := false }
def LimbTellsSaid : Prop := limbTellsRow.holds Try.pinned (OpenSpec.ofChange limbTellsSpec)

/-- ITS FALSE NEIGHBOUR: 'it returns false'. Refute it at one input. -/
def limbTellsWrong : ChangeSpec := { name := "limbTells", fn := fun _ => fun
  | [d1, d2, d3] => { results := [.lit (.bool false)], args := [d1, d2, d3] }
  | _ => none }
def LimbTellsWrongFalsely : Prop := limbTellsRow.holds Try.pinned (OpenSpec.ofChange limbTellsWrong)

/- THE SECOND FORM. 'bulk': how many values and letters a reading holds, each counted each time it is reached (what is shared counts as often as it is met; a slice's spare places count too). A statement '..UptoSaid' is the law's where the arguments, and the package variables that the reading takes, are together of bulk at most 1048576: NARROWER than '..Said'. Prove '..Said' where nothing that the law and all that it calls make is longer than what came in: it says more and counts as full. Else prove '..UptoSaid'. A law counts once. -/
mutual
def uptoBulk {H : Type} : DataW H → Nat
  | .lit (.string bytes) => bytes.length + 1
  | .lit _ => 1
  | .nil => 1
  | .ptr d => uptoBulk d + 1
  | .slice elems spare => uptoBulkAll elems + uptoBulkAll spare + 1
  | .agg parts => uptoBulkAll parts + 1
  | .iface _ d => uptoBulk d + 1
  | .map entries => uptoBulkEntries entries + 1
  | .held _ => 1
def uptoBulkAll {H : Type} : List (DataW H) → Nat
  | [] => 0
  | d :: r => uptoBulk d + uptoBulkAll r
def uptoBulkEntries {H : Type} : List (Lit × DataW H) → Nat
  | [] => 0
  | x :: r => uptoBulkEntry x + uptoBulkEntries r
def uptoBulkEntry {H : Type} : Lit × DataW H → Nat
  | (.string bytes, d) => bytes.length + uptoBulk d + 1
  | (_, d) => uptoBulk d + 1
 end
def uptoSmall : (H : Type) → List (DataW H) → Bool := fun _ ds => decide (uptoBulkAll ds ≤ 1048576)
def OpenSpec.upto (s : _root_.Go.ChangeSpec) : _root_.Go.OpenSpec := { _root_.Go.OpenSpec.ofChange s with cond := some uptoSmall }

/-- 'signetringlaw01.LimbInverts', WHERE WHAT IT READS IS OF BULK AT MOST 1048576: true; the input reads as it did. -/
def limbInvertsUptoRow : OpenClaim := { program := "ytkmgdpbmkbpkjaa", sum := "4d64e94e74699064928c7fa34b5a09990d5bd2e95ae1e0afd3ee25041f676330", func := "signetring/signetringlaw01.LimbInverts", spec := "limbInverts", inPlace := ["math/bits.Add64"], apart := false, narrowed := true }
def LimbInvertsUptoSaid : Prop := limbInvertsUptoRow.holds Try.pinned (OpenSpec.upto limbInvertsSpec)

/-- 'signetringlaw01.LimbField', WHERE WHAT IT READS IS OF BULK AT MOST 1048576: true; the input reads as it did. -/
def limbFieldUptoRow : OpenClaim := { program := "ytkmgdpbmkbpkjaa", sum := "4d64e94e74699064928c7fa34b5a09990d5bd2e95ae1e0afd3ee25041f676330", func := "signetring/signetringlaw01.LimbField", spec := "limbField", inPlace := ["math/bits.Add64"], apart := false, narrowed := true }
def LimbFieldUptoSaid : Prop := limbFieldUptoRow.holds Try.pinned (OpenSpec.upto limbFieldSpec)

/-- 'signetringlaw01.LimbBelow', WHERE WHAT IT READS IS OF BULK AT MOST 1048576: true; the input reads as it did. -/
def limbBelowUptoRow : OpenClaim := { program := "ytkmgdpbmkbpkjaa", sum := "4d64e94e74699064928c7fa34b5a09990d5bd2e95ae1e0afd3ee25041f676330", func := "signetring/signetringlaw01.LimbBelow", spec := "limbBelow", inPlace := ["math/bits.Add64"], apart := false, narrowed := true }
def LimbBelowUptoSaid : Prop := limbBelowUptoRow.holds Try.pinned (OpenSpec.upto limbBelowSpec)

/-- 'signetringlaw01.LimbProducts', WHERE WHAT IT READS IS OF BULK AT MOST 1048576: true; the input reads as it did. -/
def limbProductsUptoRow : OpenClaim := { program := "ytkmgdpbmkbpkjaa", sum := "4d64e94e74699064928c7fa34b5a09990d5bd2e95ae1e0afd3ee25041f676330", func := "signetring/signetringlaw01.LimbProducts", spec := "limbProducts", inPlace := ["math/bits.Add64"], apart := false, narrowed := true }
def LimbProductsUptoSaid : Prop := limbProductsUptoRow.holds Try.pinned (OpenSpec.upto limbProductsSpec)

/-- 'signetringlaw01.LimbSquares', WHERE WHAT IT READS IS OF BULK AT MOST 1048576: true; the input reads as it did. -/
def limbSquaresUptoRow : OpenClaim := { program := "ytkmgdpbmkbpkjaa", sum := "4d64e94e74699064928c7fa34b5a09990d5bd2e95ae1e0afd3ee25041f676330", func := "signetring/signetringlaw01.LimbSquares", spec := "limbSquares", inPlace := ["math/bits.Add64"], apart := false, narrowed := true }
def LimbSquaresUptoSaid : Prop := limbSquaresUptoRow.holds Try.pinned (OpenSpec.upto limbSquaresSpec)

/-- 'signetringlaw01.LimbSums', WHERE WHAT IT READS IS OF BULK AT MOST 1048576: true; the input reads as it did. -/
def limbSumsUptoRow : OpenClaim := { program := "ytkmgdpbmkbpkjaa", sum := "4d64e94e74699064928c7fa34b5a09990d5bd2e95ae1e0afd3ee25041f676330", func := "signetring/signetringlaw01.LimbSums", spec := "limbSums", inPlace := ["math/bits.Add64"], apart := false, narrowed := true }
def LimbSumsUptoSaid : Prop := limbSumsUptoRow.holds Try.pinned (OpenSpec.upto limbSumsSpec)

/-- 'signetringlaw01.LimbQuotients', WHERE WHAT IT READS IS OF BULK AT MOST 1048576: true; the input reads as it did. -/
def limbQuotientsUptoRow : OpenClaim := { program := "ytkmgdpbmkbpkjaa", sum := "4d64e94e74699064928c7fa34b5a09990d5bd2e95ae1e0afd3ee25041f676330", func := "signetring/signetringlaw01.LimbQuotients", spec := "limbQuotients", inPlace := ["math/bits.Add64"], apart := false, narrowed := true }
def LimbQuotientsUptoSaid : Prop := limbQuotientsUptoRow.holds Try.pinned (OpenSpec.upto limbQuotientsSpec)

/-- 'signetringlaw01.LimbTells', WHERE WHAT IT READS IS OF BULK AT MOST 1048576: true; the input reads as it did. -/
def limbTellsUptoRow : OpenClaim := { program := "ytkmgdpbmkbpkjaa", sum := "4d64e94e74699064928c7fa34b5a09990d5bd2e95ae1e0afd3ee25041f676330", func := "signetring/signetringlaw01.LimbTells", spec := "limbTells", inPlace := ["math/bits.Add64"], apart := false, narrowed := true }
def LimbTellsUptoSaid : Prop := limbTellsUptoRow.holds Try.pinned (OpenSpec.upto limbTellsSpec)

end Rows
end Go.Proofs.Ytkmgdpbmkbpkjaa
