/-
  NARROWER THAN 'FOR EVERY INPUT', by the rows' own cells (each row's printed sentence says how): WholeShared: laid · LadderTells: laid · LadderPublic: laid · LadderBoth: laid · LadderBits: laid · LadderSmall: laid · LadderRow: laid · LadderReduced: laid.
  DERIVED. THE GIVEN ROWS OF THIS SEAT. 8 by the template 'for every input the law returns true; each argument reads behind the call as it read before'; 0 by the template 'total and deterministic' (their statements: YtkmgdpbmkbpkjaaDoorTotals.lean).
  GIVEN WITH THE SEED: the statements are not yours to turn. If you find one false, say at which input.
  Laid BY PROGRAM, IN A SANDBOX (cutbox-rows.mjs): the forced cells as the released guide's own fill.sh prints them over the translation eae7d11114b26bfd… (all of the seat's roots in one cut). By AI agents, Wed Nov 11 2026. No macro, syntax, notation, axiom, sorry.
-/
import Derived.Test.YtkmgdpbmkbpkjaaDoorChecked
import GoSem.Claim
import GoSem.ClaimJoined
import GoSem.ClaimMapViews
import Derived.JoinedTies
import Derived.KernelRfl
namespace Go.Proofs.YtkmgdpbmkbpkjaaDoor
/- THE CELL 'sum', in the pinned program and in every row, IS THE sha256 OF THE DUMP (.gsa) THAT YtkmgdpbmkbpkjaaDoorProg.lean LOADS. Nothing in Lean hashes anything: it is a label: what it is worth is what the hold of that sum in a sandbox is worth. -/
noncomputable def Tryd.pinned : Pinned := { name := "ytkmgdpbmkbpkjaadoor", sum := "eae7d11114b26bfddec0dd6c983f86058e33ff09335b74b830c776531cc5afc0", checked := Tryd.checked }
namespace Rows
def none {H : Type} : Left H := { results := [], args := [] }

/- WHAT THE LISTED PACKAGE-LEVEL VARIABLES READ AS WHEN THE CALL BEGINS. Each datum BY PROGRAM (the guide's laid-datum.mjs) off the statement by which the dump's own 'gosem.cut.vars' lays the variable. In a bare row this is a premise. The card (YtkmgdpbmkbpkjaaDoorCards.lean) ties it to the program's text. -/
def laid_signetring_ladder_a24 {H : Type} : DataW H := .agg [.lit (.int .u8 65), .lit (.int .u8 219), .lit (.int .u8 1), .lit (.int .u8 0), .lit (.int .u8 0), .lit (.int .u8 0), .lit (.int .u8 0), .lit (.int .u8 0), .lit (.int .u8 0), .lit (.int .u8 0), .lit (.int .u8 0), .lit (.int .u8 0), .lit (.int .u8 0), .lit (.int .u8 0), .lit (.int .u8 0), .lit (.int .u8 0), .lit (.int .u8 0), .lit (.int .u8 0), .lit (.int .u8 0), .lit (.int .u8 0), .lit (.int .u8 0), .lit (.int .u8 0), .lit (.int .u8 0), .lit (.int .u8 0), .lit (.int .u8 0), .lit (.int .u8 0), .lit (.int .u8 0), .lit (.int .u8 0), .lit (.int .u8 0), .lit (.int .u8 0), .lit (.int .u8 0), .lit (.int .u8 0)]
def laid_signetring_stream_first {H : Type} : DataW H := .agg [.lit (.int .u32 1634760805), .lit (.int .u32 857760878), .lit (.int .u32 2036477234), .lit (.int .u32 1797285236)]
def laid_signetring_sha_start {H : Type} : DataW H := .agg [.lit (.int .u32 1779033703), .lit (.int .u32 3144134277), .lit (.int .u32 1013904242), .lit (.int .u32 2773480762), .lit (.int .u32 1359893119), .lit (.int .u32 2600822924), .lit (.int .u32 528734635), .lit (.int .u32 1541459225)]
def laid_signetring_sha_constants {H : Type} : DataW H := .agg [.lit (.int .u32 1116352408), .lit (.int .u32 1899447441), .lit (.int .u32 3049323471), .lit (.int .u32 3921009573), .lit (.int .u32 961987163), .lit (.int .u32 1508970993), .lit (.int .u32 2453635748), .lit (.int .u32 2870763221), .lit (.int .u32 3624381080), .lit (.int .u32 310598401), .lit (.int .u32 607225278), .lit (.int .u32 1426881987), .lit (.int .u32 1925078388), .lit (.int .u32 2162078206), .lit (.int .u32 2614888103), .lit (.int .u32 3248222580), .lit (.int .u32 3835390401), .lit (.int .u32 4022224774), .lit (.int .u32 264347078), .lit (.int .u32 604807628), .lit (.int .u32 770255983), .lit (.int .u32 1249150122), .lit (.int .u32 1555081692), .lit (.int .u32 1996064986), .lit (.int .u32 2554220882), .lit (.int .u32 2821834349), .lit (.int .u32 2952996808), .lit (.int .u32 3210313671), .lit (.int .u32 3336571891), .lit (.int .u32 3584528711), .lit (.int .u32 113926993), .lit (.int .u32 338241895), .lit (.int .u32 666307205), .lit (.int .u32 773529912), .lit (.int .u32 1294757372), .lit (.int .u32 1396182291), .lit (.int .u32 1695183700), .lit (.int .u32 1986661051), .lit (.int .u32 2177026350), .lit (.int .u32 2456956037), .lit (.int .u32 2730485921), .lit (.int .u32 2820302411), .lit (.int .u32 3259730800), .lit (.int .u32 3345764771), .lit (.int .u32 3516065817), .lit (.int .u32 3600352804), .lit (.int .u32 4094571909), .lit (.int .u32 275423344), .lit (.int .u32 430227734), .lit (.int .u32 506948616), .lit (.int .u32 659060556), .lit (.int .u32 883997877), .lit (.int .u32 958139571), .lit (.int .u32 1322822218), .lit (.int .u32 1537002063), .lit (.int .u32 1747873779), .lit (.int .u32 1955562222), .lit (.int .u32 2024104815), .lit (.int .u32 2227730452), .lit (.int .u32 2361852424), .lit (.int .u32 2428436474), .lit (.int .u32 2756734187), .lit (.int .u32 3204031479), .lit (.int .u32 3329325298)]

/-- 'signetringtop.WholeShared': WHATEVER THE INPUT: true; the input reads as it did. -/
def wholeSharedSpec : ChangeSpec := { name := "wholeShared", fn := fun _ => fun
  | [d1, d2, d3] => { results := [.lit (.bool true)], args := [d1, d2, d3] }
  | _ => none }
def wholeSharedRow : OpenClaim := { program := "ytkmgdpbmkbpkjaadoor", sum := "eae7d11114b26bfddec0dd6c983f86058e33ff09335b74b830c776531cc5afc0", func := "signetring/signetringtop.WholeShared", spec := "wholeShared", inPlace := ["math/bits.Add64"], unfollowed := true, recurses := true, named := ["signetring/ladder.a24", "signetring/sha.start", "signetring/sha.constants", "signetring/stream.first"], apart := false, laid := [("signetring/ladder.a24", laid_signetring_ladder_a24), ("signetring/stream.first", laid_signetring_stream_first), ("signetring/sha.start", laid_signetring_sha_start), ("signetring/sha.constants", laid_signetring_sha_constants)] }
def WholeSharedSaid : Prop := wholeSharedRow.holds Tryd.pinned (OpenSpec.ofChange wholeSharedSpec)

/-- ITS FALSE NEIGHBOUR: 'it returns false'. Refute it at one input. -/
def wholeSharedWrong : ChangeSpec := { name := "wholeShared", fn := fun _ => fun
  | [d1, d2, d3] => { results := [.lit (.bool false)], args := [d1, d2, d3] }
  | _ => none }
def WholeSharedWrongFalsely : Prop := wholeSharedRow.holds Tryd.pinned (OpenSpec.ofChange wholeSharedWrong)

/-- 'signetringlaw02.LadderTells': WHATEVER THE INPUT: true; the input reads as it did. -/
def ladderTellsSpec : ChangeSpec := { name := "ladderTells", fn := fun _ => fun
  | [d1, d2] => { results := [.lit (.bool true)], args := [d1, d2] }
  | _ => none }
def ladderTellsRow : OpenClaim := { program := "ytkmgdpbmkbpkjaadoor", sum := "eae7d11114b26bfddec0dd6c983f86058e33ff09335b74b830c776531cc5afc0", func := "signetring/signetringlaw02.LadderTells", spec := "ladderTells", inPlace := ["math/bits.Add64"], unfollowed := true, recurses := true, named := ["signetring/ladder.a24"], apart := false, laid := [("signetring/ladder.a24", laid_signetring_ladder_a24)] }
def LadderTellsSaid : Prop := ladderTellsRow.holds Tryd.pinned (OpenSpec.ofChange ladderTellsSpec)

/-- ITS FALSE NEIGHBOUR: 'it returns false'. Refute it at one input. -/
def ladderTellsWrong : ChangeSpec := { name := "ladderTells", fn := fun _ => fun
  | [d1, d2] => { results := [.lit (.bool false)], args := [d1, d2] }
  | _ => none }
def LadderTellsWrongFalsely : Prop := ladderTellsRow.holds Tryd.pinned (OpenSpec.ofChange ladderTellsWrong)

/-- 'signetringlaw02.LadderPublic': WHATEVER THE INPUT: true; the input reads as it did. -/
def ladderPublicSpec : ChangeSpec := { name := "ladderPublic", fn := fun _ => fun
  | [d] => { results := [.lit (.bool true)], args := [d] }
  | _ => none }
def ladderPublicRow : OpenClaim := { program := "ytkmgdpbmkbpkjaadoor", sum := "eae7d11114b26bfddec0dd6c983f86058e33ff09335b74b830c776531cc5afc0", func := "signetring/signetringlaw02.LadderPublic", spec := "ladderPublic", inPlace := ["math/bits.Add64"], unfollowed := true, recurses := true, named := ["signetring/ladder.a24"], apart := false, laid := [("signetring/ladder.a24", laid_signetring_ladder_a24)] }
def LadderPublicSaid : Prop := ladderPublicRow.holds Tryd.pinned (OpenSpec.ofChange ladderPublicSpec)

/-- ITS FALSE NEIGHBOUR: 'it returns false'. Refute it at one input. -/
def ladderPublicWrong : ChangeSpec := { name := "ladderPublic", fn := fun _ => fun
  | [d] => { results := [.lit (.bool false)], args := [d] }
  | _ => none }
def LadderPublicWrongFalsely : Prop := ladderPublicRow.holds Tryd.pinned (OpenSpec.ofChange ladderPublicWrong)

/-- 'signetringlaw02.LadderBoth': WHATEVER THE INPUT: true; the input reads as it did. -/
def ladderBothSpec : ChangeSpec := { name := "ladderBoth", fn := fun _ => fun
  | [d1, d2, d3] => { results := [.lit (.bool true)], args := [d1, d2, d3] }
  | _ => none }
def ladderBothRow : OpenClaim := { program := "ytkmgdpbmkbpkjaadoor", sum := "eae7d11114b26bfddec0dd6c983f86058e33ff09335b74b830c776531cc5afc0", func := "signetring/signetringlaw02.LadderBoth", spec := "ladderBoth", inPlace := ["math/bits.Add64"], unfollowed := true, recurses := true, named := ["signetring/ladder.a24"], apart := false, laid := [("signetring/ladder.a24", laid_signetring_ladder_a24)] }
def LadderBothSaid : Prop := ladderBothRow.holds Tryd.pinned (OpenSpec.ofChange ladderBothSpec)

/-- ITS FALSE NEIGHBOUR: 'it returns false'. Refute it at one input. -/
def ladderBothWrong : ChangeSpec := { name := "ladderBoth", fn := fun _ => fun
  | [d1, d2, d3] => { results := [.lit (.bool false)], args := [d1, d2, d3] }
  | _ => none }
def LadderBothWrongFalsely : Prop := ladderBothRow.holds Tryd.pinned (OpenSpec.ofChange ladderBothWrong)

/-- 'signetringlaw02.LadderBits': WHATEVER THE INPUT: true; the input reads as it did. -/
def ladderBitsSpec : ChangeSpec := { name := "ladderBits", fn := fun _ => fun
  | [d] => { results := [.lit (.bool true)], args := [d] }
  | _ => none }
def ladderBitsRow : OpenClaim := { program := "ytkmgdpbmkbpkjaadoor", sum := "eae7d11114b26bfddec0dd6c983f86058e33ff09335b74b830c776531cc5afc0", func := "signetring/signetringlaw02.LadderBits", spec := "ladderBits", inPlace := ["math/bits.Add64"], unfollowed := true, recurses := true, named := ["signetring/ladder.a24"], apart := false, laid := [("signetring/ladder.a24", laid_signetring_ladder_a24)] }
def LadderBitsSaid : Prop := ladderBitsRow.holds Tryd.pinned (OpenSpec.ofChange ladderBitsSpec)

/-- ITS FALSE NEIGHBOUR: 'it returns false'. Refute it at one input. -/
def ladderBitsWrong : ChangeSpec := { name := "ladderBits", fn := fun _ => fun
  | [d] => { results := [.lit (.bool false)], args := [d] }
  | _ => none }
def LadderBitsWrongFalsely : Prop := ladderBitsRow.holds Tryd.pinned (OpenSpec.ofChange ladderBitsWrong)

/-- 'signetringlaw02.LadderSmall': WHATEVER THE INPUT: true; the input reads as it did. -/
def ladderSmallSpec : ChangeSpec := { name := "ladderSmall", fn := fun _ => fun
  | [d1, d2, d3] => { results := [.lit (.bool true)], args := [d1, d2, d3] }
  | _ => none }
def ladderSmallRow : OpenClaim := { program := "ytkmgdpbmkbpkjaadoor", sum := "eae7d11114b26bfddec0dd6c983f86058e33ff09335b74b830c776531cc5afc0", func := "signetring/signetringlaw02.LadderSmall", spec := "ladderSmall", inPlace := ["math/bits.Add64"], unfollowed := true, recurses := true, named := ["signetring/ladder.a24"], apart := false, laid := [("signetring/ladder.a24", laid_signetring_ladder_a24)] }
def LadderSmallSaid : Prop := ladderSmallRow.holds Tryd.pinned (OpenSpec.ofChange ladderSmallSpec)

/-- ITS FALSE NEIGHBOUR: 'it returns false'. Refute it at one input. -/
def ladderSmallWrong : ChangeSpec := { name := "ladderSmall", fn := fun _ => fun
  | [d1, d2, d3] => { results := [.lit (.bool false)], args := [d1, d2, d3] }
  | _ => none }
def LadderSmallWrongFalsely : Prop := ladderSmallRow.holds Tryd.pinned (OpenSpec.ofChange ladderSmallWrong)

/-- 'signetringlaw02.LadderRow': WHATEVER THE INPUT: true; the input reads as it did. -/
def ladderRowSpec : ChangeSpec := { name := "ladderRow", fn := fun _ => fun
  | [d1, d2, d3] => { results := [.lit (.bool true)], args := [d1, d2, d3] }
  | _ => none }
def ladderRowRow : OpenClaim := { program := "ytkmgdpbmkbpkjaadoor", sum := "eae7d11114b26bfddec0dd6c983f86058e33ff09335b74b830c776531cc5afc0", func := "signetring/signetringlaw02.LadderRow", spec := "ladderRow", inPlace := ["math/bits.Add64"], unfollowed := true, recurses := true, named := ["signetring/ladder.a24"], apart := false, laid := [("signetring/ladder.a24", laid_signetring_ladder_a24)] }
def LadderRowSaid : Prop := ladderRowRow.holds Tryd.pinned (OpenSpec.ofChange ladderRowSpec)

/-- ITS FALSE NEIGHBOUR: 'it returns false'. Refute it at one input. -/
def ladderRowWrong : ChangeSpec := { name := "ladderRow", fn := fun _ => fun
  | [d1, d2, d3] => { results := [.lit (.bool false)], args := [d1, d2, d3] }
  | _ => none }
def LadderRowWrongFalsely : Prop := ladderRowRow.holds Tryd.pinned (OpenSpec.ofChange ladderRowWrong)

/-- 'signetringlaw02.LadderReduced': WHATEVER THE INPUT: true; the input reads as it did. -/
def ladderReducedSpec : ChangeSpec := { name := "ladderReduced", fn := fun _ => fun
  | [d1, d2] => { results := [.lit (.bool true)], args := [d1, d2] }
  | _ => none }
def ladderReducedRow : OpenClaim := { program := "ytkmgdpbmkbpkjaadoor", sum := "eae7d11114b26bfddec0dd6c983f86058e33ff09335b74b830c776531cc5afc0", func := "signetring/signetringlaw02.LadderReduced", spec := "ladderReduced", inPlace := ["math/bits.Add64"], unfollowed := true, recurses := true, named := ["signetring/ladder.a24"], apart := false, laid := [("signetring/ladder.a24", laid_signetring_ladder_a24)] }
def LadderReducedSaid : Prop := ladderReducedRow.holds Tryd.pinned (OpenSpec.ofChange ladderReducedSpec)

/-- ITS FALSE NEIGHBOUR: 'it returns false'. Refute it at one input. -/
def ladderReducedWrong : ChangeSpec := { name := "ladderReduced", fn := fun _ => fun
  | [d1, d2] => { results := [.lit (.bool false)], args := [d1, d2] }
  | _ => none }
def LadderReducedWrongFalsely : Prop := ladderReducedRow.holds Tryd.pinned (OpenSpec.ofChange ladderReducedWrong)

/- THE SECOND FORM. 'bulk': how many values and letters a reading holds, each counted each time it is reached (what is shared counts as often as it is met; a slice's spare places count too). A statement '..UptoSaid' is the law's where the arguments, and the package variables that the reading takes, are together of bulk at most 1048576: NARROWER than '..Said'. Prove '..Said' where nothing that the law and all that it calls make is longer than what came in: it says more and counts as full. Else prove '..UptoSaid'. A law counts once. -/
mutual
def uptoBulk {H : Type} : DataW H → Nat
  | .lit (.string bytes) => bytes.length + 1
  | .lit _ => 1
  | .nil => 1
  | .ptr d => uptoBulk d + 1
  | .slice elems spare => uptoBulkAll elems + uptoBulkAll spare + 1
  | .agg parts => uptoBulkAll parts + 1
  | .iface _ d => uptoBulk d + 1
  | .map entries => uptoBulkEntries entries + 1
  | .held _ => 1
def uptoBulkAll {H : Type} : List (DataW H) → Nat
  | [] => 0
  | d :: r => uptoBulk d + uptoBulkAll r
def uptoBulkEntries {H : Type} : List (Lit × DataW H) → Nat
  | [] => 0
  | x :: r => uptoBulkEntry x + uptoBulkEntries r
def uptoBulkEntry {H : Type} : Lit × DataW H → Nat
  | (.string bytes, d) => bytes.length + uptoBulk d + 1
  | (_, d) => uptoBulk d + 1
 end
def uptoSmall : (H : Type) → List (DataW H) → Bool := fun _ ds => decide (uptoBulkAll ds ≤ 1048576)
def OpenSpec.upto (s : _root_.Go.ChangeSpec) : _root_.Go.OpenSpec := { _root_.Go.OpenSpec.ofChange s with cond := some uptoSmall }

/-- 'signetringtop.WholeShared', WHERE WHAT IT READS IS OF BULK AT MOST 1048576: true; the input reads as it did. -/
def wholeSharedUptoRow : OpenClaim := { program := "ytkmgdpbmkbpkjaadoor", sum := "eae7d11114b26bfddec0dd6c983f86058e33ff09335b74b830c776531cc5afc0", func := "signetring/signetringtop.WholeShared", spec := "wholeShared", inPlace := ["math/bits.Add64"], unfollowed := true, recurses := true, named := ["signetring/ladder.a24", "signetring/sha.start", "signetring/sha.constants", "signetring/stream.first"], apart := false, laid := [("signetring/ladder.a24", laid_signetring_ladder_a24), ("signetring/stream.first", laid_signetring_stream_first), ("signetring/sha.start", laid_signetring_sha_start), ("signetring/sha.constants", laid_signetring_sha_constants)], narrowed := true }
def WholeSharedUptoSaid : Prop := wholeSharedUptoRow.holds Tryd.pinned (OpenSpec.upto wholeSharedSpec)

/-- 'signetringlaw02.LadderTells', WHERE WHAT IT READS IS OF BULK AT MOST 1048576: true; the input reads as it did. -/
def ladderTellsUptoRow : OpenClaim := { program := "ytkmgdpbmkbpkjaadoor", sum := "eae7d11114b26bfddec0dd6c983f86058e33ff09335b74b830c776531cc5afc0", func := "signetring/signetringlaw02.LadderTells", spec := "ladderTells", inPlace := ["math/bits.Add64"], unfollowed := true, recurses := true, named := ["signetring/ladder.a24"], apart := false, laid := [("signetring/ladder.a24", laid_signetring_ladder_a24)], narrowed := true }
def LadderTellsUptoSaid : Prop := ladderTellsUptoRow.holds Tryd.pinned (OpenSpec.upto ladderTellsSpec)

/-- 'signetringlaw02.LadderPublic', WHERE WHAT IT READS IS OF BULK AT MOST 1048576: true; the input reads as it did. -/
def ladderPublicUptoRow : OpenClaim := { program := "ytkmgdpbmkbpkjaadoor", sum := "eae7d11114b26bfddec0dd6c983f86058e33ff09335b74b830c776531cc5afc0", func := "signetring/signetringlaw02.LadderPublic", spec := "ladderPublic", inPlace := ["math/bits.Add64"], unfollowed := true, recurses := true, named := ["signetring/ladder.a24"], apart := false, laid := [("signetring/ladder.a24", laid_signetring_ladder_a24)], narrowed := true }
def LadderPublicUptoSaid : Prop := ladderPublicUptoRow.holds Tryd.pinned (OpenSpec.upto ladderPublicSpec)

/-- 'signetringlaw02.LadderBoth', WHERE WHAT IT READS IS OF BULK AT MOST 1048576: true; the input reads as it did. -/
def ladderBothUptoRow : OpenClaim := { program := "ytkmgdpbmkbpkjaadoor", sum := "eae7d11114b26bfddec0dd6c983f86058e33ff09335b74b830c776531cc5afc0", func := "signetring/signetringlaw02.LadderBoth", spec := "ladderBoth", inPlace := ["math/bits.Add64"], unfollowed := true, recurses := true, named := ["signetring/ladder.a24"], apart := false, laid := [("signetring/ladder.a24", laid_signetring_ladder_a24)], narrowed := true }
def LadderBothUptoSaid : Prop := ladderBothUptoRow.holds Tryd.pinned (OpenSpec.upto ladderBothSpec)

/-- 'signetringlaw02.LadderBits', WHERE WHAT IT READS IS OF BULK AT MOST 1048576: true; the input reads as it did. -/
def ladderBitsUptoRow : OpenClaim := { program := "ytkmgdpbmkbpkjaadoor", sum := "eae7d11114b26bfddec0dd6c983f86058e33ff09335b74b830c776531cc5afc0", func := "signetring/signetringlaw02.LadderBits", spec := "ladderBits", inPlace := ["math/bits.Add64"], unfollowed := true, recurses := true, named := ["signetring/ladder.a24"], apart := false, laid := [("signetring/ladder.a24", laid_signetring_ladder_a24)], narrowed := true }
def LadderBitsUptoSaid : Prop := ladderBitsUptoRow.holds Tryd.pinned (OpenSpec.upto ladderBitsSpec)

/-- 'signetringlaw02.LadderSmall', WHERE WHAT IT READS IS OF BULK AT MOST 1048576: true; the input reads as it did. -/
def ladderSmallUptoRow : OpenClaim := { program := "ytkmgdpbmkbpkjaadoor", sum := "eae7d11114b26bfddec0dd6c983f86058e33ff09335b74b830c776531cc5afc0", func := "signetring/signetringlaw02.LadderSmall", spec := "ladderSmall", inPlace := ["math/bits.Add64"], unfollowed := true, recurses := true, named := ["signetring/ladder.a24"], apart := false, laid := [("signetring/ladder.a24", laid_signetring_ladder_a24)], narrowed := true }
def LadderSmallUptoSaid : Prop := ladderSmallUptoRow.holds Tryd.pinned (OpenSpec.upto ladderSmallSpec)

/-- 'signetringlaw02.LadderRow', WHERE WHAT IT READS IS OF BULK AT MOST 1048576: true; the input reads as it did. -/
def ladderRowUptoRow : OpenClaim := { program := "ytkmgdpbmkbpkjaadoor", sum := "eae7d11114b26bfddec0dd6c983f86058e33ff09335b74b830c776531cc5afc0", func := "signetring/signetringlaw02.LadderRow", spec := "ladderRow", inPlace := ["math/bits.Add64"], unfollowed := true, recurses := true, named := ["signetring/ladder.a24"], apart := false, laid := [("signetring/ladder.a24", laid_signetring_ladder_a24)], narrowed := true }
def LadderRowUptoSaid : Prop := ladderRowUptoRow.holds Tryd.pinned (OpenSpec.upto ladderRowSpec)

/-- 'signetringlaw02.LadderReduced', WHERE WHAT IT READS IS OF BULK AT MOST 1048576: true; the input reads as it did. -/
def ladderReducedUptoRow : OpenClaim := { program := "ytkmgdpbmkbpkjaadoor", sum := "eae7d11114b26bfddec0dd6c983f86058e33ff09335b74b830c776531cc5afc0", func := "signetring/signetringlaw02.LadderReduced", spec := "ladderReduced", inPlace := ["math/bits.Add64"], unfollowed := true, recurses := true, named := ["signetring/ladder.a24"], apart := false, laid := [("signetring/ladder.a24", laid_signetring_ladder_a24)], narrowed := true }
def LadderReducedUptoSaid : Prop := ladderReducedUptoRow.holds Tryd.pinned (OpenSpec.upto ladderReducedSpec)

end Rows
end Go.Proofs.YtkmgdpbmkbpkjaaDoor
