/-
  DERIVED. GIVEN WITH THE SEED: THE CARDS: each row of YtkmgdpbmkbpkjaaDoorRows.lean that lists a variable, with what it lists TIED to the program's text (the seventh form; the later family's looks); each row that meets fmt, with fmt's text TOLD by the authors' own Lean function (tested against real Go, not proved from fmt's source: count such statements apart). THE CARD IS WHAT COUNTS. Prove the row's statement (the work); the ties are given (YtkmgdpbmkbpkjaaDoorTie.lean); close each card by the builder's one call (the guide's Derived/Test/ToyasCard.lean, 'card_holds'). Laid BY PROGRAM, IN A SANDBOX (cutbox-door.mjs). By AI agents, Wed Nov 11 2026. No macro, syntax, notation, axiom, sorry.
-/
import Derived.Test.YtkmgdpbmkbpkjaaDoorRows
import GoSem.ClaimSeven
namespace Go.Proofs.YtkmgdpbmkbpkjaaDoor
namespace Rows

/-- THE TIED CARD OF 'signetringtop.WholeShared'. -/
def wholeSharedCard : Claim7 := { stood := { row := wholeSharedRow, standIns := [], harness := (true, "a35b22d4415b3bd6f4443cbe5a8a0dd8eaad9ce5eeecdd65ea5c2bd4a24017b5"), looks := false }, kinds := [], alts := [], laidByText := true, laidKinds := [.data, .widerDeep, .data, .data], laidTests := true, laidLooks := .later }
def WholeSharedCardSaid : Prop := Claim7.holds Tryd.pinned (.plain (OpenSpec.ofChange wholeSharedSpec)) wholeSharedCard

/-- THE TIED CARD OF 'signetringlaw02.LadderTells'. -/
def ladderTellsCard : Claim7 := { stood := { row := ladderTellsRow, standIns := [], harness := (true, "a35b22d4415b3bd6f4443cbe5a8a0dd8eaad9ce5eeecdd65ea5c2bd4a24017b5"), looks := false }, kinds := [], alts := [], laidByText := true, laidKinds := [.data], laidTests := true, laidLooks := .later }
def LadderTellsCardSaid : Prop := Claim7.holds Tryd.pinned (.plain (OpenSpec.ofChange ladderTellsSpec)) ladderTellsCard

/-- THE TIED CARD OF 'signetringlaw02.LadderPublic'. -/
def ladderPublicCard : Claim7 := { stood := { row := ladderPublicRow, standIns := [], harness := (true, "a35b22d4415b3bd6f4443cbe5a8a0dd8eaad9ce5eeecdd65ea5c2bd4a24017b5"), looks := false }, kinds := [], alts := [], laidByText := true, laidKinds := [.data], laidTests := true, laidLooks := .later }
def LadderPublicCardSaid : Prop := Claim7.holds Tryd.pinned (.plain (OpenSpec.ofChange ladderPublicSpec)) ladderPublicCard

/-- THE TIED CARD OF 'signetringlaw02.LadderBoth'. -/
def ladderBothCard : Claim7 := { stood := { row := ladderBothRow, standIns := [], harness := (true, "a35b22d4415b3bd6f4443cbe5a8a0dd8eaad9ce5eeecdd65ea5c2bd4a24017b5"), looks := false }, kinds := [], alts := [], laidByText := true, laidKinds := [.data], laidTests := true, laidLooks := .later }
def LadderBothCardSaid : Prop := Claim7.holds Tryd.pinned (.plain (OpenSpec.ofChange ladderBothSpec)) ladderBothCard

/-- THE TIED CARD OF 'signetringlaw02.LadderBits'. -/
def ladderBitsCard : Claim7 := { stood := { row := ladderBitsRow, standIns := [], harness := (true, "a35b22d4415b3bd6f4443cbe5a8a0dd8eaad9ce5eeecdd65ea5c2bd4a24017b5"), looks := false }, kinds := [], alts := [], laidByText := true, laidKinds := [.data], laidTests := true, laidLooks := .later }
def LadderBitsCardSaid : Prop := Claim7.holds Tryd.pinned (.plain (OpenSpec.ofChange ladderBitsSpec)) ladderBitsCard

/-- THE TIED CARD OF 'signetringlaw02.LadderSmall'. -/
def ladderSmallCard : Claim7 := { stood := { row := ladderSmallRow, standIns := [], harness := (true, "a35b22d4415b3bd6f4443cbe5a8a0dd8eaad9ce5eeecdd65ea5c2bd4a24017b5"), looks := false }, kinds := [], alts := [], laidByText := true, laidKinds := [.data], laidTests := true, laidLooks := .later }
def LadderSmallCardSaid : Prop := Claim7.holds Tryd.pinned (.plain (OpenSpec.ofChange ladderSmallSpec)) ladderSmallCard

/-- THE TIED CARD OF 'signetringlaw02.LadderRow'. -/
def ladderRowCard : Claim7 := { stood := { row := ladderRowRow, standIns := [], harness := (true, "a35b22d4415b3bd6f4443cbe5a8a0dd8eaad9ce5eeecdd65ea5c2bd4a24017b5"), looks := false }, kinds := [], alts := [], laidByText := true, laidKinds := [.data], laidTests := true, laidLooks := .later }
def LadderRowCardSaid : Prop := Claim7.holds Tryd.pinned (.plain (OpenSpec.ofChange ladderRowSpec)) ladderRowCard

/-- THE TIED CARD OF 'signetringlaw02.LadderReduced'. -/
def ladderReducedCard : Claim7 := { stood := { row := ladderReducedRow, standIns := [], harness := (true, "a35b22d4415b3bd6f4443cbe5a8a0dd8eaad9ce5eeecdd65ea5c2bd4a24017b5"), looks := false }, kinds := [], alts := [], laidByText := true, laidKinds := [.data], laidTests := true, laidLooks := .later }
def LadderReducedCardSaid : Prop := Claim7.holds Tryd.pinned (.plain (OpenSpec.ofChange ladderReducedSpec)) ladderReducedCard

/-- THE SECOND FORM's CARD OF 'signetringtop.WholeShared'. -/
def wholeSharedUptoCard : Claim7 := { stood := { row := wholeSharedUptoRow, standIns := [], harness := (true, "a35b22d4415b3bd6f4443cbe5a8a0dd8eaad9ce5eeecdd65ea5c2bd4a24017b5"), looks := false }, kinds := [], alts := [], laidByText := true, laidKinds := [.data, .widerDeep, .data, .data], laidTests := true, laidLooks := .later }
def WholeSharedUptoCardSaid : Prop := Claim7.holds Tryd.pinned (.plain (OpenSpec.upto wholeSharedSpec)) wholeSharedUptoCard

/-- THE SECOND FORM's CARD OF 'signetringlaw02.LadderTells'. -/
def ladderTellsUptoCard : Claim7 := { stood := { row := ladderTellsUptoRow, standIns := [], harness := (true, "a35b22d4415b3bd6f4443cbe5a8a0dd8eaad9ce5eeecdd65ea5c2bd4a24017b5"), looks := false }, kinds := [], alts := [], laidByText := true, laidKinds := [.data], laidTests := true, laidLooks := .later }
def LadderTellsUptoCardSaid : Prop := Claim7.holds Tryd.pinned (.plain (OpenSpec.upto ladderTellsSpec)) ladderTellsUptoCard

/-- THE SECOND FORM's CARD OF 'signetringlaw02.LadderPublic'. -/
def ladderPublicUptoCard : Claim7 := { stood := { row := ladderPublicUptoRow, standIns := [], harness := (true, "a35b22d4415b3bd6f4443cbe5a8a0dd8eaad9ce5eeecdd65ea5c2bd4a24017b5"), looks := false }, kinds := [], alts := [], laidByText := true, laidKinds := [.data], laidTests := true, laidLooks := .later }
def LadderPublicUptoCardSaid : Prop := Claim7.holds Tryd.pinned (.plain (OpenSpec.upto ladderPublicSpec)) ladderPublicUptoCard

/-- THE SECOND FORM's CARD OF 'signetringlaw02.LadderBoth'. -/
def ladderBothUptoCard : Claim7 := { stood := { row := ladderBothUptoRow, standIns := [], harness := (true, "a35b22d4415b3bd6f4443cbe5a8a0dd8eaad9ce5eeecdd65ea5c2bd4a24017b5"), looks := false }, kinds := [], alts := [], laidByText := true, laidKinds := [.data], laidTests := true, laidLooks := .later }
def LadderBothUptoCardSaid : Prop := Claim7.holds Tryd.pinned (.plain (OpenSpec.upto ladderBothSpec)) ladderBothUptoCard

/-- THE SECOND FORM's CARD OF 'signetringlaw02.LadderBits'. -/
def ladderBitsUptoCard : Claim7 := { stood := { row := ladderBitsUptoRow, standIns := [], harness := (true, "a35b22d4415b3bd6f4443cbe5a8a0dd8eaad9ce5eeecdd65ea5c2bd4a24017b5"), looks := false }, kinds := [], alts := [], laidByText := true, laidKinds := [.data], laidTests := true, laidLooks := .later }
def LadderBitsUptoCardSaid : Prop := Claim7.holds Tryd.pinned (.plain (OpenSpec.upto ladderBitsSpec)) ladderBitsUptoCard

/-- THE SECOND FORM's CARD OF 'signetringlaw02.LadderSmall'. -/
def ladderSmallUptoCard : Claim7 := { stood := { row := ladderSmallUptoRow, standIns := [], harness := (true, "a35b22d4415b3bd6f4443cbe5a8a0dd8eaad9ce5eeecdd65ea5c2bd4a24017b5"), looks := false }, kinds := [], alts := [], laidByText := true, laidKinds := [.data], laidTests := true, laidLooks := .later }
def LadderSmallUptoCardSaid : Prop := Claim7.holds Tryd.pinned (.plain (OpenSpec.upto ladderSmallSpec)) ladderSmallUptoCard

/-- THE SECOND FORM's CARD OF 'signetringlaw02.LadderRow'. -/
def ladderRowUptoCard : Claim7 := { stood := { row := ladderRowUptoRow, standIns := [], harness := (true, "a35b22d4415b3bd6f4443cbe5a8a0dd8eaad9ce5eeecdd65ea5c2bd4a24017b5"), looks := false }, kinds := [], alts := [], laidByText := true, laidKinds := [.data], laidTests := true, laidLooks := .later }
def LadderRowUptoCardSaid : Prop := Claim7.holds Tryd.pinned (.plain (OpenSpec.upto ladderRowSpec)) ladderRowUptoCard

/-- THE SECOND FORM's CARD OF 'signetringlaw02.LadderReduced'. -/
def ladderReducedUptoCard : Claim7 := { stood := { row := ladderReducedUptoRow, standIns := [], harness := (true, "a35b22d4415b3bd6f4443cbe5a8a0dd8eaad9ce5eeecdd65ea5c2bd4a24017b5"), looks := false }, kinds := [], alts := [], laidByText := true, laidKinds := [.data], laidTests := true, laidLooks := .later }
def LadderReducedUptoCardSaid : Prop := Claim7.holds Tryd.pinned (.plain (OpenSpec.upto ladderReducedSpec)) ladderReducedUptoCard
end Rows
end Go.Proofs.YtkmgdpbmkbpkjaaDoor
