/-
  What any text is split to is the document's, or refused: the law in plain Lean.
-/
import Derived.Test.YthajhjipbdpfgaaCLawB
import Derived.Test.YthajhjipbdpfgaaXCodecSplits
set_option linter.unusedVariables false
set_option linter.unusedSimpArgs false
namespace Go.Proofs.Ythajhjipbdpfgaa.Pure
open Go.RowKit Go.Proofs.Ythajhjipbdpfgaa.C Go.Proofs.YthajhjipbdpfgaaW.PrintWords Go.Proofs.YthajhjipbdpfgaaW.PrintLast

theorem CodecSplits : signetringlaw08_CodecSplits.Pure := by
  intro s a n hs _ _
  refine ⟨400, ?_⟩
  unfold signetringlaw08_CodecSplits.f
  rw [alive_f 400 (by omega), Option.bind_some, if_pos rfl]
  by_cases hbig : (s.size : Int) > 40000
  · rw [if_pos hbig]
  rw [if_neg hbig, split_fA, Option.bind_some, refSplit_f s 400 hs (by omega), Option.bind_some]
  by_cases hsp : ∃ j l, Splits s j l
  · obtain ⟨j, l, h⟩ := hsp
    have hl := h.2.1.1
    rw [take_f 400 s a n h, Option.bind_some, splitA_some h]
    simp only [if_true]
    rw [same_f l l 400 (by omega) (by omega), Option.bind_some]
    simp only [decide_true, if_true]
    by_cases h1 : (j : Int) = a
    · by_cases h2 : (l.length : Int) = n
      · simp [h1, h2, same_f l l 400 (by omega) (by omega)]
      · simp [h1, h2]
    · simp [h1]
  · rw [take_no 400 s a n hsp, Option.bind_some, splitA_no (fun j l h => hsp ⟨j, l, h⟩)]
    simp only [if_true]
    rw [same_f [] [] 400 (by decide) (by decide), Option.bind_some]
    simp

end Go.Proofs.Ythajhjipbdpfgaa.Pure
