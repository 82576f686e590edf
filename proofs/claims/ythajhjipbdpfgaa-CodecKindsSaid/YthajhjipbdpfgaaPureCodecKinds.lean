/-
  What is joined of one kind is taken as that alone, and of as many texts as it has: the law in plain Lean.
-/
import Derived.Test.YthajhjipbdpfgaaCLawA
import Derived.Test.YthajhjipbdpfgaaXCodecKinds
set_option linter.unusedVariables false
set_option linter.unusedSimpArgs false
namespace Go.Proofs.Ythajhjipbdpfgaa.Pure
open Go.RowKit Go.Proofs.Ythajhjipbdpfgaa.C Go.Proofs.YthajhjipbdpfgaaW.PrintWords Go.Proofs.YthajhjipbdpfgaaW.PrintLast

theorem CodecKinds (a o : Int) (l : List ByteArray) (wa : (Lit.int .u8 a).wf = true) (wo : (Lit.int .u8 o).wf = true) (hl : l.length ≤ 8796093022208) :
    ∃ k, signetringlaw08_CodecKinds.f k a o l = some true := by
  have ha : 0 ≤ a ∧ a ≤ 255 := by simp [Lit.wf, IntKind.min, IntKind.max, IntKind.signed, IntKind.bits] at wa; omega
  obtain ⟨j, rfl⟩ : ∃ j : Nat, a = j := ⟨a.toNat, by omega⟩
  have hj : j < 256 := by omega
  refine ⟨l.length + 400, ?_⟩
  obtain ⟨b, hb⟩ := few_f l (l.length + 400) (by omega) (by omega)
  unfold signetringlaw08_CodecKinds.f
  rw [alive_f _ (by omega), Option.bind_some, if_pos rfl, hb, Option.bind_some]
  cases b with
  | false => rfl
  | true =>
    rw [if_pos rfl, join_f j l _ hj, Option.bind_some]
    by_cases hf : Fits l
    · have hsp : Splits (joinedS j l) j l := ⟨hj, hf, rfl⟩
      rw [show joinA j l = (joinedS j l, 0) from if_pos hf]
      simp only [if_true]
      rw [take_f _ _ _ _ hsp, Option.bind_some, take_f _ _ _ _ hsp, Option.bind_some, take_f _ _ _ _ hsp, Option.bind_some]
      have hw : wrap64 ((l.length : Int) + 1) = ((l.length + 1 : Nat) : Int) := wrap_one _ (by omega)
      have h1 : ¬ ((l.length : Int) = wrap64 ((l.length : Int) + 1)) := by rw [hw]; omega
      have h2 : ¬ ((l.length : Int) = -1) := by omega
      by_cases ho : (j : Int) = o
      · simp [h1, h2, ho]
      · simp [h1, h2, ho]
    · rw [joinA_not hf]
      simp

end Go.Proofs.Ythajhjipbdpfgaa.Pure
