/-
  What any texts are joined to is the document's, or refused; what is joined is split again, and no more, nor fewer, are taken of it: the law in plain Lean.
-/
import Derived.Test.YthajhjipbdpfgaaCLawA
import Derived.Test.YthajhjipbdpfgaaXCodecJoins
set_option linter.unusedVariables false
set_option linter.unusedSimpArgs false
namespace Go.Proofs.Ythajhjipbdpfgaa.Pure
open Go.RowKit Go.Proofs.Ythajhjipbdpfgaa.C Go.Proofs.YthajhjipbdpfgaaW.PrintWords Go.Proofs.YthajhjipbdpfgaaW.PrintLast

theorem CodecJoins (a : Int) (l : List ByteArray) (n : Int) (wa : (Lit.int .u8 a).wf = true) (hl : l.length ≤ 8796093022208) (wn : (Lit.int .i64 n).wf = true) :
    ∃ k, signetringlaw08_CodecJoins.f k a l n = some true := by
  have ha : 0 ≤ a ∧ a ≤ 255 := by simp [Lit.wf, IntKind.min, IntKind.max, IntKind.signed, IntKind.bits] at wa; omega
  obtain ⟨j, rfl⟩ : ∃ j : Nat, a = j := ⟨a.toNat, by omega⟩
  have hj : j < 256 := by omega
  refine ⟨l.length + 400 + 1, ?_⟩
  obtain ⟨b, hb⟩ := few_f l (l.length + 400 + 1) (by omega) (by omega)
  unfold signetringlaw08_CodecJoins.f
  rw [alive_f _ (by omega), Option.bind_some, if_pos rfl, hb, Option.bind_some]
  cases b with
  | false => rfl
  | true =>
    rw [if_pos rfl, join_f j l _ hj, Option.bind_some, refJoin_f j l _ hj, Option.bind_some, if_pos rfl, bne_self_eq_false]
    rw [signetringlaw08_CodecJoins.j0, if_neg (by decide)]
    by_cases hf : Fits l
    · have hsp : Splits (joinedS j l) j l := ⟨hj, hf, rfl⟩
      rw [show joinA j l = (joinedS j l, 0) from if_pos hf]
      simp only [if_true]
      rw [split_f _ _ hsp, Option.bind_some, take_f _ _ _ _ hsp, Option.bind_some]
      simp only [if_true, true_and]
      rw [same_f l l _ (by omega) (by omega), Option.bind_some]
      simp only [decide_true, if_true]
      by_cases hn : (l.length : Int) = n
      · subst hn
        simp [same_f l l _ (show l.length < 4611686018427387904 by omega) (show l.length < l.length + 400 by omega)]
      · have hn' : ¬ n = (l.length : Int) := fun h => hn h.symm
        simp [hn, hn']
    · rw [joinA_not hf]
      simp

end Go.Proofs.Ythajhjipbdpfgaa.Pure
