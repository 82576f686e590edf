/-
  Texts that are joined of joined texts are split one behind the other: the law in plain Lean.
-/
import Derived.Test.YthajhjipbdpfgaaCLawA
import Derived.Test.YthajhjipbdpfgaaXCodecDeep
set_option linter.unusedVariables false
set_option linter.unusedSimpArgs false
namespace Go.Proofs.Ythajhjipbdpfgaa.Pure
open Go.RowKit Go.Proofs.Ythajhjipbdpfgaa.C Go.Proofs.YthajhjipbdpfgaaW.PrintWords Go.Proofs.YthajhjipbdpfgaaW.PrintLast

theorem CodecDeep (l m : List ByteArray) (x y : Nat) (hx : x < 256) (hy : y < 256) (hl : l.length ≤ 8796093021952) (hm : m.length ≤ 8796093021952) :
    ∃ k, signetringlaw08_CodecDeep.f k l m [(x : Int), (y : Int)] = some true := by
  refine ⟨l.length + m.length + 400 + 1 + 1 + 1, ?_⟩
  obtain ⟨b, hb⟩ := few_f l (l.length + m.length + 400 + 1 + 1 + 1) (by omega) (by omega)
  obtain ⟨b2, hb2⟩ := few_f m (l.length + m.length + 400 + 1 + 1 + 1) (by omega) (by omega)
  unfold signetringlaw08_CodecDeep.f
  rw [alive_f _ (by omega), Option.bind_some, if_pos rfl, hb, Option.bind_some]
  cases b with
  | false => simp [signetringlaw08_CodecDeep.j0]
  | true =>
  rw [if_pos rfl, hb2, Option.bind_some]
  cases b2 with
  | false => simp [signetringlaw08_CodecDeep.j0]
  | true =>
  have r0 : rd [(x : Int), (y : Int)] 0 = x := rfl
  have r1 : rd [(x : Int), (y : Int)] 1 = y := rfl
  rw [signetringlaw08_CodecDeep.j0, if_neg (by decide), if_pos (by simp), r0, join_f x l _ hx, Option.bind_some, if_pos (by simp), Option.bind_some, if_pos (by simp; omega), r1, join_f y _ _ hy, Option.bind_some]
  by_cases hf : Fits l
  rotate_left
  · rw [joinA_not hf]
    simp [signetringlaw08_CodecDeep.j1]
  have hsp : Splits (joinedS x l) x l := ⟨hx, hf, rfl⟩
  rw [show joinA x l = (joinedS x l, 0) from if_pos hf]
  simp only [if_true, List.singleton_append]
  by_cases hg : Fits (joinedS x l :: m)
  rotate_left
  · rw [joinA_not hg]
    simp [signetringlaw08_CodecDeep.j1]
  have hsq : Splits (joinedS y (joinedS x l :: m)) y (joinedS x l :: m) := ⟨hy, hg, rfl⟩
  have hw : wrap64 ((m.length : Int) + 1) = (((joinedS x l :: m).length : Nat) : Int) := by rw [wrap_one _ (by omega)]; rfl
  rw [show joinA y (joinedS x l :: m) = (joinedS y (joinedS x l :: m), 0) from if_pos hg]
  rw [signetringlaw08_CodecDeep.j1, if_neg (by simp), if_pos (by simp), r1, take_f _ _ _ _ hsq, hw, if_pos ⟨rfl, rfl⟩, Option.bind_some]
  simp only [if_true, bne_self_eq_false]
  rw [signetringlaw08_CodecDeep.j2, if_neg (by simp), if_pos (by rw [List.length_cons]; omega), if_pos (by simp), r0]
  rw [show rdOf ByteArray.empty (joinedS x l :: m) 0 = joinedS x l from rfl, take_f _ _ _ _ hsp, if_pos ⟨rfl, rfl⟩, Option.bind_some]
  simp only [if_true]
  rw [same_f l l _ (by omega) (by omega), Option.bind_some]
  simp only [decide_true, if_true]
  rw [if_pos (by rw [List.length_cons]; omega), show (joinedS x l :: m).drop 1 = m from rfl, same_f m m _ (by omega) (by omega)]
  simp

end Go.Proofs.Ythajhjipbdpfgaa.Pure
