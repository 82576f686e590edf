/-
  Two texts that are split to the same are the same; with a byte more, or fewer, a text is none: the law in plain Lean.
-/
import Derived.Test.YthajhjipbdpfgaaCLawB
import Derived.Test.YthajhjipbdpfgaaXCodecOne
set_option linter.unusedVariables false
set_option linter.unusedSimpArgs false
namespace Go.Proofs.Ythajhjipbdpfgaa.Pure
open Go.RowKit Go.Proofs.Ythajhjipbdpfgaa.C Go.Proofs.YthajhjipbdpfgaaW.PrintWords Go.Proofs.YthajhjipbdpfgaaW.PrintLast

theorem no_more {s t : ByteArray} {j : Nat} {l : List ByteArray} {x : List UInt8} (h : Splits s j l) (hx : x ≠ []) (ht : t.data.toList = s.data.toList ++ x) : ¬ ∃ i m, Splits t i m := by
  rintro ⟨i, m, h'⟩
  rw [h.toList, h'.toList] at ht
  exact hx (joined_inj h'.1 h.1 h'.2.1 h.2.1 (a := []) (by rw [List.append_nil]; exact ht)).2.2.symm
theorem no_fewer {s t : ByteArray} {j : Nat} {l : List ByteArray} {x : List UInt8} (h : Splits s j l) (hx : x ≠ []) (ht : s.data.toList = t.data.toList ++ x) : ¬ ∃ i m, Splits t i m := by
  rintro ⟨i, m, h'⟩
  rw [h.toList, h'.toList] at ht
  exact hx (joined_inj h.1 h'.1 h.2.1 h'.2.1 (a := []) (by rw [List.append_nil]; exact ht)).2.2.symm

theorem CodecOne : signetringlaw08_CodecOne.Pure := by
  intro s t c hs ht wc
  refine ⟨400, ?_⟩
  unfold signetringlaw08_CodecOne.f
  rw [alive_f 400 (by omega), Option.bind_some, if_pos rfl]
  by_cases hbig : (s.size : Int) > 40000
  · rw [if_pos hbig]; simp [signetringlaw08_CodecOne.j0]
  rw [if_neg hbig]
  by_cases hbig2 : (t.size : Int) > 40000
  · rw [decide_eq_true hbig2]; simp [signetringlaw08_CodecOne.j0]
  rw [decide_eq_false hbig2]
  rw [signetringlaw08_CodecOne.j0, if_neg (by decide)]
  by_cases h1 : ∃ j l, Splits s j l
  rotate_left
  · rw [split_no _ s h1, Option.bind_some, split_fA, Option.bind_some]
    simp [signetringlaw08_CodecOne.j1]
  by_cases h2 : ∃ j l, Splits t j l
  rotate_left
  · rw [split_no _ t h2]
    obtain ⟨j, l, h1⟩ := h1
    rw [split_f _ s h1, Option.bind_some, Option.bind_some]
    simp [signetringlaw08_CodecOne.j1]
  obtain ⟨j, l, h1⟩ := h1
  obtain ⟨i, m, h2⟩ := h2
  have hl := h1.2.1.1
  have hm := h2.2.1.1
  have hlen := congrArg List.length h1.toList
  rw [size_list] at hlen
  simp only [joined, List.length_cons] at hlen
  have hx : (strOfNums [c]).data.toList = [UInt8.ofNat c.toNat] := rfl
  have hsz : (strOfNums [c]).size = 1 := rfl
  have n1 : ¬ ∃ i m, Splits (s ++ strOfNums [c]) i m := no_more h1 (x := [UInt8.ofNat c.toNat]) (by simp) (by simp [hx])
  have hwr : wrap64 ((s.size : Int) - 1) = ((s.size - 1 : Nat) : Int) := by
    rw [show (s.size : Int) - 1 = ((s.size - 1 : Nat) : Int) by omega, Go.Proofs.Ythajhjipbdpfgaa.C.wrap_small _ (by omega)]
  have n2 : ¬ ∃ i m, Splits (s.extract 0 (((s.size - 1 : Nat) : Int)).toNat) i m := by
    refine no_fewer h1 (x := s.data.toList.drop (s.size - 1)) ?_ ?_
    · intro h
      have := congrArg List.length h
      rw [List.length_drop, size_list] at this
      simp at this
      omega
    · rw [ByteArray.data_extract, Array.toList_extract, List.extract_eq_take_drop, Int.toNat_natCast]
      simp
  have hw := Lib.hid hwr
  clear hwr
  rw [split_f _ s h1, Option.bind_some, split_f _ t h2, Option.bind_some]
  simp only [if_true]
  rw [signetringlaw08_CodecOne.j1]
  simp only [bne_self_eq_false, Bool.false_eq_true, if_false, Option.bind_some]
  rw [if_pos (by rw [hsz]; omega), split_no _ _ n1, Option.bind_some, hw.out, if_pos (by omega), if_pos (by omega), split_no _ _ n2, Option.bind_some]
  by_cases hj : j = i
  · subst hj
    have hiff : s = t ↔ l = m := ⟨fun h => (h1.uniq (h ▸ h2)).2, fun h => by rw [h1.2.2, h2.2.2, h]⟩
    rw [if_pos rfl, same_f l m _ (by omega) (by omega), Option.bind_some]
    by_cases e : l = m
    · have : s = t := hiff.2 e
      simp [e, this]
    · have : ¬ s = t := fun h => e (hiff.1 h)
      have h' : ¬ s.toList = t.toList := fun h => this ((toList_eq_iff _ _).1 h)
      simp [e, h']
  · have : ¬ s = t := fun h => hj (h1.uniq (h ▸ h2)).1
    have h' : ¬ s.toList = t.toList := fun h => this ((toList_eq_iff _ _).1 h)
    rw [if_neg (by omega)]
    simp [h']

end Go.Proofs.Ythajhjipbdpfgaa.Pure
