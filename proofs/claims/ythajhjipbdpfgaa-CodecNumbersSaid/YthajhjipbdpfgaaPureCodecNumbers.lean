/-
  Any number's bytes, and any bytes' number, are the document's; numbers come back, and rise as their bytes do: the law in plain Lean.
-/
import Derived.Test.YthajhjipbdpfgaaCLawB
import Derived.Test.YthajhjipbdpfgaaXCodecNumbers
set_option linter.unusedVariables false
set_option linter.unusedSimpArgs false
namespace Go.Proofs.Ythajhjipbdpfgaa.Pure
open Go.RowKit Go.Proofs.Ythajhjipbdpfgaa.C Go.Proofs.YthajhjipbdpfgaaW.PrintWords Go.Proofs.YthajhjipbdpfgaaW.PrintLast

theorem readA_digits (n : Nat) (hn : n < 18446744073709551616) : readA (digitsS n) = ((n : Int), 0) := by
  have h8 := digits_length (n := n) (k := 8) (by omega)
  have hz : (digitsS n).size = (digits n).length := by show (digits n).toArray.size = _; simp
  have hd : (digitsS n).data.toList = digits n := by simp [digitsS]
  unfold readA
  rw [if_pos ⟨by omega, by rw [hd]; exact digits_head n⟩, hd, val_digits]
theorem less_val : ∀ (l m : List UInt8), l.length = m.length → Op.bytesLess l m = decide (val l < val m)
  | [], [], _ => by simp [Op.bytesLess, val_nil]
  | a :: l, b :: m, h => by
    have hl : l.length = m.length := by simpa using h
    have hv := val_lt l
    have hw := val_lt m
    have ih := less_val l m hl
    rw [val_cons, val_cons, hl]
    rw [hl] at hv
    simp only [Op.bytesLess, ih]
    generalize 256 ^ m.length = P at hv hw ⊢
    rcases Nat.lt_trichotomy a.toNat b.toNat with h | h | h
    · have hlt : a < b := UInt8.lt_iff_toNat_lt.2 h
      have := Nat.mul_le_mul_right P (show a.toNat + 1 ≤ b.toNat by omega)
      rw [Nat.add_mul, Nat.one_mul] at this
      rw [decide_eq_true hlt, Bool.true_or, decide_eq_true (by omega)]
    · have he : a = b := UInt8.toNat_inj.1 h
      subst he
      have hn : ¬ a < a := fun h => by have := UInt8.lt_iff_toNat_lt.1 h; omega
      rw [decide_eq_false hn, Bool.false_or, beq_self_eq_true, Bool.true_and]
      exact decide_eq_decide.2 ⟨fun h => by omega, fun h => by omega⟩
    · have hn : ¬ a < b := fun h' => by have := UInt8.lt_iff_toNat_lt.1 h'; omega
      have hne : (a == b) = false := beq_eq_false_iff_ne.2 (fun e => by subst e; omega)
      have := Nat.mul_le_mul_right P (show b.toNat + 1 ≤ a.toNat by omega)
      rw [Nat.add_mul, Nat.one_mul] at this
      rw [decide_eq_false hn, hne, Bool.false_or, Bool.false_and, decide_eq_false (by omega)]
  | [], _ :: _, h => by simp at h
  | _ :: _, [], h => by simp at h

theorem CodecNumbers : signetringlaw08_CodecNumbers.Pure := by
  intro a b s wa wb hs
  have ha : 0 ≤ a ∧ a ≤ 18446744073709551615 := by simp [Lit.wf, IntKind.min, IntKind.max, IntKind.signed, IntKind.bits] at wa; omega
  have hb : 0 ≤ b ∧ b ≤ 18446744073709551615 := by simp [Lit.wf, IntKind.min, IntKind.max, IntKind.signed, IntKind.bits] at wb; omega
  obtain ⟨n, rfl⟩ : ∃ n : Nat, a = n := ⟨a.toNat, by omega⟩
  obtain ⟨m, rfl⟩ : ∃ m : Nat, b = m := ⟨b.toNat, by omega⟩
  have hn : n < 18446744073709551616 := by omega
  have hm : m < 18446744073709551616 := by omega
  have sn : (digitsS n).size = (digits n).length := by show (digits n).toArray.size = _; simp
  have sm : (digitsS m).size = (digits m).length := by show (digits m).toArray.size = _; simp
  refine ⟨40, ?_⟩
  unfold signetringlaw08_CodecNumbers.f
  rw [alive_f 40 (by omega), Option.bind_some, if_pos rfl]
  by_cases hbig : (s.size : Int) > 40000
  · rw [if_pos hbig]
  rw [if_neg hbig]
  simp only [read_f, refRead_f s 40 (by omega), num_f n 40 hn (by omega), num_f m 40 hm (by omega), refNum_f n 40 hn (by omega), Option.bind_some, readA_digits n hn, if_true]
  rw [sn, sm]
  by_cases h1 : (digits n).length < (digits m).length
  · have := digits_shorter h1
    rw [if_pos (by omega)]
    simp [this]
  · rw [if_neg (by omega)]
    by_cases h2 : (digits n).length = (digits m).length
    · rw [if_pos (by omega)]
      have e1 : (digitsS n).toList = digits n := by rw [ByteArray.toList_eq]; simp [digitsS]
      have e2 : (digitsS m).toList = digits m := by rw [ByteArray.toList_eq]; simp [digitsS]
      rw [e1, e2, less_val _ _ h2, val_digits, val_digits]
      simp
    · have := digits_shorter (n := m) (m := n) (by omega)
      rw [if_neg (by omega)]
      have h : ¬ n < m := by omega
      simp [h]

end Go.Proofs.Ythajhjipbdpfgaa.Pure
