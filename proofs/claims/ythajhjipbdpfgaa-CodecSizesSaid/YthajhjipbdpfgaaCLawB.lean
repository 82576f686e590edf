/-
  The document's Split and Read answer what the program's do, in plain Lean.
-/
import Derived.Test.YthajhjipbdpfgaaCLawA
import Derived.Lib.Hide
import Derived.Test.YthajhjipbdpfgaaXRefSplit
import Derived.Test.YthajhjipbdpfgaaXRefRead
set_option linter.unusedVariables false
set_option linter.unusedSimpArgs false
namespace Go.Proofs.Ythajhjipbdpfgaa.C
open Go.RowKit Go.Proofs.YthajhjipbdpfgaaW.PrintWords Go.Proofs.YthajhjipbdpfgaaW.PrintLast Go.Proofs.YthajhjipbdpfgaaW.PrintMore

theorem wrap_two (E : Nat) (h : E ≤ 140737488351232) : wrap64 (((3 + E : Nat) : Int) + 2) = ((5 + E : Nat) : Int) := by
  rw [show ((3 + E : Nat) : Int) + 2 = ((5 + E : Nat) : Int) by omega, wrap_small _ (by omega)]
theorem wrap_four (E : Nat) (h : E ≤ 140737488351232) : wrap64 (((3 + E : Nat) : Int) + 1) = ((4 + E : Nat) : Int) := by
  rw [show ((3 + E : Nat) : Int) + 1 = ((4 + E : Nat) : Int) by omega, wrap_small _ (by omega)]
theorem wrap_pair (a b : Nat) (ha : a < 2 ^ 8) (hb : b < 2 ^ 8) : wrap64 (wrap64 (256 * wrap64 (a : Int)) + wrap64 (b : Int)) = ((a * 256 + b : Nat) : Int) := by
  rw [wrap_small a (by omega), wrap_small b (by omega), show (256 * (a : Int)) = ((256 * a : Nat) : Int) by omega, wrap_small _ (by omega),
    show ((256 * a : Nat) : Int) + (b : Int) = ((256 * a + b : Nat) : Int) by omega, wrap_small _ (by omega)]
  omega
theorem wrap_sum (E m : Nat) (h : E ≤ 140737488351232) (hm : m < 65536) : wrap64 (((5 + E : Nat) : Int) + (m : Int)) = ((5 + E + m : Nat) : Int) := by
  rw [show ((5 + E : Nat) : Int) + (m : Int) = ((5 + E + m : Nat) : Int) by omega, wrap_small _ (by omega)]
theorem bt_list (s : ByteArray) (i : Nat) (h : i < s.data.toList.length) : bt s (i : Int) = (s.data.toList[i].toNat : Int) := by
  have h' : ((i : Int)).toNat < s.size := by rw [Int.toNat_natCast]; exact h
  unfold bt
  rw [dif_pos h']
  rfl

theorem bt_get (s : ByteArray) (i : Nat) (a : UInt8) (h : s.data.toList[i]? = some a) : bt s (i : Int) = (a.toNat : Int) := by
  obtain ⟨hi, ha⟩ := List.getElem?_eq_some_iff.1 h
  rw [bt_list s i hi, ha]

/-- What is answered of a text. -/
def splitA (s : ByteArray) : Int × List ByteArray × Int := match splitB s with
  | some (k, l) => ((k : Int), l, 0)
  | none => (0, [], 4)
theorem splitA_no {s : ByteArray} (h : ∀ j l, ¬ Splits s j l) : splitA s = (0, [], 4) := by
  unfold splitA
  cases hs : splitB s with
  | none => rfl
  | some p => exact absurd ((splitB_iff s p.1 p.2).1 hs) (h _ _)
theorem splitA_some {s : ByteArray} {j : Nat} {l : List ByteArray} (h : Splits s j l) : splitA s = ((j : Int), l, 0) := by
  unfold splitA
  rw [(splitB_iff s j l).2 h]
theorem split_fA (k : Nat) (s : ByteArray) : codec_Split.f k s = some (splitA s) := rfl

theorem refSplit_l0 (s : ByteArray) (v c n : UInt8) (R : List UInt8) (hS : s.data.toList = v :: c :: n :: R) (hsz : s.size ≤ 140737488351232) : ∀ (d k i : Nat) (acc : List ByteArray) (rest : List UInt8),
    i + d = n.toNat → d < k → acc.length = i → (∀ x ∈ acc, x.size < 65536) → R = enc acc ++ rest → signetringref08_Split.l0 k s acc ((3 + (enc acc).length : Nat) : Int) (i : Int) = some (splitA s) := by
  have hn := n.toNat_lt
  have hlen : s.size = R.length + 3 := by rw [← size_list, hS]; rfl
  have b2 : bt s 2 = n.toNat := by
    have := bt_list s 2 (by rw [hS]; simp)
    rw [show ((2 : Nat) : Int) = 2 from rfl] at this
    rw [this]; simp [hS]
  have b1 : bt s 1 = c.toNat := by
    have := bt_list s 1 (by rw [hS]; simp)
    rw [show ((1 : Nat) : Int) = 1 from rfl] at this
    rw [this]; simp [hS]
  intro d
  induction d with
  | zero =>
    intro k i acc rest hi hk hacc ha hR
    obtain ⟨k, rfl⟩ : ∃ m, k = m + 1 := ⟨k - 1, by omega⟩
    have hw := Lib.hid (wrap_small n.toNat (by omega))
    simp only [signetringref08_Split.l0]
    rw [if_pos (by omega), b2, hw.out, if_neg (by omega), if_pos (by omega), b1, refJoin_f c.toNat acc k c.toNat_lt, Option.bind_some]
    have hno : ¬ Fits acc ∨ joinedS c.toNat acc ≠ s → ∀ j l, ¬ Splits s j l := by
      intro hh j l hs
      obtain ⟨g1, g2, g3, g4⟩ := splits_rest (hR ▸ hS) ha (by omega) hs
      rw [List.take_of_length_le (by omega)] at g3
      subst g3
      rcases hh with hh | hh
      · exact hh hs.2.1
      · exact hh (g1 ▸ hs.2.2.symm)
    by_cases hf : Fits acc
    · rw [show joinA c.toNat acc = (joinedS c.toNat acc, 0) from if_pos hf]
      by_cases he : joinedS c.toNat acc = s
      · have hsp : Splits s c.toNat acc := ⟨c.toNat_lt, hf, he.symm⟩
        rw [splitA_some hsp]
        simp only [if_true]
        rw [if_pos ((toList_eq_iff _ _).2 he)]
      · rw [splitA_no (hno (.inr he))]
        simp only [if_true]
        rw [if_neg (fun h => he ((toList_eq_iff _ _).1 h))]
    · rw [joinA_not hf, splitA_no (hno (.inl hf))]
      simp
  | succ d ih =>
    intro k i acc rest hi hk hacc ha hR
    obtain ⟨k, rfl⟩ : ∃ m, k = m + 1 := ⟨k - 1, by omega⟩
    have hw := Lib.hid (wrap_small n.toNat (by omega))
    have hRl : R.length = (enc acc).length + rest.length := by rw [hR, List.length_append]
    have hE : (enc acc).length ≤ 140737488351232 := by omega
    simp only [signetringref08_Split.l0]
    rw [if_pos (by omega), b2, hw.out, if_pos (by omega), wrap_two _ hE, wrap_four _ hE]
    match hrest : rest with
    | [] =>
      rw [if_pos (by simp at hRl; omega), splitA_no]
      intro j l hs
      obtain ⟨g1, g2, g3, g4⟩ := splits_rest (hR ▸ hS) ha (by omega) hs
      have := length_enc_ge (l.drop acc.length)
      rw [← g4, List.length_drop] at this
      simp at this; omega
    | [a] =>
      rw [if_pos (by simp at hRl; omega), splitA_no]
      intro j l hs
      obtain ⟨g1, g2, g3, g4⟩ := splits_rest (hR ▸ hS) ha (by omega) hs
      have := length_enc_ge (l.drop acc.length)
      rw [← g4, List.length_drop] at this
      simp at this; omega
    | a :: b :: r =>
      have ha8 := a.toNat_lt
      have hb8 := b.toNat_lt
      simp only [List.length_cons] at hRl
      have hL : s.data.toList = (v :: c :: n :: enc acc) ++ (a :: b :: r) := by rw [hS, hR]; simp
      have ba : bt s ((3 + (enc acc).length : Nat) : Int) = a.toNat := by
        refine bt_get s _ a ?_
        rw [hL, List.getElem?_append_right (by simp; omega)]
        rw [show 3 + (enc acc).length - (v :: c :: n :: enc acc).length = 0 by simp; omega]
        rfl
      have bb : bt s ((4 + (enc acc).length : Nat) : Int) = b.toNat := by
        refine bt_get s _ b ?_
        rw [hL, List.getElem?_append_right (by simp; omega)]
        rw [show 4 + (enc acc).length - (v :: c :: n :: enc acc).length = 1 by simp; omega]
        rfl
      have wm := Lib.hid (wrap_pair a.toNat b.toNat ha8 hb8)
      have ws := Lib.hid (wrap_sum (enc acc).length (a.toNat * 256 + b.toNat) hE (by omega))
      rw [if_neg (by omega), if_pos (by omega), if_pos (by omega), if_pos (by omega), if_pos (by omega), ba, bb, wm.out, ws.out]
      by_cases hbig : a.toNat * 256 + b.toNat ≤ r.length
      · rw [if_neg (by omega), if_pos (by omega), if_pos (by omega), if_pos (by omega), if_pos (by omega), wrap_one i (by omega)]
        have hx : s.extract (((5 + (enc acc).length : Nat) : Int)).toNat (((5 + (enc acc).length + (a.toNat * 256 + b.toNat) : Nat) : Int)).toNat = ⟨(r.take (a.toNat * 256 + b.toNat)).toArray⟩ := by
          rw [Int.toNat_natCast, Int.toNat_natCast]
          apply bytes_ext
          rw [ByteArray.data_extract, Array.toList_extract, hL, List.extract_eq_take_drop]
          rw [show (v :: c :: n :: enc acc) ++ (a :: b :: r) = (v :: c :: n :: enc acc ++ [a, b]) ++ r by simp]
          rw [List.drop_append_of_le_length (by simp; omega), List.drop_of_length_le (by simp; omega), List.nil_append]
          rw [show 5 + (enc acc).length + (a.toNat * 256 + b.toNat) - (5 + (enc acc).length) = a.toNat * 256 + b.toNat by omega]
        have hxs : (⟨(r.take (a.toNat * 256 + b.toNat)).toArray⟩ : ByteArray).size = a.toNat * 256 + b.toNat := by
          show (r.take (a.toNat * 256 + b.toNat)).toArray.size = _
          simp; omega
        rw [hx]
        have hone : one ⟨(r.take (a.toNat * 256 + b.toNat)).toArray⟩ = a :: b :: r.take (a.toNat * 256 + b.toNat) := by
          unfold one
          rw [hxs, show (a.toNat * 256 + b.toNat) / 256 = a.toNat by omega, show (a.toNat * 256 + b.toNat) % 256 = b.toNat by omega]
          simp
        have henc : (enc (acc ++ [⟨(r.take (a.toNat * 256 + b.toNat)).toArray⟩])) = enc acc ++ (a :: b :: r.take (a.toNat * 256 + b.toNat)) := by
          rw [enc_append]
          simp only [enc, hone, List.append_nil]
        have hel : 3 + (enc (acc ++ [⟨(r.take (a.toNat * 256 + b.toNat)).toArray⟩])).length = 5 + (enc acc).length + (a.toNat * 256 + b.toNat) := by
          rw [henc, List.length_append, List.length_cons, List.length_cons, List.length_take]; omega
        rw [← hel]
        refine ih k (i + 1) _ (r.drop (a.toNat * 256 + b.toNat)) (by omega) (by omega) (by simp [hacc]) ?_ ?_
        · intro x hx
          rcases List.mem_append.1 hx with hx | hx
          · exact ha x hx
          · rw [List.mem_singleton.1 hx, hxs]; omega
        · rw [henc, hR]; simp
      · rw [if_pos (by omega), splitA_no]
        intro j l hs
        obtain ⟨g1, g2, g3, g4⟩ := splits_rest (hR ▸ hS) ha (by omega) hs
        cases hd : l.drop acc.length with
        | nil => rw [hd] at g4; cases g4
        | cons s0 l' =>
          rw [hd] at g4
          simp only [enc, one, List.cons_append, List.cons.injEq] at g4
          obtain ⟨q1, q2, q3⟩ := g4
          have hs0 : s0.size ≤ 4000 := hs.2.1.2.1 s0 (List.mem_of_mem_drop (i := acc.length) (by rw [hd]; simp))
          have e1 : a.toNat * 256 + b.toNat = s0.size := by
            rw [q1, q2, UInt8.toNat_ofNat', UInt8.toNat_ofNat']; omega
          have := congrArg List.length q3
          rw [List.length_append, size_list] at this
          omega

theorem refSplit_f (s : ByteArray) (k : Nat) (hsz : s.size ≤ 140737488351232) (hk : 256 < k) : signetringref08_Split.f k s = some (splitA s) := by
  unfold signetringref08_Split.f
  by_cases h3 : s.size < 3
  · rw [if_pos (by omega), splitA_no]
    intro j l hs
    have := congrArg List.length hs.toList
    rw [size_list] at this
    simp [joined] at this
    omega
  · rw [if_neg (by omega)]
    obtain ⟨v, c, n, R, hS⟩ : ∃ v c n R, s.data.toList = v :: c :: n :: R := by
      have hl := size_list s
      match hq : s.data.toList with
      | [] => rw [hq] at hl; simp at hl; omega
      | [a] => rw [hq] at hl; simp at hl; omega
      | [a, b] => rw [hq] at hl; simp at hl; omega
      | a :: b :: c :: r => exact ⟨a, b, c, r, rfl⟩
    have hn := n.toNat_lt
    have := refSplit_l0 s v c n R hS hsz n.toNat k 0 [] R (by omega) (by omega) rfl (by simp) (by simp [enc])
    simpa [enc] using this

theorem refRead_end (s : ByteArray) (k i : Nat) (hi : i = min s.size 8) (hk : 8 < k) :
    ((signetringref08_Num.f k ((val (s.data.toList.take i) : Nat) : Int)).bind fun t => (if t.toList = s.toList then (some (((val (s.data.toList.take i) : Nat) : Int), 0)) else (some ((0 : Int), (4 : Int))))) = some (readA s) := by
  have hl := size_list s
  have hv := val_lt (s.data.toList.take i)
  have h8 : (s.data.toList.take i).length ≤ 8 := by rw [List.length_take]; omega
  have hp := Nat.pow_le_pow_right (show 0 < 256 by omega) h8
  rw [refNum_f _ k (by omega) hk, Option.bind_some]
  by_cases hs : s.size ≤ 8
  · rw [List.take_of_length_le (by omega)]
    by_cases h0 : s.data.toList.head? = some 0
    · rw [if_neg, show readA s = (0, 4) from if_neg (fun h => h.2 h0)]
      intro h
      have h' : digits (val s.data.toList) = s.data.toList := by
        have := congrArg (fun b : ByteArray => b.data.toList) ((toList_eq_iff _ _).1 h)
        simpa [digitsS] using this
      have := digits_head (val s.data.toList)
      rw [h'] at this
      exact this h0
    · rw [if_pos, show readA s = (((val s.data.toList : Nat) : Int), 0) from if_pos ⟨hs, h0⟩]
      refine (toList_eq_iff _ _).2 (bytes_ext ?_)
      show (digits (val s.data.toList)).toArray.toList = _
      rw [digits_val _ h0]
  · rw [if_neg, show readA s = (0, 4) from if_neg (fun h => hs h.1)]
    intro h
    have h' : digits (val (s.data.toList.take i)) = s.data.toList := by
      have := congrArg (fun b : ByteArray => b.data.toList) ((toList_eq_iff _ _).1 h)
      simpa [digitsS] using this
    have hd := digits_length (n := val (s.data.toList.take i)) (k := 8) (by omega)
    rw [h', hl] at hd
    exact hs hd
theorem refRead_step (n b : Nat) (hn : n * 256 + b < 18446744073709551616) : IntKind.u64.wrap ((IntKind.u64.wrap ((n : Int) * 256)) + (IntKind.u64.wrap (b : Int))) = ((n * 256 + b : Nat) : Int) := by
  have h : ∀ x : Int, IntKind.u64.wrap x = x % 18446744073709551616 := fun _ => rfl
  rw [h, h, h]
  omega
theorem refRead_l0 (s : ByteArray) : ∀ (d k i : Nat), i + d = min s.size 8 → d + 9 < k →
    signetringref08_Read.l0 k s ((val (s.data.toList.take i) : Nat) : Int) (i : Int) = some (readA s) := by
  have hl := size_list s
  intro d
  induction d with
  | zero =>
    intro k i hi hk
    obtain ⟨k, rfl⟩ : ∃ m, k = m + 1 := ⟨k - 1, by omega⟩
    have he := refRead_end s k i (by omega) (by omega)
    simp only [signetringref08_Read.l0]
    by_cases h : (i : Int) < (s.size : Int)
    · rw [if_pos h, if_neg (by omega)]; exact he
    · rw [if_neg h]; exact he
  | succ d ih =>
    intro k i hi hk
    obtain ⟨k, rfl⟩ : ∃ m, k = m + 1 := ⟨k - 1, by omega⟩
    have h1 : i < s.data.toList.length := by omega
    have hb := s.data.toList[i].toNat_lt
    have hv := val_lt (s.data.toList.take i)
    have h7 : (s.data.toList.take i).length ≤ 7 := by rw [List.length_take]; omega
    have hp := Nat.pow_le_pow_right (show 0 < 256 by omega) h7
    have hst := Lib.hid (refRead_step (val (s.data.toList.take i)) s.data.toList[i].toNat (by omega))
    have hnx : val (s.data.toList.take (i + 1)) = val (s.data.toList.take i) * 256 + s.data.toList[i].toNat := by
      rw [List.take_succ_eq_append_getElem h1, val_snoc]
    simp only [signetringref08_Read.l0]
    rw [if_pos (by omega), if_pos (by omega), if_pos (by omega), bt_list s i h1, hst.out, ← hnx, wrap_one i (by omega)]
    exact ih k (i + 1) (by omega) (by omega)
theorem refRead_f (s : ByteArray) (k : Nat) (hk : 20 < k) : signetringref08_Read.f k s = some (readA s) := by
  unfold signetringref08_Read.f
  have := refRead_l0 s (min s.size 8) k 0 (by omega) (by omega)
  simpa [val_nil] using this
theorem read_f (s : ByteArray) (k : Nat) : codec_Read.f k s = some (readA s) := rfl

end Go.Proofs.Ythajhjipbdpfgaa.C
