/-
  What is joined has three bytes, and two more than each text: the law in plain Lean.
-/
import Derived.Test.YthajhjipbdpfgaaCLawB
import Derived.Test.YthajhjipbdpfgaaXCodecSizes
set_option linter.unusedVariables false
set_option linter.unusedSimpArgs false
namespace Go.Proofs.Ythajhjipbdpfgaa.Pure
open Go.RowKit Go.Proofs.Ythajhjipbdpfgaa.C Go.Proofs.YthajhjipbdpfgaaW.PrintWords Go.Proofs.YthajhjipbdpfgaaW.PrintLast

theorem length_take_enc (l : List ByteArray) (i : Nat) (h : i < l.length) : (enc (l.take (i + 1))).length = (enc (l.take i)).length + (l[i].size + 2) := by
  rw [List.take_succ_eq_append_getElem h, enc_append, List.length_append]
  simp [enc, length_one]

theorem sizes_end_big (j : Nat) (l : List ByteArray) (k : Nat) (x : Int) (lg : Bool) (hbig : ¬ Fits l) (hx : x > 30000 ∨ lg = true ∨ (l.length : Int) > 255) :
    signetringlaw08_CodecSizes.l0 (k + 1) (j : Int) l ⟨#[]⟩ 3 x lg l (l.length : Int) (l.length : Int) = some true := by
  have he : ((⟨#[]⟩ : ByteArray).toList == ([] : List UInt8)) = true := by rw [ByteArray.toList_eq]; rfl
  rw [signetringlaw08_CodecSizes.l0, if_neg (by omega)]
  by_cases h1 : x > 30000
  · rw [if_pos h1, if_pos rfl, he]
  · rw [if_neg h1]
    by_cases h2 : lg = true
    · rw [if_pos h2, if_pos rfl, he]
    · rw [if_neg h2, if_pos ((hx.resolve_left h1).resolve_left h2), if_pos rfl, he]

theorem sizes_long (j : Nat) (l : List ByteArray) (hbig : ¬ Fits l) (hl : l.length ≤ 8796093022208) : ∀ (d k i : Nat) (x : Int), i + d = l.length → d < k →
    signetringlaw08_CodecSizes.l0 k (j : Int) l ⟨#[]⟩ 3 x true l (l.length : Int) (i : Int) = some true := by
  intro d
  induction d with
  | zero =>
    intro k i x hi hk
    obtain ⟨k, rfl⟩ : ∃ n, k = n + 1 := ⟨k - 1, by omega⟩
    obtain rfl : i = l.length := by omega
    exact sizes_end_big j l k x true hbig (.inr (.inl rfl))
  | succ d ih =>
    intro k i x hi hk
    obtain ⟨k, rfl⟩ : ∃ n, k = n + 1 := ⟨k - 1, by omega⟩
    rw [signetringlaw08_CodecSizes.l0, if_pos (by omega), if_pos (by omega), if_pos (by omega), if_pos rfl, wrap_one i (by omega)]
    exact ih k (i + 1) _ (by omega) (by omega)

theorem sizes_l0 (j : Nat) (hj : j < 256) (l : List ByteArray) (hl : l.length ≤ 8796093022208) : ∀ (d k i : Nat), i + d = l.length → d < k → (∀ s ∈ l.take i, s.size ≤ 4000) →
    signetringlaw08_CodecSizes.l0 k (j : Int) l (joinA j l).1 (joinA j l).2 ((3 + (enc (l.take i)).length : Nat) : Int) false l (l.length : Int) (i : Int) = some true := by
  intro d
  induction d with
  | zero =>
    intro k i hi hk hs
    obtain ⟨k, rfl⟩ : ∃ n, k = n + 1 := ⟨k - 1, by omega⟩
    obtain rfl : i = l.length := by omega
    rw [List.take_length] at hs ⊢
    by_cases hf : Fits l
    · have h3 := hf.2.2
      have h255 := hf.1
      rw [show joinA j l = (joinedS j l, 0) from if_pos hf]
      have hz := size_joinedS j l
      have hd : (joinedS j l).data.toList = 1 :: UInt8.ofNat j :: UInt8.ofNat l.length :: enc l := by simp [joinedS, joined]
      have b0 : bt (joinedS j l) 0 = 1 := bt_get (joinedS j l) 0 1 (by rw [hd]; rfl)
      have b1 : bt (joinedS j l) 1 = (j : Int) := by
        have := bt_get (joinedS j l) 1 (UInt8.ofNat j) (by rw [hd]; rfl)
        rw [UInt8.toNat_ofNat'] at this
        rw [show ((1 : Nat) : Int) = 1 from rfl] at this
        rw [this]; omega
      have b2 : bt (joinedS j l) 2 = (l.length : Int) := by
        have := bt_get (joinedS j l) 2 (UInt8.ofNat l.length) (by rw [hd]; rfl)
        rw [UInt8.toNat_ofNat'] at this
        rw [show ((2 : Nat) : Int) = 2 from rfl] at this
        rw [this]; omega
      have hb2 := Lib.hid b2
      clear b2
      rw [signetringlaw08_CodecSizes.l0, if_neg (by omega), if_neg (by omega), if_neg (by decide), if_neg (by omega), if_pos rfl, hz, if_pos (by omega), if_pos (by omega), if_pos b0, if_pos (by omega), if_pos b1, if_pos (by omega), hb2.out,
        Go.Proofs.Ythajhjipbdpfgaa.C.wrap_small _ (by omega)]
      simp
    · rw [joinA_not hf]
      refine sizes_end_big j l k _ false hf ?_
      by_cases h1 : ((3 + (enc l).length : Nat) : Int) > 30000
      · exact .inl h1
      · exact .inr (.inr (by
          by_cases h2 : l.length ≤ 255
          · exact absurd ⟨h2, hs, by omega⟩ hf
          · omega))
  | succ d ih =>
    intro k i hi hk hs
    obtain ⟨k, rfl⟩ : ∃ n, k = n + 1 := ⟨k - 1, by omega⟩
    have h1 : i < l.length := by omega
    rw [signetringlaw08_CodecSizes.l0, if_pos (by omega), if_pos (by omega), if_pos (by omega), if_neg (by decide), rdOf_at _ l i h1, wrap_one i (by omega)]
    by_cases hb : l[i].size ≤ 4000
    · have hle := length_enc_le (l.take i) hs
      have htl : (l.take i).length ≤ 8796093022208 := by rw [List.length_take]; omega
      have hw : wrap64 (((3 + (enc (l.take i)).length : Nat) : Int) + wrap64 (2 + (l[i].size : Int))) = ((3 + (enc (l.take (i + 1))).length : Nat) : Int) := by
        rw [show 2 + (l[i].size : Int) = ((2 + l[i].size : Nat) : Int) by omega, Go.Proofs.Ythajhjipbdpfgaa.C.wrap_small _ (by omega),
          show ((3 + (enc (l.take i)).length : Nat) : Int) + ((2 + l[i].size : Nat) : Int) = ((3 + (enc (l.take i)).length + (2 + l[i].size) : Nat) : Int) by omega, Go.Proofs.Ythajhjipbdpfgaa.C.wrap_small _ (by omega), length_take_enc l i h1]
        omega
      have hw' := Lib.hid hw
      clear hw
      rw [hw'.out, decide_eq_false (by omega)]
      refine ih k (i + 1) (by omega) (by omega) ?_
      intro s hs'
      rw [List.take_succ_eq_append_getElem h1] at hs'
      rcases List.mem_append.1 hs' with hs' | hs'
      · exact hs s hs'
      · rw [List.mem_singleton.1 hs']; exact hb
    · have hf : ¬ Fits l := fun hf => hb (hf.2.1 _ (List.getElem_mem h1))
      rw [decide_eq_true (by omega), joinA_not hf]
      exact sizes_long j l hf hl d k (i + 1) _ (by omega) (by omega)

theorem CodecSizes (a : Int) (l : List ByteArray) (wa : (Lit.int .u8 a).wf = true) (hl : l.length ≤ 8796093022208) :
    ∃ k, signetringlaw08_CodecSizes.f k a l = some true := by
  have ha : 0 ≤ a ∧ a ≤ 255 := by simp [Lit.wf, IntKind.min, IntKind.max, IntKind.signed, IntKind.bits] at wa; omega
  obtain ⟨j, rfl⟩ : ∃ j : Nat, a = j := ⟨a.toNat, by omega⟩
  have hj : j < 256 := by omega
  refine ⟨l.length + 400, ?_⟩
  obtain ⟨b, hb⟩ := few_f l (l.length + 400) (by omega) (by omega)
  unfold signetringlaw08_CodecSizes.f
  rw [alive_f _ (by omega), Option.bind_some, if_pos rfl, hb, Option.bind_some]
  cases b with
  | false => rfl
  | true =>
    rw [if_pos rfl, join_f j l _ hj, Option.bind_some]
    have := sizes_l0 j hj l hl l.length (l.length + 400) 0 (by omega) (by omega) (by simp)
    simpa [enc] using this

end Go.Proofs.Ythajhjipbdpfgaa.Pure
