/-
  The printed functions' answers, in plain Lean: Same, Take, the document's Join, the numbers' bytes, and the law's own fixed answers.
-/
import Derived.Test.YthajhjipbdpfgaaXTake
import Derived.Test.YthajhjipbdpfgaaXRefSame
import Derived.Test.YthajhjipbdpfgaaXRefNum
import Derived.Test.YthajhjipbdpfgaaXNum
import Derived.Test.YthajhjipbdpfgaaXAlive
import Derived.Test.YthajhjipbdpfgaaXFew
import Derived.Test.YthajhjipbdpfgaaCPlain
set_option linter.unusedVariables false
set_option linter.unusedSimpArgs false
namespace Go.Proofs.Ythajhjipbdpfgaa.C
open Go.RowKit Go.Proofs.YthajhjipbdpfgaaW.PrintWords Go.Proofs.YthajhjipbdpfgaaW.PrintLast Go.Proofs.YthajhjipbdpfgaaW.PrintMore

theorem toList_eq_iff (s t : ByteArray) : s.toList = t.toList ↔ s = t :=
  ⟨fun h => bytes_ext (by rw [ByteArray.toList_eq, ByteArray.toList_eq] at h; exact h), fun h => by rw [h]⟩
theorem rdOf_at {α : Type} (d : α) (l : List α) (i : Nat) (h : i < l.length) : rdOf d l (i : Int) = l[i] := by simp [rdOf, h]
theorem wrap_small (n : Nat) (h : n < 4611686018427387904) : wrap64 (n : Int) = n := by unfold wrap64; omega
theorem wrap_one (i : Nat) (h : i < 4611686018427387904) : wrap64 ((i : Int) + 1) = ((i + 1 : Nat) : Int) := by unfold wrap64; omega

/-! ## The very same texts? -/
theorem same_l0 (l m : List ByteArray) (hm : l.length = m.length) (hl : l.length < 4611686018427387904) : ∀ (d k i : Nat), i + d = l.length → d < k → signetringref08_Same.l0 k l m (i : Int) = some (decide (l.drop i = m.drop i)) := by
  intro d
  induction d with
  | zero =>
    intro k i hi hk
    obtain ⟨k, rfl⟩ : ∃ n, k = n + 1 := ⟨k - 1, by omega⟩
    simp only [signetringref08_Same.l0]
    rw [if_neg (by omega), List.drop_of_length_le (by omega), List.drop_of_length_le (by omega)]
    simp
  | succ d ih =>
    intro k i hi hk
    obtain ⟨k, rfl⟩ : ∃ n, k = n + 1 := ⟨k - 1, by omega⟩
    have h1 : i < l.length := by omega
    have h2 : i < m.length := by omega
    simp only [signetringref08_Same.l0]
    rw [if_pos (by omega), if_pos (by omega), if_pos (by omega), rdOf_at _ l i h1, rdOf_at _ m i h2, wrap_one i (by omega), ih k (i + 1) (by omega) (by omega)]
    have e1 : (l.drop i = m.drop i) ↔ (l[i] = m[i] ∧ l.drop (i + 1) = m.drop (i + 1)) := by
      rw [List.drop_eq_getElem_cons h1, List.drop_eq_getElem_cons h2, List.cons.injEq]
    by_cases e : l[i] = m[i]
    · rw [if_pos ((toList_eq_iff _ _).2 e)]
      congr 1
      exact decide_eq_decide.2 ⟨fun h => e1.2 ⟨e, h⟩, fun h => (e1.1 h).2⟩
    · rw [if_neg (fun h => e ((toList_eq_iff _ _).1 h))]
      congr 1
      exact (decide_eq_false (fun h => e (e1.1 h).1)).symm
theorem same_f (l m : List ByteArray) (k : Nat) (hl : l.length < 4611686018427387904) (hk : l.length < k) : signetringref08_Same.f k l m = some (decide (l = m)) := by
  unfold signetringref08_Same.f
  by_cases h : l.length = m.length
  · rw [if_pos (by omega)]
    have := same_l0 l m h hl l.length k 0 (by omega) hk
    simpa using this
  · rw [if_neg (by omega)]
    have : l ≠ m := fun e => h (by rw [e])
    simp [this]

/-! ## Taken of a kind -/
theorem split_f (k : Nat) (s : ByteArray) {j : Nat} {l : List ByteArray} (h : Splits s j l) : codec_Split.f k s = some ((j : Int), l, 0) := by
  unfold codec_Split.f
  rw [(splitB_iff s j l).2 h]
theorem split_no (k : Nat) (s : ByteArray) (h : ¬ ∃ j l, Splits s j l) : codec_Split.f k s = some (0, [], 4) := by
  unfold codec_Split.f
  cases hs : splitB s with
  | none => rfl
  | some p => exact absurd ⟨p.1, p.2, (splitB_iff s p.1 p.2).1 hs⟩ h
theorem take_f (k : Nat) (s : ByteArray) (a n : Int) {j : Nat} {l : List ByteArray} (h : Splits s j l) : codec_Take.f k s a n = some (if (j : Int) = a ∧ (l.length : Int) = n then (l, 0) else ([], 4)) := by
  unfold codec_Take.f
  rw [split_f k s h]
  simp only [Option.bind_some, if_true]
  by_cases h1 : (j : Int) = a
  · by_cases h2 : (l.length : Int) = n
    · rw [if_pos h1, if_pos h2, if_pos ⟨h1, h2⟩]
    · rw [if_pos h1, if_neg h2, if_neg (fun h => h2 h.2)]
  · rw [if_neg h1, if_neg (fun h => h1 h.1)]
theorem take_no (k : Nat) (s : ByteArray) (a n : Int) (h : ¬ ∃ j l, Splits s j l) : codec_Take.f k s a n = some ([], 4) := by
  unfold codec_Take.f
  rw [split_no k s h]
  simp

/-! ## The document's Join -/
theorem refJoin_f (n : Nat) (l : List ByteArray) (k : Nat) (hn : n < 256) : signetringref08_Join.f k (n : Int) l = some (joinA n l) := by
  unfold signetringref08_Join.f
  rw [if_pos ⟨by omega, by omega⟩]; simp
theorem join_f (n : Nat) (l : List ByteArray) (k : Nat) (hn : n < 256) : codec_Join.f k (n : Int) l = some (joinA n l) := by
  unfold codec_Join.f
  rw [if_pos ⟨by omega, by omega⟩]; simp

/-! ## A number's bytes -/
/-- The bytes from place i down. -/
def from8 (n : Nat) : Nat → List UInt8
  | 0 => []
  | i + 1 => UInt8.ofNat (n / 256 ^ i % 256) :: from8 n i
theorem length_from8 (n : Nat) : ∀ i, (from8 n i).length = i
  | 0 => rfl
  | i + 1 => by simp [from8, length_from8 n i]
theorem val_from8 (n : Nat) : ∀ i, val (from8 n i) = n % 256 ^ i
  | 0 => by simp [from8, val_nil, Nat.mod_one]
  | i + 1 => by
    have hl := length_from8 n i
    have hm : (UInt8.ofNat (n / 256 ^ i % 256)).toNat = n / 256 ^ i % 256 := by rw [UInt8.toNat_ofNat']; omega
    rw [from8, val_cons, val_from8 n i, hl, hm, Nat.pow_succ, Nat.mod_mul, Nat.mul_comm, Nat.add_comm]
theorem shr_at (n i : Nat) (hi : i ≤ 7) : shr .u64 (n : Int) ((8 * i : Nat) : Int) % 256 = ((n / 256 ^ i % 256 : Nat) : Int) := by
  have e : (2 : Int) ^ min (((8 * i : Nat) : Int)).toNat (IntKind.u64.bits) = ((256 ^ i : Nat) : Int) := by
    have h1 : min (((8 * i : Nat) : Int)).toNat (IntKind.u64.bits) = 8 * i := by
      have : IntKind.u64.bits = 64 := rfl
      omega
    rw [h1, show (256 : Nat) = 2 ^ 8 from rfl, ← Nat.pow_mul]
    simp
  unfold shr
  rw [e]
  omega
theorem num_l0 (n : Nat) : ∀ (i k : Nat) (acc : List Int), i ≤ 8 → i < k → acc.length ≤ 8 - i → (∀ x ∈ acc, 0 ≤ x ∧ x < 256) →
    codec_Num.l0 k (n : Int) acc (8 * (i : Int) - 8) = some (strOfNums (acc ++ (if acc = [] then (from8 n i).dropWhile (· = 0) else from8 n i).map fun b => (b.toNat : Int))) := by
  intro i
  induction i with
  | zero =>
    intro k acc _ hk _ _
    obtain ⟨k, rfl⟩ : ∃ m, k = m + 1 := ⟨k - 1, by omega⟩
    simp only [codec_Num.l0]
    rw [if_neg (by omega)]
    split <;> simp [from8]
  | succ i ih =>
    intro k acc hi hk hacc hb
    obtain ⟨k, rfl⟩ : ∃ m, k = m + 1 := ⟨k - 1, by omega⟩
    have hs : shr .u64 (n : Int) (8 * ((i + 1 : Nat) : Int) - 8) % 256 = ((n / 256 ^ i % 256 : Nat) : Int) := by
      rw [← shr_at n i (by omega), show 8 * ((i + 1 : Nat) : Int) - 8 = ((8 * i : Nat) : Int) by omega]
    have hw : wrap64 (8 * ((i + 1 : Nat) : Int) - 8 - 8) = 8 * (i : Int) - 8 := by unfold wrap64; omega
    have hby : (UInt8.ofNat (n / 256 ^ i % 256)).toNat = n / 256 ^ i % 256 := by rw [UInt8.toNat_ofNat']; omega
    have hz : UInt8.ofNat (n / 256 ^ i % 256) = 0 ↔ n / 256 ^ i % 256 = 0 := by
      constructor
      · intro h; rw [← hby, h]; rfl
      · intro h; rw [h]; rfl
    simp only [codec_Num.l0]
    rw [if_pos (by omega), if_pos (by omega), hs, hw]
    have step : codec_Num.l0 k (n : Int) (acc ++ [((n / 256 ^ i % 256 : Nat) : Int)]) (8 * (i : Int) - 8) = some (strOfNums (acc ++ (from8 n (i + 1)).map fun b => (b.toNat : Int))) := by
      rw [ih k _ (by omega) (by omega) (by simp; omega) (by
        intro x hx
        rcases List.mem_append.1 hx with hx | hx
        · exact hb x hx
        · rw [List.mem_singleton.1 hx]; omega), if_neg (by simp)]
      simp only [from8, List.map_cons, hby, List.append_assoc, List.singleton_append]
    by_cases h0 : n / 256 ^ i % 256 = 0
    · rw [if_pos (by omega)]
      by_cases ha : acc = []
      · rw [if_neg (by simp [ha]), ih k acc (by omega) (by omega) (by omega) hb, if_pos ha, if_pos ha]
        simp only [from8]
        rw [List.dropWhile_cons_of_pos (by simpa using hz.2 h0)]
      · have hp : 0 < acc.length := List.length_pos_iff.2 ha
        rw [if_pos (by omega), if_pos (by omega), step, if_neg ha]
    · rw [if_neg (by omega), if_pos (by omega), step]
      by_cases ha : acc = []
      · rw [if_pos ha]
        simp only [from8]
        rw [List.dropWhile_cons_of_neg (by simpa using fun h => h0 (hz.1 h))]
      · rw [if_neg ha]
theorem nums_bytes (l : List UInt8) : strOfNums (l.map fun b => (b.toNat : Int)) = ⟨l.toArray⟩ := by
  unfold strOfNums
  congr 2
  rw [List.map_map]
  refine (List.map_congr_left (fun b _ => ?_)).trans (List.map_id l)
  simp
/-- A number's bytes as a text. -/
def digitsS (n : Nat) : ByteArray := ⟨(digits n).toArray⟩
theorem num_f (n k : Nat) (hn : n < 18446744073709551616) (hk : 8 < k) : codec_Num.f k (n : Int) = some (digitsS n) := by
  unfold codec_Num.f
  have := num_l0 n 8 k [] (by omega) hk (by simp) (by simp)
  rw [show (8 * ((8 : Nat) : Int) - 8) = 56 by omega] at this
  rw [this, if_pos rfl, List.nil_append, nums_bytes, ← digits_dropWhile, val_from8]
  unfold digitsS
  rw [Nat.mod_eq_of_lt (by simpa using hn)]

theorem refNum_l0 : ∀ (k n : Nat) (s : ByteArray), n < 256 ^ k → s.size + k ≤ 100 → n < 18446744073709551616 → signetringref08_Num.l0 (k + 1) (n : Int) s = some ⟨(digits n ++ s.data.toList).toArray⟩ := by
  intro k
  induction k with
  | zero =>
    intro n s hn _ _
    have : n = 0 := by simp at hn; omega
    subst this
    simp only [signetringref08_Num.l0]
    rw [if_neg (by omega), digits_zero]
    simp
  | succ k ih =>
    intro n s hn hs h64
    by_cases h0 : n = 0
    · subst h0
      rw [signetringref08_Num.l0, if_neg (by omega), digits_zero]
      simp
    · have h1 : Int.tmod (n : Int) 256 = ((n % 256 : Nat) : Int) := by
        rw [Int.tmod_eq_emod_of_nonneg (by omega)]; omega
      have h2 : IntKind.u64.wrap (Int.tdiv (n : Int) 256) = ((n / 256 : Nat) : Int) := by
        rw [Int.tdiv_eq_ediv_of_nonneg (by omega), show (n : Int) / 256 = ((n / 256 : Nat) : Int) by omega]
        have : IntKind.u64.wrap ((n / 256 : Nat) : Int) = ((n / 256 : Nat) : Int) % 18446744073709551616 := rfl
        rw [this]
        omega
      rw [signetringref08_Num.l0, if_pos (by omega), Option.bind_some, h1, h2]
      have e : strOfNums [((n % 256 : Nat) : Int) % 256] = ⟨[UInt8.ofNat (n % 256)].toArray⟩ := by
        rw [show ((n % 256 : Nat) : Int) % 256 = ((n % 256 : Nat) : Int) by omega]
        show (⟨[UInt8.ofNat (((n % 256 : Nat) : Int)).toNat].toArray⟩ : ByteArray) = _
        rw [Int.toNat_natCast]
      have hs1 : (⟨[UInt8.ofNat (n % 256)].toArray⟩ : ByteArray).size = 1 := rfl
      have hs2 : ((⟨[UInt8.ofNat (n % 256)].toArray⟩ : ByteArray) ++ s).size = s.size + 1 := by
        rw [ByteArray.size_append, hs1]; omega
      rw [e, if_pos (by rw [hs1]; omega), ih (n / 256) _ (by rw [Nat.pow_succ] at hn; omega) (by rw [hs2]; omega) (by omega), digits_pos h0]
      congr 3
      simp
theorem refNum_f (n k : Nat) (hn : n < 18446744073709551616) (hk : 8 < k) : signetringref08_Num.f k (n : Int) = some (digitsS n) := by
  unfold signetringref08_Num.f
  obtain ⟨k, rfl⟩ : ∃ m, k = m + 1 := ⟨k - 1, by omega⟩
  have h256 : n < 256 ^ k := Nat.lt_of_lt_of_le (by simpa using hn : n < 256 ^ 8) (Nat.pow_le_pow_right (by omega) (by omega))
  -- eight rounds are enough
  have hle : ∀ j, LeO (signetringref08_Num.l0 9 (n : Int) ⟨#[]⟩) (signetringref08_Num.l0 (9 + j) (n : Int) ⟨#[]⟩) := by
    intro j
    induction j with
    | zero => exact LeO.refl _
    | succ j ih => exact LeO.trans ih (signetringref08_Num.mono_l (9 + j) _ _)
  have h9 := refNum_l0 8 n ⟨#[]⟩ (by simpa using hn) (by decide) hn
  have := hle (k - 8) _ h9
  rw [show 9 + (k - 8) = k + 1 by omega] at this
  rw [this]
  simp [digitsS]

/-! ## Few enough? -/
theorem few_l0 (l : List ByteArray) (hl : l.length < 4611686018427387904) : ∀ (d k i : Nat) (x : Int), i + d = l.length → d < k → ∃ b, signetringlaw08_few.l0 k x l (l.length : Int) (i : Int) = some b := by
  intro d
  induction d with
  | zero =>
    intro k i x hi hk
    obtain ⟨k, rfl⟩ : ∃ n, k = n + 1 := ⟨k - 1, by omega⟩
    simp only [signetringlaw08_few.l0]
    rw [if_neg (by omega)]
    exact ⟨_, rfl⟩
  | succ d ih =>
    intro k i x hi hk
    obtain ⟨k, rfl⟩ : ∃ n, k = n + 1 := ⟨k - 1, by omega⟩
    simp only [signetringlaw08_few.l0]
    rw [if_pos (by omega), if_pos (by omega), if_pos (by omega), wrap_one i (by omega)]
    exact ih k (i + 1) _ (by omega) (by omega)
theorem few_f (l : List ByteArray) (k : Nat) (hl : l.length < 4611686018427387904) (hk : l.length < k) : ∃ b, signetringlaw08_few.f k l = some b := by
  unfold signetringlaw08_few.f
  have := few_l0 l hl l.length k 0 0 (by omega) hk
  simpa using this

/-! ## The law's own fixed answers -/
theorem digits_258 : digitsS 258 = ⟨#[1, 2]⟩ := by
  unfold digitsS
  have h := digits_val [1, 2] (by decide)
  rw [show val [1, 2] = 258 by decide] at h
  rw [h]
theorem alive_f (k : Nat) (hk : 20 < k) : signetringlaw08_alive.f k = some true := by
  have h1 : codec_Join.f k 7 [(⟨#[97]⟩ : ByteArray), ⟨#[]⟩] = some (⟨#[1, 7, 2, 0, 1, 97, 0, 0]⟩, 0) :=
    (join_f 7 [⟨#[97]⟩, ⟨#[]⟩] k (by omega)).trans (congrArg some (by decide +kernel))
  have h2 : codec_Split.f k ⟨#[1, 7, 2, 0, 1, 97, 0, 0]⟩ = some (7, [(⟨#[97]⟩ : ByteArray), ⟨#[]⟩], 0) := by
    unfold codec_Split.f
    rw [show splitB ⟨#[1, 7, 2, 0, 1, 97, 0, 0]⟩ = some (7, [(⟨#[97]⟩ : ByteArray), ⟨#[]⟩]) by decide +kernel]
    rfl
  have h3 : codec_Take.f k ⟨#[1, 7, 2, 0, 1, 97, 0, 0]⟩ 8 2 = some ([], 4) := by
    unfold codec_Take.f
    rw [h2]
    simp
  have h4 : codec_Num.f k 258 = some ⟨#[1, 2]⟩ := by
    have := num_f 258 k (by omega) (by omega)
    rw [digits_258] at this
    exact this
  have h5 : codec_Read.f k ⟨#[1, 2]⟩ = some (258, 0) := congrArg some (by decide +kernel)
  have h6 : codec_Read.f k ⟨#[0]⟩ = some (0, 4) := congrArg some (by decide +kernel)
  have h7 : signetringref08_Same.f k [(⟨#[97]⟩ : ByteArray), ⟨#[]⟩] [(⟨#[97]⟩ : ByteArray), ⟨#[]⟩] = some true :=
    (same_f _ _ k (by decide) (by simp; omega)).trans (congrArg some (by simp))
  have h8 : codec_Num.f k 0 = some ⟨#[]⟩ := by
    have := num_f 0 k (by omega) (by omega)
    unfold digitsS at this
    rw [digits_zero] at this
    exact this
  unfold signetringlaw08_alive.f
  simp only [h1, h2, h3, h4, h5, h6, h7, h8, Option.bind_some, if_true]
  rw [if_pos (by rw [ByteArray.toList_eq])]
  rw [ByteArray.toList_eq]
  rfl

end Go.Proofs.Ythajhjipbdpfgaa.C
