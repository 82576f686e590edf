/-
  What texts are joined to, what a text is split to, and the bytes of a number, in plain Lean, with the laws that tie them together.
-/
import Derived.Test.YthajhjipbdpfgaaProg
set_option linter.unusedVariables false
set_option linter.unusedSimpArgs false
namespace Go.Proofs.Ythajhjipbdpfgaa

/-- A text behind its length's two bytes. -/
def one (s : ByteArray) : List UInt8 := UInt8.ofNat (s.size / 256) :: UInt8.ofNat (s.size % 256) :: s.data.toList
/-- Texts, one behind the other. -/
def enc : List ByteArray → List UInt8
  | [] => []
  | s :: l => one s ++ enc l
/-- What texts are joined to. -/
def joined (k : Nat) (l : List ByteArray) : List UInt8 := 1 :: UInt8.ofNat k :: UInt8.ofNat l.length :: enc l
/-- .. where they may be joined. -/
def Fits (l : List ByteArray) : Prop := l.length ≤ 255 ∧ (∀ s ∈ l, s.size ≤ 4000) ∧ (enc l).length + 3 ≤ 30000
/-- .. as a text. -/
def joinedS (k : Nat) (l : List ByteArray) : ByteArray := ⟨(joined k l).toArray⟩

theorem size_list (s : ByteArray) : s.data.toList.length = s.size := rfl
theorem bytes_ext {s t : ByteArray} (h : s.data.toList = t.data.toList) : s = t := by
  cases s; cases t; simp only [ByteArray.mk.injEq]; exact Array.toList_inj.mp h

theorem length_one (s : ByteArray) : (one s).length = s.size + 2 := by simp [one, size_list]
theorem enc_append (l m : List ByteArray) : enc (l ++ m) = enc l ++ enc m := by
  induction l with
  | nil => rfl
  | cons s l ih => simp [enc, ih]
theorem length_enc_ge (l : List ByteArray) : 2 * l.length ≤ (enc l).length := by
  induction l with
  | nil => simp [enc]
  | cons s l ih => simp only [enc, List.length_append, length_one, List.length_cons]; omega

theorem u8_two {n m : Nat} (hn : n < 65536) (hm : m < 65536) (h1 : UInt8.ofNat (n / 256) = UInt8.ofNat (m / 256)) (h2 : UInt8.ofNat (n % 256) = UInt8.ofNat (m % 256)) : n = m := by
  have e1 := congrArg UInt8.toNat h1
  have e2 := congrArg UInt8.toNat h2
  simp only [UInt8.toNat_ofNat'] at e1 e2
  omega
theorem u8_one {n m : Nat} (hn : n < 256) (hm : m < 256) (h1 : UInt8.ofNat n = UInt8.ofNat m) : n = m := by
  have e1 := congrArg UInt8.toNat h1
  simp only [UInt8.toNat_ofNat'] at e1
  omega

theorem one_inj {s t : ByteArray} {a b : List UInt8} (hs : s.size < 65536) (ht : t.size < 65536) (h : one s ++ a = one t ++ b) : s = t ∧ a = b := by
  simp only [one, List.cons_append, List.cons.injEq] at h
  obtain ⟨h1, h2, h3⟩ := h
  have hsz := u8_two (by omega) (by omega) h1 h2
  have := List.append_inj h3 (by simpa [size_list] using hsz)
  exact ⟨bytes_ext this.1, this.2⟩

theorem enc_inj : ∀ {l m : List ByteArray} {a b : List UInt8}, (∀ s ∈ l, s.size < 65536) → (∀ s ∈ m, s.size < 65536) → l.length = m.length → enc l ++ a = enc m ++ b → l = m ∧ a = b
  | [], [], a, b, _, _, _, h => ⟨rfl, h⟩
  | s :: l, t :: m, a, b, hl, hm, hn, h => by
    simp only [enc, List.append_assoc] at h
    obtain ⟨rfl, h2⟩ := one_inj (hl s (by simp)) (hm t (by simp)) h
    obtain ⟨rfl, h3⟩ := enc_inj (l := l) (m := m) (fun x hx => hl x (List.mem_cons_of_mem _ hx)) (fun x hx => hm x (List.mem_cons_of_mem _ hx)) (by simpa using hn) h2
    exact ⟨rfl, h3⟩
  | [], t :: m, _, _, _, _, hn, _ => by simp at hn
  | s :: l, [], _, _, _, _, hn, _ => by simp at hn

/-- With something behind it, what is joined is no other's. -/
theorem joined_inj {k j : Nat} {l m : List ByteArray} {a b : List UInt8} (hk : k < 256) (hj : j < 256) (hl : Fits l) (hm : Fits m) (h : joined k l ++ a = joined j m ++ b) : k = j ∧ l = m ∧ a = b := by
  simp only [joined, List.cons_append, List.cons.injEq, true_and] at h
  obtain ⟨h1, h2, h3⟩ := h
  have hn := u8_one (by have := hl.1; omega) (by have := hm.1; omega) h2
  obtain ⟨rfl, rfl⟩ := enc_inj (fun s hs => by have := hl.2.1 s hs; omega) (fun s hs => by have := hm.2.1 s hs; omega) hn h3
  exact ⟨u8_one hk hj h1, rfl, rfl⟩

theorem joinedS_inj {k j : Nat} {l m : List ByteArray} (hk : k < 256) (hj : j < 256) (hl : Fits l) (hm : Fits m) (h : joinedS k l = joinedS j m) : k = j ∧ l = m := by
  have h' : joined k l ++ [] = joined j m ++ [] := by
    have := congrArg (fun s : ByteArray => s.data.toList) h
    simpa [joinedS] using this
  obtain ⟨a, b, _⟩ := joined_inj hk hj hl hm h'
  exact ⟨a, b⟩

/-- What a text is split to. -/
def Splits (s : ByteArray) (k : Nat) (l : List ByteArray) : Prop := k < 256 ∧ Fits l ∧ s = joinedS k l
theorem Splits.uniq {s : ByteArray} {k j : Nat} {l m : List ByteArray} (h : Splits s k l) (h' : Splits s j m) : k = j ∧ l = m :=
  joinedS_inj h.1 h'.1 h.2.1 h'.2.1 (h.2.2 ▸ h'.2.2)
theorem Splits.toList {s : ByteArray} {k : Nat} {l : List ByteArray} (h : Splits s k l) : s.data.toList = joined k l := by rw [h.2.2]; rfl
theorem size_joinedS (k : Nat) (l : List ByteArray) : (joinedS k l).size = (enc l).length + 3 := by
  show (joined k l).toArray.size = _
  simp [joined]

/-- What a text's head and first texts are, if it is split. -/
theorem splits_rest {s : ByteArray} {v c n : UInt8} {acc l : List ByteArray} {rest : List UInt8} {j : Nat} (hS : s.data.toList = v :: c :: n :: (enc acc ++ rest)) (ha : ∀ x ∈ acc, x.size < 65536) (hn : acc.length ≤ n.toNat) (h : Splits s j l) :
    j = c.toNat ∧ l.length = n.toNat ∧ acc = l.take acc.length ∧ rest = enc (l.drop acc.length) := by
  have e := h.toList
  rw [hS] at e
  simp only [joined, List.cons.injEq] at e
  obtain ⟨_, e2, e3, e4⟩ := e
  have hk := h.1
  have hl := h.2.1.1
  have g2 : j = c.toNat := by rw [e2, UInt8.toNat_ofNat']; omega
  have g3 : l.length = n.toNat := by rw [e3, UInt8.toNat_ofNat']; omega
  rw [← List.take_append_drop acc.length l, enc_append] at e4
  obtain ⟨h1, h2⟩ := enc_inj ha (fun x hx => by have := h.2.1.2.1 x (List.mem_of_mem_take hx); omega) (by rw [List.length_take]; omega) e4
  exact ⟨g2, g3, h1, h2⟩

/-! ## A text, read -/

/-- So many texts, and nothing behind them. -/
def parse : Nat → List UInt8 → Option (List ByteArray)
  | 0, r => if r = [] then some [] else none
  | n + 1, a :: b :: r => if a.toNat * 256 + b.toNat ≤ 4000 then if a.toNat * 256 + b.toNat ≤ r.length then (parse n (r.drop (a.toNat * 256 + b.toNat))).map (⟨(r.take (a.toNat * 256 + b.toNat)).toArray⟩ :: ·) else none else none
  | _ + 1, _ => none

def splitL : List UInt8 → Option (Nat × List ByteArray)
  | v :: k :: n :: r => if v = 1 then (parse n.toNat r).map fun l => (k.toNat, l) else none
  | _ => none
/-- What a text is split to, if to anything. -/
def splitB (s : ByteArray) : Option (Nat × List ByteArray) := if s.size ≤ 30000 then splitL s.data.toList else none

theorem parse_enc : ∀ (l : List ByteArray), (∀ s ∈ l, s.size ≤ 4000) → parse l.length (enc l) = some l
  | [], _ => rfl
  | s :: l, h => by
    have hs := h s (by simp)
    have e : (UInt8.ofNat (s.size / 256)).toNat * 256 + (UInt8.ofNat (s.size % 256)).toNat = s.data.toList.length := by
      rw [UInt8.toNat_ofNat', UInt8.toNat_ofNat', size_list]; omega
    simp only [enc, one, List.length_cons, List.cons_append, parse, e]
    rw [if_pos (by rw [size_list]; exact hs), if_pos (by simp), List.drop_left, List.take_left, parse_enc l (fun x hx => h x (List.mem_cons_of_mem _ hx))]
    rfl
theorem enc_parse : ∀ (n : Nat) (r : List UInt8) (l : List ByteArray), parse n r = some l → l.length = n ∧ (∀ s ∈ l, s.size ≤ 4000) ∧ r = enc l
  | 0, r, l, h => by
    simp only [parse] at h
    by_cases hr : r = []
    · rw [if_pos hr] at h
      obtain rfl := Option.some.inj h
      exact ⟨rfl, by simp, hr⟩
    · rw [if_neg hr] at h; cases h
  | n + 1, a :: b :: r, l, h => by
    simp only [parse] at h
    have ha := a.toNat_lt
    have hb := b.toNat_lt
    by_cases h1 : a.toNat * 256 + b.toNat ≤ 4000
    · rw [if_pos h1] at h
      by_cases h2 : a.toNat * 256 + b.toNat ≤ r.length
      · rw [if_pos h2] at h
        obtain ⟨l', hl', rfl⟩ := Option.map_eq_some_iff.1 h
        obtain ⟨e1, e2, e3⟩ := enc_parse n _ l' hl'
        have hsz : (⟨(r.take (a.toNat * 256 + b.toNat)).toArray⟩ : ByteArray).size = a.toNat * 256 + b.toNat := by
          show (r.take (a.toNat * 256 + b.toNat)).toArray.size = _
          simp; omega
        refine ⟨by simp [e1], ?_, ?_⟩
        · intro s hs
          rcases List.mem_cons.1 hs with rfl | hs
          · rw [hsz]; exact h1
          · exact e2 s hs
        · simp only [enc, one, hsz, ← e3]
          have q1 : UInt8.ofNat ((a.toNat * 256 + b.toNat) / 256) = a := by
            rw [show (a.toNat * 256 + b.toNat) / 256 = a.toNat by omega]; simp
          have q2 : UInt8.ofNat ((a.toNat * 256 + b.toNat) % 256) = b := by
            rw [show (a.toNat * 256 + b.toNat) % 256 = b.toNat by omega]; simp
          rw [q1, q2]
          simp
      · rw [if_neg h2] at h; cases h
    · rw [if_neg h1] at h; cases h
  | n + 1, [], l, h => by simp [parse] at h
  | n + 1, [a], l, h => by simp [parse] at h

theorem splitB_iff (s : ByteArray) (k : Nat) (l : List ByteArray) : splitB s = some (k, l) ↔ Splits s k l := by
  constructor
  · intro h
    unfold splitB at h
    by_cases hs : s.size ≤ 30000
    · rw [if_pos hs] at h
      match hl : s.data.toList, h with
      | v :: c :: n :: r, h =>
        simp only [splitL] at h
        by_cases hv : v = 1
        · rw [if_pos hv] at h
          obtain ⟨l', hp, he⟩ := Option.map_eq_some_iff.1 h
          simp only [Prod.mk.injEq] at he
          obtain ⟨rfl, rfl⟩ := he
          obtain ⟨e1, e2, e3⟩ := enc_parse _ _ _ hp
          have hn := n.toNat_lt
          refine ⟨c.toNat_lt, ⟨by omega, e2, ?_⟩, ?_⟩
          · rw [← size_list, hl, e3] at hs
            simpa using hs
          · apply bytes_ext
            show _ = (joined _ _).toArray.toList
            rw [hl, e3, hv]
            simp [joined, e1]
        · rw [if_neg hv] at h; cases h
    · rw [if_neg hs] at h; cases h
  · rintro ⟨hk, hf, rfl⟩
    unfold splitB
    rw [if_pos (by rw [size_joinedS]; exact hf.2.2)]
    show splitL (joined k l).toArray.toList = _
    have hn : (UInt8.ofNat l.length).toNat = l.length := by rw [UInt8.toNat_ofNat']; have := hf.1; omega
    have hk' : (UInt8.ofNat k).toNat = k := by rw [UInt8.toNat_ofNat']; omega
    simp only [joined, splitL, if_true, hn, parse_enc l hf.2.1, hk', Option.map_some]

/-! ## Numbers -/

def val (l : List UInt8) : Nat := l.foldl (fun n b => n * 256 + b.toNat) 0
theorem val_nil : val [] = 0 := rfl
theorem val_snoc (l : List UInt8) (b : UInt8) : val (l ++ [b]) = val l * 256 + b.toNat := by simp [val]
theorem foldl_val (l : List UInt8) : ∀ n, l.foldl (fun n b => n * 256 + b.toNat) n = n * 256 ^ l.length + l.foldl (fun n b => n * 256 + b.toNat) 0 := by
  induction l with
  | nil => intro n; simp
  | cons b l ih =>
    intro n
    simp only [List.foldl_cons, List.length_cons]
    rw [ih, ih (0 * 256 + b.toNat)]
    simp only [Nat.zero_mul, Nat.zero_add, Nat.pow_succ]
    rw [Nat.add_mul, Nat.mul_assoc n 256, Nat.mul_comm 256, Nat.add_assoc]
theorem val_cons (b : UInt8) (l : List UInt8) : val (b :: l) = b.toNat * 256 ^ l.length + val l := by
  have := foldl_val l b.toNat
  simpa [val] using this
theorem val_lt (l : List UInt8) : val l < 256 ^ l.length := by
  induction l with
  | nil => simp [val]
  | cons b l ih =>
    rw [val_cons, List.length_cons, Nat.pow_succ]
    have hb := b.toNat_lt
    have : b.toNat * 256 ^ l.length + 256 ^ l.length ≤ 256 ^ l.length * 256 := by
      rw [← Nat.succ_mul, Nat.mul_comm (256 ^ l.length)]
      exact Nat.mul_le_mul_right _ (by omega)
    omega

/-- A number's bytes, the highest first, without a zero ahead. -/
def digits (n : Nat) : List UInt8 := if h : n = 0 then [] else digits (n / 256) ++ [UInt8.ofNat (n % 256)]
theorem digits_zero : digits 0 = [] := by rw [digits]; simp
theorem digits_pos {n : Nat} (h : n ≠ 0) : digits n = digits (n / 256) ++ [UInt8.ofNat (n % 256)] := by rw [digits]; simp [h]
theorem val_digits (n : Nat) : val (digits n) = n := by
  induction n using Nat.strongRecOn with
  | _ n ih =>
    by_cases h : n = 0
    · subst h; rw [digits_zero]; rfl
    · rw [digits_pos h, val_snoc, ih _ (by omega), UInt8.toNat_ofNat']
      omega
theorem val_pos_of_head {b : UInt8} {l : List UInt8} (h : b ≠ 0) : val (b :: l) ≠ 0 := by
  rw [val_cons]
  have : 0 < b.toNat := by
    rcases Nat.eq_zero_or_pos b.toNat with h0 | h0
    · exact absurd (UInt8.toNat_inj.mp (by simpa using h0)) h
    · exact h0
  have := Nat.mul_pos this (Nat.pow_pos (n := l.length) (show 0 < 256 by omega))
  omega
theorem digits_val (l : List UInt8) (h : l.head? ≠ some 0) : digits (val l) = l := by
  generalize hn : l.length = n
  induction n generalizing l with
  | zero => have := List.eq_nil_of_length_eq_zero hn; subst this; exact digits_zero
  | succ n ih =>
    obtain ⟨m, b, rfl⟩ : ∃ m b, l = m ++ [b] := ⟨l.dropLast, l.getLast (by intro e; simp [e] at hn), (List.dropLast_concat_getLast _).symm⟩
    have hm : digits (val m) = m := by
      refine ih m ?_ (by simpa using hn)
      intro hh
      cases m with
      | nil => simp at hh
      | cons c m => exact h (by simpa using hh)
    have hne : val (m ++ [b]) ≠ 0 := by
      cases m with
      | nil => exact val_pos_of_head (l := []) (by intro e; subst e; exact h rfl)
      | cons c m => exact val_pos_of_head (l := m ++ [b]) (by intro e; subst e; exact h rfl)
    rw [digits_pos hne, val_snoc]
    have hb := b.toNat_lt
    have e1 : (val m * 256 + b.toNat) / 256 = val m := by omega
    have e2 : (val m * 256 + b.toNat) % 256 = b.toNat := by omega
    rw [e1, e2, hm]
    congr 1
    simp
theorem digits_head (n : Nat) : (digits n).head? ≠ some 0 := by
  induction n using Nat.strongRecOn with
  | _ n ih =>
    by_cases h : n = 0
    · subst h; rw [digits_zero]; simp
    · rw [digits_pos h]
      by_cases h2 : n / 256 = 0
      · rw [h2, digits_zero]
        simp only [List.nil_append, List.head?_cons, Option.some.injEq, ne_eq]
        intro e
        have := congrArg UInt8.toNat e
        rw [UInt8.toNat_ofNat'] at this
        simp at this
        omega
      · have hi := ih (n / 256) (by omega)
        cases hd : digits (n / 256) with
        | nil => have := val_digits (n / 256); rw [hd, val_nil] at this; omega
        | cons c m => rw [hd] at hi; simpa using hi
theorem digits_length {n k : Nat} (h : n < 256 ^ k) : (digits n).length ≤ k := by
  induction k generalizing n with
  | zero => have : n = 0 := by simp at h; omega
            subst this; simp [digits_zero]
  | succ k ih =>
    by_cases h0 : n = 0
    · subst h0; simp [digits_zero]
    · rw [digits_pos h0]
      have := ih (n := n / 256) (by rw [Nat.pow_succ] at h; omega)
      simp; omega
theorem digits_low {n : Nat} (h : n ≠ 0) : 256 ^ ((digits n).length - 1) ≤ n := by
  have hv := val_digits n
  have hh := digits_head n
  cases hd : digits n with
  | nil => rw [hd, val_nil] at hv; omega
  | cons b l =>
    rw [hd] at hv hh
    rw [val_cons] at hv
    have : 0 < b.toNat := by
      rcases Nat.eq_zero_or_pos b.toNat with h0 | h0
      · exact absurd (by simpa using UInt8.toNat_inj.mp (by simpa using h0)) hh
      · exact h0
    have := Nat.mul_le_mul_right (256 ^ l.length) this
    simp only [List.length_cons, Nat.add_sub_cancel]
    omega
/-- Zeros ahead fall away. -/
theorem val_dropWhile (l : List UInt8) : val (l.dropWhile (· = 0)) = val l := by
  induction l with
  | nil => rfl
  | cons b l ih =>
    by_cases h : b = 0
    · subst h; rw [List.dropWhile_cons_of_pos (by simp), ih, val_cons]; simp
    · rw [List.dropWhile_cons_of_neg (by simpa using h)]
theorem head_dropWhile (l : List UInt8) : (l.dropWhile (· = 0)).head? ≠ some 0 := by
  induction l with
  | nil => simp
  | cons b l ih =>
    by_cases h : b = 0
    · subst h; rw [List.dropWhile_cons_of_pos (by simp)]; exact ih
    · rw [List.dropWhile_cons_of_neg (by simpa using h)]; simpa using h
theorem digits_dropWhile (l : List UInt8) : digits (val l) = l.dropWhile (· = 0) := by
  rw [← val_dropWhile, digits_val _ (head_dropWhile l)]

/-- Shorter is lower. -/
theorem digits_shorter {n m : Nat} (h : (digits n).length < (digits m).length) : n < m := by
  have hm : m ≠ 0 := by intro e; subst e; simp [digits_zero] at h
  have h1 := digits_low hm
  have h2 := val_lt (digits n)
  rw [val_digits] at h2
  have := Nat.pow_le_pow_right (show 0 < 256 by omega) (show (digits n).length ≤ (digits m).length - 1 by omega)
  omega

end Go.Proofs.Ythajhjipbdpfgaa
