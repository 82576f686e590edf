/-
  Prime numbers: Euclid, Fermat, Pocklington; that 2^255 - 19 and the order of the base point are prime. No program.
-/
namespace Go.Proofs.Ytkmgdpbmkbpkjaa.Pn

/-- A prime number. -/
def Pr (p : Nat) : Prop := 2 ≤ p ∧ ∀ m, m ∣ p → m = 1 ∨ m = p

theorem Pr.coprime {p : Nat} (h : Pr p) {a : Nat} (ha : ¬ p ∣ a) : Nat.gcd p a = 1 := by
  rcases h.2 _ (Nat.gcd_dvd_left p a) with h1 | h1
  · exact h1
  · exact absurd (h1 ▸ Nat.gcd_dvd_right p a) ha

theorem Pr.dvd_mul {p : Nat} (h : Pr p) {a b : Nat} (hab : p ∣ a * b) : p ∣ a ∨ p ∣ b := by
  by_cases ha : p ∣ a
  · exact .inl ha
  · have hc : Nat.Coprime p a := h.coprime ha
    exact .inr (hc.dvd_of_dvd_mul_left hab)

theorem Pr.dvd_pow {p : Nat} (h : Pr p) {a : Nat} (n : Nat) (hd : p ∣ a ^ n) : p ∣ a := by
  induction n with
  | zero =>
    have h1 := Nat.dvd_one.1 (by simpa using hd)
    have := h.1
    omega
  | succ n ih =>
    rw [Nat.pow_succ] at hd
    rcases h.dvd_mul hd with h1 | h1
    · exact ih h1
    · exact h1

/-- Binomial coefficients. -/
def C : Nat → Nat → Nat
  | _, 0 => 1
  | 0, _ + 1 => 0
  | n + 1, k + 1 => C n k + C n (k + 1)

theorem C_zero (n : Nat) : C n 0 = 1 := by cases n <;> rfl
theorem C_over (n : Nat) : ∀ k, n < k → C n k = 0 := by
  induction n with
  | zero => intro k hk; cases k with
    | zero => omega
    | succ k => rfl
  | succ n ih => intro k hk; cases k with
    | zero => omega
    | succ k => rw [C, ih k (by omega), ih (k + 1) (by omega)]
theorem C_self (n : Nat) : C n n = 1 := by
  induction n with
  | zero => rfl
  | succ n ih => rw [C, ih, C_over n (n + 1) (by omega)]

theorem C_mul (n : Nat) : ∀ k, (k + 1) * C (n + 1) (k + 1) = (n + 1) * C n k := by
  induction n with
  | zero =>
    intro k
    cases k with
    | zero => rfl
    | succ k => rw [C_over 1 (k + 2) (by omega), C_over 0 (k + 1) (by omega), Nat.mul_zero, Nat.mul_zero]
  | succ n ih =>
    intro k
    cases k with
    | zero =>
      have h0 := ih 0
      rw [C_zero] at *
      rw [C, C_zero]
      omega
    | succ k =>
      have h1 := ih k
      have h2 := ih (k + 1)
      have e : C (n + 2) (k + 2) = C (n + 1) (k + 1) + C (n + 1) (k + 2) := rfl
      have e2 : C (n + 1) (k + 1) = C n k + C n (k + 1) := rfl
      rw [e]
      generalize C (n + 1) (k + 1) = x at *
      generalize C (n + 1) (k + 2) = y at *
      generalize C n k = u at *
      generalize C n (k + 1) = v at *
      subst e2
      grind

/-- The first m terms of the binomial sum. -/
def S (n a : Nat) : Nat → Nat
  | 0 => 0
  | m + 1 => S n a m + C n m * a ^ m

theorem S_succ (n a : Nat) : ∀ m, S (n + 1) a (m + 1) = S n a (m + 1) + a * S n a m := by
  intro m
  induction m with
  | zero => simp [S, C_zero]
  | succ m ih =>
    have e : S (n + 1) a (m + 2) = S (n + 1) a (m + 1) + C (n + 1) (m + 1) * a ^ (m + 1) := rfl
    have e2 : S n a (m + 2) = S n a (m + 1) + C n (m + 1) * a ^ (m + 1) := rfl
    have e3 : S n a (m + 1) = S n a m + C n m * a ^ m := rfl
    have e4 : C (n + 1) (m + 1) = C n m + C n (m + 1) := rfl
    rw [e, e2, ih, e4, e3, Nat.pow_succ]
    grind

theorem binom (a : Nat) : ∀ n, (1 + a) ^ n = S n a (n + 1) := by
  intro n
  induction n with
  | zero => simp [S, C]
  | succ n ih =>
    rw [S_succ]
    have e : S n a (n + 2) = S n a (n + 1) + C n (n + 1) * a ^ (n + 1) := rfl
    rw [e, C_over n (n + 1) (by omega), ← ih, Nat.pow_succ]
    grind

theorem Pr.dvd_C {p : Nat} (h : Pr p) {k : Nat} (h0 : 0 < k) (hk : k < p) : p ∣ C p k := by
  obtain ⟨n, rfl⟩ : ∃ n, p = n + 1 := ⟨p - 1, by omega⟩
  obtain ⟨j, rfl⟩ : ∃ j, k = j + 1 := ⟨k - 1, by omega⟩
  have hd : (n + 1) ∣ (j + 1) * C (n + 1) (j + 1) := ⟨C n j, C_mul n j⟩
  rcases h.dvd_mul hd with h1 | h1
  · have := Nat.le_of_dvd (by omega) h1
    omega
  · exact h1

theorem Pr.S_mod {p : Nat} (h : Pr p) (a : Nat) : ∀ m, m < p → S p a (m + 1) % p = 1 % p := by
  intro m
  induction m with
  | zero => intro _; simp [S, C_zero]
  | succ m ih =>
    intro hm
    have e : S p a (m + 2) = S p a (m + 1) + C p (m + 1) * a ^ (m + 1) := rfl
    obtain ⟨c, hc⟩ := h.dvd_C (k := m + 1) (by omega) hm
    rw [e, hc, Nat.mul_assoc, Nat.add_mul_mod_self_left]
    exact ih (by omega)

theorem Pr.step {p : Nat} (h : Pr p) (a : Nat) : (1 + a) ^ p % p = (1 + a ^ p) % p := by
  have h2 := h.1
  obtain ⟨n, rfl⟩ : ∃ n, p = n + 1 := ⟨p - 1, by omega⟩
  rw [binom]
  have e : S (n + 1) a (n + 2) = S (n + 1) a (n + 1) + C (n + 1) (n + 1) * a ^ (n + 1) := rfl
  rw [e, C_self, Nat.one_mul, Nat.add_mod, h.S_mod a n (by omega), ← Nat.add_mod]

theorem Pr.fermat_self {p : Nat} (h : Pr p) (a : Nat) : a ^ p % p = a % p := by
  induction a with
  | zero => rw [Nat.zero_pow (by have := h.1; omega)]
  | succ a ih => rw [Nat.add_comm a 1, h.step, Nat.add_mod, ih, ← Nat.add_mod]

/-- Fermat. -/
theorem Pr.fermat {p : Nat} (h : Pr p) {a : Nat} (ha : ¬ p ∣ a) : a ^ (p - 1) % p = 1 := by
  have h2 := h.1
  have h1 := h.fermat_self a
  have hc : p ∣ a * (a ^ (p - 1) - 1) := by
    have e : a * (a ^ (p - 1) - 1) = a ^ p - a := by
      obtain ⟨n, rfl⟩ : ∃ n, p = n + 1 := ⟨p - 1, by omega⟩
      rw [Nat.mul_sub, Nat.pow_succ, Nat.add_sub_cancel, Nat.mul_one, Nat.mul_comm]
    rw [e]
    refine Nat.dvd_of_mod_eq_zero ?_
    exact Nat.sub_mod_eq_zero_of_mod_eq h1
  rcases h.dvd_mul hc with h3 | h3
  · exact absurd h3 ha
  · have hpos : 0 < a ^ (p - 1) := Nat.pow_pos (by
      rcases Nat.eq_zero_or_pos a with h0 | h0
      · subst h0; exact absurd (Nat.dvd_zero p) ha
      · exact h0)
    obtain ⟨c, hc⟩ := h3
    have : a ^ (p - 1) = 1 + p * c := by omega
    rw [this, Nat.add_mul_mod_self_left]
    exact Nat.mod_eq_of_lt (by omega)

/-- Every number from 2 on has a prime factor. -/
theorem exists_prime (n : Nat) : 2 ≤ n → ∃ r, Pr r ∧ r ∣ n := by
  induction n using Nat.strongRecOn with
  | _ n ih =>
    intro h2
    by_cases hp : Pr n
    · exact ⟨n, hp, Nat.dvd_refl n⟩
    · have : ∃ m, m ∣ n ∧ m ≠ 1 ∧ m ≠ n := by
        refine Classical.byContradiction fun hn => hp ⟨h2, fun m hm => ?_⟩
        refine Classical.byContradiction fun hm2 => hn ⟨m, hm, fun h => hm2 (.inl h), fun h => hm2 (.inr h)⟩
      obtain ⟨m, hm, h1, hne⟩ := this
      have hle := Nat.le_of_dvd (by omega) hm
      have h0 : m ≠ 0 := by rintro rfl; have := Nat.eq_zero_of_zero_dvd hm; omega
      obtain ⟨r, hr, hrm⟩ := ih m (by omega) (by omega)
      exact ⟨r, hr, Nat.dvd_trans hrm hm⟩

theorem prime_of_factors {n F : Nat} (h2 : 2 ≤ n) (hF : n < (F + 1) * (F + 1)) (h : ∀ r, Pr r → r ∣ n → F < r) : Pr n := by
  refine ⟨h2, fun m hm => ?_⟩
  refine Classical.byContradiction fun hne => ?_
  obtain ⟨k, hk⟩ := hm
  have hm1 : m ≠ 1 := fun h => hne (.inl h)
  have hmn : m ≠ n := fun h => hne (.inr h)
  have hm0 : m ≠ 0 := by rintro rfl; omega
  have hk0 : k ≠ 0 := by rintro rfl; omega
  have hk1 : k ≠ 1 := by rintro rfl; omega
  obtain ⟨r, hr, hrm⟩ := exists_prime m (by omega)
  obtain ⟨s, hs, hsk⟩ := exists_prime k (by omega)
  have h1 := h r hr (hk ▸ Nat.dvd_trans hrm (Nat.dvd_mul_right m k))
  have h3 := h s hs (hk ▸ Nat.dvd_trans hsk (Nat.dvd_mul_left k m))
  have l1 := Nat.le_of_dvd (by omega) hrm
  have l2 := Nat.le_of_dvd (by omega) hsk
  have : (F + 1) * (F + 1) ≤ m * k := Nat.mul_le_mul (by omega) (by omega)
  omega

theorem pow_one_of {x n : Nat} (k : Nat) (h : x % n = 1 % n) : x ^ k % n = 1 % n := by
  rw [Nat.pow_mod, h, ← Nat.pow_mod, Nat.one_pow]

/-- A prime factor r of n: q divides r - 1. -/
theorem pock_dvd {n q m a : Nat} (hq : Pr q) (hn : n = q * m + 1) (h1 : a ^ (q * m) % n = 1 % n) (hg : Nat.gcd (a ^ m % n + (n - 1)) n = 1) {r : Nat} (hr : Pr r) (hrn : r ∣ n) : q ∣ r - 1 := by
  refine Classical.byContradiction fun hd => ?_
  have r2 := hr.1
  have q2 := hq.1
  have e1 : a ^ (q * m) % r = 1 % r := by
    have := congrArg (· % r) h1
    simpa only [Nat.mod_mod_of_dvd _ hrn] using this
  have hra : ¬ r ∣ a := by
    intro hra
    have hm0 : q * m ≠ 0 := by
      intro h0
      rw [h0] at hn
      have := Nat.le_of_dvd (by omega) hrn
      omega
    have : a ^ (q * m) % r = 0 := Nat.mod_eq_zero_of_dvd (Nat.dvd_trans hra ⟨a ^ (q * m - 1), by rw [← Nat.pow_succ']; congr 1; omega⟩)
    rw [this, Nat.mod_eq_of_lt (by omega)] at e1
    omega
  have hx : ¬ r ∣ a ^ m := fun h => hra (hr.dvd_pow m h)
  have f1 := hr.fermat hx
  have f2 : (r - 1) ^ (q - 1) % q = 1 := hq.fermat hd
  obtain ⟨t, ht⟩ : ∃ t, (r - 1) ^ (q - 1) = 1 + q * t := ⟨(r - 1) ^ (q - 1) / q, by have := Nat.div_add_mod ((r - 1) ^ (q - 1)) q; omega⟩
  have g1 : (a ^ m) ^ ((r - 1) ^ (q - 1)) % r = 1 % r := by
    obtain ⟨u, hu⟩ : ∃ u, q - 1 = u + 1 := ⟨q - 2, by omega⟩
    rw [hu, Nat.pow_succ, Nat.mul_comm, Nat.pow_mul]
    exact pow_one_of _ (by rw [f1, Nat.mod_eq_of_lt (by omega)])
  have g2 : (a ^ m) ^ ((r - 1) ^ (q - 1)) % r = a ^ m % r := by
    rw [ht, Nat.pow_add, Nat.pow_one, Nat.pow_mul, ← Nat.pow_mul a m q, Nat.mul_comm m q, Nat.mul_mod, pow_one_of t e1, ← Nat.mul_mod, Nat.mul_one]
  have g3 : a ^ m % r = 1 % r := g2.symm.trans g1
  have hdv : r ∣ Nat.gcd (a ^ m % n + (n - 1)) n := by
    refine Nat.dvd_gcd (Nat.dvd_of_mod_eq_zero ?_) hrn
    have n0 : 1 ≤ n := by omega
    have e : (a ^ m % n + (n - 1)) % r = (a ^ m % r + (n - 1)) % r := by
      rw [Nat.add_mod, Nat.mod_mod_of_dvd _ hrn, ← Nat.mod_mod (a ^ m) r, ← Nat.add_mod, Nat.mod_mod]
    rw [e, g3, Nat.add_mod, Nat.mod_mod, ← Nat.add_mod, show 1 + (n - 1) = n by omega]
    exact Nat.mod_eq_zero_of_dvd hrn
  rw [hg] at hdv
  have := Nat.le_of_dvd (by omega) hdv
  omega

/-- Powers modulo n, by squaring. -/
def pm (n : Nat) : Nat → Nat → Nat → Nat
  | 0, _, _ => 1 % n
  | f + 1, a, e => if e = 0 then 1 % n else
    let h := pm n f (a * a % n) (e / 2)
    if e % 2 = 1 then a * h % n else h
theorem pm_eq (n : Nat) : ∀ f a e, e < 2 ^ f → pm n f a e = a ^ e % n
  | 0, a, e, h => by
    have : e = 0 := by simpa using h
    subst this
    simp [pm]
  | f + 1, a, e, h => by
    unfold pm
    by_cases h0 : e = 0
    · subst h0; simp
    · have hlt : e / 2 < 2 ^ f := by rw [Nat.pow_succ] at h; omega
      have ih := pm_eq n f (a * a % n) (e / 2) hlt
      have e2 : (a * a % n) ^ (e / 2) % n = a ^ (2 * (e / 2)) % n := by
        rw [← Nat.pow_mod, Nat.pow_mul, Nat.pow_two]
      simp only [h0, if_false, ih, e2]
      by_cases h1 : e % 2 = 1
      · rw [if_pos h1, Nat.mul_mod, Nat.mod_mod, ← Nat.mul_mod, ← Nat.pow_succ', show (2 * (e / 2)).succ = e by omega]
      · rw [if_neg h1, show 2 * (e / 2) = e by omega]

/-- No factor up to k. -/
def noFactor (n : Nat) : Nat → Bool
  | 0 => true
  | 1 => true
  | k + 2 => n % (k + 2) != 0 && noFactor n (k + 1)
theorem noFactor_spec (n : Nat) : ∀ k, noFactor n k = true → ∀ m, 2 ≤ m → m ≤ k → ¬ m ∣ n
  | 0, _, m, h2, hk => by omega
  | 1, _, m, h2, hk => by omega
  | k + 2, h, m, h2, hk => by
    simp only [noFactor, Bool.and_eq_true, bne_iff_ne] at h
    intro hd
    by_cases e : m = k + 2
    · subst e; exact h.1 (Nat.mod_eq_zero_of_dvd hd)
    · exact noFactor_spec n (k + 1) h.2 m h2 (by omega) hd
theorem small_prime (n k : Nat) (h2 : 2 ≤ n) (hk : n < (k + 1) * (k + 1)) (h : noFactor n k = true) : Pr n :=
  prime_of_factors h2 hk fun r hr hd => Classical.byContradiction fun hn => noFactor_spec n k h r hr.1 (by omega) hd

theorem pock1 {n q m : Nat} (f : Nat) (hq : Pr q) (hn : n = q * m + 1) (h2 : 2 ≤ n) (hs : n < (q + 1) * (q + 1)) (hf : q * m < 2 ^ f) (h1 : pm n f 2 (q * m) = 1 % n) (hg : Nat.gcd (pm n f 2 m + (n - 1)) n = 1) : Pr n := by
  have q2 := hq.1
  have hm : m < 2 ^ f := Nat.lt_of_le_of_lt (Nat.le_mul_of_pos_left m (by omega)) hf
  rw [pm_eq n f 2 _ hf] at h1
  rw [pm_eq n f 2 _ hm] at hg
  refine prime_of_factors h2 hs fun r hr hd => ?_
  have := pock_dvd hq hn h1 hg hr hd
  have r2 := hr.1
  have := Nat.le_of_dvd (by omega) this
  omega
theorem dvd_both {p q x : Nat} (hp : Pr p) (hq : Pr q) (hne : p ≠ q) (h1 : p ∣ x) (h2 : q ∣ x) : p * q ∣ x := by
  obtain ⟨y, rfl⟩ := h1
  rcases hq.dvd_mul h2 with h | h
  · rcases hp.2 q h with h | h
    · have := hq.1; omega
    · exact absurd h.symm hne
  · exact Nat.mul_dvd_mul_left p h
theorem pock2 {n p q m m' : Nat} (f : Nat) (hp : Pr p) (hq : Pr q) (hne : p ≠ q) (hn : n = q * m + 1) (hn' : n = p * m' + 1) (h2 : 2 ≤ n) (hs : n < (p * q + 1) * (p * q + 1)) (hf : q * m < 2 ^ f)
    (h1 : pm n f 2 (q * m) = 1 % n) (hg : Nat.gcd (pm n f 2 m + (n - 1)) n = 1) (hg' : Nat.gcd (pm n f 2 m' + (n - 1)) n = 1) : Pr n := by
  have q2 := hq.1
  have p2 := hp.1
  have hf' : p * m' < 2 ^ f := by omega
  have hm : m < 2 ^ f := Nat.lt_of_le_of_lt (Nat.le_mul_of_pos_left m (by omega)) hf
  have hm' : m' < 2 ^ f := Nat.lt_of_le_of_lt (Nat.le_mul_of_pos_left m' (by omega)) hf'
  rw [pm_eq n f 2 _ hf] at h1
  rw [pm_eq n f 2 _ hm] at hg
  rw [pm_eq n f 2 _ hm'] at hg'
  have h1' : 2 ^ (p * m') % n = 1 % n := by rw [show p * m' = q * m by omega]; exact h1
  refine prime_of_factors h2 hs fun r hr hd => ?_
  have d1 := pock_dvd hq hn h1 hg hr hd
  have d2 := pock_dvd hp hn' h1' hg' hr hd
  have := dvd_both hp hq hne d2 d1
  have r2 := hr.1
  have := Nat.le_of_dvd (by omega) this
  omega

theorem pr_97 : Pr 97 := small_prime 97 9 (by omega) (by omega) (by decide +kernel)
theorem pr_103 : Pr 103 := small_prime 103 10 (by omega) (by omega) (by decide +kernel)
theorem pr_127 : Pr 127 := small_prime 127 11 (by omega) (by omega) (by decide +kernel)
theorem pr_419 : Pr 419 := small_prime 419 20 (by omega) (by omega) (by decide +kernel)
theorem pr_991 : Pr 991 := small_prime 991 31 (by omega) (by omega) (by decide +kernel)
theorem pr_1723 : Pr 1723 := small_prime 1723 41 (by omega) (by omega) (by decide +kernel)
theorem pr_2551 : Pr 2551 := small_prime 2551 50 (by omega) (by omega) (by decide +kernel)
theorem pr_3797 : Pr 3797 := small_prime 3797 61 (by omega) (by omega) (by decide +kernel)
theorem pr_4153 : Pr 4153 := small_prime 4153 64 (by omega) (by omega) (by decide +kernel)
theorem pr_430751 : Pr 430751 := pock1 (m := 250) 19 pr_1723 (by decide +kernel) (by decide +kernel) (by decide +kernel) (by decide +kernel) (by decide +kernel) (by decide +kernel)
theorem pr_531581 : Pr 531581 := pock1 (m := 140) 20 pr_3797 (by decide +kernel) (by decide +kernel) (by decide +kernel) (by decide +kernel) (by decide +kernel) (by decide +kernel)
theorem pr_569003 : Pr 569003 := pock2 (m := 5866) (m' := 1358) 20 pr_419 pr_97 (by decide +kernel) (by decide +kernel) (by decide +kernel) (by decide +kernel) (by decide +kernel) (by decide +kernel) (by decide +kernel) (by decide +kernel) (by decide +kernel)
theorem pr_1224481 : Pr 1224481 := pock1 (m := 480) 21 pr_2551 (by decide +kernel) (by decide +kernel) (by decide +kernel) (by decide +kernel) (by decide +kernel) (by decide +kernel)
theorem pr_8574133 : Pr 8574133 := pock2 (m := 83244) (m' := 8652) 24 pr_991 pr_103 (by decide +kernel) (by decide +kernel) (by decide +kernel) (by decide +kernel) (by decide +kernel) (by decide +kernel) (by decide +kernel) (by decide +kernel) (by decide +kernel)
theorem pr_2773320623 : Pr 2773320623 := pock1 (m := 4874) 32 pr_569003 (by decide +kernel) (by decide +kernel) (by decide +kernel) (by decide +kernel) (by decide +kernel) (by decide +kernel)
theorem pr_72106336199 : Pr 72106336199 := pock1 (m := 26) 37 pr_2773320623 (by decide +kernel) (by decide +kernel) (by decide +kernel) (by decide +kernel) (by decide +kernel) (by decide +kernel)
theorem pr_1257559732178653 : Pr 1257559732178653 := pock2 (m := 2365697292) (m' := 1027014492) 51 pr_1224481 pr_531581 (by decide +kernel) (by decide +kernel) (by decide +kernel) (by decide +kernel) (by decide +kernel) (by decide +kernel) (by decide +kernel) (by decide +kernel) (by decide +kernel)
theorem pr_1919519569386763 : Pr 1919519569386763 := pock2 (m := 15114327318006) (m' := 223873314) 51 pr_8574133 pr_127 (by decide +kernel) (by decide +kernel) (by decide +kernel) (by decide +kernel) (by decide +kernel) (by decide +kernel) (by decide +kernel) (by decide +kernel) (by decide +kernel)
theorem pr_31757755568855353 : Pr 31757755568855353 := pock2 (m := 7646943310584) (m' := 73726481352) 55 pr_430751 pr_4153 (by decide +kernel) (by decide +kernel) (by decide +kernel) (by decide +kernel) (by decide +kernel) (by decide +kernel) (by decide +kernel) (by decide +kernel) (by decide +kernel)
theorem pr_4434155615661930479 : Pr 4434155615661930479 := pock1 (m := 3526) 62 pr_1257559732178653 (by decide +kernel) (by decide +kernel) (by decide +kernel) (by decide +kernel) (by decide +kernel) (by decide +kernel)
theorem pr_172054593956031949258510691 : Pr 172054593956031949258510691 := pock1 (m := 38802110) 88 pr_4434155615661930479 (by decide +kernel) (by decide +kernel) (by decide +kernel) (by decide +kernel) (by decide +kernel) (by decide +kernel)
theorem pr_75445702479781427272750846543864801 : Pr 75445702479781427272750846543864801 := pock2 (m := 1046311689884858398375200) (m' := 39304471641247389600) 116 pr_1919519569386763 pr_72106336199 (by decide +kernel) (by decide +kernel) (by decide +kernel) (by decide +kernel) (by decide +kernel) (by decide +kernel) (by decide +kernel) (by decide +kernel) (by decide +kernel)
theorem pr_19757330305831588566944191468367130476339 : Pr 19757330305831588566944191468367130476339 := pock1 (m := 114831751082918) 134 pr_172054593956031949258510691 (by decide +kernel) (by decide +kernel) (by decide +kernel) (by decide +kernel) (by decide +kernel) (by decide +kernel)
theorem pr_276602624281642239937218680557139826668747 : Pr 276602624281642239937218680557139826668747 := pock1 (m := 14) 138 pr_19757330305831588566944191468367130476339 (by decide +kernel) (by decide +kernel) (by decide +kernel) (by decide +kernel) (by decide +kernel) (by decide +kernel)
theorem pr_74058212732561358302231226437062788676166966415465897661863160754340907 : Pr 74058212732561358302231226437062788676166966415465897661863160754340907 := pock2 (m := 2331972502653487852620185443007392165117953542933313402) (m' := 981609426360740691344999861639072106) 236 pr_75445702479781427272750846543864801 pr_31757755568855353 (by decide +kernel) (by decide +kernel) (by decide +kernel) (by decide +kernel) (by decide +kernel) (by decide +kernel) (by decide +kernel) (by decide +kernel) (by decide +kernel)
theorem pr_7237005577332262213973186563042994240857116359379907606001950938285454250989 : Pr 7237005577332262213973186563042994240857116359379907606001950938285454250989 := pock1 (m := 26163907866482859529727157400808004) 253 pr_276602624281642239937218680557139826668747 (by decide +kernel) (by decide +kernel) (by decide +kernel) (by decide +kernel) (by decide +kernel) (by decide +kernel)
theorem pr_57896044618658097711785492504343953926634992332820282019728792003956564819949 : Pr 57896044618658097711785492504343953926634992332820282019728792003956564819949 := pock1 (m := 781764) 255 pr_74058212732561358302231226437062788676166966415465897661863160754340907 (by decide +kernel) (by decide +kernel) (by decide +kernel) (by decide +kernel) (by decide +kernel) (by decide +kernel)
end Go.Proofs.Ytkmgdpbmkbpkjaa.Pn
