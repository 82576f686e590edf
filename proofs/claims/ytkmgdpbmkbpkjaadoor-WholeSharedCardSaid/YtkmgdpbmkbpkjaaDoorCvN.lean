/-
  The ladder over numbers. No program.
-/
import Derived.Test.YtkmgdpbmkbpkjaaDoorGAny
set_option linter.unusedVariables false
namespace Go.Proofs.YtkmgdpbmkbpkjaaDoor.Cv
/-- Two fractions. -/
structure Q4 where
  a : Nat
  b : Nat
  c : Nat
  d : Nat
def nadd (a b : Nat) : Nat := (a + b) % p25
def nsub (a b : Nat) : Nat := (a + 4 * p25 - b) % p25
def nmul (a b : Nat) : Nat := a * b % p25
def turnQ (q : Q4) : Q4 := ⟨q.c, q.d, q.a, q.b⟩
/-- One bit's step. -/
def stepQ (x : Nat) (q : Q4) : Q4 :=
  ⟨nmul (nmul (nadd q.a q.b) (nadd q.a q.b)) (nmul (nsub q.a q.b) (nsub q.a q.b)),
   nmul (nsub (nmul (nadd q.a q.b) (nadd q.a q.b)) (nmul (nsub q.a q.b) (nsub q.a q.b)))
     (nadd (nmul (nadd q.a q.b) (nadd q.a q.b)) (nmul 121665 (nsub (nmul (nadd q.a q.b) (nadd q.a q.b)) (nmul (nsub q.a q.b) (nsub q.a q.b))))),
   nmul (nadd (nmul (nadd q.c q.d) (nsub q.a q.b)) (nmul (nsub q.c q.d) (nadd q.a q.b))) (nadd (nmul (nadd q.c q.d) (nsub q.a q.b)) (nmul (nsub q.c q.d) (nadd q.a q.b))),
   nmul x (nmul (nsub (nmul (nadd q.c q.d) (nsub q.a q.b)) (nmul (nsub q.c q.d) (nadd q.a q.b))) (nsub (nmul (nadd q.c q.d) (nsub q.a q.b)) (nmul (nsub q.c q.d) (nadd q.a q.b))))⟩
def bitQ (x : Nat) (b : Bool) (q : Q4) : Q4 := if b then turnQ (stepQ x (turnQ q)) else stepQ x q
/-- The bits of n below i, the highest first. -/
def ladQ (n x : Nat) : Nat → Q4 → Q4
  | 0, q => q
  | i + 1, q => ladQ n x i (bitQ x (n / 2 ^ i % 2 == 1) q)
def startQ (x : Nat) : Q4 := ⟨1, 0, x, 1⟩
def clampN (k : Nat) : Nat := k % 2 ^ 254 / 8 * 8 + 2 ^ 254
def baseN (u : Nat) : Nat := u % 2 ^ 255 % p25
def fracQ (q : Q4) : Nat := nmul q.a (pinv q.b)
def XN (k u : Nat) : Nat := fracQ (ladQ (clampN k) (baseN u) 255 (startQ (baseN u)))
/-- With 0 as the point. -/
theorem zero_step (x : Nat) {q : Q4} (hb : q.b = 0) : (stepQ x q).b = 0 := by
  have e : nsub q.a q.b = nadd q.a q.b := by
    unfold nsub nadd
    rw [hb, Nat.sub_zero, Nat.add_zero, Nat.mul_comm, Nat.add_mul_mod_self_left]
  unfold stepQ
  show nmul (nsub _ _) _ = 0
  rw [e]
  generalize nmul (nadd q.a q.b) (nadd q.a q.b) = s
  have : nsub s s = 0 := by
    unfold nsub
    by_cases h : s ≤ s + 4 * p25
    · rw [show s + 4 * p25 - s = p25 * 4 by omega, Nat.mul_mod_right]
    · omega
  rw [this]
  unfold nmul
  rw [Nat.zero_mul, Nat.zero_mod]
theorem zero_d (q : Q4) : (stepQ 0 q).d = 0 := by
  show nmul 0 _ = 0
  unfold nmul
  rw [Nat.zero_mul, Nat.zero_mod]
theorem zero_bit (b : Bool) {q : Q4} (h : q.b = 0 ∧ q.d = 0) : (bitQ 0 b q).b = 0 ∧ (bitQ 0 b q).d = 0 := by
  cases b
  · exact ⟨zero_step _ h.1, zero_d _⟩
  · exact ⟨zero_d _, zero_step 0 (q := turnQ q) h.2⟩
theorem zero_lad (n : Nat) : ∀ (i : Nat) (q : Q4), q.b = 0 ∧ q.d = 0 → (ladQ n 0 i q).b = 0
  | 0, q, h => h.1
  | i + 1, q, h => zero_lad n i _ (zero_bit _ h)
theorem clamp_ge (k : Nat) : 2 ^ 254 ≤ clampN k ∧ clampN k < 2 ^ 255 := by
  unfold clampN
  have : k % 2 ^ 254 < 2 ^ 254 := Nat.mod_lt _ (by decide)
  omega
theorem clamp_eight (k : Nat) : ∃ m, clampN k = 8 * m ∧ 0 < m ∧ m < 2 ^ 252 := by
  obtain ⟨h1, h2⟩ := clamp_ge k
  have : clampN k % 8 = 0 := by unfold clampN; omega
  exact ⟨clampN k / 8, by omega, by omega, by omega⟩
theorem XN_lt (k u : Nat) : XN k u < p25 := lt_p25 _
theorem XN_zero {k u : Nat} (h : baseN u = 0) : XN k u = 0 := by
  unfold XN
  rw [h]
  have e : ladQ (clampN k) 0 255 (startQ 0) = ladQ (clampN k) 0 254 (bitQ 0 (clampN k / 2 ^ 254 % 2 == 1) (startQ 0)) := by
    rw [show (255 : Nat) = 254 + 1 from rfl, ladQ]
  have e1 : (clampN k / 2 ^ 254 % 2 == 1) = true := by
    obtain ⟨h1, h2⟩ := clamp_ge k
    rw [beq_iff_eq]
    omega
  have hb := zero_lad (clampN k) 254 (bitQ 0 true (startQ 0)) (by decide +kernel)
  rw [e, e1]
  unfold fracQ
  rw [hb, pinv_zero (Nat.zero_mod _)]
  unfold nmul
  rw [Nat.mul_zero, Nat.zero_mod]
theorem base_lt {u : Nat} (h : u < p25) : baseN u = u := by
  unfold baseN
  have : p25 < 2 ^ 255 := by decide +kernel
  rw [Nat.mod_eq_of_lt (Nat.lt_trans h this), Nat.mod_eq_of_lt h]
/-- The same ladder, with all numbers told at each step. -/
def ladS (n x : Nat) : Nat → Q4 → Q4
  | 0, q => q
  | i + 1, q => match bitQ x (n / 2 ^ i % 2 == 1) q with
    | ⟨a, b, c, d⟩ => if a + b + c + d = 0 then ladS n x i ⟨a, b, c, d⟩ else ladS n x i ⟨a, b, c, d⟩
theorem ladS_eq (n x : Nat) : ∀ (i : Nat) (q : Q4), ladS n x i q = ladQ n x i q
  | 0, q => rfl
  | i + 1, q => by
    rw [ladS, ladQ]
    cases hq : bitQ x (n / 2 ^ i % 2 == 1) q with
    | mk a b c d =>
      show (if a + b + c + d = 0 then ladS n x i ⟨a, b, c, d⟩ else ladS n x i ⟨a, b, c, d⟩) = _
      rw [ite_self, ladS_eq n x i]
/-- Of the points of which eight times is nothing, nothing comes. -/
theorem XN_small0 (k : Nat) : XN k 0 = 0 := XN_zero (by decide +kernel)
/-- The ladder's answer, reckoned. -/
def evalQ (q : Q4) : Nat := q.a * Pn.pm p25 256 q.b 57896044618658097711785492504343953926634992332820282019728792003956564819947 % p25
theorem XN_eval {k u v : Nat} (h : evalQ (ladS (clampN k) (baseN u) 255 (startQ (baseN u))) = v) : XN k u = v := by
  rw [ladS_eq] at h
  unfold XN fracQ nmul pinv
  rw [← h]
  unfold evalQ
  rw [Pn.pm_eq _ _ _ _ (by decide +kernel), eInv_val]
end Go.Proofs.YtkmgdpbmkbpkjaaDoor.Cv
