/-
  The group of an Edwards curve over the numbers below n, and the ladder's two formulas. No program.
  The ladder on an Edwards curve: multiples of a point, the two formulas, a bit at a time. No program.
  The ladder's numbers: modulo 2^255 - 19 as a field, square roots, the two curves, each number as a point's. No program.
  Each number that is not 0 is the fraction of a point on one of the two curves. No program.
  The ladder over numbers: what it answers is the fraction of a multiple of a point. No program.
  The base point's order, and what is not 0; points of which eight times is nothing. No program.
-/
import Derived.Test.YtkmgdpbmkbpkjaaDoorCvN
set_option linter.unusedVariables false
namespace Go.Proofs.YtkmgdpbmkbpkjaaDoor.Cv

/-- The numbers below n are a field: what is needed of it. -/
structure Fd (n : Nat) [NeZero n] where
  iv : Fin n → Fin n
  mul_iv : ∀ a, a ≠ 0 → a * iv a = 1
  iv_zero : iv 0 = 0
  one_ne : (1 : Fin n) ≠ 0
  two_ne : (2 : Fin n) ≠ 0

section
variable {n : Nat} [NeZero n]
theorem Fd.dom (K : Fd n) {a b : Fin n} (h : a * b = 0) : a = 0 ∨ b = 0 := by
  by_cases ha : a = 0
  · exact .inl ha
  · right
    have h1 := K.mul_iv a ha
    grind
theorem Fd.mul_ne (K : Fd n) {a b : Fin n} (ha : a ≠ 0) (hb : b ≠ 0) : a * b ≠ 0 := fun h => by
  rcases K.dom h with h | h
  · exact ha h
  · exact hb h
theorem Fd.left_ne (K : Fd n) {a b : Fin n} (h : a * b ≠ 0) : a ≠ 0 := fun e => h (by rw [e]; grind)
theorem Fd.right_ne (K : Fd n) {a b : Fin n} (h : a * b ≠ 0) : b ≠ 0 := fun e => h (by rw [e]; grind)
theorem Fd.iv_mul (K : Fd n) {a : Fin n} (ha : a ≠ 0) : K.iv a * a = 1 := by
  have := K.mul_iv a ha
  grind
theorem Fd.iv_ne (K : Fd n) {a : Fin n} (ha : a ≠ 0) : K.iv a ≠ 0 := fun h => K.one_ne (by
  have := K.mul_iv a ha
  rw [h] at this
  grind)
theorem Fd.cancel (K : Fd n) {a b c : Fin n} (hc : c ≠ 0) (h : a * c = b * c) : a = b := by
  have h1 : (a - b) * c = 0 := by grind
  rcases K.dom h1 with h | h
  · grind
  · exact absurd h hc
/-- Two fractions are the same. -/
theorem Fd.frac (K : Fd n) {x y N M D E : Fin n} (hD : D ≠ 0) (hE : E ≠ 0) (hx : x * D = N) (hy : y * E = M) (h : N * E = M * D) : x = y := by
  refine K.cancel (K.mul_ne hD hE) ?_
  grind
theorem Fd.div_mul (K : Fd n) {a b : Fin n} (hb : b ≠ 0) : a * K.iv b * b = a := by
  have := K.mul_iv b hb
  grind
theorem Fd.sq (K : Fd n) {a : Fin n} (h : a * a = 1) : a = 1 ∨ a = -1 := by
  have h1 : (a - 1) * (a + 1) = 0 := by grind
  rcases K.dom h1 with h | h
  · left; grind
  · right; grind
theorem Fd.sq_zero (K : Fd n) {a : Fin n} (h : a * a = 0) : a = 0 := by
  rcases K.dom h with h | h <;> exact h

/-- On the curve. -/
def On (d x y : Fin n) : Prop := x * x + y * y = 1 + d * (x * x * (y * y))
/-- What is asked of d: it is no square; and what the other constants are: A is 4 a + 2. -/
structure Cu (K : Fd n) where
  d : Fin n
  no : ∀ r, r * r ≠ d

theorem d_ne {K : Fd n} (E : Cu K) : E.d ≠ 0 := fun h => E.no 0 (by rw [h]; grind)
theorem d_one {K : Fd n} (E : Cu K) : 1 - E.d ≠ 0 := fun h => E.no 1 (by grind)
theorem den {K : Fd n} (E : Cu K) {x1 y1 x2 y2 s : Fin n} (hs : s * s = 1) (h1 : On E.d x1 y1) (h2 : On E.d x2 y2) : E.d * (x1 * x2 * (y1 * y2)) ≠ s := by
  intro h
  unfold On at h1 h2
  have hs0 : s ≠ 0 := fun e => K.one_ne (by rw [← hs, e]; grind)
  have hxy : x1 * y1 ≠ 0 := fun e => hs0 (by rw [← h]; grind)
  have e1 : (x1 + s * y1) * (x1 + s * y1) = E.d * ((x1 * y1) * (x1 * y1)) * ((x2 + y2) * (x2 + y2)) := by
    grind
  have e2 : (x1 - s * y1) * (x1 - s * y1) = E.d * ((x1 * y1) * (x1 * y1)) * ((x2 - y2) * (x2 - y2)) := by
    grind
  have no : ∀ a b : Fin n, b ≠ 0 → a * a = E.d * ((x1 * y1) * (x1 * y1)) * (b * b) → False := by
    intro a b hb e
    have hm := K.mul_ne hxy hb
    refine E.no (a * K.iv (x1 * y1 * b)) ?_
    have hi := K.mul_iv _ hm
    refine K.cancel (K.mul_ne hm hm) ?_
    generalize K.iv (x1 * y1 * b) = i at *
    generalize E.d = d at *
    have : a * i * (a * i) * (x1 * y1 * b * (x1 * y1 * b)) = a * a * ((x1 * y1 * b * i) * (x1 * y1 * b * i)) := by grind
    rw [this, hi, e]
    grind
  by_cases hp : x2 + y2 = 0
  · by_cases hq : x2 - y2 = 0
    · have h3 : 2 * x2 = 0 := by grind
      rcases K.dom h3 with h4 | h4
      · exact K.two_ne h4
      · refine hs0 ?_
        rw [← h, h4]
        grind
    · exact no _ _ hq e2
  · exact no _ _ hp e1

/-- A point. -/
structure Pt {K : Fd n} (E : Cu K) where
  x : Fin n
  y : Fin n
  on : On E.d x y

variable {K : Fd n} {E : Cu K}
theorem Pt.same : ∀ {P Q : Pt E}, P.x = Q.x → P.y = Q.y → P = Q
  | ⟨x, y, _⟩, ⟨_, _, _⟩, rfl, rfl => rfl
theorem den1 (P Q : Pt E) : 1 + E.d * (P.x * Q.x * (P.y * Q.y)) ≠ 0 := fun h => den E (s := -1) (by grind) P.on Q.on (by grind)
theorem den2 (P Q : Pt E) : 1 - E.d * (P.x * Q.x * (P.y * Q.y)) ≠ 0 := fun h => den E (s := 1) (by grind) P.on Q.on (by grind)
def ax (P Q : Pt E) : Fin n := (P.x * Q.y + P.y * Q.x) * K.iv (1 + E.d * (P.x * Q.x * (P.y * Q.y)))
def ay (P Q : Pt E) : Fin n := (P.y * Q.y - P.x * Q.x) * K.iv (1 - E.d * (P.x * Q.x * (P.y * Q.y)))
theorem ax_mul (P Q : Pt E) : ax P Q * (1 + E.d * (P.x * Q.x * (P.y * Q.y))) = P.x * Q.y + P.y * Q.x := K.div_mul (den1 P Q)
theorem ay_mul (P Q : Pt E) : ay P Q * (1 - E.d * (P.x * Q.x * (P.y * Q.y))) = P.y * Q.y - P.x * Q.x := K.div_mul (den2 P Q)
theorem closed (d x1 y1 x2 y2 : Fin n) (h1 : On d x1 y1) (h2 : On d x2 y2) :
    ((x1 * y2 + y1 * x2) * (1 - d * (x1 * x2 * (y1 * y2)))) * ((x1 * y2 + y1 * x2) * (1 - d * (x1 * x2 * (y1 * y2)))) + ((y1 * y2 - x1 * x2) * (1 + d * (x1 * x2 * (y1 * y2)))) * ((y1 * y2 - x1 * x2) * (1 + d * (x1 * x2 * (y1 * y2)))) =
    ((1 + d * (x1 * x2 * (y1 * y2))) * (1 - d * (x1 * x2 * (y1 * y2)))) * ((1 + d * (x1 * x2 * (y1 * y2))) * (1 - d * (x1 * x2 * (y1 * y2)))) + d * ((x1 * y2 + y1 * x2) * (x1 * y2 + y1 * x2) * ((y1 * y2 - x1 * x2) * (y1 * y2 - x1 * x2))) := by
  unfold On at h1 h2
  grind
theorem add_on (P Q : Pt E) : On E.d (ax P Q) (ay P Q) := by
  have hp := den1 P Q
  have hm := den2 P Q
  have e1 := ax_mul P Q
  have e2 := ay_mul P Q
  have h := closed E.d P.x P.y Q.x Q.y P.on Q.on
  have hne := K.mul_ne (K.mul_ne hp hm) (K.mul_ne hp hm)
  unfold On
  refine K.cancel hne ?_
  rw [← e1, ← e2] at h
  generalize ax P Q = x at *
  generalize ay P Q = y at *
  generalize 1 + E.d * (P.x * Q.x * (P.y * Q.y)) = u at *
  generalize 1 - E.d * (P.x * Q.x * (P.y * Q.y)) = v at *
  grind
def add (P Q : Pt E) : Pt E := ⟨ax P Q, ay P Q, add_on P Q⟩
def zero : Pt E := ⟨0, 1, by unfold On; grind⟩
def neg (P : Pt E) : Pt E := ⟨-P.x, P.y, by have := P.on; unfold On at *; grind⟩
theorem add_comm (P Q : Pt E) : add P Q = add Q P := by
  refine Pt.same ?_ ?_
  · show ax P Q = ax Q P
    unfold ax
    rw [show P.x * Q.y + P.y * Q.x = Q.x * P.y + Q.y * P.x by grind, show P.x * Q.x * (P.y * Q.y) = Q.x * P.x * (Q.y * P.y) by grind]
  · show ay P Q = ay Q P
    unfold ay
    rw [show P.y * Q.y - P.x * Q.x = Q.y * P.y - Q.x * P.x by grind, show P.x * Q.x * (P.y * Q.y) = Q.x * P.x * (Q.y * P.y) by grind]
theorem zero_add (P : Pt E) : add zero P = P := by
  refine Pt.same ?_ ?_
  · refine K.cancel (den1 zero P) ?_
    refine (ax_mul zero P).trans ?_
    show (0 : Fin n) * P.y + 1 * P.x = P.x * (1 + E.d * (0 * P.x * (1 * P.y)))
    grind
  · refine K.cancel (den2 zero P) ?_
    refine (ay_mul zero P).trans ?_
    show (1 : Fin n) * P.y - 0 * P.x = P.y * (1 - E.d * (0 * P.x * (1 * P.y)))
    grind
theorem neg_add (P : Pt E) : add (neg P) P = zero := by
  have ho := P.on
  unfold On at ho
  refine Pt.same ?_ ?_
  · refine K.cancel (den1 (neg P) P) ?_
    refine (ax_mul (neg P) P).trans ?_
    show -P.x * P.y + P.y * P.x = (0 : Fin n) * _
    grind
  · refine K.cancel (den2 (neg P) P) ?_
    refine (ay_mul (neg P) P).trans ?_
    show P.y * P.y - -P.x * P.x = (1 : Fin n) * (1 - E.d * (-P.x * P.x * (P.y * P.y)))
    grind
/-- The curve's equation with c, the inverse of d. -/
theorem on_c {d c x y : Fin n} (hc : d * c = 1) (h : On d x y) : x * x * (y * y) = c * (x * x + y * y - 1) := by
  unfold On at h
  grind
theorem assoc_x (c x1 y1 x2 y2 x3 y3 : Fin n) (h1 : x1 * x1 * (y1 * y1) = c * (x1*x1+y1*y1-1)) (h2 : x2 * x2 * (y2 * y2) = c * (x2*x2+y2*y2-1)) (h3 : x3 * x3 * (y3 * y3) = c * (x3*x3+y3*y3-1)) :
   ((x1*y2+y1*x2) * (c - x1*x2*(y1*y2)) * y3 + (y1*y2-x1*x2) * (c + x1*x2*(y1*y2)) * x3) * ((c + x2*x3*(y2*y3)) * (c - x2*x3*(y2*y3)) + c * (x2*y3+y2*x3)*(y2*y3-x2*x3)*(x1*y1)) =
   (x1 * (y2*y3-x2*x3) * (c + x2*x3*(y2*y3)) + y1 * (x2*y3+y2*x3) * (c - x2*x3*(y2*y3))) * ((c + x1*x2*(y1*y2)) * (c - x1*x2*(y1*y2)) + c * (x1*y2+y1*x2)*(y1*y2-x1*x2)*(x3*y3)) := by
  grind
theorem assoc_y (c x1 y1 x2 y2 x3 y3 : Fin n) (h1 : x1 * x1 * (y1 * y1) = c * (x1*x1+y1*y1-1)) (h2 : x2 * x2 * (y2 * y2) = c * (x2*x2+y2*y2-1)) (h3 : x3 * x3 * (y3 * y3) = c * (x3*x3+y3*y3-1)) :
   ((y1*y2-x1*x2) * (c + x1*x2*(y1*y2)) * y3 - (x1*y2+y1*x2) * (c - x1*x2*(y1*y2)) * x3) * ((c + x2*x3*(y2*y3)) * (c - x2*x3*(y2*y3)) - c * (x2*y3+y2*x3)*(y2*y3-x2*x3)*(x1*y1)) =
   (y1 * (y2*y3-x2*x3) * (c + x2*x3*(y2*y3)) - x1 * (x2*y3+y2*x3) * (c - x2*x3*(y2*y3))) * ((c + x1*x2*(y1*y2)) * (c - x1*x2*(y1*y2)) - c * (x1*y2+y1*x2)*(y1*y2-x1*x2)*(x3*y3)) := by
  grind
/-- Two sums, one in the other, as one fraction: with denominators c + t, c - t. -/
theorem sum3 {c d x1 y1 x2 y2 x y px py z : Fin n} (hc : d * c = 1)
    (hx : x * (1 + d * (x1 * x2 * (y1 * y2))) = x1 * y2 + y1 * x2) (hy : y * (1 - d * (x1 * x2 * (y1 * y2))) = y1 * y2 - x1 * x2) :
    x * (c + x1 * x2 * (y1 * y2)) = c * (x1 * y2 + y1 * x2) ∧ y * (c - x1 * x2 * (y1 * y2)) = c * (y1 * y2 - x1 * x2) := by
  constructor <;> grind
theorem den_c {d c t : Fin n} (hc : d * c = 1) (h : 1 + d * t ≠ 0) : c + t ≠ 0 := fun e => h (by grind)
theorem den_c' {d c t : Fin n} (hc : d * c = 1) (h : 1 - d * t ≠ 0) : c - t ≠ 0 := fun e => h (by grind)
theorem part_x {c p q X Y x y u v l : Fin n} (h1 : x * p = c * X) (h2 : y * q = c * Y) (h3 : l * (c + x * u * (y * v)) = c * (x * v + y * u)) :
    l * ((c + x * u * (y * v)) * (p * q)) = c * c * (X * q * v + Y * p * u) ∧ (c + x * u * (y * v)) * (p * q) = c * (p * q + c * X * Y * (u * v)) := by
  constructor
  · have : l * ((c + x * u * (y * v)) * (p * q)) = c * ((x * p) * q * v + (y * q) * p * u) := by grind
    rw [this, h1, h2]; grind
  · have : (c + x * u * (y * v)) * (p * q) = c * (p * q) + (x * p) * (y * q) * (u * v) := by grind
    rw [this, h1, h2]; grind
theorem part_y {c p q X Y x y u v l : Fin n} (h1 : x * p = c * X) (h2 : y * q = c * Y) (h3 : l * (c - x * u * (y * v)) = c * (y * v - x * u)) :
    l * ((c - x * u * (y * v)) * (p * q)) = c * c * (Y * p * v - X * q * u) ∧ (c - x * u * (y * v)) * (p * q) = c * (p * q - c * X * Y * (u * v)) := by
  constructor
  · have : l * ((c - x * u * (y * v)) * (p * q)) = c * ((y * q) * p * v - (x * p) * q * u) := by grind
    rw [this, h1, h2]; grind
  · have : (c - x * u * (y * v)) * (p * q) = c * (p * q) - (x * p) * (y * q) * (u * v) := by grind
    rw [this, h1, h2]; grind
theorem part_x' {c p q X Y x y u v l : Fin n} (h1 : x * p = c * X) (h2 : y * q = c * Y) (h3 : l * (c + u * x * (v * y)) = c * (u * y + v * x)) :
    l * ((c + u * x * (v * y)) * (p * q)) = c * c * (u * Y * p + v * X * q) ∧ (c + u * x * (v * y)) * (p * q) = c * (p * q + c * X * Y * (u * v)) := by
  constructor
  · have : l * ((c + u * x * (v * y)) * (p * q)) = c * ((x * p) * q * v + (y * q) * p * u) := by grind
    rw [this, h1, h2]; grind
  · have : (c + u * x * (v * y)) * (p * q) = c * (p * q) + (x * p) * (y * q) * (u * v) := by grind
    rw [this, h1, h2]; grind
theorem part_y' {c p q X Y x y u v l : Fin n} (h1 : x * p = c * X) (h2 : y * q = c * Y) (h3 : l * (c - u * x * (v * y)) = c * (v * y - u * x)) :
    l * ((c - u * x * (v * y)) * (p * q)) = c * c * (v * Y * p - u * X * q) ∧ (c - u * x * (v * y)) * (p * q) = c * (p * q - c * X * Y * (u * v)) := by
  constructor
  · have : l * ((c - u * x * (v * y)) * (p * q)) = c * ((y * q) * p * v - (x * p) * q * u) := by grind
    rw [this, h1, h2]; grind
  · have : (c - u * x * (v * y)) * (p * q) = c * (p * q) - (x * p) * (y * q) * (u * v) := by grind
    rw [this, h1, h2]; grind
theorem fin2 {c N M D E : Fin n} (h : N * E = M * D) : c * c * N * (c * E) = c * c * M * (c * D) := by
  have : c * c * N * (c * E) = c * c * c * (N * E) := by grind
  rw [this, h]; grind
theorem assoc (P Q R : Pt E) : add (add P Q) R = add P (add Q R) := by
  obtain ⟨c, hc⟩ : ∃ c, E.d * c = 1 := ⟨K.iv E.d, K.mul_iv _ (d_ne E)⟩
  have p1 := den_c hc (den1 P Q)
  have p2 := den_c' hc (den2 P Q)
  have q1 := den_c hc (den1 Q R)
  have q2 := den_c' hc (den2 Q R)
  obtain ⟨a1, a2⟩ := sum3 (px := 0) (py := 0) (z := 0) hc (ax_mul P Q) (ay_mul P Q)
  obtain ⟨b1, b2⟩ := sum3 (px := 0) (py := 0) (z := 0) hc (ax_mul Q R) (ay_mul Q R)
  have l1 := den_c hc (den1 (add P Q) R)
  have l2 := den_c' hc (den2 (add P Q) R)
  have r1 := den_c hc (den1 P (add Q R))
  have r2 := den_c' hc (den2 P (add Q R))
  obtain ⟨s1, s2⟩ := sum3 (px := 0) (py := 0) (z := 0) hc (ax_mul (add P Q) R) (ay_mul (add P Q) R)
  obtain ⟨t1, t2⟩ := sum3 (px := 0) (py := 0) (z := 0) hc (ax_mul P (add Q R)) (ay_mul P (add Q R))
  have hx := assoc_x c P.x P.y Q.x Q.y R.x R.y (on_c hc P.on) (on_c hc Q.on) (on_c hc R.on)
  have hy := assoc_y c P.x P.y Q.x Q.y R.x R.y (on_c hc P.on) (on_c hc Q.on) (on_c hc R.on)
  have hc0 : c ≠ 0 := fun e => K.one_ne (by rw [← hc, e]; grind)
  change (c + ax P Q * R.x * (ay P Q * R.y)) ≠ 0 at l1
  change (c - ax P Q * R.x * (ay P Q * R.y)) ≠ 0 at l2
  change (c + P.x * ax Q R * (P.y * ay Q R)) ≠ 0 at r1
  change (c - P.x * ax Q R * (P.y * ay Q R)) ≠ 0 at r2
  change ax (add P Q) R * (c + ax P Q * R.x * (ay P Q * R.y)) = c * (ax P Q * R.y + ay P Q * R.x) at s1
  change ay (add P Q) R * (c - ax P Q * R.x * (ay P Q * R.y)) = c * (ay P Q * R.y - ax P Q * R.x) at s2
  change ax P (add Q R) * (c + P.x * ax Q R * (P.y * ay Q R)) = c * (P.x * ay Q R + P.y * ax Q R) at t1
  change ay P (add Q R) * (c - P.x * ax Q R * (P.y * ay Q R)) = c * (P.y * ay Q R - P.x * ax Q R) at t2
  have pq := K.mul_ne p1 p2
  have qr := K.mul_ne q1 q2
  obtain ⟨m1, m2⟩ := part_x (u := R.x) (v := R.y) a1 a2 s1
  obtain ⟨m3, m4⟩ := part_y (u := R.x) (v := R.y) a1 a2 s2
  obtain ⟨n1, n2⟩ := part_x' (u := P.x) (v := P.y) b1 b2 t1
  obtain ⟨n3, n4⟩ := part_y' (u := P.x) (v := P.y) b1 b2 t2
  refine Pt.same ?_ ?_
  · refine K.frac (K.mul_ne l1 pq) (K.mul_ne r1 qr) m1 n1 ?_
    rw [m2, n2]
    exact fin2 hx
  · refine K.frac (K.mul_ne l2 pq) (K.mul_ne r2 qr) m3 n3 ?_
    rw [m4, n4]
    exact fin2 hy
end
end Go.Proofs.YtkmgdpbmkbpkjaaDoor.Cv
set_option linter.unusedVariables false
namespace Go.Proofs.YtkmgdpbmkbpkjaaDoor.Cv
section
variable {n : Nat} [NeZero n] {K : Fd n} {E : Cu K}
theorem Fd.one_neg (K : Fd n) : (1 : Fin n) ≠ -1 := fun h => K.two_ne (by
  have h1 : (2 : Fin n) = 1 - (-1) := by grind
  have h2 : (1 : Fin n) - 1 = 0 := by grind
  rw [h1, ← h, h2])
theorem Fd.zero_neg (K : Fd n) : (0 : Fin n) * 0 ≠ -1 := fun h => K.one_ne (by
  have h1 : (1 : Fin n) = 0 - (-1) := by grind
  have h2 : (0 : Fin n) - (0 * 0) = 0 := by grind
  rw [h1, ← h, h2])
theorem add_zero (P : Pt E) : add P zero = P := by rw [add_comm, zero_add]
theorem add_neg (P : Pt E) : add P (neg P) = zero := by rw [add_comm, neg_add]
/-- A point, so often. -/
def mul : Nat → Pt E → Pt E
  | 0, _ => zero
  | k + 1, P => add (mul k P) P
theorem mul_one (P : Pt E) : mul 1 P = P := zero_add P
theorem mul_add (P : Pt E) (a : Nat) : ∀ b, mul (a + b) P = add (mul a P) (mul b P)
  | 0 => (add_zero _).symm
  | b + 1 => by
    show add (mul (a + b) P) P = add (mul a P) (add (mul b P) P)
    rw [mul_add P a b, assoc]
theorem mul_zero (a : Nat) : mul a (zero : Pt E) = zero := by
  induction a with
  | zero => rfl
  | succ a ih => show add (mul a zero) zero = zero; rw [ih, add_zero]
theorem mul_mul (P : Pt E) (a : Nat) : ∀ b, mul (b * a) P = mul b (mul a P)
  | 0 => by rw [Nat.zero_mul]; rfl
  | b + 1 => by
    rw [Nat.succ_mul, mul_add, mul_mul P a b]
    rfl
theorem mul_swap (P : Pt E) (a b : Nat) : mul a (mul b P) = mul b (mul a P) := by rw [← mul_mul, ← mul_mul, Nat.mul_comm]
/-- Two numbers without a common divisor, and a point of which either times is nothing. -/
theorem mul_gcd {P : Pt E} {a b : Nat} (ha : mul a P = zero) (hb : mul b P = zero) : mul (Nat.gcd a b) P = zero := by
  induction a, b using Nat.gcd.induction with
  | H0 b => rw [Nat.gcd_zero_left]; exact hb
  | H1 a b h ih =>
    rw [Nat.gcd_rec]
    refine ih ?_ ha
    have := Nat.div_add_mod b a
    have h2 : mul (a * (b / a) + b % a) P = zero := by rw [this]; exact hb
    rw [mul_add, Nat.mul_comm, mul_mul, ha, mul_zero, zero_add] at h2
    exact h2

/-- What is asked of the other constants: e is 1 or -1, and d (e A + 2) is e A - 2, where A is 4 a + 2. -/
structure Mo (E : Cu K) where
  e : Fin n
  a : Fin n
  he : e * e = 1
  hd : E.d * (e * (4 * a + 2) + 2) = e * (4 * a + 2) - 2
/-- The fraction a : b is that of a point. -/
def Rp (M : Mo E) (a b : Fin n) (Q : Pt E) : Prop := ∃ l, l ≠ 0 ∧ a = l * (M.e * (1 + Q.y)) ∧ b = l * (1 - Q.y)
theorem four_ne (K : Fd n) : (4 : Fin n) ≠ 0 := by
  have h := K.mul_ne K.two_ne K.two_ne
  have e : (2 : Fin n) * 2 = 4 := by grind
  rwa [e] at h
theorem on_ne (Q : Pt E) : (1 - E.d * (Q.x * Q.x)) * (1 - E.d * (Q.y * Q.y)) = 1 - E.d := by
  have := Q.on
  unfold On at this
  grind
theorem ne_y (Q : Pt E) : 1 - E.d * (Q.y * Q.y) ≠ 0 := fun h => d_one E (by rw [← on_ne Q, h]; grind)
theorem ne_x (Q : Pt E) : 1 - E.d * (Q.x * Q.x) ≠ 0 := fun h => d_one E (by rw [← on_ne Q, h]; grind)
/-- The one whose product with 1 - d is 4. -/
theorem Mo.g (M : Mo E) : (1 - E.d) * (M.e * (4 * M.a + 2) + 2) = 4 := by
  have := M.hd
  grind
theorem Mo.g_ne (M : Mo E) : M.e * (4 * M.a + 2) + 2 ≠ 0 := K.right_ne (a := 1 - E.d) (by rw [M.g]; exact four_ne K)
theorem Mo.e_ne (M : Mo E) : M.e ≠ 0 := fun h => K.one_ne (by rw [← M.he, h]; grind)
theorem dbl_eqs {e a d x y l : Fin n} (he : e = 1 ∨ e = -1) (hd : d * (e * (4 * a + 2) + 2) = e * (4 * a + 2) - 2) (ho : On d x y) :
    let p := l * (e * (1 + y)); let q := l * (1 - y)
    let ss := (p + q) * (p + q); let tt := (p - q) * (p - q); let w := ss - tt
    ss * tt * (1 - d * (x * x)) = 16 * (l * l * (l * l)) * (1 - x * x) ∧
    4 * (w * (ss + a * w)) = 16 * (l * l * (l * l)) * (e * (e * (4 * a + 2) + 2)) * ((1 - y * y) * (1 - d * (y * y))) := by
  unfold On at ho
  rcases he with rfl | rfl
  · constructor
    · grind
    · grind
  · constructor
    · grind
    · grind
theorem dbl_l {d e A x y z L : Fin n} (g : (1 - d) * A = 4) (he : e * e = 1) (hxy : (1 - d * (x * x)) * (1 - d * (y * y)) = 1 - d)
    (hy : z * (1 - d * (x * x * (y * y))) = y * y - x * x) (ho : On d x y) :
    2 * L * e * A * (1 - d * (y * y)) * (1 - d * (x * x * (y * y))) * (e * (1 + z)) * (1 - d * (x * x)) = 16 * L * (1 - x * x) := by
  unfold On at ho
  have h1 : (1 - d * (x * x * (y * y))) * (1 + z) = 2 - 2 * (x * x) := by grind
  have : 2 * L * e * A * (1 - d * (y * y)) * (1 - d * (x * x * (y * y))) * (e * (1 + z)) * (1 - d * (x * x)) = 2 * L * A * (e * e) * ((1 - d * (x * x)) * (1 - d * (y * y))) * ((1 - d * (x * x * (y * y))) * (1 + z)) := by grind
  rw [this, h1, hxy, he]
  grind
theorem dbl_r {d e A x y z L : Fin n} (hy : z * (1 - d * (x * x * (y * y))) = y * y - x * x) (ho : On d x y) :
    2 * L * e * A * (1 - d * (y * y)) * (1 - d * (x * x * (y * y))) * (1 - z) * 4 = 16 * L * (e * A) * ((1 - y * y) * (1 - d * (y * y))) := by
  unfold On at ho
  have h1 : (1 - d * (x * x * (y * y))) * (1 - z) = 2 - 2 * (y * y) := by grind
  have : 2 * L * e * A * (1 - d * (y * y)) * (1 - d * (x * x * (y * y))) * (1 - z) * 4 = 8 * L * e * A * (1 - d * (y * y)) * ((1 - d * (x * x * (y * y))) * (1 - z)) := by grind
  rw [this, h1]
  grind
/-- A double. -/
theorem dbl (M : Mo E) {p q : Fin n} {Q : Pt E} (h : Rp M p q Q) :
    Rp M ((p + q) * (p + q) * ((p - q) * (p - q)))
      (((p + q) * (p + q) - (p - q) * (p - q)) * ((p + q) * (p + q) + M.a * ((p + q) * (p + q) - (p - q) * (p - q)))) (add Q Q) := by
  obtain ⟨l, hl, rfl, rfl⟩ := h
  have h2 := den2 Q Q
  obtain ⟨f1, f2⟩ := dbl_eqs (l := l) (x := Q.x) (y := Q.y) (K.sq M.he) M.hd Q.on
  have hl4 : l * l * (l * l) ≠ 0 := K.mul_ne (K.mul_ne hl hl) (K.mul_ne hl hl)
  have hk : 2 * (l * l * (l * l)) * M.e * (M.e * (4 * M.a + 2) + 2) * (1 - E.d * (Q.y * Q.y)) ≠ 0 :=
    K.mul_ne (K.mul_ne (K.mul_ne (K.mul_ne K.two_ne hl4) M.e_ne) M.g_ne) (ne_y Q)
  have g := M.g
  have he := M.he
  have hxy := on_ne Q
  have hnx := ne_x Q
  have hy : ay Q Q * (1 - E.d * (Q.x * Q.x * (Q.y * Q.y))) = Q.y * Q.y - Q.x * Q.x := ay_mul Q Q
  have ho := Q.on
  refine ⟨2 * (l * l * (l * l)) * M.e * (M.e * (4 * M.a + 2) + 2) * (1 - E.d * (Q.y * Q.y)) * (1 - E.d * (Q.x * Q.x * (Q.y * Q.y))), K.mul_ne hk h2, ?_, ?_⟩
  · show _ = _ * (M.e * (1 + ay Q Q))
    refine K.cancel hnx ?_
    refine f1.trans ?_
    exact (dbl_l g he hxy hy ho).symm
  · show _ = _ * (1 - ay Q Q)
    refine K.cancel (four_ne K) ?_
    refine (Fin.mul_comm _ _).trans (f2.trans ?_)
    · exact (dbl_r hy ho).symm
theorem on_x {d x y : Fin n} (h : On d x y) : x * x * (1 - d * (y * y)) = 1 - y * y := by
  unfold On at h
  grind
/-- The sum of two, and of their difference. -/
theorem dif_eqs {d x1 y1 x2 y2 y0 y3 : Fin n} (h1 : On d x1 y1) (h2 : On d x2 y2)
    (h0 : y0 * (1 + d * (x1 * x2 * (y1 * y2))) = y1 * y2 + x1 * x2) (h3 : y3 * (1 - d * (x1 * x2 * (y1 * y2))) = y1 * y2 - x1 * x2) :
    (1 + y0) * (1 + y3) * ((1 - d * (y1 * y1)) * (1 - d * (y2 * y2)) * ((1 + d * (x1 * x2 * (y1 * y2))) * (1 - d * (x1 * x2 * (y1 * y2))))) = (1 - d) * ((y1 + y2) * (y1 + y2)) * (1 - d * (y1 * y1 * (y2 * y2))) ∧
    (1 - y0) * (1 - y3) * ((1 - d * (y1 * y1)) * (1 - d * (y2 * y2)) * ((1 + d * (x1 * x2 * (y1 * y2))) * (1 - d * (x1 * x2 * (y1 * y2))))) = (1 - d) * ((y1 - y2) * (y1 - y2)) * (1 - d * (y1 * y1 * (y2 * y2))) ∧
    ((1 - d * (y1 * y1)) * (1 - d * (y2 * y2)) * ((1 + d * (x1 * x2 * (y1 * y2))) * (1 - d * (x1 * x2 * (y1 * y2))))) = (1 - d * (y1 * y1 * (y2 * y2))) * (1 - d * (y1 * y1) - d * (y2 * y2) + d * (y1 * y1 * (y2 * y2))) := by
  have hx1 := on_x h1
  have hx2 := on_x h2
  clear h1 h2
  have e1 : (1 + y0) * (1 + y3) * ((1 + d * (x1 * x2 * (y1 * y2))) * (1 - d * (x1 * x2 * (y1 * y2)))) = (1 + y1 * y2) * (1 + y1 * y2) - x1 * x1 * (x2 * x2) * ((1 + d * (y1 * y2)) * (1 + d * (y1 * y2))) := by
    have : (1 + y0) * (1 + y3) * ((1 + d * (x1 * x2 * (y1 * y2))) * (1 - d * (x1 * x2 * (y1 * y2)))) = (1 + d * (x1 * x2 * (y1 * y2)) + y0 * (1 + d * (x1 * x2 * (y1 * y2)))) * (1 - d * (x1 * x2 * (y1 * y2)) + y3 * (1 - d * (x1 * x2 * (y1 * y2)))) := by grind
    rw [this, h0, h3]; grind
  have e2 : (1 - y0) * (1 - y3) * ((1 + d * (x1 * x2 * (y1 * y2))) * (1 - d * (x1 * x2 * (y1 * y2)))) = (1 - y1 * y2) * (1 - y1 * y2) - x1 * x1 * (x2 * x2) * ((1 - d * (y1 * y2)) * (1 - d * (y1 * y2))) := by
    have : (1 - y0) * (1 - y3) * ((1 + d * (x1 * x2 * (y1 * y2))) * (1 - d * (x1 * x2 * (y1 * y2)))) = (1 + d * (x1 * x2 * (y1 * y2)) - y0 * (1 + d * (x1 * x2 * (y1 * y2)))) * (1 - d * (x1 * x2 * (y1 * y2)) - y3 * (1 - d * (x1 * x2 * (y1 * y2)))) := by grind
    rw [this, h0, h3]; grind
  clear h0 h3
  refine ⟨?_, ?_, ?_⟩
  · have : (1 + y0) * (1 + y3) * ((1 - d * (y1 * y1)) * (1 - d * (y2 * y2)) * ((1 + d * (x1 * x2 * (y1 * y2))) * (1 - d * (x1 * x2 * (y1 * y2))))) = ((1 + y0) * (1 + y3) * ((1 + d * (x1 * x2 * (y1 * y2))) * (1 - d * (x1 * x2 * (y1 * y2))))) * ((1 - d * (y1 * y1)) * (1 - d * (y2 * y2))) := by grind
    rw [this, e1]
    have : ((1 + y1 * y2) * (1 + y1 * y2) - x1 * x1 * (x2 * x2) * ((1 + d * (y1 * y2)) * (1 + d * (y1 * y2)))) * ((1 - d * (y1 * y1)) * (1 - d * (y2 * y2))) = (1 + y1 * y2) * (1 + y1 * y2) * ((1 - d * (y1 * y1)) * (1 - d * (y2 * y2))) - (x1 * x1 * (1 - d * (y1 * y1))) * (x2 * x2 * (1 - d * (y2 * y2))) * ((1 + d * (y1 * y2)) * (1 + d * (y1 * y2))) := by grind
    rw [this, hx1, hx2]; grind
  · have : (1 - y0) * (1 - y3) * ((1 - d * (y1 * y1)) * (1 - d * (y2 * y2)) * ((1 + d * (x1 * x2 * (y1 * y2))) * (1 - d * (x1 * x2 * (y1 * y2))))) = ((1 - y0) * (1 - y3) * ((1 + d * (x1 * x2 * (y1 * y2))) * (1 - d * (x1 * x2 * (y1 * y2))))) * ((1 - d * (y1 * y1)) * (1 - d * (y2 * y2))) := by grind
    rw [this, e2]
    have : ((1 - y1 * y2) * (1 - y1 * y2) - x1 * x1 * (x2 * x2) * ((1 - d * (y1 * y2)) * (1 - d * (y1 * y2)))) * ((1 - d * (y1 * y1)) * (1 - d * (y2 * y2))) = (1 - y1 * y2) * (1 - y1 * y2) * ((1 - d * (y1 * y1)) * (1 - d * (y2 * y2))) - (x1 * x1 * (1 - d * (y1 * y1))) * (x2 * x2 * (1 - d * (y2 * y2))) * ((1 - d * (y1 * y2)) * (1 - d * (y1 * y2))) := by grind
    rw [this, hx1, hx2]; grind
  · have : (1 - d * (y1 * y1)) * (1 - d * (y2 * y2)) * ((1 + d * (x1 * x2 * (y1 * y2))) * (1 - d * (x1 * x2 * (y1 * y2)))) = (1 - d * (y1 * y1)) * (1 - d * (y2 * y2)) - d * d * (y1 * y1 * (y2 * y2)) * ((x1 * x1 * (1 - d * (y1 * y1))) * (x2 * x2 * (1 - d * (y2 * y2)))) := by grind
    rw [this, hx1, hx2]; grind
theorem vw {e l m y1 y2 : Fin n} (he : e = 1 ∨ e = -1) :
    let p := l * (e * (1 + y1)); let q := l * (1 - y1); let r := m * (e * (1 + y2)); let s := m * (1 - y2)
    let v := (r + s) * (p - q); let w := (r - s) * (p + q)
    (v + w) * (v + w) = 16 * (l * l * (m * m)) * ((y1 + y2) * (y1 + y2)) ∧ (v - w) * (v - w) = 16 * (l * l * (m * m)) * ((y1 - y2) * (y1 - y2)) := by
  rcases he with rfl | rfl
  · constructor <;> grind
  · constructor <;> grind
theorem re {A B N k : Fin n} (h : A * (k * N) = B * k) : A * N * k = B * k := by grind
/-- A sum, of two of which the difference is known. -/
theorem dif (M : Mo E) {p q r s u y0 : Fin n} {P Q : Pt E} (hp : Rp M p q P) (hq : Rp M r s Q)
    (h0 : y0 * (1 + E.d * (P.x * Q.x * (P.y * Q.y))) = P.y * Q.y + P.x * Q.x) (hu : u * (1 - y0) = M.e * (1 + y0)) (hu0 : u ≠ 0) (hy0 : 1 - y0 ≠ 0) :
    Rp M (((r + s) * (p - q) + (r - s) * (p + q)) * ((r + s) * (p - q) + (r - s) * (p + q)))
      (u * (((r + s) * (p - q) - (r - s) * (p + q)) * ((r + s) * (p - q) - (r - s) * (p + q)))) (add P Q) := by
  obtain ⟨l, hl, rfl, rfl⟩ := hp
  obtain ⟨m, hm, rfl, rfl⟩ := hq
  have h3 : ay P Q * (1 - E.d * (P.x * Q.x * (P.y * Q.y))) = P.y * Q.y - P.x * Q.x := ay_mul P Q
  obtain ⟨f1, f2, f3⟩ := dif_eqs P.on Q.on h0 h3
  obtain ⟨g1, g2⟩ := vw (l := l) (m := m) (y1 := P.y) (y2 := Q.y) (K.sq M.he)
  have hW := K.mul_ne (K.mul_ne (ne_y P) (ne_y Q)) (K.mul_ne (den1 P Q) (den2 P Q))
  rw [f3] at f1 f2 hW
  have hK := K.left_ne hW
  have hN := K.right_ne hW
  have hy1 : 1 + y0 ≠ 0 := fun h => by
    rw [h] at hu
    rcases K.dom (a := u) (b := 1 - y0) (by grind) with h | h
    · exact hu0 h
    · exact hy0 h
  have f1' : (1 + y0) * (1 + ay P Q) * (1 - E.d * (P.y * P.y) - E.d * (Q.y * Q.y) + E.d * (P.y * P.y * (Q.y * Q.y))) = (1 - E.d) * ((P.y + Q.y) * (P.y + Q.y)) := K.cancel hK (re f1)
  have f2' : (1 - y0) * (1 - ay P Q) * (1 - E.d * (P.y * P.y) - E.d * (Q.y * Q.y) + E.d * (P.y * P.y * (Q.y * Q.y))) = (1 - E.d) * ((P.y - Q.y) * (P.y - Q.y)) := K.cancel hK (re f2)
  have hlm : l * l * (m * m) ≠ 0 := K.mul_ne (K.mul_ne hl hl) (K.mul_ne hm hm)
  have hg := M.g
  have he := M.he
  clear f1 f2 f3 h0 h3 hW
  refine ⟨4 * (l * l * (m * m)) * (M.e * (4 * M.a + 2) + 2) * M.e * (1 + y0) * (1 - E.d * (P.y * P.y) - E.d * (Q.y * Q.y) + E.d * (P.y * P.y * (Q.y * Q.y))), K.mul_ne (K.mul_ne (K.mul_ne (K.mul_ne (K.mul_ne (four_ne K) hlm) M.g_ne) M.e_ne) hy1) hN, ?_, ?_⟩
  · show _ = _ * (M.e * (1 + ay P Q))
    refine g1.trans ?_
    generalize 1 - E.d * (P.y * P.y) - E.d * (Q.y * Q.y) + E.d * (P.y * P.y * (Q.y * Q.y)) = N at *
    generalize M.e * (4 * M.a + 2) + 2 = g at *
    clear g1 g2
    grind
  · show _ = _ * (1 - ay P Q)
    rw [show u * (((m * (M.e * (1 + Q.y)) + m * (1 - Q.y)) * (l * (M.e * (1 + P.y)) - l * (1 - P.y)) - (m * (M.e * (1 + Q.y)) - m * (1 - Q.y)) * (l * (M.e * (1 + P.y)) + l * (1 - P.y))) * ((m * (M.e * (1 + Q.y)) + m * (1 - Q.y)) * (l * (M.e * (1 + P.y)) - l * (1 - P.y)) - (m * (M.e * (1 + Q.y)) - m * (1 - Q.y)) * (l * (M.e * (1 + P.y)) + l * (1 - P.y)))) = u * (16 * (l * l * (m * m)) * ((P.y - Q.y) * (P.y - Q.y))) from congrArg (u * ·) g2]
    generalize 1 - E.d * (P.y * P.y) - E.d * (Q.y * Q.y) + E.d * (P.y * P.y * (Q.y * Q.y)) = N at *
    generalize M.e * (4 * M.a + 2) + 2 = g at *
    clear g1 g2
    have : u * (16 * (l * l * (m * m)) * ((P.y - Q.y) * (P.y - Q.y))) = u * (4 * (l * l * (m * m))) * g * ((1 - E.d) * ((P.y - Q.y) * (P.y - Q.y))) := by grind
    rw [this, ← f2']
    clear f1' f2' this
    have : u * (4 * (l * l * (m * m))) * g * ((1 - y0) * (1 - ay P Q) * N) = (u * (1 - y0)) * (4 * (l * l * (m * m)) * g * (1 - ay P Q) * N) := by grind
    rw [this, hu]
    grind
end
end Go.Proofs.YtkmgdpbmkbpkjaaDoor.Cv
set_option linter.unusedVariables false
namespace Go.Proofs.YtkmgdpbmkbpkjaaDoor.Cv

instance : NeZero p25 := ⟨Nat.pos_iff_ne_zero.1 p25_pos⟩
/-- A number, modulo p. -/
def toF (a : Nat) : Fin p25 := Fin.ofNat p25 a
theorem toF_val (a : Nat) : (toF a).val = a % p25 := rfl
theorem toF_eq {a b : Nat} : toF a = toF b ↔ a % p25 = b % p25 := ⟨fun h => congrArg Fin.val h, fun h => Fin.ext h⟩
theorem toF_mod (a : Nat) : toF (a % p25) = toF a := toF_eq.2 (Nat.mod_mod _ _)
theorem toF_of (a : Fin p25) : toF a.val = a := Fin.ext (Nat.mod_eq_of_lt a.isLt)
theorem toF_add (a b : Nat) : toF (a + b) = toF a + toF b := Fin.ext (by
  show (a + b) % p25 = (a % p25 + b % p25) % p25
  exact Nat.add_mod _ _ _)
theorem toF_mul (a b : Nat) : toF (a * b) = toF a * toF b := Fin.ext (by
  show (a * b) % p25 = (a % p25 * (b % p25)) % p25
  exact Nat.mul_mod _ _ _)
theorem toF_zero : toF 0 = 0 := rfl
theorem toF_one : toF 1 = 1 := rfl
theorem toF_p : toF p25 = 0 := toF_eq.2 (by rw [Nat.mod_self, Nat.zero_mod])
theorem toF_sub {a b : Nat} (h : b ≤ 4 * p25) : toF (a + 4 * p25 - b) = toF a - toF b := by
  have e : toF (a + 4 * p25 - b) + toF b = toF a := by
    rw [← toF_add, show a + 4 * p25 - b + b = a + 4 * p25 by omega, toF_add, toF_mul, toF_p]
    generalize toF a = x
    grind
  generalize toF (a + 4 * p25 - b) = x at *
  generalize toF a = y at *
  generalize toF b = z at *
  grind
theorem toF_ne {a : Nat} : toF a ≠ 0 ↔ a % p25 ≠ 0 := by
  rw [← toF_zero, Ne, toF_eq, Nat.zero_mod]
/-- They are a field. -/
def K25 : Fd p25 where
  iv a := toF (pinv a.val)
  mul_iv a h := by
    have h1 : a.val % p25 ≠ 0 := by
      rw [← toF_ne, toF_of]; exact h
    have h2 := mul_pinv h1
    have h3 : toF (a.val * pinv a.val) = toF 1 := toF_eq.2 (by rw [h2, p25_one])
    rw [toF_mul, toF_of] at h3
    exact h3
  iv_zero := by
    show toF (pinv 0) = 0
    rw [pinv_zero (Nat.zero_mod _), toF_zero]
  one_ne := by rw [← toF_one, toF_ne, p25_one]; exact Nat.one_ne_zero
  two_ne := by
    show toF 2 ≠ 0
    rw [toF_ne]
    decide +kernel
theorem iv_toF (a : Nat) : K25.iv (toF a) = toF (pinv a) := by
  show toF (pinv (a % p25)) = _
  rw [pinv_mod]

/-- A square root, from the power of half of p - 1. -/
theorem root_of {q h s x : Nat} (hh : h + h = q + 1) (hs : toF s * toF s = -1) (hx : toF (x ^ (q + q)) = 1) : ∃ r : Fin p25, r * r = toF x := by
  have e1 : toF (x ^ q) * toF (x ^ q) = 1 := by rw [← toF_mul, ← Nat.pow_add]; exact hx
  have e2 : toF (x ^ h) * toF (x ^ h) = toF (x ^ q) * toF x := by rw [← toF_mul, ← Nat.pow_add, hh, Nat.pow_succ, toF_mul]
  rcases K25.sq e1 with h1 | h1
  · refine ⟨toF (x ^ h), ?_⟩
    rw [e2, h1]
    generalize toF x = y
    grind
  · refine ⟨toF (x ^ h) * toF s, ?_⟩
    rw [h1] at e2
    generalize toF (x ^ h) = r at *
    generalize toF s = t at *
    generalize toF x = y at *
    have : r * t * (r * t) = (r * r) * (t * t) := by grind
    rw [this, e2, hs]
    grind
/-- The power of half of p - 1. -/
@[irreducible] def qE : Nat := 14474011154664524427946373126085988481658748083205070504932198000989141204987
theorem qE_val : qE = 14474011154664524427946373126085988481658748083205070504932198000989141204987 := by unfold qE; rfl
theorem qE_four : (qE + qE) + (qE + qE) = p25 - 1 := by rw [qE_val]; decide +kernel
def chi (x : Nat) : Fin p25 := toF (x ^ (qE + qE))
theorem chi_mul (x y : Nat) : chi (x * y) = chi x * chi y := by
  unfold chi
  rw [Nat.mul_pow, toF_mul]
theorem chi_sq {x : Nat} (hx : x % p25 ≠ 0) : chi x * chi x = 1 := by
  have f := p25_prime.fermat (a := x) (fun hd => hx ((dvd_iff x).1 hd))
  unfold chi
  rw [← toF_mul, ← Nat.pow_add, qE_four, ← toF_one, toF_eq, f, p25_one]
theorem chi_or {x : Nat} (hx : x % p25 ≠ 0) : chi x = 1 ∨ chi x = -1 := K25.sq (chi_sq hx)
theorem chi_mod {x y : Nat} (h : x % p25 = y % p25) : chi x = chi y := by
  unfold chi
  rw [toF_eq, Nat.pow_mod, h, ← Nat.pow_mod]
theorem zero_pow_q : toF (0 ^ (qE + qE)) = 0 := by
  rw [Nat.zero_pow (by rw [qE_val]; decide), toF_zero]
/-- What has the power -1 is no square. -/
theorem no_root {x : Nat} (hx : chi x = -1) (r : Fin p25) : r * r ≠ toF x := by
  intro h
  rw [← toF_of r, ← toF_mul, toF_eq] at h
  have e := chi_mod h
  rw [chi_mul, hx] at e
  by_cases h0 : r.val % p25 = 0
  · have : chi r.val = 0 := by rw [chi_mod (x := r.val) (y := 0) (by rw [h0, Nat.zero_mod])]; exact zero_pow_q
    rw [this] at e
    exact K25.zero_neg e
  · rw [chi_sq h0] at e
    exact K25.one_neg e
theorem root {x : Nat} (hx : chi x = 1) : ∃ r : Fin p25, r * r = toF x :=
  root_of (q := qE) (h := 7237005577332262213973186563042994240829374041602535252466099000494570602494) (s := 19681161376707505956807079304988542015446066515923890162744021073123829784752)
    (by rw [qE_val]) (by decide +kernel) hx
theorem chi_pm (x : Nat) (v : Nat) (h : Pn.pm p25 256 x 28948022309329048855892746252171976963317496166410141009864396001978282409974 = v % p25) : chi x = toF v := by
  unfold chi
  rw [toF_eq, show qE + qE = 28948022309329048855892746252171976963317496166410141009864396001978282409974 by rw [qE_val], ← h, Pn.pm_eq _ _ _ _ (by decide +kernel)]
end Go.Proofs.YtkmgdpbmkbpkjaaDoor.Cv
set_option linter.unusedVariables false
namespace Go.Proofs.YtkmgdpbmkbpkjaaDoor.Cv
section
variable {n : Nat} [NeZero n] {K : Fd n} {E : Cu K}
/-- A number whose curve's number, times A + 2 e, is a square, is the fraction of a point. -/
theorem pt_facts {e a d u s : Fin n} (he : e * e = 1) (hd : d * (e * (4 * a + 2) + 2) = e * (4 * a + 2) - 2)
    (hs : s * s = (4 * a + 2 + 2 * e) * (u * (u * u + (4 * a + 2) * u + 1))) :
    (u + e) * (u + e) * (d * (e * (4 * a + 2) + 2)) = (u + e) * (u + e) * (e * (4 * a + 2) - 2) := by grind
theorem disc (M : Mo E) (v : Fin n) : v * v ≠ (4 * M.a + 2) * (4 * M.a + 2) - 4 := by
  intro h
  have hd := M.hd
  have he := M.he
  have hg := M.g_ne
  have hi := K.mul_iv _ hg
  refine E.no (v * K.iv (M.e * (4 * M.a + 2) + 2)) (K.cancel (K.mul_ne hg hg) ?_)
  generalize K.iv (M.e * (4 * M.a + 2) + 2) = i at *
  have e1 : v * i * (v * i) * ((M.e * (4 * M.a + 2) + 2) * (M.e * (4 * M.a + 2) + 2)) = v * v * (((M.e * (4 * M.a + 2) + 2) * i) * ((M.e * (4 * M.a + 2) + 2) * i)) := by grind
  have e2 : E.d * ((M.e * (4 * M.a + 2) + 2) * (M.e * (4 * M.a + 2) + 2)) = (E.d * (M.e * (4 * M.a + 2) + 2)) * (M.e * (4 * M.a + 2) + 2) := by grind
  rw [e1, hi, e2, hd, h]
  generalize M.a = a at *
  generalize M.e = e at *
  clear hd hi e1 e2 h hg
  grind
theorem quad_ne (M : Mo E) (u : Fin n) : u * u + (4 * M.a + 2) * u + 1 ≠ 0 := by
  intro h
  refine disc M (2 * u + (4 * M.a + 2)) ?_
  generalize M.a = a at *
  grind
theorem ade_ne (M : Mo E) : 4 * M.a + 2 + 2 * M.e ≠ 0 := by
  intro h
  refine M.g_ne ?_
  have he := M.he
  generalize M.a = a at *
  generalize M.e = e at *
  have : e * (4 * a + 2) + 2 = e * (4 * a + 2 + 2 * e) := by grind
  rw [this, h]
  grind
theorem on_of {e A d u s i j : Fin n} (he : e * e = 1) (hd : d * (e * A + 2) = e * A - 2) (hs : s * s = (A + 2 * e) * (u * (u * u + A * u + 1))) (hi : s * i = 1) (hj : (u + e) * j = 1) (hu : u ≠ 0)
    (hg : ∀ x y : Fin n, x * (s * s * ((u + e) * (u + e) * ((u + e) * (u + e)) * (e * A + 2))) = y * (s * s * ((u + e) * (u + e) * ((u + e) * (u + e)) * (e * A + 2))) → x = y) :
    On d ((A + 2 * e) * u * i) ((u - e) * j) := by
  unfold On
  refine hg _ _ ?_
  have e1 : ((A + 2 * e) * u * i * ((A + 2 * e) * u * i) + (u - e) * j * ((u - e) * j)) * (s * s * ((u + e) * (u + e) * ((u + e) * (u + e)) * (e * A + 2))) =
    ((A + 2 * e) * u) * ((A + 2 * e) * u) * ((s * i) * (s * i)) * ((u + e) * (u + e) * ((u + e) * (u + e)) * (e * A + 2)) + (u - e) * (u - e) * (((u + e) * j) * ((u + e) * j)) * (s * s * ((u + e) * (u + e) * (e * A + 2))) := by grind
  have e2 : (1 + d * ((A + 2 * e) * u * i * ((A + 2 * e) * u * i) * ((u - e) * j * ((u - e) * j)))) * (s * s * ((u + e) * (u + e) * ((u + e) * (u + e)) * (e * A + 2))) =
    s * s * ((u + e) * (u + e) * ((u + e) * (u + e)) * (e * A + 2)) + (d * (e * A + 2)) * (((A + 2 * e) * u) * ((A + 2 * e) * u) * ((s * i) * (s * i)) * ((u - e) * (u - e) * (((u + e) * j) * ((u + e) * j)))) * ((u + e) * (u + e)) := by grind
  rw [e1, e2, hi, hj, hs, hd]
  clear e1 e2 hi hj hs hd hg hu
  grind
theorem pt_of (M : Mo E) {u s : Fin n} (hu : u ≠ 0) (hs : s * s = (4 * M.a + 2 + 2 * M.e) * (u * (u * u + (4 * M.a + 2) * u + 1))) :
    ∃ Q : Pt E, u * (1 - Q.y) = M.e * (1 + Q.y) ∧ 1 - Q.y ≠ 0 := by
  have hq := quad_ne M u
  have hs0 : s ≠ 0 := fun h => K.mul_ne (ade_ne M) (K.mul_ne hu hq) (by rw [← hs, h]; grind)
  have hue : u + M.e ≠ 0 := by
    intro h
    refine disc M s ?_
    have he := M.he
    rw [hs]
    clear hs
    generalize M.a = a at *
    generalize M.e = e at *
    obtain rfl : u = -e := by grind
    grind
  have hi := K.mul_iv s hs0
  have hj := K.mul_iv _ hue
  have hne : s * s * ((u + M.e) * (u + M.e) * ((u + M.e) * (u + M.e)) * (M.e * (4 * M.a + 2) + 2)) ≠ 0 :=
    K.mul_ne (K.mul_ne hs0 hs0) (K.mul_ne (K.mul_ne (K.mul_ne hue hue) (K.mul_ne hue hue)) M.g_ne)
  have ho := on_of (i := K.iv s) (j := K.iv (u + M.e)) M.he M.hd hs hi hj hu (fun x y h => K.cancel hne h)
  refine ⟨⟨_, _, ho⟩, ?_, ?_⟩
  · show u * (1 - (u - M.e) * K.iv (u + M.e)) = M.e * (1 + (u - M.e) * K.iv (u + M.e))
    have he := M.he
    generalize K.iv (u + M.e) = j at *
    generalize M.e = e at *
    clear ho hne hi hs hq hs0
    grind
  · show 1 - (u - M.e) * K.iv (u + M.e) ≠ 0
    intro h
    have he := M.e_ne
    refine K.mul_ne K.two_ne he ?_
    generalize K.iv (u + M.e) = j at *
    generalize M.e = e at *
    clear ho hne hi hs hq hs0
    have : (2 : Fin n) * e = (1 - (u - e) * j) * (u + e) := by grind
    rw [this, h]
    grind
end
/-- The two curves. -/
def d1 : Nat := 20800338683988658368647408995589388737092878452977063003340006470870624536394
def d2 : Nat := 28692721048178265397853269683490922171210976843790175684556505508326675974058
theorem chi_d1 : chi d1 = toF (p25 - 1) := chi_pm _ _ (by decide +kernel)
theorem chi_d2 : chi d2 = toF (p25 - 1) := chi_pm _ _ (by decide +kernel)
theorem neg_one : toF (p25 - 1) = -1 := by
  have h : toF (p25 - 1) + toF 1 = 0 := by rw [← toF_add, Nat.sub_add_cancel p25_pos, toF_p]
  rw [toF_one] at h
  generalize toF (p25 - 1) = x at *
  grind
def E1 : Cu K25 := ⟨toF d1, no_root (by rw [chi_d1, neg_one])⟩
def E2 : Cu K25 := ⟨toF d2, no_root (by rw [chi_d2, neg_one])⟩
def M1 : Mo E1 := ⟨toF 1, toF 121665, by decide +kernel, by decide +kernel⟩
def M2 : Mo E2 := ⟨toF (p25 - 1), toF 121665, by decide +kernel, by decide +kernel⟩
end Go.Proofs.YtkmgdpbmkbpkjaaDoor.Cv
set_option linter.unusedVariables false
namespace Go.Proofs.YtkmgdpbmkbpkjaaDoor.Cv

theorem k1 : toF 486664 = 4 * M1.a + 2 + 2 * M1.e := by decide +kernel
theorem k2 : toF 486660 = 4 * M2.a + 2 + 2 * M2.e := by decide +kernel
theorem k3 : toF 486662 = 4 * M1.a + 2 := by decide +kernel
theorem k4 : toF 486662 = 4 * M2.a + 2 := by decide +kernel
theorem chi_disc : chi (486664 * 486660) = toF (p25 - 1) := chi_pm _ _ (by decide +kernel)
/-- The fraction of a point. -/
def aff {E : Cu K25} (M : Mo E) (Q : Pt E) : Fin p25 := M.e * (1 + Q.y) * K25.iv (1 - Q.y)
theorem aff_of {E : Cu K25} (M : Mo E) {Q : Pt E} {u : Fin p25} (h : u * (1 - Q.y) = M.e * (1 + Q.y)) (h0 : 1 - Q.y ≠ 0) : aff M Q = u := by
  unfold aff
  rw [← h]
  have := K25.mul_iv _ h0
  rw [Fin.mul_assoc, this, Fin.mul_one]
theorem zero_mul' {n : Nat} [NeZero n] (x : Fin n) : 0 * x = 0 := by grind
theorem mul_zero' {n : Nat} [NeZero n] (x : Fin n) : x * 0 = 0 := by grind
theorem sub_self' {n : Nat} [NeZero n] (x : Fin n) : x - x = 0 := by grind
theorem aff_zero {E : Cu K25} (M : Mo E) : aff M zero = 0 := by
  unfold aff
  show _ * K25.iv (1 - 1) = 0
  rw [sub_self', K25.iv_zero, mul_zero']
/-- Each number is the fraction of a point. -/
theorem exists_pt (u : Nat) : (∃ Q, aff M1 Q = toF u) ∨ (∃ Q, aff M2 Q = toF u) := by
  by_cases hu : toF u = 0
  · exact .inl ⟨zero, by rw [aff_zero, hu]⟩
  have hf1 : ∀ c A : Nat, toF (c * (u * (u * u + A * u + 1))) = toF c * (toF u * (toF u * toF u + toF A * toF u + 1)) := fun c A => by
    rw [toF_mul, toF_mul, toF_add, toF_add, toF_mul, toF_mul, toF_one]
  have go1 : chi (486664 * (u * (u * u + 486662 * u + 1))) = 1 → ∃ Q, aff M1 Q = toF u := fun h => by
    obtain ⟨s, hs⟩ := root h
    rw [hf1, k1, k3] at hs
    obtain ⟨Q, h1, h2⟩ := pt_of M1 hu hs
    exact ⟨Q, aff_of M1 h1 h2⟩
  have go2 : chi (486660 * (u * (u * u + 486662 * u + 1))) = 1 → ∃ Q, aff M2 Q = toF u := fun h => by
    obtain ⟨s, hs⟩ := root h
    rw [hf1, k2, k4] at hs
    obtain ⟨Q, h1, h2⟩ := pt_of M2 hu hs
    exact ⟨Q, aff_of M2 h1 h2⟩
  have hq : (u * (u * u + 486662 * u + 1)) % p25 ≠ 0 := by
    rw [← toF_ne, toF_mul, toF_add, toF_add, toF_mul, toF_mul, toF_one, k3]
    exact K25.mul_ne hu (quad_ne M1 _)
  have hc : (486664 * (u * (u * u + 486662 * u + 1))) % p25 ≠ 0 := by
    rw [← toF_ne, toF_mul]
    exact K25.mul_ne (by rw [toF_ne]; decide +kernel) (toF_ne.2 hq)
  rcases chi_or hc with h | h
  · exact .inl (go1 h)
  · refine .inr (go2 ?_)
    have e : chi (486664 * (u * (u * u + 486662 * u + 1))) * chi (486660 * (u * (u * u + 486662 * u + 1))) = toF (p25 - 1) * (chi (u * (u * u + 486662 * u + 1)) * chi (u * (u * u + 486662 * u + 1))) := by
      rw [← chi_mul, ← chi_disc, ← chi_mul, ← chi_mul]
      congr 1
      exact Nat.mul_mul_mul_comm _ _ _ _
    rw [chi_sq hq, h, neg_one] at e
    exact neg_cancel e
where
  neg_cancel {x : Fin p25} (h : -1 * x = -1 * 1) : x = 1 := by
    exact neg_cancel' K25 h
  neg_cancel' {n : Nat} [NeZero n] (K : Fd n) {x : Fin n} (h : -1 * x = -1 * 1) : x = 1 := by grind

/-- Below 5 p: what a difference takes. -/
def OkQ (q : Q4) : Prop := q.a ≤ 4 * p25 ∧ q.b ≤ 4 * p25 ∧ q.c ≤ 4 * p25 ∧ q.d ≤ 4 * p25
theorem ok_of (a : Nat) : a % p25 ≤ 4 * p25 := by
  have := lt_p25 a
  omega
theorem ok_step (x : Nat) (q : Q4) : OkQ (stepQ x q) := ⟨ok_of _, ok_of _, ok_of _, ok_of _⟩
theorem ok_turn {q : Q4} (h : OkQ q) : OkQ (turnQ q) := ⟨h.2.2.1, h.2.2.2, h.1, h.2.1⟩
theorem ok_bit (x : Nat) (b : Bool) (q : Q4) : OkQ (bitQ x b q) := by
  unfold bitQ
  split
  · exact ok_turn (ok_step _ _)
  · exact ok_step _ _
theorem F_add (a b : Nat) : toF (nadd a b) = toF a + toF b := by unfold nadd; rw [toF_mod, toF_add]
theorem F_mul (a b : Nat) : toF (nmul a b) = toF a * toF b := by unfold nmul; rw [toF_mod, toF_mul]
theorem F_sub {a b : Nat} (h : b ≤ 4 * p25) : toF (nsub a b) = toF a - toF b := by unfold nsub; rw [toF_mod, toF_sub h]

theorem F_subM (a b c : Nat) : toF (nsub a (nmul b c)) = toF a - toF b * toF c := by rw [← F_mul]; exact F_sub (ok_of _)

section
variable {E : Cu K25} (M : Mo E)
/-- The two fractions are those of so many times the point, and of one time more. -/
def Rel (P : Pt E) (q : Q4) (m : Nat) : Prop := OkQ q ∧ Rp M (toF q.a) (toF q.b) (mul m P) ∧ Rp M (toF q.c) (toF q.d) (mul (m + 1) P)
variable {M}
theorem y_dif (P Q : Pt E) : P.y * (1 + E.d * (Q.x * (add Q P).x * (Q.y * (add Q P).y))) = Q.y * (add Q P).y + Q.x * (add Q P).x := by
  have h : add (neg Q) (add Q P) = P := by rw [← assoc, neg_add, zero_add]
  have h2 := ay_mul (neg Q) (add Q P)
  have h3 : ay (neg Q) (add Q P) = P.y := congrArg Pt.y h
  rw [h3] at h2
  change P.y * (1 - E.d * (-Q.x * (add Q P).x * (Q.y * (add Q P).y))) = Q.y * (add Q P).y - -Q.x * (add Q P).x at h2
  generalize (add Q P).x = x at *
  generalize (add Q P).y = y at *
  generalize Q.x = z at *
  generalize Q.y = w at *
  generalize P.y = v at *
  generalize E.d = d at *
  exact sgn K25 h2
where
  sgn {n : Nat} [NeZero n] (K : Fd n) {v d z x w y : Fin n} (h2 : v * (1 - d * (-z * x * (w * y))) = w * y - -z * x) : v * (1 + d * (z * x * (w * y))) = w * y + z * x := by grind
theorem y_comm {d v z x w y : Fin p25} (h : v * (1 + d * (z * x * (w * y))) = w * y + z * x) : v * (1 + d * (x * z * (y * w))) = y * w + x * z := by
  rw [Fin.mul_comm x z, Fin.mul_comm y w]
  exact h
theorem step_rel {P : Pt E} {u : Nat} {q : Q4} {S T : Pt E} (hu : toF u * (1 - P.y) = M.e * (1 + P.y)) (hu0 : toF u ≠ 0) (hP : 1 - P.y ≠ 0) (ha : M.a = toF 121665) (ok : OkQ q)
    (h1 : Rp M (toF q.a) (toF q.b) S) (h2 : Rp M (toF q.c) (toF q.d) T) (h0 : P.y * (1 + E.d * (S.x * T.x * (S.y * T.y))) = S.y * T.y + S.x * T.x) :
    Rp M (toF (stepQ u q).a) (toF (stepQ u q).b) (add S S) ∧ Rp M (toF (stepQ u q).c) (toF (stepQ u q).d) (add S T) := by
  obtain ⟨oa, ob, oc, od⟩ := ok
  constructor
  · have := dbl M h1
    rw [ha] at this
    unfold stepQ
    simp only [F_add, F_mul, F_subM, F_sub ob]
    exact this
  · have := dif M h1 h2 h0 hu hu0 hP
    unfold stepQ
    simp only [F_add, F_mul, F_subM, F_sub ob, F_sub od]
    exact this
theorem bit_rel {P : Pt E} {u : Nat} {q : Q4} {m : Nat} (hu : toF u * (1 - P.y) = M.e * (1 + P.y)) (hu0 : toF u ≠ 0) (hP : 1 - P.y ≠ 0) (ha : M.a = toF 121665) (h : Rel M P q m) (b : Bool) :
    Rel M P (bitQ u b q) (2 * m + b.toNat) := by
  obtain ⟨ok, h1, h2⟩ := h
  have hd := y_dif P (mul m P)
  refine ⟨ok_bit _ _ _, ?_⟩
  cases b
  · obtain ⟨g1, g2⟩ := step_rel hu hu0 hP ha ok h1 h2 hd
    refine ⟨?_, ?_⟩
    · rw [show 2 * m + false.toNat = m + m by simp; omega, mul_add]
      exact g1
    · rw [show 2 * m + false.toNat + 1 = m + (m + 1) by simp; omega, mul_add]
      exact g2
  · obtain ⟨g1, g2⟩ := step_rel (q := turnQ q) hu hu0 hP ha (ok_turn ok) h2 h1 (y_comm hd)
    refine ⟨?_, ?_⟩
    · rw [show 2 * m + true.toNat = (m + 1) + m by simp; omega, mul_add]
      exact g2
    · rw [show 2 * m + true.toNat + 1 = (m + 1) + (m + 1) by simp; omega, mul_add]
      exact g1
theorem lad_rel {P : Pt E} {u : Nat} (hu : toF u * (1 - P.y) = M.e * (1 + P.y)) (hu0 : toF u ≠ 0) (hP : 1 - P.y ≠ 0) (ha : M.a = toF 121665) (n : Nat) :
    ∀ (i : Nat) (q : Q4), Rel M P q (n / 2 ^ i) → Rel M P (ladQ n u i q) n
  | 0, q, h => by rw [Nat.pow_zero, Nat.div_one] at h; exact h
  | i + 1, q, h => by
    refine lad_rel hu hu0 hP ha n i _ ?_
    have e := bit_rel hu hu0 hP ha h (n / 2 ^ i % 2 == 1)
    have e2 : 2 * (n / 2 ^ (i + 1)) + (n / 2 ^ i % 2 == 1).toNat = n / 2 ^ i := by
      rw [Nat.pow_succ, ← Nat.div_div_eq_div_mul]
      rcases Nat.mod_two_eq_zero_or_one (n / 2 ^ i) with h | h
      · rw [h]
        simp
        omega
      · rw [h]
        simp
        omega
    rw [e2] at e
    exact e
theorem one_two {n : Nat} [NeZero n] : (1 : Fin n) + 1 = 2 := by grind
theorem start_rel {P : Pt E} {u : Nat} (hu : toF u * (1 - P.y) = M.e * (1 + P.y)) (hP : 1 - P.y ≠ 0) (hok : u ≤ 4 * p25) : Rel M P (startQ u) 0 := by
  have p4 : 1 ≤ 4 * p25 := by have := p25_pos; omega
  refine ⟨⟨p4, Nat.zero_le _, hok, p4⟩, ?_, ?_⟩
  · refine ⟨K25.iv (M.e * 2), K25.iv_ne (K25.mul_ne M.e_ne K25.two_ne), ?_, ?_⟩
    · show toF 1 = K25.iv (M.e * 2) * (M.e * (1 + 1))
      have := K25.iv_mul (K25.mul_ne M.e_ne K25.two_ne)
      rw [toF_one, one_two]
      exact this.symm
    · show toF 0 = _ * (1 - 1)
      rw [sub_self', mul_zero', toF_zero]
  · rw [Nat.zero_add, mul_one]
    refine ⟨K25.iv (1 - P.y), K25.iv_ne hP, ?_, ?_⟩
    · show toF u = _
      rw [← hu, Fin.mul_comm (toF u), ← Fin.mul_assoc, K25.iv_mul hP, Fin.one_mul]
    · show toF 1 = _
      rw [K25.iv_mul hP, toF_one]
theorem frac_rel {q : Q4} {Q : Pt E} (h : Rp M (toF q.a) (toF q.b) Q) : toF (fracQ q) = aff M Q := by
  obtain ⟨l, hl, h1, h2⟩ := h
  unfold fracQ
  rw [F_mul, ← iv_toF, h1, h2]
  unfold aff
  by_cases h0 : 1 - Q.y = 0
  · rw [h0, mul_zero', K25.iv_zero, mul_zero', mul_zero']
  · have hi := K25.mul_iv _ h0
    have hj := K25.mul_iv _ (K25.mul_ne hl h0)
    refine K25.cancel (K25.mul_ne hl h0) ?_
    generalize K25.iv (1 - Q.y) = i at *
    generalize K25.iv (l * (1 - Q.y)) = j at *
    generalize 1 - Q.y = z at *
    generalize M.e * (1 + Q.y) = w at *
    exact fin3 K25 hi hj
where
  fin3 {n : Nat} [NeZero n] (K : Fd n) {l w i j z : Fin n} (hi : z * i = 1) (hj : l * z * j = 1) : l * w * j * (l * z) = w * i * (l * z) := by
    have : l * w * j * (l * z) = l * w * (l * z * j) := by grind
    rw [this, hj]
    have : w * i * (l * z) = l * w * (z * i) := by grind
    rw [this, hi]
theorem two_aff {Q : Pt E} (h : aff M Q = 0) : add Q Q = zero := by
  have hy : Q.y * Q.y = 1 := by
    unfold aff at h
    rcases K25.dom h with h | h
    · rcases K25.dom h with h | h
      · exact absurd h M.e_ne
      · exact sq1 h
    · by_cases h0 : 1 - Q.y = 0
      · exact sq2 h0
      · exact absurd h (K25.iv_ne h0)
  have hx : Q.x * Q.x = 0 := by
    have ho := Q.on
    unfold On at ho
    rw [hy] at ho
    refine K25.cancel (d_one E) ?_
    generalize Q.x = x at *
    generalize E.d = d at *
    exact sq3 ho
  have hx := K25.sq_zero hx
  refine Pt.same ?_ ?_
  · refine K25.cancel (den1 Q Q) ((ax_mul Q Q).trans ?_)
    show _ = (0 : Fin p25) * _
    rw [hx, zero_mul', zero_mul', mul_zero']
    exact sq4
  · refine K25.cancel (den2 Q Q) ((ay_mul Q Q).trans ?_)
    show _ = (1 : Fin p25) * _
    rw [hx, hy, zero_mul', zero_mul', mul_zero', Fin.one_mul]
where
  sq1 {n : Nat} [NeZero n] {y : Fin n} (h : 1 + y = 0) : y * y = 1 := by
    have : y = -1 := by grind
    rw [this]; grind
  sq2 {n : Nat} [NeZero n] {y : Fin n} (h : 1 - y = 0) : y * y = 1 := by
    have : y = 1 := by grind
    rw [this]; grind
  sq3 {n : Nat} [NeZero n] {x d : Fin n} (h : x * x + 1 = 1 + d * (x * x * 1)) : x * x * (1 - d) = 0 * (1 - d) := by grind
  sq4 {n : Nat} [NeZero n] : (0 : Fin n) + 0 = 0 := by grind
theorem mul_even {Q : Pt E} (h : add Q Q = zero) (m : Nat) : mul (2 * m) Q = zero := by
  rw [Nat.mul_comm, mul_mul]
  show mul m (add (add zero Q) Q) = zero
  rw [zero_add, h, mul_zero]
/-- The ladder's fraction, of a point whose fraction is not 0. -/
theorem lad_aff {Q : Pt E} {u : Nat} (ha : M.a = toF 121665) (h : aff M Q = toF u) (hu0 : toF u ≠ 0) (hok : u ≤ 4 * p25) (n i : Nat) (hn : n < 2 ^ i) :
    Rel M Q (ladQ n u i (startQ u)) n := by
  have hy : 1 - Q.y ≠ 0 := fun h0 => hu0 (by
    rw [← h]; unfold aff
    rw [h0, K25.iv_zero, mul_zero'])
  have hu : toF u * (1 - Q.y) = M.e * (1 + Q.y) := by
    rw [← h]
    unfold aff
    rw [Fin.mul_assoc, K25.iv_mul hy, Fin.mul_one]
  refine lad_rel hu hu0 hy ha n i _ ?_
  rw [Nat.div_eq_of_lt hn]
  exact start_rel hu hy hok
end
/-- What the ladder answers, is the fraction of the point's multiple. -/
theorem XN_aff {E : Cu K25} {M : Mo E} (ha : M.a = toF 121665) {Q : Pt E} {u : Nat} (hq : aff M Q = toF (baseN u)) (k : Nat) : toF (XN k u) = aff M (mul (clampN k) Q) := by
  by_cases h0 : toF (baseN u) = 0
  · have hz : baseN u = 0 := by
      rw [← toF_zero, toF_eq, Nat.zero_mod] at h0
      have : baseN u < p25 := lt_p25 _
      rwa [Nat.mod_eq_of_lt this] at h0
    rw [XN_zero hz, toF_zero]
    obtain ⟨m, hm, _⟩ := clamp_eight k
    rw [hm, show 8 * m = 2 * (4 * m) by omega, mul_even (two_aff (hq.trans h0)), aff_zero]
  · have := lad_aff ha hq h0 (ok_of _) (clampN k) 255 (clamp_ge k).2
    exact frac_rel this.2.1
theorem toF_inj {a b : Nat} (ha : a < p25) (hb : b < p25) (h : toF a = toF b) : a = b := by
  rw [toF_eq, Nat.mod_eq_of_lt ha, Nat.mod_eq_of_lt hb] at h
  exact h
theorem XN_two {E : Cu K25} {M : Mo E} (ha : M.a = toF 121665) {Q : Pt E} {u : Nat} (hq : aff M Q = toF (baseN u)) (k l : Nat) : toF (XN k (XN l u)) = aff M (mul (clampN k) (mul (clampN l) Q)) := by
  refine XN_aff ha ?_ k
  rw [base_lt (XN_lt _ _)]
  exact (XN_aff ha hq l).symm
theorem m1a : M1.a = toF 121665 := rfl
theorem m2a : M2.a = toF 121665 := rfl
/-- Two secrets on a point come to the same in either order. -/
theorem XN_comm (k l u : Nat) : XN k (XN l u) = XN l (XN k u) := by
  refine toF_inj (XN_lt _ _) (XN_lt _ _) ?_
  rcases exists_pt (baseN u) with ⟨Q, hQ⟩ | ⟨Q, hQ⟩
  · rw [XN_two m1a hQ, XN_two m1a hQ, mul_swap]
  · rw [XN_two m2a hQ, XN_two m2a hQ, mul_swap]
end Go.Proofs.YtkmgdpbmkbpkjaaDoor.Cv
set_option linter.unusedVariables false
namespace Go.Proofs.YtkmgdpbmkbpkjaaDoor.Cv

def ordL : Nat := 7237005577332262213973186563042994240857116359379907606001950938285454250989
theorem ordL_prime : Pn.Pr ordL := Pn.pr_7237005577332262213973186563042994240857116359379907606001950938285454250989
theorem base_order : (ladS ordL 9 253 (startQ 9)).b = 0 := by decide +kernel
section
variable {E : Cu K25} {M : Mo E}
theorem zero_of_y {Q : Pt E} (h : 1 - Q.y = 0) : Q = zero := by
  have hy : Q.y = 1 := z1 h
  have hx : Q.x * Q.x = 0 := by
    have ho := Q.on
    unfold On at ho
    rw [hy] at ho
    refine K25.cancel (d_one E) ?_
    generalize Q.x = x at *
    generalize E.d = d at *
    exact z2 ho
  exact Pt.same (K25.sq_zero hx) hy
where
  z1 {n : Nat} [NeZero n] {y : Fin n} (h : 1 - y = 0) : y = 1 := by grind
  z2 {n : Nat} [NeZero n] {x d : Fin n} (h : x * x + 1 * 1 = 1 + d * (x * x * (1 * 1))) : x * x * (1 - d) = 0 * (1 - d) := by grind
theorem order_zero (ha : M.a = toF 121665) {Q : Pt E} (h : aff M Q = toF 9) : mul ordL Q = zero := by
  have h9 : toF 9 ≠ 0 := by rw [toF_ne]; decide +kernel
  have r := lad_aff ha h h9 (by decide +kernel) ordL 253 (by decide +kernel)
  obtain ⟨l, hl, _, h2⟩ := r.2.1
  have hb := base_order
  rw [ladS_eq] at hb
  rw [hb, toF_zero] at h2
  rcases K25.dom h2.symm with h3 | h3
  · exact absurd h3 hl
  · exact zero_of_y h3
theorem not_dvd_clamp (k : Nat) : ¬ ordL ∣ clampN k := by
  intro h
  obtain ⟨m, hm, h0, h1⟩ := clamp_eight k
  rw [hm] at h
  rcases ordL_prime.dvd_mul h with h | h
  · have := Nat.le_of_dvd (by decide) h
    unfold ordL at this
    omega
  · have := Nat.le_of_dvd h0 h
    unfold ordL at this
    omega
theorem aff_ne (ha : M.a = toF 121665) {Q : Pt E} (h : aff M Q = toF 9) (k l : Nat) : aff M (mul (clampN k) (mul (clampN l) Q)) ≠ 0 := by
  intro h0
  have h2 := two_aff h0
  have h3 : mul (2 * (clampN k * clampN l)) Q = zero := by
    rw [mul_mul, mul_mul]
    show add (add zero _) _ = zero
    rw [zero_add]
    exact h2
  have hd : ¬ ordL ∣ 2 * (clampN k * clampN l) := by
    intro h
    rcases ordL_prime.dvd_mul h with h | h
    · have := Nat.le_of_dvd (by decide) h
      unfold ordL at this
      omega
    · rcases ordL_prime.dvd_mul h with h | h
      · exact not_dvd_clamp _ h
      · exact not_dvd_clamp _ h
  have h4 := mul_gcd (order_zero ha h) h3
  rw [ordL_prime.coprime hd, mul_one] at h4
  rw [h4, aff_zero] at h
  exact (toF_ne (a := 9)).2 (by decide +kernel) h.symm
/-- What two secrets come to, is not 0. -/
theorem XN_ne (k l : Nat) : XN k (XN l 9) ≠ 0 := by
  intro h
  have h9 : baseN 9 = 9 := by decide +kernel
  rcases exists_pt 9 with ⟨Q, hQ⟩ | ⟨Q, hQ⟩
  · have := XN_two m1a (by rw [h9]; exact hQ) k l
    rw [h, toF_zero] at this
    exact aff_ne m1a hQ k l this.symm
  · have := XN_two m2a (by rw [h9]; exact hQ) k l
    rw [h, toF_zero] at this
    exact aff_ne m2a hQ k l this.symm
theorem y_zero (M : Mo E) {Q : Pt E} (h : Q.y = 0) : mul 4 Q = zero := by
  have hx : Q.x * Q.x = 1 := by
    have ho := Q.on
    unfold On at ho
    rw [h] at ho
    generalize Q.x = x at *
    generalize E.d = d at *
    exact w1 ho
  have h2 : aff M (add Q Q) = 0 := by
    have hm := ay_mul Q Q
    rw [h, hx] at hm
    have : 1 + (add Q Q).y = 0 := w2 hm
    unfold aff
    rw [this, mul_zero', zero_mul']
  have h3 := two_aff h2
  show add (add (add (add zero Q) Q) Q) Q = zero
  rw [zero_add, assoc]
  exact h3
where
  w1 {n : Nat} [NeZero n] {x d : Fin n} (h : x * x + 0 * 0 = 1 + d * (x * x * (0 * 0))) : x * x = 1 := by grind
  w2 {n : Nat} [NeZero n] {z d : Fin n} (h : z * (1 - d * (1 * (0 * 0))) = 0 * 0 - 1) : 1 + z = 0 := by grind
theorem XN_four (ha : M.a = toF 121665) {Q : Pt E} {u : Nat} (hu : u < p25) (h : Q.y = 0) (hq : aff M Q = toF u) (k : Nat) : XN k u = 0 := by
  refine toF_inj (XN_lt _ _) p25_pos ?_
  rw [XN_aff ha (by rw [base_lt hu]; exact hq) k, toF_zero]
  obtain ⟨m, hm, _⟩ := clamp_eight k
  rw [hm, show 8 * m = 2 * m * 4 by omega, mul_mul, y_zero M h, mul_zero, aff_zero]
end
def F1 : Pt E1 := ⟨1, 0, by unfold On; decide +kernel⟩
def F2 : Pt E2 := ⟨1, 0, by unfold On; decide +kernel⟩
theorem XN_small1 (k : Nat) : XN k 1 = 0 := XN_four (M := M1) (Q := F1) m1a (by decide +kernel) rfl (aff_of M1 (by decide +kernel) (by decide +kernel)) k
theorem XN_small2 (k : Nat) : XN k (p25 - 1) = 0 := XN_four (M := M2) (Q := F2) m2a (by decide +kernel) rfl (aff_of M2 (by decide +kernel) (by decide +kernel)) k
end Go.Proofs.YtkmgdpbmkbpkjaaDoor.Cv
