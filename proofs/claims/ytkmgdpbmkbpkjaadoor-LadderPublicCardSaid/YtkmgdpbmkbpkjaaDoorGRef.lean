/-
  Slices of whole numbers of the call's own: opened to their block, and told again from it. The digits of a number.
  What the document's carry, fold, high and below come to, told by numbers: no program in sight but the printed functions.
  What the document's num answers: the number of the digits, modulo p.
  What the document's Reduce and Add answer.
  What the document's Sub answers.
  What the document's Mul answers.
  What the document's Inv answers: the power of p - 2.
-/
import Derived.Test.YtkmgdpbmkbpkjaaDoorArr
import Derived.Test.YtkmgdpbmkbpkjaaDoorPLadderTellsx2
import Derived.LoopTactic
import Derived.Lib.Hide
import Derived.Test.YtkmgdpbmkbpkjaaDoorGAny
import Derived.Test.YtkmgdpbmkbpkjaaDoorEngC
set_option linter.unusedVariables false
set_option linter.unusedSimpArgs false
namespace Go.Proofs.YtkmgdpbmkbpkjaaDoor
open Go.RowKit Go.Proofs.YtkmgdpbmkbpkjaaDoorW.PrintWords Go.Proofs.YtkmgdpbmkbpkjaaDoorW.PrintLast Go.Proofs.YtkmgdpbmkbpkjaaDoorW.PrintMore

/-- A slice of whole numbers of the call's own. -/
def IR (w : World) (base : Nat) (v : Value) (xs : List Int) : Prop := Kd.R (Kd.int .i64) 3 w base (fun _ => True) v xs
/-- A block whose first cells are these numbers. -/
def IB (w : World) (g : Nat) (xs : List Int) : Prop := ∃ cur, Bk w g 3 cur ∧ ∀ (i : Nat) (x : Int), xs[i]? = some x → cur[i]? = some (Value.int .i64 x)
theorem IB.cell {w : World} {g : Nat} {xs : List Int} (h : IB w g xs) {i : Nat} {x : Int} (hx : xs[i]? = some x) : w.cell? ⟨g, i, none⟩ = some (.int .i64 x) := by
  obtain ⟨cur, q, hc⟩ := h
  rw [q.cell i]
  exact hc i x hx
theorem IB.reads {w : World} {g : Nat} {xs : List Int} (h : IB w g xs) (hl : xs.length ≤ 9223372036854775807) : Kd.C (Kd.int .i64) w (some ⟨g, 0, none⟩) xs.length xs := by
  refine ⟨rfl, hl, fun _ => ⟨_, rfl, fun j p hj => ⟨[.int .i64 p], rfl, rfl, fun i u hu => ?_⟩⟩⟩
  have hi : i = 0 := by
    rcases Nat.eq_zero_or_pos i with h | h
    · exact h
    · rw [List.getElem?_eq_none (by simp; omega)] at hu; cases hu
  subst hi
  obtain rfl : Value.int .i64 p = u := by simpa using hu
  show World.cell? _ ((⟨g, 0, none⟩ : Addr).add (j * 1 + 0)) = _
  rw [show ((⟨g, 0, none⟩ : Addr).add (j * 1 + 0)) = ⟨g, j, none⟩ by unfold Addr.add; by_cases hj0 : j = 0 <;> simp [hj0]]
  exact h.cell hj
theorem wrap64_fit {a : Int} (h1 : -9223372036854775808 ≤ a) (h2 : a ≤ 9223372036854775807) : wrap64 a = a := by unfold wrap64; omega
theorem IR.open {w : World} {base : Nat} {v : Value} {xs : List Int} (h : IR w base v xs) (h0 : 0 < xs.length) : ∃ g c, v = .slice (some ⟨g, 0, none⟩) xs.length c ∧ base ≤ g ∧ xs.length ≤ c ∧ IB w g xs := by
  obtain ⟨_, inner, ⟨h1, h2⟩, hr⟩ := h
  rcases h2 with ⟨rfl, h2⟩ | ⟨g, cap, cur, rfl, hg, hh, r⟩
  · exact absurd h0 (by omega)
  · refine ⟨g, cap, rfl, hg, r.1, cur, hh, fun i x hx => ?_⟩
    have hi : i < xs.length := (List.getElem?_eq_some_iff.1 hx).1
    have e := hr.2 i x hx
    have h4 : inner = cur.toList.take xs.length := by rw [← r.2.2.2]; show List.take (xs.length * 1) _ = _; rw [Nat.mul_one]
    have e2 : (inner.drop (i * 1)).take 1 = [Value.int .i64 x] := e
    rw [Nat.mul_one] at e2
    have e3 : inner[i]? = some (Value.int .i64 x) := by
      have := congrArg (fun l => l[0]?) e2
      simpa using this
    rw [h4, List.getElem?_take] at e3
    simpa [hi] using e3
def digs (n m : Nat) : List Int := (List.range m).map fun j => ((n / 256 ^ j % 256 : Nat) : Int)
theorem digs_succ (n m : Nat) : digs n (m + 1) = digs n m ++ [((n / 256 ^ m % 256 : Nat) : Int)] := by simp [digs, List.range_succ]
theorem digs_len (n m : Nat) : (digs n m).length = m := by simp [digs]
theorem digs_at (n m i : Nat) (h : i < m) : (digs n m)[i]? = some ((n / 256 ^ i % 256 : Nat) : Int) := by simp [digs, h]

set_option maxRecDepth 100000 in
set_option maxHeartbeats 4000000 in
theorem digits_any (n : Nat) (w : World) :
    Calls Tryd.prog 49 #[.agg (c8 n)] w fun e w' => ∃ v, e = .returned v ∧ IR w' w.heap.size v (digs n 32) ∧ Below w.heap.size w w' := by
  go_enter Tryd.func49, Tryd.ntmps49
  go_wp2_with fail
  generalize hW : w.alloc (.cells (c8 n) 22) = W
  have hsz : W.heap.size = w.heap.size + 1 := by rw [← hW]; unfold World.alloc; exact Array.size_push ..
  have q0 : Bk W w.heap.size 22 (c8 n) := by rw [← hW]; exact Bk.new _ _ _
  have b0 : Below w.heap.size w W := by rw [← hW]; exact bl_alloc (Below.refl _ _) _
  clear hW
  go_loopw [3, 4] (fun v c wr => ∃ i : Nat, i ≤ 32 ∧ c = .int .i64 i ∧ Hid (IR wr W.heap.size v (digs n i)) ∧ Below W.heap.size W wr) (fun _ c _ => 32 - (intOf c).toNat)
  case atStart => exact ⟨0, by omega, rfl, Lib.hid (Kd.R_nil _ _ _ _ _), Below.refl _ _⟩
  case round =>
    obtain ⟨i, hi, rfl, hR, HB⟩ := hrel
    have q := q0.under HB
    by_cases hlt : i < 32
    · have hlt1 : ((i : Int) < 32) = True := eq_true (by omega)
      have hc : wr.cell? ⟨w.heap.size, i, none⟩ = some (.int .u8 ((n / 256 ^ i % 256 : Nat) : Int)) := (q.cell i).trans (get_c8 n i hlt)
      obtain ⟨d, hd⟩ : ∃ d, d = n / 256 ^ i % 256 := ⟨_, rfl⟩
      rw [← hd] at hc
      have hs : digs n (i + 1) = digs n i ++ [(d : Int)] := by rw [digs_succ, hd]
      have HS := Lib.hid hs
      have hwd : wrap64 (d : Int) = (d : Int) := wrap64_fit (by omega) (by omega)
      clear hs
      clear hd
      go_wp2_with (first | ((with_reducible refine gate_builtin (b := .append) (xs := #[.tmp 9, .tmp 14]) rfl ?_); at_builtin; refine Kd.R_append (Kd.int .i64) (w0 := W) W.heap.size rfl (.tmp 9) (.tmp 14) 81 3 (.int .i64 0) 8 rfl Tryd.underlying81 PLadderTells.info3 rfl (by decide) (by omega) _ (digs n i) (d : Int) [.int .i64 (d : Int)] (fun _ => True) (fun _ => False) rfl rfl rfl (fun _ hk => hk.elim) (fun _ _ => trivial) hR.out HB HB.size (by rw [digs_len]; omega) ?_; intro v1 w1 ho hb hg hat; clear HB hR hg hat))
      go_roundw
      case rel => exact ⟨i + 1, by omega, by simp, by rw [HS.out]; exact Lib.hid ho, hb⟩
      case measure => simp [intOf]; omega
    · obtain rfl : i = 32 := by omega
      go_wp2_with fail
      go_ret
      exact ⟨_, rfl, Kd.R_lower hR.out (by omega), bl_call b0 HB⟩
end Go.Proofs.YtkmgdpbmkbpkjaaDoor
set_option linter.unusedVariables false
set_option linter.unusedSimpArgs false
namespace Go.Proofs.YtkmgdpbmkbpkjaaDoor
open Go.RowKit Go.Proofs.YtkmgdpbmkbpkjaaDoorW.PrintWords Go.Proofs.YtkmgdpbmkbpkjaaDoor.PLadderTells

/-- From some fuel on. -/
def Ev {α : Type} (f : Nat → Option α) (r : α) : Prop := ∃ k0, ∀ k, k0 ≤ k → f k = some r
theorem Ev.step {α : Type} {f g : Nat → Option α} {r : α} (h : Ev g r) (e : ∀ k, f (k + 1) = g k) : Ev f r := by
  obtain ⟨k0, hk⟩ := h
  refine ⟨k0 + 1, fun k h => ?_⟩
  obtain ⟨j, rfl⟩ : ∃ j, k = j + 1 := ⟨k - 1, by omega⟩
  rw [e]; exact hk j (by omega)
theorem Ev.now {α : Type} {f : Nat → Option α} {r : α} (e : ∀ k, f (k + 1) = some r) : Ev f r := ⟨1, fun k h => by obtain ⟨j, rfl⟩ : ∃ j, k = j + 1 := ⟨k - 1, by omega⟩; exact e j⟩
theorem Ev.bind {α β : Type} {f : Nat → Option α} {g : Nat → α → Option β} {r : α} {s : β} (h : Ev f r) (h2 : Ev (fun k => g k r) s) : Ev (fun k => (f k).bind (g k)) s := by
  obtain ⟨k0, hk⟩ := h
  obtain ⟨k1, hk1⟩ := h2
  refine ⟨k0 + k1, fun k h => ?_⟩
  show (f k).bind (g k) = some s
  rw [hk k (by omega)]
  exact hk1 k (by omega)

/-- Whole numbers as the program has them. -/
def ints (l : List Nat) : List Int := l.map fun (n : Nat) => (n : Int)
theorem ints_len (l : List Nat) : (ints l).length = l.length := by simp [ints]
theorem rd_ints (l : List Nat) (i : Nat) : rd (ints l) (i : Int) = ((l.getD i 0 : Nat) : Int) := by
  simp only [rd, ints, Int.toNat_natCast, List.getD_eq_getElem?_getD, List.getElem?_map]
  cases l[i]? <;> rfl
/-- What digits of base 256 come to, the lowest first. -/
def V : List Nat → Nat
  | [] => 0
  | a :: l => a + 256 * V l
theorem V_drop (l : List Nat) (i : Nat) (h : i < l.length) : V (l.drop i) = l.getD i 0 + 256 * V (l.drop (i + 1)) := by
  rw [List.drop_eq_getElem_cons h, V]
  congr 1
  simp [h]
theorem rd_digs (n m i : Nat) (h : i < m) : rd (digs n m) (i : Int) = ((n / 256 ^ i % 256 : Nat) : Int) := by
  simp only [rd, Int.toNat_natCast, List.getD_eq_getElem?_getD, digs_at n m i h, Option.getD_some]

theorem pow_ne (i : Nat) : 0 < 256 ^ i := Nat.pow_pos (by omega)
theorem div_step (N i : Nat) : N / 256 ^ (i + 1) = N / 256 ^ i / 256 := by rw [Nat.div_div_eq_div_mul, Nat.pow_succ]

theorem w_nat {a : Nat} (h : a < 9223372036854775808) : wrap64 (a : Int) = (a : Int) := wrap64_fit (by omega) (by omega)
theorem w_succ {i : Nat} (h : i < 9223372036854775807) : wrap64 ((i : Int) + 1) = ((i + 1 : Nat) : Int) := by rw [wrap64_fit (by omega) (by omega)]; omega
theorem w_add {a b : Nat} (h : a + b < 9223372036854775808) : wrap64 ((a : Int) + (b : Int)) = ((a + b : Nat) : Int) := by rw [wrap64_fit (by omega) (by omega)]; omega
theorem tmod_nat (a b : Nat) : Int.tmod (a : Int) (b : Int) = ((a % b : Nat) : Int) := by rw [Int.tmod_eq_emod_of_nonneg (by omega)]; exact (Int.natCast_emod _ _).symm
theorem tdiv_nat (a b : Nat) : Int.tdiv (a : Int) (b : Int) = ((a / b : Nat) : Int) := by rw [Int.tdiv_eq_ediv_of_nonneg (by omega)]; exact (Int.natCast_ediv _ _).symm
theorem tmod_256 (a : Nat) : Int.tmod (a : Int) 256 = ((a % 256 : Nat) : Int) := tmod_nat a 256
theorem tdiv_256 (a : Nat) : Int.tdiv (a : Int) 256 = ((a / 256 : Nat) : Int) := tdiv_nat a 256

/-- The carry: the digits of what they come to. -/
theorem carry_go (l : List Nat) (hl : l.length ≤ 64) (hb : ∀ x ∈ l, x < 1099511627776) (N m : Nat) (hN : N = V l) (hm : 32 ≤ m) (hlm : l.length ≤ m) (hm2 : m ≤ 10000) (hlt : N < 256 ^ m)
    (hmin : ∀ i, i < m → i < 32 ∨ i < l.length ∨ 0 < N / 256 ^ i) :
    ∀ t i c, i + t = m → c + V (l.drop i) = N / 256 ^ i → c < 1099511627776 → Ev (fun k => signetringref01_carry.l0 k (ints l) (digs N i) (c : Int) (i : Int)) (digs N m)
  | 0, i, c, hi, hc, hcb => by
    obtain rfl : i = m := by omega
    have h0 : N / 256 ^ i = 0 := Nat.div_eq_of_lt hlt
    have hc0 : c = 0 := by omega
    subst hc0
    refine Ev.step (g := fun k => signetringref01_carry.j1 k (ints l) (digs N i) 0 (i : Int) false) (Ev.now fun k => ?_) fun k => ?_
    · rw [signetringref01_carry.j1]; rfl
    · rw [signetringref01_carry.l0, ints_len]
      rw [if_neg (by omega), if_neg (by omega)]
      congr 1
      exact decide_eq_false (by omega)
  | t + 1, i, c, hi, hc, hcb => by
    have hrec := carry_go l hl hb N m hN hm hlm hm2 hlt hmin t (i + 1)
    have hds := digs_succ N i
    have hdv := div_step N i
    refine Ev.step (g := fun k => signetringref01_carry.j1 k (ints l) (digs N i) (c : Int) (i : Int) true) ?_ fun k => ?_
    · by_cases hil : i < l.length
      · have hx : l.getD i 0 < 1099511627776 := by
          rw [List.getD_eq_getElem?_getD, List.getElem?_eq_getElem hil]; exact hb _ (List.getElem_mem hil)
        have hv := V_drop l i hil
        generalize hx' : l.getD i 0 = x at hx hv
        have hq : N / 256 ^ i % 256 = (c + x) % 256 := by omega
        refine Ev.step (hrec ((c + x) / 256) (by omega) (by omega) (by omega)) fun k => ?_
        rw [signetringref01_carry.j1, if_pos rfl, ints_len, if_pos (by omega), if_pos (by omega), digs_len, if_pos (by omega), rd_ints, hx', w_add (by omega), tmod_256, tdiv_256, w_nat (by omega), w_succ (by omega), hds, hq]
      · have hv : V (l.drop i) = 0 := by rw [List.drop_eq_nil_of_le (by omega)]; rfl
        have hv' : V (l.drop (i + 1)) = 0 := by rw [List.drop_eq_nil_of_le (by omega)]; rfl
        have hq : N / 256 ^ i % 256 = c % 256 := by omega
        refine Ev.step (hrec (c / 256) (by omega) (by omega) (by omega)) fun k => ?_
        rw [signetringref01_carry.j1, if_pos rfl, ints_len, if_neg (by omega), digs_len, if_pos (by omega), tmod_256, tdiv_256, w_nat (by omega), w_succ (by omega), hds, hq]
    · rw [signetringref01_carry.l0, ints_len]
      by_cases hil : i < l.length
      · rw [if_pos (by omega)]
      · rw [if_neg (by omega)]
        have hv : V (l.drop i) = 0 := by rw [List.drop_eq_nil_of_le (by omega)]; rfl
        by_cases hc0 : 0 < c
        · rw [if_pos (by omega)]
        · rw [if_neg (by omega)]
          congr 1
          rcases hmin i (by omega) with h | h | h
          · exact decide_eq_true (by omega)
          · omega
          · omega
theorem least (P : Nat → Prop) (n : Nat) (hn : P n) : ∃ m, m ≤ n ∧ P m ∧ ∀ i, i < m → ¬ P i := by
  induction n using Nat.strongRecOn with
  | ind n ih =>
    by_cases h : ∃ j, j < n ∧ P j
    · obtain ⟨j, hj, hp⟩ := h
      obtain ⟨m, hm, h1, h2⟩ := ih j hj hp
      exact ⟨m, by omega, h1, h2⟩
    · exact ⟨n, Nat.le_refl _, hn, fun i hi hp => h ⟨i, hi, hp⟩⟩
theorem carry_any (l : List Nat) (hl : l.length ≤ 64) (hb : ∀ x ∈ l, x < 1099511627776) (hV : V l < 256 ^ 64) :
    ∃ m, 32 ≤ m ∧ m ≤ 64 ∧ V l < 256 ^ m ∧ Ev (fun k => signetringref01_carry.f k (ints l)) (digs (V l) m) := by
  obtain ⟨m, hm, ⟨h1, h2, h3⟩, hmin⟩ := least (fun m => 32 ≤ m ∧ l.length ≤ m ∧ V l < 256 ^ m) 64 ⟨by omega, hl, hV⟩
  refine ⟨m, h1, hm, h3, carry_go l hl hb (V l) m rfl h1 h2 (by omega) h3 (fun i hi => ?_) m 0 0 (by omega) (by simp) (by omega)⟩
  have := hmin i hi
  by_cases h : i < 32
  · exact .inl h
  · by_cases h' : i < l.length
    · exact .inr (.inl h')
    · refine .inr (.inr (Nat.div_pos ?_ (pow_ne i)))
      exact Nat.le_of_not_lt fun h4 => this ⟨by omega, by omega, h4⟩

theorem high_go (N m : Nat) (hm : m ≤ 64) (hlt : N < 256 ^ m) : ∀ t i, i + t = m → Ev (fun k => signetringref01_high.l0 k (digs N m) (i : Int)) (decide (0 < N / 256 ^ i))
  | 0, i, hi => by
    obtain rfl : i = m := by omega
    rw [Nat.div_eq_of_lt hlt]
    exact Ev.now fun k => by rw [signetringref01_high.l0, digs_len, if_neg (by omega)]; rfl
  | t + 1, i, hi => by
    have ih := high_go N m hm hlt t (i + 1) (by omega)
    have hd := div_step N i
    have hp : ∀ q : Nat, 0 < q % 256 → 0 < q := fun q h => by omega
    have hp2 : ∀ q : Nat, ¬ 0 < q % 256 → (0 < q ↔ 0 < q / 256) := fun q h => by omega
    by_cases hz : 0 < N / 256 ^ i % 256
    · rw [decide_eq_true (hp _ hz)]
      exact Ev.now fun k => by rw [signetringref01_high.l0, digs_len, if_pos (by omega), if_pos (by omega), rd_digs N m i (by omega), if_pos (by omega)]
    · rw [show decide (0 < N / 256 ^ i) = decide (0 < N / 256 ^ (i + 1)) from decide_eq_decide.2 (by rw [hd]; exact hp2 _ hz)]
      exact Ev.step ih fun k => by rw [signetringref01_high.l0, digs_len, if_pos (by omega), if_pos (by omega), rd_digs N m i (by omega), if_neg (by omega), w_succ (by omega)]
theorem high_any (N m : Nat) (h32 : 32 ≤ m) (hm : m ≤ 64) (hlt : N < 256 ^ m) : Ev (fun k => signetringref01_high.f k (digs N m)) (decide (256 ^ 32 ≤ N)) := by
  have h := high_go N m hm hlt (m - 32) 32 (by omega)
  rw [show decide (0 < N / 256 ^ 32) = decide (256 ^ 32 ≤ N) from decide_eq_decide.2 ⟨fun h => Nat.le_of_not_lt fun h2 => by rw [Nat.div_eq_of_lt h2] at h; exact absurd h (by decide), fun h => Nat.div_pos h (pow_ne 32)⟩] at h
  exact h

/-- What is folded so far. -/
def fo (N i k : Nat) : Nat := (if k < i then N / 256 ^ k % 256 else 0) + (if k + 32 < i then 38 * (N / 256 ^ (k + 32) % 256) else 0)
def foL (N i : Nat) : List Nat := (List.range 32).map (fo N i)
theorem foL_len (N i : Nat) : (foL N i).length = 32 := by simp [foL]
theorem foL_at (N i k : Nat) (h : k < 32) : (foL N i).getD k 0 = fo N i k := by simp [foL, List.getD_eq_getElem?_getD, h]
theorem foL_set (N i k v : Nat) (hk : k < 32) (hv : v = fo N (i + 1) k) (ho : ∀ j, j < 32 → j ≠ k → fo N (i + 1) j = fo N i j) : (ints (foL N i)).set k (v : Int) = ints (foL N (i + 1)) := by
  refine List.ext_getElem? fun j => ?_
  rw [List.getElem?_set]
  simp only [ints, foL, List.map_map, List.getElem?_map, List.length_map, List.length_range]
  by_cases hj : j < 32
  · by_cases e : k = j
    · subst e; simp [hj, hv]
    · simp [e, hj, ho j hj (fun h => e h.symm)]
  · have : k ≠ j := by omega
    simp [this, hj]
theorem fold_go (N m : Nat) (h32 : 32 ≤ m) (hm : m ≤ 64) (R : List Int) (hR : Ev (fun k => (signetringref01_carry.f k (ints (foL N m))).bind fun t => signetringref01_fold.l0 k t) R) :
    ∀ t i, i + t = m → Ev (fun k => signetringref01_fold.l1 k (digs N m) (ints (foL N i)) (i : Int)) R
  | 0, i, hi => by
    obtain rfl : i = m := by omega
    exact Ev.step hR fun k => by rw [signetringref01_fold.l1, digs_len, if_neg (by omega)]
  | t + 1, i, hi => by
    have ih := fold_go N m h32 hm R hR t (i + 1) (by omega)
    have hl := foL_len N i
    have ht : Int.tmod (i : Int) 32 = ((i % 32 : Nat) : Int) := tmod_nat i 32
    refine Ev.step ih fun k => ?_
    by_cases hi32 : i < 32
    · have e : i % 32 = i := Nat.mod_eq_of_lt hi32
      have hd : N / 256 ^ i % 256 < 256 := Nat.mod_lt _ (by omega)
      have hf : fo N i i = 0 := by simp [fo] <;> omega
      rw [signetringref01_fold.l1, digs_len, if_pos (by omega), if_pos (by omega), ht, e, if_pos (by omega), ints_len, hl, if_pos (by omega), if_pos (by omega), rd_ints, foL_at N i i hi32, rd_digs N m i (by omega), hf, w_succ (by omega), w_add (by omega), Int.toNat_natCast, Nat.zero_add,
        foL_set N i i _ hi32 (by simp [fo] <;> omega) (fun j hj hne => by simp only [fo, show (j < i + 1 ↔ j < i) by omega, show (j + 32 < i + 1 ↔ j + 32 < i) by omega])]
    · obtain ⟨r, rfl⟩ : ∃ r, i = r + 32 := ⟨i - 32, by omega⟩
      have e : (r + 32) % 32 = r := by omega
      have hd : N / 256 ^ (r + 32) % 256 < 256 := Nat.mod_lt _ (by omega)
      have hd2 : N / 256 ^ r % 256 < 256 := Nat.mod_lt _ (by omega)
      have hf : fo N (r + 32) r = N / 256 ^ r % 256 := by simp [fo]
      have h38 : wrap64 (38 * ((N / 256 ^ (r + 32) % 256 : Nat) : Int)) = ((38 * (N / 256 ^ (r + 32) % 256) : Nat) : Int) := by rw [wrap64_fit (by omega) (by omega)]; omega
      rw [signetringref01_fold.l1, digs_len, if_pos (by omega), if_neg (by omega), ht, e, if_pos (by omega), ints_len, hl, if_pos (by omega), if_pos (by omega), rd_ints, foL_at N _ r (by omega), rd_digs N m _ (by omega), hf, w_succ (by omega), h38, w_add (by omega), Int.toNat_natCast,
        foL_set N (r + 32) r _ (by omega) (by simp only [fo]; rw [if_pos (by omega), if_pos (by omega)]) (fun j hj hne => by simp only [fo, show (j < r + 32 + 1 ↔ j < r + 32) by omega, show (j + 32 < r + 32 + 1 ↔ j + 32 < r + 32) by omega])]
theorem V_snoc : ∀ (l : List Nat) (x : Nat), V (l ++ [x]) = V l + 256 ^ l.length * x
  | [], x => by simp [V]
  | a :: l, x => by
    rw [List.cons_append, V, V_snoc l x, V, List.length_cons, Nat.pow_succ, Nat.mul_add, Nat.add_assoc]
    congr 2
    rw [Nat.mul_comm (256 ^ l.length) 256, Nat.mul_assoc]
theorem V_range (f : Nat → Nat) (n : Nat) : V ((List.range (n + 1)).map f) = V ((List.range n).map f) + 256 ^ n * f n := by
  rw [List.range_succ, List.map_append, List.map_singleton, V_snoc]
  simp
theorem V_digits (N : Nat) : ∀ n, V ((List.range n).map fun k => N / 256 ^ k % 256) = N % 256 ^ n
  | 0 => by simp [V, Nat.mod_one]
  | n + 1 => by rw [V_range, V_digits N n, Nat.pow_succ, Nat.mod_mul]
theorem V_lin (f g : Nat → Nat) (a : Nat) : ∀ n, V ((List.range n).map fun k => f k + a * g k) = V ((List.range n).map f) + a * V ((List.range n).map g)
  | 0 => by simp [V]
  | n + 1 => by
    rw [V_range, V_range, V_range, V_lin f g a n, Nat.mul_add, Nat.mul_add]
    have : 256 ^ n * (a * g n) = a * (256 ^ n * g n) := by rw [← Nat.mul_assoc, ← Nat.mul_assoc, Nat.mul_comm (256 ^ n) a]
    rw [this]
    omega
theorem V_foL (N m : Nat) (h32 : 32 ≤ m) (hm : m ≤ 64) (hlt : N < 256 ^ m) : V (foL N m) = N % 256 ^ 32 + 38 * (N / 256 ^ 32) := by
  have e : foL N m = (List.range 32).map fun k => N / 256 ^ k % 256 + 38 * ((N / 256 ^ 32) / 256 ^ k % 256) := by
    unfold foL
    refine List.map_congr_left fun k hk => ?_
    have hk := List.mem_range.1 hk
    have hp : N / 256 ^ 32 / 256 ^ k = N / 256 ^ (k + 32) := by rw [Nat.div_div_eq_div_mul, ← Nat.pow_add, Nat.add_comm]
    unfold fo
    rw [if_pos (by omega), hp]
    congr 1
    by_cases h : k + 32 < m
    · rw [if_pos h]
    · rw [if_neg h, Nat.div_eq_of_lt (Nat.lt_of_lt_of_le hlt (Nat.pow_le_pow_right (by omega) (by omega)))]
  rw [e, V_lin (fun k => N / 256 ^ k % 256) (fun k => N / 256 ^ 32 / 256 ^ k % 256), V_digits, V_digits]
  congr 2
  refine Nat.mod_eq_of_lt ?_
  refine Nat.div_lt_of_lt_mul (Nat.lt_of_lt_of_le hlt ?_)
  rw [← Nat.pow_add]
  exact Nat.pow_le_pow_right (by omega) (by omega)
theorem X_val : 256 ^ 32 = 2 * p25 + 38 := by decide +kernel
theorem fold_lt (N : Nat) (h : 256 ^ 32 ≤ N) : N % 256 ^ 32 + 38 * (N / 256 ^ 32) < N := by
  have hd := Nat.div_add_mod N (256 ^ 32)
  have hq : 0 < N / 256 ^ 32 := Nat.div_pos h (pow_ne 32)
  have hX := X_val
  have hp : 1 ≤ p25 := by decide +kernel
  generalize N / 256 ^ 32 = q at *
  generalize N % 256 ^ 32 = r at *
  generalize 256 ^ 32 = X at *
  have h39 : 39 * q ≤ X * q := Nat.mul_le_mul_right q (by omega)
  omega
theorem fold_same (N : Nat) : (N % 256 ^ 32 + 38 * (N / 256 ^ 32)) % p25 = N % p25 := by
  have hd := Nat.div_add_mod N (256 ^ 32)
  have e : N = N % 256 ^ 32 + 38 * (N / 256 ^ 32) + p25 * (2 * (N / 256 ^ 32)) := by
    have hX := X_val
    generalize N / 256 ^ 32 = q at *
    generalize N % 256 ^ 32 = r at *
    rw [hX] at hd
    rw [← hd, Nat.add_mul, Nat.mul_comm 2 p25, Nat.mul_assoc]
    omega
  conv => rhs; rw [e, Nat.add_mul_mod_self_left]
theorem foL_zero (N : Nat) : ints (foL N 0) = List.replicate 32 0 := by
  refine List.eq_replicate_iff.2 ⟨by simp [ints, foL], fun x hx => ?_⟩
  simp only [ints, foL, List.map_map, List.mem_map] at hx
  obtain ⟨k, _, rfl⟩ := hx
  simp [fo]
theorem foL_bound (N m : Nat) : ∀ x ∈ foL N m, x < 1099511627776 := by
  intro x hx
  obtain ⟨k, _, rfl⟩ := List.mem_map.1 hx
  have h1 : N / 256 ^ k % 256 < 256 := Nat.mod_lt _ (by omega)
  have h2 : N / 256 ^ (k + 32) % 256 < 256 := Nat.mod_lt _ (by omega)
  unfold fo
  split <;> split <;> omega
theorem digs_take (N m : Nat) (h : 32 ≤ m) : (digs N m).take 32 = digs N 32 := by
  unfold digs
  rw [← List.map_take, List.take_range, Nat.min_eq_left h]
theorem fold_while : ∀ (b N : Nat), N < b → ∀ m, 32 ≤ m → m ≤ 64 → N < 256 ^ m → ∃ r, r < 256 ^ 32 ∧ r % p25 = N % p25 ∧ Ev (fun k => signetringref01_fold.l0 k (digs N m)) (digs r 32)
  | 0, N, h, _, _, _, _ => absurd h (by omega)
  | b + 1, N, hb, m, h32, hm, hlt => by
    have hh := high_any N m h32 hm hlt
    by_cases hX : 256 ^ 32 ≤ N
    · rw [decide_eq_true hX] at hh
      have hv := V_foL N m h32 hm hlt
      have h1 := fold_lt N hX
      have h2 : N < 256 ^ 64 := Nat.lt_of_lt_of_le hlt (Nat.pow_le_pow_right (by omega) hm)
      obtain ⟨m', g1, g2, g3, g4⟩ := carry_any (foL N m) (by rw [foL_len]; omega) (foL_bound N m) (by rw [hv]; exact Nat.lt_trans h1 h2)
      rw [hv] at g3 g4
      obtain ⟨r, r1, r2, r3⟩ := fold_while b _ (by omega) m' g1 g2 g3
      refine ⟨r, r1, by rw [r2, fold_same], Ev.step (Ev.bind hh (s := digs r 32) ?_) fun k => by rw [signetringref01_fold.l0]⟩
      have := fold_go N m h32 hm _ (Ev.bind g4 r3) m 0 (by omega)
      rw [foL_zero] at this
      exact this
    · rw [decide_eq_false hX] at hh
      refine ⟨N, Nat.lt_of_not_le hX, rfl, Ev.step (Ev.bind hh (s := digs N 32) ⟨0, fun k _ => ?_⟩) fun k => by rw [signetringref01_fold.l0]⟩
      show (if false = true then _ else _) = _
      rw [if_neg Bool.false_ne_true, digs_len, if_pos (by omega)]
      exact congrArg some (digs_take N m h32)
theorem fold_any (l : List Nat) (hl : l.length ≤ 64) (hb : ∀ x ∈ l, x < 1099511627776) (hV : V l < 256 ^ 64) :
    ∃ r, r < 256 ^ 32 ∧ r % p25 = V l % p25 ∧ Ev (fun k => signetringref01_fold.f k (ints l)) (digs r 32) := by
  obtain ⟨m, h1, h2, h3, h4⟩ := carry_any l hl hb hV
  obtain ⟨r, r1, r2, r3⟩ := fold_while (V l + 1) (V l) (by omega) m h1 h2 h3
  exact ⟨r, r1, r2, Ev.bind h4 r3⟩

theorem prime_any : Ev (fun k => signetringref01_prime.f k) (digs p25 32) := by
  refine ⟨40, fun k hk => ?_⟩
  obtain ⟨j, rfl⟩ : ∃ j, k = 40 + j := ⟨k - 40, by omega⟩
  have h : ∀ j, signetringref01_prime.f (40 + j) = some (digs p25 32) := fun j => by
    induction j with
    | zero => decide +kernel
    | succ j ih => exact signetringref01_prime.mono _ _ ih
  exact h j
theorem below_go (N : Nat) : ∀ t : Nat, t ≤ 32 → Ev (fun k => signetringref01_below.l0 k (digs N 32) (digs p25 32) ((t : Int) - 1)) (decide (N % 256 ^ t < p25 % 256 ^ t))
  | 0, _ => Ev.now fun k => by rw [signetringref01_below.l0, if_neg (by omega)]; simp [Nat.mod_one]
  | t + 1, h => by
    have ih := below_go N t (by omega)
    have e : (((t + 1 : Nat) : Int) - 1) = (t : Int) := by omega
    rw [e]
    have hN : N % 256 ^ (t + 1) = N % 256 ^ t + 256 ^ t * (N / 256 ^ t % 256) := by rw [Nat.pow_succ, Nat.mod_mul]
    have hp : p25 % 256 ^ (t + 1) = p25 % 256 ^ t + 256 ^ t * (p25 / 256 ^ t % 256) := by rw [Nat.pow_succ, Nat.mod_mul]
    have h1 := Nat.mod_lt N (pow_ne t)
    have h2 := Nat.mod_lt p25 (pow_ne t)
    by_cases he : N / 256 ^ t % 256 = p25 / 256 ^ t % 256
    · rw [show decide (N % 256 ^ (t + 1) < p25 % 256 ^ (t + 1)) = decide (N % 256 ^ t < p25 % 256 ^ t) from decide_eq_decide.2 (by rw [hN, hp, he]; omega)]
      exact Ev.step ih fun k => by rw [signetringref01_below.l0, if_pos (by omega), if_pos (by omega), digs_len, if_pos (by omega), digs_len, if_pos (by omega), rd_digs _ _ _ (by omega), rd_digs _ _ _ (by omega), he, if_pos rfl, wrap64_fit (by omega) (by omega)]
    · rw [show decide (N % 256 ^ (t + 1) < p25 % 256 ^ (t + 1)) = decide (N / 256 ^ t % 256 < p25 / 256 ^ t % 256) from decide_eq_decide.2 (by
        rw [hN, hp]
        generalize N / 256 ^ t % 256 = a at *
        generalize p25 / 256 ^ t % 256 = b at *
        generalize N % 256 ^ t = x at *
        generalize p25 % 256 ^ t = y at *
        generalize 256 ^ t = X at *
        constructor
        · intro hlt
          by_cases hab : a < b
          · exact hab
          · have : X * (b + 1) ≤ X * a := Nat.mul_le_mul_left X (by omega)
            rw [Nat.mul_add, Nat.mul_one] at this
            omega
        · intro hab
          have : X * (a + 1) ≤ X * b := Nat.mul_le_mul_left X (by omega)
          rw [Nat.mul_add, Nat.mul_one] at this
          omega)]
      exact Ev.now fun k => by
        rw [signetringref01_below.l0, if_pos (by omega), if_pos (by omega), digs_len, if_pos (by omega), digs_len, if_pos (by omega), rd_digs _ _ _ (by omega), rd_digs _ _ _ (by omega), if_neg (fun h => he (by omega))]
        congr 1
        exact decide_eq_decide.2 (by omega)
theorem refBelow_any (N : Nat) (h : N < 256 ^ 32) : Ev (fun k => signetringref01_below.f k (digs N 32)) (decide (N < p25)) := by
  have := below_go N 32 (Nat.le_refl _)
  rw [Nat.mod_eq_of_lt h, Nat.mod_eq_of_lt (show p25 < 256 ^ 32 by decide +kernel)] at this
  exact Ev.bind prime_any this
end Go.Proofs.YtkmgdpbmkbpkjaaDoor
set_option linter.unusedVariables false
set_option linter.unusedSimpArgs false
namespace Go.Proofs.YtkmgdpbmkbpkjaaDoor
open Go.RowKit Go.Proofs.YtkmgdpbmkbpkjaaDoorW.PrintWords Go.Proofs.YtkmgdpbmkbpkjaaDoorW.PrintLast Go.Proofs.YtkmgdpbmkbpkjaaDoorW.PrintMore Go.Proofs.YtkmgdpbmkbpkjaaDoor.PLadderTells

theorem div_rest {X a r : Nat} (h : r < X) : (X * a + r) / X = a := by rw [Nat.mul_add_div (by omega), Nat.div_eq_of_lt h, Nat.add_zero]
/-- The borrow before the i-th digit. -/
def bor (N i : Nat) : Nat := if N % 256 ^ i < p25 % 256 ^ i then 1 else 0
theorem bor_step (N i : Nat) (h : p25 ≤ N) :
    (bor N (i + 1) = if N / 256 ^ i % 256 < p25 / 256 ^ i % 256 + bor N i then 1 else 0) ∧
    (N - p25) / 256 ^ i % 256 = (if N / 256 ^ i % 256 < p25 / 256 ^ i % 256 + bor N i then N / 256 ^ i % 256 + 256 else N / 256 ^ i % 256) - (p25 / 256 ^ i % 256 + bor N i) := by
  have hN : N % 256 ^ (i + 1) = N % 256 ^ i + 256 ^ i * (N / 256 ^ i % 256) := by rw [Nat.pow_succ, Nat.mod_mul]
  have hp : p25 % 256 ^ (i + 1) = p25 % 256 ^ i + 256 ^ i * (p25 / 256 ^ i % 256) := by rw [Nat.pow_succ, Nat.mod_mul]
  have a1 := Nat.div_add_mod N (256 ^ i)
  have a2 := Nat.div_add_mod p25 (256 ^ i)
  have h1 := Nat.mod_lt N (pow_ne i)
  have h2 := Nat.mod_lt p25 (pow_ne i)
  unfold bor
  rw [hN, hp]
  generalize N / 256 ^ i = u at *
  generalize p25 / 256 ^ i = v at *
  generalize N % 256 ^ i = x at *
  generalize p25 % 256 ^ i = y at *
  generalize 256 ^ i = X at *
  generalize p25 = p at *
  have hu : ∀ a b : Nat, a < b → X * (a + 1) ≤ X * b := fun a b h => Nat.mul_le_mul_left X h
  constructor
  · have c1 : (x + X * (u % 256) < y + X * (v % 256)) ↔ (u % 256 < v % 256 + if x < y then 1 else 0) := by
      rcases Nat.lt_trichotomy (u % 256) (v % 256) with g | g | g
      · have := hu _ _ g
        rw [Nat.mul_add, Nat.mul_one] at this
        split <;> omega
      · rw [g]; split <;> omega
      · have := hu _ _ g
        rw [Nat.mul_add, Nat.mul_one] at this
        split <;> omega
    simp only [c1]
  · by_cases hxy : x < y
    · have hvu : v < u := by
        rcases Nat.lt_or_ge v u with g | g
        · exact g
        · have := Nat.mul_le_mul_left X g; omega
      have e : N - p = X * (u - v - 1) + (X + x - y) := by
        have : X * (u - v - 1) = X * u - X * v - X := by rw [Nat.mul_sub, Nat.mul_sub, Nat.mul_one]
        have := hu _ _ hvu
        rw [Nat.mul_add, Nat.mul_one] at this
        omega
      rw [e, div_rest (by omega), if_pos hxy]
      split <;> omega
    · have hvu : v ≤ u := by
        rcases Nat.lt_or_ge u v with g | g
        · have := hu _ _ g
          rw [Nat.mul_add, Nat.mul_one] at this
          omega
        · exact g
      have e : N - p = X * (u - v) + (x - y) := by
        have : X * (u - v) = X * u - X * v := by rw [Nat.mul_sub]
        have := Nat.mul_le_mul_left X hvu
        omega
      rw [e, div_rest (by omega), if_neg hxy]
      split <;> omega
/-- The digits that have been taken. -/
def tkL (N i : Nat) : List Int := (List.range 32).map fun k => if k < i then (((N - p25) / 256 ^ k % 256 : Nat) : Int) else 0
theorem tkL_len (N i : Nat) : (tkL N i).length = 32 := by simp [tkL]
theorem tkL_zero (N : Nat) : tkL N 0 = List.replicate 32 0 := by
  refine List.eq_replicate_iff.2 ⟨by simp [tkL], fun x hx => ?_⟩
  obtain ⟨k, _, rfl⟩ := List.mem_map.1 hx
  simp
theorem tkL_all (N : Nat) : tkL N 32 = digs (N - p25) 32 := by
  unfold tkL digs
  exact List.map_congr_left fun k hk => by rw [if_pos (List.mem_range.1 hk)]
theorem tkL_set (N i : Nat) (hi : i < 32) : (tkL N i).set i (((N - p25) / 256 ^ i % 256 : Nat) : Int) = tkL N (i + 1) := by
  refine List.ext_getElem? fun j => ?_
  rw [List.getElem?_set]
  simp only [tkL, List.getElem?_map, List.length_map, List.length_range]
  by_cases hj : j < 32
  · by_cases e : i = j
    · subst e; simp [hj]
    · simp [e, hj, show (j < i + 1 ↔ j < i) by omega]
  · have : i ≠ j := by omega
    simp [this, hj]
/-- Writing one number of a block. -/
theorem IB.put {w : World} {g : Nat} {xs : List Int} (h : IB w g xs) (i : Nat) (x : Int) (hi : i < xs.length) : IB (w.setCell ⟨g, i, none⟩ (.int .i64 x)) g (xs.set i x) := by
  obtain ⟨cur, q, hc⟩ := h
  refine ⟨_, q.put i _, fun j y hj => ?_⟩
  have hic : i < cur.size := by
    have := hc i _ (List.getElem?_eq_getElem hi)
    exact (Array.getElem?_eq_some_iff.1 this).1
  rw [List.getElem?_set] at hj
  by_cases e : i = j
  · subst e
    simp [hi] at hj
    subst hj
    simp [Array.getElem?_setIfInBounds, hic]
  · rw [if_neg e] at hj
    rw [Array.getElem?_setIfInBounds, if_neg e]
    exact hc j y hj
theorem IB.off {w : World} {g g' : Nat} {xs : List Int} (h : IB w g xs) (hne : g ≠ g') (i : Nat) (v : Value) : IB (w.setCell ⟨g', i, none⟩ v) g xs := by
  obtain ⟨cur, q, hc⟩ := h
  exact ⟨cur, Bk.off q hne i v, hc⟩
theorem IB.under {w w' : World} {g : Nat} {xs : List Int} (h : IB w g xs) (hb : Below w.heap.size w w') : IB w' g xs := by
  obtain ⟨cur, q, hc⟩ := h
  exact ⟨cur, q.under hb, hc⟩
theorem IB.alloc {w : World} {g : Nat} {xs : List Int} (h : IB w g xs) (o : Obj) : IB (w.alloc o) g xs := by
  obtain ⟨cur, q, hc⟩ := h
  exact ⟨cur, q.alloc o, hc⟩
theorem IB.drew {w : World} {g : Nat} {xs : List Int} (h : IB w g xs) : IB w.drew g xs := h
theorem IB.lt {w : World} {g : Nat} {xs : List Int} (h : IB w g xs) : g < w.heap.size := by
  obtain ⟨cur, q, hc⟩ := h
  exact q.lt

theorem run_make32 (w : World) : (Instr.makeSlice 81 (.int .i64 32) (.int .i64 32)).run Tryd.prog w = .ok (.slice (some ⟨w.heap.size, 0, none⟩) 32 32) (w.alloc (.cells (Array.replicate 32 (.int .i64 0)) 3)) := by kernel_rfl

set_option maxRecDepth 100000 in
set_option maxHeartbeats 4000000 in
theorem num_any (A : Option Addr) (c : Nat) (l : List Nat) (w : World) (hC : Kd.C (Kd.int .i64) w A (ints l).length (ints l)) (hc : (ints l).length ≤ c) (hl : l.length ≤ 64) (hb : ∀ x ∈ l, x < 1099511627776) (hV : V l < 256 ^ 64) :
    Ret Tryd.prog 48 #[.slice A (ints l).length c] w (.agg (c8 (V l % p25))) := by
  unfold Ret
  obtain ⟨r, r1, r2, kf, hkf⟩ := fold_any l hl hb hV
  obtain ⟨kp, hkp⟩ := prime_any
  rw [← r2]
  generalize ints l = xs at hC hc hkf ⊢
  clear hl hb hV r2 l
  generalize hM : r % p25 = M
  go_enter Tryd.func48, Tryd.ntmps48
  have hC' := Kd.C_below hC (bl_alloc (Below.refl w.heap.size w) (.cells (c8 0) 22))
  go_wp2_with fail
  refine (signetringref01_fold.calls kf A c xs _ _ hC' hc (hkf kf (Nat.le_refl _))).mono ?_
  rintro e w1 ⟨v, rfl, hR, hb⟩
  have hsz : (w.alloc (.cells (c8 0) 22)).heap.size = w.heap.size + 1 := by unfold World.alloc; exact Array.size_push ..
  obtain ⟨gd, cd, rfl, hgd, hcd, hD⟩ := IR.open hR (by rw [digs_len]; omega)
  have q := (Bk.new w 22 (c8 0)).under hb
  have B := bl_call (bl_alloc (Below.refl w.heap.size w) (.cells (c8 0) 22)) hb
  rw [hsz] at hgd
  rw [digs_len] at hcd ⊢
  clear hR hb hC hC' hc hkf hsz
  go_wp2_with fail
  refine (signetringref01_prime.calls kp _ _ (hkp kp (Nat.le_refl _))).mono ?_
  rintro e w2 ⟨v, rfl, hR, hb⟩
  obtain ⟨gp, cp, rfl, hgp, hcp, hP⟩ := IR.open hR (by rw [digs_len]; omega)
  have q1 := q.under hb
  have B1 := bl_call B hb
  have hD1 := hD.under hb
  have hs2 := B.size
  rw [digs_len] at hcp ⊢
  have hdp : w.heap.size + 1 ≤ gp := by have := hD.lt; omega
  have hdp2 : gd ≠ gp := by have := hD.lt; omega
  clear hR hb hkp q B hD hgp hs2
  go_wp2_with fail
  go_loopg [3] r (fun N v wr => ∃ (gd cd : Nat), v = .slice (some ⟨gd, 0, none⟩) 32 cd ∧ N < 256 ^ 32 ∧ N % p25 = M ∧ w.heap.size + 1 ≤ gd ∧ 32 ≤ cd ∧ Hid (IB wr gd (digs N 32)) ∧ Hid (IB wr gp (digs p25 32)) ∧ Hid (Bk wr w.heap.size 22 (c8 0)) ∧ Hid (Below w.heap.size w wr))
  case atStart => exact ⟨gd, cd, rfl, r1, hM, hgd, hcd, Lib.hid hD1, Lib.hid hP, Lib.hid q1, Lib.hid B1⟩
  case round =>
    clear q1 B1 hD1 hP hcd hgd hdp2
    obtain ⟨gd, cd, rfl, hN, hNr, hgd, hcd, hD, hP, q, B⟩ := hrel
    have hC : Kd.C (Kd.int .i64) wr (some ⟨gd, 0, none⟩) (digs gk 32).length (digs gk 32) := hD.out.reads (by rw [digs_len]; omega)
    obtain ⟨kb, hkb⟩ := refBelow_any gk hN
    have hcall := signetringref01_below.calls kb (some ⟨gd, 0, none⟩) cd (digs gk 32) _ wr hC (by rw [digs_len]; exact hcd) (hkb kb (Nat.le_refl _))
    rw [digs_len] at hcall
    clear hC hkb
    by_cases hlt : gk < p25
    · rw [decide_eq_true hlt] at hcall
      rw [Nat.mod_eq_of_lt hlt] at hNr
      subst hNr
      go_wp2_with fail
      refine hcall.mono ?_
      rintro e w3 ⟨rfl, hb⟩
      have hD3 := hD.out.under hb
      have q3 := q.out.under hb
      have B3 := bl_call B.out hb
      clear hb hcall hD hP q B
      clear hM
      have hs3 := B3.size
      have hg3 := hD3.lt
      rw [show c8 0 = c8p 0 0 by kernel_rfl] at q3
      go_wp2_with fail
      rw [← c8p_zero gk]
      clear hcd
      go_loopw [10] (fun iv wr => ∃ i : Nat, i ≤ 32 ∧ iv = .int .i64 i ∧ Bk wr w3.heap.size 22 (c8p gk i) ∧ Hid (Bk wr w.heap.size 22 (c8p 0 0)) ∧ Hid (IB wr gd (digs gk 32)) ∧ Hid (Below w.heap.size w wr)) (fun iv _ => 32 - (intOf iv).toNat)
      case atStart => exact ⟨0, by omega, rfl, Bk.new _ _ _, Lib.hid (q3.alloc _), Lib.hid (hD3.alloc _), Lib.hid (bl_alloc B3 _)⟩
      case round =>
        clear q3 B3 hD3
        obtain ⟨i, hi, rfl, q, q0, hD, L⟩ := hrel
        by_cases hi2 : i < 32
        · have c := (q.cell i).trans (get_c8p gk i i hi2)
          have fz : ∀ j, wr.frozen? ⟨w3.heap.size, j, none⟩ = false := q.frozen
          have cd0 := hD.out.cell (digs_at gk 32 i hi2)
          obtain ⟨d, hd⟩ : ∃ d, d = gk / 256 ^ i % 256 := ⟨_, rfl⟩
          have hd2 : d < 256 := by rw [hd]; exact Nat.mod_lt _ (by omega)
          rw [← hd] at cd0
          have p := q.put i (.int .u8 ((gk / 256 ^ i % 256 : Nat) : Int))
          rw [put_c8p gk i hi2, ← hd] at p
          have P := Lib.hid p
          clear p hd
          have hwr : IntKind.u8.wrap (d : Int) = (d : Int) := by simp [IntKind.wrap, IntKind.signed, IntKind.bits]; omega
          go_wp2_with fail
          go_roundw
          case rel => exact ⟨i + 1, by omega, by go_num, P.out, Lib.hid (q0.out.off (by omega) _ _), Lib.hid (hD.out.off (by omega) _ _), Lib.hid (bl_put L.out (by omega) _)⟩
          case measure => simp [intOf]; omega
        · obtain rfl : i = 32 := by omega
          rw [c8p_all] at q
          have hth : wr.there w.heap.size 0 (c8 gk).size := by rw [size_c8, ← size_c8p 0 0]; exact q0.out.there
          go_wp2_with (first | (refine wpList_load_row rfl 22 (.tmp 9) rfl w3.heap.size rfl 22 (c8 gk) (0, 0) _ q Tryd.underlying22 rfl (inum_c8 _) ?_) | (refine wpList_store_mid rfl 22 (.tmp 2) (.tmp 53) rfl w.heap.size 0 (c8 gk) rfl rfl hth (inum_c8 _) (one_c8 _) ?_))
          refine bodyPost_ret (results_cell_row rfl _ _ w.heap.size 22 (c8 gk) (0, 0) _ rfl (q0.out.all (by rw [size_c8, size_c8p])) Tryd.underlying22 rfl (inum_c8 _)) rfl ?_
          exact ⟨rfl, bl_cells (Nat.le_refl _) _ _ _ L.out⟩
    · rw [decide_eq_false hlt] at hcall
      go_wp2_with fail
      refine hcall.mono ?_
      rintro e w3 ⟨rfl, hb⟩
      have hD3 := hD.out.under hb
      have hP3 := hP.out.under hb
      have q3 := q.out.under hb
      have B3 := bl_call B.out hb
      clear hb hcall hD hP q B
      have hmk := run_make32 w3
      have hs3 := B3.size
      have hg3 := hD3.lt
      have hg4 := hP3.lt
      go_wp2_with fail
      clear hmk
      go_loopw [5, 7] (fun bv iv wr => ∃ i : Nat, i ≤ 32 ∧ iv = .int .i64 i ∧ bv = .int .i64 (bor gk i : Nat) ∧ Hid (IB wr w3.heap.size (tkL gk i)) ∧ Hid (Bk wr w.heap.size 22 (c8 0)) ∧ Hid (IB wr gd (digs gk 32)) ∧ Hid (IB wr gp (digs p25 32)) ∧ Hid (Below w.heap.size w wr)) (fun _ iv _ => 32 - (intOf iv).toNat)
      case atStart =>
        refine ⟨0, by omega, rfl, by simp [bor, Nat.mod_one], Lib.hid ?_, Lib.hid (q3.alloc _), Lib.hid (hD3.alloc _), Lib.hid (hP3.alloc _), Lib.hid (bl_alloc B3 _)⟩
        refine ⟨_, Bk.new _ _ _, fun i x hx => ?_⟩
        rw [tkL_zero] at hx
        have hi : i < 32 := by have := (List.getElem?_eq_some_iff.1 hx).1; simpa using this
        rw [List.getElem?_replicate, if_pos hi] at hx
        obtain rfl := Option.some.inj hx
        rw [Array.getElem?_replicate, if_pos hi]
      case round =>
        clear q3 B3 hD3 hP3
        obtain ⟨i, hi, rfl, rfl, hT, q, hD, hP, L⟩ := hrel
        by_cases hi2 : i < 32
        · have hi2' : (i < 32) = True := eq_true hi2
          have ct := hT.out.cell (i := i) (x := _) (List.getElem?_eq_getElem (by rw [tkL_len]; exact hi2))
          have fz : ∀ j, wr.frozen? ⟨w3.heap.size, j, none⟩ = false := hT.out.choose_spec.1.frozen
          have c1 := hD.out.cell (digs_at gk 32 i hi2)
          have c2 := hP.out.cell (digs_at p25 32 i hi2)
          obtain ⟨s1, s2⟩ := bor_step gk i (Nat.le_of_not_lt hlt)
          have hbb : bor gk i ≤ 1 := by unfold bor; split <;> omega
          have hset := hT.out.put i (((gk - p25) / 256 ^ i % 256 : Nat) : Int) (by rw [tkL_len]; exact hi2)
          rw [tkL_set gk i hi2] at hset
          generalize (tkL gk i)[i]'_ = old at ct
          have hd1 : gk / 256 ^ i % 256 < 256 := Nat.mod_lt _ (by omega)
          have hd2 : p25 / 256 ^ i % 256 < 256 := Nat.mod_lt _ (by omega)
          generalize gk / 256 ^ i % 256 = d at s1 s2 c1 hd1
          generalize p25 / 256 ^ i % 256 = e at s1 s2 c2 hd2
          generalize bor gk i = b at s1 s2 hbb
          generalize (gk - p25) / 256 ^ i % 256 = o at s2 hset
          by_cases hneg : d < e + b
          · rw [if_pos hneg] at s1 s2
            have hlz : ((d : Int) - (e : Int) - (b : Int) < 0) = True := eq_true (by omega)
            have hst : wrap64 ((d : Int) - (e : Int) - (b : Int) + 256) = (o : Int) := by rw [wrap64_fit (by omega) (by omega)]; omega
            have HST := Lib.hid hst
            have hw1 : IntKind.i64.wrap ((d : Int) - (e : Int)) = (d : Int) - (e : Int) := by rw [IntWalk.i64_left]; exact wrap64_fit (by omega) (by omega)
            have hw2 : IntKind.i64.wrap ((d : Int) - (e : Int) - (b : Int)) = (d : Int) - (e : Int) - (b : Int) := by rw [IntWalk.i64_left]; exact wrap64_fit (by omega) (by omega)
            have HW1 := Lib.hid hw1
            have HW2 := Lib.hid hw2
            clear hi hd1 hd2 hbb s2 hst hw1 hw2 hneg
            go_wp2_with fail
            refine drawn_region 11 (by kernel_rfl) (by kernel_rfl) ?_
            simp only [List.take_succ_cons, List.take_zero, List.drop_succ_cons, List.drop_zero]
            iterate 8 (refine wpStill_step (fun K hK => ?_); go_simp; refine hK _ ?_; clear hK K)
            refine sl_pure (.int .i64 ((d : Int) - (e : Int))) rfl ?_ ?_
            case refine_1 => go_simp; exact HW1.out
            (try simp only [Act.put, List.setIfInBounds_toArray, List.set_cons_zero, List.set_cons_succ])
            refine wpStill_step (fun K hK => ?_); go_simp; refine hK _ ?_; clear hK K
            refine sl_pure (.int .i64 ((d : Int) - (e : Int) - (b : Int))) rfl ?_ ?_
            case refine_1 => go_simp; exact HW2.out
            (try simp only [Act.put, List.setIfInBounds_toArray, List.set_cons_zero, List.set_cons_succ])
            refine wpStill_nil ?_
            go_wp2_with fail
            go_roundw
            case rel =>
              rw [HST.out]
              exact ⟨i + 1, by omega, by go_num, by rw [s1]; rfl, Lib.hid hset, Lib.hid (q.out.off (by omega) _ _), Lib.hid (hD.out.off (by omega) _ _), Lib.hid (hP.out.off (by omega) _ _), Lib.hid (bl_put L.out (by omega) _).drew⟩
            case measure => simp [intOf]; omega
          · rw [if_neg hneg] at s1 s2
            have hlz : ((d : Int) - (e : Int) - (b : Int) < 0) = False := eq_false (by omega)
            have hst : ((d : Int) - (e : Int) - (b : Int)) = (o : Int) := by omega
            have HST := Lib.hid hst
            have hw1 : IntKind.i64.wrap ((d : Int) - (e : Int)) = (d : Int) - (e : Int) := by rw [IntWalk.i64_left]; exact wrap64_fit (by omega) (by omega)
            have hw2 : IntKind.i64.wrap ((d : Int) - (e : Int) - (b : Int)) = (d : Int) - (e : Int) - (b : Int) := by rw [IntWalk.i64_left]; exact wrap64_fit (by omega) (by omega)
            have HW1 := Lib.hid hw1
            have HW2 := Lib.hid hw2
            clear hi hd1 hd2 hbb s2 hst hw1 hw2 hneg
            go_wp2_with fail
            refine drawn_region 11 (by kernel_rfl) (by kernel_rfl) ?_
            simp only [List.take_succ_cons, List.take_zero, List.drop_succ_cons, List.drop_zero]
            iterate 8 (refine wpStill_step (fun K hK => ?_); go_simp; refine hK _ ?_; clear hK K)
            refine sl_pure (.int .i64 ((d : Int) - (e : Int))) rfl ?_ ?_
            case refine_1 => go_simp; exact HW1.out
            (try simp only [Act.put, List.setIfInBounds_toArray, List.set_cons_zero, List.set_cons_succ])
            refine wpStill_step (fun K hK => ?_); go_simp; refine hK _ ?_; clear hK K
            refine sl_pure (.int .i64 ((d : Int) - (e : Int) - (b : Int))) rfl ?_ ?_
            case refine_1 => go_simp; exact HW2.out
            (try simp only [Act.put, List.setIfInBounds_toArray, List.set_cons_zero, List.set_cons_succ])
            refine wpStill_nil ?_
            go_wp2_with fail
            go_roundw
            case rel =>
              rw [HST.out]
              exact ⟨i + 1, by omega, by go_num, by rw [s1]; rfl, Lib.hid hset, Lib.hid (q.out.off (by omega) _ _), Lib.hid (hD.out.off (by omega) _ _), Lib.hid (hP.out.off (by omega) _ _), Lib.hid (bl_put L.out (by omega) _).drew⟩
            case measure => simp [intOf]; omega
        · obtain rfl : i = 32 := by omega
          rw [tkL_all] at hT
          go_wp2_with fail
          go_roundg (gk - p25)
          case measure => have : 0 < p25 := by decide +kernel
                          omega
          case rel =>
            refine ⟨w3.heap.size, 32, rfl, by omega, ?_, by omega, by omega, hT, hP, q, L⟩
            rw [← hNr]
            conv => rhs; rw [show gk = gk - p25 + p25 * 1 by omega, Nat.add_mul_mod_self_left]
end Go.Proofs.YtkmgdpbmkbpkjaaDoor
set_option linter.unusedVariables false
set_option linter.unusedSimpArgs false
namespace Go.Proofs.YtkmgdpbmkbpkjaaDoor
open Go.RowKit Go.Proofs.YtkmgdpbmkbpkjaaDoorW.PrintWords Go.Proofs.YtkmgdpbmkbpkjaaDoorW.PrintLast Go.Proofs.YtkmgdpbmkbpkjaaDoorW.PrintMore Go.Proofs.YtkmgdpbmkbpkjaaDoor.PLadderTells

/-- The digits of a number, as numbers. -/
def dg (n k : Nat) : Nat := n / 256 ^ k % 256
theorem dg_lt (n k : Nat) : dg n k < 256 := Nat.mod_lt _ (by omega)
def dgL (n m : Nat) : List Nat := (List.range m).map (dg n)
theorem dgL_ints (n m : Nat) : digs n m = ints (dgL n m) := by simp [digs, ints, dgL, dg]
theorem V_dgL {n : Nat} (h : N256 n) : V (dgL n 32) = n := by
  have := V_digits n 32
  rw [Nat.mod_eq_of_lt (show n < 256 ^ 32 by unfold N256 at h; exact Nat.lt_of_lt_of_eq h (by decide +kernel))] at this
  exact this
theorem N256.pow {n : Nat} (h : N256 n) : n < 256 ^ 32 := by unfold N256 at h; exact Nat.lt_of_lt_of_eq h (by decide +kernel)
theorem range_at (f : Nat → Nat) (i : Nat) (h : i < 32) : (ints ((List.range 32).map f))[i]? = some (f i : Int) := by simp [ints, h]
theorem range_set (f g : Nat → Nat) (i : Nat) (h : i < 32) (hg : ∀ j, j < 32 → j ≠ i → g j = f j) : (ints ((List.range 32).map f)).set i (g i : Int) = ints ((List.range 32).map g) := by
  refine List.ext_getElem? fun j => ?_
  rw [List.getElem?_set]
  simp only [ints, List.map_map, List.getElem?_map, List.length_map, List.length_range]
  by_cases hj : j < 32
  · by_cases e : i = j
    · subst e; simp [hj]
    · simp [e, hj, hg j hj (fun h => e h.symm)]
  · have : i ≠ j := by omega
    simp [this, hj]

set_option maxRecDepth 100000 in
set_option maxHeartbeats 4000000 in
theorem refReduce_any (a : Nat) (ha : N256 a) (w : World) : Ret Tryd.prog 30 #[.agg (c8 a)] w (.agg (c8 (a % p25))) := by
  unfold Ret
  go_enter Tryd.func30, Tryd.ntmps30
  go_wp2_with (refine wpList_load_row rfl 22 (.tmp 1) rfl w.heap.size rfl 22 (c8 a) (0, 0) _ (bk_1 _ _ _ _) Tryd.underlying22 rfl (inum_c8 a) ?_)
  rw [← c8p_zero 0]
  refine (digits_any a _).mono ?_
  rintro e w1 ⟨v, rfl, hR, hb⟩
  obtain ⟨gd, cd, rfl, hgd, hcd, hD⟩ := IR.open hR (by rw [digs_len]; omega)
  have q := (bk_2 _ _ _ _).under hb
  have B := bl_call (bl_alloc (bl_alloc (Below.refl w.heap.size w) _) _) hb
  clear hR hb
  rw [dgL_ints] at hD hcd ⊢
  go_wp2_with fail
  refine Calls.mono (num_any (some ⟨gd, 0, none⟩) cd (dgL a 32) w1 (hD.reads (by simp [ints, dgL])) hcd (by simp [dgL]) (fun x hx => by obtain ⟨k, _, rfl⟩ := List.mem_map.1 hx; have := dg_lt a k; omega) (by rw [V_dgL ha]; exact Nat.lt_trans ha.pow (by decide +kernel))) ?_
  rw [V_dgL ha]
  rintro e w2 ⟨rfl, hb⟩
  have q2 := q.under hb
  have B2 := bl_call B hb
  clear q B hb
  have hth : w2.there (w.heap.size + 1) 0 (c8 (a % p25)).size := by rw [size_c8, ← size_c8p 0 0]; exact q2.there
  go_wp2_with (refine wpList_store_mid rfl 22 (.tmp 2) (.tmp 5) rfl (w.heap.size + 1) 0 (c8 (a % p25)) rfl rfl hth (inum_c8 _) (one_c8 _) ?_)
  refine bodyPost_ret (results_cell_row rfl _ _ (w.heap.size + 1) 22 (c8 (a % p25)) (0, 0) _ rfl (q2.all (by rw [size_c8, size_c8p])) Tryd.underlying22 rfl (inum_c8 _)) rfl ?_
  exact ⟨rfl, bl_cells (by omega) _ _ _ B2⟩

/-- Some of the sums taken. -/
def sumF (a b i k : Nat) : Nat := dg a k + (if k < i then dg b k else 0)
theorem sum_zero (a b : Nat) : (List.range 32).map (sumF a b 0) = dgL a 32 := List.map_congr_left fun k _ => by simp [sumF]
theorem sum_all {a b : Nat} (ha : N256 a) (hb : N256 b) : V ((List.range 32).map (sumF a b 32)) = a + b := by
  have e : (List.range 32).map (sumF a b 32) = (List.range 32).map fun k => dg a k + 1 * dg b k := List.map_congr_left fun k hk => by
    rw [sumF, if_pos (List.mem_range.1 hk), Nat.one_mul]
  rw [e, V_lin (dg a) (dg b)]
  have h1 := V_dgL ha
  have h2 := V_dgL hb
  unfold dgL at h1 h2
  rw [h1, h2, Nat.one_mul]
theorem three_boxes (w : World) (t : TypeId) (c d e : Array Value) : Bk (((w.alloc (.cells c t)).alloc (.cells d t)).alloc (.cells e t)) w.heap.size t c ∧ Bk (((w.alloc (.cells c t)).alloc (.cells d t)).alloc (.cells e t)) (w.heap.size + 1) t d ∧
    Bk (((w.alloc (.cells c t)).alloc (.cells d t)).alloc (.cells e t)) (w.heap.size + 2) t e ∧ Below w.heap.size w (((w.alloc (.cells c t)).alloc (.cells d t)).alloc (.cells e t)) :=
  ⟨((Bk.new _ _ _).alloc _).alloc _, (Bk.at_ _ _ _ _ (by simp)).alloc _, Bk.at_ _ _ _ _ (by simp), bl_alloc (bl_alloc (bl_alloc (Below.refl _ _) _) _) _⟩

set_option maxRecDepth 100000 in
set_option maxHeartbeats 4000000 in
theorem refAdd_any (a b : Nat) (ha : N256 a) (hb : N256 b) (w : World) : Ret Tryd.prog 50 #[.agg (c8 a), .agg (c8 b)] w (.agg (c8 ((a + b) % p25))) := by
  unfold Ret
  go_enter Tryd.func50, Tryd.ntmps50
  go_wp2_with (refine wpList_load_row rfl 22 (.tmp 2) rfl w.heap.size rfl 22 (c8 a) (0, 0) _ (three_boxes _ _ _ _ _).1 Tryd.underlying22 rfl (inum_c8 a) ?_)
  rw [← c8p_zero 0]
  obtain ⟨qa, qb, qr, B⟩ := three_boxes w 22 (c8 a) (c8 b) (c8p 0 0)
  refine (digits_any a _).mono ?_
  rintro e w1 ⟨v, rfl, hR, hb1⟩
  obtain ⟨gd, cd, rfl, hgd, hcd, hD⟩ := IR.open hR (by rw [digs_len]; omega)
  have hs0 : w.heap.size + 3 ≤ gd := by
    have := qr.lt
    have e : (((w.alloc (.cells (c8 a) 22)).alloc (.cells (c8 b) 22)).alloc (.cells (c8p 0 0) 22)).heap.size = w.heap.size + 3 := by simp
    omega
  have q1 := qb.under hb1
  have q2 := qr.under hb1
  have B1 := bl_call B hb1
  clear hR hb1 qa qb qr B hgd
  rw [digs_len] at hcd ⊢
  rw [dgL_ints, ← sum_zero a b] at hD
  go_wp2_with fail
  go_loopw [6] (fun iv wr => ∃ i : Nat, i ≤ 32 ∧ iv = .int .i64 i ∧ Hid (IB wr gd (ints ((List.range 32).map (sumF a b i)))) ∧ Hid (Bk wr (w.heap.size + 1) 22 (c8 b)) ∧ Hid (Bk wr (w.heap.size + 2) 22 (c8p 0 0)) ∧ Hid (Below w.heap.size w wr)) (fun iv _ => 32 - (intOf iv).toNat)
  case atStart => exact ⟨0, by omega, rfl, Lib.hid hD, Lib.hid q1, Lib.hid q2, Lib.hid B1⟩
  case round =>
    clear q1 q2 B1 hD
    obtain ⟨i, hi, rfl, hD, q1, q2, L⟩ := hrel
    by_cases hi2 : i < 32
    · have hi2' : (i < 32) = True := eq_true hi2
      have c1 := hD.out.cell (range_at _ i hi2)
      have fz : ∀ j, wr.frozen? ⟨gd, j, none⟩ = false := hD.out.choose_spec.1.frozen
      have c2 := (q1.out.cell i).trans (get_c8 b i hi2)
      have hset := hD.out.put i (sumF a b (i + 1) i : Nat) (by simp [ints]; omega)
      rw [range_set (sumF a b i) (sumF a b (i + 1)) i hi2 (fun j hj hne => by simp only [sumF, show (j < i + 1 ↔ j < i) by omega])] at hset
      have h1 : sumF a b i i = dg a i := by simp [sumF]
      have h2 : sumF a b (i + 1) i = dg a i + dg b i := by simp [sumF]
      have h3 := dg_lt a i
      have h4 := dg_lt b i
      rw [h1] at c1
      rw [h2] at hset
      change wr.cell? ⟨w.heap.size + 1, i, none⟩ = some (.int .u8 ((dg b i : Nat) : Int)) at c2
      clear h1 h2
      generalize dg a i = x at c1 hset h3
      generalize dg b i = y at c2 hset h4
      have hw1 : IntKind.i64.wrap (y : Int) = (y : Int) := by rw [IntWalk.i64_left]; exact wrap64_fit (by omega) (by omega)
      have hw2 : IntKind.i64.wrap ((x : Int) + (y : Int)) = ((x + y : Nat) : Int) := by rw [IntWalk.i64_left]; exact w_add (by omega)
      have HW1 := Lib.hid hw1
      have HW2 := Lib.hid hw2
      clear hi h3 h4 hw1 hw2
      go_wp2_with fail
      refine drawn_region 11 (by kernel_rfl) (by kernel_rfl) ?_
      simp only [List.take_succ_cons, List.take_zero, List.drop_succ_cons, List.drop_zero]
      iterate 9 (refine wpStill_step (fun K hK => ?_); go_simp; refine hK _ ?_; clear hK K)
      refine sl_pure (.int .i64 (y : Int)) rfl ?_ ?_
      case refine_1 => go_simp; exact HW1.out
      (try simp only [Act.put, List.setIfInBounds_toArray, List.set_cons_zero, List.set_cons_succ])
      refine sl_pure (.int .i64 ((x + y : Nat) : Int)) rfl ?_ ?_
      case refine_1 => go_simp; exact HW2.out
      (try simp only [Act.put, List.setIfInBounds_toArray, List.set_cons_zero, List.set_cons_succ])
      refine wpStill_nil ?_
      go_wp2_with fail
      go_roundw
      case rel => exact ⟨i + 1, by omega, by go_num, Lib.hid hset, Lib.hid (q1.out.off (by omega) _ _), Lib.hid (q2.out.off (by omega) _ _), Lib.hid (bl_put L.out (by omega) _).drew⟩
      case measure => simp [intOf]; omega
    · obtain rfl : i = 32 := by omega
      have hlen : (ints ((List.range 32).map (sumF a b 32))).length = 32 := by simp [ints]
      have hcall := num_any (some ⟨gd, 0, none⟩) cd ((List.range 32).map (sumF a b 32)) wr (hD.out.reads (by rw [hlen]; omega)) (by rw [hlen]; exact hcd) (by simp)
        (fun x hx => by obtain ⟨k, _, rfl⟩ := List.mem_map.1 hx; have h1 := dg_lt a k; have h2 := dg_lt b k; unfold sumF; split <;> omega)
        (by rw [sum_all ha hb]; have h1 := ha.pow; have h2 := hb.pow; exact Nat.lt_of_lt_of_le (Nat.add_lt_add h1 h2) (by decide +kernel))
      rw [sum_all ha hb, hlen] at hcall
      go_wp2_with fail
      refine Calls.mono hcall ?_
      rintro e w3 ⟨rfl, hb3⟩
      have q3 := q2.out.under hb3
      have B3 := bl_call L.out hb3
      clear hcall hD q1 q2 L hb3
      have hth : w3.there (w.heap.size + 2) 0 (c8 ((a + b) % p25)).size := by rw [size_c8, ← size_c8p 0 0]; exact q3.there
      go_wp2_with (refine wpList_store_mid rfl 22 (.tmp 4) (.tmp 26) rfl (w.heap.size + 2) 0 (c8 ((a + b) % p25)) rfl rfl hth (inum_c8 _) (one_c8 _) ?_)
      refine bodyPost_ret (results_cell_row rfl _ _ (w.heap.size + 2) 22 (c8 ((a + b) % p25)) (0, 0) _ rfl (q3.all (by rw [size_c8, size_c8p])) Tryd.underlying22 rfl (inum_c8 _)) rfl ?_
      exact ⟨rfl, bl_cells (by omega) _ _ _ B3⟩
end Go.Proofs.YtkmgdpbmkbpkjaaDoor
set_option linter.unusedVariables false
set_option linter.unusedSimpArgs false
namespace Go.Proofs.YtkmgdpbmkbpkjaaDoor
open Go.RowKit Go.Proofs.YtkmgdpbmkbpkjaaDoorW.PrintWords Go.Proofs.YtkmgdpbmkbpkjaaDoorW.PrintLast Go.Proofs.YtkmgdpbmkbpkjaaDoorW.PrintMore Go.Proofs.YtkmgdpbmkbpkjaaDoor.PLadderTells

/-- Some of the differences taken. -/
def difF (a b i k : Nat) : Nat := if k < i then dg a k + 3 * dg p25 k - dg b k else dg a k
theorem dif_zero (a b : Nat) : (List.range 32).map (difF a b 0) = dgL a 32 := List.map_congr_left fun k _ => by simp [difF]
theorem p_low : ∀ k, k < 32 → 127 ≤ dg p25 k := by unfold dg; decide +kernel
theorem p_N256 : N256 p25 := by unfold N256; decide +kernel
theorem dif_all {a b : Nat} (ha : N256 a) (hb : N256 b) : V ((List.range 32).map (difF a b 32)) = a + 3 * p25 - b := by
  have e : (List.range 32).map (fun k => difF a b 32 k + 1 * dg b k) = (List.range 32).map fun k => dg a k + 3 * dg p25 k := List.map_congr_left fun k hk => by
    have h1 := p_low k (List.mem_range.1 hk)
    have h2 := dg_lt b k
    rw [difF, if_pos (List.mem_range.1 hk)]
    omega
  have e2 := congrArg V e
  rw [V_lin (difF a b 32) (dg b), V_lin (dg a) (dg p25)] at e2
  have h1 := V_dgL ha
  have h2 := V_dgL hb
  have h3 := V_dgL p_N256
  unfold dgL at h1 h2 h3
  rw [h1, h2, h3] at e2
  omega
theorem dif_mod {a b : Nat} (hb : N256 b) : (a + 3 * p25 - b) % p25 = (a + 4 * p25 - b) % p25 := by
  have h : b ≤ 3 * p25 := by unfold N256 at hb; unfold p25; omega
  rw [show a + 4 * p25 - b = a + 3 * p25 - b + p25 * 1 by omega, Nat.add_mul_mod_self_left]

set_option maxRecDepth 100000 in
set_option maxHeartbeats 4000000 in
theorem refSub_any (a b : Nat) (ha : N256 a) (hb : N256 b) (w : World) : Ret Tryd.prog 51 #[.agg (c8 a), .agg (c8 b)] w (.agg (c8 ((a + 4 * p25 - b) % p25))) := by
  unfold Ret
  rw [← dif_mod hb]
  obtain ⟨kp, hkp⟩ := prime_any
  go_enter Tryd.func51, Tryd.ntmps51
  go_wp2_with (refine wpList_load_row rfl 22 (.tmp 2) rfl w.heap.size rfl 22 (c8 a) (0, 0) _ (three_boxes _ _ _ _ _).1 Tryd.underlying22 rfl (inum_c8 a) ?_)
  rw [← c8p_zero 0]
  obtain ⟨qa, qb, qr, B⟩ := three_boxes w 22 (c8 a) (c8 b) (c8p 0 0)
  refine (digits_any a _).mono ?_
  rintro e w1 ⟨v, rfl, hR, hb1⟩
  obtain ⟨gd, cd, rfl, hgd, hcd, hD⟩ := IR.open hR (by rw [digs_len]; omega)
  have hs0 : w.heap.size + 3 ≤ gd := by
    have := qr.lt
    have e : (((w.alloc (.cells (c8 a) 22)).alloc (.cells (c8 b) 22)).alloc (.cells (c8p 0 0) 22)).heap.size = w.heap.size + 3 := by simp
    omega
  have q1 := qb.under hb1
  have q2 := qr.under hb1
  have B1 := bl_call B hb1
  clear hR hb1 qa qb qr B hgd
  rw [digs_len] at hcd ⊢
  rw [dgL_ints, ← dif_zero a b] at hD
  go_wp2_with fail
  refine (signetringref01_prime.calls kp _ _ (hkp kp (Nat.le_refl _))).mono ?_
  rintro e w2 ⟨v, rfl, hR, hb1⟩
  obtain ⟨gp, cp, rfl, hgp, hcp, hP⟩ := IR.open hR (by rw [digs_len]; omega)
  have hdp : gd < gp := by have := hD.lt; omega
  have D2 := hD.under hb1
  have q12 := q1.under hb1
  have q22 := q2.under hb1
  have B2 := bl_call B1 hb1
  clear hR hb1 q1 q2 B1 hD hgp hkp
  rw [digs_len] at hcp ⊢
  go_wp2_with fail
  go_loopw [7] (fun iv wr => ∃ i : Nat, i ≤ 32 ∧ iv = .int .i64 i ∧ Hid (IB wr gd (ints ((List.range 32).map (difF a b i)))) ∧ Hid (IB wr gp (digs p25 32)) ∧ Hid (Bk wr (w.heap.size + 1) 22 (c8 b)) ∧ Hid (Bk wr (w.heap.size + 2) 22 (c8p 0 0)) ∧ Hid (Below w.heap.size w wr)) (fun iv _ => 32 - (intOf iv).toNat)
  case atStart => exact ⟨0, by omega, rfl, Lib.hid D2, Lib.hid hP, Lib.hid q12, Lib.hid q22, Lib.hid B2⟩
  case round =>
    clear q12 q22 B2 D2 hP
    obtain ⟨i, hi, rfl, hD, hP, q1, q2, L⟩ := hrel
    by_cases hi2 : i < 32
    · have hi2' : (i < 32) = True := eq_true hi2
      have c1 := hD.out.cell (range_at _ i hi2)
      have c3 := hP.out.cell (digs_at p25 32 i hi2)
      have fz : ∀ j, wr.frozen? ⟨gd, j, none⟩ = false := hD.out.choose_spec.1.frozen
      have c2 := (q1.out.cell i).trans (get_c8 b i hi2)
      have hset := hD.out.put i (difF a b (i + 1) i : Nat) (by simp [ints]; omega)
      rw [range_set (difF a b i) (difF a b (i + 1)) i hi2 (fun j hj hne => by simp only [difF, show (j < i + 1 ↔ j < i) by omega])] at hset
      have h1 : difF a b i i = dg a i := by simp [difF]
      have h2 : difF a b (i + 1) i = dg a i + 3 * dg p25 i - dg b i := by simp [difF]
      have h3 := dg_lt a i
      have h4 := dg_lt b i
      have h5 := dg_lt p25 i
      have h6 := p_low i hi2
      rw [h1] at c1
      rw [h2] at hset
      change wr.cell? ⟨w.heap.size + 1, i, none⟩ = some (.int .u8 ((dg b i : Nat) : Int)) at c2
      change wr.cell? ⟨gp, i, none⟩ = some (.int .i64 ((dg p25 i : Nat) : Int)) at c3
      clear h1 h2
      generalize dg a i = x at c1 hset h3
      generalize dg b i = y at c2 hset h4
      generalize dg p25 i = z at c3 hset h5 h6
      have hw1 : IntKind.i64.wrap (y : Int) = (y : Int) := by rw [IntWalk.i64_left]; exact wrap64_fit (by omega) (by omega)
      have hw2 : IntKind.i64.wrap (3 * (z : Int)) = ((3 * z : Nat) : Int) := by rw [IntWalk.i64_left, wrap64_fit (by omega) (by omega)]; omega
      have hw3 : IntKind.i64.wrap ((x : Int) + ((3 * z : Nat) : Int)) = ((x + 3 * z : Nat) : Int) := by rw [IntWalk.i64_left]; exact w_add (by omega)
      have hw4 : IntKind.i64.wrap (((x + 3 * z : Nat) : Int) - (y : Int)) = ((x + 3 * z - y : Nat) : Int) := by rw [IntWalk.i64_left, wrap64_fit (by omega) (by omega)]; omega
      have HW1 := Lib.hid hw1
      have HW2 := Lib.hid hw2
      have HW3 := Lib.hid hw3
      have HW4 := Lib.hid hw4
      clear hi h3 h4 h5 h6 hw1 hw2 hw3 hw4
      obtain ⟨u, hu⟩ : ∃ u : Nat, u = 3 * z := ⟨_, rfl⟩
      obtain ⟨s, hs⟩ : ∃ s : Nat, s = x + 3 * z := ⟨_, rfl⟩
      obtain ⟨d, hd⟩ : ∃ d : Nat, d = x + 3 * z - y := ⟨_, rfl⟩
      rw [← hd] at hset HW4
      rw [← hs] at HW3 HW4
      rw [← hu] at HW2 HW3
      clear hu hs hd
      go_wp2_with fail
      refine drawn_region 17 (by kernel_rfl) (by kernel_rfl) ?_
      simp only [List.take_succ_cons, List.take_zero, List.drop_succ_cons, List.drop_zero]
      iterate 10 (refine wpStill_step (fun K hK => ?_); go_simp; refine hK _ ?_; clear hK K)
      refine sl_pure (.int .i64 (u : Int)) rfl ?_ ?_
      case refine_1 => go_simp; exact HW2.out
      (try simp only [Act.put, List.setIfInBounds_toArray, List.set_cons_zero, List.set_cons_succ])
      refine sl_pure (.int .i64 (s : Int)) rfl ?_ ?_
      case refine_1 => go_simp; exact HW3.out
      (try simp only [Act.put, List.setIfInBounds_toArray, List.set_cons_zero, List.set_cons_succ])
      iterate 3 (refine wpStill_step (fun K hK => ?_); go_simp; refine hK _ ?_; clear hK K)
      refine sl_pure (.int .i64 (y : Int)) rfl ?_ ?_
      case refine_1 => go_simp; exact HW1.out
      (try simp only [Act.put, List.setIfInBounds_toArray, List.set_cons_zero, List.set_cons_succ])
      refine sl_pure (.int .i64 (d : Int)) rfl ?_ ?_
      case refine_1 => go_simp; exact HW4.out
      (try simp only [Act.put, List.setIfInBounds_toArray, List.set_cons_zero, List.set_cons_succ])
      refine wpStill_nil ?_
      go_wp2_with fail
      go_roundw
      case rel => exact ⟨i + 1, by omega, by go_num, Lib.hid hset, Lib.hid (hP.out.off (by omega) _ _), Lib.hid (q1.out.off (by omega) _ _), Lib.hid (q2.out.off (by omega) _ _), Lib.hid (bl_put L.out (by omega) _).drew⟩
      case measure => simp [intOf]; omega
    · obtain rfl : i = 32 := by omega
      have hlen : (ints ((List.range 32).map (difF a b 32))).length = 32 := by simp [ints]
      have hcall := num_any (some ⟨gd, 0, none⟩) cd ((List.range 32).map (difF a b 32)) wr (hD.out.reads (by rw [hlen]; omega)) (by rw [hlen]; exact hcd) (by simp)
        (fun x hx => by obtain ⟨k, _, rfl⟩ := List.mem_map.1 hx; have h1 := dg_lt a k; have h2 := dg_lt p25 k; unfold difF; split <;> omega)
        (by
          rw [dif_all ha hb]
          have h1 := ha.pow
          have h2 : 3 * p25 < 256 ^ 33 := by decide +kernel
          have h3 : 256 ^ 32 + 256 ^ 33 ≤ 256 ^ 64 := by decide +kernel
          generalize 256 ^ 64 = X64 at *
          generalize 256 ^ 33 = X33 at *
          generalize 256 ^ 32 = X32 at *
          omega)
      rw [dif_all ha hb, hlen] at hcall
      go_wp2_with fail
      refine Calls.mono hcall ?_
      rintro e w3 ⟨rfl, hb3⟩
      have q3 := q2.out.under hb3
      have B3 := bl_call L.out hb3
      clear hcall hD hP q1 q2 L hb3
      have hth : w3.there (w.heap.size + 2) 0 (c8 ((a + 3 * p25 - b) % p25)).size := by rw [size_c8, ← size_c8p 0 0]; exact q3.there
      go_wp2_with (refine wpList_store_mid rfl 22 (.tmp 4) (.tmp 34) rfl (w.heap.size + 2) 0 (c8 ((a + 3 * p25 - b) % p25)) rfl rfl hth (inum_c8 _) (one_c8 _) ?_)
      refine bodyPost_ret (results_cell_row rfl _ _ (w.heap.size + 2) 22 (c8 ((a + 3 * p25 - b) % p25)) (0, 0) _ rfl (q3.all (by rw [size_c8, size_c8p])) Tryd.underlying22 rfl (inum_c8 _)) rfl ?_
      exact ⟨rfl, bl_cells (by omega) _ _ _ B3⟩
end Go.Proofs.YtkmgdpbmkbpkjaaDoor
set_option linter.unusedVariables false
set_option linter.unusedSimpArgs false
namespace Go.Proofs.YtkmgdpbmkbpkjaaDoor
open Go.RowKit Go.Proofs.YtkmgdpbmkbpkjaaDoorW.PrintWords Go.Proofs.YtkmgdpbmkbpkjaaDoorW.PrintLast Go.Proofs.YtkmgdpbmkbpkjaaDoorW.PrintMore Go.Proofs.YtkmgdpbmkbpkjaaDoor.PLadderTells

theorem V_set : ∀ (l : List Nat) (j x : Nat), j < l.length → V (l.set j (l.getD j 0 + x)) = V l + 256 ^ j * x
  | [], j, x, h => by simp at h
  | c :: l, 0, x, h => by simp [V]; omega
  | c :: l, j + 1, x, h => by
    have ih := V_set l j x (by simpa using h)
    rw [List.set_cons_succ, V, V, List.getD_cons_succ, ih, Nat.pow_succ, Nat.mul_add, ← Nat.add_assoc]
    congr 1
    rw [Nat.mul_comm (256 ^ j) 256, Nat.mul_assoc]
theorem ints_set (l : List Nat) (j v : Nat) : (ints l).set j (v : Int) = ints (l.set j v) := by
  unfold ints
  rw [List.map_set]
theorem ints_at (l : List Nat) (j : Nat) (h : j < l.length) : (ints l)[j]? = some ((l.getD j 0 : Nat) : Int) := by
  simp [ints, h]
theorem V_zeros : ∀ n, V (List.replicate n 0) = 0
  | 0 => rfl
  | n + 1 => by rw [List.replicate_succ, V, V_zeros n]
theorem run_make64 (w : World) : (Instr.makeSlice 81 (.int .i64 64) (.int .i64 64)).run Tryd.prog w = .ok (.slice (some ⟨w.heap.size, 0, none⟩) 64 64) (w.alloc (.cells (Array.replicate 64 (.int .i64 0)) 3)) := by kernel_rfl
/-- One product more. -/
theorem mul_step (a b i k v : Nat) (h : v = (a % 256 ^ i) * b + 256 ^ i * (dg a i * (b % 256 ^ k))) : v + 256 ^ (i + k) * (dg a i * dg b k) = (a % 256 ^ i) * b + 256 ^ i * (dg a i * (b % 256 ^ (k + 1))) := by
  have hb : b % 256 ^ (k + 1) = b % 256 ^ k + 256 ^ k * dg b k := by rw [Nat.pow_succ, Nat.mod_mul]; rfl
  rw [hb, h, Nat.add_assoc, Nat.mul_add (dg a i), Nat.mul_add (256 ^ i), Nat.pow_add, Nat.mul_assoc (256 ^ i) (256 ^ k), Nat.mul_left_comm (256 ^ k) (dg a i)]
theorem mul_row (a b i v : Nat) (hb : N256 b) (h : v = (a % 256 ^ i) * b + 256 ^ i * (dg a i * (b % 256 ^ 32))) : v = (a % 256 ^ (i + 1)) * b := by
  have ha : a % 256 ^ (i + 1) = a % 256 ^ i + 256 ^ i * dg a i := by rw [Nat.pow_succ, Nat.mod_mul]; rfl
  rw [Nat.mod_eq_of_lt hb.pow] at h
  rw [ha, Nat.add_mul, h, Nat.mul_assoc]
/-- What is held while products are taken. -/
def MulAt (a b i k : Nat) (l : List Nat) : Prop := l.length = 64 ∧ V l = (a % 256 ^ i) * b + 256 ^ i * (dg a i * (b % 256 ^ k)) ∧ ∀ x ∈ l, x ≤ 65025 * (32 * i + k)
theorem MulAt.start (a b : Nat) : MulAt a b 0 0 (List.replicate 64 0) := ⟨by simp, by rw [V_zeros]; simp [Nat.mod_one], fun x hx => by rw [List.eq_of_mem_replicate hx]; omega⟩
theorem MulAt.step {a b i k : Nat} {l : List Nat} (h : MulAt a b i k l) (hi : i < 32) (hk : k < 32) : MulAt a b i (k + 1) (l.set (i + k) (l.getD (i + k) 0 + dg a i * dg b k)) := by
  obtain ⟨h1, h2, h3⟩ := h
  have hx : dg a i * dg b k ≤ 65025 := by
    have e1 := dg_lt a i
    have e2 := dg_lt b k
    exact Nat.le_trans (Nat.mul_le_mul (show dg a i ≤ 255 by omega) (show dg b k ≤ 255 by omega)) (by omega)
  refine ⟨by simpa using h1, by rw [V_set _ _ _ (by omega)]; exact mul_step a b i k _ h2, fun x hx' => ?_⟩
  rcases List.mem_or_eq_of_mem_set hx' with h | h
  · have := h3 x h; omega
  · have h4 : l.getD (i + k) 0 ≤ 65025 * (32 * i + k) := by
      rw [List.getD_eq_getElem?_getD, List.getElem?_eq_getElem (show i + k < l.length by omega)]
      exact h3 _ (List.getElem_mem _)
    omega
theorem MulAt.row {a b i : Nat} {l : List Nat} (h : MulAt a b i 32 l) (hb : N256 b) : MulAt a b (i + 1) 0 l := by
  obtain ⟨h1, h2, h3⟩ := h
  refine ⟨h1, by rw [mul_row a b i _ hb h2, Nat.pow_zero, Nat.mod_one]; simp, fun x hx => ?_⟩
  have := h3 x hx
  omega
theorem MulAt.fin {a b : Nat} {l : List Nat} (h : MulAt a b 32 0 l) (ha : N256 a) : V l = a * b := by
  rw [h.2.1, Nat.mod_eq_of_lt ha.pow]; simp [Nat.mod_one]

theorem mul_64 {a b : Nat} (ha : N256 a) (hb : N256 b) : a * b < 256 ^ 64 := by
  have h := Nat.mul_lt_mul'' ha.pow hb.pow
  have e : 256 ^ 64 = 256 ^ 32 * 256 ^ 32 := by decide +kernel
  rw [e]
  exact h
set_option maxRecDepth 100000 in
set_option maxHeartbeats 8000000 in
theorem refMul_any (a b : Nat) (ha : N256 a) (hb : N256 b) (w : World) : Ret Tryd.prog 34 #[.agg (c8 a), .agg (c8 b)] w (.agg (c8 (a * b % p25))) := by
  unfold Ret
  go_enter Tryd.func34, Tryd.ntmps34
  have hmk := run_make64 (((w.alloc (.cells (c8 a) 22)).alloc (.cells (c8 b) 22)).alloc (.cells #[.int .u8 0, .int .u8 0, .int .u8 0, .int .u8 0, .int .u8 0, .int .u8 0, .int .u8 0, .int .u8 0, .int .u8 0, .int .u8 0, .int .u8 0, .int .u8 0, .int .u8 0, .int .u8 0, .int .u8 0, .int .u8 0, .int .u8 0, .int .u8 0, .int .u8 0, .int .u8 0, .int .u8 0, .int .u8 0, .int .u8 0, .int .u8 0, .int .u8 0, .int .u8 0, .int .u8 0, .int .u8 0, .int .u8 0, .int .u8 0, .int .u8 0, .int .u8 0] 22))
  go_wp2_with fail
  clear hmk
  rw [← c8p_zero 0]
  obtain ⟨qa, qb, qr, B⟩ := three_boxes w 22 (c8 a) (c8 b) (c8p 0 0)
  have hs0 : (((w.alloc (.cells (c8 a) 22)).alloc (.cells (c8 b) 22)).alloc (.cells (c8p 0 0) 22)).heap.size = w.heap.size + 3 := by simp
  generalize ((w.alloc (.cells (c8 a) 22)).alloc (.cells (c8 b) 22)).alloc (.cells (c8p 0 0) 22) = W at qa qb qr B hs0 ⊢
  obtain ⟨gd, hgd⟩ : ∃ gd, gd = w.heap.size + 1 + 1 + 1 := ⟨_, rfl⟩
  rw [← hgd]
  have hD : IB (W.alloc (.cells (Array.replicate 64 (.int .i64 0)) 3)) gd (ints (List.replicate 64 0)) := by
    refine ⟨_, Bk.at_ _ _ _ _ (by omega), fun i x hx => ?_⟩
    rw [show ints (List.replicate 64 0) = List.replicate 64 (0 : Int) from List.map_replicate] at hx
    rw [List.getElem?_replicate] at hx
    by_cases hi : i < 64
    · rw [if_pos hi] at hx
      obtain rfl := Option.some.inj hx
      rw [Array.getElem?_replicate, if_pos hi]
    · rw [if_neg hi] at hx
      exact absurd hx (by simp)
  have hgd2 : w.heap.size + 1 + 1 + 1 ≤ gd := by omega
  clear hgd hs0
  go_loopw [6] (fun iv wr => ∃ (i : Nat) (l : List Nat), i ≤ 32 ∧ iv = .int .i64 i ∧ Hid (MulAt a b i 0 l) ∧ Hid (IB wr gd (ints l)) ∧ Hid (Bk wr w.heap.size 22 (c8 a)) ∧ Hid (Bk wr (w.heap.size + 1) 22 (c8 b)) ∧ Hid (Bk wr (w.heap.size + 1 + 1) 22 (c8p 0 0)) ∧ Hid (Below w.heap.size w wr)) (fun iv _ => 32 - (intOf iv).toNat)
  case atStart => exact ⟨0, _, by omega, rfl, Lib.hid (MulAt.start a b), Lib.hid hD, Lib.hid (qa.alloc _), Lib.hid (qb.alloc _), Lib.hid (qr.alloc _), Lib.hid (bl_alloc B _)⟩
  case round =>
    clear qa qb qr B hD
    obtain ⟨i, l, hi, rfl, hM, hD, qa, qb, qr, L⟩ := hrel
    by_cases hi2 : i < 32
    · have hi2' : ((i : Int) < 32) = True := eq_true (by omega)
      have hi3' : decide ((i : Int) < 32) = true := decide_eq_true (by omega)
      go_wp2_with fail
      go_loopw [7] (fun kv wr => ∃ (k : Nat) (l : List Nat), k ≤ 32 ∧ kv = .int .i64 k ∧ Hid (MulAt a b i k l) ∧ Hid (IB wr gd (ints l)) ∧ Hid (Bk wr w.heap.size 22 (c8 a)) ∧ Hid (Bk wr (w.heap.size + 1) 22 (c8 b)) ∧ Hid (Bk wr (w.heap.size + 1 + 1) 22 (c8p 0 0)) ∧ Hid (Below w.heap.size w wr)) (fun kv _ => 32 - (intOf kv).toNat)
      case atStart => exact ⟨0, l, by omega, rfl, hM, hD, qa, qb, qr, L⟩
      case round =>
        clear hM hD qa qb qr L l
        obtain ⟨k, l, hk, rfl, hM, hD, qa, qb, qr, L⟩ := hrel
        by_cases hk2 : k < 32
        · have hk2' : (k < 32) = True := eq_true hk2
          have hlen := hM.out.1
          have hik : i + k < l.length := by omega
          have c1 := hD.out.cell (ints_at l (i + k) hik)
          have fz : ∀ j, wr.frozen? ⟨gd, j, none⟩ = false := hD.out.choose_spec.1.frozen
          have c2 := (qa.out.cell i).trans (get_c8 a i hi2)
          have c3 := (qb.out.cell k).trans (get_c8 b k hk2)
          have hset := hD.out.put (i + k) (l.getD (i + k) 0 + dg a i * dg b k : Nat) (by rw [ints_len]; exact hik)
          rw [ints_set] at hset
          have hst := hM.out.step hi2 hk2
          have hxb : l.getD (i + k) 0 ≤ 65025 * 1056 := by
            rw [List.getD_eq_getElem?_getD, List.getElem?_eq_getElem hik]
            have := hM.out.2.2 _ (List.getElem_mem hik)
            simp only [Option.getD_some]
            omega
          have hp : dg a i * dg b k ≤ 65025 := Nat.le_trans (Nat.mul_le_mul (show dg a i ≤ 255 by have := dg_lt a i; omega) (show dg b k ≤ 255 by have := dg_lt b k; omega)) (by omega)
          have h3 := dg_lt a i
          have h4 := dg_lt b k
          change wr.cell? ⟨w.heap.size, i, none⟩ = some (.int .u8 ((dg a i : Nat) : Int)) at c2
          change wr.cell? ⟨w.heap.size + 1, k, none⟩ = some (.int .u8 ((dg b k : Nat) : Int)) at c3
          generalize l.set (i + k) (l.getD (i + k) 0 + dg a i * dg b k) = l2 at hset hst
          generalize l.getD (i + k) 0 = x at c1 hset hxb
          generalize dg a i = y at c2 hset hp h3
          generalize dg b k = z at c3 hset hp h4
          have hw1 : IntKind.i64.wrap (y : Int) = (y : Int) := by rw [IntWalk.i64_left]; exact wrap64_fit (by omega) (by omega)
          have hw2 : IntKind.i64.wrap (z : Int) = (z : Int) := by rw [IntWalk.i64_left]; exact wrap64_fit (by omega) (by omega)
          have hw3 : IntKind.i64.wrap ((y : Int) * (z : Int)) = ((y * z : Nat) : Int) := by
            rw [IntWalk.i64_left, show (y : Int) * (z : Int) = ((y * z : Nat) : Int) by simp]; exact w_nat (by omega)
          have hw4 : IntKind.i64.wrap ((x : Int) + ((y * z : Nat) : Int)) = ((x + y * z : Nat) : Int) := by rw [IntWalk.i64_left]; exact w_add (by omega)
          have hw5 : IntKind.i64.wrap ((i : Int) + (k : Int)) = ((i + k : Nat) : Int) := by rw [IntWalk.i64_left]; exact w_add (by omega)
          obtain ⟨j, hj⟩ : ∃ j : Nat, j = i + k := ⟨_, rfl⟩
          obtain ⟨u, hu⟩ : ∃ u : Nat, u = y * z := ⟨_, rfl⟩
          obtain ⟨s, hs⟩ : ∃ s : Nat, s = x + y * z := ⟨_, rfl⟩
          have hj64 : j < 64 := by omega
          have hj64' : ((j : Int) < 64) = True := eq_true (by omega)
          rw [← hs] at hset hw4
          rw [← hu] at hw3 hw4
          rw [← hj] at hw5 c1 hset
          have HW1 := Lib.hid hw1
          have HW2 := Lib.hid hw2
          have HW3 := Lib.hid hw3
          have HW4 := Lib.hid hw4
          have HW5 := Lib.hid hw5
          clear hu hs hj hw1 hw2 hw3 hw4 hw5 hp hxb h3 h4 hik hlen hM
          go_wp2_with fail
          refine drawn_region 20 (by kernel_rfl) (by kernel_rfl) ?_
          simp only [List.take_succ_cons, List.take_zero, List.drop_succ_cons, List.drop_zero]
          iterate 3 (refine wpStill_step (fun K hK => ?_); go_simp; refine hK _ ?_; clear hK K)
          refine sl_pure (.int .i64 (j : Int)) rfl ?_ ?_
          case refine_1 => go_simp; exact HW5.out
          (try simp only [Act.put, List.setIfInBounds_toArray, List.set_cons_zero, List.set_cons_succ])
          iterate 3 (refine wpStill_step (fun K hK => ?_); go_simp; refine hK _ ?_; clear hK K)
          refine sl_pure (.int .i64 (j : Int)) rfl ?_ ?_
          case refine_1 => go_simp; exact HW5.out
          (try simp only [Act.put, List.setIfInBounds_toArray, List.set_cons_zero, List.set_cons_succ])
          iterate 5 (refine wpStill_step (fun K hK => ?_); go_simp; refine hK _ ?_; clear hK K)
          refine sl_pure (.int .i64 (y : Int)) rfl ?_ ?_
          case refine_1 => go_simp; exact HW1.out
          (try simp only [Act.put, List.setIfInBounds_toArray, List.set_cons_zero, List.set_cons_succ])
          iterate 3 (refine wpStill_step (fun K hK => ?_); go_simp; refine hK _ ?_; clear hK K)
          refine sl_pure (.int .i64 (z : Int)) rfl ?_ ?_
          case refine_1 => go_simp; exact HW2.out
          (try simp only [Act.put, List.setIfInBounds_toArray, List.set_cons_zero, List.set_cons_succ])
          refine sl_pure (.int .i64 (u : Int)) rfl ?_ ?_
          case refine_1 => go_simp; exact HW3.out
          (try simp only [Act.put, List.setIfInBounds_toArray, List.set_cons_zero, List.set_cons_succ])
          refine sl_pure (.int .i64 (s : Int)) rfl ?_ ?_
          case refine_1 => go_simp; exact HW4.out
          (try simp only [Act.put, List.setIfInBounds_toArray, List.set_cons_zero, List.set_cons_succ])
          refine wpStill_nil ?_
          go_wp2_with fail
          go_roundw
          case rel => exact ⟨k + 1, l2, by omega, by go_num, Lib.hid hst, Lib.hid hset, Lib.hid (qa.out.off (by omega) _ _), Lib.hid (qb.out.off (by omega) _ _), Lib.hid (qr.out.off (by omega) _ _), Lib.hid (bl_put L.out (by omega) _).drew⟩
          case measure => simp [intOf]; omega
        · obtain rfl : k = 32 := by omega
          have hM2 := Lib.hid (hM.out.row hb)
          clear hM
          go_wp2_with fail
          go_roundw
          case rel => exact ⟨i + 1, l, by omega, by go_num, hM2, hD, qa, qb, qr, L⟩
          case measure => simp [intOf]; omega
    · obtain rfl : i = 32 := by omega
      have hlen : (ints l).length = 64 := by rw [ints_len]; exact hM.out.1
      have hV := hM.out.fin ha
      have hcall := num_any (some ⟨gd, 0, none⟩) 64 l wr (hD.out.reads (by rw [hlen]; omega)) (by rw [hlen]; exact Nat.le_refl _) (by rw [hM.out.1]; exact Nat.le_refl _)
        (fun x hx => by have := hM.out.2.2 x hx; omega)
        (by rw [hV]; exact mul_64 ha hb)
      rw [hV, hlen] at hcall
      clear hV hM
      go_wp2_with fail
      refine Calls.mono hcall ?_
      rintro e w3 ⟨rfl, hb3⟩
      have q3 := qr.out.under hb3
      have B3 := bl_call L.out hb3
      clear hcall hD qa qb qr L hb3
      have hth : w3.there (w.heap.size + 1 + 1) 0 (c8 (a * b % p25)).size := by rw [size_c8, ← size_c8p 0 0]; exact q3.there
      go_wp2_with (refine wpList_store_mid rfl 22 (.tmp 4) (.tmp 39) rfl (w.heap.size + 1 + 1) 0 (c8 (a * b % p25)) rfl rfl hth (inum_c8 _) (one_c8 _) ?_)
      refine bodyPost_ret (results_cell_row rfl _ _ (w.heap.size + 1 + 1) 22 (c8 (a * b % p25)) (0, 0) _ rfl (q3.all (by rw [size_c8, size_c8p])) Tryd.underlying22 rfl (inum_c8 _)) rfl ?_
      exact ⟨rfl, bl_cells (by omega) _ _ _ B3⟩
end Go.Proofs.YtkmgdpbmkbpkjaaDoor
set_option linter.unusedVariables false
set_option linter.unusedSimpArgs false
namespace Go.Proofs.YtkmgdpbmkbpkjaaDoor
open Go.RowKit

/-- What is under way before the i-th bit. -/
def under (a : Nat) (i : Int) : Nat := a ^ exq (i + 1).toNat % p25
theorem under_start (a : Nat) : under a 254 = 1 := by
  have : exq ((254 : Int) + 1).toNat = 0 := by decide +kernel
  unfold under
  rw [this, Nat.pow_zero]
  decide +kernel
theorem under_fin (a : Nat) : under a (-1) = pinv a := by
  unfold under pinv
  rw [exq_fin]
theorem under_sq {a : Nat} {i : Int} (h0 : 0 ≤ i) (hi : i ≤ 254) (h24 : i = 2 ∨ i = 4) : under a i * under a i % p25 = under a (i - 1) := by
  obtain ⟨n, rfl⟩ := Int.eq_ofNat_of_zero_le h0
  have e := exq_step n (by omega)
  rw [if_pos (by omega)] at e
  unfold under
  rw [show ((n : Int) + 1).toNat = n + 1 by omega, show ((n : Int) - 1 + 1).toNat = n by omega, e, ← Nat.mul_mod, ← Nat.pow_add]
  congr 2
  omega
theorem under_mul {a : Nat} {i : Int} (h0 : 0 ≤ i) (hi : i ≤ 254) (h2 : i ≠ 2) (h4 : i ≠ 4) : under a i * under a i % p25 * a % p25 = under a (i - 1) := by
  obtain ⟨n, rfl⟩ := Int.eq_ofNat_of_zero_le h0
  have e := exq_step n (by omega)
  rw [if_neg (by omega)] at e
  unfold under
  rw [show ((n : Int) + 1).toNat = n + 1 by omega, show ((n : Int) - 1 + 1).toNat = n by omega, e, ← Nat.mul_mod, Nat.mod_mul_mod, ← Nat.pow_add, ← Nat.pow_succ]
  congr 2
  omega
theorem under_256 (a : Nat) (i : Int) : N256 (under a i) := N256.mod _

set_option maxRecDepth 100000 in
set_option maxHeartbeats 4000000 in
theorem refInv_any (a : Nat) (ha : N256 a) (w : World) : Ret Tryd.prog 35 #[.agg (c8 a)] w (.agg (c8 (pinv a))) := by
  unfold Ret
  refine calls_of_wp Tryd.func35 rfl ?_
  simp only [Tryd.ntmps35, List.size_toArray, List.length_cons, List.length_nil, Nat.reduceAdd, Nat.reduceSub, Array.replicate_succ, Array.replicate_zero, List.push_toArray, List.append_toArray, List.nil_append, List.cons_append]
  have hO := Own.nil w
  refine wp_seq ?_
  refine wp_region_lit ?_
  refine pl_new 22 (c8 a) rfl (by kernel_rfl) hO fun w1 hO1 => ?_
  clear hO
  try simp only [p0, p1, p2, p3]
  refine pl_new 22 (c8 0) rfl (by kernel_rfl) hO1 fun w2 hO2 => ?_
  clear hO1
  try simp only [p0, p1, p2, p3]
  refine pl_nil ?_
  show Code.wp _ _ _ _ _
  refine wp_seq ?_
  refine wp_region_lit ?_
  refine pl_pure (.agg (c8 1)) rfl (by kernel_rfl) ?_
  try simp only [p0, p1, p2, p3]
  refine pl_new 22 (c8 0) rfl (by kernel_rfl) hO2 fun w3 hO3 => ?_
  clear hO2
  try simp only [p0, p1, p2, p3]
  refine pl_store (L1 := []) (L2 := [(w1.heap.size, 22, (c8 0)), (w.heap.size, 22, (c8 a))]) (cs := (c8 0)) (c8 1) rfl 22 (.tmp 3) (.tmp 5) rfl rfl rfl hO3 (by simp only [size_c8]) (inum_c8 _) (one_c8 _) fun w4 hO4 => ?_
  clear hO3
  simp only [List.nil_append] at hO4
  try simp only [p0, p1, p2, p3]
  refine pl_nil ?_
  show Code.wp _ _ _ _ _
  rw [show c8 1 = c8 (under a 254) by rw [under_start]] at hO4
  go_wp2_with fail
  go_loopw [4] (fun iv wr => ∃ i : Int, -1 ≤ i ∧ i ≤ 254 ∧ iv = .int .i64 i ∧ Own w [(w2.heap.size, 22, c8 (under a i)), (w1.heap.size, 22, (c8 0)), (w.heap.size, 22, (c8 a))] wr) (fun iv _ => (intOf iv + 1).toNat)
  case atStart => exact ⟨254, by omega, by omega, rfl, hO4⟩
  case round =>
    clear hO4
    obtain ⟨i, hi0, hi1, rfl, hO⟩ := hrel
    by_cases hlt : 0 ≤ i
    · have hge : (0 ≤ i) = True := eq_true hlt
      by_cases h2 : i = 2
      · subst h2
        refine wp_seq ?_
        refine wp_seq ?_
        refine wp_region_lit ?_
        refine pl_pure (.int .i64 2) rfl (by kernel_rfl) ?_
        try simp only [p0, p1, p2, p3]
        refine pl_pure (.bool true) rfl ?cmp104 ?_
        case cmp104 => first | (go_simp; done) | (go_simp; rfl)
        try simp only [p0, p1, p2, p3]
        refine pl_nil ?_
        show Code.wp _ _ _ _ _
        refine wp_cond_true rfl ?_
        refine wp_skip ?_
        show Code.wp _ _ _ _ _
        refine wp_seq ?_
        refine wp_block ?_
        refine wp_seq ?_
        refine wp_region_lit ?_
        refine pl_load (c8 (under a 2)) rfl 22 (.tmp 3) rfl w2.heap.size rfl 22 _ (hO.get (.head _)) Tryd.underlying22 rfl (inum_c8 _) ?_
        try simp only [p0, p1, p2, p3]
        refine pl_load (c8 (under a 2)) rfl 22 (.tmp 3) rfl w2.heap.size rfl 22 _ (hO.get (.head _)) Tryd.underlying22 rfl (inum_c8 _) ?_
        try simp only [p0, p1, p2, p3]
        refine pl_call (.agg (c8 ((under a 2) * (under a 2) % p25))) rfl (by kernel_rfl) (refMul_any (under a 2) (under a 2) (under_256 a 2) (under_256 a 2) _) hO fun w106 hO106 => ?_
        clear hO
        try simp only [p0, p1, p2, p3]
        refine pl_store (L1 := []) (L2 := [(w1.heap.size, 22, (c8 0)), (w.heap.size, 22, (c8 a))]) (cs := (c8 (under a 2))) (c8 ((under a 2) * (under a 2) % p25)) rfl 22 (.tmp 3) (.tmp 12) rfl rfl rfl hO106 (by simp only [size_c8]) (inum_c8 _) (one_c8 _) fun w107 hO107 => ?_
        clear hO106
        simp only [List.nil_append] at hO107
        try simp only [p0, p1, p2, p3]
        refine pl_nil ?_
        show Code.wp _ _ _ _ _
        refine wp_seq ?_
        refine wp_region_lit ?_
        refine pl_pure (.int .i64 2) (by kernel_rfl) (by kernel_rfl) ?_
        try simp only [p0, p1, p2, p3]
        refine pl_pure (.bool false) rfl ?cmp107 ?_
        case cmp107 => first | (go_simp; done) | (go_simp; rfl)
        try simp only [p0, p1, p2, p3]
        refine pl_pure (.bool false) (by kernel_rfl) (by kernel_rfl) ?_
        try simp only [p0, p1, p2, p3]
        refine pl_skip (by kernel_rfl) ?_
        try simp only [p0, p1, p2, p3]
        refine pl_skip (by kernel_rfl) ?_
        try simp only [p0, p1, p2, p3]
        refine pl_pure (.bool false) (by kernel_rfl) (by kernel_rfl) ?_
        try simp only [p0, p1, p2, p3]
        refine pl_nil ?_
        show Code.wp _ _ _ _ _
        refine wp_cond_false rfl ?_
        refine wp_skip ?_
        show Code.wp _ _ _ _ _
        rw [under_sq (by omega) (by omega) (by omega)] at hO107
        go_wp2_with fail
        go_roundw
        case rel => exact ⟨2 - 1, by omega, by omega, rfl, hO107⟩
        case measure => simp [intOf]
      by_cases h4 : i = 4
      · subst h4
        refine wp_seq ?_
        refine wp_seq ?_
        refine wp_region_lit ?_
        refine pl_pure (.int .i64 4) rfl (by kernel_rfl) ?_
        try simp only [p0, p1, p2, p3]
        refine pl_pure (.bool true) rfl ?cmp208 ?_
        case cmp208 => first | (go_simp; done) | (go_simp; rfl)
        try simp only [p0, p1, p2, p3]
        refine pl_nil ?_
        show Code.wp _ _ _ _ _
        refine wp_cond_true rfl ?_
        refine wp_skip ?_
        show Code.wp _ _ _ _ _
        refine wp_seq ?_
        refine wp_block ?_
        refine wp_seq ?_
        refine wp_region_lit ?_
        refine pl_load (c8 (under a 4)) rfl 22 (.tmp 3) rfl w2.heap.size rfl 22 _ (hO.get (.head _)) Tryd.underlying22 rfl (inum_c8 _) ?_
        try simp only [p0, p1, p2, p3]
        refine pl_load (c8 (under a 4)) rfl 22 (.tmp 3) rfl w2.heap.size rfl 22 _ (hO.get (.head _)) Tryd.underlying22 rfl (inum_c8 _) ?_
        try simp only [p0, p1, p2, p3]
        refine pl_call (.agg (c8 ((under a 4) * (under a 4) % p25))) rfl (by kernel_rfl) (refMul_any (under a 4) (under a 4) (under_256 a 4) (under_256 a 4) _) hO fun w210 hO210 => ?_
        clear hO
        try simp only [p0, p1, p2, p3]
        refine pl_store (L1 := []) (L2 := [(w1.heap.size, 22, (c8 0)), (w.heap.size, 22, (c8 a))]) (cs := (c8 (under a 4))) (c8 ((under a 4) * (under a 4) % p25)) rfl 22 (.tmp 3) (.tmp 12) rfl rfl rfl hO210 (by simp only [size_c8]) (inum_c8 _) (one_c8 _) fun w211 hO211 => ?_
        clear hO210
        simp only [List.nil_append] at hO211
        try simp only [p0, p1, p2, p3]
        refine pl_nil ?_
        show Code.wp _ _ _ _ _
        refine wp_seq ?_
        refine wp_region_lit ?_
        refine pl_pure (.int .i64 4) (by kernel_rfl) (by kernel_rfl) ?_
        try simp only [p0, p1, p2, p3]
        refine pl_pure (.bool true) rfl ?cmp211 ?_
        case cmp211 => first | (go_simp; done) | (go_simp; rfl)
        try simp only [p0, p1, p2, p3]
        refine pl_pure (.bool true) (by kernel_rfl) (by kernel_rfl) ?_
        try simp only [p0, p1, p2, p3]
        refine pl_pure (.int .i64 4) (by kernel_rfl) (by kernel_rfl) ?_
        try simp only [p0, p1, p2, p3]
        refine pl_pure (.bool false) rfl ?cmp212 ?_
        case cmp212 => first | (go_simp; done) | (go_simp; rfl)
        try simp only [p0, p1, p2, p3]
        refine pl_pure (.bool false) (by kernel_rfl) (by kernel_rfl) ?_
        try simp only [p0, p1, p2, p3]
        refine pl_nil ?_
        show Code.wp _ _ _ _ _
        refine wp_cond_false rfl ?_
        refine wp_skip ?_
        show Code.wp _ _ _ _ _
        rw [under_sq (by omega) (by omega) (by omega)] at hO211
        go_wp2_with fail
        go_roundw
        case rel => exact ⟨4 - 1, by omega, by omega, rfl, hO211⟩
        case measure => simp [intOf]
      have n2 : (i != 2) = true := by rw [bne_iff_ne]; exact h2
      have n4 : (i != 4) = true := by rw [bne_iff_ne]; exact h4
      have m2 : (i = 2) = False := eq_false h2
      have m4 : (i = 4) = False := eq_false h4
      refine wp_seq ?_
      refine wp_seq ?_
      refine wp_region_lit ?_
      refine pl_pure (.int .i64 i) rfl (by kernel_rfl) ?_
      try simp only [p0, p1, p2, p3]
      refine pl_pure (.bool true) rfl ?cmp313 ?_
      case cmp313 => first | (go_simp; done) | (go_simp; rfl)
      try simp only [p0, p1, p2, p3]
      refine pl_nil ?_
      show Code.wp _ _ _ _ _
      refine wp_cond_true rfl ?_
      refine wp_skip ?_
      show Code.wp _ _ _ _ _
      refine wp_seq ?_
      refine wp_block ?_
      refine wp_seq ?_
      refine wp_region_lit ?_
      refine pl_load (c8 (under a i)) rfl 22 (.tmp 3) rfl w2.heap.size rfl 22 _ (hO.get (.head _)) Tryd.underlying22 rfl (inum_c8 _) ?_
      try simp only [p0, p1, p2, p3]
      refine pl_load (c8 (under a i)) rfl 22 (.tmp 3) rfl w2.heap.size rfl 22 _ (hO.get (.head _)) Tryd.underlying22 rfl (inum_c8 _) ?_
      try simp only [p0, p1, p2, p3]
      refine pl_call (.agg (c8 ((under a i) * (under a i) % p25))) rfl (by kernel_rfl) (refMul_any (under a i) (under a i) (under_256 a i) (under_256 a i) _) hO fun w315 hO315 => ?_
      clear hO
      try simp only [p0, p1, p2, p3]
      refine pl_store (L1 := []) (L2 := [(w1.heap.size, 22, (c8 0)), (w.heap.size, 22, (c8 a))]) (cs := (c8 (under a i))) (c8 ((under a i) * (under a i) % p25)) rfl 22 (.tmp 3) (.tmp 12) rfl rfl rfl hO315 (by simp only [size_c8]) (inum_c8 _) (one_c8 _) fun w316 hO316 => ?_
      clear hO315
      simp only [List.nil_append] at hO316
      try simp only [p0, p1, p2, p3]
      refine pl_nil ?_
      show Code.wp _ _ _ _ _
      refine wp_seq ?_
      refine wp_region_lit ?_
      refine pl_pure (.int .i64 i) (by kernel_rfl) (by kernel_rfl) ?_
      try simp only [p0, p1, p2, p3]
      refine pl_pure (.bool true) rfl ?cmp316 ?_
      case cmp316 => first | (go_simp; done) | (go_simp; rfl)
      try simp only [p0, p1, p2, p3]
      refine pl_pure (.bool true) (by kernel_rfl) (by kernel_rfl) ?_
      try simp only [p0, p1, p2, p3]
      refine pl_pure (.int .i64 i) (by kernel_rfl) (by kernel_rfl) ?_
      try simp only [p0, p1, p2, p3]
      refine pl_pure (.bool true) rfl ?cmp317 ?_
      case cmp317 => first | (go_simp; done) | (go_simp; rfl)
      try simp only [p0, p1, p2, p3]
      refine pl_pure (.bool true) (by kernel_rfl) (by kernel_rfl) ?_
      try simp only [p0, p1, p2, p3]
      refine pl_nil ?_
      show Code.wp _ _ _ _ _
      refine wp_cond_true rfl ?_
      refine wp_region_lit ?_
      refine pl_load (c8 ((under a i) * (under a i) % p25)) rfl 22 (.tmp 3) rfl w2.heap.size rfl 22 _ (hO316.get (.head _)) Tryd.underlying22 rfl (inum_c8 _) ?_
      try simp only [p0, p1, p2, p3]
      refine pl_load (c8 a) rfl 22 (.tmp 1) rfl w.heap.size rfl 22 _ (hO316.get (.tail _ (.tail _ (.head _)))) Tryd.underlying22 rfl (inum_c8 _) ?_
      try simp only [p0, p1, p2, p3]
      refine pl_call (.agg (c8 (((under a i) * (under a i) % p25) * a % p25))) rfl (by kernel_rfl) (refMul_any ((under a i) * (under a i) % p25) a (N256.mod _) ha _) hO316 fun w319 hO319 => ?_
      clear hO316
      try simp only [p0, p1, p2, p3]
      refine pl_store (L1 := []) (L2 := [(w1.heap.size, 22, (c8 0)), (w.heap.size, 22, (c8 a))]) (cs := (c8 ((under a i) * (under a i) % p25))) (c8 (((under a i) * (under a i) % p25) * a % p25)) rfl 22 (.tmp 3) (.tmp 21) rfl rfl rfl hO319 (by simp only [size_c8]) (inum_c8 _) (one_c8 _) fun w320 hO320 => ?_
      clear hO319
      simp only [List.nil_append] at hO320
      try simp only [p0, p1, p2, p3]
      refine pl_nil ?_
      show Code.wp _ _ _ _ _
      rw [under_mul (by omega) (by omega) h2 h4] at hO320
      go_wp2_with fail
      go_roundw
      case rel => exact ⟨i - 1, by omega, by omega, rfl, hO320⟩
      case measure => simp [intOf]; omega
    · obtain rfl : i = -1 := by omega
      rw [under_fin] at hO
      refine wp_seq ?_
      refine wp_seq ?_
      refine wp_region_lit ?_
      refine pl_pure (.int .i64 (-1)) rfl (by kernel_rfl) ?_
      try simp only [p0, p1, p2, p3]
      refine pl_pure (.bool false) rfl ?cmpE ?_
      case cmpE => first | (go_simp; done) | (go_simp; rfl)
      try simp only [p0, p1, p2, p3]
      refine pl_nil ?_
      show Code.wp _ _ _ _ _
      refine wp_cond_false rfl ?_
      refine wp_exit ?_
      refine (‹∀ (a : Act) (w : World), _ → _›) _ _ ?_
      refine wp_seq ?_
      refine wp_region_lit ?_
      refine pl_load (c8 (pinv a)) rfl 22 (.tmp 3) rfl w2.heap.size rfl 22 _ (hO.get (.head _)) Tryd.underlying22 rfl (inum_c8 _) ?_
      try simp only [p0, p1, p2, p3]
      refine pl_store (L1 := [(w2.heap.size, 22, (c8 (pinv a)))]) (L2 := [(w.heap.size, 22, (c8 a))]) (cs := (c8 0)) (c8 (pinv a)) rfl 22 (.tmp 2) (.tmp 22) rfl rfl rfl hO (by simp only [size_c8]) (inum_c8 _) (one_c8 _) fun w421 hO421 => ?_
      clear hO
      simp only [List.nil_append, List.cons_append] at hO421
      try simp only [p0, p1, p2, p3]
      refine pl_nil ?_
      show Code.wp _ _ _ _ _
      refine wp_ret ?_
      (try simp only [Exit.then, Exit.inBlock])
      refine bodyPost_ret (results_cell_row rfl _ _ w1.heap.size 22 (c8 (pinv a)) (0, 0) _ rfl (hO421.get (.tail _ (.head _))) Tryd.underlying22 rfl (inum_c8 _)) rfl ?_
      exact ⟨rfl, hO421.bl⟩
end Go.Proofs.YtkmgdpbmkbpkjaaDoor
