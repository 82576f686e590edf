/-
  LimbSums, walked: whatever the numbers, the answer is true.
-/
import Derived.Test.YtkmgdpbmkbpkjaaEngC
import Derived.LoopTactic
import Derived.Lib.Hide
set_option linter.unusedVariables false
set_option linter.unusedSimpArgs false
namespace Go.Proofs.Ytkmgdpbmkbpkjaa
open Go.RowKit

/-- The sum of f's first n. -/
def S (f : Nat → Nat) : Nat → Nat
  | 0 => 0
  | n + 1 => S f n + f n
theorem S_add (f : Nat → Nat) (m : Nat) : ∀ n, S f (m + n) = S f m + S (fun i => f (m + i)) n
  | 0 => rfl
  | n + 1 => by
    rw [← Nat.add_assoc, S, S, S_add f m n, Nat.add_assoc]
theorem S_ext {f g : Nat → Nat} : ∀ n, (∀ i, i < n → f i = g i) → S f n = S g n
  | 0, _ => rfl
  | n + 1, h => by rw [S, S, S_ext n (fun i hi => h i (by omega)), h n (by omega)]
/-- A row turned round has the same sum. -/
theorem S_turn (f : Nat → Nat) (n k : Nat) (hk : k < n) : S (fun i => f ((i + k) % n)) n = S f n := by
  have h1 : S (fun i => f ((i + k) % n)) n = S (fun i => f (k + i)) (n - k) + S f k := by
    have e : n = (n - k) + k := by omega
    rw [show S (fun i => f ((i + k) % n)) n = S (fun i => f ((i + k) % n)) ((n - k) + k) by rw [← e], S_add]
    congr 1
    · refine S_ext _ fun i hi => ?_
      rw [Nat.mod_eq_of_lt (by omega), Nat.add_comm]
    · refine S_ext _ fun i hi => ?_
      rw [show n - k + i + k = i + n by omega, Nat.add_mod_right, Nat.mod_eq_of_lt (by omega)]
  have h2 : S f n = S f k + S (fun i => f (k + i)) (n - k) := by
    rw [← S_add, show k + (n - k) = n by omega]
  omega
theorem S_step (f : Nat → Nat) (i : Nat) : (S f i % p25 + f i) % p25 = S f (i + 1) % p25 := by rw [S, Nat.mod_add_mod]
/-- The i-th number. -/
def nth (l : List Nat) (i : Nat) : Nat := l.getD i 0
theorem nth_at {l : List Nat} {i : Nat} (h : i < l.length) : l[i]? = some (nth l i) := by simp [nth, h]
theorem nth_256 {l : List Nat} (hl : ∀ n ∈ l, N256 n) {i : Nat} (h : i < l.length) : N256 (nth l i) := by
  have : nth l i = l[i] := by simp [nth, h]
  rw [this]; exact hl _ (List.getElem_mem h)
theorem sum_two (x : Nat) : (x + x) % p25 = x * 2 % p25 := by rw [Nat.mul_two]
theorem sum_off (a x : Nat) (hx : N256 x) : ((a + x) % p25 + 4 * p25 - x) % p25 = a % p25 := by
  have hx4 := hx.le4
  have e1 : (((a + x) % p25 + 4 * p25 - x) % p25 + x) % p25 = (a % p25 + x) % p25 := by
    rw [Nat.mod_add_mod, show (a + x) % p25 + 4 * p25 - x + x = (a + x) % p25 + p25 * 4 by omega, Nat.add_mul_mod_self_left, Nat.mod_mod, Nat.mod_add_mod]
  have := add_cancel e1
  rwa [Nat.mod_mod, Nat.mod_mod] at this

theorem Own.two {w0 w : World} {L : List (Nat × TypeId × Array Value)} (h : Own w0 L w) (t : TypeId) (cs ds : Array Value) :
    Own w0 ((w.heap.size + 1, t, ds) :: (w.heap.size, t, cs) :: L) ((w.alloc (.cells cs t)).alloc (.cells ds t)) := by
  have q := (h.new t cs).new t ds
  have e : (w.alloc (.cells cs t)).heap.size = w.heap.size + 1 := by unfold World.alloc; exact Array.size_push ..
  rw [e] at q
  exact q

set_option maxRecDepth 100000 in
set_option maxHeartbeats 8000000 in
theorem sums_any (A : Option Addr) (c at_ : Nat) (l : List Nat) (w : World) (hat : at_ < 256) (hl : ∀ n ∈ l, N256 n) (hA : 0 < l.length → ∃ x, A = some x ∧ Rows w x l) :
    Ret Try.prog 8 #[.slice A l.length c, .int .u8 at_] w (.bool true) := by
  unfold Ret
  by_cases h40 : l.length ≤ 40
  rotate_left
  · have hd : (40 < (l.length : Int)) = True := eq_true (by omega)
    have hd2 : (40 < l.length) = True := eq_true (by omega)
    go_enter Try.func8, Try.ntmps8
    go_wp2_with (go_at_call 11; refine Calls.mono (alive_any _) ?_)
    rintro e w1 ⟨rfl, hb⟩
    go_wp2
    go_ret
    exact ⟨rfl, hb⟩
  have hd : (40 < (l.length : Int)) = False := eq_false (by omega)
  have hd2 : (40 < l.length) = False := eq_false (by omega)
  by_cases h0 : 0 < l.length
  rotate_left
  · have he : l.length = 0 := by omega
    have he2 : ((l.length : Int) == 0) = true := by rw [he]; rfl
    have he3 : ((l.length : Int) = 0) = True := eq_true (by omega)
    go_enter Try.func8, Try.ntmps8
    go_wp2_with (go_at_call 11; refine Calls.mono (alive_any _) ?_)
    rintro e w1 ⟨rfl, hb⟩
    go_wp2
    go_ret
    exact ⟨rfl, hb⟩
  have he2 : ((l.length : Int) == 0) = false := beq_eq_false_iff_ne.2 (by omega)
  have he3 : ((l.length : Int) = 0) = False := eq_false (by omega)
  obtain ⟨ad, rfl, hR⟩ := hA h0
  have hR' := Lib.hid hR
  clear hR hA
  have hk : at_ % l.length < l.length := Nat.mod_lt _ h0
  have hmod : Int.tmod (at_ : Int) (l.length : Int) = ((at_ % l.length : Nat) : Int) := by rw [Int.tmod_eq_emod_of_nonneg (by omega)]; exact (Int.natCast_emod _ _).symm
  generalize at_ % l.length = k at hk hmod
  go_enter Try.func8, Try.ntmps8
  go_wp2_with (go_at_call 11; refine Calls.mono (alive_any _) ?_)
  rintro e w1 ⟨rfl, hb⟩
  go_wp2_with fail
  go_loopw [27] (fun iv wr => ∃ i : Nat, i ≤ l.length ∧ iv = .int .i64 i ∧ Own w [(w1.heap.size + 1, 22, c8 (S (fun j => nth l ((j + k) % l.length)) i % p25)), (w1.heap.size, 22, c8 (S (nth l) i % p25))] wr) (fun iv _ => (l.length - intOf iv).toNat)
  case atStart =>
    have hz : #[.int .u8 0, .int .u8 0, .int .u8 0, .int .u8 0, .int .u8 0, .int .u8 0, .int .u8 0, .int .u8 0, .int .u8 0, .int .u8 0, .int .u8 0, .int .u8 0, .int .u8 0, .int .u8 0, .int .u8 0, .int .u8 0, .int .u8 0, .int .u8 0, .int .u8 0, .int .u8 0, .int .u8 0, .int .u8 0, .int .u8 0, .int .u8 0, .int .u8 0, .int .u8 0, .int .u8 0, .int .u8 0, .int .u8 0, .int .u8 0, .int .u8 0, .int .u8 0] = c8 0 := by kernel_rfl
    rw [hz]
    exact ⟨0, by omega, rfl, by simp only [S, Nat.zero_mod]; exact ((Own.nil w).call hb).two 22 (c8 0) (c8 0)⟩
  case round =>
    obtain ⟨i, hi, rfl, hO⟩ := hrel
    by_cases hlt : i < l.length
    · have hlt1 : ((i : Int) < (l.length : Int)) = True := eq_true (by omega)
      have hdl : decide ((i : Int) < (l.length : Int)) = true := decide_eq_true (by omega)
      have hrem : Int.tmod ((i : Int) + (k : Int)) (l.length : Int) = (((i + k) % l.length : Nat) : Int) := by rw [Int.tmod_eq_emod_of_nonneg (by omega)]; exact (Int.natCast_emod _ _).symm
      have hik : (i + k) % l.length < l.length := Nat.mod_lt _ h0
      go_wp2_with fail
      refine sl_start 5 (by kernel_rfl) (by kernel_rfl) hO fun w2 hO2 => ?_
      clear hO
      simp only [List.take_succ_cons, List.take_zero, List.drop_succ_cons, List.drop_zero]
      refine sl_load (c8 (S (nth l) i % p25)) rfl 22 (.tmp 5) rfl w1.heap.size rfl 22 _ (hO2.get (.tail _ (.head _))) Try.underlying22 rfl (inum_c8 _) ?_
      (try simp only [Act.put, List.setIfInBounds_toArray, List.set_cons_zero, List.set_cons_succ])
      refine sl_pure (.slice (some ad) l.length c) rfl (by kernel_rfl) ?_
      (try simp only [Act.put, List.setIfInBounds_toArray, List.set_cons_zero, List.set_cons_succ])
      refine sl_pure (.int .i64 i) rfl (by kernel_rfl) ?_
      (try simp only [Act.put, List.setIfInBounds_toArray, List.set_cons_zero, List.set_cons_succ])
      refine sl_idx ad l.length c i rfl (.tmp 31) (.tmp 32) rfl rfl rfl hlt Try.underlying28 inum ?_
      (try simp only [Act.put, List.setIfInBounds_toArray, List.set_cons_zero, List.set_cons_succ])
      refine sl_old ad l i (nth l i) rfl (.tmp 33) rfl rfl Try.underlying22 rfl inum hR'.out (nth_at hlt) hO2 ?_
      (try simp only [Act.put, List.setIfInBounds_toArray, List.set_cons_zero, List.set_cons_succ])
      refine wpStill_nil ?_
      refine pl_call (.agg (c8 (S (nth l) (i + 1) % p25))) rfl (by kernel_rfl) (by rw [← S_step]; exact add_any _ _ (N256.mod _) (nth_256 hl hlt) _) hO2 fun w3 hO3 => ?_
      clear hO2
      (try simp only [Act.put, List.setIfInBounds_toArray, List.set_cons_zero, List.set_cons_succ])
      refine pl_store (L1 := [(w1.heap.size + 1, 22, c8 (S (fun j => nth l ((j + k) % l.length)) i % p25))]) (L2 := []) (g := w1.heap.size) (t := 22) (cs := c8 (S (nth l) i % p25)) (c8 (S (nth l) (i + 1) % p25)) rfl 22 (.tmp 5) (.tmp 35) rfl rfl rfl hO3 (by simp only [size_c8]) (inum_c8 _) (one_c8 _) fun w4 hO4 => ?_
      clear hO3
      (try simp only [Act.put, List.setIfInBounds_toArray, List.set_cons_zero, List.set_cons_succ])
      refine pl_nil ?_
      go_wp2_with fail
      refine sl_start 10 (by kernel_rfl) (by kernel_rfl) hO4 fun w5 hO5 => ?_
      clear hO4
      simp only [List.take_succ_cons, List.take_zero, List.drop_succ_cons, List.drop_zero]
      refine sl_load (c8 (S (fun j => nth l ((j + k) % l.length)) i % p25)) rfl 22 (.tmp 6) rfl (w1.heap.size + 1) rfl 22 _ (hO5.get (.head _)) Try.underlying22 rfl (inum_c8 _) ?_
      (try simp only [Act.put, List.setIfInBounds_toArray, List.set_cons_zero, List.set_cons_succ])
      refine sl_pure (.slice (some ad) l.length c) rfl (by kernel_rfl) ?_
      (try simp only [Act.put, List.setIfInBounds_toArray, List.set_cons_zero, List.set_cons_succ])
      refine sl_pure (.int .i64 i) rfl (by kernel_rfl) ?_
      (try simp only [Act.put, List.setIfInBounds_toArray, List.set_cons_zero, List.set_cons_succ])
      refine sl_pure (.int .i64 k) rfl (by kernel_rfl) ?_
      (try simp only [Act.put, List.setIfInBounds_toArray, List.set_cons_zero, List.set_cons_succ])
      refine sl_pure (.int .i64 ((i : Int) + (k : Int))) rfl ?_ ?_
      case refine_1 =>
        go_simp
        have hw1 : ((i : Int) + (k : Int)) % 2 ^ 64 = i + k := Int.emod_eq_of_lt (by omega) (by omega)
        have hw2 : ((i : Int) + (k : Int) ≥ 2 ^ (64 - 1)) = False := eq_false (by omega)
        simp only [IntKind.wrap, IntKind.signed, IntKind.bits, hw1, hw2, decide_false, Bool.and_false, Bool.false_eq_true, if_false]
      (try simp only [Act.put, List.setIfInBounds_toArray, List.set_cons_zero, List.set_cons_succ])
      refine sl_pure (.slice (some ad) l.length c) rfl (by kernel_rfl) ?_
      (try simp only [Act.put, List.setIfInBounds_toArray, List.set_cons_zero, List.set_cons_succ])
      refine sl_pure (.int .i64 (l.length : Int)) rfl (by kernel_rfl) ?_
      (try simp only [Act.put, List.setIfInBounds_toArray, List.set_cons_zero, List.set_cons_succ])
      refine sl_pure (.int .i64 (((i + k) % l.length : Nat) : Int)) rfl ?_ ?_
      case refine_1 =>
        go_simp
        intro hn
        rw [hn] at h0
        exact absurd h0 (by decide)
      (try simp only [Act.put, List.setIfInBounds_toArray, List.set_cons_zero, List.set_cons_succ])
      refine sl_idx ad l.length c ((i + k) % l.length) rfl (.tmp 37) (.tmp 43) rfl rfl rfl hik Try.underlying28 inum ?_
      (try simp only [Act.put, List.setIfInBounds_toArray, List.set_cons_zero, List.set_cons_succ])
      refine sl_old ad l ((i + k) % l.length) (nth l ((i + k) % l.length)) rfl (.tmp 44) rfl rfl Try.underlying22 rfl inum hR'.out (nth_at hik) hO5 ?_
      (try simp only [Act.put, List.setIfInBounds_toArray, List.set_cons_zero, List.set_cons_succ])
      refine wpStill_nil ?_
      refine pl_call (.agg (c8 (S (fun j => nth l ((j + k) % l.length)) (i + 1) % p25))) rfl (by kernel_rfl) (by rw [← S_step]; exact add_any _ _ (N256.mod _) (nth_256 hl hik) _) hO5 fun w6 hO6 => ?_
      clear hO5
      (try simp only [Act.put, List.setIfInBounds_toArray, List.set_cons_zero, List.set_cons_succ])
      refine pl_store (L1 := []) (L2 := [(w1.heap.size, 22, c8 (S (nth l) (i + 1) % p25))]) (g := w1.heap.size + 1) (t := 22) (cs := c8 (S (fun j => nth l ((j + k) % l.length)) i % p25)) (c8 (S (fun j => nth l ((j + k) % l.length)) (i + 1) % p25)) rfl 22 (.tmp 6) (.tmp 46) rfl rfl rfl hO6 (by simp only [size_c8]) (inum_c8 _) (one_c8 _) fun w7 hO7 => ?_
      clear hO6
      (try simp only [Act.put, List.setIfInBounds_toArray, List.set_cons_zero, List.set_cons_succ])
      refine pl_nil ?_
      go_wp2_with fail
      go_roundw
      case rel => exact ⟨i + 1, by omega, by simp, hO7⟩
      case measure => simp [intOf]; omega
    · obtain rfl : i = l.length := by omega
      have hlt1 : ((l.length : Int) < (l.length : Int)) = False := eq_false (by omega)
      have hdl : decide ((l.length : Int) < (l.length : Int)) = false := decide_eq_false (by omega)
      refine wp_seq ?_
      refine wp_region_lit ?_
      refine pl_pure (.bool false) rfl ?cmp ?_
      case cmp => go_simp
      (try simp only [Act.put, List.setIfInBounds_toArray, List.set_cons_zero, List.set_cons_succ])
      refine pl_nil ?_
      show Code.wp _ _ _ _ _
      refine wp_seq ?_
      refine wp_cond_false rfl ?_
      refine wp_exit ?_
      refine (‹∀ (a : Act) (w : World), _ → _›) _ _ ?_
      refine wp_seq ?_
      refine wp_region_lit ?_
      refine pl_pure (.slice (some ad) l.length c) rfl (by kernel_rfl) ?_
      (try simp only [Act.put, List.setIfInBounds_toArray, List.set_cons_zero, List.set_cons_succ])
      refine pl_pure (.int .i64 k) rfl (by kernel_rfl) ?_
      (try simp only [Act.put, List.setIfInBounds_toArray, List.set_cons_zero, List.set_cons_succ])
      refine pl_idx ad l.length c k rfl (.tmp 48) (.tmp 49) rfl rfl rfl hk Try.underlying28 inum ?_
      (try simp only [Act.put, List.setIfInBounds_toArray, List.set_cons_zero, List.set_cons_succ])
      refine pl_old ad l k (nth l k) rfl (.tmp 50) rfl rfl Try.underlying22 rfl inum hR'.out (nth_at hk) hO ?_
      (try simp only [Act.put, List.setIfInBounds_toArray, List.set_cons_zero, List.set_cons_succ])
      refine pl_new 22 (c8 0) rfl (by kernel_rfl) hO fun w2 hO2 => ?_
      clear hO
      (try simp only [Act.put, List.setIfInBounds_toArray, List.set_cons_zero, List.set_cons_succ])
      refine pl_store (L1 := []) (L2 := [((w1.heap.size + 1), 22, (c8 (S (fun j => nth l ((j + k) % l.length)) l.length % p25))), (w1.heap.size, 22, (c8 (S (nth l) l.length % p25)))]) (cs := (c8 0)) (c8 (nth l k)) rfl 22 (.tmp 9) (.tmp 51) rfl rfl rfl hO2 (by simp only [size_c8]) (inum_c8 _) (one_c8 _) fun w3 hO3 => ?_
      clear hO2
      simp only [List.nil_append] at hO3
      (try simp only [Act.put, List.setIfInBounds_toArray, List.set_cons_zero, List.set_cons_succ])
      refine pl_nil ?_
      show Code.wp _ _ _ _ _
      refine wp_seq ?_
      refine hl_start #[false, false, false, false, false, false, false, false, false, false, false, false, false, false, false, false, false, false, false, false, false, false, false] (by kernel_rfl) (by kernel_rfl) hO3 fun w4 hO4 => ?_
      clear hO3
      refine hl_load 0 #[true, false, false, false, false, false, false, false, false, false, false, false, false, false, false, false, false, false, false, false, false, false, false] (by kernel_rfl) rfl (some 52) (by kernel_rfl) (by kernel_rfl) (by kernel_rfl) (by kernel_rfl) (c8 (S (nth l) l.length % p25)) (by kernel_rfl) 22 (.tmp 5) (by kernel_rfl) w1.heap.size (by kernel_rfl) 22 _ (.tail _ (.tail _ (.head _))) Try.underlying22 rfl (inum_c8 _) hO4 ?_
      (try simp only [Act.put, List.setIfInBounds_toArray, List.set_cons_zero, List.set_cons_succ])
      refine hl_load 1 #[true, true, false, false, false, false, false, false, false, false, false, false, false, false, false, false, false, false, false, false, false, false, false] (by kernel_rfl) rfl (some 53) (by kernel_rfl) (by kernel_rfl) (by kernel_rfl) (by kernel_rfl) (c8 (S (fun j => nth l ((j + k) % l.length)) l.length % p25)) (by kernel_rfl) 22 (.tmp 6) (by kernel_rfl) (w1.heap.size + 1) (by kernel_rfl) 22 _ (.tail _ (.head _)) Try.underlying22 rfl (inum_c8 _) hO4 ?_
      (try simp only [Act.put, List.setIfInBounds_toArray, List.set_cons_zero, List.set_cons_succ])
      refine hl_eql 2 #[true, true, true, false, false, false, false, false, false, false, false, false, false, false, false, false, false, false, false, false, false, false, false] (by kernel_rfl) rfl (some 54) (by kernel_rfl) (by kernel_rfl) (by kernel_rfl) (by kernel_rfl) (x := (S (nth l) l.length % p25)) (y := (S (fun j => nth l ((j + k) % l.length)) l.length % p25)) .true (N256.mod _) (N256.mod _) (decide_eq_true (by rw [S_turn (nth l) l.length k hk])) (by kernel_rfl) (.tmp 52) (.tmp 53) 22 (by kernel_rfl) (by kernel_rfl) (by kernel_rfl) hO4 ?_
      (try simp only [Act.put, List.setIfInBounds_toArray, List.set_cons_zero, List.set_cons_succ])
      refine hl_pure 3 #[true, true, true, true, false, false, false, false, false, false, false, false, false, false, false, false, false, false, false, false, false, false, false] (by kernel_rfl) rfl (some 55) (by kernel_rfl) (by kernel_rfl) (by kernel_rfl) (by kernel_rfl) (.bool true) (by kernel_rfl) (fun _ => by kernel_rfl) hO4 ?_
      (try simp only [Act.put, List.setIfInBounds_toArray, List.set_cons_zero, List.set_cons_succ])
      refine hl_load 4 #[true, true, true, true, true, false, false, false, false, false, false, false, false, false, false, false, false, false, false, false, false, false, false] (by kernel_rfl) rfl (some 56) (by kernel_rfl) (by kernel_rfl) (by kernel_rfl) (by kernel_rfl) (c8 (nth l k)) (by kernel_rfl) 22 (.tmp 9) (by kernel_rfl) wr.heap.size (by kernel_rfl) 22 _ (.head _) Try.underlying22 rfl (inum_c8 _) hO4 ?_
      (try simp only [Act.put, List.setIfInBounds_toArray, List.set_cons_zero, List.set_cons_succ])
      refine hl_load 5 #[true, true, true, true, true, true, false, false, false, false, false, false, false, false, false, false, false, false, false, false, false, false, false] (by kernel_rfl) rfl (some 57) (by kernel_rfl) (by kernel_rfl) (by kernel_rfl) (by kernel_rfl) (c8 (nth l k)) (by kernel_rfl) 22 (.tmp 9) (by kernel_rfl) wr.heap.size (by kernel_rfl) 22 _ (.head _) Try.underlying22 rfl (inum_c8 _) hO4 ?_
      (try simp only [Act.put, List.setIfInBounds_toArray, List.set_cons_zero, List.set_cons_succ])
      refine hl_load 7 #[true, true, true, true, true, true, false, true, false, false, false, false, false, false, false, false, false, false, false, false, false, false, false] (by kernel_rfl) rfl (some 59) (by kernel_rfl) (by kernel_rfl) (by kernel_rfl) (by kernel_rfl) (c8 (nth l k)) (by kernel_rfl) 22 (.tmp 9) (by kernel_rfl) wr.heap.size (by kernel_rfl) 22 _ (.head _) Try.underlying22 rfl (inum_c8 _) hO4 ?_
      (try simp only [Act.put, List.setIfInBounds_toArray, List.set_cons_zero, List.set_cons_succ])
      refine hl_pure 8 #[true, true, true, true, true, true, false, true, true, false, false, false, false, false, false, false, false, false, false, false, false, false, false] (by kernel_rfl) rfl (some 60) (by kernel_rfl) (by kernel_rfl) (by kernel_rfl) (by kernel_rfl) (.agg (c8 2)) (by kernel_rfl) (fun _ => by kernel_rfl) hO4 ?_
      (try simp only [Act.put, List.setIfInBounds_toArray, List.set_cons_zero, List.set_cons_succ])
      refine hl_call 6 #[true, true, true, true, true, true, true, true, true, false, false, false, false, false, false, false, false, false, false, false, false, false, false] (by kernel_rfl) rfl (some 58) (by kernel_rfl) (.agg (c8 (((nth l k) + (nth l k)) % p25))) (by kernel_rfl) (by kernel_rfl) (by kernel_rfl) (add_any (nth l k) (nth l k) (nth_256 hl hk) (nth_256 hl hk) _) hO4 fun w5 hO5 => ?_
      clear hO4
      (try simp only [Act.put, List.setIfInBounds_toArray, List.set_cons_zero, List.set_cons_succ])
      refine hl_call 9 #[true, true, true, true, true, true, true, true, true, true, false, false, false, false, false, false, false, false, false, false, false, false, false] (by kernel_rfl) rfl (some 61) (by kernel_rfl) (.agg (c8 ((nth l k) * 2 % p25))) (by kernel_rfl) (by kernel_rfl) (by kernel_rfl) (mul_any (nth l k) 2 (nth_256 hl hk) (by unfold N256; omega) _) hO5 fun w6 hO6 => ?_
      clear hO5
      (try simp only [Act.put, List.setIfInBounds_toArray, List.set_cons_zero, List.set_cons_succ])
      refine hl_eql 10 #[true, true, true, true, true, true, true, true, true, true, true, false, false, false, false, false, false, false, false, false, false, false, false] (by kernel_rfl) rfl (some 62) (by kernel_rfl) (by kernel_rfl) (by kernel_rfl) (by kernel_rfl) (x := (((nth l k) + (nth l k)) % p25)) (y := ((nth l k) * 2 % p25)) .true (N256.mod _) (N256.mod _) (decide_eq_true (sum_two _)) (by kernel_rfl) (.tmp 58) (.tmp 61) 22 (by kernel_rfl) (by kernel_rfl) (by kernel_rfl) hO6 ?_
      (try simp only [Act.put, List.setIfInBounds_toArray, List.set_cons_zero, List.set_cons_succ])
      refine hl_pure 11 #[true, true, true, true, true, true, true, true, true, true, true, true, false, false, false, false, false, false, false, false, false, false, false] (by kernel_rfl) rfl (some 63) (by kernel_rfl) (by kernel_rfl) (by kernel_rfl) (by kernel_rfl) (.bool true) (by kernel_rfl) (fun _ => by kernel_rfl) hO6 ?_
      (try simp only [Act.put, List.setIfInBounds_toArray, List.set_cons_zero, List.set_cons_succ])
      refine hl_pure 12 #[true, true, true, true, true, true, true, true, true, true, true, true, true, false, false, false, false, false, false, false, false, false, false] (by kernel_rfl) rfl (some 64) (by kernel_rfl) (by kernel_rfl) (by kernel_rfl) (by kernel_rfl) (.bool true) (by kernel_rfl) (fun _ => by kernel_rfl) hO6 ?_
      (try simp only [Act.put, List.setIfInBounds_toArray, List.set_cons_zero, List.set_cons_succ])
      refine hl_load 13 #[true, true, true, true, true, true, true, true, true, true, true, true, true, true, false, false, false, false, false, false, false, false, false] (by kernel_rfl) rfl (some 65) (by kernel_rfl) (by kernel_rfl) (by kernel_rfl) (by kernel_rfl) (c8 (S (nth l) l.length % p25)) (by kernel_rfl) 22 (.tmp 5) (by kernel_rfl) w1.heap.size (by kernel_rfl) 22 _ (.tail _ (.tail _ (.head _))) Try.underlying22 rfl (inum_c8 _) hO6 ?_
      (try simp only [Act.put, List.setIfInBounds_toArray, List.set_cons_zero, List.set_cons_succ])
      refine hl_load 14 #[true, true, true, true, true, true, true, true, true, true, true, true, true, true, true, false, false, false, false, false, false, false, false] (by kernel_rfl) rfl (some 66) (by kernel_rfl) (by kernel_rfl) (by kernel_rfl) (by kernel_rfl) (c8 (nth l k)) (by kernel_rfl) 22 (.tmp 9) (by kernel_rfl) wr.heap.size (by kernel_rfl) 22 _ (.head _) Try.underlying22 rfl (inum_c8 _) hO6 ?_
      (try simp only [Act.put, List.setIfInBounds_toArray, List.set_cons_zero, List.set_cons_succ])
      refine hl_load 16 #[true, true, true, true, true, true, true, true, true, true, true, true, true, true, true, false, true, false, false, false, false, false, false] (by kernel_rfl) rfl (some 68) (by kernel_rfl) (by kernel_rfl) (by kernel_rfl) (by kernel_rfl) (c8 (nth l k)) (by kernel_rfl) 22 (.tmp 9) (by kernel_rfl) wr.heap.size (by kernel_rfl) 22 _ (.head _) Try.underlying22 rfl (inum_c8 _) hO6 ?_
      (try simp only [Act.put, List.setIfInBounds_toArray, List.set_cons_zero, List.set_cons_succ])
      refine hl_load 18 #[true, true, true, true, true, true, true, true, true, true, true, true, true, true, true, false, true, false, true, false, false, false, false] (by kernel_rfl) rfl (some 70) (by kernel_rfl) (by kernel_rfl) (by kernel_rfl) (by kernel_rfl) (c8 (S (nth l) l.length % p25)) (by kernel_rfl) 22 (.tmp 5) (by kernel_rfl) w1.heap.size (by kernel_rfl) 22 _ (.tail _ (.tail _ (.head _))) Try.underlying22 rfl (inum_c8 _) hO6 ?_
      (try simp only [Act.put, List.setIfInBounds_toArray, List.set_cons_zero, List.set_cons_succ])
      refine hl_call 15 #[true, true, true, true, true, true, true, true, true, true, true, true, true, true, true, true, true, false, true, false, false, false, false] (by kernel_rfl) rfl (some 67) (by kernel_rfl) (.agg (c8 (((S (nth l) l.length % p25) + (nth l k)) % p25))) (by kernel_rfl) (by kernel_rfl) (by kernel_rfl) (add_any (S (nth l) l.length % p25) (nth l k) (N256.mod _) (nth_256 hl hk) _) hO6 fun w7 hO7 => ?_
      clear hO6
      (try simp only [Act.put, List.setIfInBounds_toArray, List.set_cons_zero, List.set_cons_succ])
      refine hl_call 17 #[true, true, true, true, true, true, true, true, true, true, true, true, true, true, true, true, true, true, true, false, false, false, false] (by kernel_rfl) rfl (some 69) (by kernel_rfl) (.agg (c8 (((((S (nth l) l.length % p25) + (nth l k)) % p25) + 4 * p25 - (nth l k)) % p25))) (by kernel_rfl) (by kernel_rfl) (by kernel_rfl) (sub_any (((S (nth l) l.length % p25) + (nth l k)) % p25) (nth l k) (N256.mod _) (nth_256 hl hk) _) hO7 fun w8 hO8 => ?_
      clear hO7
      (try simp only [Act.put, List.setIfInBounds_toArray, List.set_cons_zero, List.set_cons_succ])
      refine hl_call 19 #[true, true, true, true, true, true, true, true, true, true, true, true, true, true, true, true, true, true, true, true, false, false, false] (by kernel_rfl) rfl (some 71) (by kernel_rfl) (.agg (c8 ((S (nth l) l.length % p25) % p25))) (by kernel_rfl) (by kernel_rfl) (by kernel_rfl) (reduce_any (S (nth l) l.length % p25) (N256.mod _) _) hO8 fun w9 hO9 => ?_
      clear hO8
      (try simp only [Act.put, List.setIfInBounds_toArray, List.set_cons_zero, List.set_cons_succ])
      refine hl_eql 20 #[true, true, true, true, true, true, true, true, true, true, true, true, true, true, true, true, true, true, true, true, true, false, false] (by kernel_rfl) rfl (some 72) (by kernel_rfl) (by kernel_rfl) (by kernel_rfl) (by kernel_rfl) (x := (((((S (nth l) l.length % p25) + (nth l k)) % p25) + 4 * p25 - (nth l k)) % p25)) (y := ((S (nth l) l.length % p25) % p25)) .true (N256.mod _) (N256.mod _) (decide_eq_true (sum_off _ _ (nth_256 hl hk))) (by kernel_rfl) (.tmp 69) (.tmp 71) 22 (by kernel_rfl) (by kernel_rfl) (by kernel_rfl) hO9 ?_
      (try simp only [Act.put, List.setIfInBounds_toArray, List.set_cons_zero, List.set_cons_succ])
      refine hl_pure 21 #[true, true, true, true, true, true, true, true, true, true, true, true, true, true, true, true, true, true, true, true, true, true, false] (by kernel_rfl) rfl (some 73) (by kernel_rfl) (by kernel_rfl) (by kernel_rfl) (by kernel_rfl) (.bool true) (by kernel_rfl) (fun _ => by kernel_rfl) hO9 ?_
      (try simp only [Act.put, List.setIfInBounds_toArray, List.set_cons_zero, List.set_cons_succ])
      refine hl_pure 22 #[true, true, true, true, true, true, true, true, true, true, true, true, true, true, true, true, true, true, true, true, true, true, true] (by kernel_rfl) rfl (some 4) (by kernel_rfl) (by kernel_rfl) (by kernel_rfl) (by kernel_rfl) (.bool true) (by kernel_rfl) (fun _ => by kernel_rfl) hO9 ?_
      (try simp only [Act.put, List.setIfInBounds_toArray, List.set_cons_zero, List.set_cons_succ])
      refine hl_done (by kernel_rfl) ?_
      show Code.wp _ _ _ _ _
      refine wp_ret ?_
      (try simp only [Exit.then, Exit.inBlock])
      refine bodyPost_ret (results_tmp rfl _ _ _) rfl ?_
      exact ⟨rfl, hO9.bl⟩
end Go.Proofs.Ytkmgdpbmkbpkjaa
