/-
  Poly1305: a product.
-/
import Derived.Test.YtkmgdpbmkbpkjaaDoorVa
import Derived.Test.YtkmgdpbmkbpkjaaDoorWl
import Derived.Test.YtkmgdpbmkbpkjaaDoorGNum
set_option linter.unusedVariables false
set_option linter.unusedSimpArgs false
namespace Go.Proofs.YtkmgdpbmkbpkjaaDoor
open Go.RowKit

def mh (x y : Int) : Int := ((mulH x.toNat y.toNat : Nat) : Int)
def ml (x y : Int) : Int := ((mulL x.toNat y.toNat : Nat) : Int)
theorem R64.mh {x y : Int} (hx : R64 x) (hy : R64 y) : R64 (mh x y) := by
  obtain ⟨m, rfl, hm⟩ := hx.nat
  obtain ⟨n, rfl, hn⟩ := hy.nat
  have := mulH_lt m n hm hn
  unfold Go.Proofs.YtkmgdpbmkbpkjaaDoor.mh R64 U at *
  simp only [Int.toNat_natCast]
  omega
theorem R64.ml (x y : Int) : R64 (ml x y) := by
  have := mulL_lt x.toNat y.toNat
  unfold Go.Proofs.YtkmgdpbmkbpkjaaDoor.ml R64 U at *
  omega
theorem R64.mod (x : Int) : R64 (x % 18446744073709551616) := by unfold R64; omega
theorem mul64_i (x y : Int) (hx : R64 x) (hy : R64 y) (w : World) : Ret Tryd.prog 71 #[.int .u64 x, .int .u64 y] w (.tuple #[.int .u64 (mh x y), .int .u64 (ml x y)]) := by
  obtain ⟨m, rfl, hm⟩ := hx.nat
  obtain ⟨n, rfl, hn⟩ := hy.nat
  refine Calls.mono (mul64_any m n hm hn w) ?_
  rintro e w' ⟨rfl, rfl⟩
  exact ⟨by unfold mh ml; simp only [Int.toNat_natCast], Below.refl _ _⟩
/-- One word's products; all of them. -/
def tmS (a b x c : Int) : Int × Int := (((ml a b + x + 0) % 18446744073709551616 + c + 0) % 18446744073709551616, ia .u64 (ia .u64 (mh a b) ((ml a b + x + 0) / 18446744073709551616)) (((ml a b + x + 0) % 18446744073709551616 + c + 0) / 18446744073709551616))
def tmK (n r : Nat → Int) (i : Nat) (w : Nat → Int) : Nat → (Nat → Int) × Int
  | 0 => (w, 0)
  | k + 1 => let p := tmK n r i w k
    (upd p.1 (i + k) (tmS (n i) (r k) (p.1 (i + k)) p.2).1, (tmS (n i) (r k) (p.1 (i + k)) p.2).2)
def tmI (n r : Nat → Int) : Nat → (Nat → Int)
  | 0 => zF
  | i + 1 => upd (tmK n r i (tmI n r i) 2).1 (i + 2) (ia .u64 ((tmK n r i (tmI n r i) 2).1 (i + 2)) (tmK n r i (tmI n r i) 2).2)
theorem R64.upd {f : Nat → Int} {i : Nat} {x : Int} (h : ∀ j, R64 (f j)) (hx : R64 x) : ∀ j, R64 (upd f i x j) := fun j => by
  unfold Go.Proofs.YtkmgdpbmkbpkjaaDoor.upd
  split
  · exact hx
  · exact h j
theorem tmK_R64 {n r : Nat → Int} {i : Nat} {w : Nat → Int} (h : ∀ j, R64 (w j)) : ∀ k, (∀ j, R64 ((tmK n r i w k).1 j)) ∧ R64 (tmK n r i w k).2
  | 0 => ⟨h, show R64 (0 : Int) from ⟨by decide, by decide⟩⟩
  | k + 1 => ⟨R64.upd (tmK_R64 h k).1 (.mod _), .ia _ _⟩
theorem tmI_R64 {n r : Nat → Int} : ∀ i j, R64 (tmI n r i j)
  | 0, j => by show R64 0; unfold R64; decide
  | i + 1, j => R64.upd (tmK_R64 (tmI_R64 i) 2).1 (.ia _ _) j
theorem lit3_R64 {a b c : Int} (ha : R64 a) (hb : R64 b) (hc : R64 c) : ∀ j, R64 (lit3 a b c j) := fun j => by
  unfold lit3
  split
  · exact ha
  · exact hb
  · exact hc
def tmLow (w : Nat → Int) : Nat → Int := lit3 (w 0) (w 1) (iand .u64 (w 2) 3)
def tmFour (w : Nat → Int) : Nat → Int := lit3 (iandn .u64 (w 2) 3) (w 3) (w 4)
def tmOne (w : Nat → Int) : Nat → Int := lit3 (ior .u64 (ishr (w 2) 2) (ishl .u64 (w 3) 62)) (ior .u64 (ishr (w 3) 2) (ishl .u64 (w 4) 62)) (ishr (w 4) 2)
theorem tmLow_R64 {w : Nat → Int} (h : ∀ j, R64 (w j)) : ∀ j, R64 (tmLow w j) := lit3_R64 (h 0) (h 1) (.iand _ _)
theorem tmFour_R64 {w : Nat → Int} (h : ∀ j, R64 (w j)) : ∀ j, R64 (tmFour w j) := lit3_R64 (.iandn _ _) (h 3) (h 4)
theorem tmOne_R64 {w : Nat → Int} (h : ∀ j, R64 (w j)) : ∀ j, R64 (tmOne w j) := lit3_R64 (.ior _ _) (.ior _ _) ((h 4).ishr 2)
def timesF (n r : Nat → Int) : Nat → Int := pls (pls (tmLow (tmI n r 3)) (tmFour (tmI n r 3)) 3) (tmOne (tmI n r 3)) 3
theorem timesF_R64 (n r : Nat → Int) {j : Nat} (hj : j < 3) : R64 (timesF n r j) := pls_R64 3 j (.inl hj)
set_option maxRecDepth 100000 in
set_option maxHeartbeats 4000000 in
theorem tmul_any {n r : Nat → Int} (hn : ∀ j, j < 3 → R64 (n j)) (hr : ∀ j, j < 2 → R64 (r j)) (w : World) : Ret Tryd.prog 65 #[.agg (aF .u64 3 n), .agg (aF .u64 2 r)] w (.agg (aF .u64 3 (timesF n r))) := by
  unfold Ret
  refine calls_of_wp Tryd.func65 rfl ?_
  simp only [Tryd.ntmps65, List.size_toArray, List.length_cons, List.length_nil, Nat.reduceAdd, Nat.reduceSub, Array.replicate_succ, Array.replicate_zero, List.push_toArray, List.append_toArray, List.nil_append, List.cons_append]
  have hO := Own.nil w
  refine wp_seq ?_
  refine wl_region ?_
  refine wl_runs rfl (r_new 104 (aF .u64 3 n) (by kernel_rfl) hO) fun g1 w1 hO1 => ?_
  clear hO
  try simp only [List.nil_append, List.cons_append] at hO1
  try simp only [p0, p1, p2, p3]
  refine wl_runs rfl (r_new 102 (aF .u64 2 r) (by kernel_rfl) hO1) fun g2 w2 hO2 => ?_
  clear hO1
  try simp only [List.nil_append, List.cons_append] at hO2
  try simp only [p0, p1, p2, p3]
  refine wl_runs rfl (r_new 104 (aF .u64 3 zF) (by kernel_rfl) hO2) fun g3 w3 hO3 => ?_
  clear hO2
  try simp only [List.nil_append, List.cons_append] at hO3
  try simp only [p0, p1, p2, p3]
  refine wl_nil ?_
  show Code.wp _ _ _ _ _
  refine wp_seq ?_
  refine wl_region ?_
  refine wl_runs rfl (r_new 69 (aF .u64 5 zF) (by kernel_rfl) hO3) fun g4 w4 hO4 => ?_
  clear hO3
  try simp only [List.nil_append, List.cons_append] at hO4
  try simp only [p0, p1, p2, p3]
  refine wl_nil ?_
  show Code.wp _ _ _ _ _
  refine wp_seq ?_
  refine wp_seq ?_
  refine wl_region ?_
  refine wl_pure (.agg (aF .u64 3 n)) rfl (run_row (hO4.get (.tail _ (.tail _ (.tail _ (.head _))))) Tryd.underlying104 rfl (by kernel_rfl) rfl (by kernel_rfl)) ?_
  try simp only [p0, p1, p2, p3]
  refine wl_pure (.int .i64 0) rfl (by kernel_rfl) ?_
  try simp only [p0, p1, p2, p3]
  refine wl_nil ?_
  show Code.wp _ _ _ _ _
  go_wp2_with fail
  go_loopw [18] (fun v5_18 wr5 => ∃ (i : Nat), i ≤ 3 ∧ v5_18 = .int .i64 ((i : Nat) : Int) ∧ Own w ((g4, 69, (aF .u64 5 (tmI n r i))) :: (g3, 104, (aF .u64 3 zF)) :: (g2, 102, (aF .u64 2 r)) :: (g1, 104, (aF .u64 3 n)) :: []) wr5) (fun v5_18 wr5 => 3 - (intOf v5_18).toNat)
  case atStart => exact ⟨0, by omega, rfl, hO4⟩
  case round =>
    try clear hO4
    obtain ⟨i, hf5_0, rfl, hO5⟩ := hrel
    by_cases hm5 : i < 3
    · have hm5' := hm5
      refine wp_seq ?_
      refine wl_region ?_
      refine wl_pure (.bool true) rfl (i_lss (k := .i64) ((i : Nat) : Int) 3 true (decide_eq_true (by omega)) rfl (by kernel_rfl) (by kernel_rfl) _) ?_
      try simp only [p0, p1, p2, p3]
      refine wl_nil ?_
      show Code.wp _ _ _ _ _
      refine wp_seq ?_
      refine wp_cond_true rfl ?_
      refine wp_skip ?_
      show Code.wp _ _ _ _ _
      refine wp_seq ?_
      refine wp_block ?_
      refine wp_seq ?_
      refine wl_region ?_
      refine wl_pure (.int .i64 ((i : Nat) : Int)) rfl (by kernel_rfl) ?_
      try simp only [p0, p1, p2, p3]
      refine wl_pure (.int .u64 (n i)) rfl (a_idx Tryd.underlying104 (by kernel_rfl) (fun _ => by kernel_rfl) i (by omega) rfl (by kernel_rfl) (by kernel_rfl) _) ?_
      try simp only [p0, p1, p2, p3]
      refine wl_pure (.int .i64 ((i : Nat) : Int)) rfl (by kernel_rfl) ?_
      try simp only [p0, p1, p2, p3]
      refine wl_pure (.int .u64 (n i)) rfl (by kernel_rfl) ?_
      try simp only [p0, p1, p2, p3]
      refine wl_nil ?_
      show Code.wp _ _ _ _ _
      refine wp_seq ?_
      refine wl_region ?_
      refine wl_pure (.int .u64 0) rfl (by kernel_rfl) ?_
      try simp only [p0, p1, p2, p3]
      refine wl_nil ?_
      show Code.wp _ _ _ _ _
      refine wp_seq ?_
      refine wp_seq ?_
      refine wl_region ?_
      refine wl_pure (.agg (aF .u64 2 r)) rfl (run_row (hO5.get (.tail _ (.tail _ (.head _)))) Tryd.underlying102 rfl (by kernel_rfl) rfl (by kernel_rfl)) ?_
      try simp only [p0, p1, p2, p3]
      refine wl_pure (.int .i64 0) rfl (by kernel_rfl) ?_
      try simp only [p0, p1, p2, p3]
      refine wl_nil ?_
      show Code.wp _ _ _ _ _
      go_wp2_with fail
      go_loopw [8, 23] (fun v6_8 v6_23 wr6 => ∃ (k : Nat), k ≤ 2 ∧ v6_8 = .int .u64 ((tmK n r i (tmI n r i) k).2) ∧ v6_23 = .int .i64 ((k : Nat) : Int) ∧ Own w ((g4, 69, (aF .u64 5 (tmK n r i (tmI n r i) k).1)) :: (g3, 104, (aF .u64 3 zF)) :: (g2, 102, (aF .u64 2 r)) :: (g1, 104, (aF .u64 3 n)) :: []) wr6) (fun v6_8 v6_23 wr6 => 2 - (intOf v6_23).toNat)
      case atStart => exact ⟨0, by omega, rfl, rfl, hO5⟩
      case round =>
        try clear hO5
        obtain ⟨k, hf6_0, rfl, rfl, hO6⟩ := hrel
        by_cases hm6 : k < 2
        · have hm6' := hm6
          refine wp_seq ?_
          refine wl_region ?_
          refine wl_pure (.bool true) rfl (i_lss (k := .i64) ((k : Nat) : Int) 2 true (decide_eq_true (by omega)) rfl (by kernel_rfl) (by kernel_rfl) _) ?_
          try simp only [p0, p1, p2, p3]
          refine wl_nil ?_
          show Code.wp _ _ _ _ _
          refine wp_seq ?_
          refine wp_cond_true rfl ?_
          refine wp_skip ?_
          show Code.wp _ _ _ _ _
          refine wp_seq ?_
          refine wp_block ?_
          refine wp_seq ?_
          refine wl_region ?_
          refine wl_pure (.int .i64 ((k : Nat) : Int)) rfl (by kernel_rfl) ?_
          try simp only [p0, p1, p2, p3]
          refine wl_pure (.int .u64 (r k)) rfl (a_idx Tryd.underlying102 (by kernel_rfl) (fun _ => by kernel_rfl) k (by omega) rfl (by kernel_rfl) (by kernel_rfl) _) ?_
          try simp only [p0, p1, p2, p3]
          refine wl_pure (.int .i64 ((k : Nat) : Int)) rfl (by kernel_rfl) ?_
          try simp only [p0, p1, p2, p3]
          refine wl_pure (.int .u64 (r k)) rfl (by kernel_rfl) ?_
          try simp only [p0, p1, p2, p3]
          refine wl_nil ?_
          show Code.wp _ _ _ _ _
          refine wp_seq ?_
          refine wl_region ?_
          refine wl_pure (.int .u64 (n i)) rfl (by kernel_rfl) ?_
          try simp only [p0, p1, p2, p3]
          refine wl_pure (.int .u64 (r k)) rfl (by kernel_rfl) ?_
          try simp only [p0, p1, p2, p3]
          refine wl_runs rfl (r_call (args := #[.int .u64 (n i), .int .u64 (r k)]) (u := .tuple #[.int .u64 (mh (n i) (r k)), .int .u64 (ml (n i) (r k))]) (by kernel_rfl) (mul64_i (n i) (r k) (hn i (by omega)) (hr k (by omega)) wr) hO6) fun _ w7 hO7 => ?_
          clear hO6
          try simp only [List.nil_append, List.cons_append] at hO7
          try simp only [p0, p1, p2, p3]
          refine wl_pure (.tuple #[.int .u64 (mh (n i) (r k)), .int .u64 (ml (n i) (r k))]) rfl (by kernel_rfl) ?_
          try simp only [p0, p1, p2, p3]
          refine wl_pure (.int .u64 (mh (n i) (r k))) rfl (by kernel_rfl) ?_
          try simp only [p0, p1, p2, p3]
          refine wl_pure (.int .u64 (ml (n i) (r k))) rfl (by kernel_rfl) ?_
          try simp only [p0, p1, p2, p3]
          refine wl_pure (.int .u64 (mh (n i) (r k))) rfl (by kernel_rfl) ?_
          try simp only [p0, p1, p2, p3]
          refine wl_pure (.int .u64 (ml (n i) (r k))) rfl (by kernel_rfl) ?_
          try simp only [p0, p1, p2, p3]
          refine wl_nil ?_
          show Code.wp _ _ _ _ _
          refine wp_seq ?_
          refine wl_region ?_
          refine wl_pure (.int .u64 0) rfl (by kernel_rfl) ?_
          try simp only [p0, p1, p2, p3]
          refine wl_nil ?_
          show Code.wp _ _ _ _ _
          refine wp_seq ?_
          refine wl_region ?_
          refine wl_pure (.int .u64 (ml (n i) (r k))) rfl (by kernel_rfl) ?_
          try simp only [p0, p1, p2, p3]
          refine wl_pure (.int .i64 ((i : Nat) : Int)) rfl (by kernel_rfl) ?_
          try simp only [p0, p1, p2, p3]
          refine wl_pure (.int .i64 ((k : Nat) : Int)) rfl (by kernel_rfl) ?_
          try simp only [p0, p1, p2, p3]
          refine wl_pure (.int .i64 ((i + k : Nat) : Int)) rfl (n_add (k := .i64) rfl i k (by omega) rfl (by kernel_rfl) (by kernel_rfl) _) ?_
          try simp only [p0, p1, p2, p3]
          refine wl_pure (.pointer (some ⟨g4, i + k, none⟩)) rfl (p_idx0 Tryd.underlying69 (by kernel_rfl) (i + k) (by omega) rfl (by kernel_rfl) (by kernel_rfl) _) ?_
          try simp only [p0, p1, p2, p3]
          refine wl_pure (.int .u64 ((tmK n r i (tmI n r i) k).1 (i + k))) rfl (run_cell (own_cell hO7 (.head _) (i + k) (by omega)) (by kernel_rfl) rfl (by kernel_rfl)) ?_
          try simp only [p0, p1, p2, p3]
          have ea := add64_i (ml (n i) (r k)) ((tmK n r i (tmI n r i) k).1 (i + k)) 0 (.ml _ _) ((tmK_R64 (tmI_R64 i) k).1 _) (by decide) w7
          refine wl_runs rfl (r_pure (u := .tuple #[.int .u64 (((ml (n i) (r k)) + ((tmK n r i (tmI n r i) k).1 (i + k)) + 0) % 18446744073709551616), .int .u64 (((ml (n i) (r k)) + ((tmK n r i (tmI n r i) k).1 (i + k)) + 0) / 18446744073709551616)]) ((show _ = (callFunc 70 #[.int .u64 (ml (n i) (r k)), .int .u64 ((tmK n r i (tmI n r i) k).1 (i + k)), .int .u64 0]).run Tryd.prog w7 by kernel_rfl).trans ea) hO7) fun _ w8 hO8 => ?_
          clear hO7
          try simp only [List.nil_append, List.cons_append] at hO8
          clear ea
          try simp only [p0, p1, p2, p3]
          refine wl_pure (.tuple #[.int .u64 (((ml (n i) (r k)) + ((tmK n r i (tmI n r i) k).1 (i + k)) + 0) % 18446744073709551616), .int .u64 (((ml (n i) (r k)) + ((tmK n r i (tmI n r i) k).1 (i + k)) + 0) / 18446744073709551616)]) rfl (by kernel_rfl) ?_
          try simp only [p0, p1, p2, p3]
          refine wl_pure (.int .u64 (((ml (n i) (r k)) + ((tmK n r i (tmI n r i) k).1 (i + k)) + 0) % 18446744073709551616)) rfl (by kernel_rfl) ?_
          try simp only [p0, p1, p2, p3]
          refine wl_pure (.int .u64 (((ml (n i) (r k)) + ((tmK n r i (tmI n r i) k).1 (i + k)) + 0) / 18446744073709551616)) rfl (by kernel_rfl) ?_
          try simp only [p0, p1, p2, p3]
          refine wl_pure (.int .u64 (((ml (n i) (r k)) + ((tmK n r i (tmI n r i) k).1 (i + k)) + 0) % 18446744073709551616)) rfl (by kernel_rfl) ?_
          try simp only [p0, p1, p2, p3]
          refine wl_pure (.int .u64 (((ml (n i) (r k)) + ((tmK n r i (tmI n r i) k).1 (i + k)) + 0) / 18446744073709551616)) rfl (by kernel_rfl) ?_
          try simp only [p0, p1, p2, p3]
          refine wl_nil ?_
          show Code.wp _ _ _ _ _
          refine wp_seq ?_
          refine wl_region ?_
          refine wl_pure (.int .u64 (mh (n i) (r k))) rfl (by kernel_rfl) ?_
          try simp only [p0, p1, p2, p3]
          refine wl_pure (.int .u64 (((ml (n i) (r k)) + ((tmK n r i (tmI n r i) k).1 (i + k)) + 0) / 18446744073709551616)) rfl (by kernel_rfl) ?_
          try simp only [p0, p1, p2, p3]
          refine wl_pure (.int .u64 (ia .u64 (mh (n i) (r k)) (((ml (n i) (r k)) + ((tmK n r i (tmI n r i) k).1 (i + k)) + 0) / 18446744073709551616))) rfl (by kernel_rfl) ?_
          try simp only [p0, p1, p2, p3]
          refine wl_pure (.int .u64 (ia .u64 (mh (n i) (r k)) (((ml (n i) (r k)) + ((tmK n r i (tmI n r i) k).1 (i + k)) + 0) / 18446744073709551616))) rfl (by kernel_rfl) ?_
          try simp only [p0, p1, p2, p3]
          refine wl_nil ?_
          show Code.wp _ _ _ _ _
          refine wp_seq ?_
          refine wl_region ?_
          refine wl_pure (.int .u64 (((ml (n i) (r k)) + ((tmK n r i (tmI n r i) k).1 (i + k)) + 0) % 18446744073709551616)) rfl (by kernel_rfl) ?_
          try simp only [p0, p1, p2, p3]
          refine wl_pure (.int .u64 ((tmK n r i (tmI n r i) k).2)) rfl (by kernel_rfl) ?_
          try simp only [p0, p1, p2, p3]
          have ea := add64_i (((ml (n i) (r k)) + ((tmK n r i (tmI n r i) k).1 (i + k)) + 0) % 18446744073709551616) ((tmK n r i (tmI n r i) k).2) 0 (.mod _) (tmK_R64 (tmI_R64 i) k).2 (by decide) w8
          refine wl_runs rfl (r_pure (u := .tuple #[.int .u64 (((((ml (n i) (r k)) + ((tmK n r i (tmI n r i) k).1 (i + k)) + 0) % 18446744073709551616) + ((tmK n r i (tmI n r i) k).2) + 0) % 18446744073709551616), .int .u64 (((((ml (n i) (r k)) + ((tmK n r i (tmI n r i) k).1 (i + k)) + 0) % 18446744073709551616) + ((tmK n r i (tmI n r i) k).2) + 0) / 18446744073709551616)]) ((show _ = (callFunc 70 #[.int .u64 (((ml (n i) (r k)) + ((tmK n r i (tmI n r i) k).1 (i + k)) + 0) % 18446744073709551616), .int .u64 ((tmK n r i (tmI n r i) k).2), .int .u64 0]).run Tryd.prog w8 by kernel_rfl).trans ea) hO8) fun _ w9 hO9 => ?_
          clear hO8
          try simp only [List.nil_append, List.cons_append] at hO9
          clear ea
          try simp only [p0, p1, p2, p3]
          refine wl_pure (.tuple #[.int .u64 (((((ml (n i) (r k)) + ((tmK n r i (tmI n r i) k).1 (i + k)) + 0) % 18446744073709551616) + ((tmK n r i (tmI n r i) k).2) + 0) % 18446744073709551616), .int .u64 (((((ml (n i) (r k)) + ((tmK n r i (tmI n r i) k).1 (i + k)) + 0) % 18446744073709551616) + ((tmK n r i (tmI n r i) k).2) + 0) / 18446744073709551616)]) rfl (by kernel_rfl) ?_
          try simp only [p0, p1, p2, p3]
          refine wl_pure (.int .u64 (((((ml (n i) (r k)) + ((tmK n r i (tmI n r i) k).1 (i + k)) + 0) % 18446744073709551616) + ((tmK n r i (tmI n r i) k).2) + 0) % 18446744073709551616)) rfl (by kernel_rfl) ?_
          try simp only [p0, p1, p2, p3]
          refine wl_pure (.int .u64 (((((ml (n i) (r k)) + ((tmK n r i (tmI n r i) k).1 (i + k)) + 0) % 18446744073709551616) + ((tmK n r i (tmI n r i) k).2) + 0) / 18446744073709551616)) rfl (by kernel_rfl) ?_
          try simp only [p0, p1, p2, p3]
          refine wl_pure (.int .u64 (((((ml (n i) (r k)) + ((tmK n r i (tmI n r i) k).1 (i + k)) + 0) % 18446744073709551616) + ((tmK n r i (tmI n r i) k).2) + 0) % 18446744073709551616)) rfl (by kernel_rfl) ?_
          try simp only [p0, p1, p2, p3]
          refine wl_pure (.int .u64 (((((ml (n i) (r k)) + ((tmK n r i (tmI n r i) k).1 (i + k)) + 0) % 18446744073709551616) + ((tmK n r i (tmI n r i) k).2) + 0) / 18446744073709551616)) rfl (by kernel_rfl) ?_
          try simp only [p0, p1, p2, p3]
          refine wl_nil ?_
          show Code.wp _ _ _ _ _
          refine wp_seq ?_
          refine wl_region ?_
          refine wl_pure (.int .u64 (ia .u64 (mh (n i) (r k)) (((ml (n i) (r k)) + ((tmK n r i (tmI n r i) k).1 (i + k)) + 0) / 18446744073709551616))) rfl (by kernel_rfl) ?_
          try simp only [p0, p1, p2, p3]
          refine wl_pure (.int .u64 (((((ml (n i) (r k)) + ((tmK n r i (tmI n r i) k).1 (i + k)) + 0) % 18446744073709551616) + ((tmK n r i (tmI n r i) k).2) + 0) / 18446744073709551616)) rfl (by kernel_rfl) ?_
          try simp only [p0, p1, p2, p3]
          refine wl_pure (.int .u64 (ia .u64 (ia .u64 (mh (n i) (r k)) (((ml (n i) (r k)) + ((tmK n r i (tmI n r i) k).1 (i + k)) + 0) / 18446744073709551616)) (((((ml (n i) (r k)) + ((tmK n r i (tmI n r i) k).1 (i + k)) + 0) % 18446744073709551616) + ((tmK n r i (tmI n r i) k).2) + 0) / 18446744073709551616))) rfl (by kernel_rfl) ?_
          try simp only [p0, p1, p2, p3]
          refine wl_pure (.int .u64 (ia .u64 (ia .u64 (mh (n i) (r k)) (((ml (n i) (r k)) + ((tmK n r i (tmI n r i) k).1 (i + k)) + 0) / 18446744073709551616)) (((((ml (n i) (r k)) + ((tmK n r i (tmI n r i) k).1 (i + k)) + 0) % 18446744073709551616) + ((tmK n r i (tmI n r i) k).2) + 0) / 18446744073709551616))) rfl (by kernel_rfl) ?_
          try simp only [p0, p1, p2, p3]
          refine wl_nil ?_
          show Code.wp _ _ _ _ _
          refine wl_region ?_
          refine wl_pure (.int .i64 ((i : Nat) : Int)) rfl (by kernel_rfl) ?_
          try simp only [p0, p1, p2, p3]
          refine wl_pure (.int .i64 ((k : Nat) : Int)) rfl (by kernel_rfl) ?_
          try simp only [p0, p1, p2, p3]
          refine wl_pure (.int .i64 ((i + k : Nat) : Int)) rfl (n_add (k := .i64) rfl i k (by omega) rfl (by kernel_rfl) (by kernel_rfl) _) ?_
          try simp only [p0, p1, p2, p3]
          refine wl_pure (.int .u64 (((((ml (n i) (r k)) + ((tmK n r i (tmI n r i) k).1 (i + k)) + 0) % 18446744073709551616) + ((tmK n r i (tmI n r i) k).2) + 0) % 18446744073709551616)) rfl (by kernel_rfl) ?_
          try simp only [p0, p1, p2, p3]
          refine wl_pure (.pointer (some ⟨g4, i + k, none⟩)) rfl (p_idx0 Tryd.underlying69 (by kernel_rfl) (i + k) (by omega) rfl (by kernel_rfl) (by kernel_rfl) _) ?_
          try simp only [p0, p1, p2, p3]
          refine wl_runs rfl (r_st (L1 := []) (L2 := ((g3, 104, (aF .u64 3 zF)) :: (g2, 102, (aF .u64 2 r)) :: (g1, 104, (aF .u64 3 n)) :: [])) (f := (tmK n r i (tmI n r i) k).1) (n := 5) (i + k) (((((ml (n i) (r k)) + ((tmK n r i (tmI n r i) k).1 (i + k)) + 0) % 18446744073709551616) + ((tmK n r i (tmI n r i) k).2) + 0) % 18446744073709551616) (by omega) rfl (by kernel_rfl) (by kernel_rfl) hO9 (by kernel_rfl)) fun _ w10 hO10 => ?_
          clear hO9
          try simp only [List.nil_append, List.cons_append] at hO10
          try simp only [p0, p1, p2, p3]
          refine wl_nil ?_
          show Code.wp _ _ _ _ _
          refine wl_region ?_
          refine wl_pure (.int .i64 ((k + 1 : Nat) : Int)) rfl (n_add (k := .i64) rfl k 1 (by omega) rfl (by kernel_rfl) (by kernel_rfl) _) ?_
          try simp only [p0, p1, p2, p3]
          refine wl_pure (.int .i64 ((k + 1 : Nat) : Int)) rfl (by kernel_rfl) ?_
          try simp only [p0, p1, p2, p3]
          refine wl_nil ?_
          try simp only [Exit.then, Exit.inBlock]
          go_roundw
          case rel => exact ⟨k + 1, by omega, rfl, rfl, hO10⟩
          case measure => simp [intOf]; omega
        · have hm6' := hm6
          obtain rfl : k = 2 := by omega
          refine wp_seq ?_
          refine wl_region ?_
          refine wl_pure (.bool false) rfl (by kernel_rfl) ?_
          try simp only [p0, p1, p2, p3]
          refine wl_nil ?_
          show Code.wp _ _ _ _ _
          refine wp_seq ?_
          refine wp_cond_false rfl ?_
          refine wp_exit ?_
          simp only [Exit.then, Exit.inBlock, if_true]
          show Code.wp _ _ _ _ _
          refine wl_region ?_
          refine wl_pure (.int .i64 ((i : Nat) : Int)) rfl (by kernel_rfl) ?_
          try simp only [p0, p1, p2, p3]
          refine wl_pure (.int .i64 ((i + 2 : Nat) : Int)) rfl (n_add (k := .i64) rfl i 2 (by omega) rfl (by kernel_rfl) (by kernel_rfl) _) ?_
          try simp only [p0, p1, p2, p3]
          refine wl_pure (.pointer (some ⟨g4, i + 2, none⟩)) rfl (p_idx0 Tryd.underlying69 (by kernel_rfl) (i + 2) (by omega) rfl (by kernel_rfl) (by kernel_rfl) _) ?_
          try simp only [p0, p1, p2, p3]
          refine wl_pure (.int .u64 ((tmK n r i (tmI n r i) 2).1 (i + 2))) rfl (run_cell (own_cell hO6 (.head _) (i + 2) (by omega)) (by kernel_rfl) rfl (by kernel_rfl)) ?_
          try simp only [p0, p1, p2, p3]
          refine wl_pure (.int .u64 ((tmK n r i (tmI n r i) 2).2)) rfl (by kernel_rfl) ?_
          try simp only [p0, p1, p2, p3]
          refine wl_pure (.int .u64 (ia .u64 ((tmK n r i (tmI n r i) 2).1 (i + 2)) ((tmK n r i (tmI n r i) 2).2))) rfl (by kernel_rfl) ?_
          try simp only [p0, p1, p2, p3]
          refine wl_pure (.pointer (some ⟨g4, i + 2, none⟩)) rfl (p_idx0 Tryd.underlying69 (by kernel_rfl) (i + 2) (by omega) rfl (by kernel_rfl) (by kernel_rfl) _) ?_
          try simp only [p0, p1, p2, p3]
          refine wl_runs rfl (r_st (L1 := []) (L2 := ((g3, 104, (aF .u64 3 zF)) :: (g2, 102, (aF .u64 2 r)) :: (g1, 104, (aF .u64 3 n)) :: [])) (f := (tmK n r i (tmI n r i) 2).1) (n := 5) (i + 2) (ia .u64 ((tmK n r i (tmI n r i) 2).1 (i + 2)) ((tmK n r i (tmI n r i) 2).2)) (by omega) rfl (by kernel_rfl) (by kernel_rfl) hO6 (by kernel_rfl)) fun _ w11 hO11 => ?_
          clear hO6
          try simp only [List.nil_append, List.cons_append] at hO11
          try simp only [p0, p1, p2, p3]
          refine wl_nil ?_
          show Code.wp _ _ _ _ _
          refine wl_region ?_
          refine wl_pure (.int .i64 ((i + 1 : Nat) : Int)) rfl (n_add (k := .i64) rfl i 1 (by omega) rfl (by kernel_rfl) (by kernel_rfl) _) ?_
          try simp only [p0, p1, p2, p3]
          refine wl_pure (.int .i64 ((i + 1 : Nat) : Int)) rfl (by kernel_rfl) ?_
          try simp only [p0, p1, p2, p3]
          refine wl_nil ?_
          try simp only [Exit.then, Exit.inBlock]
          go_roundw
          case rel => exact ⟨i + 1, by omega, rfl, hO11⟩
          case measure => simp [intOf]; omega
    · have hm5' := hm5
      obtain rfl : i = 3 := by omega
      refine wp_seq ?_
      refine wl_region ?_
      refine wl_pure (.bool false) rfl (by kernel_rfl) ?_
      try simp only [p0, p1, p2, p3]
      refine wl_nil ?_
      show Code.wp _ _ _ _ _
      refine wp_seq ?_
      refine wp_cond_false rfl ?_
      refine wp_exit ?_
      simp only [Exit.then, Exit.inBlock, if_true]
      have hW := tmI_R64 (n := n) (r := r) 3
      show Code.wp _ _ _ _ _
      refine wp_seq ?_
      refine wl_region ?_
      refine wl_pure (.pointer (some ⟨g4, 0, none⟩)) rfl (by kernel_rfl) ?_
      try simp only [p0, p1, p2, p3]
      refine wl_pure (.int .u64 ((tmI n r 3) 0)) rfl (run_cell (own_cell hO5 (.head _) 0 (by decide)) (by kernel_rfl) rfl (by kernel_rfl)) ?_
      try simp only [p0, p1, p2, p3]
      refine wl_pure (.pointer (some ⟨g4, 1, none⟩)) rfl (by kernel_rfl) ?_
      try simp only [p0, p1, p2, p3]
      refine wl_pure (.int .u64 ((tmI n r 3) 1)) rfl (run_cell (own_cell hO5 (.head _) 1 (by decide)) (by kernel_rfl) rfl (by kernel_rfl)) ?_
      try simp only [p0, p1, p2, p3]
      refine wl_pure (.pointer (some ⟨g4, 2, none⟩)) rfl (by kernel_rfl) ?_
      try simp only [p0, p1, p2, p3]
      refine wl_pure (.int .u64 ((tmI n r 3) 2)) rfl (run_cell (own_cell hO5 (.head _) 2 (by decide)) (by kernel_rfl) rfl (by kernel_rfl)) ?_
      try simp only [p0, p1, p2, p3]
      refine wl_pure (.int .u64 (iand .u64 ((tmI n r 3) 2) 3)) rfl (by kernel_rfl) ?_
      try simp only [p0, p1, p2, p3]
      refine wl_pure (.agg (aF .u64 3 (lit3 ((tmI n r 3) 0) ((tmI n r 3) 1) (iand .u64 ((tmI n r 3) 2) 3)))) rfl (by kernel_rfl) ?_
      try simp only [p0, p1, p2, p3]
      refine wl_runs rfl (r_new 104 (aF .u64 3 zF) (by kernel_rfl) hO5) fun g12 w12 hO12 => ?_
      clear hO5
      try simp only [List.nil_append, List.cons_append] at hO12
      try simp only [p0, p1, p2, p3]
      refine wl_runs rfl (r_row (L1 := []) (L2 := ((g4, 69, (aF .u64 5 (tmI n r 3))) :: (g3, 104, (aF .u64 3 zF)) :: (g2, 102, (aF .u64 2 r)) :: (g1, 104, (aF .u64 3 n)) :: [])) (cs := (aF .u64 3 zF)) (aF .u64 3 (lit3 ((tmI n r 3) 0) ((tmI n r 3) 1) (iand .u64 ((tmI n r 3) 2) 3))) rfl (by kernel_rfl) (by kernel_rfl) hO12 (by simp only [size_aF]) (by kernel_rfl) (one_aF _ _ _)) fun _ w13 hO13 => ?_
      clear hO12
      try simp only [List.nil_append, List.cons_append] at hO13
      try simp only [p0, p1, p2, p3]
      refine wl_nil ?_
      show Code.wp _ _ _ _ _
      refine wp_seq ?_
      refine wl_region ?_
      refine wl_pure (.pointer (some ⟨g4, 2, none⟩)) rfl (by kernel_rfl) ?_
      try simp only [p0, p1, p2, p3]
      refine wl_pure (.int .u64 ((tmI n r 3) 2)) rfl (run_cell (own_cell hO13 (.tail _ (.head _)) 2 (by decide)) (by kernel_rfl) rfl (by kernel_rfl)) ?_
      try simp only [p0, p1, p2, p3]
      refine wl_pure (.int .u64 (iandn .u64 ((tmI n r 3) 2) 3)) rfl (by kernel_rfl) ?_
      try simp only [p0, p1, p2, p3]
      refine wl_pure (.pointer (some ⟨g4, 3, none⟩)) rfl (by kernel_rfl) ?_
      try simp only [p0, p1, p2, p3]
      refine wl_pure (.int .u64 ((tmI n r 3) 3)) rfl (run_cell (own_cell hO13 (.tail _ (.head _)) 3 (by decide)) (by kernel_rfl) rfl (by kernel_rfl)) ?_
      try simp only [p0, p1, p2, p3]
      refine wl_pure (.pointer (some ⟨g4, 4, none⟩)) rfl (by kernel_rfl) ?_
      try simp only [p0, p1, p2, p3]
      refine wl_pure (.int .u64 ((tmI n r 3) 4)) rfl (run_cell (own_cell hO13 (.tail _ (.head _)) 4 (by decide)) (by kernel_rfl) rfl (by kernel_rfl)) ?_
      try simp only [p0, p1, p2, p3]
      refine wl_pure (.agg (aF .u64 3 (lit3 (iandn .u64 ((tmI n r 3) 2) 3) ((tmI n r 3) 3) ((tmI n r 3) 4)))) rfl (by kernel_rfl) ?_
      try simp only [p0, p1, p2, p3]
      refine wl_runs rfl (r_new 104 (aF .u64 3 zF) (by kernel_rfl) hO13) fun g14 w14 hO14 => ?_
      clear hO13
      try simp only [List.nil_append, List.cons_append] at hO14
      try simp only [p0, p1, p2, p3]
      refine wl_runs rfl (r_row (L1 := []) (L2 := ((g12, 104, (aF .u64 3 (lit3 ((tmI n r 3) 0) ((tmI n r 3) 1) (iand .u64 ((tmI n r 3) 2) 3)))) :: (g4, 69, (aF .u64 5 (tmI n r 3))) :: (g3, 104, (aF .u64 3 zF)) :: (g2, 102, (aF .u64 2 r)) :: (g1, 104, (aF .u64 3 n)) :: [])) (cs := (aF .u64 3 zF)) (aF .u64 3 (lit3 (iandn .u64 ((tmI n r 3) 2) 3) ((tmI n r 3) 3) ((tmI n r 3) 4))) rfl (by kernel_rfl) (by kernel_rfl) hO14 (by simp only [size_aF]) (by kernel_rfl) (one_aF _ _ _)) fun _ w15 hO15 => ?_
      clear hO14
      try simp only [List.nil_append, List.cons_append] at hO15
      try simp only [p0, p1, p2, p3]
      refine wl_nil ?_
      show Code.wp _ _ _ _ _
      refine wp_seq ?_
      refine wl_region ?_
      refine wl_pure (.pointer (some ⟨g4, 2, none⟩)) rfl (by kernel_rfl) ?_
      try simp only [p0, p1, p2, p3]
      refine wl_pure (.int .u64 ((tmI n r 3) 2)) rfl (run_cell (own_cell hO15 (.tail _ (.tail _ (.head _))) 2 (by decide)) (by kernel_rfl) rfl (by kernel_rfl)) ?_
      try simp only [p0, p1, p2, p3]
      refine wl_pure (.int .u64 (ishr ((tmI n r 3) 2) 2)) rfl (by kernel_rfl) ?_
      try simp only [p0, p1, p2, p3]
      refine wl_pure (.pointer (some ⟨g4, 3, none⟩)) rfl (by kernel_rfl) ?_
      try simp only [p0, p1, p2, p3]
      refine wl_pure (.int .u64 ((tmI n r 3) 3)) rfl (run_cell (own_cell hO15 (.tail _ (.tail _ (.head _))) 3 (by decide)) (by kernel_rfl) rfl (by kernel_rfl)) ?_
      try simp only [p0, p1, p2, p3]
      refine wl_pure (.int .u64 (ishl .u64 ((tmI n r 3) 3) 62)) rfl (by kernel_rfl) ?_
      try simp only [p0, p1, p2, p3]
      refine wl_pure (.int .u64 (ior .u64 (ishr ((tmI n r 3) 2) 2) (ishl .u64 ((tmI n r 3) 3) 62))) rfl (by kernel_rfl) ?_
      try simp only [p0, p1, p2, p3]
      refine wl_pure (.pointer (some ⟨g4, 3, none⟩)) rfl (by kernel_rfl) ?_
      try simp only [p0, p1, p2, p3]
      refine wl_pure (.int .u64 ((tmI n r 3) 3)) rfl (run_cell (own_cell hO15 (.tail _ (.tail _ (.head _))) 3 (by decide)) (by kernel_rfl) rfl (by kernel_rfl)) ?_
      try simp only [p0, p1, p2, p3]
      refine wl_pure (.int .u64 (ishr ((tmI n r 3) 3) 2)) rfl (by kernel_rfl) ?_
      try simp only [p0, p1, p2, p3]
      refine wl_pure (.pointer (some ⟨g4, 4, none⟩)) rfl (by kernel_rfl) ?_
      try simp only [p0, p1, p2, p3]
      refine wl_pure (.int .u64 ((tmI n r 3) 4)) rfl (run_cell (own_cell hO15 (.tail _ (.tail _ (.head _))) 4 (by decide)) (by kernel_rfl) rfl (by kernel_rfl)) ?_
      try simp only [p0, p1, p2, p3]
      refine wl_pure (.int .u64 (ishl .u64 ((tmI n r 3) 4) 62)) rfl (by kernel_rfl) ?_
      try simp only [p0, p1, p2, p3]
      refine wl_pure (.int .u64 (ior .u64 (ishr ((tmI n r 3) 3) 2) (ishl .u64 ((tmI n r 3) 4) 62))) rfl (by kernel_rfl) ?_
      try simp only [p0, p1, p2, p3]
      refine wl_pure (.pointer (some ⟨g4, 4, none⟩)) rfl (by kernel_rfl) ?_
      try simp only [p0, p1, p2, p3]
      refine wl_pure (.int .u64 ((tmI n r 3) 4)) rfl (run_cell (own_cell hO15 (.tail _ (.tail _ (.head _))) 4 (by decide)) (by kernel_rfl) rfl (by kernel_rfl)) ?_
      try simp only [p0, p1, p2, p3]
      refine wl_pure (.int .u64 (ishr ((tmI n r 3) 4) 2)) rfl (by kernel_rfl) ?_
      try simp only [p0, p1, p2, p3]
      refine wl_pure (.agg (aF .u64 3 (lit3 (ior .u64 (ishr ((tmI n r 3) 2) 2) (ishl .u64 ((tmI n r 3) 3) 62)) (ior .u64 (ishr ((tmI n r 3) 3) 2) (ishl .u64 ((tmI n r 3) 4) 62)) (ishr ((tmI n r 3) 4) 2)))) rfl (by kernel_rfl) ?_
      try simp only [p0, p1, p2, p3]
      refine wl_runs rfl (r_new 104 (aF .u64 3 zF) (by kernel_rfl) hO15) fun g16 w16 hO16 => ?_
      clear hO15
      try simp only [List.nil_append, List.cons_append] at hO16
      try simp only [p0, p1, p2, p3]
      refine wl_runs rfl (r_row (L1 := []) (L2 := ((g14, 104, (aF .u64 3 (lit3 (iandn .u64 ((tmI n r 3) 2) 3) ((tmI n r 3) 3) ((tmI n r 3) 4)))) :: (g12, 104, (aF .u64 3 (lit3 ((tmI n r 3) 0) ((tmI n r 3) 1) (iand .u64 ((tmI n r 3) 2) 3)))) :: (g4, 69, (aF .u64 5 (tmI n r 3))) :: (g3, 104, (aF .u64 3 zF)) :: (g2, 102, (aF .u64 2 r)) :: (g1, 104, (aF .u64 3 n)) :: [])) (cs := (aF .u64 3 zF)) (aF .u64 3 (lit3 (ior .u64 (ishr ((tmI n r 3) 2) 2) (ishl .u64 ((tmI n r 3) 3) 62)) (ior .u64 (ishr ((tmI n r 3) 3) 2) (ishl .u64 ((tmI n r 3) 4) 62)) (ishr ((tmI n r 3) 4) 2))) rfl (by kernel_rfl) (by kernel_rfl) hO16 (by simp only [size_aF]) (by kernel_rfl) (one_aF _ _ _)) fun _ w17 hO17 => ?_
      clear hO16
      try simp only [List.nil_append, List.cons_append] at hO17
      try simp only [p0, p1, p2, p3]
      refine wl_nil ?_
      show Code.wp _ _ _ _ _
      refine wp_seq ?_
      refine wd_region [5] (Tr.ofList [(0, 1), (1, 1), (3, 1), (2, 3), (4, 3), (5, 4)] .nil) (by decide) (by kernel_rfl) (by kernel_rfl) hO17 fun w18 hO18 => ?_
      simp only [Tr.ofList]
      try clear hO17
      refine wd_ld (.agg (aF .u64 3 (lit3 ((tmI n r 3) 0) ((tmI n r 3) 1) (iand .u64 ((tmI n r 3) 2) 3)))) rfl (some 103) (by kernel_rfl) (by kernel_rfl) (fun _ hw => run_row (hw.get (.tail _ (.tail _ (.head _)))) Tryd.underlying104 rfl (by kernel_rfl) rfl (by kernel_rfl)) hO18 ?_
      try simp only [p0, p1, p2, p3]
      refine wd_ld (.agg (aF .u64 3 (lit3 (iandn .u64 ((tmI n r 3) 2) 3) ((tmI n r 3) 3) ((tmI n r 3) 4)))) rfl (some 104) (by kernel_rfl) (by kernel_rfl) (fun _ hw => run_row (hw.get (.tail _ (.head _))) Tryd.underlying104 rfl (by kernel_rfl) rfl (by kernel_rfl)) hO18 ?_
      try simp only [p0, p1, p2, p3]
      refine wd_ld (.agg (aF .u64 3 (lit3 (ior .u64 (ishr ((tmI n r 3) 2) 2) (ishl .u64 ((tmI n r 3) 3) 62)) (ior .u64 (ishr ((tmI n r 3) 3) 2) (ishl .u64 ((tmI n r 3) 4) 62)) (ishr ((tmI n r 3) 4) 2)))) rfl (some 106) (by kernel_rfl) (by kernel_rfl) (fun _ hw => run_row (hw.get (.head _)) Tryd.underlying104 rfl (by kernel_rfl) rfl (by kernel_rfl)) hO18 ?_
      try simp only [p0, p1, p2, p3]
      refine wd_runs rfl (some 105) (by kernel_rfl) rfl (r_call (args := #[.agg (aF .u64 3 (lit3 ((tmI n r 3) 0) ((tmI n r 3) 1) (iand .u64 ((tmI n r 3) 2) 3))), .agg (aF .u64 3 (lit3 (iandn .u64 ((tmI n r 3) 2) 3) ((tmI n r 3) 3) ((tmI n r 3) 4)))]) (u := .agg (aF .u64 3 (pls (tmLow (tmI n r 3)) (tmFour (tmI n r 3)) 3))) (by kernel_rfl) (plus_any (f := tmLow (tmI n r 3)) (g := tmFour (tmI n r 3)) (fun j hj => ⟨tmLow_R64 hW j, tmFour_R64 hW j⟩) w18) hO18) (fun _ _ h => h) fun _ w19 hO19 => ?_
      clear hO18
      try simp only [List.nil_append, List.cons_append] at hO19
      try simp only [p0, p1, p2, p3]
      refine wd_runs rfl (some 107) (by kernel_rfl) rfl (r_call (args := #[.agg (aF .u64 3 (pls (tmLow (tmI n r 3)) (tmFour (tmI n r 3)) 3)), .agg (aF .u64 3 (lit3 (ior .u64 (ishr ((tmI n r 3) 2) 2) (ishl .u64 ((tmI n r 3) 3) 62)) (ior .u64 (ishr ((tmI n r 3) 3) 2) (ishl .u64 ((tmI n r 3) 4) 62)) (ishr ((tmI n r 3) 4) 2)))]) (u := .agg (aF .u64 3 (timesF n r))) (by kernel_rfl) (plus_any (f := pls (tmLow (tmI n r 3)) (tmFour (tmI n r 3)) 3) (g := tmOne (tmI n r 3)) (fun j hj => ⟨pls_R64 3 j (.inl hj), tmOne_R64 hW j⟩) w19) hO19) (fun _ _ h => h) fun _ w20 hO20 => ?_
      clear hO19
      try simp only [List.nil_append, List.cons_append] at hO20
      try simp only [p0, p1, p2, p3]
      refine wd_runx rfl none (by kernel_rfl) rfl (r_row (L1 := [(g16, 104, (aF .u64 3 (lit3 (ior .u64 (ishr ((tmI n r 3) 2) 2) (ishl .u64 ((tmI n r 3) 3) 62)) (ior .u64 (ishr ((tmI n r 3) 3) 2) (ishl .u64 ((tmI n r 3) 4) 62)) (ishr ((tmI n r 3) 4) 2)))), (g14, 104, (aF .u64 3 (lit3 (iandn .u64 ((tmI n r 3) 2) 3) ((tmI n r 3) 3) ((tmI n r 3) 4)))), (g12, 104, (aF .u64 3 (lit3 ((tmI n r 3) 0) ((tmI n r 3) 1) (iand .u64 ((tmI n r 3) 2) 3)))), (g4, 69, (aF .u64 5 (tmI n r 3)))]) (L2 := ((g2, 102, (aF .u64 2 r)) :: (g1, 104, (aF .u64 3 n)) :: [])) (cs := (aF .u64 3 zF)) (aF .u64 3 (timesF n r)) rfl (by kernel_rfl) (by kernel_rfl) hO20 (by simp only [size_aF]) (by kernel_rfl) (one_aF _ _ _)) fun _ w21 hO21 => ?_
      clear hO20
      try simp only [List.nil_append, List.cons_append] at hO21
      try simp only [p0, p1, p2, p3]
      refine wd_nil ?_
      show Code.wp _ _ _ _ _
      refine wp_ret ?_
      refine bodyPost_ret (results_cell_row rfl _ _ g3 104 (aF .u64 3 (timesF n r)) (0, 0) _ rfl (hO21.get (.tail _ (.tail _ (.tail _ (.tail _ (.head _)))))) Tryd.underlying104 rfl (by kernel_rfl)) rfl ?_
      exact ⟨rfl, hO21.bl⟩
end Go.Proofs.YtkmgdpbmkbpkjaaDoor
