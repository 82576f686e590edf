/-
  ChaCha20 over a text.
-/
import Derived.Test.YtkmgdpbmkbpkjaaDoorWy
import Derived.Test.YtkmgdpbmkbpkjaaDoorWk
set_option linter.unusedVariables false
set_option linter.unusedSimpArgs false
namespace Go.Proofs.YtkmgdpbmkbpkjaaDoor
open Go.RowKit

section
variable {P : Program} {o : Oper} {a : Act} {w w0 : World} {L : List (Nat × TypeId × Array Value)}
theorem n_cv {k : IntKind} (hk : big k = true) (n : Nat) (h : n < 9223372036854775808) (hx : (execOp a.eval o).run P w = .ok (.value (.int k (cv k ((n : Nat) : Int)))) w) : (execOp a.eval o).run P w = .ok (.value (.int k ((n : Nat) : Int))) w := by
  rw [hx]
  unfold cv
  rw [wrapN hk h]
theorem n_min {ts : Array TypeId} {ty : TypeId} (x y : Nat) (hx : (execOp a.eval o).run P w = ((do let v ← Builtin.min_ ts ty #[.int .i64 ((x : Nat) : Int), .int .i64 ((y : Nat) : Int)]; pure (Next.value v)) : Sem Next).run P w) :
    (execOp a.eval o).run P w = .ok (.value (.int .i64 ((min x y : Nat) : Int))) w := by
  rw [hx]
  simp only [Builtin.min_, List.foldlM, Builtin.min2, Sem.run_bind]
  by_cases h : x ≤ y
  · have : min x y = x := Nat.min_eq_left h
    rw [this]
    simp
    omega
  · have : min x y = y := Nat.min_eq_right (by omega)
    rw [this]
    simp
    omega
theorem r_make {k : IntKind} {t e : TypeId} (n : Nat) (hx : (execOp a.eval o).run P w = ((do let v ← Instr.makeSlice t (.int .i64 ((n : Nat) : Int)) (.int .i64 ((n : Nat) : Int)); pure (Next.value v)) : Sem Next).run P w)
    (ht : P.underlying t = some (.slice e)) (hi : (P.info? e).map (fun i => (i.zero, i.size, i.bytes)) = some (some (.int k 0), 1, 1)) (hn : n ≤ 1000000) (hO : Own w0 L w) :
    Runs P o a w (fun g : Nat => .slice (some ⟨g, 0, none⟩) n n) fun g w' => Own w0 ((g, e, aF k n zF) :: L) w' := by
  obtain ⟨i, hi1, hi2⟩ := Option.map_eq_some_iff.1 hi
  obtain ⟨iz, is, ib⟩ := Prod.mk.injEq _ _ _ _ ▸ (Prod.mk.injEq _ _ _ _ ▸ hi2)
  have hm := run_make (P := P) w t e i _ ht hi1 iz .i64 .i64 ((n : Nat) : Int) ((n : Nat) : Int) (by omega) (Int.le_refl _) (by rw [ib]; omega) (by omega)
  rw [Sem.run_bind, hm, is, Nat.mul_one, Int.toNat_natCast] at hx
  have e1 : madeCells (Value.int k 0).cells n = aF k n zF := aF_of (size_madeCells _ _) fun j hj => by
    unfold madeCells
    simp [hj, Value.cells, zF, Nat.mod_one]
  rw [e1] at hx
  exact r_val _ hx (hO.new e _)
theorem Buf.of1 (g : Nat) {n c : Nat} {k : IntKind} {f : Nat → Int} (hn : n ≤ c) : Buf k 1 (some ⟨g, 0, none⟩) n c (aF k c f) f := by
  have := Buf.of (k := k) (z := 1) (f := f) g hn
  rwa [Nat.mul_one] at this
end
/-- The key's stream. -/
def ksF (first key nonce : Nat → Int) : Nat → Int := fun i => blk first key nonce (ia .u32 1 (cv .u32 ((i / 64 : Nat) : Int))) (i % 64)
theorem ks_at (first key nonce : Nat → Int) (j : Nat) {i : Nat} (h : 64 * j ≤ i ∧ i < 64 * j + 64) : blk first key nonce (ia .u32 1 (cv .u32 ((64 * j / 64 : Nat) : Int))) (i - 64 * j) = ksF first key nonce i := by
  unfold ksF
  rw [show 64 * j / 64 = i / 64 by omega, show i - 64 * j = i % 64 by omega]
def xorP (b K : Nat → Int) (n : Nat) : Nat → Int := fun t => if t < n then ix .u8 (b t) (K t) else 0
def xorF (b K : Nat → Int) : Nat → Int := fun t => ix .u8 (b t) (K t)
theorem xorP_zero (b K : Nat → Int) : xorP b K 0 = zF := by funext t; simp [xorP, zF]
theorem xorP_next (b K : Nat → Int) (i : Nat) : xorP b K (i + 1) = upd (xorP b K i) i (ix .u8 (b i) (K i)) := by
  funext t
  unfold xorP upd
  by_cases h : t = i
  · subst h; simp
  · rw [if_neg h]
    dsimp only
    by_cases h2 : t < i
    · rw [if_pos h2, if_pos (by omega)]
    · rw [if_neg h2, if_neg (by omega)]
set_option maxRecDepth 100000 in
set_option maxHeartbeats 4000000 in
theorem xor_any {first key nonce b : Nat → Int} {l cb : Nat} {qb : Option Addr} {w : World} (hF : RdC w .u32 1 0 4 first) (hb : RdF w (.slice qb l cb) l b) (hl : l ≤ 65536) :
    TxtE Tryd.prog 27 #[.agg (aF .u8 32 key), .agg (aF .u8 12 nonce), .int .u32 1, .slice qb l cb] w l (xorF b (ksF first key nonce)) := by
  unfold TxtE Ans
  refine calls_of_wp Tryd.func27 rfl ?_
  simp only [Tryd.ntmps27, List.size_toArray, List.length_cons, List.length_nil, Nat.reduceAdd, Nat.reduceSub, Array.replicate_succ, Array.replicate_zero, List.push_toArray, List.append_toArray, List.nil_append, List.cons_append]
  have hO := Own.nil w
  refine wp_seq ?_
  refine wl_region ?_
  refine wl_runs rfl (r_new 22 (aF .u8 32 key) (by kernel_rfl) hO) fun g1 w1 hO1 => ?_
  clear hO
  try simp only [List.nil_append, List.cons_append] at hO1
  try simp only [p0, p1, p2, p3]
  refine wl_runs rfl (r_new 50 (aF .u8 12 nonce) (by kernel_rfl) hO1) fun g2 w2 hO2 => ?_
  clear hO1
  try simp only [List.nil_append, List.cons_append] at hO2
  try simp only [p0, p1, p2, p3]
  refine wl_pure (.slice none 0 0) rfl (by kernel_rfl) ?_
  try simp only [p0, p1, p2, p3]
  refine wl_pure (.int .i64 0) rfl (by kernel_rfl) ?_
  try simp only [p0, p1, p2, p3]
  refine wl_nil ?_
  show Code.wp _ _ _ _ _
  refine wp_seq ?_
  refine wp_block ?_
  refine wp_seq ?_
  refine wl_region ?_
  refine wl_pure (.slice qb l cb) rfl (by kernel_rfl) ?_
  try simp only [p0, p1, p2, p3]
  refine wl_pure (.int .i64 ((l : Nat) : Int)) rfl (by kernel_rfl) ?_
  try simp only [p0, p1, p2, p3]
  refine wl_pure (.bool false) rfl (i_gtr (k := .i64) ((l : Nat) : Int) 65536 false (decide_eq_false (by omega)) rfl (by kernel_rfl) (by kernel_rfl) _) ?_
  try simp only [p0, p1, p2, p3]
  refine wl_pure (.bool false) rfl (by kernel_rfl) ?_
  try simp only [p0, p1, p2, p3]
  refine wl_nil ?_
  show Code.wp _ _ _ _ _
  refine wp_cond_false rfl ?_
  refine wp_seq ?_
  refine wl_region ?_
  refine wl_pure (.int .u32 1) rfl (by kernel_rfl) ?_
  try simp only [p0, p1, p2, p3]
  refine wl_pure (.int .u64 1) rfl (by kernel_rfl) ?_
  try simp only [p0, p1, p2, p3]
  refine wl_pure (.slice qb l cb) rfl (by kernel_rfl) ?_
  try simp only [p0, p1, p2, p3]
  refine wl_pure (.int .i64 ((l : Nat) : Int)) rfl (by kernel_rfl) ?_
  try simp only [p0, p1, p2, p3]
  refine wl_pure (.int .i64 ((l + 64 : Nat) : Int)) rfl (n_add (k := .i64) rfl l 64 (by omega) rfl (by kernel_rfl) (by kernel_rfl) _) ?_
  try simp only [p0, p1, p2, p3]
  refine wl_pure (.int .i64 (((l + 64) - 1 : Nat) : Int)) rfl (n_sub (k := .i64) rfl (l + 64) 1 (by omega) rfl (by kernel_rfl) (by kernel_rfl) _) ?_
  try simp only [p0, p1, p2, p3]
  refine wl_pure (.int .i64 ((((l + 64) - 1) / 64 : Nat) : Int)) rfl (n_quo (k := .i64) rfl ((l + 64) - 1) 64 (by omega) rfl (by kernel_rfl) (by kernel_rfl) _) ?_
  try simp only [p0, p1, p2, p3]
  refine wl_pure (.int .u64 ((((l + 64) - 1) / 64 : Nat) : Int)) rfl (n_cv (k := .u64) rfl (((l + 64) - 1) / 64) (by omega) (by kernel_rfl)) ?_
  try simp only [p0, p1, p2, p3]
  refine wl_pure (.int .u64 ((1 + (((l + 64) - 1) / 64) : Nat) : Int)) rfl (n_add (k := .u64) rfl 1 (((l + 64) - 1) / 64) (by omega) rfl (by kernel_rfl) (by kernel_rfl) _) ?_
  try simp only [p0, p1, p2, p3]
  refine wl_pure (.bool false) rfl (i_gtr (k := .u64) ((1 + (((l + 64) - 1) / 64) : Nat) : Int) 4294967296 false (decide_eq_false (by omega)) rfl (by kernel_rfl) (by kernel_rfl) _) ?_
  try simp only [p0, p1, p2, p3]
  refine wl_pure (.bool false) rfl (by kernel_rfl) ?_
  try simp only [p0, p1, p2, p3]
  refine wl_nil ?_
  show Code.wp _ _ _ _ _
  refine wp_cond_false rfl ?_
  refine wp_skip ?_
  show Code.wp _ _ _ _ _
  refine wp_seq ?_
  refine wl_region ?_
  refine wl_pure (.slice qb l cb) rfl (by kernel_rfl) ?_
  try simp only [p0, p1, p2, p3]
  refine wl_pure (.int .i64 ((l : Nat) : Int)) rfl (by kernel_rfl) ?_
  try simp only [p0, p1, p2, p3]
  refine wl_runs rfl (r_make (k := .u8) l (t := 23) (e := 5) (by kernel_rfl) Tryd.underlying23 (by kernel_rfl) (by omega) hO2) fun g3 w3 hO3 => ?_
  clear hO2
  try simp only [List.nil_append, List.cons_append] at hO3
  try simp only [p0, p1, p2, p3]
  refine wl_pure (.slice (some ⟨g3, 0, none⟩) l l) rfl (by kernel_rfl) ?_
  try simp only [p0, p1, p2, p3]
  refine wl_nil ?_
  show Code.wp _ _ _ _ _
  refine wp_seq ?_
  refine wp_seq ?_
  refine wl_region ?_
  refine wl_pure (.int .i64 0) rfl (by kernel_rfl) ?_
  try simp only [p0, p1, p2, p3]
  refine wl_nil ?_
  show Code.wp _ _ _ _ _
  rw [← xorP_zero b (ksF first key nonce)] at hO3
  have hstart : xorP b (ksF first key nonce) 0 = xorP b (ksF first key nonce) (min (64 * 0) l) := by rw [Nat.mul_zero, Nat.zero_min]
  rw [hstart] at hO3
  go_wp2_with fail
  go_loopw [11] (fun v4_11 wr4 => ∃ (j : Nat), v4_11 = .int .i64 (((64 * j) : Nat) : Int) ∧ Own w ((g3, 5, (aF .u8 l (xorP b (ksF first key nonce) (min (64 * j) l)))) :: (g2, 50, (aF .u8 12 nonce)) :: (g1, 22, (aF .u8 32 key)) :: []) wr4) (fun v4_11 wr4 => l - (intOf v4_11).toNat)
  case atStart => exact ⟨0, rfl, hO3⟩
  case round =>
    try clear hO3
    obtain ⟨j, rfl, hO4⟩ := hrel
    by_cases hm4 : 64 * j < l
    · have hm4' := hm4
      obtain ⟨gb, ob, rfl, hcb, hrb⟩ := hb.opened (by omega)
      rw [Nat.min_eq_left (show 64 * j ≤ l by omega)] at hO4
      refine wp_seq ?_
      refine wp_seq ?_
      refine wl_region ?_
      refine wl_pure (.int .i64 (((64 * j) : Nat) : Int)) rfl (by kernel_rfl) ?_
      try simp only [p0, p1, p2, p3]
      refine wl_pure (.slice (some ⟨gb, ob, none⟩) l cb) rfl (by kernel_rfl) ?_
      try simp only [p0, p1, p2, p3]
      refine wl_pure (.int .i64 ((l : Nat) : Int)) rfl (by kernel_rfl) ?_
      try simp only [p0, p1, p2, p3]
      refine wl_pure (.bool true) rfl (i_lss (k := .i64) (((64 * j) : Nat) : Int) ((l : Nat) : Int) true (decide_eq_true (by omega)) rfl (by kernel_rfl) (by kernel_rfl) _) ?_
      try simp only [p0, p1, p2, p3]
      refine wl_nil ?_
      show Code.wp _ _ _ _ _
      refine wp_cond_true rfl ?_
      refine wp_skip ?_
      show Code.wp _ _ _ _ _
      refine wp_seq ?_
      refine wp_block ?_
      refine wp_seq ?_
      refine wl_region ?_
      refine wl_pure (.agg (aF .u8 32 key)) rfl (run_row (hO4.get (.tail _ (.tail _ (.head _)))) Tryd.underlying22 rfl (by kernel_rfl) rfl (by kernel_rfl)) ?_
      try simp only [p0, p1, p2, p3]
      refine wl_pure (.agg (aF .u8 12 nonce)) rfl (run_row (hO4.get (.tail _ (.head _))) Tryd.underlying50 rfl (by kernel_rfl) rfl (by kernel_rfl)) ?_
      try simp only [p0, p1, p2, p3]
      refine wl_pure (.int .u32 1) rfl (by kernel_rfl) ?_
      try simp only [p0, p1, p2, p3]
      refine wl_pure (.int .i64 (((64 * j) : Nat) : Int)) rfl (by kernel_rfl) ?_
      try simp only [p0, p1, p2, p3]
      refine wl_pure (.int .i64 (((64 * j) / 64 : Nat) : Int)) rfl (n_quo (k := .i64) rfl (64 * j) 64 (by omega) rfl (by kernel_rfl) (by kernel_rfl) _) ?_
      try simp only [p0, p1, p2, p3]
      refine wl_pure (.int .u32 (cv .u32 (((64 * j) / 64 : Nat) : Int))) rfl (by kernel_rfl) ?_
      try simp only [p0, p1, p2, p3]
      refine wl_pure (.int .u32 (ia .u32 1 (cv .u32 (((64 * j) / 64 : Nat) : Int)))) rfl (by kernel_rfl) ?_
      try simp only [p0, p1, p2, p3]
      refine wl_runs rfl (r_call (args := #[.agg (aF .u8 32 key), .agg (aF .u8 12 nonce), .int .u32 (ia .u32 1 (cv .u32 (((64 * j) / 64 : Nat) : Int)))]) (u := .agg (aF .u8 64 (blk first key nonce (ia .u32 1 (cv .u32 (((64 * j) / 64 : Nat) : Int)))))) (by kernel_rfl) (block_any (first := first) (key := key) (nonce := nonce) (count := (ia .u32 1 (cv .u32 (((64 * j) / 64 : Nat) : Int)))) (hF.below hO4.bl)) hO4) fun _ w5 hO5 => ?_
      clear hO4
      try simp only [List.nil_append, List.cons_append] at hO5
      try simp only [p0, p1, p2, p3]
      refine wl_runs rfl (r_new 76 (aF .u8 64 zF) (by kernel_rfl) hO5) fun g6 w6 hO6 => ?_
      clear hO5
      try simp only [List.nil_append, List.cons_append] at hO6
      try simp only [p0, p1, p2, p3]
      refine wl_runs rfl (r_row (L1 := []) (L2 := ((g3, 5, (aF .u8 l (xorP b (ksF first key nonce) (64 * j)))) :: (g2, 50, (aF .u8 12 nonce)) :: (g1, 22, (aF .u8 32 key)) :: [])) (cs := (aF .u8 64 zF)) (aF .u8 64 (blk first key nonce (ia .u32 1 (cv .u32 (((64 * j) / 64 : Nat) : Int))))) rfl (by kernel_rfl) (by kernel_rfl) hO6 (by simp only [size_aF]) (by kernel_rfl) (one_aF _ _ _)) fun _ w7 hO7 => ?_
      clear hO6
      try simp only [List.nil_append, List.cons_append] at hO7
      try simp only [p0, p1, p2, p3]
      refine wl_nil ?_
      show Code.wp _ _ _ _ _
      refine wp_seq ?_
      refine wl_region ?_
      refine wl_pure (.int .i64 (((64 * j) : Nat) : Int)) rfl (by kernel_rfl) ?_
      try simp only [p0, p1, p2, p3]
      refine wl_pure (.int .i64 (((64 * j) : Nat) : Int)) rfl (by kernel_rfl) ?_
      try simp only [p0, p1, p2, p3]
      refine wl_nil ?_
      show Code.wp _ _ _ _ _
      go_wp2_with fail
      go_loopw [13] (fun v8_13 wr8 => ∃ (i : Nat), 64 * j ≤ i ∧ i ≤ min (64 * j + 64) l ∧ v8_13 = .int .i64 ((i : Nat) : Int) ∧ Own w ((g6, 76, (aF .u8 64 (blk first key nonce (ia .u32 1 (cv .u32 (((64 * j) / 64 : Nat) : Int)))))) :: (g3, 5, (aF .u8 l (xorP b (ksF first key nonce) i))) :: (g2, 50, (aF .u8 12 nonce)) :: (g1, 22, (aF .u8 32 key)) :: []) wr8) (fun v8_13 wr8 => l - (intOf v8_13).toNat)
      case atStart => exact ⟨64 * j, Nat.le_refl _, by omega, rfl, hO7⟩
      case round =>
        try clear hO7
        obtain ⟨i, hf8_0, hf8_1, rfl, hO8⟩ := hrel
        by_cases hm8 : i < min (64 * j + 64) l
        · have hm8' := hm8
          refine wp_seq ?_
          refine wp_seq ?_
          refine wl_region ?_
          refine wl_pure (.int .i64 ((i : Nat) : Int)) rfl (by kernel_rfl) ?_
          try simp only [p0, p1, p2, p3]
          refine wl_pure (.int .i64 (((64 * j) : Nat) : Int)) rfl (by kernel_rfl) ?_
          try simp only [p0, p1, p2, p3]
          refine wl_pure (.int .i64 (((64 * j) + 64 : Nat) : Int)) rfl (n_add (k := .i64) rfl (64 * j) 64 (by omega) rfl (by kernel_rfl) (by kernel_rfl) _) ?_
          try simp only [p0, p1, p2, p3]
          refine wl_pure (.slice (some ⟨gb, ob, none⟩) l cb) rfl (by kernel_rfl) ?_
          try simp only [p0, p1, p2, p3]
          refine wl_pure (.int .i64 ((l : Nat) : Int)) rfl (by kernel_rfl) ?_
          try simp only [p0, p1, p2, p3]
          refine wl_pure (.int .i64 ((min ((64 * j) + 64) l : Nat) : Int)) rfl (n_min (ts := #[3, 3]) (ty := 3) ((64 * j) + 64) l (by kernel_rfl)) ?_
          try simp only [p0, p1, p2, p3]
          refine wl_pure (.bool true) rfl (i_lss (k := .i64) ((i : Nat) : Int) ((min ((64 * j) + 64) l : Nat) : Int) true (decide_eq_true (by omega)) rfl (by kernel_rfl) (by kernel_rfl) _) ?_
          try simp only [p0, p1, p2, p3]
          refine wl_nil ?_
          show Code.wp _ _ _ _ _
          refine wp_cond_true rfl ?_
          refine wp_skip ?_
          show Code.wp _ _ _ _ _
          refine wp_seq ?_
          refine wp_block ?_
          refine wd_region [13] (Tr.ofList [(0, 1), (1, 1), (2, 1), (3, 1), (4, 1), (5, 1), (6, 1), (7, 1), (8, 1), (9, 1), (10, 1), (11, 1), (12, 1), (13, 4)] .nil) (by decide) (by kernel_rfl) (by kernel_rfl) hO8 fun w9 hO9 => ?_
          simp only [Tr.ofList]
          try clear hO8
          refine wd_ld (.slice (some ⟨g3, 0, none⟩) l l) rfl (some 56) (by kernel_rfl) (by kernel_rfl) (fun _ hw => by kernel_rfl) hO9 ?_
          try simp only [p0, p1, p2, p3]
          refine wd_ld (.int .i64 ((i : Nat) : Int)) rfl (some 57) (by kernel_rfl) (by kernel_rfl) (fun _ hw => by kernel_rfl) hO9 ?_
          try simp only [p0, p1, p2, p3]
          refine wd_ld (.slice (some ⟨gb, ob, none⟩) l cb) rfl (some 58) (by kernel_rfl) (by kernel_rfl) (fun _ hw => by kernel_rfl) hO9 ?_
          try simp only [p0, p1, p2, p3]
          refine wd_ld (.int .i64 ((i : Nat) : Int)) rfl (some 59) (by kernel_rfl) (by kernel_rfl) (fun _ hw => by kernel_rfl) hO9 ?_
          try simp only [p0, p1, p2, p3]
          refine wd_ld (.pointer (some ⟨gb, ob + i, none⟩)) rfl (some 60) (by kernel_rfl) (by kernel_rfl) (fun _ hw => s_idx (n := l) (c := cb) Tryd.underlying23 (by kernel_rfl) i (by omega) rfl (by kernel_rfl) (by kernel_rfl) _) hO9 ?_
          try simp only [p0, p1, p2, p3]
          refine wd_ld (.int .u8 (b i)) rfl (some 61) (by kernel_rfl) (by kernel_rfl) (fun _ hw => run_cell ((hrb.below hw.bl) i (by omega)) (by kernel_rfl) rfl (by kernel_rfl)) hO9 ?_
          try simp only [p0, p1, p2, p3]
          refine wd_ld (.int .i64 ((i : Nat) : Int)) rfl (some 62) (by kernel_rfl) (by kernel_rfl) (fun _ hw => by kernel_rfl) hO9 ?_
          try simp only [p0, p1, p2, p3]
          refine wd_ld (.int .i64 (((64 * j) : Nat) : Int)) rfl (some 63) (by kernel_rfl) (by kernel_rfl) (fun _ hw => by kernel_rfl) hO9 ?_
          try simp only [p0, p1, p2, p3]
          refine wd_ld (.int .i64 ((i - (64 * j) : Nat) : Int)) rfl (some 64) (by kernel_rfl) (by kernel_rfl) (fun _ hw => n_sub (k := .i64) rfl i (64 * j) (by omega) rfl (by kernel_rfl) (by kernel_rfl) _) hO9 ?_
          try simp only [p0, p1, p2, p3]
          refine wd_ld (.pointer (some ⟨g6, i - (64 * j), none⟩)) rfl (some 65) (by kernel_rfl) (by kernel_rfl) (fun _ hw => p_idx0 Tryd.underlying76 (by kernel_rfl) (i - (64 * j)) (by omega) rfl (by kernel_rfl) (by kernel_rfl) _) hO9 ?_
          try simp only [p0, p1, p2, p3]
          refine wd_ld (.int .u8 ((blk first key nonce (ia .u32 1 (cv .u32 (((64 * j) / 64 : Nat) : Int)))) (i - (64 * j)))) rfl (some 66) (by kernel_rfl) (by kernel_rfl) (fun _ hw => run_cell (own_cell hw (.head _) (i - (64 * j)) (by omega)) (by kernel_rfl) rfl (by kernel_rfl)) hO9 ?_
          try simp only [p0, p1, p2, p3]
          refine wd_ld (.int .u8 (ix .u8 (b i) ((blk first key nonce (ia .u32 1 (cv .u32 (((64 * j) / 64 : Nat) : Int)))) (i - (64 * j))))) rfl (some 67) (by kernel_rfl) (by kernel_rfl) (fun _ hw => by kernel_rfl) hO9 ?_
          try simp only [p0, p1, p2, p3]
          refine wd_ld (.pointer (some ⟨g3, i, none⟩)) rfl (some 68) (by kernel_rfl) (by kernel_rfl) (fun _ hw => s_idx0 (n := l) (c := l) Tryd.underlying23 (by kernel_rfl) i (by omega) rfl (by kernel_rfl) (by kernel_rfl) _) hO9 ?_
          try simp only [p0, p1, p2, p3]
          refine wd_runx rfl none (by kernel_rfl) rfl (r_st (L1 := [(g6, 76, (aF .u8 64 (blk first key nonce (ia .u32 1 (cv .u32 (((64 * j) / 64 : Nat) : Int))))))]) (L2 := ((g2, 50, (aF .u8 12 nonce)) :: (g1, 22, (aF .u8 32 key)) :: [])) (f := (xorP b (ksF first key nonce) i)) (n := l) i (ix .u8 (b i) ((blk first key nonce (ia .u32 1 (cv .u32 (((64 * j) / 64 : Nat) : Int)))) (i - (64 * j)))) (by omega) rfl (by kernel_rfl) (by kernel_rfl) hO9 (by kernel_rfl)) fun _ w10 hO10 => ?_
          clear hO9
          try simp only [List.nil_append, List.cons_append] at hO10
          try simp only [p0, p1, p2, p3]
          refine wd_nil ?_
          show Code.wp _ _ _ _ _
          refine wl_region ?_
          refine wl_pure (.int .i64 ((i : Nat) : Int)) rfl (by kernel_rfl) ?_
          try simp only [p0, p1, p2, p3]
          refine wl_pure (.int .i64 ((i + 1 : Nat) : Int)) rfl (n_add (k := .i64) rfl i 1 (by omega) rfl (by kernel_rfl) (by kernel_rfl) _) ?_
          try simp only [p0, p1, p2, p3]
          refine wl_pure (.int .i64 ((i + 1 : Nat) : Int)) rfl (by kernel_rfl) ?_
          try simp only [p0, p1, p2, p3]
          refine wl_nil ?_
          try simp only [Exit.then, Exit.inBlock]
          go_roundw
          case rel => exact ⟨i + 1, by omega, by omega, rfl, by rw [xorP_next, ← ks_at first key nonce j (by omega)]; exact hO10⟩
          case measure => simp [intOf]; omega
        · have hm8' := hm8
          obtain rfl : i = min (64 * j + 64) l := by omega
          refine wp_seq ?_
          refine wp_seq ?_
          refine wl_region ?_
          refine wl_pure (.int .i64 (((min (64 * j + 64) l) : Nat) : Int)) rfl (by kernel_rfl) ?_
          try simp only [p0, p1, p2, p3]
          refine wl_pure (.int .i64 (((64 * j) : Nat) : Int)) rfl (by kernel_rfl) ?_
          try simp only [p0, p1, p2, p3]
          refine wl_pure (.int .i64 (((64 * j) + 64 : Nat) : Int)) rfl (n_add (k := .i64) rfl (64 * j) 64 (by omega) rfl (by kernel_rfl) (by kernel_rfl) _) ?_
          try simp only [p0, p1, p2, p3]
          refine wl_pure (.slice (some ⟨gb, ob, none⟩) l cb) rfl (by kernel_rfl) ?_
          try simp only [p0, p1, p2, p3]
          refine wl_pure (.int .i64 ((l : Nat) : Int)) rfl (by kernel_rfl) ?_
          try simp only [p0, p1, p2, p3]
          refine wl_pure (.int .i64 ((min ((64 * j) + 64) l : Nat) : Int)) rfl (n_min (ts := #[3, 3]) (ty := 3) ((64 * j) + 64) l (by kernel_rfl)) ?_
          try simp only [p0, p1, p2, p3]
          refine wl_pure (.bool false) rfl (i_lss (k := .i64) (((min (64 * j + 64) l) : Nat) : Int) ((min ((64 * j) + 64) l : Nat) : Int) false (decide_eq_false (by omega)) rfl (by kernel_rfl) (by kernel_rfl) _) ?_
          try simp only [p0, p1, p2, p3]
          refine wl_nil ?_
          show Code.wp _ _ _ _ _
          refine wp_cond_false rfl ?_
          refine wp_exit ?_
          simp only [Exit.then, Exit.inBlock, if_true]
          show Code.wp _ _ _ _ _
          refine wl_region ?_
          refine wl_pure (.int .i64 (((64 * j) : Nat) : Int)) rfl (by kernel_rfl) ?_
          try simp only [p0, p1, p2, p3]
          refine wl_pure (.int .i64 (((64 * j) + 64 : Nat) : Int)) rfl (n_add (k := .i64) rfl (64 * j) 64 (by omega) rfl (by kernel_rfl) (by kernel_rfl) _) ?_
          try simp only [p0, p1, p2, p3]
          refine wl_pure (.int .i64 (((64 * j) + 64 : Nat) : Int)) rfl (by kernel_rfl) ?_
          try simp only [p0, p1, p2, p3]
          refine wl_nil ?_
          try simp only [Exit.then, Exit.inBlock]
          go_roundw
          case rel => exact ⟨j + 1, rfl, hO8.tail⟩
          case measure => simp [intOf]; omega
    · have hm4' := hm4
      rw [Nat.min_eq_right (show l ≤ 64 * j by omega)] at hO4
      refine wp_seq ?_
      refine wp_seq ?_
      refine wl_region ?_
      refine wl_pure (.int .i64 (((64 * j) : Nat) : Int)) rfl (by kernel_rfl) ?_
      try simp only [p0, p1, p2, p3]
      refine wl_pure (.slice qb l cb) rfl (by kernel_rfl) ?_
      try simp only [p0, p1, p2, p3]
      refine wl_pure (.int .i64 ((l : Nat) : Int)) rfl (by kernel_rfl) ?_
      try simp only [p0, p1, p2, p3]
      refine wl_pure (.bool false) rfl (i_lss (k := .i64) (((64 * j) : Nat) : Int) ((l : Nat) : Int) false (decide_eq_false (by omega)) rfl (by kernel_rfl) (by kernel_rfl) _) ?_
      try simp only [p0, p1, p2, p3]
      refine wl_nil ?_
      show Code.wp _ _ _ _ _
      refine wp_cond_false rfl ?_
      refine wp_exit ?_
      simp only [Exit.then, Exit.inBlock, if_true]
      show Code.wp _ _ _ _ _
      refine wp_seq ?_
      refine wl_region ?_
      refine wl_pure (.slice (some ⟨g3, 0, none⟩) l l) rfl (by kernel_rfl) ?_
      try simp only [p0, p1, p2, p3]
      refine wl_pure (.slice (some ⟨g3, 0, none⟩) l l) rfl (by kernel_rfl) ?_
      try simp only [p0, p1, p2, p3]
      refine wl_pure (.int .i64 0) rfl (by kernel_rfl) ?_
      try simp only [p0, p1, p2, p3]
      refine wl_nil ?_
      show Code.wp _ _ _ _ _
      refine wp_ret ?_
      refine bodyPost_ret (results_tmp2 rfl _ _ _) rfl ?_
      exact ⟨_, rfl, some ⟨g3, 0, none⟩, l, 5, (aF .u8 l (xorP b (ksF first key nonce) l)), rfl, Own.sub hO4 (.cons_cons _ (List.nil_sublist _)), (Buf.of1 g3 (Nat.le_refl _)).congr fun j hj => by unfold xorP xorF; rw [if_pos (by omega)]⟩
end Go.Proofs.YtkmgdpbmkbpkjaaDoor
