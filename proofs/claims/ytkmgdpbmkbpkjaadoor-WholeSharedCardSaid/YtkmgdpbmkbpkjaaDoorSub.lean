/-
  limb.Sub, told by numbers.
-/
import Derived.Test.YtkmgdpbmkbpkjaaDoorGAny
set_option linter.unusedVariables false
set_option linter.unusedSimpArgs false
namespace Go.Proofs.YtkmgdpbmkbpkjaaDoor
open Go.RowKit

theorem sub_sum {x0 x1 x2 x3 x4 y0 y1 y2 y3 y4 a b : Nat} (hx : val5 x0 x1 x2 x3 x4 = a) (hy : val5 y0 y1 y2 y3 y4 = b) (h : Lt52 y0 ∧ Lt52 y1 ∧ Lt52 y2 ∧ Lt52 y3 ∧ Lt52 y4) :
    val5 (x0 + (9007199254740916 - y0)) (x1 + (9007199254740988 - y1)) (x2 + (9007199254740988 - y2)) (x3 + (9007199254740988 - y3)) (x4 + (9007199254740988 - y4)) = a + 4 * p25 - b := by
  subst hx hy
  unfold Lt52 at h
  unfold val5 p25
  omega
theorem four_sub (c y d : Nat) (hc : c < 18446744073709551616) (hy : y ≤ c) (hd : d = c - y) : IntKind.u64.wrap ((c : Int) - (y : Int)) = (d : Int) := by
  subst hd
  rw [show ((c : Int) - (y : Int)) = ((c - y : Nat) : Int) by omega]
  exact wrap_id _ (by omega)

/-- What stands behind e, f := load(a), load(b). -/
def SubCut (w : World) (a b : Nat) (e : Exit) (a' : Act) (w' : World) : Prop :=
  e = .normal ∧ ∃ g5 g6 x0 x1 x2 x3 x4 y0 y1 y2 y3 y4 : Nat, a' = { tmps := #[.agg (c8 a), .agg (c8 b), .pointer (some ⟨w.heap.size, 0, none⟩), .pointer (some ⟨w.heap.size + 1, 0, none⟩), .pointer (some ⟨w.heap.size + 1 + 1, 0, none⟩), .pointer (some ⟨g5, 0, none⟩), .pointer (some ⟨g6, 0, none⟩), undef, undef, .agg (c8 a), .agg (c5 x0 x1 x2 x3 x4), .agg (c8 b), .agg (c5 y0 y1 y2 y3 y4), undef, undef, undef, undef, undef, undef, undef, undef, undef, undef, undef, undef, undef, undef, undef, undef, undef, undef], defers := [] } ∧
      (g5 ≠ g6 ∧ w.heap.size + 1 + 1 < g5 ∧ w.heap.size + 1 + 1 < g6 ∧ Hid (Lt52 x0 ∧ Lt52 x1 ∧ Lt52 x2 ∧ Lt52 x3 ∧ Lt52 x4 ∧ val5 x0 x1 x2 x3 x4 = a) ∧ Hid (Lt52 y0 ∧ Lt52 y1 ∧ Lt52 y2 ∧ Lt52 y3 ∧ Lt52 y4 ∧ val5 y0 y1 y2 y3 y4 = b)) ∧
      Bk w' g5 70 (c5 x0 x1 x2 x3 x4) ∧ Bk w' g6 70 (c5 y0 y1 y2 y3 y4) ∧ S3 w a b w'

set_option maxRecDepth 100000 in
set_option maxHeartbeats 8000000 in
theorem sub_any (a b : Nat) (ha : N256 a) (hb : N256 b) (w : World) :
    Calls Tryd.prog 21 #[.agg (c8 a), .agg (c8 b)] w fun e w' => e = .returned (.agg (c8 ((a + 4 * p25 - b) % p25))) ∧ Below w.heap.size w w' := by
  have iel : (Tryd.prog.info? 70).map (·.size) = some 5 := by kernel_rfl
  go_enter Tryd.func21, Tryd.ntmps21
  go_wp2_with fail
  rw [← c8p_zero 0]
  refine Code.wp_mono (Q := SubCut w a b) ?rest ?region
  case region =>
    refine held_start (S3 w a b) (by kernel_rfl) (S3.start w a b) fun hS => ?_
    have hS0 := hS
    generalize ((((w.alloc (.cells (c8 a) 22)).alloc (.cells (c8 b) 22)).alloc (.cells (c8p 0 0) 22)).drew) = v0 at *
    refine held_row 0 (c8 a) rfl (by kernel_rfl) (by kernel_rfl) (by kernel_rfl) (fun _ _ _ h => nomatch h.1) rfl 22 (.tmp 2) rfl w.heap.size rfl 22 _ (fun _ h => h.1) Tryd.underlying22 rfl (inum_c8 a) hS ?_
    refine held_row 2 (c8 b) rfl (by kernel_rfl) (by kernel_rfl) (by kernel_rfl) (fun _ _ _ h => nomatch h.1) rfl 22 (.tmp 3) rfl (w.heap.size + 1) rfl 22 _ (fun _ h => h.2.1) Tryd.underlying22 rfl (inum_c8 b) hS ?_
    refine held_next (rs := [1, 4, 5]) (by kernel_rfl) (by simp) ?_
    intro i hi
    simp only [List.mem_cons, List.not_mem_nil, or_false] at hi
    rcases hi with rfl | rfl | rfl
    · refine ⟨_, rfl, rfl, fun K hK => ?_⟩
      (try simp only [Act.put, List.setIfInBounds_toArray, List.set_cons_zero, List.set_cons_succ])
      go_wp2_with fail
      refine (load_any _ ha _).mono ?_
      rintro e v1 ⟨x0, x1, x2, x3, x4, rfl, hx, hbl⟩
      refine hK _ _ (hS0.call hbl) ?_
      have hS1 := hS0.call hbl
      clear hK K hbl
      refine held_next (rs := [3, 4, 5]) (by kernel_rfl) (by simp) ?_
      intro i hi
      simp only [List.mem_cons, List.not_mem_nil, or_false] at hi
      rcases hi with rfl | rfl | rfl
      · refine ⟨_, rfl, rfl, fun K hK => ?_⟩
        (try simp only [Act.put, List.setIfInBounds_toArray, List.set_cons_zero, List.set_cons_succ])
        go_wp2_with fail
        refine (load_any _ hb _).mono ?_
        rintro e v2 ⟨y0, y1, y2, y3, y4, rfl, hy, hbl⟩
        refine hK _ _ (hS1.call hbl) ?_
        have hS2 := hS1.call hbl
        clear hK K hbl
        refine held_next (rs := [4, 5]) (by kernel_rfl) (by simp) ?_
        intro i hi
        simp only [List.mem_cons, List.not_mem_nil, or_false] at hi
        rcases hi with rfl | rfl
        · refine ⟨_, rfl, rfl, fun K hK => ?_⟩
          (try simp only [Act.put, List.setIfInBounds_toArray, List.set_cons_zero, List.set_cons_succ])
          go_wp2_with fail
          refine hK _ _ (hS2.alloc _) ?_
          have hS3 := hS2.alloc (.cells #[.int .u64 0, .int .u64 0, .int .u64 0, .int .u64 0, .int .u64 0] 70)
          have hg5 := hS2.room
          have q5_3 := Bk.new v2 70 #[.int .u64 0, .int .u64 0, .int .u64 0, .int .u64 0, .int .u64 0]
          generalize hv3 : v2.alloc (.cells #[.int .u64 0, .int .u64 0, .int .u64 0, .int .u64 0, .int .u64 0] 70) = v3 at *
          clear hK K hv3
          refine held_one 5 (by kernel_rfl) rfl rfl fun K hK => ?_
          (try simp only [Act.put, List.setIfInBounds_toArray, List.set_cons_zero, List.set_cons_succ])
          go_wp2_with fail
          refine hK _ _ (hS3.alloc _) ?_
          have hS4 := hS3.alloc (.cells #[.int .u64 0, .int .u64 0, .int .u64 0, .int .u64 0, .int .u64 0] 70)
          have hne : v2.heap.size ≠ v3.heap.size := Nat.ne_of_lt q5_3.lt
          have q5_4 := q5_3.alloc (.cells #[.int .u64 0, .int .u64 0, .int .u64 0, .int .u64 0, .int .u64 0] 70)
          have hg6 := hS3.room
          have q6_4 := Bk.new v3 70 #[.int .u64 0, .int .u64 0, .int .u64 0, .int .u64 0, .int .u64 0]
          generalize hv4 : v3.alloc (.cells #[.int .u64 0, .int .u64 0, .int .u64 0, .int .u64 0, .int .u64 0] 70) = v4 at *
          clear hK K hv4
          refine held_one 6 (by kernel_rfl) rfl rfl fun K hK => ?_
          refine wp_store_mid 70 (.tmp 5) (.tmp 10) rfl v2.heap.size 0 (c5 x0 x1 x2 x3 x4) rfl rfl q5_4.there iel (one_c5 _ _ _ _ _) ?_
          refine hK _ _ (hS4.cells hg5 _) ?_
          clear hK K
          refine held_one 7 (by kernel_rfl) rfl rfl fun K hK => ?_
          have t6 := Bk.offs (Ne.symm hne) (c5 x0 x1 x2 x3 x4).toList v4 0 q6_4
          have t5 : Bk (v4.setCells v2.heap.size 0 (c5 x0 x1 x2 x3 x4).toList) v2.heap.size 70 (c5 x0 x1 x2 x3 x4) := q5_4.all rfl
          have hSa : S3 w a b (v4.setCells v2.heap.size 0 (c5 x0 x1 x2 x3 x4).toList) := hS4.cells hg5 _
          generalize v4.setCells v2.heap.size 0 (c5 x0 x1 x2 x3 x4).toList = vz at *
          have t7 := Bk.offs hne (c5 y0 y1 y2 y3 y4).toList vz 0 t5
          have t8 : Bk (vz.setCells v3.heap.size 0 (c5 y0 y1 y2 y3 y4).toList) v3.heap.size 70 (c5 y0 y1 y2 y3 y4) := t6.all rfl
          have hSb := hSa.cells hg6 (c5 y0 y1 y2 y3 y4).toList
          refine wp_store_mid 70 (.tmp 6) (.tmp 12) rfl v3.heap.size 0 (c5 y0 y1 y2 y3 y4) rfl rfl t6.there iel (one_c5 _ _ _ _ _) ?_
          refine hK _ _ hSb ?_
          refine wpAnyH_done (by kernel_rfl) ?_ _
          (try simp only [Act.put, List.setIfInBounds_toArray, List.set_cons_zero, List.set_cons_succ])
          exact ⟨rfl, v2.heap.size, v3.heap.size, x0, x1, x2, x3, x4, y0, y1, y2, y3, y4, rfl, ⟨hne, hg5, hg6, hx, hy⟩, t7, t8, hSb⟩
        · refine ⟨_, rfl, rfl, fun K hK => ?_⟩
          (try simp only [Act.put, List.setIfInBounds_toArray, List.set_cons_zero, List.set_cons_succ])
          go_wp2_with fail
          refine hK _ _ (hS2.alloc _) ?_
          have hS5 := hS2.alloc (.cells #[.int .u64 0, .int .u64 0, .int .u64 0, .int .u64 0, .int .u64 0] 70)
          have hg6 := hS2.room
          have q6_5 := Bk.new v2 70 #[.int .u64 0, .int .u64 0, .int .u64 0, .int .u64 0, .int .u64 0]
          generalize hv5 : v2.alloc (.cells #[.int .u64 0, .int .u64 0, .int .u64 0, .int .u64 0, .int .u64 0] 70) = v5 at *
          clear hK K hv5
          refine held_one 4 (by kernel_rfl) rfl rfl fun K hK => ?_
          (try simp only [Act.put, List.setIfInBounds_toArray, List.set_cons_zero, List.set_cons_succ])
          go_wp2_with fail
          refine hK _ _ (hS5.alloc _) ?_
          have hS6 := hS5.alloc (.cells #[.int .u64 0, .int .u64 0, .int .u64 0, .int .u64 0, .int .u64 0] 70)
          have hne : v5.heap.size ≠ v2.heap.size := Nat.ne_of_gt q6_5.lt
          have q6_6 := q6_5.alloc (.cells #[.int .u64 0, .int .u64 0, .int .u64 0, .int .u64 0, .int .u64 0] 70)
          have hg5 := hS5.room
          have q5_6 := Bk.new v5 70 #[.int .u64 0, .int .u64 0, .int .u64 0, .int .u64 0, .int .u64 0]
          generalize hv6 : v5.alloc (.cells #[.int .u64 0, .int .u64 0, .int .u64 0, .int .u64 0, .int .u64 0] 70) = v6 at *
          clear hK K hv6
          refine held_one 6 (by kernel_rfl) rfl rfl fun K hK => ?_
          refine wp_store_mid 70 (.tmp 5) (.tmp 10) rfl v5.heap.size 0 (c5 x0 x1 x2 x3 x4) rfl rfl q5_6.there iel (one_c5 _ _ _ _ _) ?_
          refine hK _ _ (hS6.cells hg5 _) ?_
          clear hK K
          refine held_one 7 (by kernel_rfl) rfl rfl fun K hK => ?_
          have t6 := Bk.offs (Ne.symm hne) (c5 x0 x1 x2 x3 x4).toList v6 0 q6_6
          have t5 : Bk (v6.setCells v5.heap.size 0 (c5 x0 x1 x2 x3 x4).toList) v5.heap.size 70 (c5 x0 x1 x2 x3 x4) := q5_6.all rfl
          have hSa : S3 w a b (v6.setCells v5.heap.size 0 (c5 x0 x1 x2 x3 x4).toList) := hS6.cells hg5 _
          generalize v6.setCells v5.heap.size 0 (c5 x0 x1 x2 x3 x4).toList = vz at *
          have t7 := Bk.offs hne (c5 y0 y1 y2 y3 y4).toList vz 0 t5
          have t8 : Bk (vz.setCells v2.heap.size 0 (c5 y0 y1 y2 y3 y4).toList) v2.heap.size 70 (c5 y0 y1 y2 y3 y4) := t6.all rfl
          have hSb := hSa.cells hg6 (c5 y0 y1 y2 y3 y4).toList
          refine wp_store_mid 70 (.tmp 6) (.tmp 12) rfl v2.heap.size 0 (c5 y0 y1 y2 y3 y4) rfl rfl t6.there iel (one_c5 _ _ _ _ _) ?_
          refine hK _ _ hSb ?_
          refine wpAnyH_done (by kernel_rfl) ?_ _
          (try simp only [Act.put, List.setIfInBounds_toArray, List.set_cons_zero, List.set_cons_succ])
          exact ⟨rfl, v5.heap.size, v2.heap.size, x0, x1, x2, x3, x4, y0, y1, y2, y3, y4, rfl, ⟨hne, hg5, hg6, hx, hy⟩, t7, t8, hSb⟩
      · refine ⟨_, rfl, rfl, fun K hK => ?_⟩
        (try simp only [Act.put, List.setIfInBounds_toArray, List.set_cons_zero, List.set_cons_succ])
        go_wp2_with fail
        refine hK _ _ (hS1.alloc _) ?_
        have hS7 := hS1.alloc (.cells #[.int .u64 0, .int .u64 0, .int .u64 0, .int .u64 0, .int .u64 0] 70)
        have hg5 := hS1.room
        have q5_7 := Bk.new v1 70 #[.int .u64 0, .int .u64 0, .int .u64 0, .int .u64 0, .int .u64 0]
        generalize hv7 : v1.alloc (.cells #[.int .u64 0, .int .u64 0, .int .u64 0, .int .u64 0, .int .u64 0] 70) = v7 at *
        clear hK K hv7
        refine held_next (rs := [3, 5]) (by kernel_rfl) (by simp) ?_
        intro i hi
        simp only [List.mem_cons, List.not_mem_nil, or_false] at hi
        rcases hi with rfl | rfl
        · refine ⟨_, rfl, rfl, fun K hK => ?_⟩
          (try simp only [Act.put, List.setIfInBounds_toArray, List.set_cons_zero, List.set_cons_succ])
          go_wp2_with fail
          refine (load_any _ hb _).mono ?_
          rintro e v8 ⟨y0, y1, y2, y3, y4, rfl, hy, hbl⟩
          refine hK _ _ (hS7.call hbl) ?_
          have hS8 := hS7.call hbl
          have q5_8 := q5_7.under hbl
          clear hK K hbl
          refine held_one 5 (by kernel_rfl) rfl rfl fun K hK => ?_
          (try simp only [Act.put, List.setIfInBounds_toArray, List.set_cons_zero, List.set_cons_succ])
          go_wp2_with fail
          refine hK _ _ (hS8.alloc _) ?_
          have hS9 := hS8.alloc (.cells #[.int .u64 0, .int .u64 0, .int .u64 0, .int .u64 0, .int .u64 0] 70)
          have hne : v1.heap.size ≠ v8.heap.size := Nat.ne_of_lt q5_8.lt
          have q5_9 := q5_8.alloc (.cells #[.int .u64 0, .int .u64 0, .int .u64 0, .int .u64 0, .int .u64 0] 70)
          have hg6 := hS8.room
          have q6_9 := Bk.new v8 70 #[.int .u64 0, .int .u64 0, .int .u64 0, .int .u64 0, .int .u64 0]
          generalize hv9 : v8.alloc (.cells #[.int .u64 0, .int .u64 0, .int .u64 0, .int .u64 0, .int .u64 0] 70) = v9 at *
          clear hK K hv9
          refine held_one 6 (by kernel_rfl) rfl rfl fun K hK => ?_
          refine wp_store_mid 70 (.tmp 5) (.tmp 10) rfl v1.heap.size 0 (c5 x0 x1 x2 x3 x4) rfl rfl q5_9.there iel (one_c5 _ _ _ _ _) ?_
          refine hK _ _ (hS9.cells hg5 _) ?_
          clear hK K
          refine held_one 7 (by kernel_rfl) rfl rfl fun K hK => ?_
          have t6 := Bk.offs (Ne.symm hne) (c5 x0 x1 x2 x3 x4).toList v9 0 q6_9
          have t5 : Bk (v9.setCells v1.heap.size 0 (c5 x0 x1 x2 x3 x4).toList) v1.heap.size 70 (c5 x0 x1 x2 x3 x4) := q5_9.all rfl
          have hSa : S3 w a b (v9.setCells v1.heap.size 0 (c5 x0 x1 x2 x3 x4).toList) := hS9.cells hg5 _
          generalize v9.setCells v1.heap.size 0 (c5 x0 x1 x2 x3 x4).toList = vz at *
          have t7 := Bk.offs hne (c5 y0 y1 y2 y3 y4).toList vz 0 t5
          have t8 : Bk (vz.setCells v8.heap.size 0 (c5 y0 y1 y2 y3 y4).toList) v8.heap.size 70 (c5 y0 y1 y2 y3 y4) := t6.all rfl
          have hSb := hSa.cells hg6 (c5 y0 y1 y2 y3 y4).toList
          refine wp_store_mid 70 (.tmp 6) (.tmp 12) rfl v8.heap.size 0 (c5 y0 y1 y2 y3 y4) rfl rfl t6.there iel (one_c5 _ _ _ _ _) ?_
          refine hK _ _ hSb ?_
          refine wpAnyH_done (by kernel_rfl) ?_ _
          (try simp only [Act.put, List.setIfInBounds_toArray, List.set_cons_zero, List.set_cons_succ])
          exact ⟨rfl, v1.heap.size, v8.heap.size, x0, x1, x2, x3, x4, y0, y1, y2, y3, y4, rfl, ⟨hne, hg5, hg6, hx, hy⟩, t7, t8, hSb⟩
        · refine ⟨_, rfl, rfl, fun K hK => ?_⟩
          (try simp only [Act.put, List.setIfInBounds_toArray, List.set_cons_zero, List.set_cons_succ])
          go_wp2_with fail
          refine hK _ _ (hS7.alloc _) ?_
          have hS10 := hS7.alloc (.cells #[.int .u64 0, .int .u64 0, .int .u64 0, .int .u64 0, .int .u64 0] 70)
          have hne : v1.heap.size ≠ v7.heap.size := Nat.ne_of_lt q5_7.lt
          have q5_10 := q5_7.alloc (.cells #[.int .u64 0, .int .u64 0, .int .u64 0, .int .u64 0, .int .u64 0] 70)
          have hg6 := hS7.room
          have q6_10 := Bk.new v7 70 #[.int .u64 0, .int .u64 0, .int .u64 0, .int .u64 0, .int .u64 0]
          generalize hv10 : v7.alloc (.cells #[.int .u64 0, .int .u64 0, .int .u64 0, .int .u64 0, .int .u64 0] 70) = v10 at *
          clear hK K hv10
          refine held_one 3 (by kernel_rfl) rfl rfl fun K hK => ?_
          (try simp only [Act.put, List.setIfInBounds_toArray, List.set_cons_zero, List.set_cons_succ])
          go_wp2_with fail
          refine (load_any _ hb _).mono ?_
          rintro e v11 ⟨y0, y1, y2, y3, y4, rfl, hy, hbl⟩
          refine hK _ _ (hS10.call hbl) ?_
          have hS11 := hS10.call hbl
          have q5_11 := q5_10.under hbl
          have q6_11 := q6_10.under hbl
          clear hK K hbl
          refine held_one 6 (by kernel_rfl) rfl rfl fun K hK => ?_
          refine wp_store_mid 70 (.tmp 5) (.tmp 10) rfl v1.heap.size 0 (c5 x0 x1 x2 x3 x4) rfl rfl q5_11.there iel (one_c5 _ _ _ _ _) ?_
          refine hK _ _ (hS11.cells hg5 _) ?_
          clear hK K
          refine held_one 7 (by kernel_rfl) rfl rfl fun K hK => ?_
          have t6 := Bk.offs (Ne.symm hne) (c5 x0 x1 x2 x3 x4).toList v11 0 q6_11
          have t5 : Bk (v11.setCells v1.heap.size 0 (c5 x0 x1 x2 x3 x4).toList) v1.heap.size 70 (c5 x0 x1 x2 x3 x4) := q5_11.all rfl
          have hSa : S3 w a b (v11.setCells v1.heap.size 0 (c5 x0 x1 x2 x3 x4).toList) := hS11.cells hg5 _
          generalize v11.setCells v1.heap.size 0 (c5 x0 x1 x2 x3 x4).toList = vz at *
          have t7 := Bk.offs hne (c5 y0 y1 y2 y3 y4).toList vz 0 t5
          have t8 : Bk (vz.setCells v7.heap.size 0 (c5 y0 y1 y2 y3 y4).toList) v7.heap.size 70 (c5 y0 y1 y2 y3 y4) := t6.all rfl
          have hSb := hSa.cells hg6 (c5 y0 y1 y2 y3 y4).toList
          refine wp_store_mid 70 (.tmp 6) (.tmp 12) rfl v7.heap.size 0 (c5 y0 y1 y2 y3 y4) rfl rfl t6.there iel (one_c5 _ _ _ _ _) ?_
          refine hK _ _ hSb ?_
          refine wpAnyH_done (by kernel_rfl) ?_ _
          (try simp only [Act.put, List.setIfInBounds_toArray, List.set_cons_zero, List.set_cons_succ])
          exact ⟨rfl, v1.heap.size, v7.heap.size, x0, x1, x2, x3, x4, y0, y1, y2, y3, y4, rfl, ⟨hne, hg5, hg6, hx, hy⟩, t7, t8, hSb⟩
      · refine ⟨_, rfl, rfl, fun K hK => ?_⟩
        (try simp only [Act.put, List.setIfInBounds_toArray, List.set_cons_zero, List.set_cons_succ])
        go_wp2_with fail
        refine hK _ _ (hS1.alloc _) ?_
        have hS12 := hS1.alloc (.cells #[.int .u64 0, .int .u64 0, .int .u64 0, .int .u64 0, .int .u64 0] 70)
        have hg6 := hS1.room
        have q6_12 := Bk.new v1 70 #[.int .u64 0, .int .u64 0, .int .u64 0, .int .u64 0, .int .u64 0]
        generalize hv12 : v1.alloc (.cells #[.int .u64 0, .int .u64 0, .int .u64 0, .int .u64 0, .int .u64 0] 70) = v12 at *
        clear hK K hv12
        refine held_next (rs := [3, 4]) (by kernel_rfl) (by simp) ?_
        intro i hi
        simp only [List.mem_cons, List.not_mem_nil, or_false] at hi
        rcases hi with rfl | rfl
        · refine ⟨_, rfl, rfl, fun K hK => ?_⟩
          (try simp only [Act.put, List.setIfInBounds_toArray, List.set_cons_zero, List.set_cons_succ])
          go_wp2_with fail
          refine (load_any _ hb _).mono ?_
          rintro e v13 ⟨y0, y1, y2, y3, y4, rfl, hy, hbl⟩
          refine hK _ _ (hS12.call hbl) ?_
          have hS13 := hS12.call hbl
          have q6_13 := q6_12.under hbl
          clear hK K hbl
          refine held_one 4 (by kernel_rfl) rfl rfl fun K hK => ?_
          (try simp only [Act.put, List.setIfInBounds_toArray, List.set_cons_zero, List.set_cons_succ])
          go_wp2_with fail
          refine hK _ _ (hS13.alloc _) ?_
          have hS14 := hS13.alloc (.cells #[.int .u64 0, .int .u64 0, .int .u64 0, .int .u64 0, .int .u64 0] 70)
          have hne : v13.heap.size ≠ v1.heap.size := Nat.ne_of_gt q6_13.lt
          have q6_14 := q6_13.alloc (.cells #[.int .u64 0, .int .u64 0, .int .u64 0, .int .u64 0, .int .u64 0] 70)
          have hg5 := hS13.room
          have q5_14 := Bk.new v13 70 #[.int .u64 0, .int .u64 0, .int .u64 0, .int .u64 0, .int .u64 0]
          generalize hv14 : v13.alloc (.cells #[.int .u64 0, .int .u64 0, .int .u64 0, .int .u64 0, .int .u64 0] 70) = v14 at *
          clear hK K hv14
          refine held_one 6 (by kernel_rfl) rfl rfl fun K hK => ?_
          refine wp_store_mid 70 (.tmp 5) (.tmp 10) rfl v13.heap.size 0 (c5 x0 x1 x2 x3 x4) rfl rfl q5_14.there iel (one_c5 _ _ _ _ _) ?_
          refine hK _ _ (hS14.cells hg5 _) ?_
          clear hK K
          refine held_one 7 (by kernel_rfl) rfl rfl fun K hK => ?_
          have t6 := Bk.offs (Ne.symm hne) (c5 x0 x1 x2 x3 x4).toList v14 0 q6_14
          have t5 : Bk (v14.setCells v13.heap.size 0 (c5 x0 x1 x2 x3 x4).toList) v13.heap.size 70 (c5 x0 x1 x2 x3 x4) := q5_14.all rfl
          have hSa : S3 w a b (v14.setCells v13.heap.size 0 (c5 x0 x1 x2 x3 x4).toList) := hS14.cells hg5 _
          generalize v14.setCells v13.heap.size 0 (c5 x0 x1 x2 x3 x4).toList = vz at *
          have t7 := Bk.offs hne (c5 y0 y1 y2 y3 y4).toList vz 0 t5
          have t8 : Bk (vz.setCells v1.heap.size 0 (c5 y0 y1 y2 y3 y4).toList) v1.heap.size 70 (c5 y0 y1 y2 y3 y4) := t6.all rfl
          have hSb := hSa.cells hg6 (c5 y0 y1 y2 y3 y4).toList
          refine wp_store_mid 70 (.tmp 6) (.tmp 12) rfl v1.heap.size 0 (c5 y0 y1 y2 y3 y4) rfl rfl t6.there iel (one_c5 _ _ _ _ _) ?_
          refine hK _ _ hSb ?_
          refine wpAnyH_done (by kernel_rfl) ?_ _
          (try simp only [Act.put, List.setIfInBounds_toArray, List.set_cons_zero, List.set_cons_succ])
          exact ⟨rfl, v13.heap.size, v1.heap.size, x0, x1, x2, x3, x4, y0, y1, y2, y3, y4, rfl, ⟨hne, hg5, hg6, hx, hy⟩, t7, t8, hSb⟩
        · refine ⟨_, rfl, rfl, fun K hK => ?_⟩
          (try simp only [Act.put, List.setIfInBounds_toArray, List.set_cons_zero, List.set_cons_succ])
          go_wp2_with fail
          refine hK _ _ (hS12.alloc _) ?_
          have hS15 := hS12.alloc (.cells #[.int .u64 0, .int .u64 0, .int .u64 0, .int .u64 0, .int .u64 0] 70)
          have hne : v12.heap.size ≠ v1.heap.size := Nat.ne_of_gt q6_12.lt
          have q6_15 := q6_12.alloc (.cells #[.int .u64 0, .int .u64 0, .int .u64 0, .int .u64 0, .int .u64 0] 70)
          have hg5 := hS12.room
          have q5_15 := Bk.new v12 70 #[.int .u64 0, .int .u64 0, .int .u64 0, .int .u64 0, .int .u64 0]
          generalize hv15 : v12.alloc (.cells #[.int .u64 0, .int .u64 0, .int .u64 0, .int .u64 0, .int .u64 0] 70) = v15 at *
          clear hK K hv15
          refine held_one 3 (by kernel_rfl) rfl rfl fun K hK => ?_
          (try simp only [Act.put, List.setIfInBounds_toArray, List.set_cons_zero, List.set_cons_succ])
          go_wp2_with fail
          refine (load_any _ hb _).mono ?_
          rintro e v16 ⟨y0, y1, y2, y3, y4, rfl, hy, hbl⟩
          refine hK _ _ (hS15.call hbl) ?_
          have hS16 := hS15.call hbl
          have q5_16 := q5_15.under hbl
          have q6_16 := q6_15.under hbl
          clear hK K hbl
          refine held_one 6 (by kernel_rfl) rfl rfl fun K hK => ?_
          refine wp_store_mid 70 (.tmp 5) (.tmp 10) rfl v12.heap.size 0 (c5 x0 x1 x2 x3 x4) rfl rfl q5_16.there iel (one_c5 _ _ _ _ _) ?_
          refine hK _ _ (hS16.cells hg5 _) ?_
          clear hK K
          refine held_one 7 (by kernel_rfl) rfl rfl fun K hK => ?_
          have t6 := Bk.offs (Ne.symm hne) (c5 x0 x1 x2 x3 x4).toList v16 0 q6_16
          have t5 : Bk (v16.setCells v12.heap.size 0 (c5 x0 x1 x2 x3 x4).toList) v12.heap.size 70 (c5 x0 x1 x2 x3 x4) := q5_16.all rfl
          have hSa : S3 w a b (v16.setCells v12.heap.size 0 (c5 x0 x1 x2 x3 x4).toList) := hS16.cells hg5 _
          generalize v16.setCells v12.heap.size 0 (c5 x0 x1 x2 x3 x4).toList = vz at *
          have t7 := Bk.offs hne (c5 y0 y1 y2 y3 y4).toList vz 0 t5
          have t8 : Bk (vz.setCells v1.heap.size 0 (c5 y0 y1 y2 y3 y4).toList) v1.heap.size 70 (c5 y0 y1 y2 y3 y4) := t6.all rfl
          have hSb := hSa.cells hg6 (c5 y0 y1 y2 y3 y4).toList
          refine wp_store_mid 70 (.tmp 6) (.tmp 12) rfl v1.heap.size 0 (c5 y0 y1 y2 y3 y4) rfl rfl t6.there iel (one_c5 _ _ _ _ _) ?_
          refine hK _ _ hSb ?_
          refine wpAnyH_done (by kernel_rfl) ?_ _
          (try simp only [Act.put, List.setIfInBounds_toArray, List.set_cons_zero, List.set_cons_succ])
          exact ⟨rfl, v12.heap.size, v1.heap.size, x0, x1, x2, x3, x4, y0, y1, y2, y3, y4, rfl, ⟨hne, hg5, hg6, hx, hy⟩, t7, t8, hSb⟩
    · refine ⟨_, rfl, rfl, fun K hK => ?_⟩
      (try simp only [Act.put, List.setIfInBounds_toArray, List.set_cons_zero, List.set_cons_succ])
      go_wp2_with fail
      refine hK _ _ (hS0.alloc _) ?_
      have hS17 := hS0.alloc (.cells #[.int .u64 0, .int .u64 0, .int .u64 0, .int .u64 0, .int .u64 0] 70)
      have hg5 := hS0.room
      have q5_17 := Bk.new v0 70 #[.int .u64 0, .int .u64 0, .int .u64 0, .int .u64 0, .int .u64 0]
      generalize hv17 : v0.alloc (.cells #[.int .u64 0, .int .u64 0, .int .u64 0, .int .u64 0, .int .u64 0] 70) = v17 at *
      clear hK K hv17
      refine held_next (rs := [1, 5]) (by kernel_rfl) (by simp) ?_
      intro i hi
      simp only [List.mem_cons, List.not_mem_nil, or_false] at hi
      rcases hi with rfl | rfl
      · refine ⟨_, rfl, rfl, fun K hK => ?_⟩
        (try simp only [Act.put, List.setIfInBounds_toArray, List.set_cons_zero, List.set_cons_succ])
        go_wp2_with fail
        refine (load_any _ ha _).mono ?_
        rintro e v18 ⟨x0, x1, x2, x3, x4, rfl, hx, hbl⟩
        refine hK _ _ (hS17.call hbl) ?_
        have hS18 := hS17.call hbl
        have q5_18 := q5_17.under hbl
        clear hK K hbl
        refine held_next (rs := [3, 5]) (by kernel_rfl) (by simp) ?_
        intro i hi
        simp only [List.mem_cons, List.not_mem_nil, or_false] at hi
        rcases hi with rfl | rfl
        · refine ⟨_, rfl, rfl, fun K hK => ?_⟩
          (try simp only [Act.put, List.setIfInBounds_toArray, List.set_cons_zero, List.set_cons_succ])
          go_wp2_with fail
          refine (load_any _ hb _).mono ?_
          rintro e v19 ⟨y0, y1, y2, y3, y4, rfl, hy, hbl⟩
          refine hK _ _ (hS18.call hbl) ?_
          have hS19 := hS18.call hbl
          have q5_19 := q5_18.under hbl
          clear hK K hbl
          refine held_one 5 (by kernel_rfl) rfl rfl fun K hK => ?_
          (try simp only [Act.put, List.setIfInBounds_toArray, List.set_cons_zero, List.set_cons_succ])
          go_wp2_with fail
          refine hK _ _ (hS19.alloc _) ?_
          have hS20 := hS19.alloc (.cells #[.int .u64 0, .int .u64 0, .int .u64 0, .int .u64 0, .int .u64 0] 70)
          have hne : v0.heap.size ≠ v19.heap.size := Nat.ne_of_lt q5_19.lt
          have q5_20 := q5_19.alloc (.cells #[.int .u64 0, .int .u64 0, .int .u64 0, .int .u64 0, .int .u64 0] 70)
          have hg6 := hS19.room
          have q6_20 := Bk.new v19 70 #[.int .u64 0, .int .u64 0, .int .u64 0, .int .u64 0, .int .u64 0]
          generalize hv20 : v19.alloc (.cells #[.int .u64 0, .int .u64 0, .int .u64 0, .int .u64 0, .int .u64 0] 70) = v20 at *
          clear hK K hv20
          refine held_one 6 (by kernel_rfl) rfl rfl fun K hK => ?_
          refine wp_store_mid 70 (.tmp 5) (.tmp 10) rfl v0.heap.size 0 (c5 x0 x1 x2 x3 x4) rfl rfl q5_20.there iel (one_c5 _ _ _ _ _) ?_
          refine hK _ _ (hS20.cells hg5 _) ?_
          clear hK K
          refine held_one 7 (by kernel_rfl) rfl rfl fun K hK => ?_
          have t6 := Bk.offs (Ne.symm hne) (c5 x0 x1 x2 x3 x4).toList v20 0 q6_20
          have t5 : Bk (v20.setCells v0.heap.size 0 (c5 x0 x1 x2 x3 x4).toList) v0.heap.size 70 (c5 x0 x1 x2 x3 x4) := q5_20.all rfl
          have hSa : S3 w a b (v20.setCells v0.heap.size 0 (c5 x0 x1 x2 x3 x4).toList) := hS20.cells hg5 _
          generalize v20.setCells v0.heap.size 0 (c5 x0 x1 x2 x3 x4).toList = vz at *
          have t7 := Bk.offs hne (c5 y0 y1 y2 y3 y4).toList vz 0 t5
          have t8 : Bk (vz.setCells v19.heap.size 0 (c5 y0 y1 y2 y3 y4).toList) v19.heap.size 70 (c5 y0 y1 y2 y3 y4) := t6.all rfl
          have hSb := hSa.cells hg6 (c5 y0 y1 y2 y3 y4).toList
          refine wp_store_mid 70 (.tmp 6) (.tmp 12) rfl v19.heap.size 0 (c5 y0 y1 y2 y3 y4) rfl rfl t6.there iel (one_c5 _ _ _ _ _) ?_
          refine hK _ _ hSb ?_
          refine wpAnyH_done (by kernel_rfl) ?_ _
          (try simp only [Act.put, List.setIfInBounds_toArray, List.set_cons_zero, List.set_cons_succ])
          exact ⟨rfl, v0.heap.size, v19.heap.size, x0, x1, x2, x3, x4, y0, y1, y2, y3, y4, rfl, ⟨hne, hg5, hg6, hx, hy⟩, t7, t8, hSb⟩
        · refine ⟨_, rfl, rfl, fun K hK => ?_⟩
          (try simp only [Act.put, List.setIfInBounds_toArray, List.set_cons_zero, List.set_cons_succ])
          go_wp2_with fail
          refine hK _ _ (hS18.alloc _) ?_
          have hS21 := hS18.alloc (.cells #[.int .u64 0, .int .u64 0, .int .u64 0, .int .u64 0, .int .u64 0] 70)
          have hne : v0.heap.size ≠ v18.heap.size := Nat.ne_of_lt q5_18.lt
          have q5_21 := q5_18.alloc (.cells #[.int .u64 0, .int .u64 0, .int .u64 0, .int .u64 0, .int .u64 0] 70)
          have hg6 := hS18.room
          have q6_21 := Bk.new v18 70 #[.int .u64 0, .int .u64 0, .int .u64 0, .int .u64 0, .int .u64 0]
          generalize hv21 : v18.alloc (.cells #[.int .u64 0, .int .u64 0, .int .u64 0, .int .u64 0, .int .u64 0] 70) = v21 at *
          clear hK K hv21
          refine held_one 3 (by kernel_rfl) rfl rfl fun K hK => ?_
          (try simp only [Act.put, List.setIfInBounds_toArray, List.set_cons_zero, List.set_cons_succ])
          go_wp2_with fail
          refine (load_any _ hb _).mono ?_
          rintro e v22 ⟨y0, y1, y2, y3, y4, rfl, hy, hbl⟩
          refine hK _ _ (hS21.call hbl) ?_
          have hS22 := hS21.call hbl
          have q5_22 := q5_21.under hbl
          have q6_22 := q6_21.under hbl
          clear hK K hbl
          refine held_one 6 (by kernel_rfl) rfl rfl fun K hK => ?_
          refine wp_store_mid 70 (.tmp 5) (.tmp 10) rfl v0.heap.size 0 (c5 x0 x1 x2 x3 x4) rfl rfl q5_22.there iel (one_c5 _ _ _ _ _) ?_
          refine hK _ _ (hS22.cells hg5 _) ?_
          clear hK K
          refine held_one 7 (by kernel_rfl) rfl rfl fun K hK => ?_
          have t6 := Bk.offs (Ne.symm hne) (c5 x0 x1 x2 x3 x4).toList v22 0 q6_22
          have t5 : Bk (v22.setCells v0.heap.size 0 (c5 x0 x1 x2 x3 x4).toList) v0.heap.size 70 (c5 x0 x1 x2 x3 x4) := q5_22.all rfl
          have hSa : S3 w a b (v22.setCells v0.heap.size 0 (c5 x0 x1 x2 x3 x4).toList) := hS22.cells hg5 _
          generalize v22.setCells v0.heap.size 0 (c5 x0 x1 x2 x3 x4).toList = vz at *
          have t7 := Bk.offs hne (c5 y0 y1 y2 y3 y4).toList vz 0 t5
          have t8 : Bk (vz.setCells v18.heap.size 0 (c5 y0 y1 y2 y3 y4).toList) v18.heap.size 70 (c5 y0 y1 y2 y3 y4) := t6.all rfl
          have hSb := hSa.cells hg6 (c5 y0 y1 y2 y3 y4).toList
          refine wp_store_mid 70 (.tmp 6) (.tmp 12) rfl v18.heap.size 0 (c5 y0 y1 y2 y3 y4) rfl rfl t6.there iel (one_c5 _ _ _ _ _) ?_
          refine hK _ _ hSb ?_
          refine wpAnyH_done (by kernel_rfl) ?_ _
          (try simp only [Act.put, List.setIfInBounds_toArray, List.set_cons_zero, List.set_cons_succ])
          exact ⟨rfl, v0.heap.size, v18.heap.size, x0, x1, x2, x3, x4, y0, y1, y2, y3, y4, rfl, ⟨hne, hg5, hg6, hx, hy⟩, t7, t8, hSb⟩
      · refine ⟨_, rfl, rfl, fun K hK => ?_⟩
        (try simp only [Act.put, List.setIfInBounds_toArray, List.set_cons_zero, List.set_cons_succ])
        go_wp2_with fail
        refine hK _ _ (hS17.alloc _) ?_
        have hS23 := hS17.alloc (.cells #[.int .u64 0, .int .u64 0, .int .u64 0, .int .u64 0, .int .u64 0] 70)
        have hne : v0.heap.size ≠ v17.heap.size := Nat.ne_of_lt q5_17.lt
        have q5_23 := q5_17.alloc (.cells #[.int .u64 0, .int .u64 0, .int .u64 0, .int .u64 0, .int .u64 0] 70)
        have hg6 := hS17.room
        have q6_23 := Bk.new v17 70 #[.int .u64 0, .int .u64 0, .int .u64 0, .int .u64 0, .int .u64 0]
        generalize hv23 : v17.alloc (.cells #[.int .u64 0, .int .u64 0, .int .u64 0, .int .u64 0, .int .u64 0] 70) = v23 at *
        clear hK K hv23
        refine held_one 1 (by kernel_rfl) rfl rfl fun K hK => ?_
        (try simp only [Act.put, List.setIfInBounds_toArray, List.set_cons_zero, List.set_cons_succ])
        go_wp2_with fail
        refine (load_any _ ha _).mono ?_
        rintro e v24 ⟨x0, x1, x2, x3, x4, rfl, hx, hbl⟩
        refine hK _ _ (hS23.call hbl) ?_
        have hS24 := hS23.call hbl
        have q5_24 := q5_23.under hbl
        have q6_24 := q6_23.under hbl
        clear hK K hbl
        refine held_one 3 (by kernel_rfl) rfl rfl fun K hK => ?_
        (try simp only [Act.put, List.setIfInBounds_toArray, List.set_cons_zero, List.set_cons_succ])
        go_wp2_with fail
        refine (load_any _ hb _).mono ?_
        rintro e v25 ⟨y0, y1, y2, y3, y4, rfl, hy, hbl⟩
        refine hK _ _ (hS24.call hbl) ?_
        have hS25 := hS24.call hbl
        have q5_25 := q5_24.under hbl
        have q6_25 := q6_24.under hbl
        clear hK K hbl
        refine held_one 6 (by kernel_rfl) rfl rfl fun K hK => ?_
        refine wp_store_mid 70 (.tmp 5) (.tmp 10) rfl v0.heap.size 0 (c5 x0 x1 x2 x3 x4) rfl rfl q5_25.there iel (one_c5 _ _ _ _ _) ?_
        refine hK _ _ (hS25.cells hg5 _) ?_
        clear hK K
        refine held_one 7 (by kernel_rfl) rfl rfl fun K hK => ?_
        have t6 := Bk.offs (Ne.symm hne) (c5 x0 x1 x2 x3 x4).toList v25 0 q6_25
        have t5 : Bk (v25.setCells v0.heap.size 0 (c5 x0 x1 x2 x3 x4).toList) v0.heap.size 70 (c5 x0 x1 x2 x3 x4) := q5_25.all rfl
        have hSa : S3 w a b (v25.setCells v0.heap.size 0 (c5 x0 x1 x2 x3 x4).toList) := hS25.cells hg5 _
        generalize v25.setCells v0.heap.size 0 (c5 x0 x1 x2 x3 x4).toList = vz at *
        have t7 := Bk.offs hne (c5 y0 y1 y2 y3 y4).toList vz 0 t5
        have t8 : Bk (vz.setCells v17.heap.size 0 (c5 y0 y1 y2 y3 y4).toList) v17.heap.size 70 (c5 y0 y1 y2 y3 y4) := t6.all rfl
        have hSb := hSa.cells hg6 (c5 y0 y1 y2 y3 y4).toList
        refine wp_store_mid 70 (.tmp 6) (.tmp 12) rfl v17.heap.size 0 (c5 y0 y1 y2 y3 y4) rfl rfl t6.there iel (one_c5 _ _ _ _ _) ?_
        refine hK _ _ hSb ?_
        refine wpAnyH_done (by kernel_rfl) ?_ _
        (try simp only [Act.put, List.setIfInBounds_toArray, List.set_cons_zero, List.set_cons_succ])
        exact ⟨rfl, v0.heap.size, v17.heap.size, x0, x1, x2, x3, x4, y0, y1, y2, y3, y4, rfl, ⟨hne, hg5, hg6, hx, hy⟩, t7, t8, hSb⟩
    · refine ⟨_, rfl, rfl, fun K hK => ?_⟩
      (try simp only [Act.put, List.setIfInBounds_toArray, List.set_cons_zero, List.set_cons_succ])
      go_wp2_with fail
      refine hK _ _ (hS0.alloc _) ?_
      have hS26 := hS0.alloc (.cells #[.int .u64 0, .int .u64 0, .int .u64 0, .int .u64 0, .int .u64 0] 70)
      have hg6 := hS0.room
      have q6_26 := Bk.new v0 70 #[.int .u64 0, .int .u64 0, .int .u64 0, .int .u64 0, .int .u64 0]
      generalize hv26 : v0.alloc (.cells #[.int .u64 0, .int .u64 0, .int .u64 0, .int .u64 0, .int .u64 0] 70) = v26 at *
      clear hK K hv26
      refine held_next (rs := [1, 4]) (by kernel_rfl) (by simp) ?_
      intro i hi
      simp only [List.mem_cons, List.not_mem_nil, or_false] at hi
      rcases hi with rfl | rfl
      · refine ⟨_, rfl, rfl, fun K hK => ?_⟩
        (try simp only [Act.put, List.setIfInBounds_toArray, List.set_cons_zero, List.set_cons_succ])
        go_wp2_with fail
        refine (load_any _ ha _).mono ?_
        rintro e v27 ⟨x0, x1, x2, x3, x4, rfl, hx, hbl⟩
        refine hK _ _ (hS26.call hbl) ?_
        have hS27 := hS26.call hbl
        have q6_27 := q6_26.under hbl
        clear hK K hbl
        refine held_next (rs := [3, 4]) (by kernel_rfl) (by simp) ?_
        intro i hi
        simp only [List.mem_cons, List.not_mem_nil, or_false] at hi
        rcases hi with rfl | rfl
        · refine ⟨_, rfl, rfl, fun K hK => ?_⟩
          (try simp only [Act.put, List.setIfInBounds_toArray, List.set_cons_zero, List.set_cons_succ])
          go_wp2_with fail
          refine (load_any _ hb _).mono ?_
          rintro e v28 ⟨y0, y1, y2, y3, y4, rfl, hy, hbl⟩
          refine hK _ _ (hS27.call hbl) ?_
          have hS28 := hS27.call hbl
          have q6_28 := q6_27.under hbl
          clear hK K hbl
          refine held_one 4 (by kernel_rfl) rfl rfl fun K hK => ?_
          (try simp only [Act.put, List.setIfInBounds_toArray, List.set_cons_zero, List.set_cons_succ])
          go_wp2_with fail
          refine hK _ _ (hS28.alloc _) ?_
          have hS29 := hS28.alloc (.cells #[.int .u64 0, .int .u64 0, .int .u64 0, .int .u64 0, .int .u64 0] 70)
          have hne : v28.heap.size ≠ v0.heap.size := Nat.ne_of_gt q6_28.lt
          have q6_29 := q6_28.alloc (.cells #[.int .u64 0, .int .u64 0, .int .u64 0, .int .u64 0, .int .u64 0] 70)
          have hg5 := hS28.room
          have q5_29 := Bk.new v28 70 #[.int .u64 0, .int .u64 0, .int .u64 0, .int .u64 0, .int .u64 0]
          generalize hv29 : v28.alloc (.cells #[.int .u64 0, .int .u64 0, .int .u64 0, .int .u64 0, .int .u64 0] 70) = v29 at *
          clear hK K hv29
          refine held_one 6 (by kernel_rfl) rfl rfl fun K hK => ?_
          refine wp_store_mid 70 (.tmp 5) (.tmp 10) rfl v28.heap.size 0 (c5 x0 x1 x2 x3 x4) rfl rfl q5_29.there iel (one_c5 _ _ _ _ _) ?_
          refine hK _ _ (hS29.cells hg5 _) ?_
          clear hK K
          refine held_one 7 (by kernel_rfl) rfl rfl fun K hK => ?_
          have t6 := Bk.offs (Ne.symm hne) (c5 x0 x1 x2 x3 x4).toList v29 0 q6_29
          have t5 : Bk (v29.setCells v28.heap.size 0 (c5 x0 x1 x2 x3 x4).toList) v28.heap.size 70 (c5 x0 x1 x2 x3 x4) := q5_29.all rfl
          have hSa : S3 w a b (v29.setCells v28.heap.size 0 (c5 x0 x1 x2 x3 x4).toList) := hS29.cells hg5 _
          generalize v29.setCells v28.heap.size 0 (c5 x0 x1 x2 x3 x4).toList = vz at *
          have t7 := Bk.offs hne (c5 y0 y1 y2 y3 y4).toList vz 0 t5
          have t8 : Bk (vz.setCells v0.heap.size 0 (c5 y0 y1 y2 y3 y4).toList) v0.heap.size 70 (c5 y0 y1 y2 y3 y4) := t6.all rfl
          have hSb := hSa.cells hg6 (c5 y0 y1 y2 y3 y4).toList
          refine wp_store_mid 70 (.tmp 6) (.tmp 12) rfl v0.heap.size 0 (c5 y0 y1 y2 y3 y4) rfl rfl t6.there iel (one_c5 _ _ _ _ _) ?_
          refine hK _ _ hSb ?_
          refine wpAnyH_done (by kernel_rfl) ?_ _
          (try simp only [Act.put, List.setIfInBounds_toArray, List.set_cons_zero, List.set_cons_succ])
          exact ⟨rfl, v28.heap.size, v0.heap.size, x0, x1, x2, x3, x4, y0, y1, y2, y3, y4, rfl, ⟨hne, hg5, hg6, hx, hy⟩, t7, t8, hSb⟩
        · refine ⟨_, rfl, rfl, fun K hK => ?_⟩
          (try simp only [Act.put, List.setIfInBounds_toArray, List.set_cons_zero, List.set_cons_succ])
          go_wp2_with fail
          refine hK _ _ (hS27.alloc _) ?_
          have hS30 := hS27.alloc (.cells #[.int .u64 0, .int .u64 0, .int .u64 0, .int .u64 0, .int .u64 0] 70)
          have hne : v27.heap.size ≠ v0.heap.size := Nat.ne_of_gt q6_27.lt
          have q6_30 := q6_27.alloc (.cells #[.int .u64 0, .int .u64 0, .int .u64 0, .int .u64 0, .int .u64 0] 70)
          have hg5 := hS27.room
          have q5_30 := Bk.new v27 70 #[.int .u64 0, .int .u64 0, .int .u64 0, .int .u64 0, .int .u64 0]
          generalize hv30 : v27.alloc (.cells #[.int .u64 0, .int .u64 0, .int .u64 0, .int .u64 0, .int .u64 0] 70) = v30 at *
          clear hK K hv30
          refine held_one 3 (by kernel_rfl) rfl rfl fun K hK => ?_
          (try simp only [Act.put, List.setIfInBounds_toArray, List.set_cons_zero, List.set_cons_succ])
          go_wp2_with fail
          refine (load_any _ hb _).mono ?_
          rintro e v31 ⟨y0, y1, y2, y3, y4, rfl, hy, hbl⟩
          refine hK _ _ (hS30.call hbl) ?_
          have hS31 := hS30.call hbl
          have q5_31 := q5_30.under hbl
          have q6_31 := q6_30.under hbl
          clear hK K hbl
          refine held_one 6 (by kernel_rfl) rfl rfl fun K hK => ?_
          refine wp_store_mid 70 (.tmp 5) (.tmp 10) rfl v27.heap.size 0 (c5 x0 x1 x2 x3 x4) rfl rfl q5_31.there iel (one_c5 _ _ _ _ _) ?_
          refine hK _ _ (hS31.cells hg5 _) ?_
          clear hK K
          refine held_one 7 (by kernel_rfl) rfl rfl fun K hK => ?_
          have t6 := Bk.offs (Ne.symm hne) (c5 x0 x1 x2 x3 x4).toList v31 0 q6_31
          have t5 : Bk (v31.setCells v27.heap.size 0 (c5 x0 x1 x2 x3 x4).toList) v27.heap.size 70 (c5 x0 x1 x2 x3 x4) := q5_31.all rfl
          have hSa : S3 w a b (v31.setCells v27.heap.size 0 (c5 x0 x1 x2 x3 x4).toList) := hS31.cells hg5 _
          generalize v31.setCells v27.heap.size 0 (c5 x0 x1 x2 x3 x4).toList = vz at *
          have t7 := Bk.offs hne (c5 y0 y1 y2 y3 y4).toList vz 0 t5
          have t8 : Bk (vz.setCells v0.heap.size 0 (c5 y0 y1 y2 y3 y4).toList) v0.heap.size 70 (c5 y0 y1 y2 y3 y4) := t6.all rfl
          have hSb := hSa.cells hg6 (c5 y0 y1 y2 y3 y4).toList
          refine wp_store_mid 70 (.tmp 6) (.tmp 12) rfl v0.heap.size 0 (c5 y0 y1 y2 y3 y4) rfl rfl t6.there iel (one_c5 _ _ _ _ _) ?_
          refine hK _ _ hSb ?_
          refine wpAnyH_done (by kernel_rfl) ?_ _
          (try simp only [Act.put, List.setIfInBounds_toArray, List.set_cons_zero, List.set_cons_succ])
          exact ⟨rfl, v27.heap.size, v0.heap.size, x0, x1, x2, x3, x4, y0, y1, y2, y3, y4, rfl, ⟨hne, hg5, hg6, hx, hy⟩, t7, t8, hSb⟩
      · refine ⟨_, rfl, rfl, fun K hK => ?_⟩
        (try simp only [Act.put, List.setIfInBounds_toArray, List.set_cons_zero, List.set_cons_succ])
        go_wp2_with fail
        refine hK _ _ (hS26.alloc _) ?_
        have hS32 := hS26.alloc (.cells #[.int .u64 0, .int .u64 0, .int .u64 0, .int .u64 0, .int .u64 0] 70)
        have hne : v26.heap.size ≠ v0.heap.size := Nat.ne_of_gt q6_26.lt
        have q6_32 := q6_26.alloc (.cells #[.int .u64 0, .int .u64 0, .int .u64 0, .int .u64 0, .int .u64 0] 70)
        have hg5 := hS26.room
        have q5_32 := Bk.new v26 70 #[.int .u64 0, .int .u64 0, .int .u64 0, .int .u64 0, .int .u64 0]
        generalize hv32 : v26.alloc (.cells #[.int .u64 0, .int .u64 0, .int .u64 0, .int .u64 0, .int .u64 0] 70) = v32 at *
        clear hK K hv32
        refine held_one 1 (by kernel_rfl) rfl rfl fun K hK => ?_
        (try simp only [Act.put, List.setIfInBounds_toArray, List.set_cons_zero, List.set_cons_succ])
        go_wp2_with fail
        refine (load_any _ ha _).mono ?_
        rintro e v33 ⟨x0, x1, x2, x3, x4, rfl, hx, hbl⟩
        refine hK _ _ (hS32.call hbl) ?_
        have hS33 := hS32.call hbl
        have q5_33 := q5_32.under hbl
        have q6_33 := q6_32.under hbl
        clear hK K hbl
        refine held_one 3 (by kernel_rfl) rfl rfl fun K hK => ?_
        (try simp only [Act.put, List.setIfInBounds_toArray, List.set_cons_zero, List.set_cons_succ])
        go_wp2_with fail
        refine (load_any _ hb _).mono ?_
        rintro e v34 ⟨y0, y1, y2, y3, y4, rfl, hy, hbl⟩
        refine hK _ _ (hS33.call hbl) ?_
        have hS34 := hS33.call hbl
        have q5_34 := q5_33.under hbl
        have q6_34 := q6_33.under hbl
        clear hK K hbl
        refine held_one 6 (by kernel_rfl) rfl rfl fun K hK => ?_
        refine wp_store_mid 70 (.tmp 5) (.tmp 10) rfl v26.heap.size 0 (c5 x0 x1 x2 x3 x4) rfl rfl q5_34.there iel (one_c5 _ _ _ _ _) ?_
        refine hK _ _ (hS34.cells hg5 _) ?_
        clear hK K
        refine held_one 7 (by kernel_rfl) rfl rfl fun K hK => ?_
        have t6 := Bk.offs (Ne.symm hne) (c5 x0 x1 x2 x3 x4).toList v34 0 q6_34
        have t5 : Bk (v34.setCells v26.heap.size 0 (c5 x0 x1 x2 x3 x4).toList) v26.heap.size 70 (c5 x0 x1 x2 x3 x4) := q5_34.all rfl
        have hSa : S3 w a b (v34.setCells v26.heap.size 0 (c5 x0 x1 x2 x3 x4).toList) := hS34.cells hg5 _
        generalize v34.setCells v26.heap.size 0 (c5 x0 x1 x2 x3 x4).toList = vz at *
        have t7 := Bk.offs hne (c5 y0 y1 y2 y3 y4).toList vz 0 t5
        have t8 : Bk (vz.setCells v0.heap.size 0 (c5 y0 y1 y2 y3 y4).toList) v0.heap.size 70 (c5 y0 y1 y2 y3 y4) := t6.all rfl
        have hSb := hSa.cells hg6 (c5 y0 y1 y2 y3 y4).toList
        refine wp_store_mid 70 (.tmp 6) (.tmp 12) rfl v0.heap.size 0 (c5 y0 y1 y2 y3 y4) rfl rfl t6.there iel (one_c5 _ _ _ _ _) ?_
        refine hK _ _ hSb ?_
        refine wpAnyH_done (by kernel_rfl) ?_ _
        (try simp only [Act.put, List.setIfInBounds_toArray, List.set_cons_zero, List.set_cons_succ])
        exact ⟨rfl, v26.heap.size, v0.heap.size, x0, x1, x2, x3, x4, y0, y1, y2, y3, y4, rfl, ⟨hne, hg5, hg6, hx, hy⟩, t7, t8, hSb⟩
  case rest =>
    rintro e a' w1 ⟨rfl, g5, g6, x0, x1, x2, x3, x4, y0, y1, y2, y3, y4, rfl, ⟨hne, hg5, hg6, hx, hy⟩, q5, q6, hS⟩
    have h5 : Lt52 x0 ∧ Lt52 x1 ∧ Lt52 x2 ∧ Lt52 x3 ∧ Lt52 x4 := Lt52.five hx
    have h6 : Lt52 y0 ∧ Lt52 y1 ∧ Lt52 y2 ∧ Lt52 y3 ∧ Lt52 y4 := Lt52.five hy
    have hv' := sub_sum hx.out.2.2.2.2.2 hy.out.2.2.2.2.2 h6
    obtain ⟨d0, hd0⟩ : ∃ d, d = 9007199254740916 - y0 := ⟨_, rfl⟩
    obtain ⟨s0, hs0⟩ : ∃ s, s = x0 + d0 := ⟨_, rfl⟩
    have l0 : Lt63 s0 := by unfold Lt52 at h5 h6; unfold Lt63; omega
    have r0 : IntKind.u64.wrap (9007199254740916 - (y0 : Int)) = (d0 : Int) := four_sub 9007199254740916 y0 d0 (by omega) (by unfold Lt52 at h6; omega) hd0
    have t0 : IntKind.u64.wrap ((x0 : Int) + (d0 : Int)) = (s0 : Int) := by rw [← Int.natCast_add, ← hs0]; exact wrap_id _ (by unfold Lt63 at l0; omega)
    have c0 : w1.cell? ⟨g5, 0, none⟩ = some (.int .u64 (x0 : Int)) := q5.cell 0
    have e0 : w1.cell? ⟨g6, 0, none⟩ = some (.int .u64 (y0 : Int)) := q6.cell 0
    obtain ⟨d1, hd1⟩ : ∃ d, d = 9007199254740988 - y1 := ⟨_, rfl⟩
    obtain ⟨s1, hs1⟩ : ∃ s, s = x1 + d1 := ⟨_, rfl⟩
    have l1 : Lt63 s1 := by unfold Lt52 at h5 h6; unfold Lt63; omega
    have r1 : IntKind.u64.wrap (9007199254740988 - (y1 : Int)) = (d1 : Int) := four_sub 9007199254740988 y1 d1 (by omega) (by unfold Lt52 at h6; omega) hd1
    have t1 : IntKind.u64.wrap ((x1 : Int) + (d1 : Int)) = (s1 : Int) := by rw [← Int.natCast_add, ← hs1]; exact wrap_id _ (by unfold Lt63 at l1; omega)
    have c1 : w1.cell? ⟨g5, 1, none⟩ = some (.int .u64 (x1 : Int)) := q5.cell 1
    have e1 : w1.cell? ⟨g6, 1, none⟩ = some (.int .u64 (y1 : Int)) := q6.cell 1
    obtain ⟨d2, hd2⟩ : ∃ d, d = 9007199254740988 - y2 := ⟨_, rfl⟩
    obtain ⟨s2, hs2⟩ : ∃ s, s = x2 + d2 := ⟨_, rfl⟩
    have l2 : Lt63 s2 := by unfold Lt52 at h5 h6; unfold Lt63; omega
    have r2 : IntKind.u64.wrap (9007199254740988 - (y2 : Int)) = (d2 : Int) := four_sub 9007199254740988 y2 d2 (by omega) (by unfold Lt52 at h6; omega) hd2
    have t2 : IntKind.u64.wrap ((x2 : Int) + (d2 : Int)) = (s2 : Int) := by rw [← Int.natCast_add, ← hs2]; exact wrap_id _ (by unfold Lt63 at l2; omega)
    have c2 : w1.cell? ⟨g5, 2, none⟩ = some (.int .u64 (x2 : Int)) := q5.cell 2
    have e2 : w1.cell? ⟨g6, 2, none⟩ = some (.int .u64 (y2 : Int)) := q6.cell 2
    obtain ⟨d3, hd3⟩ : ∃ d, d = 9007199254740988 - y3 := ⟨_, rfl⟩
    obtain ⟨s3, hs3⟩ : ∃ s, s = x3 + d3 := ⟨_, rfl⟩
    have l3 : Lt63 s3 := by unfold Lt52 at h5 h6; unfold Lt63; omega
    have r3 : IntKind.u64.wrap (9007199254740988 - (y3 : Int)) = (d3 : Int) := four_sub 9007199254740988 y3 d3 (by omega) (by unfold Lt52 at h6; omega) hd3
    have t3 : IntKind.u64.wrap ((x3 : Int) + (d3 : Int)) = (s3 : Int) := by rw [← Int.natCast_add, ← hs3]; exact wrap_id _ (by unfold Lt63 at l3; omega)
    have c3 : w1.cell? ⟨g5, 3, none⟩ = some (.int .u64 (x3 : Int)) := q5.cell 3
    have e3 : w1.cell? ⟨g6, 3, none⟩ = some (.int .u64 (y3 : Int)) := q6.cell 3
    obtain ⟨d4, hd4⟩ : ∃ d, d = 9007199254740988 - y4 := ⟨_, rfl⟩
    obtain ⟨s4, hs4⟩ : ∃ s, s = x4 + d4 := ⟨_, rfl⟩
    have l4 : Lt63 s4 := by unfold Lt52 at h5 h6; unfold Lt63; omega
    have r4 : IntKind.u64.wrap (9007199254740988 - (y4 : Int)) = (d4 : Int) := four_sub 9007199254740988 y4 d4 (by omega) (by unfold Lt52 at h6; omega) hd4
    have t4 : IntKind.u64.wrap ((x4 : Int) + (d4 : Int)) = (s4 : Int) := by rw [← Int.natCast_add, ← hs4]; exact wrap_id _ (by unfold Lt63 at l4; omega)
    have c4 : w1.cell? ⟨g5, 4, none⟩ = some (.int .u64 (x4 : Int)) := q5.cell 4
    have e4 : w1.cell? ⟨g6, 4, none⟩ = some (.int .u64 (y4 : Int)) := q6.cell 4
    have hv : val5 s0 s1 s2 s3 s4 = a + 4 * p25 - b := by rw [hs0, hs1, hs2, hs3, hs4, hd0, hd1, hd2, hd3, hd4]; exact hv'
    have HV := Lib.hid hv
    have HN := Lib.hid hne
    have fz : ∀ i, w1.frozen? ⟨g5, i, none⟩ = false := q5.frozen
    have ne65 : ¬ g6 = g5 := fun h => hne h.symm
    clear hs0 hs1 hs2 hs3 hs4 hd0 hd1 hd2 hd3 hd4 hv hv' hx hy h5 h6 q5 q6
    simp only [c5]
    go_wp2_with fail
    refine wp_loop_rounds 6 ?_
    rw [rounds_succ]
    go_wp2_with fail
    refine drawn_region 9 (by kernel_rfl) (by kernel_rfl) ?_
    simp only [List.take_succ_cons, List.take_zero, List.drop_succ_cons, List.drop_zero]
    repeat (refine wpStill_step (fun K hK => ?_); go_simp; (try go_bits); refine hK _ ?_; clear hK K)
    refine wpStill_nil ?_
    go_wp2_with fail
    rw [rounds_succ]
    go_wp2_with fail
    refine drawn_region 9 (by kernel_rfl) (by kernel_rfl) ?_
    simp only [List.take_succ_cons, List.take_zero, List.drop_succ_cons, List.drop_zero]
    repeat (refine wpStill_step (fun K hK => ?_); go_simp; (try go_bits); refine hK _ ?_; clear hK K)
    refine wpStill_nil ?_
    go_wp2_with fail
    rw [rounds_succ]
    go_wp2_with fail
    refine drawn_region 9 (by kernel_rfl) (by kernel_rfl) ?_
    simp only [List.take_succ_cons, List.take_zero, List.drop_succ_cons, List.drop_zero]
    repeat (refine wpStill_step (fun K hK => ?_); go_simp; (try go_bits); refine hK _ ?_; clear hK K)
    refine wpStill_nil ?_
    go_wp2_with fail
    rw [rounds_succ]
    go_wp2_with fail
    refine drawn_region 9 (by kernel_rfl) (by kernel_rfl) ?_
    simp only [List.take_succ_cons, List.take_zero, List.drop_succ_cons, List.drop_zero]
    repeat (refine wpStill_step (fun K hK => ?_); go_simp; (try go_bits); refine hK _ ?_; clear hK K)
    refine wpStill_nil ?_
    go_wp2_with fail
    rw [rounds_succ]
    go_wp2_with fail
    refine drawn_region 9 (by kernel_rfl) (by kernel_rfl) ?_
    simp only [List.take_succ_cons, List.take_zero, List.drop_succ_cons, List.drop_zero]
    repeat (refine wpStill_step (fun K hK => ?_); go_simp; (try go_bits); refine hK _ ?_; clear hK K)
    refine wpStill_nil ?_
    go_wp2_with fail
    rw [rounds_succ]
    go_wp2_with fail
    refine (store_any s0 s1 s2 s3 s4 l0 l1 l2 l3 l4 _).mono ?_
    rintro e w9 ⟨rfl, hbl⟩
    have hS9 := (((((((((hS.put hg5 0 (.int .u64 (s0 : Int))).put hg5 1 (.int .u64 (s1 : Int))).put hg5 2 (.int .u64 (s2 : Int))).put hg5 3 (.int .u64 (s3 : Int))).put hg5 4 (.int .u64 (s4 : Int))).drew).drew).drew).drew).drew.call hbl
    clear hbl hS
    have hv := HV.out
    rw [hv]
    clear hv
    go_wp2_with (refine wpList_store_mid rfl 22 (.tmp 4) (.tmp 30) rfl (w.heap.size + 1 + 1) 0 (c8 ((a + 4 * p25 - b) % p25)) rfl rfl (hS9.there _) (inum_c8 _) (one_c8 _) ?_)
    refine bodyPost_ret (results_cell_row rfl _ _ (w.heap.size + 1 + 1) 22 (c8 ((a + 4 * p25 - b) % p25)) (0, 0) _ rfl (hS9.answer _) Tryd.underlying22 rfl (inum_c8 _)) rfl ?_
    exact ⟨rfl, (hS9.store _).2.2.2⟩
end Go.Proofs.YtkmgdpbmkbpkjaaDoor
