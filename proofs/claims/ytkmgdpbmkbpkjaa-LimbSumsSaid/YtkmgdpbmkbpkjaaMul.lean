/-
  limb.Reduce, limb.Zero, limb.Mul, told by numbers.
-/
import Derived.Test.YtkmgdpbmkbpkjaaTimesAny
import Derived.Test.YtkmgdpbmkbpkjaaStoreAny
import Derived.Test.YtkmgdpbmkbpkjaaHeld
set_option linter.unusedVariables false
set_option linter.unusedSimpArgs false
namespace Go.Proofs.Ytkmgdpbmkbpkjaa
open Go.RowKit

theorem Lt52.five {a b c d e n : Nat} (h : Hid (Lt52 a ∧ Lt52 b ∧ Lt52 c ∧ Lt52 d ∧ Lt52 e ∧ val5 a b c d e = n)) : Lt52 a ∧ Lt52 b ∧ Lt52 c ∧ Lt52 d ∧ Lt52 e := ⟨h.out.1, h.out.2.1, h.out.2.2.1, h.out.2.2.2.1, h.out.2.2.2.2.1⟩
theorem Lt52.up {a : Nat} (h : Lt52 a) : Lt63 a := by unfold Lt52 at h; unfold Lt63; omega

/-- Two numbers' boxes, and the place of the answer. -/
def S3 (w : World) (a b : Nat) (w' : World) : Prop := Bk w' w.heap.size 22 (c8 a) ∧ Bk w' (w.heap.size + 1) 22 (c8 b) ∧ (∃ z, z.size = 32 ∧ Bk w' (w.heap.size + 1 + 1) 22 z) ∧ Below w.heap.size w w'
theorem S3.start (w : World) (a b : Nat) : S3 w a b (((w.alloc (.cells (c8 a) 22)).alloc (.cells (c8 b) 22)).alloc (.cells (c8p 0 0) 22)).drew := by
  refine ⟨?_, ?_, ?_, ?_⟩
  · repeat (first | (refine Bk.at_ _ _ _ _ ?_; simp; done) | refine Bk.drew ?_ | refine Bk.alloc ?_ _)
  · repeat (first | (refine Bk.at_ _ _ _ _ ?_; simp; done) | refine Bk.drew ?_ | refine Bk.alloc ?_ _)
  · refine ⟨c8p 0 0, size_c8p _ _, ?_⟩
    repeat (first | (refine Bk.at_ _ _ _ _ ?_; simp; done) | refine Bk.drew ?_ | refine Bk.alloc ?_ _)
  · repeat (first | exact Below.refl _ _ | assumption | refine Below.drew ?_ | refine bl_alloc ?_ _ | refine bl_drewN ?_ _)
theorem S3.call {w : World} {a b : Nat} {w1 w2 : World} (h : S3 w a b w1) (hb : Below w1.heap.size w1 w2) : S3 w a b w2 :=
  ⟨h.1.under hb, h.2.1.under hb, ⟨h.2.2.1.choose, h.2.2.1.choose_spec.1, h.2.2.1.choose_spec.2.under hb⟩, bl_call h.2.2.2 hb⟩
theorem S3.there {w : World} {a b : Nat} {w1 : World} (h : S3 w a b w1) (r : Nat) : w1.there (w.heap.size + 1 + 1) 0 (c8 r).size := by
  obtain ⟨z, hz, hk⟩ := h.2.2.1
  have := hk.there
  rwa [hz, ← size_c8 r] at this
theorem S3.answer {w : World} {a b : Nat} {w1 : World} (h : S3 w a b w1) (r : Nat) : Bk (w1.setCells (w.heap.size + 1 + 1) 0 (c8 r).toList) (w.heap.size + 1 + 1) 22 (c8 r) := by
  obtain ⟨z, hz, hk⟩ := h.2.2.1
  exact hk.all (by rw [hz, size_c8])
theorem S3.store {w : World} {a b : Nat} {w1 : World} (h : S3 w a b w1) (r : Nat) : S3 w a b (w1.setCells (w.heap.size + 1 + 1) 0 (c8 r).toList) :=
  ⟨Bk.offs (by omega) _ _ _ h.1, Bk.offs (by omega) _ _ _ h.2.1, ⟨c8 r, size_c8 r, h.answer r⟩, bl_cells (by omega) _ _ _ h.2.2.2⟩

theorem S3.alloc {w : World} {a b : Nat} {w1 : World} (h : S3 w a b w1) (o : Obj) : S3 w a b (w1.alloc o) :=
  ⟨h.1.alloc o, h.2.1.alloc o, ⟨h.2.2.1.choose, h.2.2.1.choose_spec.1, h.2.2.1.choose_spec.2.alloc o⟩, bl_alloc h.2.2.2 o⟩
theorem S3.drew {w : World} {a b : Nat} {w1 : World} (h : S3 w a b w1) : S3 w a b w1.drew := ⟨h.1, h.2.1, h.2.2.1, h.2.2.2.drew⟩
theorem S3.room {w : World} {a b : Nat} {w1 : World} (h : S3 w a b w1) : w.heap.size + 1 + 1 < w1.heap.size := h.2.2.1.choose_spec.2.lt
theorem S3.cells {w : World} {a b : Nat} {w1 : World} (h : S3 w a b w1) {g : Nat} (hg : w.heap.size + 1 + 1 < g) (l : List Value) : S3 w a b (w1.setCells g 0 l) :=
  ⟨Bk.offs (by omega) _ _ _ h.1, Bk.offs (by omega) _ _ _ h.2.1, ⟨h.2.2.1.choose, h.2.2.1.choose_spec.1, Bk.offs (by omega) _ _ _ h.2.2.1.choose_spec.2⟩, bl_cells (by omega) _ _ _ h.2.2.2⟩
theorem S3.put {w : World} {a b : Nat} {w1 : World} (h : S3 w a b w1) {g : Nat} (hg : w.heap.size + 1 + 1 < g) (i : Nat) (u : Value) : S3 w a b (w1.setCell ⟨g, i, none⟩ u) :=
  ⟨h.1.off (by omega) _ _, h.2.1.off (by omega) _ _, ⟨h.2.2.1.choose, h.2.2.1.choose_spec.1, h.2.2.1.choose_spec.2.off (by omega) _ _⟩, bl_put h.2.2.2 (by omega) _⟩

set_option maxRecDepth 100000 in
set_option maxHeartbeats 1000000 in
theorem mul_any (a b : Nat) (ha : N256 a) (hb : N256 b) (w : World) :
    Calls Try.prog 15 #[.agg (c8 a), .agg (c8 b)] w fun e w' => e = .returned (.agg (c8 (a * b % p25))) ∧ Below w.heap.size w w' := by
  go_enter Try.func15, Try.ntmps15
  go_wp2_with fail
  rw [← c8p_zero 0]
  refine held_start (S3 w a b) (by kernel_rfl) (S3.start w a b) fun hS => ?_
  refine held_row 0 (c8 a) rfl (by kernel_rfl) (by kernel_rfl) (by kernel_rfl) (fun _ _ _ h => h) rfl 22 (.tmp 2) rfl w.heap.size rfl 22 _ (fun _ h => h.1) Try.underlying22 rfl (inum_c8 a) hS ?_
  refine held_row 2 (c8 b) rfl (by kernel_rfl) (by kernel_rfl) (by kernel_rfl) (fun _ _ _ h => h) rfl 22 (.tmp 3) rfl (w.heap.size + 1) rfl 22 _ (fun _ h => h.2.1) Try.underlying22 rfl (inum_c8 b) hS ?_
  refine held_one 1 (by kernel_rfl) rfl rfl fun K hK => ?_
  (try simp only [Act.put, List.setIfInBounds_toArray, List.set_cons_zero, List.set_cons_succ])
  go_wp2_with fail
  refine (load_any _ ha _).mono ?_
  rintro e w1 ⟨x0, x1, x2, x3, x4, rfl, hx, hbl⟩
  refine hK _ _ (hS.call hbl) ?_
  have hS1 := hS.call hbl
  clear hK K hbl hS
  refine held_one 3 (by kernel_rfl) rfl rfl fun K hK => ?_
  (try simp only [Act.put, List.setIfInBounds_toArray, List.set_cons_zero, List.set_cons_succ])
  go_wp2_with fail
  refine (load_any _ hb _).mono ?_
  rintro e w2 ⟨y0, y1, y2, y3, y4, rfl, hy, hbl⟩
  refine hK _ _ (hS1.call hbl) ?_
  have hS2 := hS1.call hbl
  clear hK K hbl hS1
  refine held_one 4 (by kernel_rfl) rfl rfl fun K hK => ?_
  (try simp only [Act.put, List.setIfInBounds_toArray, List.set_cons_zero, List.set_cons_succ])
  go_wp2_with fail
  refine (times_any _ _ _ _ _ _ _ _ _ _ _ (Lt52.five hx) (Lt52.five hy)).mono ?_
  rintro e w3 ⟨z0, z1, z2, z3, z4, rfl, hz, hbl⟩
  refine hK _ _ (hS2.call hbl) ?_
  have hS3 := hS2.call hbl
  clear hK K hbl hS2
  refine held_one 5 (by kernel_rfl) rfl rfl fun K hK => ?_
  (try simp only [Act.put, List.setIfInBounds_toArray, List.set_cons_zero, List.set_cons_succ])
  go_wp2_with fail
  refine (store_any z0 z1 z2 z3 z4 hz.out.1.up hz.out.2.1.up hz.out.2.2.1.up hz.out.2.2.2.1.up hz.out.2.2.2.2.1.up _).mono ?_
  rintro e w4 ⟨rfl, hbl⟩
  refine hK _ _ (hS3.call hbl) ?_
  have hS4 := hS3.call hbl
  clear hK K hbl hS3
  have hv : val5 z0 z1 z2 z3 z4 % p25 = a * b % p25 := by
    rw [hz.out.2.2.2.2.2, hx.out.2.2.2.2.2, hy.out.2.2.2.2.2]
  rw [hv]
  clear hv hx hy hz
  refine held_one 6 (by kernel_rfl) rfl rfl fun K hK => ?_
  refine wp_store_mid 22 (.tmp 4) (.tmp 10) rfl (w.heap.size + 1 + 1) 0 (c8 (a * b % p25)) rfl rfl (hS4.there _) (inum_c8 _) (one_c8 _) ?_
  refine hK _ _ (hS4.store _) ?_
  refine wpAnyH_done (by kernel_rfl) ?_ _
  (try simp only [Act.put, List.setIfInBounds_toArray, List.set_cons_zero, List.set_cons_succ])
  go_wp2_with fail
  refine bodyPost_ret (results_cell_row rfl _ _ (w.heap.size + 1 + 1) 22 (c8 (a * b % p25)) (0, 0) _ rfl (hS4.answer _) Try.underlying22 rfl (inum_c8 _)) rfl ?_
  exact ⟨rfl, (hS4.store _).2.2.2⟩
end Go.Proofs.Ytkmgdpbmkbpkjaa
