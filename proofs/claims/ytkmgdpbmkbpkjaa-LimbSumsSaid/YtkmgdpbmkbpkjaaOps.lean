/-
  limb.Reduce, limb.Zero, told by numbers.
-/
import Derived.Test.YtkmgdpbmkbpkjaaMul
import Derived.Test.YtkmgdpbmkbpkjaaCmp
set_option linter.unusedVariables false
set_option linter.unusedSimpArgs false
namespace Go.Proofs.Ytkmgdpbmkbpkjaa
open Go.RowKit

theorem bk_1 (w : World) (t : TypeId) (c : Array Value) (o : Obj) : Bk ((w.alloc (.cells c t)).alloc o) w.heap.size t c := (Bk.new w t c).alloc o
theorem bk_2 (w : World) (t : TypeId) (c : Array Value) (o : Obj) : Bk ((w.alloc o).alloc (.cells c t)) (w.heap.size + 1) t c := Bk.at_ _ _ _ _ (by simp)
theorem N256.mod (n : Nat) : N256 (n % p25) := by unfold N256 p25; omega

set_option maxRecDepth 100000 in
set_option maxHeartbeats 1000000 in
theorem reduce_any (n : Nat) (hn : N256 n) (w : World) :
    Calls Try.prog 18 #[.agg (c8 n)] w fun e w' => e = .returned (.agg (c8 (n % p25))) ∧ Below w.heap.size w w' := by
  go_enter Try.func18, Try.ntmps18
  go_wp2_with (refine wpList_load_row rfl 22 (.tmp 1) rfl w.heap.size rfl 22 (c8 n) (0, 0) _ (bk_1 _ _ _ _) Try.underlying22 rfl (inum_c8 n) ?_)
  rw [← c8p_zero 0]
  refine (load_any n hn _).mono ?_
  rintro e w1 ⟨x0, x1, x2, x3, x4, rfl, hx, hbl⟩
  have q := (bk_2 _ _ _ _).under hbl
  have L := bl_call (bl_alloc (bl_alloc (Below.refl w.heap.size w) _) _) hbl
  clear hbl
  have hv := hx.out.2.2.2.2.2
  have l0 := hx.out.1.up
  have l1 := hx.out.2.1.up
  have l2 := hx.out.2.2.1.up
  have l3 := hx.out.2.2.2.1.up
  have l4 := hx.out.2.2.2.2.1.up
  have HV := Lib.hid hv
  clear hx hv
  go_wp2_with fail
  refine (store_any x0 x1 x2 x3 x4 l0 l1 l2 l3 l4 _).mono ?_
  rintro e w2 ⟨rfl, hbl⟩
  have q2 := q.under hbl
  have L2 := bl_call L hbl
  clear hbl q L
  have hv := HV.out
  rw [hv]
  clear hv
  have hth : w2.there (w.heap.size + 1) 0 (c8 (n % p25)).size := by rw [size_c8, ← size_c8p 0 0]; exact q2.there
  go_wp2_with (refine wpList_store_mid rfl 22 (.tmp 2) (.tmp 5) rfl (w.heap.size + 1) 0 (c8 (n % p25)) rfl rfl hth (inum_c8 _) (one_c8 _) ?_)
  refine bodyPost_ret (results_cell_row rfl _ _ (w.heap.size + 1) 22 (c8 (n % p25)) (0, 0) _ rfl (q2.all (by rw [size_c8, size_c8p])) Try.underlying22 rfl (inum_c8 _)) rfl ?_
  exact ⟨rfl, bl_cells (by omega) _ _ _ L2⟩

set_option maxRecDepth 100000 in
set_option maxHeartbeats 1000000 in
theorem zero_any (n : Nat) (hn : N256 n) (w : World) :
    Calls Try.prog 13 #[.agg (c8 n)] w fun e w' => e = .returned (.bool (decide (n % p25 = 0))) ∧ Below w.heap.size w w' := by
  have hq := run_equalIn_c8 (N256.mod n) (show N256 0 by unfold N256; omega)
  rw [show c8 0 = #[.int .u8 0, .int .u8 0, .int .u8 0, .int .u8 0, .int .u8 0, .int .u8 0, .int .u8 0, .int .u8 0, .int .u8 0, .int .u8 0, .int .u8 0, .int .u8 0, .int .u8 0, .int .u8 0, .int .u8 0, .int .u8 0, .int .u8 0, .int .u8 0, .int .u8 0, .int .u8 0, .int .u8 0, .int .u8 0, .int .u8 0, .int .u8 0, .int .u8 0, .int .u8 0, .int .u8 0, .int .u8 0, .int .u8 0, .int .u8 0, .int .u8 0, .int .u8 0] by kernel_rfl] at hq
  go_enter Try.func13, Try.ntmps13
  go_wp2_with (refine wpList_load_row rfl 22 (.tmp 1) rfl w.heap.size rfl 22 (c8 n) (0, 0) _ (Bk.new _ _ _) Try.underlying22 rfl (inum_c8 n) ?_)
  refine (reduce_any n hn _).mono ?_
  rintro e w1 ⟨rfl, hbl⟩
  have L := bl_call (bl_alloc (Below.refl w.heap.size w) _) hbl
  clear hbl
  go_wp2_with fail
  go_ret
  exact ⟨rfl, L⟩

end Go.Proofs.Ytkmgdpbmkbpkjaa
