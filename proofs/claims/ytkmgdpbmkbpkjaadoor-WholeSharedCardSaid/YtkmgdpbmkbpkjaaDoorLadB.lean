/-
  ladder's Clamp and the document's, walked: the clamped number.
-/
import Derived.Test.YtkmgdpbmkbpkjaaDoorEngU
import Derived.Test.YtkmgdpbmkbpkjaaDoorLadA
set_option linter.unusedVariables false
set_option linter.unusedSimpArgs false
namespace Go.Proofs.YtkmgdpbmkbpkjaaDoor
open Go.RowKit

theorem and_248 : ∀ x, x < 256 → x &&& 248 = x / 8 * 8 := by decide +kernel
theorem or_64 : ∀ x, x < 256 → (x &&& 63) ||| 64 = x % 64 + 64 := by decide +kernel
theorem e31 : 256 ^ 31 = 452312848583266388373324160190187140051835877600158453279131187530910662656 := by decide +kernel
theorem e254 : 2 ^ 254 = 28948022309329048855892746252171976963317496166410141009864396001978282409984 := by decide +kernel
theorem clamp_plain {k x : Nat} (hk : N256 k) (hx : x = set0 k (byteN k 0 / 8 * 8)) : set31 x (byteN x 31 % 64 + 64) = Cv.clampN k := by
  subst hx
  unfold N256 at hk
  unfold set31 set0 byteN Cv.clampN
  rw [e31, e254, Nat.pow_zero, Nat.div_one]
  omega
theorem clamp_256 (k : Nat) : N256 (Cv.clampN k) := by
  have := (Cv.clamp_ge k).2
  unfold N256
  omega

set_option maxRecDepth 100000 in
set_option maxHeartbeats 1000000 in
theorem clamp_any {k : Nat} (hk : N256 k) (w : World) : Ret Tryd.prog 13 #[.agg (c8 k)] w (.agg (c8 (Cv.clampN k))) := by
  rw [← clamp_plain hk rfl, ← and_248 _ (byteN_lt _ _), ← or_64 _ (byteN_lt _ _)]
  refine calls_of_wp Tryd.func13 rfl ?_
  simp only [Tryd.ntmps13, List.size_toArray, List.length_cons, List.length_nil, Nat.reduceAdd, Nat.reduceSub, Array.replicate_succ, Array.replicate_zero, List.push_toArray, List.append_toArray, List.nil_append, List.cons_append]
  have hO := Own.nil w
  refine wp_seq ?_
  refine wl_region ?_
  refine wl_new 22 (c8 k) rfl (by kernel_rfl) hO fun w1 hO1 => ?_
  clear hO
  try simp only [p0, p1, p2, p3]
  refine wl_new 22 (c8 0) rfl (by kernel_rfl) hO1 fun w2 hO2 => ?_
  clear hO1
  try simp only [p0, p1, p2, p3]
  refine wl_nil ?_
  show Code.wp _ _ _ _ _
  refine wp_seq ?_
  refine wl_region ?_
  refine wl_pure (.pointer (some ⟨w.heap.size, 0, none⟩)) rfl (by kernel_rfl) ?_
  try simp only [p0, p1, p2, p3]
  refine wl_byte 0 (by decide) rfl 5 (.tmp 3) rfl rfl (.tail _ (.head _)) isAgg_u8 hO2 ?_
  try simp only [p0, p1, p2, p3]
  refine wl_pure (.int .u8 (((byteN k 0) &&& 248 : Nat) : Int)) rfl (u8run (run_and (byteN k 0) 248 (byteN_lt _ _) (by decide) _) (fun _ => rfl) rfl rfl rfl _) ?_
  try simp only [p0, p1, p2, p3]
  refine wl_pure (.pointer (some ⟨w.heap.size, 0, none⟩)) rfl (by kernel_rfl) ?_
  try simp only [p0, p1, p2, p3]
  refine wl_setb (L1 := [(w1.heap.size, 22, (c8 0))]) (L2 := ([])) (n := k) (m := set0 k ((byteN k 0) &&& 248)) (b := (byteN k 0) &&& 248) 0 (by decide) (c8_set0 _ _ (Nat.lt_of_le_of_lt Nat.and_le_left (byteN_lt _ _))) rfl 5 (.tmp 6) (.tmp 5) rfl rfl rfl hO2 one_u8 fun w3 hO3 => ?_
  clear hO2
  simp only [List.nil_append, List.cons_append, List.set_cons_zero, List.set_cons_succ] at hO3
  try simp only [p0, p1, p2, p3]
  refine wl_nil ?_
  show Code.wp _ _ _ _ _
  refine wp_seq ?_
  refine wl_region ?_
  refine wl_pure (.pointer (some ⟨w.heap.size, 31, none⟩)) rfl (by kernel_rfl) ?_
  try simp only [p0, p1, p2, p3]
  refine wl_byte 31 (by decide) rfl 5 (.tmp 7) rfl rfl (.tail _ (.head _)) isAgg_u8 hO3 ?_
  try simp only [p0, p1, p2, p3]
  refine wl_pure (.int .u8 (((byteN (set0 k ((byteN k 0) &&& 248)) 31) &&& 63 : Nat) : Int)) rfl (u8run (run_and (byteN (set0 k ((byteN k 0) &&& 248)) 31) 63 (byteN_lt _ _) (by decide) _) (fun _ => rfl) rfl rfl rfl _) ?_
  try simp only [p0, p1, p2, p3]
  refine wl_pure (.int .u8 ((((byteN (set0 k ((byteN k 0) &&& 248)) 31) &&& 63) ||| 64 : Nat) : Int)) rfl (u8run (run_or ((byteN (set0 k ((byteN k 0) &&& 248)) 31) &&& 63) 64 (Nat.lt_of_le_of_lt Nat.and_le_left (byteN_lt _ _)) (by decide) _) (fun _ => rfl) rfl rfl rfl _) ?_
  try simp only [p0, p1, p2, p3]
  refine wl_pure (.pointer (some ⟨w.heap.size, 31, none⟩)) rfl (by kernel_rfl) ?_
  try simp only [p0, p1, p2, p3]
  refine wl_setb (L1 := [(w1.heap.size, 22, (c8 0))]) (L2 := ([])) (n := (set0 k ((byteN k 0) &&& 248))) (m := set31 (set0 k ((byteN k 0) &&& 248)) (((byteN (set0 k ((byteN k 0) &&& 248)) 31) &&& 63) ||| 64)) (b := ((byteN (set0 k ((byteN k 0) &&& 248)) 31) &&& 63) ||| 64) 31 (by decide) (c8_set31 _ _ (Nat.or_lt_two_pow (n := 8) (Nat.lt_of_le_of_lt Nat.and_le_left (byteN_lt _ _)) (by decide))) rfl 5 (.tmp 11) (.tmp 10) rfl rfl rfl hO3 one_u8 fun w4 hO4 => ?_
  clear hO3
  simp only [List.nil_append, List.cons_append, List.set_cons_zero, List.set_cons_succ] at hO4
  try simp only [p0, p1, p2, p3]
  refine wl_nil ?_
  show Code.wp _ _ _ _ _
  refine wp_seq ?_
  refine wl_region ?_
  refine wl_load (c8 (set31 (set0 k ((byteN k 0) &&& 248)) (((byteN (set0 k ((byteN k 0) &&& 248)) 31) &&& 63) ||| 64))) rfl 22 (.tmp 1) rfl w.heap.size rfl 22 _ (hO4.get (.tail _ (.head _))) Tryd.underlying22 rfl (inum_c8 _) ?_
  try simp only [p0, p1, p2, p3]
  refine wl_store (L1 := []) (L2 := ((w.heap.size, 22, (c8 (set31 (set0 k ((byteN k 0) &&& 248)) (((byteN (set0 k ((byteN k 0) &&& 248)) 31) &&& 63) ||| 64)))) :: [])) (cs := (c8 0)) (c8 (set31 (set0 k ((byteN k 0) &&& 248)) (((byteN (set0 k ((byteN k 0) &&& 248)) 31) &&& 63) ||| 64))) rfl 22 (.tmp 2) (.tmp 12) rfl rfl rfl hO4 (by simp only [size_c8]) (inum_c8 _) (one_c8 _) fun w5 hO5 => ?_
  clear hO4
  simp only [List.nil_append, List.cons_append, List.set_cons_zero, List.set_cons_succ] at hO5
  try simp only [p0, p1, p2, p3]
  refine wl_nil ?_
  show Code.wp _ _ _ _ _
  refine wp_ret ?_
  (try simp only [Exit.then, Exit.inBlock])
  refine bodyPost_ret (results_cell_row rfl _ _ w1.heap.size 22 (c8 (set31 (set0 k ((byteN k 0) &&& 248)) (((byteN (set0 k ((byteN k 0) &&& 248)) 31) &&& 63) ||| 64))) (0, 0) _ rfl (hO5.get (.head _)) Tryd.underlying22 rfl (inum_c8 _)) rfl ?_
  exact ⟨rfl, hO5.bl⟩
set_option maxRecDepth 100000 in
set_option maxHeartbeats 1000000 in
theorem refClamp_any {k : Nat} (hk : N256 k) (w : World) : Ret Tryd.prog 20 #[.agg (c8 k)] w (.agg (c8 (Cv.clampN k))) := by
  rw [← clamp_plain hk rfl, show byteN k 0 / 8 * 8 = byteN k 0 - byteN k 0 % 8 by omega]
  refine calls_of_wp Tryd.func20 rfl ?_
  simp only [Tryd.ntmps20, List.size_toArray, List.length_cons, List.length_nil, Nat.reduceAdd, Nat.reduceSub, Array.replicate_succ, Array.replicate_zero, List.push_toArray, List.append_toArray, List.nil_append, List.cons_append]
  have hO := Own.nil w
  refine wp_seq ?_
  refine wl_region ?_
  refine wl_new 22 (c8 k) rfl (by kernel_rfl) hO fun w1 hO1 => ?_
  clear hO
  try simp only [p0, p1, p2, p3]
  refine wl_new 22 (c8 0) rfl (by kernel_rfl) hO1 fun w2 hO2 => ?_
  clear hO1
  try simp only [p0, p1, p2, p3]
  refine wl_nil ?_
  show Code.wp _ _ _ _ _
  refine wp_seq ?_
  refine wl_region ?_
  refine wl_load (c8 k) rfl 22 (.tmp 1) rfl w.heap.size rfl 22 _ (hO2.get (.tail _ (.head _))) Tryd.underlying22 rfl (inum_c8 _) ?_
  try simp only [p0, p1, p2, p3]
  refine wl_new 22 (c8 0) rfl (by kernel_rfl) hO2 fun w3 hO3 => ?_
  clear hO2
  try simp only [p0, p1, p2, p3]
  refine wl_store (L1 := []) (L2 := ((w1.heap.size, 22, (c8 0)) :: (w.heap.size, 22, (c8 k)) :: [])) (cs := (c8 0)) (c8 k) rfl 22 (.tmp 3) (.tmp 4) rfl rfl rfl hO3 (by simp only [size_c8]) (inum_c8 _) (one_c8 _) fun w4 hO4 => ?_
  clear hO3
  simp only [List.nil_append, List.cons_append, List.set_cons_zero, List.set_cons_succ] at hO4
  try simp only [p0, p1, p2, p3]
  refine wl_nil ?_
  show Code.wp _ _ _ _ _
  refine wp_seq ?_
  refine wl_region ?_
  refine wl_pure (.pointer (some ⟨w2.heap.size, 0, none⟩)) rfl (by kernel_rfl) ?_
  try simp only [p0, p1, p2, p3]
  refine wl_byte 0 (by decide) rfl 5 (.tmp 5) rfl rfl (.head _) isAgg_u8 hO4 ?_
  try simp only [p0, p1, p2, p3]
  refine wl_pure (.pointer (some ⟨w2.heap.size, 0, none⟩)) rfl (by kernel_rfl) ?_
  try simp only [p0, p1, p2, p3]
  refine wl_byte 0 (by decide) rfl 5 (.tmp 7) rfl rfl (.head _) isAgg_u8 hO4 ?_
  try simp only [p0, p1, p2, p3]
  refine wl_pure (.int .u8 (((byteN k 0) % 8 : Nat) : Int)) rfl (u8run (run_rem (byteN k 0) 8 (byteN_lt _ _) (by decide) (by decide) _) (fun _ => rfl) rfl rfl rfl _) ?_
  try simp only [p0, p1, p2, p3]
  refine wl_pure (.int .u8 (((byteN k 0) - ((byteN k 0) % 8) : Nat) : Int)) rfl (u8run (run_sub (byteN k 0) ((byteN k 0) % 8) (byteN_lt _ _) (Nat.mod_le _ _) _) (fun _ => rfl) rfl rfl rfl _) ?_
  try simp only [p0, p1, p2, p3]
  refine wl_pure (.pointer (some ⟨w2.heap.size, 0, none⟩)) rfl (by kernel_rfl) ?_
  try simp only [p0, p1, p2, p3]
  refine wl_setb (L1 := []) (L2 := ((w1.heap.size, 22, (c8 0)) :: (w.heap.size, 22, (c8 k)) :: [])) (n := k) (m := set0 k ((byteN k 0) - ((byteN k 0) % 8))) (b := (byteN k 0) - ((byteN k 0) % 8)) 0 (by decide) (c8_set0 _ _ (Nat.lt_of_le_of_lt (Nat.sub_le _ _) (byteN_lt _ _))) rfl 5 (.tmp 11) (.tmp 10) rfl rfl rfl hO4 one_u8 fun w5 hO5 => ?_
  clear hO4
  simp only [List.nil_append, List.cons_append, List.set_cons_zero, List.set_cons_succ] at hO5
  try simp only [p0, p1, p2, p3]
  refine wl_nil ?_
  show Code.wp _ _ _ _ _
  refine wp_seq ?_
  refine wl_region ?_
  refine wl_pure (.pointer (some ⟨w2.heap.size, 31, none⟩)) rfl (by kernel_rfl) ?_
  try simp only [p0, p1, p2, p3]
  refine wl_byte 31 (by decide) rfl 5 (.tmp 12) rfl rfl (.head _) isAgg_u8 hO5 ?_
  try simp only [p0, p1, p2, p3]
  refine wl_pure (.int .u8 (((byteN (set0 k ((byteN k 0) - ((byteN k 0) % 8))) 31) % 64 : Nat) : Int)) rfl (u8run (run_rem (byteN (set0 k ((byteN k 0) - ((byteN k 0) % 8))) 31) 64 (byteN_lt _ _) (by decide) (by decide) _) (fun _ => rfl) rfl rfl rfl _) ?_
  try simp only [p0, p1, p2, p3]
  refine wl_pure (.int .u8 ((((byteN (set0 k ((byteN k 0) - ((byteN k 0) % 8))) 31) % 64) + 64 : Nat) : Int)) rfl (u8run (run_add ((byteN (set0 k ((byteN k 0) - ((byteN k 0) % 8))) 31) % 64) 64 (by have := Nat.mod_lt (byteN (set0 k (byteN k 0 - byteN k 0 % 8)) 31) (show 64 > 0 by decide); omega) _) (fun _ => rfl) rfl rfl rfl _) ?_
  try simp only [p0, p1, p2, p3]
  refine wl_pure (.pointer (some ⟨w2.heap.size, 31, none⟩)) rfl (by kernel_rfl) ?_
  try simp only [p0, p1, p2, p3]
  refine wl_setb (L1 := []) (L2 := ((w1.heap.size, 22, (c8 0)) :: (w.heap.size, 22, (c8 k)) :: [])) (n := (set0 k ((byteN k 0) - ((byteN k 0) % 8)))) (m := set31 (set0 k ((byteN k 0) - ((byteN k 0) % 8))) (((byteN (set0 k ((byteN k 0) - ((byteN k 0) % 8))) 31) % 64) + 64)) (b := ((byteN (set0 k ((byteN k 0) - ((byteN k 0) % 8))) 31) % 64) + 64) 31 (by decide) (c8_set31 _ _ (by have := Nat.mod_lt (byteN (set0 k (byteN k 0 - byteN k 0 % 8)) 31) (show 64 > 0 by decide); omega)) rfl 5 (.tmp 16) (.tmp 15) rfl rfl rfl hO5 one_u8 fun w6 hO6 => ?_
  clear hO5
  simp only [List.nil_append, List.cons_append, List.set_cons_zero, List.set_cons_succ] at hO6
  try simp only [p0, p1, p2, p3]
  refine wl_nil ?_
  show Code.wp _ _ _ _ _
  refine wp_seq ?_
  refine wl_region ?_
  refine wl_load (c8 (set31 (set0 k ((byteN k 0) - ((byteN k 0) % 8))) (((byteN (set0 k ((byteN k 0) - ((byteN k 0) % 8))) 31) % 64) + 64))) rfl 22 (.tmp 3) rfl w2.heap.size rfl 22 _ (hO6.get (.head _)) Tryd.underlying22 rfl (inum_c8 _) ?_
  try simp only [p0, p1, p2, p3]
  refine wl_store (L1 := [(w2.heap.size, 22, (c8 (set31 (set0 k ((byteN k 0) - ((byteN k 0) % 8))) (((byteN (set0 k ((byteN k 0) - ((byteN k 0) % 8))) 31) % 64) + 64))))]) (L2 := ((w.heap.size, 22, (c8 k)) :: [])) (cs := (c8 0)) (c8 (set31 (set0 k ((byteN k 0) - ((byteN k 0) % 8))) (((byteN (set0 k ((byteN k 0) - ((byteN k 0) % 8))) 31) % 64) + 64))) rfl 22 (.tmp 2) (.tmp 17) rfl rfl rfl hO6 (by simp only [size_c8]) (inum_c8 _) (one_c8 _) fun w7 hO7 => ?_
  clear hO6
  simp only [List.nil_append, List.cons_append, List.set_cons_zero, List.set_cons_succ] at hO7
  try simp only [p0, p1, p2, p3]
  refine wl_nil ?_
  show Code.wp _ _ _ _ _
  refine wp_ret ?_
  (try simp only [Exit.then, Exit.inBlock])
  refine bodyPost_ret (results_cell_row rfl _ _ w1.heap.size 22 (c8 (set31 (set0 k ((byteN k 0) - ((byteN k 0) % 8))) (((byteN (set0 k ((byteN k 0) - ((byteN k 0) % 8))) 31) % 64) + 64))) (0, 0) _ rfl (hO7.get (.tail _ (.head _))) Tryd.underlying22 rfl (inum_c8 _)) rfl ?_
  exact ⟨rfl, hO7.bl⟩
end Go.Proofs.YtkmgdpbmkbpkjaaDoor
