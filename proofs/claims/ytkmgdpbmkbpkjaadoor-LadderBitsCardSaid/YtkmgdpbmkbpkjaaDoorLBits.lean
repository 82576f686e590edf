/-
  LadderBits, walked: it answers true.
-/
import Derived.Test.YtkmgdpbmkbpkjaaDoorLadL
set_option linter.unusedVariables false
set_option linter.unusedSimpArgs false
namespace Go.Proofs.YtkmgdpbmkbpkjaaDoor
open Go.RowKit

/-- A secret, a point, two bytes. -/
def bitsC (k u l h : Nat) : Array Value := (slab [k, u] ++ [Value.int .u8 (l : Int), Value.int .u8 (h : Int)]).toArray
theorem bitsC_k (k u l h : Nat) (j : Nat) (hj : j < 32) : (bitsC k u l h)[0 + j]? = (c8 k)[j]? := by
  unfold bitsC
  rw [List.getElem?_toArray, List.getElem?_append_left (by rw [len_slab]; simp; omega), ← Array.getElem?_toList]
  exact slab_at [k, u] 0 k rfl j hj
theorem bitsC_u (k u l h : Nat) (j : Nat) (hj : j < 32) : (bitsC k u l h)[32 + j]? = (c8 u)[j]? := by
  unfold bitsC
  rw [List.getElem?_toArray, List.getElem?_append_left (by rw [len_slab]; simp; omega), ← Array.getElem?_toList]
  exact slab_at [k, u] 1 u rfl j hj
theorem bitsC_l (k u l h : Nat) : (bitsC k u l h)[64]? = some (.int .u8 (l : Int)) := by
  unfold bitsC
  rw [List.getElem?_toArray, List.getElem?_append_right (by rw [len_slab]; simp), len_slab]
  rfl
theorem bitsC_h (k u l h : Nat) : (bitsC k u l h)[65]? = some (.int .u8 (h : Int)) := by
  unfold bitsC
  rw [List.getElem?_toArray, List.getElem?_append_right (by rw [len_slab]; simp), len_slab]
  rfl
theorem xor_8 : ∀ b, b < 256 → ∀ j, j < 8 → (b ^^^ j) / 8 = b / 8 := by decide +kernel
theorem and_192 : ∀ h, h < 256 → h &&& 192 = h / 64 * 64 := by decide +kernel
theorem xor_64 : ∀ b, b < 256 → ∀ q, q < 4 → (b ^^^ (q * 64)) % 64 = b % 64 := by decide +kernel
theorem xor_128 : ∀ b, b < 256 → (b ^^^ 128) % 128 = b % 128 := by decide +kernel
theorem XN_secret {k l u : Nat} (h : Cv.clampN k = Cv.clampN l) : Cv.XN k u = Cv.XN l u := by unfold Cv.XN; rw [h]
theorem XN_base {k u v : Nat} (h : Cv.baseN u = Cv.baseN v) : Cv.XN k u = Cv.XN k v := by unfold Cv.XN; rw [h]
theorem clamp_twice (k : Nat) : Cv.clampN (Cv.clampN k) = Cv.clampN k := by
  unfold Cv.clampN
  have : k % 2 ^ 254 < 2 ^ 254 := Nat.mod_lt _ (by decide)
  generalize k % 2 ^ 254 = x at *
  rw [e254] at *
  omega
theorem clamp_low (k : Nat) : byteN (Cv.clampN k) 0 % 8 = 0 := by
  unfold byteN Cv.clampN
  rw [e254, Nat.pow_zero, Nat.div_one]
  omega
theorem clamp_top (k : Nat) : 64 ≤ byteN (Cv.clampN k) 31 ∧ byteN (Cv.clampN k) 31 < 128 := by
  have := Cv.clamp_ge k
  rw [e254, e255] at this
  unfold byteN
  rw [e31]
  omega
/-- The bits that are clamped do not matter. -/
theorem clamp_turned {k l h : Nat} (hk : N256 k) (hl : l < 256) (hh : h < 256) :
    Cv.clampN (set31 (set0 k (byteN k 0 ^^^ (l % 8))) (byteN (set0 k (byteN k 0 ^^^ (l % 8))) 31 ^^^ (h &&& 192))) = Cv.clampN k := by
  have h1 := xor_8 (byteN k 0) (byteN_lt _ _) (l % 8) (Nat.mod_lt _ (by decide))
  have hx : byteN k 0 ^^^ (l % 8) < 256 := Nat.xor_lt_two_pow (n := 8) (byteN_lt _ _) (Nat.lt_of_lt_of_le (Nat.mod_lt _ (by decide)) (by decide))
  generalize byteN k 0 ^^^ (l % 8) = x at *
  have h2 := xor_64 (byteN (set0 k x) 31) (byteN_lt _ _) (h / 64) (by omega)
  rw [and_192 h hh]
  generalize byteN (set0 k x) 31 ^^^ (h / 64 * 64) = y at *
  unfold N256 at hk
  unfold byteN set0 at *
  unfold set31 Cv.clampN
  rw [e31] at *
  rw [e254]
  rw [Nat.pow_zero, Nat.div_one] at h1
  omega
theorem base_turned {u : Nat} (hu : N256 u) : Cv.baseN (set31 u (byteN u 31 ^^^ 128)) = Cv.baseN u := by
  have h1 := xor_128 (byteN u 31) (byteN_lt _ _)
  have hx : byteN u 31 ^^^ 128 < 256 := Nat.xor_lt_two_pow (n := 8) (byteN_lt _ _) (by decide)
  unfold Cv.baseN
  congr 1
  generalize byteN u 31 ^^^ 128 = y at *
  unfold N256 at hu
  unfold byteN set31 at *
  rw [e31] at *
  rw [e255]
  omega
set_option maxRecDepth 100000 in
set_option maxHeartbeats 8000000 in
theorem bits_any {k u l h : Nat} (hk : N256 k) (hu : N256 u) (hl : l < 256) (hh : h < 256) (w : World) {tG : TypeId} (hG : Bk w 0 tG (c8 121665)) : Ret Tryd.prog 7 #[.agg (bitsC k u l h)] w (.bool true) := by
  have hL : N256 (set0 k (byteN k 0 ^^^ (l % 8))) := set0_256 hk (Nat.xor_lt_two_pow (n := 8) (byteN_lt _ _) (Nat.lt_of_lt_of_le (Nat.mod_lt _ (by decide)) (by decide)))
  have hL2 : N256 (set31 (set0 k (byteN k 0 ^^^ (l % 8))) (byteN (set0 k (byteN k 0 ^^^ (l % 8))) 31 ^^^ (h &&& 192))) := set31_256 (Nat.xor_lt_two_pow (n := 8) (byteN_lt _ _) (Nat.lt_of_le_of_lt Nat.and_le_left hh))
  have hV : N256 (set31 u (byteN u 31 ^^^ 128)) := set31_256 (Nat.xor_lt_two_pow (n := 8) (byteN_lt _ _) (by decide))
  refine calls_of_wp Tryd.func7 rfl ?_
  simp only [Tryd.ntmps7, List.size_toArray, List.length_cons, List.length_nil, Nat.reduceAdd, Nat.reduceSub, Array.replicate_succ, Array.replicate_zero, List.push_toArray, List.append_toArray, List.nil_append, List.cons_append]
  have hO := Own.nil w
  refine wp_seq ?_
  refine wl_region ?_
  refine wl_new 41 (bitsC k u l h) rfl (by kernel_rfl) hO fun w1 hO1 => ?_
  clear hO
  try simp only [p0, p1, p2, p3]
  refine wl_pure (.bool false) rfl (by kernel_rfl) ?_
  try simp only [p0, p1, p2, p3]
  refine wl_nil ?_
  show Code.wp _ _ _ _ _
  refine wp_seq ?_
  refine wp_seq ?_
  refine wl_region ?_
  refine wl_call (.bool true) rfl (by kernel_rfl) (alive_any _ (hG.below hO1.bl hG.lt)) hO1 fun w2 hO2 => ?_
  clear hO1
  try simp only [p0, p1, p2, p3]
  refine wl_pure (.bool false) rfl (by kernel_rfl) ?_
  try simp only [p0, p1, p2, p3]
  refine wl_nil ?_
  show Code.wp _ _ _ _ _
  refine wp_cond_false rfl ?_
  refine wp_skip ?_
  show Code.wp _ _ _ _ _
  refine wp_seq ?_
  refine fl_start [] #[false, false, false, false, false, false, false, false, false, false, false, false, false, false] (by kernel_rfl) (by kernel_rfl) hO2 fun w3 hO3 => ?_
  clear hO2
  refine fl_pure 0 #[true, false, false, false, false, false, false, false, false, false, false, false, false, false] (by kernel_rfl) rfl (some 12) (by kernel_rfl) (by kernel_rfl) (by kernel_rfl) (by kernel_rfl) (by kernel_rfl) (.pointer (some ⟨w.heap.size, 0, none⟩)) (by kernel_rfl) (fun _ => by kernel_rfl) (fun _ => hO3) ?_
  try simp only [p0, p1, p2, p3]
  refine fl_part 1 #[true, true, false, false, false, false, false, false, false, false, false, false, false, false] (by kernel_rfl) rfl (some 13) (by kernel_rfl) (by kernel_rfl) (by kernel_rfl) (by kernel_rfl) (by kernel_rfl) 0 k (bitsC_k k u l h) (by kernel_rfl) (by kernel_rfl) (by kernel_rfl) 22 (.tmp 12) (by kernel_rfl) (by kernel_rfl) _ (fun _ h => h.get (.head _)) Tryd.underlying22 rfl (inum_len _) hO3 ?_
  try simp only [p0, p1, p2, p3]
  refine fl_pure 2 #[true, true, true, false, false, false, false, false, false, false, false, false, false, false] (by kernel_rfl) rfl (some 14) (by kernel_rfl) (by kernel_rfl) (by kernel_rfl) (by kernel_rfl) (by kernel_rfl) (.pointer (some ⟨w.heap.size, 32, none⟩)) (by kernel_rfl) (fun _ => by kernel_rfl) (fun _ => hO3) ?_
  try simp only [p0, p1, p2, p3]
  refine fl_part 3 #[true, true, true, true, false, false, false, false, false, false, false, false, false, false] (by kernel_rfl) rfl (some 15) (by kernel_rfl) (by kernel_rfl) (by kernel_rfl) (by kernel_rfl) (by kernel_rfl) 32 u (bitsC_u k u l h) (by kernel_rfl) (by kernel_rfl) (by kernel_rfl) 22 (.tmp 14) (by kernel_rfl) (by kernel_rfl) _ (fun _ h => h.get (.head _)) Tryd.underlying22 rfl (inum_len _) hO3 ?_
  try simp only [p0, p1, p2, p3]
  refine fl_pure 4 #[true, true, true, true, true, false, false, false, false, false, false, false, false, false] (by kernel_rfl) rfl (some 16) (by kernel_rfl) (by kernel_rfl) (by kernel_rfl) (by kernel_rfl) (by kernel_rfl) (.pointer (some ⟨w.heap.size, 64, none⟩)) (by kernel_rfl) (fun _ => by kernel_rfl) (fun _ => hO3) ?_
  try simp only [p0, p1, p2, p3]
  refine fl_cell 5 #[true, true, true, true, true, true, false, false, false, false, false, false, false, false] (by kernel_rfl) rfl (some 17) (by kernel_rfl) (by kernel_rfl) (by kernel_rfl) (by kernel_rfl) (by kernel_rfl) 64 (l : Int) (bitsC_l k u l h) (by kernel_rfl) (by kernel_rfl) (by kernel_rfl) 5 (.tmp 16) (by kernel_rfl) (by kernel_rfl) (fun _ h => h.get (.head _)) isAgg_u8 hO3 ?_
  try simp only [p0, p1, p2, p3]
  refine fl_pure 6 #[true, true, true, true, true, true, true, false, false, false, false, false, false, false] (by kernel_rfl) rfl (some 18) (by kernel_rfl) (by kernel_rfl) (by kernel_rfl) (by kernel_rfl) (by kernel_rfl) (.pointer (some ⟨w.heap.size, 65, none⟩)) (by kernel_rfl) (fun _ => by kernel_rfl) (fun _ => hO3) ?_
  try simp only [p0, p1, p2, p3]
  refine fl_cell 7 #[true, true, true, true, true, true, true, true, false, false, false, false, false, false] (by kernel_rfl) rfl (some 19) (by kernel_rfl) (by kernel_rfl) (by kernel_rfl) (by kernel_rfl) (by kernel_rfl) 65 (h : Int) (bitsC_h k u l h) (by kernel_rfl) (by kernel_rfl) (by kernel_rfl) 5 (.tmp 18) (by kernel_rfl) (by kernel_rfl) (fun _ h => h.get (.head _)) isAgg_u8 hO3 ?_
  try simp only [p0, p1, p2, p3]
  refine calls2 (fuel := 4) (AllocAt.mk (i := 8) (t := 22) (cs := (c8 0)) rfl rfl rfl (fun _ _ => by kernel_rfl)) (AllocAt.mk (i := 9) (t := 22) (cs := (c8 0)) rfl rfl rfl (fun _ _ => by kernel_rfl)) (by decide) (by decide) [] _ _ (by kernel_rfl) trivial (by kernel_rfl) (by kernel_rfl) (fun _ h => h) (fun gw4_0 gw4_1 w4 hO4 => ?_) _ hO3
  clear hO3
  simp only [lst, acts]
  try simp only [p0, p1, p2, p3]
  refine fl_set (L1 := []) (L2 := ((gw4_1, 22, (c8 0)) :: (w.heap.size, 41, (bitsC k u l h)) :: [])) (cs := (c8 0)) 10 #[true, true, true, true, true, true, true, true, true, true, true, false, false, false] (by kernel_rfl) rfl none (by kernel_rfl) rfl (by kernel_rfl) (c8 k) 22 (.tmp 3) (.tmp 13) rfl rfl rfl hO4 (by simp only [size_c8]) (inum_c8 _) (one_c8 _) (fun _ h _ => h.tail.tail) fun w5 hO5 => ?_
  try clear hO4
  simp only [List.nil_append, List.cons_append, List.set_cons_zero, List.set_cons_succ] at hO5
  try simp only [p0, p1, p2, p3]
  refine fl_set (L1 := [(gw4_0, 22, (c8 k))]) (L2 := ((w.heap.size, 41, (bitsC k u l h)) :: [])) (cs := (c8 0)) 11 #[true, true, true, true, true, true, true, true, true, true, true, true, false, false] (by kernel_rfl) rfl none (by kernel_rfl) rfl (by kernel_rfl) (c8 u) 22 (.tmp 4) (.tmp 15) rfl rfl rfl hO5 (by simp only [size_c8]) (inum_c8 _) (one_c8 _) (fun _ h _ => h.tail.tail) fun w6 hO6 => ?_
  try clear hO5
  simp only [List.nil_append, List.cons_append, List.set_cons_zero, List.set_cons_succ] at hO6
  try simp only [p0, p1, p2, p3]
  refine fl_pure 12 #[true, true, true, true, true, true, true, true, true, true, true, true, true, false] (by kernel_rfl) rfl (some 5) (by kernel_rfl) (by kernel_rfl) (by kernel_rfl) (by kernel_rfl) (by kernel_rfl) (.int .u8 ((l : Nat) : Int)) (by kernel_rfl) (fun _ => by kernel_rfl) (fun _ => hO6.tail.tail) ?_
  try simp only [p0, p1, p2, p3]
  refine fl_pure 13 #[true, true, true, true, true, true, true, true, true, true, true, true, true, true] (by kernel_rfl) rfl (some 6) (by kernel_rfl) (by kernel_rfl) (by kernel_rfl) (by kernel_rfl) (by kernel_rfl) (.int .u8 ((h : Nat) : Int)) (by kernel_rfl) (fun _ => by kernel_rfl) (fun _ => hO6.tail.tail) ?_
  try simp only [p0, p1, p2, p3]
  refine fl_done (by kernel_rfl) ?_
  show Code.wp _ _ _ _ _
  refine wp_seq ?_
  refine wl_region ?_
  refine wl_load (c8 k) rfl 22 (.tmp 3) rfl gw4_0 rfl 22 _ (hO6.get (.head _)) Tryd.underlying22 rfl (inum_c8 _) ?_
  try simp only [p0, p1, p2, p3]
  refine wl_call (.agg (c8 (Cv.clampN k))) rfl (by kernel_rfl) (clamp_any hk _) hO6 fun w7 hO7 => ?_
  clear hO6
  try simp only [p0, p1, p2, p3]
  refine wl_new 22 (c8 0) rfl (by kernel_rfl) hO7 fun w8 hO8 => ?_
  clear hO7
  try simp only [p0, p1, p2, p3]
  refine wl_store (L1 := []) (L2 := ((gw4_0, 22, (c8 k)) :: (gw4_1, 22, (c8 u)) :: (w.heap.size, 41, (bitsC k u l h)) :: [])) (cs := (c8 0)) (c8 (Cv.clampN k)) rfl 22 (.tmp 7) (.tmp 21) rfl rfl rfl hO8 (by simp only [size_c8]) (inum_c8 _) (one_c8 _) fun w9 hO9 => ?_
  clear hO8
  simp only [List.nil_append, List.cons_append, List.set_cons_zero, List.set_cons_succ] at hO9
  try simp only [p0, p1, p2, p3]
  refine wl_nil ?_
  show Code.wp _ _ _ _ _
  refine wp_seq ?_
  refine fl_start [] #[false, false, false, false, false, false] (by kernel_rfl) (by kernel_rfl) hO9 fun w10 hO10 => ?_
  clear hO9
  refine fl_load 0 #[true, false, false, false, false, false] (by kernel_rfl) rfl (some 22) (by kernel_rfl) (by kernel_rfl) (by kernel_rfl) (by kernel_rfl) (by kernel_rfl) (c8 k) (by kernel_rfl) (by kernel_rfl) (by kernel_rfl) 22 (.tmp 3) (by kernel_rfl) gw4_0 (by kernel_rfl) 22 _ (fun _ h => h.get (.tail _ (.head _))) Tryd.underlying22 rfl (inum_c8 _) hO10 ?_
  try simp only [p0, p1, p2, p3]
  refine fl_load 1 #[true, true, false, false, false, false] (by kernel_rfl) rfl (some 23) (by kernel_rfl) (by kernel_rfl) (by kernel_rfl) (by kernel_rfl) (by kernel_rfl) (c8 u) (by kernel_rfl) (by kernel_rfl) (by kernel_rfl) 22 (.tmp 4) (by kernel_rfl) gw4_1 (by kernel_rfl) 22 _ (fun _ h => h.get (.tail _ (.tail _ (.head _)))) Tryd.underlying22 rfl (inum_c8 _) hO10 ?_
  try simp only [p0, p1, p2, p3]
  refine calls2 (fuel := 2) (AllocAt.mk (i := 2) (t := 22) (cs := (c8 0)) rfl rfl rfl (fun _ _ => by kernel_rfl)) (AllocAt.mk (i := 3) (t := 22) (cs := (c8 0)) rfl rfl rfl (fun _ _ => by kernel_rfl)) (by decide) (by decide) [] _ _ (by kernel_rfl) trivial (by kernel_rfl) (by kernel_rfl) (fun _ h => h) (fun gw11_0 gw11_1 w11 hO11 => ?_) _ hO10
  clear hO10
  simp only [lst, acts]
  try simp only [p0, p1, p2, p3]
  refine fl_set (L1 := []) (L2 := ((gw11_1, 22, (c8 0)) :: (w7.heap.size, 22, (c8 (Cv.clampN k))) :: (gw4_0, 22, (c8 k)) :: (gw4_1, 22, (c8 u)) :: (w.heap.size, 41, (bitsC k u l h)) :: [])) (cs := (c8 0)) 4 #[true, true, true, true, true, false] (by kernel_rfl) rfl none (by kernel_rfl) rfl (by kernel_rfl) (c8 k) 22 (.tmp 8) (.tmp 22) rfl rfl rfl hO11 (by simp only [size_c8]) (inum_c8 _) (one_c8 _) (fun _ h _ => h.tail.tail) fun w12 hO12 => ?_
  try clear hO11
  simp only [List.nil_append, List.cons_append, List.set_cons_zero, List.set_cons_succ] at hO12
  try simp only [p0, p1, p2, p3]
  refine fl_set (L1 := [(gw11_0, 22, (c8 k))]) (L2 := ((w7.heap.size, 22, (c8 (Cv.clampN k))) :: (gw4_0, 22, (c8 k)) :: (gw4_1, 22, (c8 u)) :: (w.heap.size, 41, (bitsC k u l h)) :: [])) (cs := (c8 0)) 5 #[true, true, true, true, true, true] (by kernel_rfl) rfl none (by kernel_rfl) rfl (by kernel_rfl) (c8 u) 22 (.tmp 9) (.tmp 23) rfl rfl rfl hO12 (by simp only [size_c8]) (inum_c8 _) (one_c8 _) (fun _ h _ => h.tail.tail) fun w13 hO13 => ?_
  try clear hO12
  simp only [List.nil_append, List.cons_append, List.set_cons_zero, List.set_cons_succ] at hO13
  try simp only [p0, p1, p2, p3]
  refine fl_done (by kernel_rfl) ?_
  show Code.wp _ _ _ _ _
  refine wp_seq ?_
  refine wl_region ?_
  refine wl_pure (.pointer (some ⟨gw11_0, 0, none⟩)) rfl (by kernel_rfl) ?_
  try simp only [p0, p1, p2, p3]
  refine wl_byte 0 (by decide) rfl 5 (.tmp 24) rfl rfl (.head _) isAgg_u8 hO13 ?_
  try simp only [p0, p1, p2, p3]
  refine wl_pure (.int .u8 ((l : Nat) : Int)) rfl (by kernel_rfl) ?_
  try simp only [p0, p1, p2, p3]
  refine wl_pure (.int .u8 ((l % 8 : Nat) : Int)) rfl (u8run (run_rem l 8 hl (by decide) (by decide) _) (fun _ => rfl) rfl rfl rfl _) ?_
  try simp only [p0, p1, p2, p3]
  refine wl_pure (.int .u8 (((byteN k 0) ^^^ (l % 8) : Nat) : Int)) rfl (u8run (run_xor (byteN k 0) (l % 8) (byteN_lt _ _) (Nat.lt_of_le_of_lt (Nat.mod_le _ _) hl) _) (fun _ => rfl) rfl rfl rfl _) ?_
  try simp only [p0, p1, p2, p3]
  refine wl_pure (.pointer (some ⟨gw11_0, 0, none⟩)) rfl (by kernel_rfl) ?_
  try simp only [p0, p1, p2, p3]
  refine wl_setb (L1 := []) (L2 := ((gw11_1, 22, (c8 u)) :: (w7.heap.size, 22, (c8 (Cv.clampN k))) :: (gw4_0, 22, (c8 k)) :: (gw4_1, 22, (c8 u)) :: (w.heap.size, 41, (bitsC k u l h)) :: [])) (n := k) (m := set0 k ((byteN k 0) ^^^ (l % 8))) (b := (byteN k 0) ^^^ (l % 8)) 0 (by decide) (c8_set0 _ _ (Nat.xor_lt_two_pow (n := 8) (byteN_lt _ _) (Nat.lt_of_le_of_lt (Nat.mod_le _ _) hl))) rfl 5 (.tmp 29) (.tmp 28) rfl rfl rfl hO13 one_u8 fun w14 hO14 => ?_
  clear hO13
  simp only [List.nil_append, List.cons_append, List.set_cons_zero, List.set_cons_succ] at hO14
  try simp only [p0, p1, p2, p3]
  refine wl_nil ?_
  show Code.wp _ _ _ _ _
  refine wp_seq ?_
  refine wl_region ?_
  refine wl_pure (.pointer (some ⟨gw11_0, 31, none⟩)) rfl (by kernel_rfl) ?_
  try simp only [p0, p1, p2, p3]
  refine wl_byte 31 (by decide) rfl 5 (.tmp 30) rfl rfl (.head _) isAgg_u8 hO14 ?_
  try simp only [p0, p1, p2, p3]
  refine wl_pure (.int .u8 ((h : Nat) : Int)) rfl (by kernel_rfl) ?_
  try simp only [p0, p1, p2, p3]
  refine wl_pure (.int .u8 ((h &&& 192 : Nat) : Int)) rfl (u8run (run_and h 192 hh (by decide) _) (fun _ => rfl) rfl rfl rfl _) ?_
  try simp only [p0, p1, p2, p3]
  refine wl_pure (.int .u8 (((byteN (set0 k ((byteN k 0) ^^^ (l % 8))) 31) ^^^ (h &&& 192) : Nat) : Int)) rfl (u8run (run_xor (byteN (set0 k ((byteN k 0) ^^^ (l % 8))) 31) (h &&& 192) (byteN_lt _ _) (Nat.lt_of_le_of_lt Nat.and_le_left hh) _) (fun _ => rfl) rfl rfl rfl _) ?_
  try simp only [p0, p1, p2, p3]
  refine wl_pure (.pointer (some ⟨gw11_0, 31, none⟩)) rfl (by kernel_rfl) ?_
  try simp only [p0, p1, p2, p3]
  refine wl_setb (L1 := []) (L2 := ((gw11_1, 22, (c8 u)) :: (w7.heap.size, 22, (c8 (Cv.clampN k))) :: (gw4_0, 22, (c8 k)) :: (gw4_1, 22, (c8 u)) :: (w.heap.size, 41, (bitsC k u l h)) :: [])) (n := (set0 k ((byteN k 0) ^^^ (l % 8)))) (m := set31 (set0 k ((byteN k 0) ^^^ (l % 8))) ((byteN (set0 k ((byteN k 0) ^^^ (l % 8))) 31) ^^^ (h &&& 192))) (b := (byteN (set0 k ((byteN k 0) ^^^ (l % 8))) 31) ^^^ (h &&& 192)) 31 (by decide) (c8_set31 _ _ (Nat.xor_lt_two_pow (n := 8) (byteN_lt _ _) (Nat.lt_of_le_of_lt Nat.and_le_left hh))) rfl 5 (.tmp 35) (.tmp 34) rfl rfl rfl hO14 one_u8 fun w15 hO15 => ?_
  clear hO14
  simp only [List.nil_append, List.cons_append, List.set_cons_zero, List.set_cons_succ] at hO15
  try simp only [p0, p1, p2, p3]
  refine wl_nil ?_
  show Code.wp _ _ _ _ _
  refine wp_seq ?_
  refine wl_region ?_
  refine wl_pure (.pointer (some ⟨gw11_1, 31, none⟩)) rfl (by kernel_rfl) ?_
  try simp only [p0, p1, p2, p3]
  refine wl_byte 31 (by decide) rfl 5 (.tmp 36) rfl rfl (.tail _ (.head _)) isAgg_u8 hO15 ?_
  try simp only [p0, p1, p2, p3]
  refine wl_pure (.int .u8 (((byteN u 31) ^^^ 128 : Nat) : Int)) rfl (u8run (run_xor (byteN u 31) 128 (byteN_lt _ _) (by decide) _) (fun _ => rfl) rfl rfl rfl _) ?_
  try simp only [p0, p1, p2, p3]
  refine wl_pure (.pointer (some ⟨gw11_1, 31, none⟩)) rfl (by kernel_rfl) ?_
  try simp only [p0, p1, p2, p3]
  refine wl_setb (L1 := [(gw11_0, 22, (c8 (set31 (set0 k ((byteN k 0) ^^^ (l % 8))) ((byteN (set0 k ((byteN k 0) ^^^ (l % 8))) 31) ^^^ (h &&& 192)))))]) (L2 := ((w7.heap.size, 22, (c8 (Cv.clampN k))) :: (gw4_0, 22, (c8 k)) :: (gw4_1, 22, (c8 u)) :: (w.heap.size, 41, (bitsC k u l h)) :: [])) (n := u) (m := set31 u ((byteN u 31) ^^^ 128)) (b := (byteN u 31) ^^^ 128) 31 (by decide) (c8_set31 _ _ (Nat.xor_lt_two_pow (n := 8) (byteN_lt _ _) (by decide))) rfl 5 (.tmp 39) (.tmp 38) rfl rfl rfl hO15 one_u8 fun w16 hO16 => ?_
  clear hO15
  simp only [List.nil_append, List.cons_append, List.set_cons_zero, List.set_cons_succ] at hO16
  try simp only [p0, p1, p2, p3]
  refine wl_nil ?_
  show Code.wp _ _ _ _ _
  refine wp_seq ?_
  refine fl_start [] #[false, false, false, false, false, false, false, false, false, false, false, false, false, false, false, false, false, false, false, false, false, false, false, false, false, false, false, false, false, false, false, false, false, false, false, false, false, false, false, false, false, false, false, false, false] (by kernel_rfl) (by kernel_rfl) hO16 fun w17 hO17 => ?_
  clear hO16
  refine fl_load 0 #[true, false, false, false, false, false, false, false, false, false, false, false, false, false, false, false, false, false, false, false, false, false, false, false, false, false, false, false, false, false, false, false, false, false, false, false, false, false, false, false, false, false, false, false, false] (by kernel_rfl) rfl (some 40) (by kernel_rfl) (by kernel_rfl) (by kernel_rfl) (by kernel_rfl) (by kernel_rfl) (c8 (Cv.clampN k)) (by kernel_rfl) (by kernel_rfl) (by kernel_rfl) 22 (.tmp 7) (by kernel_rfl) w7.heap.size (by kernel_rfl) 22 _ (fun _ h => h.get (.tail _ (.tail _ (.head _)))) Tryd.underlying22 rfl (inum_c8 _) hO17 ?_
  try simp only [p0, p1, p2, p3]
  refine fl_load 2 #[true, false, true, false, false, false, false, false, false, false, false, false, false, false, false, false, false, false, false, false, false, false, false, false, false, false, false, false, false, false, false, false, false, false, false, false, false, false, false, false, false, false, false, false, false] (by kernel_rfl) rfl (some 42) (by kernel_rfl) (by kernel_rfl) (by kernel_rfl) (by kernel_rfl) (by kernel_rfl) (c8 (Cv.clampN k)) (by kernel_rfl) (by kernel_rfl) (by kernel_rfl) 22 (.tmp 7) (by kernel_rfl) w7.heap.size (by kernel_rfl) 22 _ (fun _ h => h.get (.tail _ (.tail _ (.head _)))) Tryd.underlying22 rfl (inum_c8 _) hO17 ?_
  try simp only [p0, p1, p2, p3]
  refine fl_call 1 #[true, true, true, false, false, false, false, false, false, false, false, false, false, false, false, false, false, false, false, false, false, false, false, false, false, false, false, false, false, false, false, false, false, false, false, false, false, false, false, false, false, false, false, false, false] (by kernel_rfl) rfl (some 41) (by kernel_rfl) rfl (by kernel_rfl) (.agg (c8 (Cv.clampN (Cv.clampN k)))) (by kernel_rfl) (clamp_any (clamp_256 _) _) hO17 (fun _ h => h) fun w18 hO18 => ?_
  try clear hO17
  try simp only [p0, p1, p2, p3]
  refine fl_eql 3 #[true, true, true, true, false, false, false, false, false, false, false, false, false, false, false, false, false, false, false, false, false, false, false, false, false, false, false, false, false, false, false, false, false, false, false, false, false, false, false, false, false, false, false, false, false] (by kernel_rfl) rfl (some 43) (by kernel_rfl) (by kernel_rfl) (by kernel_rfl) (by kernel_rfl) (by kernel_rfl) (x := (Cv.clampN (Cv.clampN k))) (y := (Cv.clampN k)) true (clamp_256 _) (clamp_256 _) (decide_eq_true (clamp_twice k)) (by kernel_rfl) (.tmp 41) (.tmp 42) 22 (by kernel_rfl) (by kernel_rfl) (by kernel_rfl) (fun _ => hO18) ?_
  try simp only [p0, p1, p2, p3]
  refine fl_pure 4 #[true, true, true, true, true, false, false, false, false, false, false, false, false, false, false, false, false, false, false, false, false, false, false, false, false, false, false, false, false, false, false, false, false, false, false, false, false, false, false, false, false, false, false, false, false] (by kernel_rfl) rfl (some 44) (by kernel_rfl) (by kernel_rfl) (by kernel_rfl) (by kernel_rfl) (by kernel_rfl) (.bool true) (by kernel_rfl) (fun _ => by kernel_rfl) (fun _ => hO18) ?_
  try simp only [p0, p1, p2, p3]
  refine fl_pure 5 #[true, true, true, true, true, true, false, false, false, false, false, false, false, false, false, false, false, false, false, false, false, false, false, false, false, false, false, false, false, false, false, false, false, false, false, false, false, false, false, false, false, false, false, false, false] (by kernel_rfl) rfl (some 45) (by kernel_rfl) (by kernel_rfl) (by kernel_rfl) (by kernel_rfl) (by kernel_rfl) (.pointer (some ⟨w7.heap.size, 0, none⟩)) (by kernel_rfl) (fun _ => by kernel_rfl) (fun _ => hO18) ?_
  try simp only [p0, p1, p2, p3]
  refine fl_byte 6 #[true, true, true, true, true, true, true, false, false, false, false, false, false, false, false, false, false, false, false, false, false, false, false, false, false, false, false, false, false, false, false, false, false, false, false, false, false, false, false, false, false, false, false, false, false] (by kernel_rfl) rfl (some 46) (by kernel_rfl) (by kernel_rfl) (by kernel_rfl) (by kernel_rfl) (by kernel_rfl) 0 (by decide) (by kernel_rfl) (by kernel_rfl) (by kernel_rfl) 5 (.tmp 45) (by kernel_rfl) (by kernel_rfl) (fun _ h => h.get (.tail _ (.tail _ (.head _)))) isAgg_u8 hO18 ?_
  try simp only [p0, p1, p2, p3]
  refine fl_pure 7 #[true, true, true, true, true, true, true, true, false, false, false, false, false, false, false, false, false, false, false, false, false, false, false, false, false, false, false, false, false, false, false, false, false, false, false, false, false, false, false, false, false, false, false, false, false] (by kernel_rfl) rfl (some 47) (by kernel_rfl) (by kernel_rfl) (by kernel_rfl) (by kernel_rfl) (by kernel_rfl) (.int .u8 (((byteN (Cv.clampN k) 0) % 8 : Nat) : Int)) (by kernel_rfl) (u8run (run_rem (byteN (Cv.clampN k) 0) 8 (byteN_lt _ _) (by decide) (by decide) _) (fun _ => rfl) rfl rfl rfl) (fun _ => hO18) ?_
  try simp only [p0, p1, p2, p3]
  refine fl_pure 8 #[true, true, true, true, true, true, true, true, true, false, false, false, false, false, false, false, false, false, false, false, false, false, false, false, false, false, false, false, false, false, false, false, false, false, false, false, false, false, false, false, false, false, false, false, false] (by kernel_rfl) rfl (some 48) (by kernel_rfl) (by kernel_rfl) (by kernel_rfl) (by kernel_rfl) (by kernel_rfl) (.bool true) (by kernel_rfl) (u8cmp (run_eql8 ((byteN (Cv.clampN k) 0) % 8) 0 true (decide_eq_true (clamp_low k)) _) (fun _ => rfl) rfl rfl rfl) (fun _ => hO18) ?_
  try simp only [p0, p1, p2, p3]
  refine fl_pure 9 #[true, true, true, true, true, true, true, true, true, true, false, false, false, false, false, false, false, false, false, false, false, false, false, false, false, false, false, false, false, false, false, false, false, false, false, false, false, false, false, false, false, false, false, false, false] (by kernel_rfl) rfl (some 49) (by kernel_rfl) (by kernel_rfl) (by kernel_rfl) (by kernel_rfl) (by kernel_rfl) (.bool true) (by kernel_rfl) (fun _ => by kernel_rfl) (fun _ => hO18) ?_
  try simp only [p0, p1, p2, p3]
  refine fl_pure 10 #[true, true, true, true, true, true, true, true, true, true, true, false, false, false, false, false, false, false, false, false, false, false, false, false, false, false, false, false, false, false, false, false, false, false, false, false, false, false, false, false, false, false, false, false, false] (by kernel_rfl) rfl (some 50) (by kernel_rfl) (by kernel_rfl) (by kernel_rfl) (by kernel_rfl) (by kernel_rfl) (.bool true) (by kernel_rfl) (fun _ => by kernel_rfl) (fun _ => hO18) ?_
  try simp only [p0, p1, p2, p3]
  refine fl_pure 11 #[true, true, true, true, true, true, true, true, true, true, true, true, false, false, false, false, false, false, false, false, false, false, false, false, false, false, false, false, false, false, false, false, false, false, false, false, false, false, false, false, false, false, false, false, false] (by kernel_rfl) rfl (some 51) (by kernel_rfl) (by kernel_rfl) (by kernel_rfl) (by kernel_rfl) (by kernel_rfl) (.pointer (some ⟨w7.heap.size, 31, none⟩)) (by kernel_rfl) (fun _ => by kernel_rfl) (fun _ => hO18) ?_
  try simp only [p0, p1, p2, p3]
  refine fl_byte 12 #[true, true, true, true, true, true, true, true, true, true, true, true, true, false, false, false, false, false, false, false, false, false, false, false, false, false, false, false, false, false, false, false, false, false, false, false, false, false, false, false, false, false, false, false, false] (by kernel_rfl) rfl (some 52) (by kernel_rfl) (by kernel_rfl) (by kernel_rfl) (by kernel_rfl) (by kernel_rfl) 31 (by decide) (by kernel_rfl) (by kernel_rfl) (by kernel_rfl) 5 (.tmp 51) (by kernel_rfl) (by kernel_rfl) (fun _ h => h.get (.tail _ (.tail _ (.head _)))) isAgg_u8 hO18 ?_
  try simp only [p0, p1, p2, p3]
  refine fl_pure 13 #[true, true, true, true, true, true, true, true, true, true, true, true, true, true, false, false, false, false, false, false, false, false, false, false, false, false, false, false, false, false, false, false, false, false, false, false, false, false, false, false, false, false, false, false, false] (by kernel_rfl) rfl (some 53) (by kernel_rfl) (by kernel_rfl) (by kernel_rfl) (by kernel_rfl) (by kernel_rfl) (.bool true) (by kernel_rfl) (u8cmp (run_geq8 (byteN (Cv.clampN k) 31) 64 true (decide_eq_true (clamp_top k).1) _) (fun _ => rfl) rfl rfl rfl) (fun _ => hO18) ?_
  try simp only [p0, p1, p2, p3]
  refine fl_pure 14 #[true, true, true, true, true, true, true, true, true, true, true, true, true, true, true, false, false, false, false, false, false, false, false, false, false, false, false, false, false, false, false, false, false, false, false, false, false, false, false, false, false, false, false, false, false] (by kernel_rfl) rfl (some 54) (by kernel_rfl) (by kernel_rfl) (by kernel_rfl) (by kernel_rfl) (by kernel_rfl) (.bool true) (by kernel_rfl) (fun _ => by kernel_rfl) (fun _ => hO18) ?_
  try simp only [p0, p1, p2, p3]
  refine fl_pure 15 #[true, true, true, true, true, true, true, true, true, true, true, true, true, true, true, true, false, false, false, false, false, false, false, false, false, false, false, false, false, false, false, false, false, false, false, false, false, false, false, false, false, false, false, false, false] (by kernel_rfl) rfl (some 55) (by kernel_rfl) (by kernel_rfl) (by kernel_rfl) (by kernel_rfl) (by kernel_rfl) (.bool true) (by kernel_rfl) (fun _ => by kernel_rfl) (fun _ => hO18) ?_
  try simp only [p0, p1, p2, p3]
  refine fl_pure 16 #[true, true, true, true, true, true, true, true, true, true, true, true, true, true, true, true, true, false, false, false, false, false, false, false, false, false, false, false, false, false, false, false, false, false, false, false, false, false, false, false, false, false, false, false, false] (by kernel_rfl) rfl (some 56) (by kernel_rfl) (by kernel_rfl) (by kernel_rfl) (by kernel_rfl) (by kernel_rfl) (.pointer (some ⟨w7.heap.size, 31, none⟩)) (by kernel_rfl) (fun _ => by kernel_rfl) (fun _ => hO18) ?_
  try simp only [p0, p1, p2, p3]
  refine fl_byte 17 #[true, true, true, true, true, true, true, true, true, true, true, true, true, true, true, true, true, true, false, false, false, false, false, false, false, false, false, false, false, false, false, false, false, false, false, false, false, false, false, false, false, false, false, false, false] (by kernel_rfl) rfl (some 57) (by kernel_rfl) (by kernel_rfl) (by kernel_rfl) (by kernel_rfl) (by kernel_rfl) 31 (by decide) (by kernel_rfl) (by kernel_rfl) (by kernel_rfl) 5 (.tmp 56) (by kernel_rfl) (by kernel_rfl) (fun _ h => h.get (.tail _ (.tail _ (.head _)))) isAgg_u8 hO18 ?_
  try simp only [p0, p1, p2, p3]
  refine fl_pure 18 #[true, true, true, true, true, true, true, true, true, true, true, true, true, true, true, true, true, true, true, false, false, false, false, false, false, false, false, false, false, false, false, false, false, false, false, false, false, false, false, false, false, false, false, false, false] (by kernel_rfl) rfl (some 58) (by kernel_rfl) (by kernel_rfl) (by kernel_rfl) (by kernel_rfl) (by kernel_rfl) (.bool true) (by kernel_rfl) (u8cmp (run_lss8 (byteN (Cv.clampN k) 31) 128 true (decide_eq_true (clamp_top k).2) _) (fun _ => rfl) rfl rfl rfl) (fun _ => hO18) ?_
  try simp only [p0, p1, p2, p3]
  refine fl_pure 19 #[true, true, true, true, true, true, true, true, true, true, true, true, true, true, true, true, true, true, true, true, false, false, false, false, false, false, false, false, false, false, false, false, false, false, false, false, false, false, false, false, false, false, false, false, false] (by kernel_rfl) rfl (some 59) (by kernel_rfl) (by kernel_rfl) (by kernel_rfl) (by kernel_rfl) (by kernel_rfl) (.bool true) (by kernel_rfl) (fun _ => by kernel_rfl) (fun _ => hO18) ?_
  try simp only [p0, p1, p2, p3]
  refine fl_pure 20 #[true, true, true, true, true, true, true, true, true, true, true, true, true, true, true, true, true, true, true, true, true, false, false, false, false, false, false, false, false, false, false, false, false, false, false, false, false, false, false, false, false, false, false, false, false] (by kernel_rfl) rfl (some 60) (by kernel_rfl) (by kernel_rfl) (by kernel_rfl) (by kernel_rfl) (by kernel_rfl) (.bool true) (by kernel_rfl) (fun _ => by kernel_rfl) (fun _ => hO18) ?_
  try simp only [p0, p1, p2, p3]
  refine fl_load 21 #[true, true, true, true, true, true, true, true, true, true, true, true, true, true, true, true, true, true, true, true, true, true, false, false, false, false, false, false, false, false, false, false, false, false, false, false, false, false, false, false, false, false, false, false, false] (by kernel_rfl) rfl (some 61) (by kernel_rfl) (by kernel_rfl) (by kernel_rfl) (by kernel_rfl) (by kernel_rfl) (c8 (set31 (set0 k ((byteN k 0) ^^^ (l % 8))) ((byteN (set0 k ((byteN k 0) ^^^ (l % 8))) 31) ^^^ (h &&& 192)))) (by kernel_rfl) (by kernel_rfl) (by kernel_rfl) 22 (.tmp 8) (by kernel_rfl) gw11_0 (by kernel_rfl) 22 _ (fun _ h => h.get (.head _)) Tryd.underlying22 rfl (inum_c8 _) hO18 ?_
  try simp only [p0, p1, p2, p3]
  refine fl_load 23 #[true, true, true, true, true, true, true, true, true, true, true, true, true, true, true, true, true, true, true, true, true, true, false, true, false, false, false, false, false, false, false, false, false, false, false, false, false, false, false, false, false, false, false, false, false] (by kernel_rfl) rfl (some 63) (by kernel_rfl) (by kernel_rfl) (by kernel_rfl) (by kernel_rfl) (by kernel_rfl) (c8 (Cv.clampN k)) (by kernel_rfl) (by kernel_rfl) (by kernel_rfl) 22 (.tmp 7) (by kernel_rfl) w7.heap.size (by kernel_rfl) 22 _ (fun _ h => h.get (.tail _ (.tail _ (.head _)))) Tryd.underlying22 rfl (inum_c8 _) hO18 ?_
  try simp only [p0, p1, p2, p3]
  refine fl_callg 22 #[true, true, true, true, true, true, true, true, true, true, true, true, true, true, true, true, true, true, true, true, true, true, true, true, false, false, false, false, false, false, false, false, false, false, false, false, false, false, false, false, false, false, false, false, false] (by kernel_rfl) rfl (some 62) (by kernel_rfl) (by kernel_rfl) (by kernel_rfl) (.agg (c8 (Cv.clampN (set31 (set0 k ((byteN k 0) ^^^ (l % 8))) ((byteN (set0 k ((byteN k 0) ^^^ (l % 8))) 31) ^^^ (h &&& 192)))))) (by kernel_rfl) (clamp_any hL2 _) hO18 (fun _ h => h) fun w19 hO19 => ?_
  try clear hO18
  try simp only [p0, p1, p2, p3]
  refine fl_eql 24 #[true, true, true, true, true, true, true, true, true, true, true, true, true, true, true, true, true, true, true, true, true, true, true, true, true, false, false, false, false, false, false, false, false, false, false, false, false, false, false, false, false, false, false, false, false] (by kernel_rfl) rfl (some 64) (by kernel_rfl) (by kernel_rfl) (by kernel_rfl) (by kernel_rfl) (by kernel_rfl) (x := (Cv.clampN (set31 (set0 k ((byteN k 0) ^^^ (l % 8))) ((byteN (set0 k ((byteN k 0) ^^^ (l % 8))) 31) ^^^ (h &&& 192))))) (y := (Cv.clampN k)) true (clamp_256 _) (clamp_256 _) (decide_eq_true (clamp_turned hk hl hh)) (by kernel_rfl) (.tmp 62) (.tmp 63) 22 (by kernel_rfl) (by kernel_rfl) (by kernel_rfl) (fun _ => hO19) ?_
  try simp only [p0, p1, p2, p3]
  refine fl_pure 25 #[true, true, true, true, true, true, true, true, true, true, true, true, true, true, true, true, true, true, true, true, true, true, true, true, true, true, false, false, false, false, false, false, false, false, false, false, false, false, false, false, false, false, false, false, false] (by kernel_rfl) rfl (some 65) (by kernel_rfl) (by kernel_rfl) (by kernel_rfl) (by kernel_rfl) (by kernel_rfl) (.bool true) (by kernel_rfl) (fun _ => by kernel_rfl) (fun _ => hO19) ?_
  try simp only [p0, p1, p2, p3]
  refine fl_pure 26 #[true, true, true, true, true, true, true, true, true, true, true, true, true, true, true, true, true, true, true, true, true, true, true, true, true, true, true, false, false, false, false, false, false, false, false, false, false, false, false, false, false, false, false, false, false] (by kernel_rfl) rfl (some 66) (by kernel_rfl) (by kernel_rfl) (by kernel_rfl) (by kernel_rfl) (by kernel_rfl) (.bool true) (by kernel_rfl) (fun _ => by kernel_rfl) (fun _ => hO19) ?_
  try simp only [p0, p1, p2, p3]
  refine fl_load 27 #[true, true, true, true, true, true, true, true, true, true, true, true, true, true, true, true, true, true, true, true, true, true, true, true, true, true, true, true, false, false, false, false, false, false, false, false, false, false, false, false, false, false, false, false, false] (by kernel_rfl) rfl (some 67) (by kernel_rfl) (by kernel_rfl) (by kernel_rfl) (by kernel_rfl) (by kernel_rfl) (c8 k) (by kernel_rfl) (by kernel_rfl) (by kernel_rfl) 22 (.tmp 3) (by kernel_rfl) gw4_0 (by kernel_rfl) 22 _ (fun _ h => h.get (.tail _ (.tail _ (.tail _ (.head _))))) Tryd.underlying22 rfl (inum_c8 _) hO19 ?_
  try simp only [p0, p1, p2, p3]
  refine fl_load 28 #[true, true, true, true, true, true, true, true, true, true, true, true, true, true, true, true, true, true, true, true, true, true, true, true, true, true, true, true, true, false, false, false, false, false, false, false, false, false, false, false, false, false, false, false, false] (by kernel_rfl) rfl (some 68) (by kernel_rfl) (by kernel_rfl) (by kernel_rfl) (by kernel_rfl) (by kernel_rfl) (c8 u) (by kernel_rfl) (by kernel_rfl) (by kernel_rfl) 22 (.tmp 4) (by kernel_rfl) gw4_1 (by kernel_rfl) 22 _ (fun _ h => h.get (.tail _ (.tail _ (.tail _ (.tail _ (.head _)))))) Tryd.underlying22 rfl (inum_c8 _) hO19 ?_
  try simp only [p0, p1, p2, p3]
  refine fl_load 30 #[true, true, true, true, true, true, true, true, true, true, true, true, true, true, true, true, true, true, true, true, true, true, true, true, true, true, true, true, true, false, true, false, false, false, false, false, false, false, false, false, false, false, false, false, false] (by kernel_rfl) rfl (some 70) (by kernel_rfl) (by kernel_rfl) (by kernel_rfl) (by kernel_rfl) (by kernel_rfl) (c8 (set31 (set0 k ((byteN k 0) ^^^ (l % 8))) ((byteN (set0 k ((byteN k 0) ^^^ (l % 8))) 31) ^^^ (h &&& 192)))) (by kernel_rfl) (by kernel_rfl) (by kernel_rfl) 22 (.tmp 8) (by kernel_rfl) gw11_0 (by kernel_rfl) 22 _ (fun _ h => h.get (.head _)) Tryd.underlying22 rfl (inum_c8 _) hO19 ?_
  try simp only [p0, p1, p2, p3]
  refine fl_load 31 #[true, true, true, true, true, true, true, true, true, true, true, true, true, true, true, true, true, true, true, true, true, true, true, true, true, true, true, true, true, false, true, true, false, false, false, false, false, false, false, false, false, false, false, false, false] (by kernel_rfl) rfl (some 71) (by kernel_rfl) (by kernel_rfl) (by kernel_rfl) (by kernel_rfl) (by kernel_rfl) (c8 (set31 u ((byteN u 31) ^^^ 128))) (by kernel_rfl) (by kernel_rfl) (by kernel_rfl) 22 (.tmp 9) (by kernel_rfl) gw11_1 (by kernel_rfl) 22 _ (fun _ h => h.get (.tail _ (.head _))) Tryd.underlying22 rfl (inum_c8 _) hO19 ?_
  try simp only [p0, p1, p2, p3]
  refine fl_callg 29 #[true, true, true, true, true, true, true, true, true, true, true, true, true, true, true, true, true, true, true, true, true, true, true, true, true, true, true, true, true, true, true, true, false, false, false, false, false, false, false, false, false, false, false, false, false] (by kernel_rfl) rfl (some 69) (by kernel_rfl) (by kernel_rfl) (by kernel_rfl) (.agg (c8 (Cv.XN k u))) (by kernel_rfl) (X_any hk hu _ (hG.below hO19.bl hG.lt)) hO19 (fun _ h => h) fun w20 hO20 => ?_
  try clear hO19
  try simp only [p0, p1, p2, p3]
  refine fl_callg 32 #[true, true, true, true, true, true, true, true, true, true, true, true, true, true, true, true, true, true, true, true, true, true, true, true, true, true, true, true, true, true, true, true, true, false, false, false, false, false, false, false, false, false, false, false, false] (by kernel_rfl) rfl (some 72) (by kernel_rfl) (by kernel_rfl) (by kernel_rfl) (.agg (c8 (Cv.XN (set31 (set0 k ((byteN k 0) ^^^ (l % 8))) ((byteN (set0 k ((byteN k 0) ^^^ (l % 8))) 31) ^^^ (h &&& 192))) (set31 u ((byteN u 31) ^^^ 128))))) (by kernel_rfl) (X_any hL2 hV _ (hG.below hO20.bl hG.lt)) hO20 (fun _ h => h) fun w21 hO21 => ?_
  try clear hO20
  try simp only [p0, p1, p2, p3]
  refine fl_eql 33 #[true, true, true, true, true, true, true, true, true, true, true, true, true, true, true, true, true, true, true, true, true, true, true, true, true, true, true, true, true, true, true, true, true, true, false, false, false, false, false, false, false, false, false, false, false] (by kernel_rfl) rfl (some 73) (by kernel_rfl) (by kernel_rfl) (by kernel_rfl) (by kernel_rfl) (by kernel_rfl) (x := (Cv.XN k u)) (y := (Cv.XN (set31 (set0 k ((byteN k 0) ^^^ (l % 8))) ((byteN (set0 k ((byteN k 0) ^^^ (l % 8))) 31) ^^^ (h &&& 192))) (set31 u ((byteN u 31) ^^^ 128)))) true (XN_256 _ _) (XN_256 _ _) (decide_eq_true ((XN_secret (clamp_turned hk hl hh)).trans (XN_base (base_turned hu))).symm) (by kernel_rfl) (.tmp 69) (.tmp 72) 22 (by kernel_rfl) (by kernel_rfl) (by kernel_rfl) (fun _ => hO21) ?_
  try simp only [p0, p1, p2, p3]
  refine fl_pure 34 #[true, true, true, true, true, true, true, true, true, true, true, true, true, true, true, true, true, true, true, true, true, true, true, true, true, true, true, true, true, true, true, true, true, true, true, false, false, false, false, false, false, false, false, false, false] (by kernel_rfl) rfl (some 74) (by kernel_rfl) (by kernel_rfl) (by kernel_rfl) (by kernel_rfl) (by kernel_rfl) (.bool true) (by kernel_rfl) (fun _ => by kernel_rfl) (fun _ => hO21) ?_
  try simp only [p0, p1, p2, p3]
  refine fl_pure 35 #[true, true, true, true, true, true, true, true, true, true, true, true, true, true, true, true, true, true, true, true, true, true, true, true, true, true, true, true, true, true, true, true, true, true, true, true, false, false, false, false, false, false, false, false, false] (by kernel_rfl) rfl (some 75) (by kernel_rfl) (by kernel_rfl) (by kernel_rfl) (by kernel_rfl) (by kernel_rfl) (.bool true) (by kernel_rfl) (fun _ => by kernel_rfl) (fun _ => hO21) ?_
  try simp only [p0, p1, p2, p3]
  refine fl_load 36 #[true, true, true, true, true, true, true, true, true, true, true, true, true, true, true, true, true, true, true, true, true, true, true, true, true, true, true, true, true, true, true, true, true, true, true, true, true, false, false, false, false, false, false, false, false] (by kernel_rfl) rfl (some 76) (by kernel_rfl) (by kernel_rfl) (by kernel_rfl) (by kernel_rfl) (by kernel_rfl) (c8 (Cv.clampN k)) (by kernel_rfl) (by kernel_rfl) (by kernel_rfl) 22 (.tmp 7) (by kernel_rfl) w7.heap.size (by kernel_rfl) 22 _ (fun _ h => h.get (.tail _ (.tail _ (.head _)))) Tryd.underlying22 rfl (inum_c8 _) hO21 ?_
  try simp only [p0, p1, p2, p3]
  refine fl_load 37 #[true, true, true, true, true, true, true, true, true, true, true, true, true, true, true, true, true, true, true, true, true, true, true, true, true, true, true, true, true, true, true, true, true, true, true, true, true, true, false, false, false, false, false, false, false] (by kernel_rfl) rfl (some 77) (by kernel_rfl) (by kernel_rfl) (by kernel_rfl) (by kernel_rfl) (by kernel_rfl) (c8 u) (by kernel_rfl) (by kernel_rfl) (by kernel_rfl) 22 (.tmp 4) (by kernel_rfl) gw4_1 (by kernel_rfl) 22 _ (fun _ h => h.get (.tail _ (.tail _ (.tail _ (.tail _ (.head _)))))) Tryd.underlying22 rfl (inum_c8 _) hO21 ?_
  try simp only [p0, p1, p2, p3]
  refine fl_load 39 #[true, true, true, true, true, true, true, true, true, true, true, true, true, true, true, true, true, true, true, true, true, true, true, true, true, true, true, true, true, true, true, true, true, true, true, true, true, true, false, true, false, false, false, false, false] (by kernel_rfl) rfl (some 79) (by kernel_rfl) (by kernel_rfl) (by kernel_rfl) (by kernel_rfl) (by kernel_rfl) (c8 k) (by kernel_rfl) (by kernel_rfl) (by kernel_rfl) 22 (.tmp 3) (by kernel_rfl) gw4_0 (by kernel_rfl) 22 _ (fun _ h => h.get (.tail _ (.tail _ (.tail _ (.head _))))) Tryd.underlying22 rfl (inum_c8 _) hO21 ?_
  try simp only [p0, p1, p2, p3]
  refine fl_load 40 #[true, true, true, true, true, true, true, true, true, true, true, true, true, true, true, true, true, true, true, true, true, true, true, true, true, true, true, true, true, true, true, true, true, true, true, true, true, true, false, true, true, false, false, false, false] (by kernel_rfl) rfl (some 80) (by kernel_rfl) (by kernel_rfl) (by kernel_rfl) (by kernel_rfl) (by kernel_rfl) (c8 u) (by kernel_rfl) (by kernel_rfl) (by kernel_rfl) 22 (.tmp 4) (by kernel_rfl) gw4_1 (by kernel_rfl) 22 _ (fun _ h => h.get (.tail _ (.tail _ (.tail _ (.tail _ (.head _)))))) Tryd.underlying22 rfl (inum_c8 _) hO21 ?_
  try simp only [p0, p1, p2, p3]
  refine fl_callg 38 #[true, true, true, true, true, true, true, true, true, true, true, true, true, true, true, true, true, true, true, true, true, true, true, true, true, true, true, true, true, true, true, true, true, true, true, true, true, true, true, true, true, false, false, false, false] (by kernel_rfl) rfl (some 78) (by kernel_rfl) (by kernel_rfl) (by kernel_rfl) (.agg (c8 (Cv.XN (Cv.clampN k) u))) (by kernel_rfl) (X_any (clamp_256 _) hu _ (hG.below hO21.bl hG.lt)) hO21 (fun _ h => h) fun w22 hO22 => ?_
  try clear hO21
  try simp only [p0, p1, p2, p3]
  refine fl_callg 41 #[true, true, true, true, true, true, true, true, true, true, true, true, true, true, true, true, true, true, true, true, true, true, true, true, true, true, true, true, true, true, true, true, true, true, true, true, true, true, true, true, true, true, false, false, false] (by kernel_rfl) rfl (some 81) (by kernel_rfl) (by kernel_rfl) (by kernel_rfl) (.agg (c8 (Cv.XN k u))) (by kernel_rfl) (X_any hk hu _ (hG.below hO22.bl hG.lt)) hO22 (fun _ h => h) fun w23 hO23 => ?_
  try clear hO22
  try simp only [p0, p1, p2, p3]
  refine fl_eql 42 #[true, true, true, true, true, true, true, true, true, true, true, true, true, true, true, true, true, true, true, true, true, true, true, true, true, true, true, true, true, true, true, true, true, true, true, true, true, true, true, true, true, true, true, false, false] (by kernel_rfl) rfl (some 82) (by kernel_rfl) (by kernel_rfl) (by kernel_rfl) (by kernel_rfl) (by kernel_rfl) (x := (Cv.XN (Cv.clampN k) u)) (y := (Cv.XN k u)) true (XN_256 _ _) (XN_256 _ _) (decide_eq_true (XN_secret (clamp_twice k))) (by kernel_rfl) (.tmp 78) (.tmp 81) 22 (by kernel_rfl) (by kernel_rfl) (by kernel_rfl) (fun _ => hO23) ?_
  try simp only [p0, p1, p2, p3]
  refine fl_pure 43 #[true, true, true, true, true, true, true, true, true, true, true, true, true, true, true, true, true, true, true, true, true, true, true, true, true, true, true, true, true, true, true, true, true, true, true, true, true, true, true, true, true, true, true, true, false] (by kernel_rfl) rfl (some 83) (by kernel_rfl) (by kernel_rfl) (by kernel_rfl) (by kernel_rfl) (by kernel_rfl) (.bool true) (by kernel_rfl) (fun _ => by kernel_rfl) (fun _ => hO23) ?_
  try simp only [p0, p1, p2, p3]
  refine fl_pure 44 #[true, true, true, true, true, true, true, true, true, true, true, true, true, true, true, true, true, true, true, true, true, true, true, true, true, true, true, true, true, true, true, true, true, true, true, true, true, true, true, true, true, true, true, true, true] (by kernel_rfl) rfl (some 2) (by kernel_rfl) (by kernel_rfl) (by kernel_rfl) (by kernel_rfl) (by kernel_rfl) (.bool true) (by kernel_rfl) (fun _ => by kernel_rfl) (fun _ => hO23) ?_
  try simp only [p0, p1, p2, p3]
  refine fl_done (by kernel_rfl) ?_
  show Code.wp _ _ _ _ _
  refine wp_ret ?_
  (try simp only [Exit.then, Exit.inBlock])
  refine bodyPost_ret (results_tmp rfl _ _ _) rfl ?_
  exact ⟨rfl, hO23.bl⟩
end Go.Proofs.YtkmgdpbmkbpkjaaDoor
