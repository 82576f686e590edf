/-
  ladder's swap and step, walked: what becomes of the point's four numbers.
-/
import Derived.Test.YtkmgdpbmkbpkjaaDoorEngD
import Derived.Test.YtkmgdpbmkbpkjaaDoorAdd
import Derived.Test.YtkmgdpbmkbpkjaaDoorSub
import Derived.Test.YtkmgdpbmkbpkjaaDoorSwap
import Derived.Test.YtkmgdpbmkbpkjaaDoorCvN
set_option linter.unusedVariables false
set_option linter.unusedSimpArgs false
namespace Go.Proofs.YtkmgdpbmkbpkjaaDoor
open Go.RowKit

theorem inum_len (n : Nat) : (Tryd.prog.info? 22).map (·.size) = some (c8 n).toList.length := by rw [len_c8]; exact inum
theorem swap_t (a b : Nat) (w : World) : Ret Tryd.prog 52 #[.bool true, .agg (c8 a), .agg (c8 b)] w (.tuple #[.agg (c8 b), .agg (c8 a)]) := swap_any true a b w
theorem swap_f (a b : Nat) (w : World) : Ret Tryd.prog 52 #[.bool false, .agg (c8 a), .agg (c8 b)] w (.tuple #[.agg (c8 a), .agg (c8 b)]) := swap_any false a b w

set_option maxRecDepth 100000 in
set_option maxHeartbeats 1000000 in
theorem sq_any {n : Nat} (hn : N256 n) (w : World) : Ret Tryd.prog 53 #[.agg (c8 n)] w (.agg (c8 (n * n % p25))) := by
  refine calls_of_wp Tryd.func53 rfl ?_
  simp only [Tryd.ntmps53, List.size_toArray, List.length_cons, List.length_nil, Nat.reduceAdd, Nat.reduceSub, Array.replicate_succ, Array.replicate_zero, List.push_toArray, List.append_toArray, List.nil_append, List.cons_append]
  have hO := Own.nil w
  refine wp_seq ?_
  refine wl_region ?_
  refine wl_new 22 (c8 n) rfl (by kernel_rfl) hO fun w1 hO1 => ?_
  clear hO
  try simp only [p0, p1, p2, p3]
  refine wl_new 22 (c8 0) rfl (by kernel_rfl) hO1 fun w2 hO2 => ?_
  clear hO1
  try simp only [p0, p1, p2, p3]
  refine wl_nil ?_
  show Code.wp _ _ _ _ _
  refine wp_seq ?_
  refine wl_region ?_
  refine wl_load (c8 n) rfl 22 (.tmp 1) rfl w.heap.size rfl 22 _ (hO2.get (.tail _ (.head _))) Tryd.underlying22 rfl (inum_c8 _) ?_
  try simp only [p0, p1, p2, p3]
  refine wl_load (c8 n) rfl 22 (.tmp 1) rfl w.heap.size rfl 22 _ (hO2.get (.tail _ (.head _))) Tryd.underlying22 rfl (inum_c8 _) ?_
  try simp only [p0, p1, p2, p3]
  refine wl_call (.agg (c8 (n * n % p25))) rfl (by kernel_rfl) (mul_any n n hn hn _) hO2 fun w3 hO3 => ?_
  clear hO2
  try simp only [p0, p1, p2, p3]
  refine wl_store (L1 := []) (L2 := ((w.heap.size, 22, (c8 n)) :: [])) (cs := (c8 0)) (c8 (n * n % p25)) rfl 22 (.tmp 2) (.tmp 5) rfl rfl rfl hO3 (by simp only [size_c8]) (inum_c8 _) (one_c8 _) fun w4 hO4 => ?_
  clear hO3
  simp only [List.nil_append, List.cons_append, List.set_cons_zero, List.set_cons_succ] at hO4
  try simp only [p0, p1, p2, p3]
  refine wl_nil ?_
  show Code.wp _ _ _ _ _
  refine wp_ret ?_
  refine bodyPost_ret (results_cell_row rfl _ _ w1.heap.size 22 (c8 (n * n % p25)) (0, 0) _ rfl (hO4.get (.head _)) Tryd.underlying22 rfl (inum_c8 _)) rfl ?_
  exact ⟨rfl, hO4.bl⟩

/-- A contract that turns blocks which the caller owns. -/
def Turns (P : Program) (f : FuncId) (args : Array Value) (w0 w : World) (L : List (Nat × TypeId × Array Value)) (v : Value) : Prop := Calls P f args w fun e w' => e = .returned v ∧ Own w0 L w'
theorem wl_calls {P : Program} {ops : Array Oper} {Q : Exit → Act → World → Prop} {rest : List Oper} {o : Oper} {a : Act} {w w0 : World} {L' : List (Nat × TypeId × Array Value)} {f : FuncId} {args : Array Value} (v : Value) (hw : Region.wanted o (yielded ops a.tmps) = true) (hx : (execOp a.eval o).run P w = .ok (.enter f args) w) (hc : Turns P f args w0 w L' v)
    (h : ∀ w', Own w0 L' w' → WL P ops Q rest (a.put o.dst v) w') : WL P ops Q (o :: rest) a w := by
  refine .mk ?_
  unfold wpList
  rw [if_pos hw]
  refine .inl ?_
  unfold Oper.wp
  rw [hx]
  refine Calls.mono hc ?_
  rintro e w' ⟨rfl, hb⟩
  exact (h w' hb).out
set_option maxRecDepth 100000 in
set_option maxHeartbeats 4000000 in
theorem step_any {w0 w : World} {L : List (Nat × TypeId × Array Value)} {g a b c d x : Nat} (ha : N256 a) (hb : N256 b) (hc : N256 c) (hd : N256 d) (hx : N256 x) {tG : TypeId} (hG : Bk w0 0 tG (c8 121665))
    (hO : Own w0 ((g, 66, (slab [a, b, c, d]).toArray) :: L) w) :
    Turns Tryd.prog 37 #[.pointer (some ⟨g, 0, none⟩), .agg (c8 x)] w0 w ((g, 66, (slab [(Cv.stepQ x ⟨a, b, c, d⟩).a, (Cv.stepQ x ⟨a, b, c, d⟩).b, (Cv.stepQ x ⟨a, b, c, d⟩).c, (Cv.stepQ x ⟨a, b, c, d⟩).d]).toArray) :: L) (.tuple #[]) := by
  refine calls_of_wp Tryd.func37 rfl ?_
  simp only [Tryd.ntmps37, List.size_toArray, List.length_cons, List.length_nil, Nat.reduceAdd, Nat.reduceSub, Array.replicate_succ, Array.replicate_zero, List.push_toArray, List.append_toArray, List.nil_append, List.cons_append]
  refine wp_seq ?_
  refine wl_region ?_
  refine wl_new 22 (c8 x) rfl (by kernel_rfl) hO fun w1 hO1 => ?_
  clear hO
  try simp only [p0, p1, p2, p3]
  refine wl_nil ?_
  show Code.wp _ _ _ _ _
  refine wp_seq ?_
  refine wl_region ?_
  refine wl_pure (.func (.func 53) #[] #[]) rfl (by kernel_rfl) ?_
  try simp only [p0, p1, p2, p3]
  refine wl_nil ?_
  show Code.wp _ _ _ _ _
  refine wp_seq ?_
  refine fl_start [] #[false, false, false, false, false, false, false, false, false, false, false, false, false, false, false, false, false, false, false, false, false, false] (by kernel_rfl) (by kernel_rfl) hO1 fun w2 hO2 => ?_
  clear hO1
  refine fl_pure 0 #[true, false, false, false, false, false, false, false, false, false, false, false, false, false, false, false, false, false, false, false, false, false] (by kernel_rfl) rfl (some 12) (by kernel_rfl) (by kernel_rfl) (by kernel_rfl) (by kernel_rfl) (by kernel_rfl) (.pointer (some ⟨g, 0, none⟩)) (by kernel_rfl) (fun _ => by kernel_rfl) (fun _ => hO2) ?_
  try simp only [p0, p1, p2, p3]
  refine fl_pure 1 #[true, true, false, false, false, false, false, false, false, false, false, false, false, false, false, false, false, false, false, false, false, false] (by kernel_rfl) rfl (some 13) (by kernel_rfl) (by kernel_rfl) (by kernel_rfl) (by kernel_rfl) (by kernel_rfl) (.pointer (some ⟨g, 0, none⟩)) (by kernel_rfl) (fun _ => by kernel_rfl) (fun _ => hO2) ?_
  try simp only [p0, p1, p2, p3]
  refine fl_pure 2 #[true, true, true, false, false, false, false, false, false, false, false, false, false, false, false, false, false, false, false, false, false, false] (by kernel_rfl) rfl (some 14) (by kernel_rfl) (by kernel_rfl) (by kernel_rfl) (by kernel_rfl) (by kernel_rfl) (.pointer (some ⟨g, 0, none⟩)) (by kernel_rfl) (fun _ => by kernel_rfl) (fun _ => hO2) ?_
  try simp only [p0, p1, p2, p3]
  refine fl_nth (l := [a, b, c, d]) 3 #[true, true, true, true, false, false, false, false, false, false, false, false, false, false, false, false, false, false, false, false, false, false] (by kernel_rfl) rfl (some 15) (by kernel_rfl) (by kernel_rfl) (by kernel_rfl) (by kernel_rfl) (by kernel_rfl) 0 a (by kernel_rfl) (by kernel_rfl) (by kernel_rfl) 22 (.tmp 14) (by kernel_rfl) (by kernel_rfl) _ (fun _ h => h.get (.tail _ (.head _))) rfl Tryd.underlying22 rfl (inum_len _) hO2 ?_
  try simp only [p0, p1, p2, p3]
  refine fl_pure 4 #[true, true, true, true, true, false, false, false, false, false, false, false, false, false, false, false, false, false, false, false, false, false] (by kernel_rfl) rfl (some 16) (by kernel_rfl) (by kernel_rfl) (by kernel_rfl) (by kernel_rfl) (by kernel_rfl) (.pointer (some ⟨g, 0, none⟩)) (by kernel_rfl) (fun _ => by kernel_rfl) (fun _ => hO2) ?_
  try simp only [p0, p1, p2, p3]
  refine fl_pure 5 #[true, true, true, true, true, true, false, false, false, false, false, false, false, false, false, false, false, false, false, false, false, false] (by kernel_rfl) rfl (some 17) (by kernel_rfl) (by kernel_rfl) (by kernel_rfl) (by kernel_rfl) (by kernel_rfl) (.pointer (some ⟨g, 0, none⟩)) (by kernel_rfl) (fun _ => by kernel_rfl) (fun _ => hO2) ?_
  try simp only [p0, p1, p2, p3]
  refine fl_pure 6 #[true, true, true, true, true, true, true, false, false, false, false, false, false, false, false, false, false, false, false, false, false, false] (by kernel_rfl) rfl (some 18) (by kernel_rfl) (by kernel_rfl) (by kernel_rfl) (by kernel_rfl) (by kernel_rfl) (.pointer (some ⟨g, 32, none⟩)) (by kernel_rfl) (fun _ => by kernel_rfl) (fun _ => hO2) ?_
  try simp only [p0, p1, p2, p3]
  refine fl_nth (l := [a, b, c, d]) 7 #[true, true, true, true, true, true, true, true, false, false, false, false, false, false, false, false, false, false, false, false, false, false] (by kernel_rfl) rfl (some 19) (by kernel_rfl) (by kernel_rfl) (by kernel_rfl) (by kernel_rfl) (by kernel_rfl) 1 b (by kernel_rfl) (by kernel_rfl) (by kernel_rfl) 22 (.tmp 18) (by kernel_rfl) (by kernel_rfl) _ (fun _ h => h.get (.tail _ (.head _))) rfl Tryd.underlying22 rfl (inum_len _) hO2 ?_
  try simp only [p0, p1, p2, p3]
  refine fl_pure 9 #[true, true, true, true, true, true, true, true, false, true, false, false, false, false, false, false, false, false, false, false, false, false] (by kernel_rfl) rfl (some 21) (by kernel_rfl) (by kernel_rfl) (by kernel_rfl) (by kernel_rfl) (by kernel_rfl) (.pointer (some ⟨g, 0, none⟩)) (by kernel_rfl) (fun _ => by kernel_rfl) (fun _ => hO2) ?_
  try simp only [p0, p1, p2, p3]
  refine fl_pure 10 #[true, true, true, true, true, true, true, true, false, true, true, false, false, false, false, false, false, false, false, false, false, false] (by kernel_rfl) rfl (some 22) (by kernel_rfl) (by kernel_rfl) (by kernel_rfl) (by kernel_rfl) (by kernel_rfl) (.pointer (some ⟨g, 0, none⟩)) (by kernel_rfl) (fun _ => by kernel_rfl) (fun _ => hO2) ?_
  try simp only [p0, p1, p2, p3]
  refine fl_pure 11 #[true, true, true, true, true, true, true, true, false, true, true, true, false, false, false, false, false, false, false, false, false, false] (by kernel_rfl) rfl (some 23) (by kernel_rfl) (by kernel_rfl) (by kernel_rfl) (by kernel_rfl) (by kernel_rfl) (.pointer (some ⟨g, 0, none⟩)) (by kernel_rfl) (fun _ => by kernel_rfl) (fun _ => hO2) ?_
  try simp only [p0, p1, p2, p3]
  refine fl_nth (l := [a, b, c, d]) 12 #[true, true, true, true, true, true, true, true, false, true, true, true, true, false, false, false, false, false, false, false, false, false] (by kernel_rfl) rfl (some 24) (by kernel_rfl) (by kernel_rfl) (by kernel_rfl) (by kernel_rfl) (by kernel_rfl) 0 a (by kernel_rfl) (by kernel_rfl) (by kernel_rfl) 22 (.tmp 23) (by kernel_rfl) (by kernel_rfl) _ (fun _ h => h.get (.tail _ (.head _))) rfl Tryd.underlying22 rfl (inum_len _) hO2 ?_
  try simp only [p0, p1, p2, p3]
  refine fl_pure 13 #[true, true, true, true, true, true, true, true, false, true, true, true, true, true, false, false, false, false, false, false, false, false] (by kernel_rfl) rfl (some 25) (by kernel_rfl) (by kernel_rfl) (by kernel_rfl) (by kernel_rfl) (by kernel_rfl) (.pointer (some ⟨g, 0, none⟩)) (by kernel_rfl) (fun _ => by kernel_rfl) (fun _ => hO2) ?_
  try simp only [p0, p1, p2, p3]
  refine fl_pure 14 #[true, true, true, true, true, true, true, true, false, true, true, true, true, true, true, false, false, false, false, false, false, false] (by kernel_rfl) rfl (some 26) (by kernel_rfl) (by kernel_rfl) (by kernel_rfl) (by kernel_rfl) (by kernel_rfl) (.pointer (some ⟨g, 0, none⟩)) (by kernel_rfl) (fun _ => by kernel_rfl) (fun _ => hO2) ?_
  try simp only [p0, p1, p2, p3]
  refine fl_pure 15 #[true, true, true, true, true, true, true, true, false, true, true, true, true, true, true, true, false, false, false, false, false, false] (by kernel_rfl) rfl (some 27) (by kernel_rfl) (by kernel_rfl) (by kernel_rfl) (by kernel_rfl) (by kernel_rfl) (.pointer (some ⟨g, 32, none⟩)) (by kernel_rfl) (fun _ => by kernel_rfl) (fun _ => hO2) ?_
  try simp only [p0, p1, p2, p3]
  refine fl_nth (l := [a, b, c, d]) 16 #[true, true, true, true, true, true, true, true, false, true, true, true, true, true, true, true, true, false, false, false, false, false] (by kernel_rfl) rfl (some 28) (by kernel_rfl) (by kernel_rfl) (by kernel_rfl) (by kernel_rfl) (by kernel_rfl) 1 b (by kernel_rfl) (by kernel_rfl) (by kernel_rfl) 22 (.tmp 27) (by kernel_rfl) (by kernel_rfl) _ (fun _ h => h.get (.tail _ (.head _))) rfl Tryd.underlying22 rfl (inum_len _) hO2 ?_
  try simp only [p0, p1, p2, p3]
  refine calls2 (fuel := 2) (AllocAt.mk (i := 18) (t := 22) (cs := (c8 0)) rfl rfl rfl (fun _ _ => by kernel_rfl)) (AllocAt.mk (i := 19) (t := 22) (cs := (c8 0)) rfl rfl rfl (fun _ _ => by kernel_rfl)) (by decide) (by decide) [(8, 20, .agg (c8 ((a + b) % p25))), (17, 29, .agg (c8 ((a + 4 * p25 - b) % p25)))] _ _ (by kernel_rfl) ⟨CallAt.mk rfl (by kernel_rfl) rfl rfl (fun _ => by kernel_rfl) (fun _ hs => add_any a b ha hb _), ⟨CallAt.mk rfl (by kernel_rfl) rfl rfl (fun _ => by kernel_rfl) (fun _ hs => sub_any a b ha hb _), trivial⟩⟩ (by kernel_rfl) (by kernel_rfl) (fun _ h => h) (fun gw3_0 gw3_1 w3 hO3 => ?_) _ hO2
  clear hO2
  simp only [lst, acts]
  try simp only [p0, p1, p2, p3]
  refine fl_set (L1 := []) (L2 := ((gw3_1, 22, (c8 0)) :: (w.heap.size, 22, (c8 x)) :: (g, 66, (slab [a, b, c, d]).toArray) :: L)) (cs := (c8 0)) 20 #[true, true, true, true, true, true, true, true, true, true, true, true, true, true, true, true, true, true, true, true, true, false] (by kernel_rfl) rfl none (by kernel_rfl) rfl (by kernel_rfl) (c8 ((a + b) % p25)) 22 (.tmp 5) (.tmp 20) rfl rfl rfl hO3 (by simp only [size_c8]) (inum_c8 _) (one_c8 _) (fun _ h _ => h.tail.tail) fun w4 hO4 => ?_
  try clear hO3
  simp only [List.nil_append, List.cons_append, List.set_cons_zero, List.set_cons_succ] at hO4
  try simp only [p0, p1, p2, p3]
  refine fl_set (L1 := [(gw3_0, 22, (c8 ((a + b) % p25)))]) (L2 := ((w.heap.size, 22, (c8 x)) :: (g, 66, (slab [a, b, c, d]).toArray) :: L)) (cs := (c8 0)) 21 #[true, true, true, true, true, true, true, true, true, true, true, true, true, true, true, true, true, true, true, true, true, true] (by kernel_rfl) rfl none (by kernel_rfl) rfl (by kernel_rfl) (c8 ((a + 4 * p25 - b) % p25)) 22 (.tmp 6) (.tmp 29) rfl rfl rfl hO4 (by simp only [size_c8]) (inum_c8 _) (one_c8 _) (fun _ h _ => h.tail.tail) fun w5 hO5 => ?_
  try clear hO4
  simp only [List.nil_append, List.cons_append, List.set_cons_zero, List.set_cons_succ] at hO5
  try simp only [p0, p1, p2, p3]
  refine fl_done (by kernel_rfl) ?_
  show Code.wp _ _ _ _ _
  refine wp_seq ?_
  refine fl_start [] #[false, false, false, false, false, false, false, false, false, false, false, false, false, false, false, false, false, false, false, false, false, false, false, false, false, false] (by kernel_rfl) (by kernel_rfl) hO5 fun w6 hO6 => ?_
  clear hO5
  refine fl_pure 0 #[true, false, false, false, false, false, false, false, false, false, false, false, false, false, false, false, false, false, false, false, false, false, false, false, false, false] (by kernel_rfl) rfl (some 30) (by kernel_rfl) (by kernel_rfl) (by kernel_rfl) (by kernel_rfl) (by kernel_rfl) (.pointer (some ⟨g, 0, none⟩)) (by kernel_rfl) (fun _ => by kernel_rfl) (fun _ => hO6) ?_
  try simp only [p0, p1, p2, p3]
  refine fl_pure 1 #[true, true, false, false, false, false, false, false, false, false, false, false, false, false, false, false, false, false, false, false, false, false, false, false, false, false] (by kernel_rfl) rfl (some 31) (by kernel_rfl) (by kernel_rfl) (by kernel_rfl) (by kernel_rfl) (by kernel_rfl) (.pointer (some ⟨g, 0, none⟩)) (by kernel_rfl) (fun _ => by kernel_rfl) (fun _ => hO6) ?_
  try simp only [p0, p1, p2, p3]
  refine fl_pure 2 #[true, true, true, false, false, false, false, false, false, false, false, false, false, false, false, false, false, false, false, false, false, false, false, false, false, false] (by kernel_rfl) rfl (some 32) (by kernel_rfl) (by kernel_rfl) (by kernel_rfl) (by kernel_rfl) (by kernel_rfl) (.pointer (some ⟨g, 64, none⟩)) (by kernel_rfl) (fun _ => by kernel_rfl) (fun _ => hO6) ?_
  try simp only [p0, p1, p2, p3]
  refine fl_nth (l := [a, b, c, d]) 3 #[true, true, true, true, false, false, false, false, false, false, false, false, false, false, false, false, false, false, false, false, false, false, false, false, false, false] (by kernel_rfl) rfl (some 33) (by kernel_rfl) (by kernel_rfl) (by kernel_rfl) (by kernel_rfl) (by kernel_rfl) 2 c (by kernel_rfl) (by kernel_rfl) (by kernel_rfl) 22 (.tmp 32) (by kernel_rfl) (by kernel_rfl) _ (fun _ h => h.get (.tail _ (.tail _ (.tail _ (.head _))))) rfl Tryd.underlying22 rfl (inum_len _) hO6 ?_
  try simp only [p0, p1, p2, p3]
  refine fl_pure 4 #[true, true, true, true, true, false, false, false, false, false, false, false, false, false, false, false, false, false, false, false, false, false, false, false, false, false] (by kernel_rfl) rfl (some 34) (by kernel_rfl) (by kernel_rfl) (by kernel_rfl) (by kernel_rfl) (by kernel_rfl) (.pointer (some ⟨g, 0, none⟩)) (by kernel_rfl) (fun _ => by kernel_rfl) (fun _ => hO6) ?_
  try simp only [p0, p1, p2, p3]
  refine fl_pure 5 #[true, true, true, true, true, true, false, false, false, false, false, false, false, false, false, false, false, false, false, false, false, false, false, false, false, false] (by kernel_rfl) rfl (some 35) (by kernel_rfl) (by kernel_rfl) (by kernel_rfl) (by kernel_rfl) (by kernel_rfl) (.pointer (some ⟨g, 0, none⟩)) (by kernel_rfl) (fun _ => by kernel_rfl) (fun _ => hO6) ?_
  try simp only [p0, p1, p2, p3]
  refine fl_pure 6 #[true, true, true, true, true, true, true, false, false, false, false, false, false, false, false, false, false, false, false, false, false, false, false, false, false, false] (by kernel_rfl) rfl (some 36) (by kernel_rfl) (by kernel_rfl) (by kernel_rfl) (by kernel_rfl) (by kernel_rfl) (.pointer (some ⟨g, 96, none⟩)) (by kernel_rfl) (fun _ => by kernel_rfl) (fun _ => hO6) ?_
  try simp only [p0, p1, p2, p3]
  refine fl_nth (l := [a, b, c, d]) 7 #[true, true, true, true, true, true, true, true, false, false, false, false, false, false, false, false, false, false, false, false, false, false, false, false, false, false] (by kernel_rfl) rfl (some 37) (by kernel_rfl) (by kernel_rfl) (by kernel_rfl) (by kernel_rfl) (by kernel_rfl) 3 d (by kernel_rfl) (by kernel_rfl) (by kernel_rfl) 22 (.tmp 36) (by kernel_rfl) (by kernel_rfl) _ (fun _ h => h.get (.tail _ (.tail _ (.tail _ (.head _))))) rfl Tryd.underlying22 rfl (inum_len _) hO6 ?_
  try simp only [p0, p1, p2, p3]
  refine fl_load 9 #[true, true, true, true, true, true, true, true, false, true, false, false, false, false, false, false, false, false, false, false, false, false, false, false, false, false] (by kernel_rfl) rfl (some 39) (by kernel_rfl) (by kernel_rfl) (by kernel_rfl) (by kernel_rfl) (by kernel_rfl) (c8 ((a + 4 * p25 - b) % p25)) (by kernel_rfl) (by kernel_rfl) (by kernel_rfl) 22 (.tmp 6) (by kernel_rfl) gw3_1 (by kernel_rfl) 22 _ (fun _ h => h.get (.tail _ (.head _))) Tryd.underlying22 rfl (inum_c8 _) hO6 ?_
  try simp only [p0, p1, p2, p3]
  refine fl_pure 11 #[true, true, true, true, true, true, true, true, false, true, false, true, false, false, false, false, false, false, false, false, false, false, false, false, false, false] (by kernel_rfl) rfl (some 41) (by kernel_rfl) (by kernel_rfl) (by kernel_rfl) (by kernel_rfl) (by kernel_rfl) (.pointer (some ⟨g, 0, none⟩)) (by kernel_rfl) (fun _ => by kernel_rfl) (fun _ => hO6) ?_
  try simp only [p0, p1, p2, p3]
  refine fl_pure 12 #[true, true, true, true, true, true, true, true, false, true, false, true, true, false, false, false, false, false, false, false, false, false, false, false, false, false] (by kernel_rfl) rfl (some 42) (by kernel_rfl) (by kernel_rfl) (by kernel_rfl) (by kernel_rfl) (by kernel_rfl) (.pointer (some ⟨g, 0, none⟩)) (by kernel_rfl) (fun _ => by kernel_rfl) (fun _ => hO6) ?_
  try simp only [p0, p1, p2, p3]
  refine fl_pure 13 #[true, true, true, true, true, true, true, true, false, true, false, true, true, true, false, false, false, false, false, false, false, false, false, false, false, false] (by kernel_rfl) rfl (some 43) (by kernel_rfl) (by kernel_rfl) (by kernel_rfl) (by kernel_rfl) (by kernel_rfl) (.pointer (some ⟨g, 64, none⟩)) (by kernel_rfl) (fun _ => by kernel_rfl) (fun _ => hO6) ?_
  try simp only [p0, p1, p2, p3]
  refine fl_nth (l := [a, b, c, d]) 14 #[true, true, true, true, true, true, true, true, false, true, false, true, true, true, true, false, false, false, false, false, false, false, false, false, false, false] (by kernel_rfl) rfl (some 44) (by kernel_rfl) (by kernel_rfl) (by kernel_rfl) (by kernel_rfl) (by kernel_rfl) 2 c (by kernel_rfl) (by kernel_rfl) (by kernel_rfl) 22 (.tmp 43) (by kernel_rfl) (by kernel_rfl) _ (fun _ h => h.get (.tail _ (.tail _ (.tail _ (.head _))))) rfl Tryd.underlying22 rfl (inum_len _) hO6 ?_
  try simp only [p0, p1, p2, p3]
  refine fl_pure 15 #[true, true, true, true, true, true, true, true, false, true, false, true, true, true, true, true, false, false, false, false, false, false, false, false, false, false] (by kernel_rfl) rfl (some 45) (by kernel_rfl) (by kernel_rfl) (by kernel_rfl) (by kernel_rfl) (by kernel_rfl) (.pointer (some ⟨g, 0, none⟩)) (by kernel_rfl) (fun _ => by kernel_rfl) (fun _ => hO6) ?_
  try simp only [p0, p1, p2, p3]
  refine fl_pure 16 #[true, true, true, true, true, true, true, true, false, true, false, true, true, true, true, true, true, false, false, false, false, false, false, false, false, false] (by kernel_rfl) rfl (some 46) (by kernel_rfl) (by kernel_rfl) (by kernel_rfl) (by kernel_rfl) (by kernel_rfl) (.pointer (some ⟨g, 0, none⟩)) (by kernel_rfl) (fun _ => by kernel_rfl) (fun _ => hO6) ?_
  try simp only [p0, p1, p2, p3]
  refine fl_pure 17 #[true, true, true, true, true, true, true, true, false, true, false, true, true, true, true, true, true, true, false, false, false, false, false, false, false, false] (by kernel_rfl) rfl (some 47) (by kernel_rfl) (by kernel_rfl) (by kernel_rfl) (by kernel_rfl) (by kernel_rfl) (.pointer (some ⟨g, 96, none⟩)) (by kernel_rfl) (fun _ => by kernel_rfl) (fun _ => hO6) ?_
  try simp only [p0, p1, p2, p3]
  refine fl_nth (l := [a, b, c, d]) 18 #[true, true, true, true, true, true, true, true, false, true, false, true, true, true, true, true, true, true, true, false, false, false, false, false, false, false] (by kernel_rfl) rfl (some 48) (by kernel_rfl) (by kernel_rfl) (by kernel_rfl) (by kernel_rfl) (by kernel_rfl) 3 d (by kernel_rfl) (by kernel_rfl) (by kernel_rfl) 22 (.tmp 47) (by kernel_rfl) (by kernel_rfl) _ (fun _ h => h.get (.tail _ (.tail _ (.tail _ (.head _))))) rfl Tryd.underlying22 rfl (inum_len _) hO6 ?_
  try simp only [p0, p1, p2, p3]
  refine fl_load 20 #[true, true, true, true, true, true, true, true, false, true, false, true, true, true, true, true, true, true, true, false, true, false, false, false, false, false] (by kernel_rfl) rfl (some 50) (by kernel_rfl) (by kernel_rfl) (by kernel_rfl) (by kernel_rfl) (by kernel_rfl) (c8 ((a + b) % p25)) (by kernel_rfl) (by kernel_rfl) (by kernel_rfl) 22 (.tmp 5) (by kernel_rfl) gw3_0 (by kernel_rfl) 22 _ (fun _ h => h.get (.head _)) Tryd.underlying22 rfl (inum_c8 _) hO6 ?_
  try simp only [p0, p1, p2, p3]
  refine calls2 (fuel := 2) (AllocAt.mk (i := 22) (t := 22) (cs := (c8 0)) rfl rfl rfl (fun _ _ => by kernel_rfl)) (AllocAt.mk (i := 23) (t := 22) (cs := (c8 0)) rfl rfl rfl (fun _ _ => by kernel_rfl)) (by decide) (by decide) [(8, 38, .agg (c8 ((c + d) % p25))), (10, 40, .agg (c8 (((c + d) % p25) * ((a + 4 * p25 - b) % p25) % p25))), (19, 49, .agg (c8 ((c + 4 * p25 - d) % p25))), (21, 51, .agg (c8 (((c + 4 * p25 - d) % p25) * ((a + b) % p25) % p25)))] _ _ (by kernel_rfl) ⟨CallAt.mk rfl (by kernel_rfl) rfl rfl (fun _ => by kernel_rfl) (fun _ hs => add_any c d hc hd _), ⟨CallAt.mk rfl (by kernel_rfl) rfl rfl (fun _ => by kernel_rfl) (fun _ hs => mul_any ((c + d) % p25) ((a + 4 * p25 - b) % p25) (N256.mod _) (N256.mod _) _), ⟨CallAt.mk rfl (by kernel_rfl) rfl rfl (fun _ => by kernel_rfl) (fun _ hs => sub_any c d hc hd _), ⟨CallAt.mk rfl (by kernel_rfl) rfl rfl (fun _ => by kernel_rfl) (fun _ hs => mul_any ((c + 4 * p25 - d) % p25) ((a + b) % p25) (N256.mod _) (N256.mod _) _), trivial⟩⟩⟩⟩ (by kernel_rfl) (by kernel_rfl) (fun _ h => h) (fun gw7_0 gw7_1 w7 hO7 => ?_) _ hO6
  clear hO6
  simp only [lst, acts]
  try simp only [p0, p1, p2, p3]
  refine fl_set (L1 := []) (L2 := ((gw7_1, 22, (c8 0)) :: (gw3_0, 22, (c8 ((a + b) % p25))) :: (gw3_1, 22, (c8 ((a + 4 * p25 - b) % p25))) :: (w.heap.size, 22, (c8 x)) :: (g, 66, (slab [a, b, c, d]).toArray) :: L)) (cs := (c8 0)) 24 #[true, true, true, true, true, true, true, true, true, true, true, true, true, true, true, true, true, true, true, true, true, true, true, true, true, false] (by kernel_rfl) rfl none (by kernel_rfl) rfl (by kernel_rfl) (c8 (((c + d) % p25) * ((a + 4 * p25 - b) % p25) % p25)) 22 (.tmp 7) (.tmp 40) rfl rfl rfl hO7 (by simp only [size_c8]) (inum_c8 _) (one_c8 _) (fun _ h _ => h.tail.tail) fun w8 hO8 => ?_
  try clear hO7
  simp only [List.nil_append, List.cons_append, List.set_cons_zero, List.set_cons_succ] at hO8
  try simp only [p0, p1, p2, p3]
  refine fl_set (L1 := [(gw7_0, 22, (c8 (((c + d) % p25) * ((a + 4 * p25 - b) % p25) % p25)))]) (L2 := ((gw3_0, 22, (c8 ((a + b) % p25))) :: (gw3_1, 22, (c8 ((a + 4 * p25 - b) % p25))) :: (w.heap.size, 22, (c8 x)) :: (g, 66, (slab [a, b, c, d]).toArray) :: L)) (cs := (c8 0)) 25 #[true, true, true, true, true, true, true, true, true, true, true, true, true, true, true, true, true, true, true, true, true, true, true, true, true, true] (by kernel_rfl) rfl none (by kernel_rfl) rfl (by kernel_rfl) (c8 (((c + 4 * p25 - d) % p25) * ((a + b) % p25) % p25)) 22 (.tmp 8) (.tmp 51) rfl rfl rfl hO8 (by simp only [size_c8]) (inum_c8 _) (one_c8 _) (fun _ h _ => h.tail.tail) fun w9 hO9 => ?_
  try clear hO8
  simp only [List.nil_append, List.cons_append, List.set_cons_zero, List.set_cons_succ] at hO9
  try simp only [p0, p1, p2, p3]
  refine fl_done (by kernel_rfl) ?_
  show Code.wp _ _ _ _ _
  refine wp_seq ?_
  refine fl_start [] #[false, false, false, false, false, false, false, false, false, false] (by kernel_rfl) (by kernel_rfl) hO9 fun w10 hO10 => ?_
  clear hO9
  refine fl_pure 0 #[true, false, false, false, false, false, false, false, false, false] (by kernel_rfl) rfl (some 52) (by kernel_rfl) (by kernel_rfl) (by kernel_rfl) (by kernel_rfl) (by kernel_rfl) (.func (.func 53) #[] #[]) (by kernel_rfl) (fun _ => by kernel_rfl) (fun _ => hO10) ?_
  try simp only [p0, p1, p2, p3]
  refine fl_load 1 #[true, true, false, false, false, false, false, false, false, false] (by kernel_rfl) rfl (some 53) (by kernel_rfl) (by kernel_rfl) (by kernel_rfl) (by kernel_rfl) (by kernel_rfl) (c8 ((a + b) % p25)) (by kernel_rfl) (by kernel_rfl) (by kernel_rfl) 22 (.tmp 5) (by kernel_rfl) gw3_0 (by kernel_rfl) 22 _ (fun _ h => h.get (.tail _ (.tail _ (.head _)))) Tryd.underlying22 rfl (inum_c8 _) hO10 ?_
  try simp only [p0, p1, p2, p3]
  refine fl_pure 3 #[true, true, false, true, false, false, false, false, false, false] (by kernel_rfl) rfl (some 55) (by kernel_rfl) (by kernel_rfl) (by kernel_rfl) (by kernel_rfl) (by kernel_rfl) (.func (.func 53) #[] #[]) (by kernel_rfl) (fun _ => by kernel_rfl) (fun _ => hO10) ?_
  try simp only [p0, p1, p2, p3]
  refine fl_load 4 #[true, true, false, true, true, false, false, false, false, false] (by kernel_rfl) rfl (some 56) (by kernel_rfl) (by kernel_rfl) (by kernel_rfl) (by kernel_rfl) (by kernel_rfl) (c8 ((a + 4 * p25 - b) % p25)) (by kernel_rfl) (by kernel_rfl) (by kernel_rfl) 22 (.tmp 6) (by kernel_rfl) gw3_1 (by kernel_rfl) 22 _ (fun _ h => h.get (.tail _ (.tail _ (.tail _ (.head _))))) Tryd.underlying22 rfl (inum_c8 _) hO10 ?_
  try simp only [p0, p1, p2, p3]
  refine calls2 (fuel := 2) (AllocAt.mk (i := 6) (t := 22) (cs := (c8 0)) rfl rfl rfl (fun _ _ => by kernel_rfl)) (AllocAt.mk (i := 7) (t := 22) (cs := (c8 0)) rfl rfl rfl (fun _ _ => by kernel_rfl)) (by decide) (by decide) [(2, 54, .agg (c8 (((a + b) % p25) * ((a + b) % p25) % p25))), (5, 57, .agg (c8 (((a + 4 * p25 - b) % p25) * ((a + 4 * p25 - b) % p25) % p25)))] _ _ (by kernel_rfl) ⟨CallAt.mk rfl (by kernel_rfl) rfl rfl (fun _ => by kernel_rfl) (fun _ hs => sq_any (N256.mod _) _), ⟨CallAt.mk rfl (by kernel_rfl) rfl rfl (fun _ => by kernel_rfl) (fun _ hs => sq_any (N256.mod _) _), trivial⟩⟩ (by kernel_rfl) (by kernel_rfl) (fun _ h => h) (fun gw11_0 gw11_1 w11 hO11 => ?_) _ hO10
  clear hO10
  simp only [lst, acts]
  try simp only [p0, p1, p2, p3]
  refine fl_set (L1 := []) (L2 := ((gw11_1, 22, (c8 0)) :: (gw7_0, 22, (c8 (((c + d) % p25) * ((a + 4 * p25 - b) % p25) % p25))) :: (gw7_1, 22, (c8 (((c + 4 * p25 - d) % p25) * ((a + b) % p25) % p25))) :: (gw3_0, 22, (c8 ((a + b) % p25))) :: (gw3_1, 22, (c8 ((a + 4 * p25 - b) % p25))) :: (w.heap.size, 22, (c8 x)) :: (g, 66, (slab [a, b, c, d]).toArray) :: L)) (cs := (c8 0)) 8 #[true, true, true, true, true, true, true, true, true, false] (by kernel_rfl) rfl none (by kernel_rfl) rfl (by kernel_rfl) (c8 (((a + b) % p25) * ((a + b) % p25) % p25)) 22 (.tmp 9) (.tmp 54) rfl rfl rfl hO11 (by simp only [size_c8]) (inum_c8 _) (one_c8 _) (fun _ h _ => h.tail.tail) fun w12 hO12 => ?_
  try clear hO11
  simp only [List.nil_append, List.cons_append, List.set_cons_zero, List.set_cons_succ] at hO12
  try simp only [p0, p1, p2, p3]
  refine fl_set (L1 := [(gw11_0, 22, (c8 (((a + b) % p25) * ((a + b) % p25) % p25)))]) (L2 := ((gw7_0, 22, (c8 (((c + d) % p25) * ((a + 4 * p25 - b) % p25) % p25))) :: (gw7_1, 22, (c8 (((c + 4 * p25 - d) % p25) * ((a + b) % p25) % p25))) :: (gw3_0, 22, (c8 ((a + b) % p25))) :: (gw3_1, 22, (c8 ((a + 4 * p25 - b) % p25))) :: (w.heap.size, 22, (c8 x)) :: (g, 66, (slab [a, b, c, d]).toArray) :: L)) (cs := (c8 0)) 9 #[true, true, true, true, true, true, true, true, true, true] (by kernel_rfl) rfl none (by kernel_rfl) rfl (by kernel_rfl) (c8 (((a + 4 * p25 - b) % p25) * ((a + 4 * p25 - b) % p25) % p25)) 22 (.tmp 10) (.tmp 57) rfl rfl rfl hO12 (by simp only [size_c8]) (inum_c8 _) (one_c8 _) (fun _ h _ => h.tail.tail) fun w13 hO13 => ?_
  try clear hO12
  simp only [List.nil_append, List.cons_append, List.set_cons_zero, List.set_cons_succ] at hO13
  try simp only [p0, p1, p2, p3]
  refine fl_done (by kernel_rfl) ?_
  show Code.wp _ _ _ _ _
  refine wp_seq ?_
  refine wl_region ?_
  refine wl_load (c8 (((a + b) % p25) * ((a + b) % p25) % p25)) rfl 22 (.tmp 9) rfl gw11_0 rfl 22 _ (hO13.get (.head _)) Tryd.underlying22 rfl (inum_c8 _) ?_
  try simp only [p0, p1, p2, p3]
  refine wl_load (c8 (((a + 4 * p25 - b) % p25) * ((a + 4 * p25 - b) % p25) % p25)) rfl 22 (.tmp 10) rfl gw11_1 rfl 22 _ (hO13.get (.tail _ (.head _))) Tryd.underlying22 rfl (inum_c8 _) ?_
  try simp only [p0, p1, p2, p3]
  refine wl_call (.agg (c8 (((((a + b) % p25) * ((a + b) % p25) % p25) + 4 * p25 - (((a + 4 * p25 - b) % p25) * ((a + 4 * p25 - b) % p25) % p25)) % p25))) rfl (by kernel_rfl) (sub_any (((a + b) % p25) * ((a + b) % p25) % p25) (((a + 4 * p25 - b) % p25) * ((a + 4 * p25 - b) % p25) % p25) (N256.mod _) (N256.mod _) _) hO13 fun w14 hO14 => ?_
  clear hO13
  try simp only [p0, p1, p2, p3]
  refine wl_new 22 (c8 0) rfl (by kernel_rfl) hO14 fun w15 hO15 => ?_
  clear hO14
  try simp only [p0, p1, p2, p3]
  refine wl_store (L1 := []) (L2 := ((gw11_0, 22, (c8 (((a + b) % p25) * ((a + b) % p25) % p25))) :: (gw11_1, 22, (c8 (((a + 4 * p25 - b) % p25) * ((a + 4 * p25 - b) % p25) % p25))) :: (gw7_0, 22, (c8 (((c + d) % p25) * ((a + 4 * p25 - b) % p25) % p25))) :: (gw7_1, 22, (c8 (((c + 4 * p25 - d) % p25) * ((a + b) % p25) % p25))) :: (gw3_0, 22, (c8 ((a + b) % p25))) :: (gw3_1, 22, (c8 ((a + 4 * p25 - b) % p25))) :: (w.heap.size, 22, (c8 x)) :: (g, 66, (slab [a, b, c, d]).toArray) :: L)) (cs := (c8 0)) (c8 (((((a + b) % p25) * ((a + b) % p25) % p25) + 4 * p25 - (((a + 4 * p25 - b) % p25) * ((a + 4 * p25 - b) % p25) % p25)) % p25)) rfl 22 (.tmp 11) (.tmp 60) rfl rfl rfl hO15 (by simp only [size_c8]) (inum_c8 _) (one_c8 _) fun w16 hO16 => ?_
  clear hO15
  simp only [List.nil_append, List.cons_append, List.set_cons_zero, List.set_cons_succ] at hO16
  try simp only [p0, p1, p2, p3]
  refine wl_nil ?_
  show Code.wp _ _ _ _ _
  refine wp_seq ?_
  refine wl_region ?_
  refine wl_pure (.pointer (some ⟨g, 0, none⟩)) rfl (by kernel_rfl) ?_
  try simp only [p0, p1, p2, p3]
  refine wl_load (c8 (((a + b) % p25) * ((a + b) % p25) % p25)) rfl 22 (.tmp 9) rfl gw11_0 rfl 22 _ (hO16.get (.tail _ (.head _))) Tryd.underlying22 rfl (inum_c8 _) ?_
  try simp only [p0, p1, p2, p3]
  refine wl_load (c8 (((a + 4 * p25 - b) % p25) * ((a + 4 * p25 - b) % p25) % p25)) rfl 22 (.tmp 10) rfl gw11_1 rfl 22 _ (hO16.get (.tail _ (.tail _ (.head _)))) Tryd.underlying22 rfl (inum_c8 _) ?_
  try simp only [p0, p1, p2, p3]
  refine wl_call (.agg (c8 ((((a + b) % p25) * ((a + b) % p25) % p25) * (((a + 4 * p25 - b) % p25) * ((a + 4 * p25 - b) % p25) % p25) % p25))) rfl (by kernel_rfl) (mul_any (((a + b) % p25) * ((a + b) % p25) % p25) (((a + 4 * p25 - b) % p25) * ((a + 4 * p25 - b) % p25) % p25) (N256.mod _) (N256.mod _) _) hO16 fun w17 hO17 => ?_
  clear hO16
  try simp only [p0, p1, p2, p3]
  refine wl_pure (.pointer (some ⟨g, 0, none⟩)) rfl (by kernel_rfl) ?_
  try simp only [p0, p1, p2, p3]
  refine wl_pure (.pointer (some ⟨g, 0, none⟩)) rfl (by kernel_rfl) ?_
  try simp only [p0, p1, p2, p3]
  refine wl_put (L1 := [(w14.heap.size, 22, (c8 (((((a + b) % p25) * ((a + b) % p25) % p25) + 4 * p25 - (((a + 4 * p25 - b) % p25) * ((a + 4 * p25 - b) % p25) % p25)) % p25))), (gw11_0, 22, (c8 (((a + b) % p25) * ((a + b) % p25) % p25))), (gw11_1, 22, (c8 (((a + 4 * p25 - b) % p25) * ((a + 4 * p25 - b) % p25) % p25))), (gw7_0, 22, (c8 (((c + d) % p25) * ((a + 4 * p25 - b) % p25) % p25))), (gw7_1, 22, (c8 (((c + 4 * p25 - d) % p25) * ((a + b) % p25) % p25))), (gw3_0, 22, (c8 ((a + b) % p25))), (gw3_1, 22, (c8 ((a + 4 * p25 - b) % p25))), (w.heap.size, 22, (c8 x))]) (L2 := (L)) (l := [a, b, c, d]) 0 ((((a + b) % p25) * ((a + b) % p25) % p25) * (((a + 4 * p25 - b) % p25) * ((a + 4 * p25 - b) % p25) % p25) % p25) rfl 22 (.tmp 66) (.tmp 64) rfl rfl rfl hO17 (of_decide_eq_true (by kernel_rfl)) (inum_c8 _) fun w18 hO18 => ?_
  clear hO17
  simp only [List.nil_append, List.cons_append, List.set_cons_zero, List.set_cons_succ] at hO18
  try simp only [p0, p1, p2, p3]
  refine wl_nil ?_
  show Code.wp _ _ _ _ _
  refine wp_seq ?_
  refine fl_start [10] #[false, false, false, false, false, false, false, false, false, false, false] (by kernel_rfl) (by kernel_rfl) hO18 fun w19 hO19 => ?_
  clear hO18
  refine fl_pure 0 #[true, false, false, false, false, false, false, false, false, false, false] (by kernel_rfl) rfl (some 67) (by kernel_rfl) (by kernel_rfl) (by kernel_rfl) (by kernel_rfl) (by kernel_rfl) (.pointer (some ⟨g, 0, none⟩)) (by kernel_rfl) (fun _ => by kernel_rfl) (fun _ => hO19) ?_
  try simp only [p0, p1, p2, p3]
  refine fl_load 1 #[true, true, false, false, false, false, false, false, false, false, false] (by kernel_rfl) rfl (some 68) (by kernel_rfl) (by kernel_rfl) (by kernel_rfl) (by kernel_rfl) (by kernel_rfl) (c8 (((((a + b) % p25) * ((a + b) % p25) % p25) + 4 * p25 - (((a + 4 * p25 - b) % p25) * ((a + 4 * p25 - b) % p25) % p25)) % p25)) (by kernel_rfl) (by kernel_rfl) (by kernel_rfl) 22 (.tmp 11) (by kernel_rfl) w14.heap.size (by kernel_rfl) 22 _ (fun _ h => h.get (.head _)) Tryd.underlying22 rfl (inum_c8 _) hO19 ?_
  try simp only [p0, p1, p2, p3]
  refine fl_load 2 #[true, true, true, false, false, false, false, false, false, false, false] (by kernel_rfl) rfl (some 69) (by kernel_rfl) (by kernel_rfl) (by kernel_rfl) (by kernel_rfl) (by kernel_rfl) (c8 (((a + b) % p25) * ((a + b) % p25) % p25)) (by kernel_rfl) (by kernel_rfl) (by kernel_rfl) 22 (.tmp 9) (by kernel_rfl) gw11_0 (by kernel_rfl) 22 _ (fun _ h => h.get (.tail _ (.head _))) Tryd.underlying22 rfl (inum_c8 _) hO19 ?_
  try simp only [p0, p1, p2, p3]
  refine fl_load 3 #[true, true, true, true, false, false, false, false, false, false, false] (by kernel_rfl) rfl (some 70) (by kernel_rfl) (by kernel_rfl) (by kernel_rfl) (by kernel_rfl) (by kernel_rfl) (c8 121665) (by kernel_rfl) (by kernel_rfl) (by kernel_rfl) 22 (.global 0) (by kernel_rfl) 0 (by kernel_rfl) _ _ (fun _ h => hG.below h.bl hG.lt) Tryd.underlying22 rfl (inum_c8 _) hO19 ?_
  try simp only [p0, p1, p2, p3]
  refine fl_load 4 #[true, true, true, true, true, false, false, false, false, false, false] (by kernel_rfl) rfl (some 71) (by kernel_rfl) (by kernel_rfl) (by kernel_rfl) (by kernel_rfl) (by kernel_rfl) (c8 (((((a + b) % p25) * ((a + b) % p25) % p25) + 4 * p25 - (((a + 4 * p25 - b) % p25) * ((a + 4 * p25 - b) % p25) % p25)) % p25)) (by kernel_rfl) (by kernel_rfl) (by kernel_rfl) 22 (.tmp 11) (by kernel_rfl) w14.heap.size (by kernel_rfl) 22 _ (fun _ h => h.get (.head _)) Tryd.underlying22 rfl (inum_c8 _) hO19 ?_
  try simp only [p0, p1, p2, p3]
  refine fl_call 5 #[true, true, true, true, true, true, false, false, false, false, false] (by kernel_rfl) rfl (some 72) (by kernel_rfl) rfl (by kernel_rfl) (.agg (c8 (121665 * (((((a + b) % p25) * ((a + b) % p25) % p25) + 4 * p25 - (((a + 4 * p25 - b) % p25) * ((a + 4 * p25 - b) % p25) % p25)) % p25) % p25))) (by kernel_rfl) (mul_any 121665 (((((a + b) % p25) * ((a + b) % p25) % p25) + 4 * p25 - (((a + 4 * p25 - b) % p25) * ((a + 4 * p25 - b) % p25) % p25)) % p25) (by unfold N256; omega) (N256.mod _) _) hO19 (fun _ h => h) fun w20 hO20 => ?_
  try clear hO19
  try simp only [p0, p1, p2, p3]
  refine fl_call 6 #[true, true, true, true, true, true, true, false, false, false, false] (by kernel_rfl) rfl (some 73) (by kernel_rfl) rfl (by kernel_rfl) (.agg (c8 (((((a + b) % p25) * ((a + b) % p25) % p25) + (121665 * (((((a + b) % p25) * ((a + b) % p25) % p25) + 4 * p25 - (((a + 4 * p25 - b) % p25) * ((a + 4 * p25 - b) % p25) % p25)) % p25) % p25)) % p25))) (by kernel_rfl) (add_any (((a + b) % p25) * ((a + b) % p25) % p25) (121665 * (((((a + b) % p25) * ((a + b) % p25) % p25) + 4 * p25 - (((a + 4 * p25 - b) % p25) * ((a + 4 * p25 - b) % p25) % p25)) % p25) % p25) (N256.mod _) (N256.mod _) _) hO20 (fun _ h => h) fun w21 hO21 => ?_
  try clear hO20
  try simp only [p0, p1, p2, p3]
  refine fl_call 7 #[true, true, true, true, true, true, true, true, false, false, false] (by kernel_rfl) rfl (some 74) (by kernel_rfl) rfl (by kernel_rfl) (.agg (c8 ((((((a + b) % p25) * ((a + b) % p25) % p25) + 4 * p25 - (((a + 4 * p25 - b) % p25) * ((a + 4 * p25 - b) % p25) % p25)) % p25) * (((((a + b) % p25) * ((a + b) % p25) % p25) + (121665 * (((((a + b) % p25) * ((a + b) % p25) % p25) + 4 * p25 - (((a + 4 * p25 - b) % p25) * ((a + 4 * p25 - b) % p25) % p25)) % p25) % p25)) % p25) % p25))) (by kernel_rfl) (mul_any (((((a + b) % p25) * ((a + b) % p25) % p25) + 4 * p25 - (((a + 4 * p25 - b) % p25) * ((a + 4 * p25 - b) % p25) % p25)) % p25) (((((a + b) % p25) * ((a + b) % p25) % p25) + (121665 * (((((a + b) % p25) * ((a + b) % p25) % p25) + 4 * p25 - (((a + 4 * p25 - b) % p25) * ((a + 4 * p25 - b) % p25) % p25)) % p25) % p25)) % p25) (N256.mod _) (N256.mod _) _) hO21 (fun _ h => h) fun w22 hO22 => ?_
  try clear hO21
  try simp only [p0, p1, p2, p3]
  refine fl_pure 8 #[true, true, true, true, true, true, true, true, true, false, false] (by kernel_rfl) rfl (some 75) (by kernel_rfl) (by kernel_rfl) (by kernel_rfl) (by kernel_rfl) (by kernel_rfl) (.pointer (some ⟨g, 0, none⟩)) (by kernel_rfl) (fun _ => by kernel_rfl) (fun _ => hO22) ?_
  try simp only [p0, p1, p2, p3]
  refine fl_pure 9 #[true, true, true, true, true, true, true, true, true, true, false] (by kernel_rfl) rfl (some 76) (by kernel_rfl) (by kernel_rfl) (by kernel_rfl) (by kernel_rfl) (by kernel_rfl) (.pointer (some ⟨g, 32, none⟩)) (by kernel_rfl) (fun _ => by kernel_rfl) (fun _ => hO22) ?_
  try simp only [p0, p1, p2, p3]
  refine fl_put (L1 := [(w14.heap.size, 22, (c8 (((((a + b) % p25) * ((a + b) % p25) % p25) + 4 * p25 - (((a + 4 * p25 - b) % p25) * ((a + 4 * p25 - b) % p25) % p25)) % p25))), (gw11_0, 22, (c8 (((a + b) % p25) * ((a + b) % p25) % p25))), (gw11_1, 22, (c8 (((a + 4 * p25 - b) % p25) * ((a + 4 * p25 - b) % p25) % p25))), (gw7_0, 22, (c8 (((c + d) % p25) * ((a + 4 * p25 - b) % p25) % p25))), (gw7_1, 22, (c8 (((c + 4 * p25 - d) % p25) * ((a + b) % p25) % p25))), (gw3_0, 22, (c8 ((a + b) % p25))), (gw3_1, 22, (c8 ((a + 4 * p25 - b) % p25))), (w.heap.size, 22, (c8 x))]) (L2 := (L)) (l := [((((a + b) % p25) * ((a + b) % p25) % p25) * (((a + 4 * p25 - b) % p25) * ((a + 4 * p25 - b) % p25) % p25) % p25), b, c, d]) 10 #[true, true, true, true, true, true, true, true, true, true, true] (by kernel_rfl) rfl none (by kernel_rfl) rfl (by kernel_rfl) 1 ((((((a + b) % p25) * ((a + b) % p25) % p25) + 4 * p25 - (((a + 4 * p25 - b) % p25) * ((a + 4 * p25 - b) % p25) % p25)) % p25) * (((((a + b) % p25) * ((a + b) % p25) % p25) + (121665 * (((((a + b) % p25) * ((a + b) % p25) % p25) + 4 * p25 - (((a + 4 * p25 - b) % p25) * ((a + 4 * p25 - b) % p25) % p25)) % p25) % p25)) % p25) % p25) (by kernel_rfl) 22 (.tmp 76) (.tmp 74) rfl rfl rfl hO22 (of_decide_eq_true (by kernel_rfl)) (inum_c8 _) fun w23 hO23 => ?_
  try clear hO22
  simp only [List.nil_append, List.cons_append, List.set_cons_zero, List.set_cons_succ] at hO23
  try simp only [p0, p1, p2, p3]
  refine fl_done (by kernel_rfl) ?_
  show Code.wp _ _ _ _ _
  refine wp_seq ?_
  refine wl_region ?_
  refine wl_pure (.pointer (some ⟨g, 0, none⟩)) rfl (by kernel_rfl) ?_
  try simp only [p0, p1, p2, p3]
  refine wl_pure (.func (.func 53) #[] #[]) rfl (by kernel_rfl) ?_
  try simp only [p0, p1, p2, p3]
  refine wl_load (c8 (((c + d) % p25) * ((a + 4 * p25 - b) % p25) % p25)) rfl 22 (.tmp 7) rfl gw7_0 rfl 22 _ (hO23.get (.tail _ (.tail _ (.tail _ (.head _))))) Tryd.underlying22 rfl (inum_c8 _) ?_
  try simp only [p0, p1, p2, p3]
  refine wl_load (c8 (((c + 4 * p25 - d) % p25) * ((a + b) % p25) % p25)) rfl 22 (.tmp 8) rfl gw7_1 rfl 22 _ (hO23.get (.tail _ (.tail _ (.tail _ (.tail _ (.head _)))))) Tryd.underlying22 rfl (inum_c8 _) ?_
  try simp only [p0, p1, p2, p3]
  refine wl_call (.agg (c8 (((((c + d) % p25) * ((a + 4 * p25 - b) % p25) % p25) + (((c + 4 * p25 - d) % p25) * ((a + b) % p25) % p25)) % p25))) rfl (by kernel_rfl) (add_any (((c + d) % p25) * ((a + 4 * p25 - b) % p25) % p25) (((c + 4 * p25 - d) % p25) * ((a + b) % p25) % p25) (N256.mod _) (N256.mod _) _) hO23 fun w24 hO24 => ?_
  clear hO23
  try simp only [p0, p1, p2, p3]
  refine wl_call (.agg (c8 ((((((c + d) % p25) * ((a + 4 * p25 - b) % p25) % p25) + (((c + 4 * p25 - d) % p25) * ((a + b) % p25) % p25)) % p25) * (((((c + d) % p25) * ((a + 4 * p25 - b) % p25) % p25) + (((c + 4 * p25 - d) % p25) * ((a + b) % p25) % p25)) % p25) % p25))) rfl (by kernel_rfl) (sq_any (N256.mod _) _) hO24 fun w25 hO25 => ?_
  clear hO24
  try simp only [p0, p1, p2, p3]
  refine wl_pure (.pointer (some ⟨g, 0, none⟩)) rfl (by kernel_rfl) ?_
  try simp only [p0, p1, p2, p3]
  refine wl_pure (.pointer (some ⟨g, 64, none⟩)) rfl (by kernel_rfl) ?_
  try simp only [p0, p1, p2, p3]
  refine wl_put (L1 := [(w14.heap.size, 22, (c8 (((((a + b) % p25) * ((a + b) % p25) % p25) + 4 * p25 - (((a + 4 * p25 - b) % p25) * ((a + 4 * p25 - b) % p25) % p25)) % p25))), (gw11_0, 22, (c8 (((a + b) % p25) * ((a + b) % p25) % p25))), (gw11_1, 22, (c8 (((a + 4 * p25 - b) % p25) * ((a + 4 * p25 - b) % p25) % p25))), (gw7_0, 22, (c8 (((c + d) % p25) * ((a + 4 * p25 - b) % p25) % p25))), (gw7_1, 22, (c8 (((c + 4 * p25 - d) % p25) * ((a + b) % p25) % p25))), (gw3_0, 22, (c8 ((a + b) % p25))), (gw3_1, 22, (c8 ((a + 4 * p25 - b) % p25))), (w.heap.size, 22, (c8 x))]) (L2 := (L)) (l := [((((a + b) % p25) * ((a + b) % p25) % p25) * (((a + 4 * p25 - b) % p25) * ((a + 4 * p25 - b) % p25) % p25) % p25), ((((((a + b) % p25) * ((a + b) % p25) % p25) + 4 * p25 - (((a + 4 * p25 - b) % p25) * ((a + 4 * p25 - b) % p25) % p25)) % p25) * (((((a + b) % p25) * ((a + b) % p25) % p25) + (121665 * (((((a + b) % p25) * ((a + b) % p25) % p25) + 4 * p25 - (((a + 4 * p25 - b) % p25) * ((a + 4 * p25 - b) % p25) % p25)) % p25) % p25)) % p25) % p25), c, d]) 2 ((((((c + d) % p25) * ((a + 4 * p25 - b) % p25) % p25) + (((c + 4 * p25 - d) % p25) * ((a + b) % p25) % p25)) % p25) * (((((c + d) % p25) * ((a + 4 * p25 - b) % p25) % p25) + (((c + 4 * p25 - d) % p25) * ((a + b) % p25) % p25)) % p25) % p25) rfl 22 (.tmp 84) (.tmp 82) rfl rfl rfl hO25 (of_decide_eq_true (by kernel_rfl)) (inum_c8 _) fun w26 hO26 => ?_
  clear hO25
  simp only [List.nil_append, List.cons_append, List.set_cons_zero, List.set_cons_succ] at hO26
  try simp only [p0, p1, p2, p3]
  refine wl_nil ?_
  show Code.wp _ _ _ _ _
  refine fl_start [10] #[false, false, false, false, false, false, false, false, false, false, false] (by kernel_rfl) (by kernel_rfl) hO26 fun w27 hO27 => ?_
  clear hO26
  refine fl_pure 0 #[true, false, false, false, false, false, false, false, false, false, false] (by kernel_rfl) rfl (some 85) (by kernel_rfl) (by kernel_rfl) (by kernel_rfl) (by kernel_rfl) (by kernel_rfl) (.pointer (some ⟨g, 0, none⟩)) (by kernel_rfl) (fun _ => by kernel_rfl) (fun _ => hO27) ?_
  try simp only [p0, p1, p2, p3]
  refine fl_load 1 #[true, true, false, false, false, false, false, false, false, false, false] (by kernel_rfl) rfl (some 86) (by kernel_rfl) (by kernel_rfl) (by kernel_rfl) (by kernel_rfl) (by kernel_rfl) (c8 x) (by kernel_rfl) (by kernel_rfl) (by kernel_rfl) 22 (.tmp 3) (by kernel_rfl) w.heap.size (by kernel_rfl) 22 _ (fun _ h => h.get (.tail _ (.tail _ (.tail _ (.tail _ (.tail _ (.tail _ (.tail _ (.head _))))))))) Tryd.underlying22 rfl (inum_c8 _) hO27 ?_
  try simp only [p0, p1, p2, p3]
  refine fl_pure 2 #[true, true, true, false, false, false, false, false, false, false, false] (by kernel_rfl) rfl (some 87) (by kernel_rfl) (by kernel_rfl) (by kernel_rfl) (by kernel_rfl) (by kernel_rfl) (.func (.func 53) #[] #[]) (by kernel_rfl) (fun _ => by kernel_rfl) (fun _ => hO27) ?_
  try simp only [p0, p1, p2, p3]
  refine fl_load 3 #[true, true, true, true, false, false, false, false, false, false, false] (by kernel_rfl) rfl (some 88) (by kernel_rfl) (by kernel_rfl) (by kernel_rfl) (by kernel_rfl) (by kernel_rfl) (c8 (((c + d) % p25) * ((a + 4 * p25 - b) % p25) % p25)) (by kernel_rfl) (by kernel_rfl) (by kernel_rfl) 22 (.tmp 7) (by kernel_rfl) gw7_0 (by kernel_rfl) 22 _ (fun _ h => h.get (.tail _ (.tail _ (.tail _ (.head _))))) Tryd.underlying22 rfl (inum_c8 _) hO27 ?_
  try simp only [p0, p1, p2, p3]
  refine fl_load 4 #[true, true, true, true, true, false, false, false, false, false, false] (by kernel_rfl) rfl (some 89) (by kernel_rfl) (by kernel_rfl) (by kernel_rfl) (by kernel_rfl) (by kernel_rfl) (c8 (((c + 4 * p25 - d) % p25) * ((a + b) % p25) % p25)) (by kernel_rfl) (by kernel_rfl) (by kernel_rfl) 22 (.tmp 8) (by kernel_rfl) gw7_1 (by kernel_rfl) 22 _ (fun _ h => h.get (.tail _ (.tail _ (.tail _ (.tail _ (.head _)))))) Tryd.underlying22 rfl (inum_c8 _) hO27 ?_
  try simp only [p0, p1, p2, p3]
  refine fl_call 5 #[true, true, true, true, true, true, false, false, false, false, false] (by kernel_rfl) rfl (some 90) (by kernel_rfl) rfl (by kernel_rfl) (.agg (c8 (((((c + d) % p25) * ((a + 4 * p25 - b) % p25) % p25) + 4 * p25 - (((c + 4 * p25 - d) % p25) * ((a + b) % p25) % p25)) % p25))) (by kernel_rfl) (sub_any (((c + d) % p25) * ((a + 4 * p25 - b) % p25) % p25) (((c + 4 * p25 - d) % p25) * ((a + b) % p25) % p25) (N256.mod _) (N256.mod _) _) hO27 (fun _ h => h) fun w28 hO28 => ?_
  try clear hO27
  try simp only [p0, p1, p2, p3]
  refine fl_call 6 #[true, true, true, true, true, true, true, false, false, false, false] (by kernel_rfl) rfl (some 91) (by kernel_rfl) rfl (by kernel_rfl) (.agg (c8 ((((((c + d) % p25) * ((a + 4 * p25 - b) % p25) % p25) + 4 * p25 - (((c + 4 * p25 - d) % p25) * ((a + b) % p25) % p25)) % p25) * (((((c + d) % p25) * ((a + 4 * p25 - b) % p25) % p25) + 4 * p25 - (((c + 4 * p25 - d) % p25) * ((a + b) % p25) % p25)) % p25) % p25))) (by kernel_rfl) (sq_any (N256.mod _) _) hO28 (fun _ h => h) fun w29 hO29 => ?_
  try clear hO28
  try simp only [p0, p1, p2, p3]
  refine fl_call 7 #[true, true, true, true, true, true, true, true, false, false, false] (by kernel_rfl) rfl (some 92) (by kernel_rfl) rfl (by kernel_rfl) (.agg (c8 (x * ((((((c + d) % p25) * ((a + 4 * p25 - b) % p25) % p25) + 4 * p25 - (((c + 4 * p25 - d) % p25) * ((a + b) % p25) % p25)) % p25) * (((((c + d) % p25) * ((a + 4 * p25 - b) % p25) % p25) + 4 * p25 - (((c + 4 * p25 - d) % p25) * ((a + b) % p25) % p25)) % p25) % p25) % p25))) (by kernel_rfl) (mul_any x ((((((c + d) % p25) * ((a + 4 * p25 - b) % p25) % p25) + 4 * p25 - (((c + 4 * p25 - d) % p25) * ((a + b) % p25) % p25)) % p25) * (((((c + d) % p25) * ((a + 4 * p25 - b) % p25) % p25) + 4 * p25 - (((c + 4 * p25 - d) % p25) * ((a + b) % p25) % p25)) % p25) % p25) hx (N256.mod _) _) hO29 (fun _ h => h) fun w30 hO30 => ?_
  try clear hO29
  try simp only [p0, p1, p2, p3]
  refine fl_pure 8 #[true, true, true, true, true, true, true, true, true, false, false] (by kernel_rfl) rfl (some 93) (by kernel_rfl) (by kernel_rfl) (by kernel_rfl) (by kernel_rfl) (by kernel_rfl) (.pointer (some ⟨g, 0, none⟩)) (by kernel_rfl) (fun _ => by kernel_rfl) (fun _ => hO30) ?_
  try simp only [p0, p1, p2, p3]
  refine fl_pure 9 #[true, true, true, true, true, true, true, true, true, true, false] (by kernel_rfl) rfl (some 94) (by kernel_rfl) (by kernel_rfl) (by kernel_rfl) (by kernel_rfl) (by kernel_rfl) (.pointer (some ⟨g, 96, none⟩)) (by kernel_rfl) (fun _ => by kernel_rfl) (fun _ => hO30) ?_
  try simp only [p0, p1, p2, p3]
  refine fl_put (L1 := [(w14.heap.size, 22, (c8 (((((a + b) % p25) * ((a + b) % p25) % p25) + 4 * p25 - (((a + 4 * p25 - b) % p25) * ((a + 4 * p25 - b) % p25) % p25)) % p25))), (gw11_0, 22, (c8 (((a + b) % p25) * ((a + b) % p25) % p25))), (gw11_1, 22, (c8 (((a + 4 * p25 - b) % p25) * ((a + 4 * p25 - b) % p25) % p25))), (gw7_0, 22, (c8 (((c + d) % p25) * ((a + 4 * p25 - b) % p25) % p25))), (gw7_1, 22, (c8 (((c + 4 * p25 - d) % p25) * ((a + b) % p25) % p25))), (gw3_0, 22, (c8 ((a + b) % p25))), (gw3_1, 22, (c8 ((a + 4 * p25 - b) % p25))), (w.heap.size, 22, (c8 x))]) (L2 := (L)) (l := [((((a + b) % p25) * ((a + b) % p25) % p25) * (((a + 4 * p25 - b) % p25) * ((a + 4 * p25 - b) % p25) % p25) % p25), ((((((a + b) % p25) * ((a + b) % p25) % p25) + 4 * p25 - (((a + 4 * p25 - b) % p25) * ((a + 4 * p25 - b) % p25) % p25)) % p25) * (((((a + b) % p25) * ((a + b) % p25) % p25) + (121665 * (((((a + b) % p25) * ((a + b) % p25) % p25) + 4 * p25 - (((a + 4 * p25 - b) % p25) * ((a + 4 * p25 - b) % p25) % p25)) % p25) % p25)) % p25) % p25), ((((((c + d) % p25) * ((a + 4 * p25 - b) % p25) % p25) + (((c + 4 * p25 - d) % p25) * ((a + b) % p25) % p25)) % p25) * (((((c + d) % p25) * ((a + 4 * p25 - b) % p25) % p25) + (((c + 4 * p25 - d) % p25) * ((a + b) % p25) % p25)) % p25) % p25), d]) 10 #[true, true, true, true, true, true, true, true, true, true, true] (by kernel_rfl) rfl none (by kernel_rfl) rfl (by kernel_rfl) 3 (x * ((((((c + d) % p25) * ((a + 4 * p25 - b) % p25) % p25) + 4 * p25 - (((c + 4 * p25 - d) % p25) * ((a + b) % p25) % p25)) % p25) * (((((c + d) % p25) * ((a + 4 * p25 - b) % p25) % p25) + 4 * p25 - (((c + 4 * p25 - d) % p25) * ((a + b) % p25) % p25)) % p25) % p25) % p25) (by kernel_rfl) 22 (.tmp 94) (.tmp 92) rfl rfl rfl hO30 (of_decide_eq_true (by kernel_rfl)) (inum_c8 _) fun w31 hO31 => ?_
  try clear hO30
  simp only [List.nil_append, List.cons_append, List.set_cons_zero, List.set_cons_succ] at hO31
  try simp only [p0, p1, p2, p3]
  refine fl_done (by kernel_rfl) ?_
  refine ⟨rfl, .tuple #[], by kernel_rfl, rfl, ?_⟩
  simp only [Cv.stepQ, Cv.nmul, Cv.nadd, Cv.nsub]
  exact hO31.tail.tail.tail.tail.tail.tail.tail.tail

set_option maxRecDepth 100000 in
set_option maxHeartbeats 4000000 in
theorem pswap_t {w0 w : World} {L : List (Nat × TypeId × Array Value)} {g a b c d : Nat} (hO : Own w0 ((g, 66, (slab [a, b, c, d]).toArray) :: L) w) :
    Turns Tryd.prog 36 #[.pointer (some ⟨g, 0, none⟩), .bool true] w0 w ((g, 66, (slab [c, d, a, b]).toArray) :: L) (.tuple #[]) := by
  refine calls_of_wp Tryd.func36 rfl ?_
  simp only [Tryd.ntmps36, List.size_toArray, List.length_cons, List.length_nil, Nat.reduceAdd, Nat.reduceSub, Array.replicate_succ, Array.replicate_zero, List.push_toArray, List.append_toArray, List.nil_append, List.cons_append]
  refine wp_seq ?_
  refine fl_start [17, 20] #[false, false, false, false, false, false, false, false, false, false, false, false, false, false, false, false, false, false, false, false, false] (by kernel_rfl) (by kernel_rfl) hO fun w1 hO1 => ?_
  clear hO
  refine fl_pure 0 #[true, false, false, false, false, false, false, false, false, false, false, false, false, false, false, false, false, false, false, false, false] (by kernel_rfl) rfl (some 5) (by kernel_rfl) (by kernel_rfl) (by kernel_rfl) (by kernel_rfl) (by kernel_rfl) (.pointer (some ⟨g, 0, none⟩)) (by kernel_rfl) (fun _ => by kernel_rfl) (fun _ => hO1) ?_
  try simp only [p0, p1, p2, p3]
  refine fl_pure 1 #[true, true, false, false, false, false, false, false, false, false, false, false, false, false, false, false, false, false, false, false, false] (by kernel_rfl) rfl (some 6) (by kernel_rfl) (by kernel_rfl) (by kernel_rfl) (by kernel_rfl) (by kernel_rfl) (.pointer (some ⟨g, 0, none⟩)) (by kernel_rfl) (fun _ => by kernel_rfl) (fun _ => hO1) ?_
  try simp only [p0, p1, p2, p3]
  refine fl_pure 2 #[true, true, true, false, false, false, false, false, false, false, false, false, false, false, false, false, false, false, false, false, false] (by kernel_rfl) rfl (some 7) (by kernel_rfl) (by kernel_rfl) (by kernel_rfl) (by kernel_rfl) (by kernel_rfl) (.bool true) (by kernel_rfl) (fun _ => by kernel_rfl) (fun _ => hO1) ?_
  try simp only [p0, p1, p2, p3]
  refine fl_pure 3 #[true, true, true, true, false, false, false, false, false, false, false, false, false, false, false, false, false, false, false, false, false] (by kernel_rfl) rfl (some 8) (by kernel_rfl) (by kernel_rfl) (by kernel_rfl) (by kernel_rfl) (by kernel_rfl) (.pointer (some ⟨g, 0, none⟩)) (by kernel_rfl) (fun _ => by kernel_rfl) (fun _ => hO1) ?_
  try simp only [p0, p1, p2, p3]
  refine fl_pure 4 #[true, true, true, true, true, false, false, false, false, false, false, false, false, false, false, false, false, false, false, false, false] (by kernel_rfl) rfl (some 9) (by kernel_rfl) (by kernel_rfl) (by kernel_rfl) (by kernel_rfl) (by kernel_rfl) (.pointer (some ⟨g, 0, none⟩)) (by kernel_rfl) (fun _ => by kernel_rfl) (fun _ => hO1) ?_
  try simp only [p0, p1, p2, p3]
  refine fl_pure 5 #[true, true, true, true, true, true, false, false, false, false, false, false, false, false, false, false, false, false, false, false, false] (by kernel_rfl) rfl (some 10) (by kernel_rfl) (by kernel_rfl) (by kernel_rfl) (by kernel_rfl) (by kernel_rfl) (.pointer (some ⟨g, 0, none⟩)) (by kernel_rfl) (fun _ => by kernel_rfl) (fun _ => hO1) ?_
  try simp only [p0, p1, p2, p3]
  refine fl_nth (l := [a, b, c, d]) 6 #[true, true, true, true, true, true, true, false, false, false, false, false, false, false, false, false, false, false, false, false, false] (by kernel_rfl) rfl (some 11) (by kernel_rfl) (by kernel_rfl) (by kernel_rfl) (by kernel_rfl) (by kernel_rfl) 0 a (by kernel_rfl) (by kernel_rfl) (by kernel_rfl) 22 (.tmp 10) (by kernel_rfl) (by kernel_rfl) _ (fun _ h => h.get (.head _)) rfl Tryd.underlying22 rfl (inum_len _) hO1 ?_
  try simp only [p0, p1, p2, p3]
  refine fl_pure 7 #[true, true, true, true, true, true, true, true, false, false, false, false, false, false, false, false, false, false, false, false, false] (by kernel_rfl) rfl (some 12) (by kernel_rfl) (by kernel_rfl) (by kernel_rfl) (by kernel_rfl) (by kernel_rfl) (.pointer (some ⟨g, 0, none⟩)) (by kernel_rfl) (fun _ => by kernel_rfl) (fun _ => hO1) ?_
  try simp only [p0, p1, p2, p3]
  refine fl_pure 8 #[true, true, true, true, true, true, true, true, true, false, false, false, false, false, false, false, false, false, false, false, false] (by kernel_rfl) rfl (some 13) (by kernel_rfl) (by kernel_rfl) (by kernel_rfl) (by kernel_rfl) (by kernel_rfl) (.pointer (some ⟨g, 0, none⟩)) (by kernel_rfl) (fun _ => by kernel_rfl) (fun _ => hO1) ?_
  try simp only [p0, p1, p2, p3]
  refine fl_pure 9 #[true, true, true, true, true, true, true, true, true, true, false, false, false, false, false, false, false, false, false, false, false] (by kernel_rfl) rfl (some 14) (by kernel_rfl) (by kernel_rfl) (by kernel_rfl) (by kernel_rfl) (by kernel_rfl) (.pointer (some ⟨g, 64, none⟩)) (by kernel_rfl) (fun _ => by kernel_rfl) (fun _ => hO1) ?_
  try simp only [p0, p1, p2, p3]
  refine fl_nth (l := [a, b, c, d]) 10 #[true, true, true, true, true, true, true, true, true, true, true, false, false, false, false, false, false, false, false, false, false] (by kernel_rfl) rfl (some 15) (by kernel_rfl) (by kernel_rfl) (by kernel_rfl) (by kernel_rfl) (by kernel_rfl) 2 c (by kernel_rfl) (by kernel_rfl) (by kernel_rfl) 22 (.tmp 14) (by kernel_rfl) (by kernel_rfl) _ (fun _ h => h.get (.head _)) rfl Tryd.underlying22 rfl (inum_len _) hO1 ?_
  try simp only [p0, p1, p2, p3]
  refine fl_call 11 #[true, true, true, true, true, true, true, true, true, true, true, true, false, false, false, false, false, false, false, false, false] (by kernel_rfl) rfl (some 16) (by kernel_rfl) rfl (by kernel_rfl) (.tuple #[.agg (c8 c), .agg (c8 a)]) (by kernel_rfl) (swap_t a c _) hO1 (fun _ h => h) fun w2 hO2 => ?_
  try clear hO1
  try simp only [p0, p1, p2, p3]
  refine fl_pure 12 #[true, true, true, true, true, true, true, true, true, true, true, true, true, false, false, false, false, false, false, false, false] (by kernel_rfl) rfl (some 4) (by kernel_rfl) (by kernel_rfl) (by kernel_rfl) (by kernel_rfl) (by kernel_rfl) (.tuple #[.agg (c8 c), .agg (c8 a)]) (by kernel_rfl) (fun _ => by kernel_rfl) (fun _ => hO2) ?_
  try simp only [p0, p1, p2, p3]
  refine fl_pure 13 #[true, true, true, true, true, true, true, true, true, true, true, true, true, true, false, false, false, false, false, false, false] (by kernel_rfl) rfl (some 17) (by kernel_rfl) (by kernel_rfl) (by kernel_rfl) (by kernel_rfl) (by kernel_rfl) (.agg (c8 c)) (by kernel_rfl) (fun _ => by kernel_rfl) (fun _ => hO2) ?_
  try simp only [p0, p1, p2, p3]
  refine fl_pure 14 #[true, true, true, true, true, true, true, true, true, true, true, true, true, true, true, false, false, false, false, false, false] (by kernel_rfl) rfl (some 18) (by kernel_rfl) (by kernel_rfl) (by kernel_rfl) (by kernel_rfl) (by kernel_rfl) (.agg (c8 a)) (by kernel_rfl) (fun _ => by kernel_rfl) (fun _ => hO2) ?_
  try simp only [p0, p1, p2, p3]
  refine fl_pure 15 #[true, true, true, true, true, true, true, true, true, true, true, true, true, true, true, true, false, false, false, false, false] (by kernel_rfl) rfl (some 19) (by kernel_rfl) (by kernel_rfl) (by kernel_rfl) (by kernel_rfl) (by kernel_rfl) (.pointer (some ⟨g, 0, none⟩)) (by kernel_rfl) (fun _ => by kernel_rfl) (fun _ => hO2) ?_
  try simp only [p0, p1, p2, p3]
  refine fl_pure 16 #[true, true, true, true, true, true, true, true, true, true, true, true, true, true, true, true, true, false, false, false, false] (by kernel_rfl) rfl (some 20) (by kernel_rfl) (by kernel_rfl) (by kernel_rfl) (by kernel_rfl) (by kernel_rfl) (.pointer (some ⟨g, 0, none⟩)) (by kernel_rfl) (fun _ => by kernel_rfl) (fun _ => hO2) ?_
  try simp only [p0, p1, p2, p3]
  refine fl_put (L1 := []) (L2 := (L)) (l := [a, b, c, d]) 17 #[true, true, true, true, true, true, true, true, true, true, true, true, true, true, true, true, true, true, false, false, false] (by kernel_rfl) rfl none (by kernel_rfl) rfl (by kernel_rfl) 0 c (by kernel_rfl) 22 (.tmp 20) (.tmp 17) rfl rfl rfl hO2 (of_decide_eq_true (by kernel_rfl)) (inum_c8 _) fun w3 hO3 => ?_
  try clear hO2
  simp only [List.nil_append, List.cons_append, List.set_cons_zero, List.set_cons_succ] at hO3
  try simp only [p0, p1, p2, p3]
  refine fl_pure 18 #[true, true, true, true, true, true, true, true, true, true, true, true, true, true, true, true, true, true, true, false, false] (by kernel_rfl) rfl (some 21) (by kernel_rfl) (by kernel_rfl) (by kernel_rfl) (by kernel_rfl) (by kernel_rfl) (.pointer (some ⟨g, 0, none⟩)) (by kernel_rfl) (fun _ => by kernel_rfl) (clean_no (by kernel_rfl)) ?_
  try simp only [p0, p1, p2, p3]
  refine fl_pure 19 #[true, true, true, true, true, true, true, true, true, true, true, true, true, true, true, true, true, true, true, true, false] (by kernel_rfl) rfl (some 22) (by kernel_rfl) (by kernel_rfl) (by kernel_rfl) (by kernel_rfl) (by kernel_rfl) (.pointer (some ⟨g, 64, none⟩)) (by kernel_rfl) (fun _ => by kernel_rfl) (clean_no (by kernel_rfl)) ?_
  try simp only [p0, p1, p2, p3]
  refine fl_put (L1 := []) (L2 := (L)) (l := [c, b, c, d]) 20 #[true, true, true, true, true, true, true, true, true, true, true, true, true, true, true, true, true, true, true, true, true] (by kernel_rfl) rfl none (by kernel_rfl) rfl (by kernel_rfl) 2 a (by kernel_rfl) 22 (.tmp 22) (.tmp 18) rfl rfl rfl hO3 (of_decide_eq_true (by kernel_rfl)) (inum_c8 _) fun w4 hO4 => ?_
  try clear hO3
  simp only [List.nil_append, List.cons_append, List.set_cons_zero, List.set_cons_succ] at hO4
  try simp only [p0, p1, p2, p3]
  refine fl_done (by kernel_rfl) ?_
  show Code.wp _ _ _ _ _
  refine fl_start [17, 20] #[false, false, false, false, false, false, false, false, false, false, false, false, false, false, false, false, false, false, false, false, false] (by kernel_rfl) (by kernel_rfl) hO4 fun w5 hO5 => ?_
  clear hO4
  refine fl_pure 0 #[true, false, false, false, false, false, false, false, false, false, false, false, false, false, false, false, false, false, false, false, false] (by kernel_rfl) rfl (some 24) (by kernel_rfl) (by kernel_rfl) (by kernel_rfl) (by kernel_rfl) (by kernel_rfl) (.pointer (some ⟨g, 0, none⟩)) (by kernel_rfl) (fun _ => by kernel_rfl) (fun _ => hO5) ?_
  try simp only [p0, p1, p2, p3]
  refine fl_pure 1 #[true, true, false, false, false, false, false, false, false, false, false, false, false, false, false, false, false, false, false, false, false] (by kernel_rfl) rfl (some 25) (by kernel_rfl) (by kernel_rfl) (by kernel_rfl) (by kernel_rfl) (by kernel_rfl) (.pointer (some ⟨g, 0, none⟩)) (by kernel_rfl) (fun _ => by kernel_rfl) (fun _ => hO5) ?_
  try simp only [p0, p1, p2, p3]
  refine fl_pure 2 #[true, true, true, false, false, false, false, false, false, false, false, false, false, false, false, false, false, false, false, false, false] (by kernel_rfl) rfl (some 26) (by kernel_rfl) (by kernel_rfl) (by kernel_rfl) (by kernel_rfl) (by kernel_rfl) (.bool true) (by kernel_rfl) (fun _ => by kernel_rfl) (fun _ => hO5) ?_
  try simp only [p0, p1, p2, p3]
  refine fl_pure 3 #[true, true, true, true, false, false, false, false, false, false, false, false, false, false, false, false, false, false, false, false, false] (by kernel_rfl) rfl (some 27) (by kernel_rfl) (by kernel_rfl) (by kernel_rfl) (by kernel_rfl) (by kernel_rfl) (.pointer (some ⟨g, 0, none⟩)) (by kernel_rfl) (fun _ => by kernel_rfl) (fun _ => hO5) ?_
  try simp only [p0, p1, p2, p3]
  refine fl_pure 4 #[true, true, true, true, true, false, false, false, false, false, false, false, false, false, false, false, false, false, false, false, false] (by kernel_rfl) rfl (some 28) (by kernel_rfl) (by kernel_rfl) (by kernel_rfl) (by kernel_rfl) (by kernel_rfl) (.pointer (some ⟨g, 0, none⟩)) (by kernel_rfl) (fun _ => by kernel_rfl) (fun _ => hO5) ?_
  try simp only [p0, p1, p2, p3]
  refine fl_pure 5 #[true, true, true, true, true, true, false, false, false, false, false, false, false, false, false, false, false, false, false, false, false] (by kernel_rfl) rfl (some 29) (by kernel_rfl) (by kernel_rfl) (by kernel_rfl) (by kernel_rfl) (by kernel_rfl) (.pointer (some ⟨g, 32, none⟩)) (by kernel_rfl) (fun _ => by kernel_rfl) (fun _ => hO5) ?_
  try simp only [p0, p1, p2, p3]
  refine fl_nth (l := [c, b, a, d]) 6 #[true, true, true, true, true, true, true, false, false, false, false, false, false, false, false, false, false, false, false, false, false] (by kernel_rfl) rfl (some 30) (by kernel_rfl) (by kernel_rfl) (by kernel_rfl) (by kernel_rfl) (by kernel_rfl) 1 b (by kernel_rfl) (by kernel_rfl) (by kernel_rfl) 22 (.tmp 29) (by kernel_rfl) (by kernel_rfl) _ (fun _ h => h.get (.head _)) rfl Tryd.underlying22 rfl (inum_len _) hO5 ?_
  try simp only [p0, p1, p2, p3]
  refine fl_pure 7 #[true, true, true, true, true, true, true, true, false, false, false, false, false, false, false, false, false, false, false, false, false] (by kernel_rfl) rfl (some 31) (by kernel_rfl) (by kernel_rfl) (by kernel_rfl) (by kernel_rfl) (by kernel_rfl) (.pointer (some ⟨g, 0, none⟩)) (by kernel_rfl) (fun _ => by kernel_rfl) (fun _ => hO5) ?_
  try simp only [p0, p1, p2, p3]
  refine fl_pure 8 #[true, true, true, true, true, true, true, true, true, false, false, false, false, false, false, false, false, false, false, false, false] (by kernel_rfl) rfl (some 32) (by kernel_rfl) (by kernel_rfl) (by kernel_rfl) (by kernel_rfl) (by kernel_rfl) (.pointer (some ⟨g, 0, none⟩)) (by kernel_rfl) (fun _ => by kernel_rfl) (fun _ => hO5) ?_
  try simp only [p0, p1, p2, p3]
  refine fl_pure 9 #[true, true, true, true, true, true, true, true, true, true, false, false, false, false, false, false, false, false, false, false, false] (by kernel_rfl) rfl (some 33) (by kernel_rfl) (by kernel_rfl) (by kernel_rfl) (by kernel_rfl) (by kernel_rfl) (.pointer (some ⟨g, 96, none⟩)) (by kernel_rfl) (fun _ => by kernel_rfl) (fun _ => hO5) ?_
  try simp only [p0, p1, p2, p3]
  refine fl_nth (l := [c, b, a, d]) 10 #[true, true, true, true, true, true, true, true, true, true, true, false, false, false, false, false, false, false, false, false, false] (by kernel_rfl) rfl (some 34) (by kernel_rfl) (by kernel_rfl) (by kernel_rfl) (by kernel_rfl) (by kernel_rfl) 3 d (by kernel_rfl) (by kernel_rfl) (by kernel_rfl) 22 (.tmp 33) (by kernel_rfl) (by kernel_rfl) _ (fun _ h => h.get (.head _)) rfl Tryd.underlying22 rfl (inum_len _) hO5 ?_
  try simp only [p0, p1, p2, p3]
  refine fl_call 11 #[true, true, true, true, true, true, true, true, true, true, true, true, false, false, false, false, false, false, false, false, false] (by kernel_rfl) rfl (some 35) (by kernel_rfl) rfl (by kernel_rfl) (.tuple #[.agg (c8 d), .agg (c8 b)]) (by kernel_rfl) (swap_t b d _) hO5 (fun _ h => h) fun w6 hO6 => ?_
  try clear hO5
  try simp only [p0, p1, p2, p3]
  refine fl_pure 12 #[true, true, true, true, true, true, true, true, true, true, true, true, true, false, false, false, false, false, false, false, false] (by kernel_rfl) rfl (some 23) (by kernel_rfl) (by kernel_rfl) (by kernel_rfl) (by kernel_rfl) (by kernel_rfl) (.tuple #[.agg (c8 d), .agg (c8 b)]) (by kernel_rfl) (fun _ => by kernel_rfl) (fun _ => hO6) ?_
  try simp only [p0, p1, p2, p3]
  refine fl_pure 13 #[true, true, true, true, true, true, true, true, true, true, true, true, true, true, false, false, false, false, false, false, false] (by kernel_rfl) rfl (some 36) (by kernel_rfl) (by kernel_rfl) (by kernel_rfl) (by kernel_rfl) (by kernel_rfl) (.agg (c8 d)) (by kernel_rfl) (fun _ => by kernel_rfl) (fun _ => hO6) ?_
  try simp only [p0, p1, p2, p3]
  refine fl_pure 14 #[true, true, true, true, true, true, true, true, true, true, true, true, true, true, true, false, false, false, false, false, false] (by kernel_rfl) rfl (some 37) (by kernel_rfl) (by kernel_rfl) (by kernel_rfl) (by kernel_rfl) (by kernel_rfl) (.agg (c8 b)) (by kernel_rfl) (fun _ => by kernel_rfl) (fun _ => hO6) ?_
  try simp only [p0, p1, p2, p3]
  refine fl_pure 15 #[true, true, true, true, true, true, true, true, true, true, true, true, true, true, true, true, false, false, false, false, false] (by kernel_rfl) rfl (some 38) (by kernel_rfl) (by kernel_rfl) (by kernel_rfl) (by kernel_rfl) (by kernel_rfl) (.pointer (some ⟨g, 0, none⟩)) (by kernel_rfl) (fun _ => by kernel_rfl) (fun _ => hO6) ?_
  try simp only [p0, p1, p2, p3]
  refine fl_pure 16 #[true, true, true, true, true, true, true, true, true, true, true, true, true, true, true, true, true, false, false, false, false] (by kernel_rfl) rfl (some 39) (by kernel_rfl) (by kernel_rfl) (by kernel_rfl) (by kernel_rfl) (by kernel_rfl) (.pointer (some ⟨g, 32, none⟩)) (by kernel_rfl) (fun _ => by kernel_rfl) (fun _ => hO6) ?_
  try simp only [p0, p1, p2, p3]
  refine fl_put (L1 := []) (L2 := (L)) (l := [c, b, a, d]) 17 #[true, true, true, true, true, true, true, true, true, true, true, true, true, true, true, true, true, true, false, false, false] (by kernel_rfl) rfl none (by kernel_rfl) rfl (by kernel_rfl) 1 d (by kernel_rfl) 22 (.tmp 39) (.tmp 36) rfl rfl rfl hO6 (of_decide_eq_true (by kernel_rfl)) (inum_c8 _) fun w7 hO7 => ?_
  try clear hO6
  simp only [List.nil_append, List.cons_append, List.set_cons_zero, List.set_cons_succ] at hO7
  try simp only [p0, p1, p2, p3]
  refine fl_pure 18 #[true, true, true, true, true, true, true, true, true, true, true, true, true, true, true, true, true, true, true, false, false] (by kernel_rfl) rfl (some 40) (by kernel_rfl) (by kernel_rfl) (by kernel_rfl) (by kernel_rfl) (by kernel_rfl) (.pointer (some ⟨g, 0, none⟩)) (by kernel_rfl) (fun _ => by kernel_rfl) (clean_no (by kernel_rfl)) ?_
  try simp only [p0, p1, p2, p3]
  refine fl_pure 19 #[true, true, true, true, true, true, true, true, true, true, true, true, true, true, true, true, true, true, true, true, false] (by kernel_rfl) rfl (some 41) (by kernel_rfl) (by kernel_rfl) (by kernel_rfl) (by kernel_rfl) (by kernel_rfl) (.pointer (some ⟨g, 96, none⟩)) (by kernel_rfl) (fun _ => by kernel_rfl) (clean_no (by kernel_rfl)) ?_
  try simp only [p0, p1, p2, p3]
  refine fl_put (L1 := []) (L2 := (L)) (l := [c, d, a, d]) 20 #[true, true, true, true, true, true, true, true, true, true, true, true, true, true, true, true, true, true, true, true, true] (by kernel_rfl) rfl none (by kernel_rfl) rfl (by kernel_rfl) 3 b (by kernel_rfl) 22 (.tmp 41) (.tmp 37) rfl rfl rfl hO7 (of_decide_eq_true (by kernel_rfl)) (inum_c8 _) fun w8 hO8 => ?_
  try clear hO7
  simp only [List.nil_append, List.cons_append, List.set_cons_zero, List.set_cons_succ] at hO8
  try simp only [p0, p1, p2, p3]
  refine fl_done (by kernel_rfl) ?_
  refine ⟨rfl, .tuple #[], by kernel_rfl, rfl, ?_⟩
  exact hO8
set_option maxRecDepth 100000 in
set_option maxHeartbeats 4000000 in
theorem pswap_f {w0 w : World} {L : List (Nat × TypeId × Array Value)} {g a b c d : Nat} (hO : Own w0 ((g, 66, (slab [a, b, c, d]).toArray) :: L) w) :
    Turns Tryd.prog 36 #[.pointer (some ⟨g, 0, none⟩), .bool false] w0 w ((g, 66, (slab [a, b, c, d]).toArray) :: L) (.tuple #[]) := by
  refine calls_of_wp Tryd.func36 rfl ?_
  simp only [Tryd.ntmps36, List.size_toArray, List.length_cons, List.length_nil, Nat.reduceAdd, Nat.reduceSub, Array.replicate_succ, Array.replicate_zero, List.push_toArray, List.append_toArray, List.nil_append, List.cons_append]
  refine wp_seq ?_
  refine fl_start [17, 20] #[false, false, false, false, false, false, false, false, false, false, false, false, false, false, false, false, false, false, false, false, false] (by kernel_rfl) (by kernel_rfl) hO fun w1 hO1 => ?_
  clear hO
  refine fl_pure 0 #[true, false, false, false, false, false, false, false, false, false, false, false, false, false, false, false, false, false, false, false, false] (by kernel_rfl) rfl (some 5) (by kernel_rfl) (by kernel_rfl) (by kernel_rfl) (by kernel_rfl) (by kernel_rfl) (.pointer (some ⟨g, 0, none⟩)) (by kernel_rfl) (fun _ => by kernel_rfl) (fun _ => hO1) ?_
  try simp only [p0, p1, p2, p3]
  refine fl_pure 1 #[true, true, false, false, false, false, false, false, false, false, false, false, false, false, false, false, false, false, false, false, false] (by kernel_rfl) rfl (some 6) (by kernel_rfl) (by kernel_rfl) (by kernel_rfl) (by kernel_rfl) (by kernel_rfl) (.pointer (some ⟨g, 0, none⟩)) (by kernel_rfl) (fun _ => by kernel_rfl) (fun _ => hO1) ?_
  try simp only [p0, p1, p2, p3]
  refine fl_pure 2 #[true, true, true, false, false, false, false, false, false, false, false, false, false, false, false, false, false, false, false, false, false] (by kernel_rfl) rfl (some 7) (by kernel_rfl) (by kernel_rfl) (by kernel_rfl) (by kernel_rfl) (by kernel_rfl) (.bool false) (by kernel_rfl) (fun _ => by kernel_rfl) (fun _ => hO1) ?_
  try simp only [p0, p1, p2, p3]
  refine fl_pure 3 #[true, true, true, true, false, false, false, false, false, false, false, false, false, false, false, false, false, false, false, false, false] (by kernel_rfl) rfl (some 8) (by kernel_rfl) (by kernel_rfl) (by kernel_rfl) (by kernel_rfl) (by kernel_rfl) (.pointer (some ⟨g, 0, none⟩)) (by kernel_rfl) (fun _ => by kernel_rfl) (fun _ => hO1) ?_
  try simp only [p0, p1, p2, p3]
  refine fl_pure 4 #[true, true, true, true, true, false, false, false, false, false, false, false, false, false, false, false, false, false, false, false, false] (by kernel_rfl) rfl (some 9) (by kernel_rfl) (by kernel_rfl) (by kernel_rfl) (by kernel_rfl) (by kernel_rfl) (.pointer (some ⟨g, 0, none⟩)) (by kernel_rfl) (fun _ => by kernel_rfl) (fun _ => hO1) ?_
  try simp only [p0, p1, p2, p3]
  refine fl_pure 5 #[true, true, true, true, true, true, false, false, false, false, false, false, false, false, false, false, false, false, false, false, false] (by kernel_rfl) rfl (some 10) (by kernel_rfl) (by kernel_rfl) (by kernel_rfl) (by kernel_rfl) (by kernel_rfl) (.pointer (some ⟨g, 0, none⟩)) (by kernel_rfl) (fun _ => by kernel_rfl) (fun _ => hO1) ?_
  try simp only [p0, p1, p2, p3]
  refine fl_nth (l := [a, b, c, d]) 6 #[true, true, true, true, true, true, true, false, false, false, false, false, false, false, false, false, false, false, false, false, false] (by kernel_rfl) rfl (some 11) (by kernel_rfl) (by kernel_rfl) (by kernel_rfl) (by kernel_rfl) (by kernel_rfl) 0 a (by kernel_rfl) (by kernel_rfl) (by kernel_rfl) 22 (.tmp 10) (by kernel_rfl) (by kernel_rfl) _ (fun _ h => h.get (.head _)) rfl Tryd.underlying22 rfl (inum_len _) hO1 ?_
  try simp only [p0, p1, p2, p3]
  refine fl_pure 7 #[true, true, true, true, true, true, true, true, false, false, false, false, false, false, false, false, false, false, false, false, false] (by kernel_rfl) rfl (some 12) (by kernel_rfl) (by kernel_rfl) (by kernel_rfl) (by kernel_rfl) (by kernel_rfl) (.pointer (some ⟨g, 0, none⟩)) (by kernel_rfl) (fun _ => by kernel_rfl) (fun _ => hO1) ?_
  try simp only [p0, p1, p2, p3]
  refine fl_pure 8 #[true, true, true, true, true, true, true, true, true, false, false, false, false, false, false, false, false, false, false, false, false] (by kernel_rfl) rfl (some 13) (by kernel_rfl) (by kernel_rfl) (by kernel_rfl) (by kernel_rfl) (by kernel_rfl) (.pointer (some ⟨g, 0, none⟩)) (by kernel_rfl) (fun _ => by kernel_rfl) (fun _ => hO1) ?_
  try simp only [p0, p1, p2, p3]
  refine fl_pure 9 #[true, true, true, true, true, true, true, true, true, true, false, false, false, false, false, false, false, false, false, false, false] (by kernel_rfl) rfl (some 14) (by kernel_rfl) (by kernel_rfl) (by kernel_rfl) (by kernel_rfl) (by kernel_rfl) (.pointer (some ⟨g, 64, none⟩)) (by kernel_rfl) (fun _ => by kernel_rfl) (fun _ => hO1) ?_
  try simp only [p0, p1, p2, p3]
  refine fl_nth (l := [a, b, c, d]) 10 #[true, true, true, true, true, true, true, true, true, true, true, false, false, false, false, false, false, false, false, false, false] (by kernel_rfl) rfl (some 15) (by kernel_rfl) (by kernel_rfl) (by kernel_rfl) (by kernel_rfl) (by kernel_rfl) 2 c (by kernel_rfl) (by kernel_rfl) (by kernel_rfl) 22 (.tmp 14) (by kernel_rfl) (by kernel_rfl) _ (fun _ h => h.get (.head _)) rfl Tryd.underlying22 rfl (inum_len _) hO1 ?_
  try simp only [p0, p1, p2, p3]
  refine fl_call 11 #[true, true, true, true, true, true, true, true, true, true, true, true, false, false, false, false, false, false, false, false, false] (by kernel_rfl) rfl (some 16) (by kernel_rfl) rfl (by kernel_rfl) (.tuple #[.agg (c8 a), .agg (c8 c)]) (by kernel_rfl) (swap_f a c _) hO1 (fun _ h => h) fun w2 hO2 => ?_
  try clear hO1
  try simp only [p0, p1, p2, p3]
  refine fl_pure 12 #[true, true, true, true, true, true, true, true, true, true, true, true, true, false, false, false, false, false, false, false, false] (by kernel_rfl) rfl (some 4) (by kernel_rfl) (by kernel_rfl) (by kernel_rfl) (by kernel_rfl) (by kernel_rfl) (.tuple #[.agg (c8 a), .agg (c8 c)]) (by kernel_rfl) (fun _ => by kernel_rfl) (fun _ => hO2) ?_
  try simp only [p0, p1, p2, p3]
  refine fl_pure 13 #[true, true, true, true, true, true, true, true, true, true, true, true, true, true, false, false, false, false, false, false, false] (by kernel_rfl) rfl (some 17) (by kernel_rfl) (by kernel_rfl) (by kernel_rfl) (by kernel_rfl) (by kernel_rfl) (.agg (c8 a)) (by kernel_rfl) (fun _ => by kernel_rfl) (fun _ => hO2) ?_
  try simp only [p0, p1, p2, p3]
  refine fl_pure 14 #[true, true, true, true, true, true, true, true, true, true, true, true, true, true, true, false, false, false, false, false, false] (by kernel_rfl) rfl (some 18) (by kernel_rfl) (by kernel_rfl) (by kernel_rfl) (by kernel_rfl) (by kernel_rfl) (.agg (c8 c)) (by kernel_rfl) (fun _ => by kernel_rfl) (fun _ => hO2) ?_
  try simp only [p0, p1, p2, p3]
  refine fl_pure 15 #[true, true, true, true, true, true, true, true, true, true, true, true, true, true, true, true, false, false, false, false, false] (by kernel_rfl) rfl (some 19) (by kernel_rfl) (by kernel_rfl) (by kernel_rfl) (by kernel_rfl) (by kernel_rfl) (.pointer (some ⟨g, 0, none⟩)) (by kernel_rfl) (fun _ => by kernel_rfl) (fun _ => hO2) ?_
  try simp only [p0, p1, p2, p3]
  refine fl_pure 16 #[true, true, true, true, true, true, true, true, true, true, true, true, true, true, true, true, true, false, false, false, false] (by kernel_rfl) rfl (some 20) (by kernel_rfl) (by kernel_rfl) (by kernel_rfl) (by kernel_rfl) (by kernel_rfl) (.pointer (some ⟨g, 0, none⟩)) (by kernel_rfl) (fun _ => by kernel_rfl) (fun _ => hO2) ?_
  try simp only [p0, p1, p2, p3]
  refine fl_put (L1 := []) (L2 := (L)) (l := [a, b, c, d]) 17 #[true, true, true, true, true, true, true, true, true, true, true, true, true, true, true, true, true, true, false, false, false] (by kernel_rfl) rfl none (by kernel_rfl) rfl (by kernel_rfl) 0 a (by kernel_rfl) 22 (.tmp 20) (.tmp 17) rfl rfl rfl hO2 (of_decide_eq_true (by kernel_rfl)) (inum_c8 _) fun w3 hO3 => ?_
  try clear hO2
  simp only [List.nil_append, List.cons_append, List.set_cons_zero, List.set_cons_succ] at hO3
  try simp only [p0, p1, p2, p3]
  refine fl_pure 18 #[true, true, true, true, true, true, true, true, true, true, true, true, true, true, true, true, true, true, true, false, false] (by kernel_rfl) rfl (some 21) (by kernel_rfl) (by kernel_rfl) (by kernel_rfl) (by kernel_rfl) (by kernel_rfl) (.pointer (some ⟨g, 0, none⟩)) (by kernel_rfl) (fun _ => by kernel_rfl) (clean_no (by kernel_rfl)) ?_
  try simp only [p0, p1, p2, p3]
  refine fl_pure 19 #[true, true, true, true, true, true, true, true, true, true, true, true, true, true, true, true, true, true, true, true, false] (by kernel_rfl) rfl (some 22) (by kernel_rfl) (by kernel_rfl) (by kernel_rfl) (by kernel_rfl) (by kernel_rfl) (.pointer (some ⟨g, 64, none⟩)) (by kernel_rfl) (fun _ => by kernel_rfl) (clean_no (by kernel_rfl)) ?_
  try simp only [p0, p1, p2, p3]
  refine fl_put (L1 := []) (L2 := (L)) (l := [a, b, c, d]) 20 #[true, true, true, true, true, true, true, true, true, true, true, true, true, true, true, true, true, true, true, true, true] (by kernel_rfl) rfl none (by kernel_rfl) rfl (by kernel_rfl) 2 c (by kernel_rfl) 22 (.tmp 22) (.tmp 18) rfl rfl rfl hO3 (of_decide_eq_true (by kernel_rfl)) (inum_c8 _) fun w4 hO4 => ?_
  try clear hO3
  simp only [List.nil_append, List.cons_append, List.set_cons_zero, List.set_cons_succ] at hO4
  try simp only [p0, p1, p2, p3]
  refine fl_done (by kernel_rfl) ?_
  show Code.wp _ _ _ _ _
  refine fl_start [17, 20] #[false, false, false, false, false, false, false, false, false, false, false, false, false, false, false, false, false, false, false, false, false] (by kernel_rfl) (by kernel_rfl) hO4 fun w5 hO5 => ?_
  clear hO4
  refine fl_pure 0 #[true, false, false, false, false, false, false, false, false, false, false, false, false, false, false, false, false, false, false, false, false] (by kernel_rfl) rfl (some 24) (by kernel_rfl) (by kernel_rfl) (by kernel_rfl) (by kernel_rfl) (by kernel_rfl) (.pointer (some ⟨g, 0, none⟩)) (by kernel_rfl) (fun _ => by kernel_rfl) (fun _ => hO5) ?_
  try simp only [p0, p1, p2, p3]
  refine fl_pure 1 #[true, true, false, false, false, false, false, false, false, false, false, false, false, false, false, false, false, false, false, false, false] (by kernel_rfl) rfl (some 25) (by kernel_rfl) (by kernel_rfl) (by kernel_rfl) (by kernel_rfl) (by kernel_rfl) (.pointer (some ⟨g, 0, none⟩)) (by kernel_rfl) (fun _ => by kernel_rfl) (fun _ => hO5) ?_
  try simp only [p0, p1, p2, p3]
  refine fl_pure 2 #[true, true, true, false, false, false, false, false, false, false, false, false, false, false, false, false, false, false, false, false, false] (by kernel_rfl) rfl (some 26) (by kernel_rfl) (by kernel_rfl) (by kernel_rfl) (by kernel_rfl) (by kernel_rfl) (.bool false) (by kernel_rfl) (fun _ => by kernel_rfl) (fun _ => hO5) ?_
  try simp only [p0, p1, p2, p3]
  refine fl_pure 3 #[true, true, true, true, false, false, false, false, false, false, false, false, false, false, false, false, false, false, false, false, false] (by kernel_rfl) rfl (some 27) (by kernel_rfl) (by kernel_rfl) (by kernel_rfl) (by kernel_rfl) (by kernel_rfl) (.pointer (some ⟨g, 0, none⟩)) (by kernel_rfl) (fun _ => by kernel_rfl) (fun _ => hO5) ?_
  try simp only [p0, p1, p2, p3]
  refine fl_pure 4 #[true, true, true, true, true, false, false, false, false, false, false, false, false, false, false, false, false, false, false, false, false] (by kernel_rfl) rfl (some 28) (by kernel_rfl) (by kernel_rfl) (by kernel_rfl) (by kernel_rfl) (by kernel_rfl) (.pointer (some ⟨g, 0, none⟩)) (by kernel_rfl) (fun _ => by kernel_rfl) (fun _ => hO5) ?_
  try simp only [p0, p1, p2, p3]
  refine fl_pure 5 #[true, true, true, true, true, true, false, false, false, false, false, false, false, false, false, false, false, false, false, false, false] (by kernel_rfl) rfl (some 29) (by kernel_rfl) (by kernel_rfl) (by kernel_rfl) (by kernel_rfl) (by kernel_rfl) (.pointer (some ⟨g, 32, none⟩)) (by kernel_rfl) (fun _ => by kernel_rfl) (fun _ => hO5) ?_
  try simp only [p0, p1, p2, p3]
  refine fl_nth (l := [a, b, c, d]) 6 #[true, true, true, true, true, true, true, false, false, false, false, false, false, false, false, false, false, false, false, false, false] (by kernel_rfl) rfl (some 30) (by kernel_rfl) (by kernel_rfl) (by kernel_rfl) (by kernel_rfl) (by kernel_rfl) 1 b (by kernel_rfl) (by kernel_rfl) (by kernel_rfl) 22 (.tmp 29) (by kernel_rfl) (by kernel_rfl) _ (fun _ h => h.get (.head _)) rfl Tryd.underlying22 rfl (inum_len _) hO5 ?_
  try simp only [p0, p1, p2, p3]
  refine fl_pure 7 #[true, true, true, true, true, true, true, true, false, false, false, false, false, false, false, false, false, false, false, false, false] (by kernel_rfl) rfl (some 31) (by kernel_rfl) (by kernel_rfl) (by kernel_rfl) (by kernel_rfl) (by kernel_rfl) (.pointer (some ⟨g, 0, none⟩)) (by kernel_rfl) (fun _ => by kernel_rfl) (fun _ => hO5) ?_
  try simp only [p0, p1, p2, p3]
  refine fl_pure 8 #[true, true, true, true, true, true, true, true, true, false, false, false, false, false, false, false, false, false, false, false, false] (by kernel_rfl) rfl (some 32) (by kernel_rfl) (by kernel_rfl) (by kernel_rfl) (by kernel_rfl) (by kernel_rfl) (.pointer (some ⟨g, 0, none⟩)) (by kernel_rfl) (fun _ => by kernel_rfl) (fun _ => hO5) ?_
  try simp only [p0, p1, p2, p3]
  refine fl_pure 9 #[true, true, true, true, true, true, true, true, true, true, false, false, false, false, false, false, false, false, false, false, false] (by kernel_rfl) rfl (some 33) (by kernel_rfl) (by kernel_rfl) (by kernel_rfl) (by kernel_rfl) (by kernel_rfl) (.pointer (some ⟨g, 96, none⟩)) (by kernel_rfl) (fun _ => by kernel_rfl) (fun _ => hO5) ?_
  try simp only [p0, p1, p2, p3]
  refine fl_nth (l := [a, b, c, d]) 10 #[true, true, true, true, true, true, true, true, true, true, true, false, false, false, false, false, false, false, false, false, false] (by kernel_rfl) rfl (some 34) (by kernel_rfl) (by kernel_rfl) (by kernel_rfl) (by kernel_rfl) (by kernel_rfl) 3 d (by kernel_rfl) (by kernel_rfl) (by kernel_rfl) 22 (.tmp 33) (by kernel_rfl) (by kernel_rfl) _ (fun _ h => h.get (.head _)) rfl Tryd.underlying22 rfl (inum_len _) hO5 ?_
  try simp only [p0, p1, p2, p3]
  refine fl_call 11 #[true, true, true, true, true, true, true, true, true, true, true, true, false, false, false, false, false, false, false, false, false] (by kernel_rfl) rfl (some 35) (by kernel_rfl) rfl (by kernel_rfl) (.tuple #[.agg (c8 b), .agg (c8 d)]) (by kernel_rfl) (swap_f b d _) hO5 (fun _ h => h) fun w6 hO6 => ?_
  try clear hO5
  try simp only [p0, p1, p2, p3]
  refine fl_pure 12 #[true, true, true, true, true, true, true, true, true, true, true, true, true, false, false, false, false, false, false, false, false] (by kernel_rfl) rfl (some 23) (by kernel_rfl) (by kernel_rfl) (by kernel_rfl) (by kernel_rfl) (by kernel_rfl) (.tuple #[.agg (c8 b), .agg (c8 d)]) (by kernel_rfl) (fun _ => by kernel_rfl) (fun _ => hO6) ?_
  try simp only [p0, p1, p2, p3]
  refine fl_pure 13 #[true, true, true, true, true, true, true, true, true, true, true, true, true, true, false, false, false, false, false, false, false] (by kernel_rfl) rfl (some 36) (by kernel_rfl) (by kernel_rfl) (by kernel_rfl) (by kernel_rfl) (by kernel_rfl) (.agg (c8 b)) (by kernel_rfl) (fun _ => by kernel_rfl) (fun _ => hO6) ?_
  try simp only [p0, p1, p2, p3]
  refine fl_pure 14 #[true, true, true, true, true, true, true, true, true, true, true, true, true, true, true, false, false, false, false, false, false] (by kernel_rfl) rfl (some 37) (by kernel_rfl) (by kernel_rfl) (by kernel_rfl) (by kernel_rfl) (by kernel_rfl) (.agg (c8 d)) (by kernel_rfl) (fun _ => by kernel_rfl) (fun _ => hO6) ?_
  try simp only [p0, p1, p2, p3]
  refine fl_pure 15 #[true, true, true, true, true, true, true, true, true, true, true, true, true, true, true, true, false, false, false, false, false] (by kernel_rfl) rfl (some 38) (by kernel_rfl) (by kernel_rfl) (by kernel_rfl) (by kernel_rfl) (by kernel_rfl) (.pointer (some ⟨g, 0, none⟩)) (by kernel_rfl) (fun _ => by kernel_rfl) (fun _ => hO6) ?_
  try simp only [p0, p1, p2, p3]
  refine fl_pure 16 #[true, true, true, true, true, true, true, true, true, true, true, true, true, true, true, true, true, false, false, false, false] (by kernel_rfl) rfl (some 39) (by kernel_rfl) (by kernel_rfl) (by kernel_rfl) (by kernel_rfl) (by kernel_rfl) (.pointer (some ⟨g, 32, none⟩)) (by kernel_rfl) (fun _ => by kernel_rfl) (fun _ => hO6) ?_
  try simp only [p0, p1, p2, p3]
  refine fl_put (L1 := []) (L2 := (L)) (l := [a, b, c, d]) 17 #[true, true, true, true, true, true, true, true, true, true, true, true, true, true, true, true, true, true, false, false, false] (by kernel_rfl) rfl none (by kernel_rfl) rfl (by kernel_rfl) 1 b (by kernel_rfl) 22 (.tmp 39) (.tmp 36) rfl rfl rfl hO6 (of_decide_eq_true (by kernel_rfl)) (inum_c8 _) fun w7 hO7 => ?_
  try clear hO6
  simp only [List.nil_append, List.cons_append, List.set_cons_zero, List.set_cons_succ] at hO7
  try simp only [p0, p1, p2, p3]
  refine fl_pure 18 #[true, true, true, true, true, true, true, true, true, true, true, true, true, true, true, true, true, true, true, false, false] (by kernel_rfl) rfl (some 40) (by kernel_rfl) (by kernel_rfl) (by kernel_rfl) (by kernel_rfl) (by kernel_rfl) (.pointer (some ⟨g, 0, none⟩)) (by kernel_rfl) (fun _ => by kernel_rfl) (clean_no (by kernel_rfl)) ?_
  try simp only [p0, p1, p2, p3]
  refine fl_pure 19 #[true, true, true, true, true, true, true, true, true, true, true, true, true, true, true, true, true, true, true, true, false] (by kernel_rfl) rfl (some 41) (by kernel_rfl) (by kernel_rfl) (by kernel_rfl) (by kernel_rfl) (by kernel_rfl) (.pointer (some ⟨g, 96, none⟩)) (by kernel_rfl) (fun _ => by kernel_rfl) (clean_no (by kernel_rfl)) ?_
  try simp only [p0, p1, p2, p3]
  refine fl_put (L1 := []) (L2 := (L)) (l := [a, b, c, d]) 20 #[true, true, true, true, true, true, true, true, true, true, true, true, true, true, true, true, true, true, true, true, true] (by kernel_rfl) rfl none (by kernel_rfl) rfl (by kernel_rfl) 3 d (by kernel_rfl) 22 (.tmp 41) (.tmp 37) rfl rfl rfl hO7 (of_decide_eq_true (by kernel_rfl)) (inum_c8 _) fun w8 hO8 => ?_
  try clear hO7
  simp only [List.nil_append, List.cons_append, List.set_cons_zero, List.set_cons_succ] at hO8
  try simp only [p0, p1, p2, p3]
  refine fl_done (by kernel_rfl) ?_
  refine ⟨rfl, .tuple #[], by kernel_rfl, rfl, ?_⟩
  exact hO8
end Go.Proofs.YtkmgdpbmkbpkjaaDoor
