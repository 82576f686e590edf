/-
  LadderRow, walked: it answers true.
-/
import Derived.Test.YtkmgdpbmkbpkjaaDoorLadL
import Derived.Test.YtkmgdpbmkbpkjaaDoorGCv
import Derived.Test.YtkmgdpbmkbpkjaaDoorEngC
import Derived.LoopTactic
import Derived.Lib.Hide
set_option linter.unusedVariables false
set_option linter.unusedSimpArgs false
namespace Go.Proofs.YtkmgdpbmkbpkjaaDoor
open Go.RowKit

/-- Secrets on a point, one behind the other. -/
def rowF (f : Nat → Nat → Nat) (l : List Nat) (u : Nat) : Nat := l.foldl (fun a x => f x a) u
section
variable {f : Nat → Nat → Nat}
theorem rowF_one (hc : ∀ x y u, f x (f y u) = f y (f x u)) (x : Nat) : ∀ (l : List Nat) (u : Nat), f x (rowF f l u) = rowF f l (f x u)
  | [], u => rfl
  | y :: l, u => by
    show f x (rowF f l (f y u)) = rowF f l (f y (f x u))
    rw [rowF_one hc x l, hc]
theorem rowF_app (l m : List Nat) (u : Nat) : rowF f (l ++ m) u = rowF f m (rowF f l u) := List.foldl_append ..
theorem rowF_swap (hc : ∀ x y u, f x (f y u) = f y (f x u)) : ∀ (m l : List Nat) (u : Nat), rowF f m (rowF f l u) = rowF f l (rowF f m u)
  | [], l, u => rfl
  | y :: m, l, u => by
    show rowF f m (f y (rowF f l u)) = rowF f l (rowF f m (f y u))
    rw [rowF_one hc, rowF_swap hc m l]
theorem rowF_step {l : List Nat} {i x : Nat} (u : Nat) (h : l[i]? = some x) : f x (rowF f (l.take i) u) = rowF f (l.take (i + 1)) u := by
  rw [List.take_add_one, h, rowF_app]
  rfl
theorem rowF_all (P : Nat → Prop) (hf : ∀ x u, P (f x u)) {u : Nat} (hu : P u) : ∀ l : List Nat, P (rowF f l u)
  | [] => hu
  | y :: l => rowF_all P hf (hf y u) l
end
@[irreducible] def rowX (l : List Nat) (u : Nat) : Nat := rowF Cv.XN l u
theorem rowX_zero (l : List Nat) (u : Nat) : rowX (l.take 0) u = u := by unfold rowX; rfl
theorem rowX_256 {u : Nat} (hu : N256 u) (l : List Nat) : N256 (rowX l u) := by unfold rowX; exact rowF_all N256 XN_256 hu l
/-- The i-th number. -/
def nth (l : List Nat) (i : Nat) : Nat := l.getD i 0
theorem nth_at {l : List Nat} {i : Nat} (h : i < l.length) : l[i]? = some (nth l i) := by simp [nth, h]
theorem nth_256 {l : List Nat} (hl : ∀ n ∈ l, N256 n) {i : Nat} (h : i < l.length) : N256 (nth l i) := by
  have : nth l i = l[i] := by simp [nth, h]
  rw [this]; exact hl _ (List.getElem_mem h)
/-- Turned round. -/
def turnL (l : List Nat) (k : Nat) : List Nat := l.drop k ++ l.take k
theorem turnL_len {l : List Nat} {k : Nat} (hk : k < l.length) : (turnL l k).length = l.length := by
  unfold turnL
  rw [List.length_append, List.length_drop, List.length_take]
  omega
theorem turnL_at {l : List Nat} {k i : Nat} (hk : k < l.length) (hi : i < l.length) : (turnL l k)[i]? = some (nth l ((i + k) % l.length)) := by
  unfold turnL
  by_cases h : i < l.length - k
  · rw [List.getElem?_append_left (by rw [List.length_drop]; omega), List.getElem?_drop, Nat.mod_eq_of_lt (by omega), Nat.add_comm k, nth_at (by omega)]
  · rw [List.getElem?_append_right (by rw [List.length_drop]; omega), List.length_drop, List.getElem?_take, if_pos (by omega),
      show i + k = (i - (l.length - k)) + l.length by omega, Nat.add_mod_right, Nat.mod_eq_of_lt (by omega), nth_at (by omega)]
theorem row_step {l : List Nat} {i x : Nat} (u : Nat) (h : l[i]? = some x) : rowX (l.take (i + 1)) u = Cv.XN x (rowX (l.take i) u) := by
  unfold rowX
  exact (rowF_step u h).symm
theorem row_eq (l : List Nat) (k u : Nat) (hk : k < l.length) : rowX (l.take l.length) u = rowX ((turnL l k).take l.length) u := by
  rw [List.take_length, ← turnL_len hk, List.take_length]
  unfold turnL rowX
  rw [rowF_app, rowF_swap Cv.XN_comm, ← rowF_app, List.take_append_drop]
theorem run_rem64 {P : Program} {x y : Int} {r : Nat} {z : TypeId} (hm : Int.tmod x y = (r : Int)) (hy : y ≠ 0) (hr : r < 9223372036854775808) (w : World) : (binOp .rem z (.int .i64 x) (.int .i64 y) : Sem Value).run P w = .ok (.int .i64 (r : Int)) w := by
  have e : IntKind.i64.wrap (r : Int) = (r : Int) := by
    simp [IntKind.wrap, IntKind.bits, IntKind.signed]
    omega
  simp [go_sem, hy, hm, e]
theorem run_conv {o : Oper} {a : Act} {p : Operand} {x : Nat} (hx : x < 256) (ho : o.op = .convert 5 3 p) (hp : a.eval p = .int .u8 (x : Int)) (w : World) : (execOp a.eval o).run Tryd.prog w = .ok (.value (.int .i64 (x : Int))) w := by
  have e : IntKind.i64.wrap (x : Int) = (x : Int) := by
    simp [IntKind.wrap, IntKind.bits, IntKind.signed]
    omega
  have u5 := Tryd.underlying5
  have u3 := Tryd.underlying3
  unfold execOp
  simp only [ho, hp]
  simp [go_sem, u5, u3, e, run_underlying]

section
variable {P : Program} {ops : Array Oper} {Q : Exit → Act → World → Prop} {o : Oper} {a : Act} {w w0 : World} {L : List (Nat × TypeId × Array Value)} {md : Region.Mode} {S : World → Prop} {X : List Nat} {fuel : Nat} {listed : Array Bool}
variable (i : Nat) (l' : Array Bool) {o : Oper} (hl : listed.setIfInBounds i true = l') (hi : ops[i]? = some o) (dst : Option Tmp) (hdst : o.dst = dst) (hs : Region.noSelect ops = true) (hf : Region.free md ops listed i = true) (hr : (Region.ready md ops listed).contains i = true) (hiX : X.contains i = false)
include hl hi hdst hs hf hr hiX
theorem fl_idx {T e : TypeId} (ad : Addr) (len c j : Nat) (hw : Region.wanted o (yielded ops a.tmps) = true) (x y : Operand) (ho : o.op = .indexAddr T x y) (hx : a.eval x = .slice (some ad) len c) (hy : a.eval y = .int .i64 (j : Int)) (hlt : j < len)
    (hT : P.underlying T = some (.slice e)) (he : (P.info? e).map (·.size) = some 32) (hS : clean X listed = true → S w)
    (h : wpF P md ops (NoPanic Q) S X fuel l' (a.put dst (.pointer (some (ad.add (j * 32))))) w) : wpF P md ops (NoPanic Q) S X (fuel + 1) listed a w := by
  refine fl_pure i l' hl hi dst hdst hs hf hr hiX _ hw (fun w => ?_) hS h
  unfold execOp
  simp only [ho, hx, hy]
  rw [Sem.run_bind, run_indexAt hT he ad len c j hlt]
  rfl
theorem fl_old {T : TypeId} {d : TypeDesc} (ad : Addr) (l : List Nat) (j n : Nat) (hwt : waits md ops X i = true) (hc : clean X listed = true) (hw : Region.wanted o (yielded ops a.tmps) = true) (x : Operand) (ho : o.op = .load T x) (hx : a.eval x = .pointer (some (ad.add (j * 32))))
    (hu : P.underlying T = some d) (hd : d.isRow = true) (hi' : (P.info? T).map (·.size) = some 32) (hR : ∀ w, S w → Rows w ad l) (hn : l[j]? = some n) (hS : S w)
    (h : wpF P md ops (NoPanic Q) S X fuel l' (a.put dst (.agg (c8 n))) w) : wpF P md ops (NoPanic Q) S X (fuel + 1) listed a w := by
  refine fl_take i l' hl hi dst hdst hs hf hr hiX true _ (fun _ => waits_spec hwt) (fun _ => hc) (.inl ⟨hw, fun w hw' => ?_⟩) (fun _ => hS) h
  unfold execOp
  simp only [ho, hx]
  rw [Sem.run_bind, run_loadOld hu hd hi' (hR w (hw' rfl)) j n hn]
  rfl
end

set_option maxRecDepth 100000 in
set_option maxHeartbeats 8000000 in
theorem row_any (A : Option Addr) (c at_ : Nat) (l : List Nat) (u : Nat) (w : World) {tG : TypeId} (hG : Bk w 0 tG (c8 121665)) (hat : at_ < 256) (hl : ∀ n ∈ l, N256 n) (hu : N256 u) (hA : 0 < l.length → ∃ x, A = some x ∧ Rows w x l) :
    Ret Tryd.prog 9 #[.slice A l.length c, .agg (c8 u), .int .u8 at_] w (.bool true) := by
  unfold Ret
  by_cases h40 : l.length ≤ 4
  rotate_left
  · have hd : (4 < (l.length : Int)) = True := eq_true (by omega)
    have hd2 : (4 < l.length) = True := eq_true (by omega)
    have hd3 : decide (4 < (l.length : Int)) = true := decide_eq_true (by omega)
    refine calls_of_wp Tryd.func9 rfl ?_
    simp only [Tryd.ntmps9, List.size_toArray, List.length_cons, List.length_nil, Nat.reduceAdd, Nat.reduceSub, Array.replicate_succ, Array.replicate_zero, List.push_toArray, List.append_toArray, List.nil_append, List.cons_append]
    have hO := Own.nil w
    refine wp_seq ?_
    refine wl_region ?_
    refine wl_new 22 (c8 u) rfl (by kernel_rfl) hO fun w1 hO1 => ?_
    clear hO
    try simp only [p0, p1, p2, p3]
    refine wl_pure (.bool false) rfl (by kernel_rfl) ?_
    try simp only [p0, p1, p2, p3]
    refine wl_nil ?_
    show Code.wp _ _ _ _ _
    refine wp_seq ?_
    refine wp_seq ?_
    refine wl_region ?_
    refine wl_call (.bool true) rfl (by kernel_rfl) (alive_any _ (hG.below hO1.bl hG.lt)) hO1 fun w2 hO2 => ?_
    clear hO1
    try simp only [p0, p1, p2, p3]
    refine wl_pure (.bool false) rfl (by kernel_rfl) ?_
    try simp only [p0, p1, p2, p3]
    refine wl_nil ?_
    show Code.wp _ _ _ _ _
    refine wp_cond_false rfl ?_
    refine wp_skip ?_
    show Code.wp _ _ _ _ _
    refine wp_seq ?_
    refine wp_seq ?_
    refine wl_region ?_
    refine wl_pure (.slice A l.length c) (by kernel_rfl) (by kernel_rfl) ?_
    try simp only [p0, p1, p2, p3]
    refine wl_pure (.int .i64 (l.length : Int)) (by kernel_rfl) (by kernel_rfl) ?_
    try simp only [p0, p1, p2, p3]
    refine wl_pure (.bool true) (by kernel_rfl) ?cmp2 ?_
    case cmp2 => first | (go_simp; done) | (go_simp; rfl)
    try simp only [p0, p1, p2, p3]
    refine wl_pure (.bool true) (by kernel_rfl) (by kernel_rfl) ?_
    try simp only [p0, p1, p2, p3]
    refine wl_skip (by kernel_rfl) ?_
    try simp only [p0, p1, p2, p3]
    refine wl_skip (by kernel_rfl) ?_
    try simp only [p0, p1, p2, p3]
    refine wl_skip (by kernel_rfl) ?_
    try simp only [p0, p1, p2, p3]
    refine wl_pure (.bool true) (by kernel_rfl) (by kernel_rfl) ?_
    try simp only [p0, p1, p2, p3]
    refine wl_nil ?_
    show Code.wp _ _ _ _ _
    refine wp_cond_true rfl ?_
    refine wp_seq ?_
    refine wl_region ?_
    refine wl_pure (.bool true) rfl (by kernel_rfl) ?_
    try simp only [p0, p1, p2, p3]
    refine wl_nil ?_
    show Code.wp _ _ _ _ _
    refine wp_ret ?_
    (try simp only [Exit.then, Exit.inBlock])
    refine bodyPost_ret (results_tmp rfl _ _ _) rfl ?_
    exact ⟨rfl, hO2.bl⟩
  have hd : (4 < (l.length : Int)) = False := eq_false (by omega)
  have hd2 : (4 < l.length) = False := eq_false (by omega)
  have hd3 : decide (4 < (l.length : Int)) = false := decide_eq_false (by omega)
  by_cases h0 : 0 < l.length
  rotate_left
  · have he : l.length = 0 := by omega
    have he2 : ((l.length : Int) == 0) = true := by rw [he]; rfl
    have he3 : ((l.length : Int) = 0) = True := eq_true (by omega)
    refine calls_of_wp Tryd.func9 rfl ?_
    simp only [Tryd.ntmps9, List.size_toArray, List.length_cons, List.length_nil, Nat.reduceAdd, Nat.reduceSub, Array.replicate_succ, Array.replicate_zero, List.push_toArray, List.append_toArray, List.nil_append, List.cons_append]
    have hO := Own.nil w
    refine wp_seq ?_
    refine wl_region ?_
    refine wl_new 22 (c8 u) rfl (by kernel_rfl) hO fun w1 hO1 => ?_
    clear hO
    try simp only [p0, p1, p2, p3]
    refine wl_pure (.bool false) rfl (by kernel_rfl) ?_
    try simp only [p0, p1, p2, p3]
    refine wl_nil ?_
    show Code.wp _ _ _ _ _
    refine wp_seq ?_
    refine wp_seq ?_
    refine wl_region ?_
    refine wl_call (.bool true) rfl (by kernel_rfl) (alive_any _ (hG.below hO1.bl hG.lt)) hO1 fun w2 hO2 => ?_
    clear hO1
    try simp only [p0, p1, p2, p3]
    refine wl_pure (.bool false) rfl (by kernel_rfl) ?_
    try simp only [p0, p1, p2, p3]
    refine wl_nil ?_
    show Code.wp _ _ _ _ _
    refine wp_cond_false rfl ?_
    refine wp_skip ?_
    show Code.wp _ _ _ _ _
    refine wp_seq ?_
    refine wp_seq ?_
    refine wl_region ?_
    refine wl_pure (.slice A l.length c) (by kernel_rfl) (by kernel_rfl) ?_
    try simp only [p0, p1, p2, p3]
    refine wl_pure (.int .i64 (l.length : Int)) (by kernel_rfl) (by kernel_rfl) ?_
    try simp only [p0, p1, p2, p3]
    refine wl_pure (.bool false) (by kernel_rfl) ?cmp2 ?_
    case cmp2 => first | (go_simp; done) | (go_simp; rfl)
    try simp only [p0, p1, p2, p3]
    refine wl_pure (.bool false) (by kernel_rfl) (by kernel_rfl) ?_
    try simp only [p0, p1, p2, p3]
    refine wl_pure (.slice A l.length c) (by kernel_rfl) (by kernel_rfl) ?_
    try simp only [p0, p1, p2, p3]
    refine wl_pure (.int .i64 (l.length : Int)) (by kernel_rfl) (by kernel_rfl) ?_
    try simp only [p0, p1, p2, p3]
    refine wl_pure (.bool true) (by kernel_rfl) ?cmp3 ?_
    case cmp3 => first | (go_simp; done) | (go_simp; rfl)
    try simp only [p0, p1, p2, p3]
    refine wl_pure (.bool true) (by kernel_rfl) (by kernel_rfl) ?_
    try simp only [p0, p1, p2, p3]
    refine wl_nil ?_
    show Code.wp _ _ _ _ _
    refine wp_cond_true rfl ?_
    refine wp_seq ?_
    refine wl_region ?_
    refine wl_pure (.bool true) rfl (by kernel_rfl) ?_
    try simp only [p0, p1, p2, p3]
    refine wl_nil ?_
    show Code.wp _ _ _ _ _
    refine wp_ret ?_
    (try simp only [Exit.then, Exit.inBlock])
    refine bodyPost_ret (results_tmp rfl _ _ _) rfl ?_
    exact ⟨rfl, hO2.bl⟩
  have he2 : ((l.length : Int) == 0) = false := beq_eq_false_iff_ne.2 (by omega)
  have he3 : ((l.length : Int) = 0) = False := eq_false (by omega)
  obtain ⟨ad, rfl, hR⟩ := hA h0
  have hR' := Lib.hid hR
  clear hR hA
  have hk : at_ % l.length < l.length := Nat.mod_lt _ h0
  have hmod : Int.tmod (at_ : Int) (l.length : Int) = ((at_ % l.length : Nat) : Int) := by rw [Int.tmod_eq_emod_of_nonneg (by omega)]; exact (Int.natCast_emod _ _).symm
  generalize at_ % l.length = k at hk hmod
  have hb1 : wrap64 (k : Int) = (k : Int) := by unfold wrap64; omega
  refine calls_of_wp Tryd.func9 rfl ?_
  simp only [Tryd.ntmps9, List.size_toArray, List.length_cons, List.length_nil, Nat.reduceAdd, Nat.reduceSub, Array.replicate_succ, Array.replicate_zero, List.push_toArray, List.append_toArray, List.nil_append, List.cons_append]
  have hO := Own.nil w
  refine wp_seq ?_
  refine wl_region ?_
  refine wl_new 22 (c8 u) rfl (by kernel_rfl) hO fun w1 hO1 => ?_
  clear hO
  try simp only [p0, p1, p2, p3]
  refine wl_pure (.bool false) rfl (by kernel_rfl) ?_
  try simp only [p0, p1, p2, p3]
  refine wl_nil ?_
  show Code.wp _ _ _ _ _
  refine wp_seq ?_
  refine wp_seq ?_
  refine wl_region ?_
  refine wl_call (.bool true) rfl (by kernel_rfl) (alive_any _ (hG.below hO1.bl hG.lt)) hO1 fun w2 hO2 => ?_
  clear hO1
  try simp only [p0, p1, p2, p3]
  refine wl_pure (.bool false) rfl (by kernel_rfl) ?_
  try simp only [p0, p1, p2, p3]
  refine wl_nil ?_
  show Code.wp _ _ _ _ _
  refine wp_cond_false rfl ?_
  refine wp_skip ?_
  show Code.wp _ _ _ _ _
  refine wp_seq ?_
  refine wp_seq ?_
  refine wl_region ?_
  refine wl_pure (.slice (some ad) l.length c) (by kernel_rfl) (by kernel_rfl) ?_
  try simp only [p0, p1, p2, p3]
  refine wl_pure (.int .i64 (l.length : Int)) (by kernel_rfl) (by kernel_rfl) ?_
  try simp only [p0, p1, p2, p3]
  refine wl_pure (.bool false) (by kernel_rfl) ?cmp2 ?_
  case cmp2 => first | (go_simp; done) | (go_simp; rfl)
  try simp only [p0, p1, p2, p3]
  refine wl_pure (.bool false) (by kernel_rfl) (by kernel_rfl) ?_
  try simp only [p0, p1, p2, p3]
  refine wl_pure (.slice (some ad) l.length c) (by kernel_rfl) (by kernel_rfl) ?_
  try simp only [p0, p1, p2, p3]
  refine wl_pure (.int .i64 (l.length : Int)) (by kernel_rfl) (by kernel_rfl) ?_
  try simp only [p0, p1, p2, p3]
  refine wl_pure (.bool false) (by kernel_rfl) ?cmp3 ?_
  case cmp3 => first | (go_simp; done) | (go_simp; rfl)
  try simp only [p0, p1, p2, p3]
  refine wl_pure (.bool false) (by kernel_rfl) (by kernel_rfl) ?_
  try simp only [p0, p1, p2, p3]
  refine wl_nil ?_
  show Code.wp _ _ _ _ _
  refine wp_cond_false rfl ?_
  refine wp_skip ?_
  show Code.wp _ _ _ _ _
  refine wp_seq ?_
  refine fl_start [] #[false, false, false, false, false, false] (by kernel_rfl) (by kernel_rfl) hO2 fun w5 hO5 => ?_
  clear hO2
  refine fl_load 0 #[true, false, false, false, false, false] (by kernel_rfl) rfl (some 21) (by kernel_rfl) (by kernel_rfl) (by kernel_rfl) (by kernel_rfl) (by kernel_rfl) (c8 u) (by kernel_rfl) (by kernel_rfl) (by kernel_rfl) 22 (.tmp 4) (by kernel_rfl) w.heap.size (by kernel_rfl) 22 _ (fun _ h => h.get (.head _)) Tryd.underlying22 rfl (inum_c8 _) hO5 ?_
  try simp only [p0, p1, p2, p3]
  refine fl_load 1 #[true, true, false, false, false, false] (by kernel_rfl) rfl (some 22) (by kernel_rfl) (by kernel_rfl) (by kernel_rfl) (by kernel_rfl) (by kernel_rfl) (c8 u) (by kernel_rfl) (by kernel_rfl) (by kernel_rfl) 22 (.tmp 4) (by kernel_rfl) w.heap.size (by kernel_rfl) 22 _ (fun _ h => h.get (.head _)) Tryd.underlying22 rfl (inum_c8 _) hO5 ?_
  try simp only [p0, p1, p2, p3]
  refine calls2 (fuel := 2) (AllocAt.mk (i := 2) (t := 22) (cs := (c8 0)) rfl rfl rfl (fun _ _ => by kernel_rfl)) (AllocAt.mk (i := 3) (t := 22) (cs := (c8 0)) rfl rfl rfl (fun _ _ => by kernel_rfl)) (by decide) (by decide) [] _ _ (by kernel_rfl) trivial (by kernel_rfl) (by kernel_rfl) (fun _ h => h) (fun gw6_0 gw6_1 w6 hO6 => ?_) _ hO5
  clear hO5
  simp only [lst, acts]
  try simp only [p0, p1, p2, p3]
  refine fl_set (L1 := []) (L2 := ((gw6_1, 22, (c8 0)) :: (w.heap.size, 22, (c8 u)) :: [])) (cs := (c8 0)) 4 #[true, true, true, true, true, false] (by kernel_rfl) rfl none (by kernel_rfl) rfl (by kernel_rfl) (c8 u) 22 (.tmp 7) (.tmp 21) rfl rfl rfl hO6 (by simp only [size_c8]) (inum_c8 _) (one_c8 _) (fun _ h _ => h.tail.tail) fun w7 hO7 => ?_
  try clear hO6
  simp only [List.nil_append, List.cons_append, List.set_cons_zero, List.set_cons_succ] at hO7
  try simp only [p0, p1, p2, p3]
  refine fl_set (L1 := [(gw6_0, 22, (c8 u))]) (L2 := ((w.heap.size, 22, (c8 u)) :: [])) (cs := (c8 0)) 5 #[true, true, true, true, true, true] (by kernel_rfl) rfl none (by kernel_rfl) rfl (by kernel_rfl) (c8 u) 22 (.tmp 8) (.tmp 22) rfl rfl rfl hO7 (by simp only [size_c8]) (inum_c8 _) (one_c8 _) (fun _ h _ => h.tail.tail) fun w8 hO8 => ?_
  try clear hO7
  simp only [List.nil_append, List.cons_append, List.set_cons_zero, List.set_cons_succ] at hO8
  try simp only [p0, p1, p2, p3]
  refine fl_done (by kernel_rfl) ?_
  show Code.wp _ _ _ _ _
  refine wp_seq ?_
  refine wl_region ?_
  refine wl_pure (.int .u8 ((at_ : Nat) : Int)) rfl (by kernel_rfl) ?_
  try simp only [p0, p1, p2, p3]
  refine wl_pure (.int .i64 (at_ : Int)) rfl (run_conv hat rfl rfl _) ?_
  try simp only [p0, p1, p2, p3]
  refine wl_pure (.slice (some ad) l.length c) rfl (by kernel_rfl) ?_
  try simp only [p0, p1, p2, p3]
  refine wl_pure (.int .i64 (l.length : Int)) rfl (by kernel_rfl) ?_
  try simp only [p0, p1, p2, p3]
  refine wl_pure (.int .i64 (k : Int)) rfl (i64run (run_rem64 hmod (by omega) (by omega)) (fun _ => rfl) rfl rfl rfl _) ?_
  try simp only [p0, p1, p2, p3]
  refine wl_pure (.int .i64 (k : Int)) rfl (by kernel_rfl) ?_
  try simp only [p0, p1, p2, p3]
  refine wl_nil ?_
  show Code.wp _ _ _ _ _
  go_wp2_with fail
  go_loopw [30] (fun iv wr => ∃ i : Nat, i ≤ l.length ∧ iv = .int .i64 (i : Int) ∧ Own w [(gw6_0, 22, (c8 (rowX (l.take i) u))), (gw6_1, 22, (c8 (rowX ((turnL l k).take i) u))), (w.heap.size, 22, (c8 u))] wr) (fun iv _ => (l.length - intOf iv).toNat)
  case atStart => exact ⟨0, Nat.zero_le _, rfl, by rw [rowX_zero, rowX_zero]; exact hO8⟩
  case round =>
    clear hO8
    obtain ⟨i, hi, rfl, hO⟩ := hrel
    by_cases hlt : i < l.length
    · have hlt1 : ((i : Int) < (l.length : Int)) = True := eq_true (by omega)
      have hlt2 : (i < l.length) = True := eq_true hlt
      have hdl : decide ((i : Int) < (l.length : Int)) = true := decide_eq_true (by omega)
      have hrem : Int.tmod ((i : Int) + (k : Int)) (l.length : Int) = (((i + k) % l.length : Nat) : Int) := by rw [Int.tmod_eq_emod_of_nonneg (by omega)]; exact (Int.natCast_emod _ _).symm
      have hik : (i + k) % l.length < l.length := Nat.mod_lt _ h0
      refine wp_seq ?_
      refine wl_region ?_
      refine wl_pure (.bool true) rfl ?cmp108 ?_
      case cmp108 => first | (go_simp; done) | (go_simp; rfl)
      try simp only [p0, p1, p2, p3]
      refine wl_nil ?_
      show Code.wp _ _ _ _ _
      refine wp_seq ?_
      refine wp_cond_true rfl ?_
      refine wp_skip ?_
      show Code.wp _ _ _ _ _
      refine wp_seq ?_
      refine wp_block ?_
      refine wp_seq ?_
      refine wl_region ?_
      refine wl_pure (.int .i64 (i : Int)) rfl (by kernel_rfl) ?_
      try simp only [p0, p1, p2, p3]
      refine wl_pure (.int .i64 (i : Int)) rfl (by kernel_rfl) ?_
      try simp only [p0, p1, p2, p3]
      refine wl_nil ?_
      show Code.wp _ _ _ _ _
      refine wp_seq ?_
      refine fl_start [6] #[false, false, false, false, false, false, false] (by kernel_rfl) (by kernel_rfl) hO fun w110 hO110 => ?_
      clear hO
      refine fl_pure 0 #[true, false, false, false, false, false, false] (by kernel_rfl) rfl (some 33) (by kernel_rfl) (by kernel_rfl) (by kernel_rfl) (by kernel_rfl) (by kernel_rfl) (.slice (some ad) l.length c) (by kernel_rfl) (fun _ => by kernel_rfl) (fun _ => hO110) ?_
      try simp only [p0, p1, p2, p3]
      refine fl_pure 1 #[true, true, false, false, false, false, false] (by kernel_rfl) rfl (some 34) (by kernel_rfl) (by kernel_rfl) (by kernel_rfl) (by kernel_rfl) (by kernel_rfl) (.int .i64 (i : Int)) (by kernel_rfl) (fun _ => by kernel_rfl) (fun _ => hO110) ?_
      try simp only [p0, p1, p2, p3]
      refine fl_idx 2 #[true, true, true, false, false, false, false] (by kernel_rfl) rfl (some 35) (by kernel_rfl) (by kernel_rfl) (by kernel_rfl) (by kernel_rfl) (by kernel_rfl) ad l.length c i (by kernel_rfl) (.tmp 33) (.tmp 34) (by kernel_rfl) (by kernel_rfl) (by kernel_rfl) hlt Tryd.underlying27 inum (fun _ => hO110) ?_
      try simp only [p0, p1, p2, p3]
      refine fl_old 3 #[true, true, true, true, false, false, false] (by kernel_rfl) rfl (some 36) (by kernel_rfl) (by kernel_rfl) (by kernel_rfl) (by kernel_rfl) (by kernel_rfl) ad l i (nth l i) (by kernel_rfl) (by kernel_rfl) (by kernel_rfl) (.tmp 35) (by kernel_rfl) (by kernel_rfl) Tryd.underlying22 rfl inum (fun _ h => hR'.out.below h.bl) (nth_at hlt) hO110 ?_
      try simp only [p0, p1, p2, p3]
      refine fl_load 4 #[true, true, true, true, true, false, false] (by kernel_rfl) rfl (some 37) (by kernel_rfl) (by kernel_rfl) (by kernel_rfl) (by kernel_rfl) (by kernel_rfl) (c8 (rowX (l.take i) u)) (by kernel_rfl) (by kernel_rfl) (by kernel_rfl) 22 (.tmp 7) (by kernel_rfl) gw6_0 (by kernel_rfl) 22 _ (fun _ h => h.get (.head _)) Tryd.underlying22 rfl (inum_c8 _) hO110 ?_
      try simp only [p0, p1, p2, p3]
      refine fl_call 5 #[true, true, true, true, true, true, false] (by kernel_rfl) rfl (some 38) (by kernel_rfl) rfl (by kernel_rfl) (.agg (c8 (rowX (l.take (i + 1)) u))) (by kernel_rfl) (by rw [row_step u (nth_at hlt)]; exact X_any (nth_256 hl hlt) (rowX_256 hu _) _ (hG.below hO110.bl hG.lt)) hO110 (fun _ h => h) fun w111 hO111 => ?_
      try clear hO110
      try simp only [p0, p1, p2, p3]
      refine fl_set (L1 := []) (L2 := ((gw6_1, 22, (c8 (rowX ((turnL l k).take i) u))) :: (w.heap.size, 22, (c8 u)) :: [])) (cs := (c8 (rowX (l.take i) u))) 6 #[true, true, true, true, true, true, true] (by kernel_rfl) rfl none (by kernel_rfl) rfl (by kernel_rfl) (c8 (rowX (l.take (i + 1)) u)) 22 (.tmp 7) (.tmp 38) rfl rfl rfl hO111 (by simp only [size_c8]) (inum_c8 _) (one_c8 _) (fun _ _ => clean_no (by kernel_rfl)) fun w112 hO112 => ?_
      try clear hO111
      simp only [List.nil_append, List.cons_append, List.set_cons_zero, List.set_cons_succ] at hO112
      try simp only [p0, p1, p2, p3]
      refine fl_done (by kernel_rfl) ?_
      show Code.wp _ _ _ _ _
      refine fl_start [11] #[false, false, false, false, false, false, false, false, false, false, false, false] (by kernel_rfl) (by kernel_rfl) hO112 fun w113 hO113 => ?_
      clear hO112
      refine fl_pure 0 #[true, false, false, false, false, false, false, false, false, false, false, false] (by kernel_rfl) rfl (some 39) (by kernel_rfl) (by kernel_rfl) (by kernel_rfl) (by kernel_rfl) (by kernel_rfl) (.slice (some ad) l.length c) (by kernel_rfl) (fun _ => by kernel_rfl) (fun _ => hO113) ?_
      try simp only [p0, p1, p2, p3]
      refine fl_pure 1 #[true, true, false, false, false, false, false, false, false, false, false, false] (by kernel_rfl) rfl (some 40) (by kernel_rfl) (by kernel_rfl) (by kernel_rfl) (by kernel_rfl) (by kernel_rfl) (.int .i64 (i : Int)) (by kernel_rfl) (fun _ => by kernel_rfl) (fun _ => hO113) ?_
      try simp only [p0, p1, p2, p3]
      refine fl_pure 2 #[true, true, true, false, false, false, false, false, false, false, false, false] (by kernel_rfl) rfl (some 41) (by kernel_rfl) (by kernel_rfl) (by kernel_rfl) (by kernel_rfl) (by kernel_rfl) (.int .i64 (k : Int)) (by kernel_rfl) (fun _ => by kernel_rfl) (fun _ => hO113) ?_
      try simp only [p0, p1, p2, p3]
      refine fl_pure 3 #[true, true, true, true, false, false, false, false, false, false, false, false] (by kernel_rfl) rfl (some 42) (by kernel_rfl) (by kernel_rfl) (by kernel_rfl) (by kernel_rfl) (by kernel_rfl) (.int .i64 ((i : Int) + (k : Int))) (by kernel_rfl) (fun _ => ?cmp113) (fun _ => hO113) ?_
      case cmp113 =>
        go_simp
        have hw1 : ((i : Int) + (k : Int)) % 2 ^ 64 = i + k := Int.emod_eq_of_lt (by omega) (by omega)
        have hw2 : ((i : Int) + (k : Int) ≥ 2 ^ (64 - 1)) = False := eq_false (by omega)
        simp only [IntKind.wrap, IntKind.signed, IntKind.bits, hw1, hw2, decide_false, Bool.and_false, Bool.false_eq_true, if_false]
      try simp only [p0, p1, p2, p3]
      refine fl_pure 4 #[true, true, true, true, true, false, false, false, false, false, false, false] (by kernel_rfl) rfl (some 43) (by kernel_rfl) (by kernel_rfl) (by kernel_rfl) (by kernel_rfl) (by kernel_rfl) (.slice (some ad) l.length c) (by kernel_rfl) (fun _ => by kernel_rfl) (fun _ => hO113) ?_
      try simp only [p0, p1, p2, p3]
      refine fl_pure 5 #[true, true, true, true, true, true, false, false, false, false, false, false] (by kernel_rfl) rfl (some 44) (by kernel_rfl) (by kernel_rfl) (by kernel_rfl) (by kernel_rfl) (by kernel_rfl) (.int .i64 (l.length : Int)) (by kernel_rfl) (fun _ => by kernel_rfl) (fun _ => hO113) ?_
      try simp only [p0, p1, p2, p3]
      refine fl_pure 6 #[true, true, true, true, true, true, true, false, false, false, false, false] (by kernel_rfl) rfl (some 45) (by kernel_rfl) (by kernel_rfl) (by kernel_rfl) (by kernel_rfl) (by kernel_rfl) (.int .i64 ((((i + k) % l.length) : Nat) : Int)) (by kernel_rfl) (i64run (run_rem64 hrem (by omega) (by omega)) (fun _ => rfl) rfl rfl rfl) (fun _ => hO113) ?_
      try simp only [p0, p1, p2, p3]
      refine fl_idx 7 #[true, true, true, true, true, true, true, true, false, false, false, false] (by kernel_rfl) rfl (some 46) (by kernel_rfl) (by kernel_rfl) (by kernel_rfl) (by kernel_rfl) (by kernel_rfl) ad l.length c ((i + k) % l.length) (by kernel_rfl) (.tmp 39) (.tmp 45) (by kernel_rfl) (by kernel_rfl) (by kernel_rfl) hik Tryd.underlying27 inum (fun _ => hO113) ?_
      try simp only [p0, p1, p2, p3]
      refine fl_old 8 #[true, true, true, true, true, true, true, true, true, false, false, false] (by kernel_rfl) rfl (some 47) (by kernel_rfl) (by kernel_rfl) (by kernel_rfl) (by kernel_rfl) (by kernel_rfl) ad l ((i + k) % l.length) (nth l ((i + k) % l.length)) (by kernel_rfl) (by kernel_rfl) (by kernel_rfl) (.tmp 46) (by kernel_rfl) (by kernel_rfl) Tryd.underlying22 rfl inum (fun _ h => hR'.out.below h.bl) (nth_at hik) hO113 ?_
      try simp only [p0, p1, p2, p3]
      refine fl_load 9 #[true, true, true, true, true, true, true, true, true, true, false, false] (by kernel_rfl) rfl (some 48) (by kernel_rfl) (by kernel_rfl) (by kernel_rfl) (by kernel_rfl) (by kernel_rfl) (c8 (rowX ((turnL l k).take i) u)) (by kernel_rfl) (by kernel_rfl) (by kernel_rfl) 22 (.tmp 8) (by kernel_rfl) gw6_1 (by kernel_rfl) 22 _ (fun _ h => h.get (.tail _ (.head _))) Tryd.underlying22 rfl (inum_c8 _) hO113 ?_
      try simp only [p0, p1, p2, p3]
      refine fl_call 10 #[true, true, true, true, true, true, true, true, true, true, true, false] (by kernel_rfl) rfl (some 49) (by kernel_rfl) rfl (by kernel_rfl) (.agg (c8 (rowX ((turnL l k).take (i + 1)) u))) (by kernel_rfl) (by rw [row_step u (turnL_at hk hlt)]; exact X_any (nth_256 hl hik) (rowX_256 hu _) _ (hG.below hO113.bl hG.lt)) hO113 (fun _ h => h) fun w115 hO115 => ?_
      try clear hO113
      try simp only [p0, p1, p2, p3]
      refine fl_set (L1 := [(gw6_0, 22, (c8 (rowX (l.take (i + 1)) u)))]) (L2 := ((w.heap.size, 22, (c8 u)) :: [])) (cs := (c8 (rowX ((turnL l k).take i) u))) 11 #[true, true, true, true, true, true, true, true, true, true, true, true] (by kernel_rfl) rfl none (by kernel_rfl) rfl (by kernel_rfl) (c8 (rowX ((turnL l k).take (i + 1)) u)) 22 (.tmp 8) (.tmp 49) rfl rfl rfl hO115 (by simp only [size_c8]) (inum_c8 _) (one_c8 _) (fun _ _ => clean_no (by kernel_rfl)) fun w116 hO116 => ?_
      try clear hO115
      simp only [List.nil_append, List.cons_append, List.set_cons_zero, List.set_cons_succ] at hO116
      try simp only [p0, p1, p2, p3]
      refine fl_done (by kernel_rfl) ?_
      show Code.wp _ _ _ _ _
      go_wp2_with fail
      go_roundw
      case rel => exact ⟨i + 1, by omega, by go_num, hO116⟩
      case measure => simp [intOf]; omega
    · obtain rfl : i = l.length := by omega
      have hlt1 : ((l.length : Int) < (l.length : Int)) = False := eq_false (by omega)
      have hdl : decide ((l.length : Int) < (l.length : Int)) = false := decide_eq_false (by omega)
      refine wp_seq ?_
      refine wl_region ?_
      refine wl_pure (.bool false) rfl ?cmp216 ?_
      case cmp216 => first | (go_simp; done) | (go_simp; rfl)
      try simp only [p0, p1, p2, p3]
      refine wl_nil ?_
      show Code.wp _ _ _ _ _
      refine wp_seq ?_
      refine wp_cond_false rfl ?_
      refine wp_exit ?_
      refine (‹∀ (a : Act) (w : World), _ → _›) _ _ ?_
      refine wp_seq ?_
      refine wl_region ?_
      refine wl_load (c8 (rowX (l.take l.length) u)) rfl 22 (.tmp 7) rfl gw6_0 rfl 22 _ (hO.get (.head _)) Tryd.underlying22 rfl (inum_c8 _) ?_
      try simp only [p0, p1, p2, p3]
      refine wl_load (c8 (rowX ((turnL l k).take l.length) u)) rfl 22 (.tmp 8) rfl gw6_1 rfl 22 _ (hO.get (.tail _ (.head _))) Tryd.underlying22 rfl (inum_c8 _) ?_
      try simp only [p0, p1, p2, p3]
      refine wl_eql (x := (rowX (l.take l.length) u)) (y := (rowX ((turnL l k).take l.length) u)) true (rowX_256 hu _) (rowX_256 hu _) (decide_eq_true (row_eq l k u hk)) rfl (.tmp 51) (.tmp 52) 22 rfl rfl rfl ?_
      try simp only [p0, p1, p2, p3]
      refine wl_pure (.bool true) rfl (by kernel_rfl) ?_
      try simp only [p0, p1, p2, p3]
      refine wl_nil ?_
      show Code.wp _ _ _ _ _
      refine wp_ret ?_
      (try simp only [Exit.then, Exit.inBlock])
      refine bodyPost_ret (results_tmp rfl _ _ _) rfl ?_
      exact ⟨rfl, hO.bl⟩
end Go.Proofs.YtkmgdpbmkbpkjaaDoor
