/-
  HKDF: two blocks of keys.
-/
import Derived.Test.YtkmgdpbmkbpkjaaDoorWu
set_option linter.unusedVariables false
set_option linter.unusedSimpArgs false
namespace Go.Proofs.YtkmgdpbmkbpkjaaDoor
open Go.RowKit

/-- A text of its own, and no error. -/
def TxtE (P : Program) (f : FuncId) (args : Array Value) (w : World) (n : Nat) (s : Nat → Int) : Prop := Ans P f args w (fun v : Value => v) fun v w' => ∃ q c t cs, v = .tuple #[.slice q n c, .int .i64 0] ∧ Own w (buf q t cs) w' ∧ Buf .u8 1 q n c cs s
theorem r_txtE {P : Program} {o : Oper} {a : Act} {w w0 : World} {L : List (Nat × TypeId × Array Value)} {f : FuncId} {args : Array Value} {n : Nat} {s : Nat → Int} (hx : (execOp a.eval o).run P w = .ok (.enter f args) w) (hc : TxtE P f args w n s) (hO : Own w0 L w) :
    Runs P o a w (fun v : Value => v) fun v w' => ∃ q c t cs, v = .tuple #[.slice q n c, .int .i64 0] ∧ Own w0 (L ++ buf q t cs) w' ∧ Buf .u8 1 q n c cs s := fun K Q h => by
  unfold Oper.wp
  rw [hx]
  refine Calls.mono hc ?_
  rintro e w' ⟨b, rfl, q, c, t, cs, rfl, hO', hB⟩
  exact h _ w' ⟨q, c, t, cs, rfl, hO.merge hO', hB⟩
/-- One block, of the one before. -/
def expT (K S k : Nat → Int) (l : Nat) (f : Nat → Int) (i : Int) : Nat → Int := hmac K S k (l + 0 + 1) (cat (cat f l zF) (l + 0) (lit1 i))
def expF (K S k : Nat → Int) : Nat → Int := cat (cat zF 0 (expT K S k 0 zF 1)) 32 (expT K S k 32 (expT K S k 0 zF 1) 2)
set_option maxRecDepth 100000 in
set_option maxHeartbeats 4000000 in
theorem expand_any {K S k : Nat → Int} {t2 t3 : Nat} {w : World} (hS : Bk w 2 t2 (aF .u32 8 S)) (hK : Bk w 3 t3 (aF .u32 64 K)) :
    TxtE Tryd.prog 23 #[.agg (aF .u8 32 k), .slice none 0 0, .int .i64 64] w 64 (expF K S k) := by
  unfold TxtE Ans
  refine calls_of_wp Tryd.func23 rfl ?_
  simp only [Tryd.ntmps23, List.size_toArray, List.length_cons, List.length_nil, Nat.reduceAdd, Nat.reduceSub, Array.replicate_succ, Array.replicate_zero, List.push_toArray, List.append_toArray, List.nil_append, List.cons_append]
  have hO := Own.nil w
  refine wp_seq ?_
  refine wl_region ?_
  refine wl_runs rfl (r_new 22 (aF .u8 32 k) (by kernel_rfl) hO) fun g1 w1 hO1 => ?_
  clear hO
  try simp only [List.nil_append, List.cons_append] at hO1
  try simp only [p0, p1, p2, p3]
  refine wl_pure (.slice none 0 0) rfl (by kernel_rfl) ?_
  try simp only [p0, p1, p2, p3]
  refine wl_pure (.int .i64 0) rfl (by kernel_rfl) ?_
  try simp only [p0, p1, p2, p3]
  refine wl_nil ?_
  show Code.wp _ _ _ _ _
  refine wp_seq ?_
  refine wp_seq ?_
  refine wl_region ?_
  refine wl_pure (.int .i64 64) (by kernel_rfl) (by kernel_rfl) ?_
  try simp only [p0, p1, p2, p3]
  refine wl_pure (.bool false) (by kernel_rfl) (by kernel_rfl) ?_
  try simp only [p0, p1, p2, p3]
  refine wl_pure (.bool false) (by kernel_rfl) (by kernel_rfl) ?_
  try simp only [p0, p1, p2, p3]
  refine wl_pure (.int .i64 64) (by kernel_rfl) (by kernel_rfl) ?_
  try simp only [p0, p1, p2, p3]
  refine wl_pure (.bool false) (by kernel_rfl) (by kernel_rfl) ?_
  try simp only [p0, p1, p2, p3]
  refine wl_pure (.bool false) (by kernel_rfl) (by kernel_rfl) ?_
  try simp only [p0, p1, p2, p3]
  refine wl_nil ?_
  show Code.wp _ _ _ _ _
  refine wp_cond_false rfl ?_
  refine wp_skip ?_
  show Code.wp _ _ _ _ _
  refine wp_seq ?_
  refine wl_region ?_
  refine wl_pure (.slice none 0 0) rfl (by kernel_rfl) ?_
  try simp only [p0, p1, p2, p3]
  refine wl_pure (.slice none 0 0) rfl (by kernel_rfl) ?_
  try simp only [p0, p1, p2, p3]
  refine wl_nil ?_
  show Code.wp _ _ _ _ _
  refine wp_seq ?_
  refine wp_seq ?_
  refine wl_region ?_
  refine wl_pure (.int .u8 1) rfl (by kernel_rfl) ?_
  try simp only [p0, p1, p2, p3]
  refine wl_nil ?_
  show Code.wp _ _ _ _ _
  refine wp_block ?_
  refine wp_loop_rounds 3 ?_
  rw [rounds_succ]
  refine wp_seq ?_
  refine wp_seq ?_
  refine wl_region ?_
  refine wl_pure (.slice none 0 0) rfl (by kernel_rfl) ?_
  try simp only [p0, p1, p2, p3]
  refine wl_pure (.int .i64 0) rfl (by kernel_rfl) ?_
  try simp only [p0, p1, p2, p3]
  refine wl_pure (.int .i64 64) rfl (by kernel_rfl) ?_
  try simp only [p0, p1, p2, p3]
  refine wl_pure (.bool true) rfl (by kernel_rfl) ?_
  try simp only [p0, p1, p2, p3]
  refine wl_nil ?_
  show Code.wp _ _ _ _ _
  refine wp_cond_true rfl ?_
  refine wp_skip ?_
  show Code.wp _ _ _ _ _
  refine wp_seq ?_
  refine wp_block ?_
  refine wp_seq ?_
  refine wd_region [] (Tr.ofList [(0, 1), (1, 1), (2, 1), (3, 1)] (.br 4 8 (.br 5 8 (.br 6 8 (.br 7 8 (Tr.ofList [(8, 3), (9, 3)] .nil) (Tr.ofList [(7, 3), (9, 3)] .nil)) (Tr.ofList [(6, 3), (7, 3), (9, 3)] .nil)) (Tr.ofList [(5, 3), (6, 3), (7, 3), (9, 3)] .nil)) (Tr.ofList [(4, 3), (5, 3), (6, 3), (7, 3), (9, 3)] .nil))) (by decide) (by kernel_rfl) (by kernel_rfl) hO1 fun w2 hO2 => ?_
  simp only [Tr.ofList]
  try clear hO1
  apply wd_cut5 (C := fun (g22 : Nat) (g23 : Nat) (q4x : Option Addr) (c4x : Nat) (g21 : Nat) wc => Own w ((g21, 22, (aF .u8 32 (expT K S k 0 zF 1))) :: (g1, 22, (aF .u8 32 k)) :: []) wc)
  case h =>
    intro hcut
    refine wd_ld (.slice (some ⟨g1, 0, none⟩) 32 32) rfl (some 24) (by kernel_rfl) (by kernel_rfl) (fun _ hw => by kernel_rfl) hO2 ?_
    try simp only [p0, p1, p2, p3]
    refine wd_ld (.slice none 0 0) rfl (some 25) (by kernel_rfl) (by kernel_rfl) (fun _ hw => by kernel_rfl) hO2 ?_
    try simp only [p0, p1, p2, p3]
    refine wd_ld (.slice none 0 0) rfl (some 26) (by kernel_rfl) (by kernel_rfl) (fun _ hw => by kernel_rfl) hO2 ?_
    try simp only [p0, p1, p2, p3]
    refine wd_ld (.int .u8 1) rfl (some 27) (by kernel_rfl) (by kernel_rfl) (fun _ hw => by kernel_rfl) hO2 ?_
    try simp only [p0, p1, p2, p3]
    refine wd_br ?_ ?_
    · skip
      refine nx_runs rfl (some 28) (by kernel_rfl) rfl (r_bs 5 (aF .u8 1 (lit1 1)) 1 (by kernel_rfl) hO2) (fun _ _ h => h.tail) fun g3 w3 hO3 => ?_
      try clear hO2
      try simp only [List.nil_append, List.cons_append] at hO3
      try simp only [p0, p1, p2, p3]
      refine wd_br ?_ ?_
      · skip
        refine nx_runs rfl (some 29) (by kernel_rfl) rfl (r_bs 23 #[.slice none 0 0, .slice none 0 0, .slice (some ⟨g3, 0, none⟩) 1 1] 3 (by kernel_rfl) hO3) (fun _ _ h => h.tail.tail) fun g4 w4 hO4 => ?_
        try clear hO3
        try simp only [List.nil_append, List.cons_append] at hO4
        try simp only [p0, p1, p2, p3]
        refine wd_br ?_ ?_
        · skip
          refine nx_runs rfl (some 30) (by kernel_rfl) rfl (r_txt (args := #[.slice (some ⟨g4, 0, none⟩) 3 3]) (by kernel_rfl) (concat3_any (p0 := none) (n0 := 0) (c0 := 0) (p1 := none) (n1 := 0) (c1 := 0) (p2 := some ⟨g3, 0, none⟩) (n2 := 1) (c2 := 1) (f0 := zF) (f1 := zF) (f2 := (lit1 1)) (((hO4.get (.head _)).cell 0).trans rfl) (((hO4.get (.head _)).cell 1).trans rfl) (((hO4.get (.head _)).cell 2).trans rfl) (.inl ⟨rfl, none, 0, rfl⟩) (.inl ⟨rfl, none, 0, rfl⟩) (RdC.rdf (rdc_own1 hO4 (.tail _ (.head _)) 1 (by decide)) (by decide)) (by decide)) hO4) (by rintro _ _ ⟨q1x, c1x, t1x, s1x, rfl, h, hB1x⟩; exact (Own.sub h (.cons _ (.cons _ (.cons_cons _ (List.nil_sublist _)))))) ?_
          rintro _ w5 ⟨q1x, c1x, t1x, s1x, rfl, hO5, hB1x⟩
          try clear hO4
          try simp only [List.nil_append, List.cons_append] at hO5
          try simp only [p0, p1, p2, p3]
          refine wd_br ?_ ?_
          · skip
            refine nx_runs rfl (some 31) (by kernel_rfl) rfl (r_call (args := #[.slice (some ⟨g1, 0, none⟩) 32 32, .slice q1x (0 + 0 + 1) c1x]) (u := .agg (aF .u8 32 (expT K S k 0 zF 1))) (by kernel_rfl) (hmac_any (K := K) (S := S) (k := k) (b := (cat (cat zF 0 zF) (0 + 0) (lit1 1))) (t2 := t2) (t3 := t3) (hS.under hO5.bl) (hK.under hO5.bl) (rdc_own1 hO5 (.tail _ (.tail _ (.head _))) 32 (by decide)) (Rd.rdf (t := t1x) hB1x.rd hO5 (by intro g e; subst e; simp [buf])) (by decide)) hO5) (fun _ _ h => (Own.sub h (.cons _ (.cons _ (.cons_cons _ (List.nil_sublist _)))))) fun _ w6 hO6 => ?_
            try clear hO5
            try simp only [List.nil_append, List.cons_append] at hO6
            try simp only [p0, p1, p2, p3]
            refine wd_runs rfl (some 11) (by kernel_rfl) rfl (r_new 22 (aF .u8 32 zF) (by kernel_rfl) hO6) (fun _ _ h => (Own.sub h (.cons _ (.cons _ (.cons _ (.cons_cons _ (List.nil_sublist _))))))) fun g7 w7 hO7 => ?_
            try clear hO6
            try simp only [List.nil_append, List.cons_append] at hO7
            try simp only [p0, p1, p2, p3]
            refine wd_runs rfl none (by kernel_rfl) rfl (r_row (L1 := []) (L2 := ((g4, 23, #[.slice none 0 0, .slice none 0 0, .slice (some ⟨g3, 0, none⟩) 1 1]) :: (g3, 5, (aF .u8 1 (lit1 1))) :: (g1, 22, (aF .u8 32 k)) :: (buf q1x t1x s1x))) (cs := (aF .u8 32 zF)) (aF .u8 32 (expT K S k 0 zF 1)) rfl (by kernel_rfl) (by kernel_rfl) hO7 (by simp only [size_aF]) (by kernel_rfl) (one_aF _ _ _)) (fun _ _ h => (Own.sub h (.cons _ (.cons _ (.cons _ (.cons_cons _ (List.nil_sublist _))))))) fun _ w8 hO8 => ?_
            try clear hO7
            try simp only [List.nil_append, List.cons_append] at hO8
            try simp only [p0, p1, p2, p3]
            refine wd_nil ?_
            exact hcut g3 g4 q1x c1x g7 _ (Own.sub hO8 (.cons_cons _ (.cons _ (.cons _ (.cons_cons _ (List.nil_sublist _))))))
          · skip
            refine nx_runs rfl (some 11) (by kernel_rfl) rfl (r_new 22 (aF .u8 32 zF) (by kernel_rfl) hO5) (fun _ _ h => (Own.sub h (.cons _ (.cons _ (.cons _ (.cons_cons _ (List.nil_sublist _))))))) fun g9 w9 hO9 => ?_
            try clear hO5
            try simp only [List.nil_append, List.cons_append] at hO9
            try simp only [p0, p1, p2, p3]
            refine wd_runs rfl (some 31) (by kernel_rfl) rfl (r_call (args := #[.slice (some ⟨g1, 0, none⟩) 32 32, .slice q1x (0 + 0 + 1) c1x]) (u := .agg (aF .u8 32 (expT K S k 0 zF 1))) (by kernel_rfl) (hmac_any (K := K) (S := S) (k := k) (b := (cat (cat zF 0 zF) (0 + 0) (lit1 1))) (t2 := t2) (t3 := t3) (hS.under hO9.bl) (hK.under hO9.bl) (rdc_own1 hO9 (.tail _ (.tail _ (.tail _ (.head _)))) 32 (by decide)) (Rd.rdf (t := t1x) hB1x.rd hO9 (by intro g e; subst e; simp [buf])) (by decide)) hO9) (fun _ _ h => (Own.sub h (.cons _ (.cons _ (.cons _ (.cons_cons _ (List.nil_sublist _))))))) fun _ w10 hO10 => ?_
            try clear hO9
            try simp only [List.nil_append, List.cons_append] at hO10
            try simp only [p0, p1, p2, p3]
            refine wd_runs rfl none (by kernel_rfl) rfl (r_row (L1 := []) (L2 := ((g4, 23, #[.slice none 0 0, .slice none 0 0, .slice (some ⟨g3, 0, none⟩) 1 1]) :: (g3, 5, (aF .u8 1 (lit1 1))) :: (g1, 22, (aF .u8 32 k)) :: (buf q1x t1x s1x))) (cs := (aF .u8 32 zF)) (aF .u8 32 (expT K S k 0 zF 1)) rfl (by kernel_rfl) (by kernel_rfl) hO10 (by simp only [size_aF]) (by kernel_rfl) (one_aF _ _ _)) (fun _ _ h => (Own.sub h (.cons _ (.cons _ (.cons _ (.cons_cons _ (List.nil_sublist _))))))) fun _ w11 hO11 => ?_
            try clear hO10
            try simp only [List.nil_append, List.cons_append] at hO11
            try simp only [p0, p1, p2, p3]
            refine wd_nil ?_
            exact hcut g3 g4 q1x c1x g9 _ (Own.sub hO11 (.cons_cons _ (.cons _ (.cons _ (.cons_cons _ (List.nil_sublist _))))))
        · skip
          refine nx_runs rfl (some 11) (by kernel_rfl) rfl (r_new 22 (aF .u8 32 zF) (by kernel_rfl) hO4) (fun _ _ h => h.tail.tail.tail) fun g12 w12 hO12 => ?_
          try clear hO4
          try simp only [List.nil_append, List.cons_append] at hO12
          try simp only [p0, p1, p2, p3]
          refine wd_runs rfl (some 30) (by kernel_rfl) rfl (r_txt (args := #[.slice (some ⟨g4, 0, none⟩) 3 3]) (by kernel_rfl) (concat3_any (p0 := none) (n0 := 0) (c0 := 0) (p1 := none) (n1 := 0) (c1 := 0) (p2 := some ⟨g3, 0, none⟩) (n2 := 1) (c2 := 1) (f0 := zF) (f1 := zF) (f2 := (lit1 1)) (((hO12.get (.tail _ (.head _))).cell 0).trans rfl) (((hO12.get (.tail _ (.head _))).cell 1).trans rfl) (((hO12.get (.tail _ (.head _))).cell 2).trans rfl) (.inl ⟨rfl, none, 0, rfl⟩) (.inl ⟨rfl, none, 0, rfl⟩) (RdC.rdf (rdc_own1 hO12 (.tail _ (.tail _ (.head _))) 1 (by decide)) (by decide)) (by decide)) hO12) (by rintro _ _ ⟨q2x, c2x, t2x, s2x, rfl, h, hB2x⟩; exact (Own.sub h (.cons _ (.cons _ (.cons _ (.cons_cons _ (List.nil_sublist _))))))) ?_
          rintro _ w13 ⟨q2x, c2x, t2x, s2x, rfl, hO13, hB2x⟩
          try clear hO12
          try simp only [List.nil_append, List.cons_append] at hO13
          try simp only [p0, p1, p2, p3]
          refine wd_runs rfl (some 31) (by kernel_rfl) rfl (r_call (args := #[.slice (some ⟨g1, 0, none⟩) 32 32, .slice q2x (0 + 0 + 1) c2x]) (u := .agg (aF .u8 32 (expT K S k 0 zF 1))) (by kernel_rfl) (hmac_any (K := K) (S := S) (k := k) (b := (cat (cat zF 0 zF) (0 + 0) (lit1 1))) (t2 := t2) (t3 := t3) (hS.under hO13.bl) (hK.under hO13.bl) (rdc_own1 hO13 (.tail _ (.tail _ (.tail _ (.head _)))) 32 (by decide)) (Rd.rdf (t := t2x) hB2x.rd hO13 (by intro g e; subst e; simp [buf])) (by decide)) hO13) (fun _ _ h => (Own.sub h (.cons _ (.cons _ (.cons _ (.cons_cons _ (List.nil_sublist _))))))) fun _ w14 hO14 => ?_
          try clear hO13
          try simp only [List.nil_append, List.cons_append] at hO14
          try simp only [p0, p1, p2, p3]
          refine wd_runs rfl none (by kernel_rfl) rfl (r_row (L1 := []) (L2 := ((g4, 23, #[.slice none 0 0, .slice none 0 0, .slice (some ⟨g3, 0, none⟩) 1 1]) :: (g3, 5, (aF .u8 1 (lit1 1))) :: (g1, 22, (aF .u8 32 k)) :: (buf q2x t2x s2x))) (cs := (aF .u8 32 zF)) (aF .u8 32 (expT K S k 0 zF 1)) rfl (by kernel_rfl) (by kernel_rfl) hO14 (by simp only [size_aF]) (by kernel_rfl) (one_aF _ _ _)) (fun _ _ h => (Own.sub h (.cons _ (.cons _ (.cons _ (.cons_cons _ (List.nil_sublist _))))))) fun _ w15 hO15 => ?_
          try clear hO14
          try simp only [List.nil_append, List.cons_append] at hO15
          try simp only [p0, p1, p2, p3]
          refine wd_nil ?_
          exact hcut g3 g4 q2x c2x g12 _ (Own.sub hO15 (.cons_cons _ (.cons _ (.cons _ (.cons_cons _ (List.nil_sublist _))))))
      · skip
        refine nx_runs rfl (some 11) (by kernel_rfl) rfl (r_new 22 (aF .u8 32 zF) (by kernel_rfl) hO3) (fun _ _ h => h.tail.tail) fun g16 w16 hO16 => ?_
        try clear hO3
        try simp only [List.nil_append, List.cons_append] at hO16
        try simp only [p0, p1, p2, p3]
        refine wd_runs rfl (some 29) (by kernel_rfl) rfl (r_bs 23 #[.slice none 0 0, .slice none 0 0, .slice (some ⟨g3, 0, none⟩) 1 1] 3 (by kernel_rfl) hO16) (fun _ _ h => h.tail.tail.tail) fun g17 w17 hO17 => ?_
        try clear hO16
        try simp only [List.nil_append, List.cons_append] at hO17
        try simp only [p0, p1, p2, p3]
        refine wd_runs rfl (some 30) (by kernel_rfl) rfl (r_txt (args := #[.slice (some ⟨g17, 0, none⟩) 3 3]) (by kernel_rfl) (concat3_any (p0 := none) (n0 := 0) (c0 := 0) (p1 := none) (n1 := 0) (c1 := 0) (p2 := some ⟨g3, 0, none⟩) (n2 := 1) (c2 := 1) (f0 := zF) (f1 := zF) (f2 := (lit1 1)) (((hO17.get (.head _)).cell 0).trans rfl) (((hO17.get (.head _)).cell 1).trans rfl) (((hO17.get (.head _)).cell 2).trans rfl) (.inl ⟨rfl, none, 0, rfl⟩) (.inl ⟨rfl, none, 0, rfl⟩) (RdC.rdf (rdc_own1 hO17 (.tail _ (.tail _ (.head _))) 1 (by decide)) (by decide)) (by decide)) hO17) (by rintro _ _ ⟨q3x, c3x, t3x, s3x, rfl, h, hB3x⟩; exact (Own.sub h (.cons _ (.cons _ (.cons _ (.cons_cons _ (List.nil_sublist _))))))) ?_
        rintro _ w18 ⟨q3x, c3x, t3x, s3x, rfl, hO18, hB3x⟩
        try clear hO17
        try simp only [List.nil_append, List.cons_append] at hO18
        try simp only [p0, p1, p2, p3]
        refine wd_runs rfl (some 31) (by kernel_rfl) rfl (r_call (args := #[.slice (some ⟨g1, 0, none⟩) 32 32, .slice q3x (0 + 0 + 1) c3x]) (u := .agg (aF .u8 32 (expT K S k 0 zF 1))) (by kernel_rfl) (hmac_any (K := K) (S := S) (k := k) (b := (cat (cat zF 0 zF) (0 + 0) (lit1 1))) (t2 := t2) (t3 := t3) (hS.under hO18.bl) (hK.under hO18.bl) (rdc_own1 hO18 (.tail _ (.tail _ (.tail _ (.head _)))) 32 (by decide)) (Rd.rdf (t := t3x) hB3x.rd hO18 (by intro g e; subst e; simp [buf])) (by decide)) hO18) (fun _ _ h => (Own.sub h (.cons _ (.cons _ (.cons _ (.cons_cons _ (List.nil_sublist _))))))) fun _ w19 hO19 => ?_
        try clear hO18
        try simp only [List.nil_append, List.cons_append] at hO19
        try simp only [p0, p1, p2, p3]
        refine wd_runs rfl none (by kernel_rfl) rfl (r_row (L1 := [(g17, 23, #[.slice none 0 0, .slice none 0 0, .slice (some ⟨g3, 0, none⟩) 1 1])]) (L2 := ((g3, 5, (aF .u8 1 (lit1 1))) :: (g1, 22, (aF .u8 32 k)) :: (buf q3x t3x s3x))) (cs := (aF .u8 32 zF)) (aF .u8 32 (expT K S k 0 zF 1)) rfl (by kernel_rfl) (by kernel_rfl) hO19 (by simp only [size_aF]) (by kernel_rfl) (one_aF _ _ _)) (fun _ _ h => (Own.sub h (.cons _ (.cons _ (.cons _ (.cons_cons _ (List.nil_sublist _))))))) fun _ w20 hO20 => ?_
        try clear hO19
        try simp only [List.nil_append, List.cons_append] at hO20
        try simp only [p0, p1, p2, p3]
        refine wd_nil ?_
        exact hcut g3 g17 q3x c3x g16 _ (Own.sub hO20 (.cons _ (.cons_cons _ (.cons _ (.cons_cons _ (List.nil_sublist _))))))
    · skip
      refine nx_runs rfl (some 11) (by kernel_rfl) rfl (r_new 22 (aF .u8 32 zF) (by kernel_rfl) hO2) (fun _ _ h => h.tail) fun g21 w21 hO21 => ?_
      try clear hO2
      try simp only [List.nil_append, List.cons_append] at hO21
      try simp only [p0, p1, p2, p3]
      refine wd_runs rfl (some 28) (by kernel_rfl) rfl (r_bs 5 (aF .u8 1 (lit1 1)) 1 (by kernel_rfl) hO21) (fun _ _ h => h.tail.tail) fun g22 w22 hO22 => ?_
      try clear hO21
      try simp only [List.nil_append, List.cons_append] at hO22
      try simp only [p0, p1, p2, p3]
      refine wd_runs rfl (some 29) (by kernel_rfl) rfl (r_bs 23 #[.slice none 0 0, .slice none 0 0, .slice (some ⟨g22, 0, none⟩) 1 1] 3 (by kernel_rfl) hO22) (fun _ _ h => h.tail.tail.tail) fun g23 w23 hO23 => ?_
      try clear hO22
      try simp only [List.nil_append, List.cons_append] at hO23
      try simp only [p0, p1, p2, p3]
      refine wd_runs rfl (some 30) (by kernel_rfl) rfl (r_txt (args := #[.slice (some ⟨g23, 0, none⟩) 3 3]) (by kernel_rfl) (concat3_any (p0 := none) (n0 := 0) (c0 := 0) (p1 := none) (n1 := 0) (c1 := 0) (p2 := some ⟨g22, 0, none⟩) (n2 := 1) (c2 := 1) (f0 := zF) (f1 := zF) (f2 := (lit1 1)) (((hO23.get (.head _)).cell 0).trans rfl) (((hO23.get (.head _)).cell 1).trans rfl) (((hO23.get (.head _)).cell 2).trans rfl) (.inl ⟨rfl, none, 0, rfl⟩) (.inl ⟨rfl, none, 0, rfl⟩) (RdC.rdf (rdc_own1 hO23 (.tail _ (.head _)) 1 (by decide)) (by decide)) (by decide)) hO23) (by rintro _ _ ⟨q4x, c4x, t4x, s4x, rfl, h, hB4x⟩; exact (Own.sub h (.cons _ (.cons _ (.cons _ (.cons_cons _ (List.nil_sublist _))))))) ?_
      rintro _ w24 ⟨q4x, c4x, t4x, s4x, rfl, hO24, hB4x⟩
      try clear hO23
      try simp only [List.nil_append, List.cons_append] at hO24
      try simp only [p0, p1, p2, p3]
      refine wd_runs rfl (some 31) (by kernel_rfl) rfl (r_call (args := #[.slice (some ⟨g1, 0, none⟩) 32 32, .slice q4x (0 + 0 + 1) c4x]) (u := .agg (aF .u8 32 (expT K S k 0 zF 1))) (by kernel_rfl) (hmac_any (K := K) (S := S) (k := k) (b := (cat (cat zF 0 zF) (0 + 0) (lit1 1))) (t2 := t2) (t3 := t3) (hS.under hO24.bl) (hK.under hO24.bl) (rdc_own1 hO24 (.tail _ (.tail _ (.tail _ (.head _)))) 32 (by decide)) (Rd.rdf (t := t4x) hB4x.rd hO24 (by intro g e; subst e; simp [buf])) (by decide)) hO24) (fun _ _ h => (Own.sub h (.cons _ (.cons _ (.cons _ (.cons_cons _ (List.nil_sublist _))))))) fun _ w25 hO25 => ?_
      try clear hO24
      try simp only [List.nil_append, List.cons_append] at hO25
      try simp only [p0, p1, p2, p3]
      refine wd_runs rfl none (by kernel_rfl) rfl (r_row (L1 := [(g23, 23, #[.slice none 0 0, .slice none 0 0, .slice (some ⟨g22, 0, none⟩) 1 1]), (g22, 5, (aF .u8 1 (lit1 1)))]) (L2 := ((g1, 22, (aF .u8 32 k)) :: (buf q4x t4x s4x))) (cs := (aF .u8 32 zF)) (aF .u8 32 (expT K S k 0 zF 1)) rfl (by kernel_rfl) (by kernel_rfl) hO25 (by simp only [size_aF]) (by kernel_rfl) (one_aF _ _ _)) (fun _ _ h => (Own.sub h (.cons _ (.cons _ (.cons _ (.cons_cons _ (List.nil_sublist _))))))) fun _ w26 hO26 => ?_
      try clear hO25
      try simp only [List.nil_append, List.cons_append] at hO26
      try simp only [p0, p1, p2, p3]
      refine wd_nil ?_
      exact hcut g22 g23 q4x c4x g21 _ (Own.sub hO26 (.cons _ (.cons _ (.cons_cons _ (.cons_cons _ (List.nil_sublist _))))))
  intro g22 g23 q4x c4x g21 w27 hO27
  show Code.wp _ _ _ _ _
  refine wp_seq ?_
  refine wl_region ?_
  refine wl_pure (.slice (some ⟨g21, 0, none⟩) 32 32) rfl (by kernel_rfl) ?_
  try simp only [p0, p1, p2, p3]
  refine wl_pure (.slice (some ⟨g21, 0, none⟩) 32 32) rfl (by kernel_rfl) ?_
  try simp only [p0, p1, p2, p3]
  refine wl_nil ?_
  show Code.wp _ _ _ _ _
  refine wl_region ?_
  refine wl_pure (.slice none 0 0) rfl (by kernel_rfl) ?_
  try simp only [p0, p1, p2, p3]
  refine wl_pure (.slice (some ⟨g21, 0, none⟩) 32 32) rfl (by kernel_rfl) ?_
  try simp only [p0, p1, p2, p3]
  refine wl_runs rfl (r_app1 (g' := g21) (o' := 0) (n := 0) (c := 0) (m := 32) (mc := 32) (q := none) (f := zF) (t0 := 0) (t := 23) (tx := 23) (ty := 23) (e := 5) (e' := 5) (cs := #[]) (L := ((g21, 22, (aF .u8 32 (expT K S k 0 zF 1))) :: (g1, 22, (aF .u8 32 k)) :: [])) (s := (expT K S k 0 zF 1)) (by kernel_rfl) Tryd.underlying23 Tryd.underlying23 (by kernel_rfl) (rdc_own1 hO27 (.head _) 32 (by decide)) (by omega) (by omega) Buf.nil hO27) ?_
  rintro _ w28 ⟨q5b, c5b, t5b, s5b, rfl, hO28, hb5b⟩
  clear hO27
  try simp only [List.nil_append, List.cons_append] at hO28
  try simp only [p0, p1, p2, p3]
  refine wl_pure (.slice q5b 32 c5b) rfl (by kernel_rfl) ?_
  try simp only [p0, p1, p2, p3]
  refine wl_nil ?_
  show Code.wp _ _ _ _ _
  refine wl_region ?_
  refine wl_pure (.int .u8 1) rfl (by kernel_rfl) ?_
  try simp only [p0, p1, p2, p3]
  refine wl_pure (.int .u8 2) rfl (by kernel_rfl) ?_
  try simp only [p0, p1, p2, p3]
  refine wl_pure (.int .u8 2) rfl (by kernel_rfl) ?_
  try simp only [p0, p1, p2, p3]
  refine wl_nil ?_
  show Code.rounds _ _ _ _ _ _
  rw [rounds_succ]
  refine wp_seq ?_
  refine wp_seq ?_
  refine wl_region ?_
  refine wl_pure (.slice q5b 32 c5b) rfl (by kernel_rfl) ?_
  try simp only [p0, p1, p2, p3]
  refine wl_pure (.int .i64 32) rfl (by kernel_rfl) ?_
  try simp only [p0, p1, p2, p3]
  refine wl_pure (.int .i64 64) rfl (by kernel_rfl) ?_
  try simp only [p0, p1, p2, p3]
  refine wl_pure (.bool true) rfl (by kernel_rfl) ?_
  try simp only [p0, p1, p2, p3]
  refine wl_nil ?_
  show Code.wp _ _ _ _ _
  refine wp_cond_true rfl ?_
  refine wp_skip ?_
  show Code.wp _ _ _ _ _
  refine wp_seq ?_
  refine wp_block ?_
  refine wp_seq ?_
  refine wd_region [] (Tr.ofList [(0, 1), (1, 1), (2, 1), (3, 1)] (.br 4 8 (.br 5 8 (.br 6 8 (.br 7 8 (Tr.ofList [(8, 3), (9, 3)] .nil) (Tr.ofList [(7, 3), (9, 3)] .nil)) (Tr.ofList [(6, 3), (7, 3), (9, 3)] .nil)) (Tr.ofList [(5, 3), (6, 3), (7, 3), (9, 3)] .nil)) (Tr.ofList [(4, 3), (5, 3), (6, 3), (7, 3), (9, 3)] .nil))) (by decide) (by kernel_rfl) (by kernel_rfl) hO28 fun w29 hO29 => ?_
  simp only [Tr.ofList]
  try clear hO28
  apply wd_cut5 (C := fun (g49 : Nat) (g50 : Nat) (q9x : Option Addr) (c9x : Nat) (g48 : Nat) wc => Own w ((g48, 22, (aF .u8 32 (expT K S k 32 (expT K S k 0 zF 1) 2))) :: (g21, 22, (aF .u8 32 (expT K S k 0 zF 1))) :: (g1, 22, (aF .u8 32 k)) :: (buf q5b t5b s5b)) wc)
  case h =>
    intro hcut
    refine wd_ld (.slice (some ⟨g1, 0, none⟩) 32 32) rfl (some 24) (by kernel_rfl) (by kernel_rfl) (fun _ hw => by kernel_rfl) hO29 ?_
    try simp only [p0, p1, p2, p3]
    refine wd_ld (.slice (some ⟨g21, 0, none⟩) 32 32) rfl (some 25) (by kernel_rfl) (by kernel_rfl) (fun _ hw => by kernel_rfl) hO29 ?_
    try simp only [p0, p1, p2, p3]
    refine wd_ld (.slice none 0 0) rfl (some 26) (by kernel_rfl) (by kernel_rfl) (fun _ hw => by kernel_rfl) hO29 ?_
    try simp only [p0, p1, p2, p3]
    refine wd_ld (.int .u8 2) rfl (some 27) (by kernel_rfl) (by kernel_rfl) (fun _ hw => by kernel_rfl) hO29 ?_
    try simp only [p0, p1, p2, p3]
    refine wd_br ?_ ?_
    · skip
      refine nx_runs rfl (some 28) (by kernel_rfl) rfl (r_bs 5 (aF .u8 1 (lit1 2)) 1 (by kernel_rfl) hO29) (fun _ _ h => h.tail) fun g30 w30 hO30 => ?_
      try clear hO29
      try simp only [List.nil_append, List.cons_append] at hO30
      try simp only [p0, p1, p2, p3]
      refine wd_br ?_ ?_
      · skip
        refine nx_runs rfl (some 29) (by kernel_rfl) rfl (r_bs 23 #[.slice (some ⟨g21, 0, none⟩) 32 32, .slice none 0 0, .slice (some ⟨g30, 0, none⟩) 1 1] 3 (by kernel_rfl) hO30) (fun _ _ h => h.tail.tail) fun g31 w31 hO31 => ?_
        try clear hO30
        try simp only [List.nil_append, List.cons_append] at hO31
        try simp only [p0, p1, p2, p3]
        refine wd_br ?_ ?_
        · skip
          refine nx_runs rfl (some 30) (by kernel_rfl) rfl (r_txt (args := #[.slice (some ⟨g31, 0, none⟩) 3 3]) (by kernel_rfl) (concat3_any (p0 := some ⟨g21, 0, none⟩) (n0 := 32) (c0 := 32) (p1 := none) (n1 := 0) (c1 := 0) (p2 := some ⟨g30, 0, none⟩) (n2 := 1) (c2 := 1) (f0 := (expT K S k 0 zF 1)) (f1 := zF) (f2 := (lit1 2)) (((hO31.get (.head _)).cell 0).trans rfl) (((hO31.get (.head _)).cell 1).trans rfl) (((hO31.get (.head _)).cell 2).trans rfl) (RdC.rdf (rdc_own1 hO31 (.tail _ (.tail _ (.head _))) 32 (by decide)) (by decide)) (.inl ⟨rfl, none, 0, rfl⟩) (RdC.rdf (rdc_own1 hO31 (.tail _ (.head _)) 1 (by decide)) (by decide)) (by decide)) hO31) (by rintro _ _ ⟨q6x, c6x, t6x, s6x, rfl, h, hB6x⟩; exact (Own.sub h (.cons _ (.cons _ (.cons_cons _ (.cons_cons _ (List.sublist_append_left _ _))))))) ?_
          rintro _ w32 ⟨q6x, c6x, t6x, s6x, rfl, hO32, hB6x⟩
          try clear hO31
          try simp only [List.nil_append, List.cons_append] at hO32
          try simp only [p0, p1, p2, p3]
          refine wd_br ?_ ?_
          · skip
            refine nx_runs rfl (some 31) (by kernel_rfl) rfl (r_call (args := #[.slice (some ⟨g1, 0, none⟩) 32 32, .slice q6x (32 + 0 + 1) c6x]) (u := .agg (aF .u8 32 (expT K S k 32 (expT K S k 0 zF 1) 2))) (by kernel_rfl) (hmac_any (K := K) (S := S) (k := k) (b := (cat (cat (expT K S k 0 zF 1) 32 zF) (32 + 0) (lit1 2))) (t2 := t2) (t3 := t3) (hS.under hO32.bl) (hK.under hO32.bl) (rdc_own1 hO32 (.tail _ (.tail _ (.tail _ (.head _)))) 32 (by decide)) (Rd.rdf (t := t6x) hB6x.rd hO32 (by intro g e; subst e; simp [buf])) (by decide)) hO32) (fun _ _ h => (Own.sub h (.cons _ (.cons _ (.cons_cons _ (.cons_cons _ (List.sublist_append_left _ _))))))) fun _ w33 hO33 => ?_
            try clear hO32
            try simp only [List.nil_append, List.cons_append] at hO33
            try simp only [p0, p1, p2, p3]
            refine wd_runs rfl (some 11) (by kernel_rfl) rfl (r_new 22 (aF .u8 32 zF) (by kernel_rfl) hO33) (fun _ _ h => (Own.sub h (.cons _ (.cons _ (.cons _ (.cons_cons _ (.cons_cons _ (List.sublist_append_left _ _)))))))) fun g34 w34 hO34 => ?_
            try clear hO33
            try simp only [List.nil_append, List.cons_append] at hO34
            try simp only [p0, p1, p2, p3]
            refine wd_runs rfl none (by kernel_rfl) rfl (r_row (L1 := []) (L2 := ((g31, 23, #[.slice (some ⟨g21, 0, none⟩) 32 32, .slice none 0 0, .slice (some ⟨g30, 0, none⟩) 1 1]) :: (g30, 5, (aF .u8 1 (lit1 2))) :: (g21, 22, (aF .u8 32 (expT K S k 0 zF 1))) :: (g1, 22, (aF .u8 32 k)) :: ((buf q5b t5b s5b) ++ buf q6x t6x s6x))) (cs := (aF .u8 32 zF)) (aF .u8 32 (expT K S k 32 (expT K S k 0 zF 1) 2)) rfl (by kernel_rfl) (by kernel_rfl) hO34 (by simp only [size_aF]) (by kernel_rfl) (one_aF _ _ _)) (fun _ _ h => (Own.sub h (.cons _ (.cons _ (.cons _ (.cons_cons _ (.cons_cons _ (List.sublist_append_left _ _)))))))) fun _ w35 hO35 => ?_
            try clear hO34
            try simp only [List.nil_append, List.cons_append] at hO35
            try simp only [p0, p1, p2, p3]
            refine wd_nil ?_
            exact hcut g30 g31 q6x c6x g34 _ (Own.sub hO35 (.cons_cons _ (.cons _ (.cons _ (.cons_cons _ (.cons_cons _ (List.sublist_append_left _ _)))))))
          · skip
            refine nx_runs rfl (some 11) (by kernel_rfl) rfl (r_new 22 (aF .u8 32 zF) (by kernel_rfl) hO32) (fun _ _ h => (Own.sub h (.cons _ (.cons _ (.cons _ (.cons_cons _ (.cons_cons _ (List.sublist_append_left _ _)))))))) fun g36 w36 hO36 => ?_
            try clear hO32
            try simp only [List.nil_append, List.cons_append] at hO36
            try simp only [p0, p1, p2, p3]
            refine wd_runs rfl (some 31) (by kernel_rfl) rfl (r_call (args := #[.slice (some ⟨g1, 0, none⟩) 32 32, .slice q6x (32 + 0 + 1) c6x]) (u := .agg (aF .u8 32 (expT K S k 32 (expT K S k 0 zF 1) 2))) (by kernel_rfl) (hmac_any (K := K) (S := S) (k := k) (b := (cat (cat (expT K S k 0 zF 1) 32 zF) (32 + 0) (lit1 2))) (t2 := t2) (t3 := t3) (hS.under hO36.bl) (hK.under hO36.bl) (rdc_own1 hO36 (.tail _ (.tail _ (.tail _ (.tail _ (.head _))))) 32 (by decide)) (Rd.rdf (t := t6x) hB6x.rd hO36 (by intro g e; subst e; simp [buf])) (by decide)) hO36) (fun _ _ h => (Own.sub h (.cons _ (.cons _ (.cons _ (.cons_cons _ (.cons_cons _ (List.sublist_append_left _ _)))))))) fun _ w37 hO37 => ?_
            try clear hO36
            try simp only [List.nil_append, List.cons_append] at hO37
            try simp only [p0, p1, p2, p3]
            refine wd_runs rfl none (by kernel_rfl) rfl (r_row (L1 := []) (L2 := ((g31, 23, #[.slice (some ⟨g21, 0, none⟩) 32 32, .slice none 0 0, .slice (some ⟨g30, 0, none⟩) 1 1]) :: (g30, 5, (aF .u8 1 (lit1 2))) :: (g21, 22, (aF .u8 32 (expT K S k 0 zF 1))) :: (g1, 22, (aF .u8 32 k)) :: ((buf q5b t5b s5b) ++ buf q6x t6x s6x))) (cs := (aF .u8 32 zF)) (aF .u8 32 (expT K S k 32 (expT K S k 0 zF 1) 2)) rfl (by kernel_rfl) (by kernel_rfl) hO37 (by simp only [size_aF]) (by kernel_rfl) (one_aF _ _ _)) (fun _ _ h => (Own.sub h (.cons _ (.cons _ (.cons _ (.cons_cons _ (.cons_cons _ (List.sublist_append_left _ _)))))))) fun _ w38 hO38 => ?_
            try clear hO37
            try simp only [List.nil_append, List.cons_append] at hO38
            try simp only [p0, p1, p2, p3]
            refine wd_nil ?_
            exact hcut g30 g31 q6x c6x g36 _ (Own.sub hO38 (.cons_cons _ (.cons _ (.cons _ (.cons_cons _ (.cons_cons _ (List.sublist_append_left _ _)))))))
        · skip
          refine nx_runs rfl (some 11) (by kernel_rfl) rfl (r_new 22 (aF .u8 32 zF) (by kernel_rfl) hO31) (fun _ _ h => h.tail.tail.tail) fun g39 w39 hO39 => ?_
          try clear hO31
          try simp only [List.nil_append, List.cons_append] at hO39
          try simp only [p0, p1, p2, p3]
          refine wd_runs rfl (some 30) (by kernel_rfl) rfl (r_txt (args := #[.slice (some ⟨g31, 0, none⟩) 3 3]) (by kernel_rfl) (concat3_any (p0 := some ⟨g21, 0, none⟩) (n0 := 32) (c0 := 32) (p1 := none) (n1 := 0) (c1 := 0) (p2 := some ⟨g30, 0, none⟩) (n2 := 1) (c2 := 1) (f0 := (expT K S k 0 zF 1)) (f1 := zF) (f2 := (lit1 2)) (((hO39.get (.tail _ (.head _))).cell 0).trans rfl) (((hO39.get (.tail _ (.head _))).cell 1).trans rfl) (((hO39.get (.tail _ (.head _))).cell 2).trans rfl) (RdC.rdf (rdc_own1 hO39 (.tail _ (.tail _ (.tail _ (.head _)))) 32 (by decide)) (by decide)) (.inl ⟨rfl, none, 0, rfl⟩) (RdC.rdf (rdc_own1 hO39 (.tail _ (.tail _ (.head _))) 1 (by decide)) (by decide)) (by decide)) hO39) (by rintro _ _ ⟨q7x, c7x, t7x, s7x, rfl, h, hB7x⟩; exact (Own.sub h (.cons _ (.cons _ (.cons _ (.cons_cons _ (.cons_cons _ (List.sublist_append_left _ _)))))))) ?_
          rintro _ w40 ⟨q7x, c7x, t7x, s7x, rfl, hO40, hB7x⟩
          try clear hO39
          try simp only [List.nil_append, List.cons_append] at hO40
          try simp only [p0, p1, p2, p3]
          refine wd_runs rfl (some 31) (by kernel_rfl) rfl (r_call (args := #[.slice (some ⟨g1, 0, none⟩) 32 32, .slice q7x (32 + 0 + 1) c7x]) (u := .agg (aF .u8 32 (expT K S k 32 (expT K S k 0 zF 1) 2))) (by kernel_rfl) (hmac_any (K := K) (S := S) (k := k) (b := (cat (cat (expT K S k 0 zF 1) 32 zF) (32 + 0) (lit1 2))) (t2 := t2) (t3 := t3) (hS.under hO40.bl) (hK.under hO40.bl) (rdc_own1 hO40 (.tail _ (.tail _ (.tail _ (.tail _ (.head _))))) 32 (by decide)) (Rd.rdf (t := t7x) hB7x.rd hO40 (by intro g e; subst e; simp [buf])) (by decide)) hO40) (fun _ _ h => (Own.sub h (.cons _ (.cons _ (.cons _ (.cons_cons _ (.cons_cons _ (List.sublist_append_left _ _)))))))) fun _ w41 hO41 => ?_
          try clear hO40
          try simp only [List.nil_append, List.cons_append] at hO41
          try simp only [p0, p1, p2, p3]
          refine wd_runs rfl none (by kernel_rfl) rfl (r_row (L1 := []) (L2 := ((g31, 23, #[.slice (some ⟨g21, 0, none⟩) 32 32, .slice none 0 0, .slice (some ⟨g30, 0, none⟩) 1 1]) :: (g30, 5, (aF .u8 1 (lit1 2))) :: (g21, 22, (aF .u8 32 (expT K S k 0 zF 1))) :: (g1, 22, (aF .u8 32 k)) :: ((buf q5b t5b s5b) ++ buf q7x t7x s7x))) (cs := (aF .u8 32 zF)) (aF .u8 32 (expT K S k 32 (expT K S k 0 zF 1) 2)) rfl (by kernel_rfl) (by kernel_rfl) hO41 (by simp only [size_aF]) (by kernel_rfl) (one_aF _ _ _)) (fun _ _ h => (Own.sub h (.cons _ (.cons _ (.cons _ (.cons_cons _ (.cons_cons _ (List.sublist_append_left _ _)))))))) fun _ w42 hO42 => ?_
          try clear hO41
          try simp only [List.nil_append, List.cons_append] at hO42
          try simp only [p0, p1, p2, p3]
          refine wd_nil ?_
          exact hcut g30 g31 q7x c7x g39 _ (Own.sub hO42 (.cons_cons _ (.cons _ (.cons _ (.cons_cons _ (.cons_cons _ (List.sublist_append_left _ _)))))))
      · skip
        refine nx_runs rfl (some 11) (by kernel_rfl) rfl (r_new 22 (aF .u8 32 zF) (by kernel_rfl) hO30) (fun _ _ h => h.tail.tail) fun g43 w43 hO43 => ?_
        try clear hO30
        try simp only [List.nil_append, List.cons_append] at hO43
        try simp only [p0, p1, p2, p3]
        refine wd_runs rfl (some 29) (by kernel_rfl) rfl (r_bs 23 #[.slice (some ⟨g21, 0, none⟩) 32 32, .slice none 0 0, .slice (some ⟨g30, 0, none⟩) 1 1] 3 (by kernel_rfl) hO43) (fun _ _ h => h.tail.tail.tail) fun g44 w44 hO44 => ?_
        try clear hO43
        try simp only [List.nil_append, List.cons_append] at hO44
        try simp only [p0, p1, p2, p3]
        refine wd_runs rfl (some 30) (by kernel_rfl) rfl (r_txt (args := #[.slice (some ⟨g44, 0, none⟩) 3 3]) (by kernel_rfl) (concat3_any (p0 := some ⟨g21, 0, none⟩) (n0 := 32) (c0 := 32) (p1 := none) (n1 := 0) (c1 := 0) (p2 := some ⟨g30, 0, none⟩) (n2 := 1) (c2 := 1) (f0 := (expT K S k 0 zF 1)) (f1 := zF) (f2 := (lit1 2)) (((hO44.get (.head _)).cell 0).trans rfl) (((hO44.get (.head _)).cell 1).trans rfl) (((hO44.get (.head _)).cell 2).trans rfl) (RdC.rdf (rdc_own1 hO44 (.tail _ (.tail _ (.tail _ (.head _)))) 32 (by decide)) (by decide)) (.inl ⟨rfl, none, 0, rfl⟩) (RdC.rdf (rdc_own1 hO44 (.tail _ (.tail _ (.head _))) 1 (by decide)) (by decide)) (by decide)) hO44) (by rintro _ _ ⟨q8x, c8x, t8x, s8x, rfl, h, hB8x⟩; exact (Own.sub h (.cons _ (.cons _ (.cons _ (.cons_cons _ (.cons_cons _ (List.sublist_append_left _ _)))))))) ?_
        rintro _ w45 ⟨q8x, c8x, t8x, s8x, rfl, hO45, hB8x⟩
        try clear hO44
        try simp only [List.nil_append, List.cons_append] at hO45
        try simp only [p0, p1, p2, p3]
        refine wd_runs rfl (some 31) (by kernel_rfl) rfl (r_call (args := #[.slice (some ⟨g1, 0, none⟩) 32 32, .slice q8x (32 + 0 + 1) c8x]) (u := .agg (aF .u8 32 (expT K S k 32 (expT K S k 0 zF 1) 2))) (by kernel_rfl) (hmac_any (K := K) (S := S) (k := k) (b := (cat (cat (expT K S k 0 zF 1) 32 zF) (32 + 0) (lit1 2))) (t2 := t2) (t3 := t3) (hS.under hO45.bl) (hK.under hO45.bl) (rdc_own1 hO45 (.tail _ (.tail _ (.tail _ (.tail _ (.head _))))) 32 (by decide)) (Rd.rdf (t := t8x) hB8x.rd hO45 (by intro g e; subst e; simp [buf])) (by decide)) hO45) (fun _ _ h => (Own.sub h (.cons _ (.cons _ (.cons _ (.cons_cons _ (.cons_cons _ (List.sublist_append_left _ _)))))))) fun _ w46 hO46 => ?_
        try clear hO45
        try simp only [List.nil_append, List.cons_append] at hO46
        try simp only [p0, p1, p2, p3]
        refine wd_runs rfl none (by kernel_rfl) rfl (r_row (L1 := [(g44, 23, #[.slice (some ⟨g21, 0, none⟩) 32 32, .slice none 0 0, .slice (some ⟨g30, 0, none⟩) 1 1])]) (L2 := ((g30, 5, (aF .u8 1 (lit1 2))) :: (g21, 22, (aF .u8 32 (expT K S k 0 zF 1))) :: (g1, 22, (aF .u8 32 k)) :: ((buf q5b t5b s5b) ++ buf q8x t8x s8x))) (cs := (aF .u8 32 zF)) (aF .u8 32 (expT K S k 32 (expT K S k 0 zF 1) 2)) rfl (by kernel_rfl) (by kernel_rfl) hO46 (by simp only [size_aF]) (by kernel_rfl) (one_aF _ _ _)) (fun _ _ h => (Own.sub h (.cons _ (.cons _ (.cons _ (.cons_cons _ (.cons_cons _ (List.sublist_append_left _ _)))))))) fun _ w47 hO47 => ?_
        try clear hO46
        try simp only [List.nil_append, List.cons_append] at hO47
        try simp only [p0, p1, p2, p3]
        refine wd_nil ?_
        exact hcut g30 g44 q8x c8x g43 _ (Own.sub hO47 (.cons _ (.cons_cons _ (.cons _ (.cons_cons _ (.cons_cons _ (List.sublist_append_left _ _)))))))
    · skip
      refine nx_runs rfl (some 11) (by kernel_rfl) rfl (r_new 22 (aF .u8 32 zF) (by kernel_rfl) hO29) (fun _ _ h => h.tail) fun g48 w48 hO48 => ?_
      try clear hO29
      try simp only [List.nil_append, List.cons_append] at hO48
      try simp only [p0, p1, p2, p3]
      refine wd_runs rfl (some 28) (by kernel_rfl) rfl (r_bs 5 (aF .u8 1 (lit1 2)) 1 (by kernel_rfl) hO48) (fun _ _ h => h.tail.tail) fun g49 w49 hO49 => ?_
      try clear hO48
      try simp only [List.nil_append, List.cons_append] at hO49
      try simp only [p0, p1, p2, p3]
      refine wd_runs rfl (some 29) (by kernel_rfl) rfl (r_bs 23 #[.slice (some ⟨g21, 0, none⟩) 32 32, .slice none 0 0, .slice (some ⟨g49, 0, none⟩) 1 1] 3 (by kernel_rfl) hO49) (fun _ _ h => h.tail.tail.tail) fun g50 w50 hO50 => ?_
      try clear hO49
      try simp only [List.nil_append, List.cons_append] at hO50
      try simp only [p0, p1, p2, p3]
      refine wd_runs rfl (some 30) (by kernel_rfl) rfl (r_txt (args := #[.slice (some ⟨g50, 0, none⟩) 3 3]) (by kernel_rfl) (concat3_any (p0 := some ⟨g21, 0, none⟩) (n0 := 32) (c0 := 32) (p1 := none) (n1 := 0) (c1 := 0) (p2 := some ⟨g49, 0, none⟩) (n2 := 1) (c2 := 1) (f0 := (expT K S k 0 zF 1)) (f1 := zF) (f2 := (lit1 2)) (((hO50.get (.head _)).cell 0).trans rfl) (((hO50.get (.head _)).cell 1).trans rfl) (((hO50.get (.head _)).cell 2).trans rfl) (RdC.rdf (rdc_own1 hO50 (.tail _ (.tail _ (.tail _ (.head _)))) 32 (by decide)) (by decide)) (.inl ⟨rfl, none, 0, rfl⟩) (RdC.rdf (rdc_own1 hO50 (.tail _ (.head _)) 1 (by decide)) (by decide)) (by decide)) hO50) (by rintro _ _ ⟨q9x, c9x, t9x, s9x, rfl, h, hB9x⟩; exact (Own.sub h (.cons _ (.cons _ (.cons _ (.cons_cons _ (.cons_cons _ (List.sublist_append_left _ _)))))))) ?_
      rintro _ w51 ⟨q9x, c9x, t9x, s9x, rfl, hO51, hB9x⟩
      try clear hO50
      try simp only [List.nil_append, List.cons_append] at hO51
      try simp only [p0, p1, p2, p3]
      refine wd_runs rfl (some 31) (by kernel_rfl) rfl (r_call (args := #[.slice (some ⟨g1, 0, none⟩) 32 32, .slice q9x (32 + 0 + 1) c9x]) (u := .agg (aF .u8 32 (expT K S k 32 (expT K S k 0 zF 1) 2))) (by kernel_rfl) (hmac_any (K := K) (S := S) (k := k) (b := (cat (cat (expT K S k 0 zF 1) 32 zF) (32 + 0) (lit1 2))) (t2 := t2) (t3 := t3) (hS.under hO51.bl) (hK.under hO51.bl) (rdc_own1 hO51 (.tail _ (.tail _ (.tail _ (.tail _ (.head _))))) 32 (by decide)) (Rd.rdf (t := t9x) hB9x.rd hO51 (by intro g e; subst e; simp [buf])) (by decide)) hO51) (fun _ _ h => (Own.sub h (.cons _ (.cons _ (.cons _ (.cons_cons _ (.cons_cons _ (List.sublist_append_left _ _)))))))) fun _ w52 hO52 => ?_
      try clear hO51
      try simp only [List.nil_append, List.cons_append] at hO52
      try simp only [p0, p1, p2, p3]
      refine wd_runs rfl none (by kernel_rfl) rfl (r_row (L1 := [(g50, 23, #[.slice (some ⟨g21, 0, none⟩) 32 32, .slice none 0 0, .slice (some ⟨g49, 0, none⟩) 1 1]), (g49, 5, (aF .u8 1 (lit1 2)))]) (L2 := ((g21, 22, (aF .u8 32 (expT K S k 0 zF 1))) :: (g1, 22, (aF .u8 32 k)) :: ((buf q5b t5b s5b) ++ buf q9x t9x s9x))) (cs := (aF .u8 32 zF)) (aF .u8 32 (expT K S k 32 (expT K S k 0 zF 1) 2)) rfl (by kernel_rfl) (by kernel_rfl) hO52 (by simp only [size_aF]) (by kernel_rfl) (one_aF _ _ _)) (fun _ _ h => (Own.sub h (.cons _ (.cons _ (.cons _ (.cons_cons _ (.cons_cons _ (List.sublist_append_left _ _)))))))) fun _ w53 hO53 => ?_
      try clear hO52
      try simp only [List.nil_append, List.cons_append] at hO53
      try simp only [p0, p1, p2, p3]
      refine wd_nil ?_
      exact hcut g49 g50 q9x c9x g48 _ (Own.sub hO53 (.cons _ (.cons _ (.cons_cons _ (.cons_cons _ (.cons_cons _ (List.sublist_append_left _ _)))))))
  intro g49 g50 q9x c9x g48 w54 hO54
  show Code.wp _ _ _ _ _
  refine wp_seq ?_
  refine wl_region ?_
  refine wl_pure (.slice (some ⟨g48, 0, none⟩) 32 32) rfl (by kernel_rfl) ?_
  try simp only [p0, p1, p2, p3]
  refine wl_pure (.slice (some ⟨g48, 0, none⟩) 32 32) rfl (by kernel_rfl) ?_
  try simp only [p0, p1, p2, p3]
  refine wl_nil ?_
  show Code.wp _ _ _ _ _
  refine wl_region ?_
  refine wl_pure (.slice q5b 32 c5b) rfl (by kernel_rfl) ?_
  try simp only [p0, p1, p2, p3]
  refine wl_pure (.slice (some ⟨g48, 0, none⟩) 32 32) rfl (by kernel_rfl) ?_
  try simp only [p0, p1, p2, p3]
  refine wl_runs rfl (r_app1 (g' := g48) (o' := 0) (n := 32) (c := c5b) (m := 32) (mc := 32) (q := q5b) (f := (cat zF 0 (expT K S k 0 zF 1))) (t0 := t5b) (t := 23) (tx := 23) (ty := 23) (e := 5) (e' := 5) (cs := s5b) (L := ((g48, 22, (aF .u8 32 (expT K S k 32 (expT K S k 0 zF 1) 2))) :: (g21, 22, (aF .u8 32 (expT K S k 0 zF 1))) :: (g1, 22, (aF .u8 32 k)) :: [])) (s := (expT K S k 32 (expT K S k 0 zF 1) 2)) (by kernel_rfl) Tryd.underlying23 Tryd.underlying23 (by kernel_rfl) (rdc_own1 hO54 (.head _) 32 (by decide)) (by omega) (by omega) hb5b hO54) ?_
  rintro _ w55 ⟨q10b, c10b, t10b, s10b, rfl, hO55, hb10b⟩
  clear hO54
  try simp only [List.nil_append, List.cons_append] at hO55
  try simp only [p0, p1, p2, p3]
  refine wl_pure (.slice q10b 64 c10b) rfl (by kernel_rfl) ?_
  try simp only [p0, p1, p2, p3]
  refine wl_nil ?_
  show Code.wp _ _ _ _ _
  refine wl_region ?_
  refine wl_pure (.int .u8 2) rfl (by kernel_rfl) ?_
  try simp only [p0, p1, p2, p3]
  refine wl_pure (.int .u8 3) rfl (by kernel_rfl) ?_
  try simp only [p0, p1, p2, p3]
  refine wl_pure (.int .u8 3) rfl (by kernel_rfl) ?_
  try simp only [p0, p1, p2, p3]
  refine wl_nil ?_
  show Code.rounds _ _ _ _ _ _
  rw [rounds_succ]
  refine wp_seq ?_
  refine wp_seq ?_
  refine wl_region ?_
  refine wl_pure (.slice q10b 64 c10b) rfl (by kernel_rfl) ?_
  try simp only [p0, p1, p2, p3]
  refine wl_pure (.int .i64 64) rfl (by kernel_rfl) ?_
  try simp only [p0, p1, p2, p3]
  refine wl_pure (.int .i64 64) rfl (by kernel_rfl) ?_
  try simp only [p0, p1, p2, p3]
  refine wl_pure (.bool false) rfl (by kernel_rfl) ?_
  try simp only [p0, p1, p2, p3]
  refine wl_nil ?_
  show Code.wp _ _ _ _ _
  refine wp_cond_false rfl ?_
  refine wp_exit ?_
  show Code.wp _ _ _ _ _
  refine wp_seq ?_
  have hcap := hb10b.cap
  refine wl_region ?_
  refine wl_pure (.slice q10b 64 c10b) rfl (by kernel_rfl) ?_
  try simp only [p0, p1, p2, p3]
  refine wl_pure (.int .i64 64) rfl (by kernel_rfl) ?_
  try simp only [p0, p1, p2, p3]
  refine wl_pure (.slice q10b 64 c10b) rfl (s_hi (p := q10b) (n := 64) (c := c10b) Tryd.underlying23 (by kernel_rfl) 64 (by omega) (by kernel_rfl)) ?_
  try simp only [p0, p1, p2, p3]
  refine wl_pure (.slice q10b 64 c10b) rfl (by kernel_rfl) ?_
  try simp only [p0, p1, p2, p3]
  refine wl_pure (.int .i64 0) rfl (by kernel_rfl) ?_
  try simp only [p0, p1, p2, p3]
  refine wl_nil ?_
  show Code.wp _ _ _ _ _
  refine wp_ret ?_
  refine bodyPost_ret (results_tmp2 rfl _ _ _) rfl ?_
  exact ⟨_, rfl, q10b, _, t10b, s10b, rfl, hO55.tail.tail.tail, hb10b⟩
end Go.Proofs.YtkmgdpbmkbpkjaaDoor
