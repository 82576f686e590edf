/-
  WholeShared, walked: it answers true.
-/
import Derived.Test.YtkmgdpbmkbpkjaaDoorVf
set_option linter.unusedVariables false
set_option linter.unusedSimpArgs false
namespace Go.Proofs.YtkmgdpbmkbpkjaaDoor
open Go.RowKit

set_option maxRecDepth 100000 in
set_option maxHeartbeats 16000000 in
theorem whole_any {a b : Nat} (ha : N256 a) (hb : N256 b) {S K first text : Nat → Int} {qb : Option Addr} {l cb t0 t1 t2 t3 : Nat} {w : World} (hG : Bk w 0 t0 (c8 121665)) (hF : Bk w 1 t1 (aF .u32 4 first)) (hS : Bk w 2 t2 (aF .u32 8 S)) (hK : Bk w 3 t3 (aF .u32 64 K))
    (hT : RdF w (.slice qb l cb) l text) (hr : ∀ j, j < l → 0 ≤ text j ∧ text j < 256) : Ret Tryd.prog 3 #[.agg (aF .u8 32 (n8 a)), .agg (aF .u8 32 (n8 b)), .slice qb l cb] w (.bool true) := by
  have eqX : Cv.XN (Cv.clampN b) (Cv.XN (Cv.clampN a) 9) = Cv.XN a (Cv.XN b 9) := by rw [XN_clamp, XN_clamp, Cv.XN_comm]
  unfold Ret
  refine calls_of_wp Tryd.func3 rfl ?_
  simp only [Tryd.ntmps3, List.size_toArray, List.length_cons, List.length_nil, Nat.reduceAdd, Nat.reduceSub, Array.replicate_succ, Array.replicate_zero, List.push_toArray, List.append_toArray, List.nil_append, List.cons_append]
  have hO := Own.nil w
  refine wp_seq ?_
  refine wl_region ?_
  refine wl_runs rfl (r_new 22 (aF .u8 32 (n8 a)) (by kernel_rfl) hO) fun g1 w1 hO1 => ?_
  clear hO
  try simp only [List.nil_append, List.cons_append] at hO1
  try simp only [p0, p1, p2, p3]
  refine wl_runs rfl (r_new 22 (aF .u8 32 (n8 b)) (by kernel_rfl) hO1) fun g2 w2 hO2 => ?_
  clear hO1
  try simp only [List.nil_append, List.cons_append] at hO2
  try simp only [p0, p1, p2, p3]
  refine wl_pure (.bool false) rfl (by kernel_rfl) ?_
  try simp only [p0, p1, p2, p3]
  refine wl_nil ?_
  show Code.wp _ _ _ _ _
  refine wp_seq ?_
  refine wd_region [] (Tr.ofList [(0, 1), (1, 1)] (.br 2 7 (.br 3 7 (Tr.ofList [(4, 1), (5, 1), (6, 1), (7, 3), (8, 3), (9, 1)] .nil) (Tr.ofList [(3, 3), (4, 1), (5, 1), (6, 1), (8, 3), (9, 1)] .nil)) (Tr.ofList [(2, 3), (3, 3), (4, 1), (5, 1), (6, 1), (8, 3), (9, 1)] .nil))) (by decide) (by kernel_rfl) (by kernel_rfl) hO2 fun w3 hO3 => ?_
  simp only [Tr.ofList]
  try clear hO2
  apply wd_cut1 (C := fun (g11 : Nat) wc => Own w ((g11, 22, (aF .u8 32 (n8 (Cv.XN a (Cv.XN b 9))))) :: (g2, 22, (aF .u8 32 (n8 b))) :: (g1, 22, (aF .u8 32 (n8 a))) :: []) wc)
  case h =>
    intro hcut
    refine wd_ld (.agg (aF .u8 32 (n8 a))) rfl (some 20) (by kernel_rfl) (by kernel_rfl) (fun _ hw => run_row (hw.get (.tail _ (.head _))) Tryd.underlying22 rfl (by kernel_rfl) rfl (by kernel_rfl)) hO3 ?_
    try simp only [p0, p1, p2, p3]
    refine wd_ld (.agg (aF .u8 32 (n8 b))) rfl (some 21) (by kernel_rfl) (by kernel_rfl) (fun _ hw => run_row (hw.get (.head _)) Tryd.underlying22 rfl (by kernel_rfl) rfl (by kernel_rfl)) hO3 ?_
    try simp only [p0, p1, p2, p3]
    refine wd_br ?_ ?_
    · skip
      refine nx_runs rfl (some 22) (by kernel_rfl) rfl (r_call (args := #[.agg (aF .u8 32 (n8 b))]) (u := .agg (aF .u8 32 (n8 (Cv.XN b 9)))) (by kernel_rfl) (pub_any (k := b) hb w3 (hG.under hO3.bl)) hO3) (fun _ _ h => h) fun _ w4 hO4 => ?_
      try clear hO3
      try simp only [List.nil_append, List.cons_append] at hO4
      try simp only [p0, p1, p2, p3]
      refine wd_br ?_ ?_
      · skip
        refine nx_runs rfl (some 23) (by kernel_rfl) rfl (r_call (args := #[.agg (aF .u8 32 (n8 a)), .agg (aF .u8 32 (n8 (Cv.XN b 9)))]) (u := .tuple #[.agg (aF .u8 32 (n8 (Cv.XN a (Cv.XN b 9)))), .bool true]) (by kernel_rfl) (shared_any (k := a) (u := (Cv.XN b 9)) ha (XN_256 _ _) (B := true) (decide_eq_true (Cv.XN_ne a b)) w4 (hG.under hO4.bl)) hO4) (fun _ _ h => h) fun _ w5 hO5 => ?_
        try clear hO4
        try simp only [List.nil_append, List.cons_append] at hO5
        try simp only [p0, p1, p2, p3]
        refine wd_ld (.tuple #[.agg (aF .u8 32 (n8 (Cv.XN a (Cv.XN b 9)))), .bool true]) rfl (some 19) (by kernel_rfl) (by kernel_rfl) (fun _ hw => by kernel_rfl) hO5 ?_
        try simp only [p0, p1, p2, p3]
        refine wd_ld (.agg (aF .u8 32 (n8 (Cv.XN a (Cv.XN b 9))))) rfl (some 24) (by kernel_rfl) (by kernel_rfl) (fun _ hw => by kernel_rfl) hO5 ?_
        try simp only [p0, p1, p2, p3]
        refine wd_ld (.bool true) rfl (some 25) (by kernel_rfl) (by kernel_rfl) (fun _ hw => by kernel_rfl) hO5 ?_
        try simp only [p0, p1, p2, p3]
        refine wd_runs rfl (some 7) (by kernel_rfl) rfl (r_new 22 (aF .u8 32 zF) (by kernel_rfl) hO5) (fun _ _ h => h.tail) fun g6 w6 hO6 => ?_
        try clear hO5
        try simp only [List.nil_append, List.cons_append] at hO6
        try simp only [p0, p1, p2, p3]
        refine wd_runs rfl none (by kernel_rfl) rfl (r_row (L1 := []) (L2 := ((g2, 22, (aF .u8 32 (n8 b))) :: (g1, 22, (aF .u8 32 (n8 a))) :: [])) (cs := (aF .u8 32 zF)) (aF .u8 32 (n8 (Cv.XN a (Cv.XN b 9)))) rfl (by kernel_rfl) (by kernel_rfl) hO6 (by simp only [size_aF]) (by kernel_rfl) (one_aF _ _ _)) (fun _ _ h => h.tail) fun _ w7 hO7 => ?_
        try clear hO6
        try simp only [List.nil_append, List.cons_append] at hO7
        try simp only [p0, p1, p2, p3]
        refine wd_ld (.bool true) rfl (some 8) (by kernel_rfl) (by kernel_rfl) (fun _ hw => by kernel_rfl) hO7.tail ?_
        try simp only [p0, p1, p2, p3]
        refine wd_nil ?_
        exact hcut g6 _ (Own.sub hO7 (.cons_cons _ (.cons_cons _ (.cons_cons _ (List.Sublist.refl _)))))
      · skip
        refine nx_runs rfl (some 7) (by kernel_rfl) rfl (r_new 22 (aF .u8 32 zF) (by kernel_rfl) hO4) (fun _ _ h => h.tail) fun g8 w8 hO8 => ?_
        try clear hO4
        try simp only [List.nil_append, List.cons_append] at hO8
        try simp only [p0, p1, p2, p3]
        refine wd_runs rfl (some 23) (by kernel_rfl) rfl (r_call (args := #[.agg (aF .u8 32 (n8 a)), .agg (aF .u8 32 (n8 (Cv.XN b 9)))]) (u := .tuple #[.agg (aF .u8 32 (n8 (Cv.XN a (Cv.XN b 9)))), .bool true]) (by kernel_rfl) (shared_any (k := a) (u := (Cv.XN b 9)) ha (XN_256 _ _) (B := true) (decide_eq_true (Cv.XN_ne a b)) w8 (hG.under hO8.bl)) hO8) (fun _ _ h => h.tail) fun _ w9 hO9 => ?_
        try clear hO8
        try simp only [List.nil_append, List.cons_append] at hO9
        try simp only [p0, p1, p2, p3]
        refine wd_ld (.tuple #[.agg (aF .u8 32 (n8 (Cv.XN a (Cv.XN b 9)))), .bool true]) rfl (some 19) (by kernel_rfl) (by kernel_rfl) (fun _ hw => by kernel_rfl) hO9.tail ?_
        try simp only [p0, p1, p2, p3]
        refine wd_ld (.agg (aF .u8 32 (n8 (Cv.XN a (Cv.XN b 9))))) rfl (some 24) (by kernel_rfl) (by kernel_rfl) (fun _ hw => by kernel_rfl) hO9.tail ?_
        try simp only [p0, p1, p2, p3]
        refine wd_ld (.bool true) rfl (some 25) (by kernel_rfl) (by kernel_rfl) (fun _ hw => by kernel_rfl) hO9.tail ?_
        try simp only [p0, p1, p2, p3]
        refine wd_runs rfl none (by kernel_rfl) rfl (r_row (L1 := []) (L2 := ((g2, 22, (aF .u8 32 (n8 b))) :: (g1, 22, (aF .u8 32 (n8 a))) :: [])) (cs := (aF .u8 32 zF)) (aF .u8 32 (n8 (Cv.XN a (Cv.XN b 9)))) rfl (by kernel_rfl) (by kernel_rfl) hO9 (by simp only [size_aF]) (by kernel_rfl) (one_aF _ _ _)) (fun _ _ h => h.tail) fun _ w10 hO10 => ?_
        try clear hO9
        try simp only [List.nil_append, List.cons_append] at hO10
        try simp only [p0, p1, p2, p3]
        refine wd_ld (.bool true) rfl (some 8) (by kernel_rfl) (by kernel_rfl) (fun _ hw => by kernel_rfl) hO10.tail ?_
        try simp only [p0, p1, p2, p3]
        refine wd_nil ?_
        exact hcut g8 _ (Own.sub hO10 (.cons_cons _ (.cons_cons _ (.cons_cons _ (List.Sublist.refl _)))))
    · skip
      refine nx_runs rfl (some 7) (by kernel_rfl) rfl (r_new 22 (aF .u8 32 zF) (by kernel_rfl) hO3) (fun _ _ h => h.tail) fun g11 w11 hO11 => ?_
      try clear hO3
      try simp only [List.nil_append, List.cons_append] at hO11
      try simp only [p0, p1, p2, p3]
      refine wd_runs rfl (some 22) (by kernel_rfl) rfl (r_call (args := #[.agg (aF .u8 32 (n8 b))]) (u := .agg (aF .u8 32 (n8 (Cv.XN b 9)))) (by kernel_rfl) (pub_any (k := b) hb w11 (hG.under hO11.bl)) hO11) (fun _ _ h => h.tail) fun _ w12 hO12 => ?_
      try clear hO11
      try simp only [List.nil_append, List.cons_append] at hO12
      try simp only [p0, p1, p2, p3]
      refine wd_runs rfl (some 23) (by kernel_rfl) rfl (r_call (args := #[.agg (aF .u8 32 (n8 a)), .agg (aF .u8 32 (n8 (Cv.XN b 9)))]) (u := .tuple #[.agg (aF .u8 32 (n8 (Cv.XN a (Cv.XN b 9)))), .bool true]) (by kernel_rfl) (shared_any (k := a) (u := (Cv.XN b 9)) ha (XN_256 _ _) (B := true) (decide_eq_true (Cv.XN_ne a b)) w12 (hG.under hO12.bl)) hO12) (fun _ _ h => h.tail) fun _ w13 hO13 => ?_
      try clear hO12
      try simp only [List.nil_append, List.cons_append] at hO13
      try simp only [p0, p1, p2, p3]
      refine wd_ld (.tuple #[.agg (aF .u8 32 (n8 (Cv.XN a (Cv.XN b 9)))), .bool true]) rfl (some 19) (by kernel_rfl) (by kernel_rfl) (fun _ hw => by kernel_rfl) hO13.tail ?_
      try simp only [p0, p1, p2, p3]
      refine wd_ld (.agg (aF .u8 32 (n8 (Cv.XN a (Cv.XN b 9))))) rfl (some 24) (by kernel_rfl) (by kernel_rfl) (fun _ hw => by kernel_rfl) hO13.tail ?_
      try simp only [p0, p1, p2, p3]
      refine wd_ld (.bool true) rfl (some 25) (by kernel_rfl) (by kernel_rfl) (fun _ hw => by kernel_rfl) hO13.tail ?_
      try simp only [p0, p1, p2, p3]
      refine wd_runs rfl none (by kernel_rfl) rfl (r_row (L1 := []) (L2 := ((g2, 22, (aF .u8 32 (n8 b))) :: (g1, 22, (aF .u8 32 (n8 a))) :: [])) (cs := (aF .u8 32 zF)) (aF .u8 32 (n8 (Cv.XN a (Cv.XN b 9)))) rfl (by kernel_rfl) (by kernel_rfl) hO13 (by simp only [size_aF]) (by kernel_rfl) (one_aF _ _ _)) (fun _ _ h => h.tail) fun _ w14 hO14 => ?_
      try clear hO13
      try simp only [List.nil_append, List.cons_append] at hO14
      try simp only [p0, p1, p2, p3]
      refine wd_ld (.bool true) rfl (some 8) (by kernel_rfl) (by kernel_rfl) (fun _ hw => by kernel_rfl) hO14.tail ?_
      try simp only [p0, p1, p2, p3]
      refine wd_nil ?_
      exact hcut g11 _ (Own.sub hO14 (.cons_cons _ (.cons_cons _ (.cons_cons _ (List.Sublist.refl _)))))
  intro g11 w15 hO15
  show Code.wp _ _ _ _ _
  refine wp_seq ?_
  refine wd_region [] (Tr.ofList [(0, 1), (2, 1)] (.br 1 9 (.br 3 9 (.br 4 9 (.br 5 9 (Tr.ofList [(6, 1), (7, 1), (8, 1), (9, 3), (10, 3), (11, 1)] .nil) (Tr.ofList [(5, 3), (6, 1), (7, 1), (8, 1), (10, 3), (11, 1)] .nil)) (Tr.ofList [(4, 3), (5, 3), (6, 1), (7, 1), (8, 1), (10, 3), (11, 1)] .nil)) (Tr.ofList [(3, 3), (4, 3), (5, 3), (6, 1), (7, 1), (8, 1), (10, 3), (11, 1)] .nil)) (Tr.ofList [(1, 3), (3, 3), (4, 3), (5, 3), (6, 1), (7, 1), (8, 1), (10, 3), (11, 1)] .nil))) (by decide) (by kernel_rfl) (by kernel_rfl) hO15 fun w16 hO16 => ?_
  simp only [Tr.ofList]
  try clear hO15
  apply wd_cut1 (C := fun (g35 : Nat) wc => Own w ((g35, 22, (aF .u8 32 (n8 (Cv.XN a (Cv.XN b 9))))) :: (g11, 22, (aF .u8 32 (n8 (Cv.XN a (Cv.XN b 9))))) :: (g2, 22, (aF .u8 32 (n8 b))) :: (g1, 22, (aF .u8 32 (n8 a))) :: []) wc)
  case h =>
    intro hcut
    refine wd_ld (.agg (aF .u8 32 (n8 b))) rfl (some 27) (by kernel_rfl) (by kernel_rfl) (fun _ hw => run_row (hw.get (.tail _ (.head _))) Tryd.underlying22 rfl (by kernel_rfl) rfl (by kernel_rfl)) hO16 ?_
    try simp only [p0, p1, p2, p3]
    refine wd_ld (.agg (aF .u8 32 (n8 a))) rfl (some 29) (by kernel_rfl) (by kernel_rfl) (fun _ hw => run_row (hw.get (.tail _ (.tail _ (.head _)))) Tryd.underlying22 rfl (by kernel_rfl) rfl (by kernel_rfl)) hO16 ?_
    try simp only [p0, p1, p2, p3]
    refine wd_br ?_ ?_
    · skip
      refine nx_runs rfl (some 28) (by kernel_rfl) rfl (r_call (args := #[.agg (aF .u8 32 (n8 b))]) (u := .agg (aF .u8 32 (n8 (Cv.clampN b)))) (by kernel_rfl) (clamp_any (k := b) hb w16) hO16) (fun _ _ h => h) fun _ w17 hO17 => ?_
      try clear hO16
      try simp only [List.nil_append, List.cons_append] at hO17
      try simp only [p0, p1, p2, p3]
      refine wd_br ?_ ?_
      · skip
        refine nx_runs rfl (some 30) (by kernel_rfl) rfl (r_call (args := #[.agg (aF .u8 32 (n8 a))]) (u := .agg (aF .u8 32 (n8 (Cv.clampN a)))) (by kernel_rfl) (clamp_any (k := a) ha w17) hO17) (fun _ _ h => h) fun _ w18 hO18 => ?_
        try clear hO17
        try simp only [List.nil_append, List.cons_append] at hO18
        try simp only [p0, p1, p2, p3]
        refine wd_br ?_ ?_
        · skip
          refine nx_runs rfl (some 31) (by kernel_rfl) rfl (r_call (args := #[.agg (aF .u8 32 (n8 (Cv.clampN a)))]) (u := .agg (aF .u8 32 (n8 (Cv.XN (Cv.clampN a) 9)))) (by kernel_rfl) (pub_any (k := (Cv.clampN a)) (clamp_256 _) w18 (hG.under hO18.bl)) hO18) (fun _ _ h => h) fun _ w19 hO19 => ?_
          try clear hO18
          try simp only [List.nil_append, List.cons_append] at hO19
          try simp only [p0, p1, p2, p3]
          refine wd_br ?_ ?_
          · skip
            refine nx_runs rfl (some 32) (by kernel_rfl) rfl (r_call (args := #[.agg (aF .u8 32 (n8 (Cv.clampN b))), .agg (aF .u8 32 (n8 (Cv.XN (Cv.clampN a) 9)))]) (u := .tuple #[.agg (aF .u8 32 (n8 (Cv.XN a (Cv.XN b 9)))), .bool true]) (by kernel_rfl) ((by have := shared_any (k := (Cv.clampN b)) (u := (Cv.XN (Cv.clampN a) 9)) (clamp_256 _) (XN_256 _ _) (B := true) (by rw [eqX]; exact decide_eq_true (Cv.XN_ne a b)) w19 (hG.under hO19.bl); rw [eqX] at this; exact this)) hO19) (fun _ _ h => h) fun _ w20 hO20 => ?_
            try clear hO19
            try simp only [List.nil_append, List.cons_append] at hO20
            try simp only [p0, p1, p2, p3]
            refine wd_ld (.tuple #[.agg (aF .u8 32 (n8 (Cv.XN a (Cv.XN b 9)))), .bool true]) rfl (some 26) (by kernel_rfl) (by kernel_rfl) (fun _ hw => by kernel_rfl) hO20 ?_
            try simp only [p0, p1, p2, p3]
            refine wd_ld (.agg (aF .u8 32 (n8 (Cv.XN a (Cv.XN b 9))))) rfl (some 33) (by kernel_rfl) (by kernel_rfl) (fun _ hw => by kernel_rfl) hO20 ?_
            try simp only [p0, p1, p2, p3]
            refine wd_ld (.bool true) rfl (some 34) (by kernel_rfl) (by kernel_rfl) (fun _ hw => by kernel_rfl) hO20 ?_
            try simp only [p0, p1, p2, p3]
            refine wd_runs rfl (some 9) (by kernel_rfl) rfl (r_new 22 (aF .u8 32 zF) (by kernel_rfl) hO20) (fun _ _ h => h.tail) fun g21 w21 hO21 => ?_
            try clear hO20
            try simp only [List.nil_append, List.cons_append] at hO21
            try simp only [p0, p1, p2, p3]
            refine wd_runs rfl none (by kernel_rfl) rfl (r_row (L1 := []) (L2 := ((g11, 22, (aF .u8 32 (n8 (Cv.XN a (Cv.XN b 9))))) :: (g2, 22, (aF .u8 32 (n8 b))) :: (g1, 22, (aF .u8 32 (n8 a))) :: [])) (cs := (aF .u8 32 zF)) (aF .u8 32 (n8 (Cv.XN a (Cv.XN b 9)))) rfl (by kernel_rfl) (by kernel_rfl) hO21 (by simp only [size_aF]) (by kernel_rfl) (one_aF _ _ _)) (fun _ _ h => h.tail) fun _ w22 hO22 => ?_
            try clear hO21
            try simp only [List.nil_append, List.cons_append] at hO22
            try simp only [p0, p1, p2, p3]
            refine wd_ld (.bool true) rfl (some 10) (by kernel_rfl) (by kernel_rfl) (fun _ hw => by kernel_rfl) hO22.tail ?_
            try simp only [p0, p1, p2, p3]
            refine wd_nil ?_
            exact hcut g21 _ (Own.sub hO22 (.cons_cons _ (.cons_cons _ (.cons_cons _ (.cons_cons _ (List.Sublist.refl _))))))
          · skip
            refine nx_runs rfl (some 9) (by kernel_rfl) rfl (r_new 22 (aF .u8 32 zF) (by kernel_rfl) hO19) (fun _ _ h => h.tail) fun g23 w23 hO23 => ?_
            try clear hO19
            try simp only [List.nil_append, List.cons_append] at hO23
            try simp only [p0, p1, p2, p3]
            refine wd_runs rfl (some 32) (by kernel_rfl) rfl (r_call (args := #[.agg (aF .u8 32 (n8 (Cv.clampN b))), .agg (aF .u8 32 (n8 (Cv.XN (Cv.clampN a) 9)))]) (u := .tuple #[.agg (aF .u8 32 (n8 (Cv.XN a (Cv.XN b 9)))), .bool true]) (by kernel_rfl) ((by have := shared_any (k := (Cv.clampN b)) (u := (Cv.XN (Cv.clampN a) 9)) (clamp_256 _) (XN_256 _ _) (B := true) (by rw [eqX]; exact decide_eq_true (Cv.XN_ne a b)) w23 (hG.under hO23.bl); rw [eqX] at this; exact this)) hO23) (fun _ _ h => h.tail) fun _ w24 hO24 => ?_
            try clear hO23
            try simp only [List.nil_append, List.cons_append] at hO24
            try simp only [p0, p1, p2, p3]
            refine wd_ld (.tuple #[.agg (aF .u8 32 (n8 (Cv.XN a (Cv.XN b 9)))), .bool true]) rfl (some 26) (by kernel_rfl) (by kernel_rfl) (fun _ hw => by kernel_rfl) hO24.tail ?_
            try simp only [p0, p1, p2, p3]
            refine wd_ld (.agg (aF .u8 32 (n8 (Cv.XN a (Cv.XN b 9))))) rfl (some 33) (by kernel_rfl) (by kernel_rfl) (fun _ hw => by kernel_rfl) hO24.tail ?_
            try simp only [p0, p1, p2, p3]
            refine wd_ld (.bool true) rfl (some 34) (by kernel_rfl) (by kernel_rfl) (fun _ hw => by kernel_rfl) hO24.tail ?_
            try simp only [p0, p1, p2, p3]
            refine wd_runs rfl none (by kernel_rfl) rfl (r_row (L1 := []) (L2 := ((g11, 22, (aF .u8 32 (n8 (Cv.XN a (Cv.XN b 9))))) :: (g2, 22, (aF .u8 32 (n8 b))) :: (g1, 22, (aF .u8 32 (n8 a))) :: [])) (cs := (aF .u8 32 zF)) (aF .u8 32 (n8 (Cv.XN a (Cv.XN b 9)))) rfl (by kernel_rfl) (by kernel_rfl) hO24 (by simp only [size_aF]) (by kernel_rfl) (one_aF _ _ _)) (fun _ _ h => h.tail) fun _ w25 hO25 => ?_
            try clear hO24
            try simp only [List.nil_append, List.cons_append] at hO25
            try simp only [p0, p1, p2, p3]
            refine wd_ld (.bool true) rfl (some 10) (by kernel_rfl) (by kernel_rfl) (fun _ hw => by kernel_rfl) hO25.tail ?_
            try simp only [p0, p1, p2, p3]
            refine wd_nil ?_
            exact hcut g23 _ (Own.sub hO25 (.cons_cons _ (.cons_cons _ (.cons_cons _ (.cons_cons _ (List.Sublist.refl _))))))
        · skip
          refine nx_runs rfl (some 9) (by kernel_rfl) rfl (r_new 22 (aF .u8 32 zF) (by kernel_rfl) hO18) (fun _ _ h => h.tail) fun g26 w26 hO26 => ?_
          try clear hO18
          try simp only [List.nil_append, List.cons_append] at hO26
          try simp only [p0, p1, p2, p3]
          refine wd_runs rfl (some 31) (by kernel_rfl) rfl (r_call (args := #[.agg (aF .u8 32 (n8 (Cv.clampN a)))]) (u := .agg (aF .u8 32 (n8 (Cv.XN (Cv.clampN a) 9)))) (by kernel_rfl) (pub_any (k := (Cv.clampN a)) (clamp_256 _) w26 (hG.under hO26.bl)) hO26) (fun _ _ h => h.tail) fun _ w27 hO27 => ?_
          try clear hO26
          try simp only [List.nil_append, List.cons_append] at hO27
          try simp only [p0, p1, p2, p3]
          refine wd_runs rfl (some 32) (by kernel_rfl) rfl (r_call (args := #[.agg (aF .u8 32 (n8 (Cv.clampN b))), .agg (aF .u8 32 (n8 (Cv.XN (Cv.clampN a) 9)))]) (u := .tuple #[.agg (aF .u8 32 (n8 (Cv.XN a (Cv.XN b 9)))), .bool true]) (by kernel_rfl) ((by have := shared_any (k := (Cv.clampN b)) (u := (Cv.XN (Cv.clampN a) 9)) (clamp_256 _) (XN_256 _ _) (B := true) (by rw [eqX]; exact decide_eq_true (Cv.XN_ne a b)) w27 (hG.under hO27.bl); rw [eqX] at this; exact this)) hO27) (fun _ _ h => h.tail) fun _ w28 hO28 => ?_
          try clear hO27
          try simp only [List.nil_append, List.cons_append] at hO28
          try simp only [p0, p1, p2, p3]
          refine wd_ld (.tuple #[.agg (aF .u8 32 (n8 (Cv.XN a (Cv.XN b 9)))), .bool true]) rfl (some 26) (by kernel_rfl) (by kernel_rfl) (fun _ hw => by kernel_rfl) hO28.tail ?_
          try simp only [p0, p1, p2, p3]
          refine wd_ld (.agg (aF .u8 32 (n8 (Cv.XN a (Cv.XN b 9))))) rfl (some 33) (by kernel_rfl) (by kernel_rfl) (fun _ hw => by kernel_rfl) hO28.tail ?_
          try simp only [p0, p1, p2, p3]
          refine wd_ld (.bool true) rfl (some 34) (by kernel_rfl) (by kernel_rfl) (fun _ hw => by kernel_rfl) hO28.tail ?_
          try simp only [p0, p1, p2, p3]
          refine wd_runs rfl none (by kernel_rfl) rfl (r_row (L1 := []) (L2 := ((g11, 22, (aF .u8 32 (n8 (Cv.XN a (Cv.XN b 9))))) :: (g2, 22, (aF .u8 32 (n8 b))) :: (g1, 22, (aF .u8 32 (n8 a))) :: [])) (cs := (aF .u8 32 zF)) (aF .u8 32 (n8 (Cv.XN a (Cv.XN b 9)))) rfl (by kernel_rfl) (by kernel_rfl) hO28 (by simp only [size_aF]) (by kernel_rfl) (one_aF _ _ _)) (fun _ _ h => h.tail) fun _ w29 hO29 => ?_
          try clear hO28
          try simp only [List.nil_append, List.cons_append] at hO29
          try simp only [p0, p1, p2, p3]
          refine wd_ld (.bool true) rfl (some 10) (by kernel_rfl) (by kernel_rfl) (fun _ hw => by kernel_rfl) hO29.tail ?_
          try simp only [p0, p1, p2, p3]
          refine wd_nil ?_
          exact hcut g26 _ (Own.sub hO29 (.cons_cons _ (.cons_cons _ (.cons_cons _ (.cons_cons _ (List.Sublist.refl _))))))
      · skip
        refine nx_runs rfl (some 9) (by kernel_rfl) rfl (r_new 22 (aF .u8 32 zF) (by kernel_rfl) hO17) (fun _ _ h => h.tail) fun g30 w30 hO30 => ?_
        try clear hO17
        try simp only [List.nil_append, List.cons_append] at hO30
        try simp only [p0, p1, p2, p3]
        refine wd_runs rfl (some 30) (by kernel_rfl) rfl (r_call (args := #[.agg (aF .u8 32 (n8 a))]) (u := .agg (aF .u8 32 (n8 (Cv.clampN a)))) (by kernel_rfl) (clamp_any (k := a) ha w30) hO30) (fun _ _ h => h.tail) fun _ w31 hO31 => ?_
        try clear hO30
        try simp only [List.nil_append, List.cons_append] at hO31
        try simp only [p0, p1, p2, p3]
        refine wd_runs rfl (some 31) (by kernel_rfl) rfl (r_call (args := #[.agg (aF .u8 32 (n8 (Cv.clampN a)))]) (u := .agg (aF .u8 32 (n8 (Cv.XN (Cv.clampN a) 9)))) (by kernel_rfl) (pub_any (k := (Cv.clampN a)) (clamp_256 _) w31 (hG.under hO31.bl)) hO31) (fun _ _ h => h.tail) fun _ w32 hO32 => ?_
        try clear hO31
        try simp only [List.nil_append, List.cons_append] at hO32
        try simp only [p0, p1, p2, p3]
        refine wd_runs rfl (some 32) (by kernel_rfl) rfl (r_call (args := #[.agg (aF .u8 32 (n8 (Cv.clampN b))), .agg (aF .u8 32 (n8 (Cv.XN (Cv.clampN a) 9)))]) (u := .tuple #[.agg (aF .u8 32 (n8 (Cv.XN a (Cv.XN b 9)))), .bool true]) (by kernel_rfl) ((by have := shared_any (k := (Cv.clampN b)) (u := (Cv.XN (Cv.clampN a) 9)) (clamp_256 _) (XN_256 _ _) (B := true) (by rw [eqX]; exact decide_eq_true (Cv.XN_ne a b)) w32 (hG.under hO32.bl); rw [eqX] at this; exact this)) hO32) (fun _ _ h => h.tail) fun _ w33 hO33 => ?_
        try clear hO32
        try simp only [List.nil_append, List.cons_append] at hO33
        try simp only [p0, p1, p2, p3]
        refine wd_ld (.tuple #[.agg (aF .u8 32 (n8 (Cv.XN a (Cv.XN b 9)))), .bool true]) rfl (some 26) (by kernel_rfl) (by kernel_rfl) (fun _ hw => by kernel_rfl) hO33.tail ?_
        try simp only [p0, p1, p2, p3]
        refine wd_ld (.agg (aF .u8 32 (n8 (Cv.XN a (Cv.XN b 9))))) rfl (some 33) (by kernel_rfl) (by kernel_rfl) (fun _ hw => by kernel_rfl) hO33.tail ?_
        try simp only [p0, p1, p2, p3]
        refine wd_ld (.bool true) rfl (some 34) (by kernel_rfl) (by kernel_rfl) (fun _ hw => by kernel_rfl) hO33.tail ?_
        try simp only [p0, p1, p2, p3]
        refine wd_runs rfl none (by kernel_rfl) rfl (r_row (L1 := []) (L2 := ((g11, 22, (aF .u8 32 (n8 (Cv.XN a (Cv.XN b 9))))) :: (g2, 22, (aF .u8 32 (n8 b))) :: (g1, 22, (aF .u8 32 (n8 a))) :: [])) (cs := (aF .u8 32 zF)) (aF .u8 32 (n8 (Cv.XN a (Cv.XN b 9)))) rfl (by kernel_rfl) (by kernel_rfl) hO33 (by simp only [size_aF]) (by kernel_rfl) (one_aF _ _ _)) (fun _ _ h => h.tail) fun _ w34 hO34 => ?_
        try clear hO33
        try simp only [List.nil_append, List.cons_append] at hO34
        try simp only [p0, p1, p2, p3]
        refine wd_ld (.bool true) rfl (some 10) (by kernel_rfl) (by kernel_rfl) (fun _ hw => by kernel_rfl) hO34.tail ?_
        try simp only [p0, p1, p2, p3]
        refine wd_nil ?_
        exact hcut g30 _ (Own.sub hO34 (.cons_cons _ (.cons_cons _ (.cons_cons _ (.cons_cons _ (List.Sublist.refl _))))))
    · skip
      refine nx_runs rfl (some 9) (by kernel_rfl) rfl (r_new 22 (aF .u8 32 zF) (by kernel_rfl) hO16) (fun _ _ h => h.tail) fun g35 w35 hO35 => ?_
      try clear hO16
      try simp only [List.nil_append, List.cons_append] at hO35
      try simp only [p0, p1, p2, p3]
      refine wd_runs rfl (some 28) (by kernel_rfl) rfl (r_call (args := #[.agg (aF .u8 32 (n8 b))]) (u := .agg (aF .u8 32 (n8 (Cv.clampN b)))) (by kernel_rfl) (clamp_any (k := b) hb w35) hO35) (fun _ _ h => h.tail) fun _ w36 hO36 => ?_
      try clear hO35
      try simp only [List.nil_append, List.cons_append] at hO36
      try simp only [p0, p1, p2, p3]
      refine wd_runs rfl (some 30) (by kernel_rfl) rfl (r_call (args := #[.agg (aF .u8 32 (n8 a))]) (u := .agg (aF .u8 32 (n8 (Cv.clampN a)))) (by kernel_rfl) (clamp_any (k := a) ha w36) hO36) (fun _ _ h => h.tail) fun _ w37 hO37 => ?_
      try clear hO36
      try simp only [List.nil_append, List.cons_append] at hO37
      try simp only [p0, p1, p2, p3]
      refine wd_runs rfl (some 31) (by kernel_rfl) rfl (r_call (args := #[.agg (aF .u8 32 (n8 (Cv.clampN a)))]) (u := .agg (aF .u8 32 (n8 (Cv.XN (Cv.clampN a) 9)))) (by kernel_rfl) (pub_any (k := (Cv.clampN a)) (clamp_256 _) w37 (hG.under hO37.bl)) hO37) (fun _ _ h => h.tail) fun _ w38 hO38 => ?_
      try clear hO37
      try simp only [List.nil_append, List.cons_append] at hO38
      try simp only [p0, p1, p2, p3]
      refine wd_runs rfl (some 32) (by kernel_rfl) rfl (r_call (args := #[.agg (aF .u8 32 (n8 (Cv.clampN b))), .agg (aF .u8 32 (n8 (Cv.XN (Cv.clampN a) 9)))]) (u := .tuple #[.agg (aF .u8 32 (n8 (Cv.XN a (Cv.XN b 9)))), .bool true]) (by kernel_rfl) ((by have := shared_any (k := (Cv.clampN b)) (u := (Cv.XN (Cv.clampN a) 9)) (clamp_256 _) (XN_256 _ _) (B := true) (by rw [eqX]; exact decide_eq_true (Cv.XN_ne a b)) w38 (hG.under hO38.bl); rw [eqX] at this; exact this)) hO38) (fun _ _ h => h.tail) fun _ w39 hO39 => ?_
      try clear hO38
      try simp only [List.nil_append, List.cons_append] at hO39
      try simp only [p0, p1, p2, p3]
      refine wd_ld (.tuple #[.agg (aF .u8 32 (n8 (Cv.XN a (Cv.XN b 9)))), .bool true]) rfl (some 26) (by kernel_rfl) (by kernel_rfl) (fun _ hw => by kernel_rfl) hO39.tail ?_
      try simp only [p0, p1, p2, p3]
      refine wd_ld (.agg (aF .u8 32 (n8 (Cv.XN a (Cv.XN b 9))))) rfl (some 33) (by kernel_rfl) (by kernel_rfl) (fun _ hw => by kernel_rfl) hO39.tail ?_
      try simp only [p0, p1, p2, p3]
      refine wd_ld (.bool true) rfl (some 34) (by kernel_rfl) (by kernel_rfl) (fun _ hw => by kernel_rfl) hO39.tail ?_
      try simp only [p0, p1, p2, p3]
      refine wd_runs rfl none (by kernel_rfl) rfl (r_row (L1 := []) (L2 := ((g11, 22, (aF .u8 32 (n8 (Cv.XN a (Cv.XN b 9))))) :: (g2, 22, (aF .u8 32 (n8 b))) :: (g1, 22, (aF .u8 32 (n8 a))) :: [])) (cs := (aF .u8 32 zF)) (aF .u8 32 (n8 (Cv.XN a (Cv.XN b 9)))) rfl (by kernel_rfl) (by kernel_rfl) hO39 (by simp only [size_aF]) (by kernel_rfl) (one_aF _ _ _)) (fun _ _ h => h.tail) fun _ w40 hO40 => ?_
      try clear hO39
      try simp only [List.nil_append, List.cons_append] at hO40
      try simp only [p0, p1, p2, p3]
      refine wd_ld (.bool true) rfl (some 10) (by kernel_rfl) (by kernel_rfl) (fun _ hw => by kernel_rfl) hO40.tail ?_
      try simp only [p0, p1, p2, p3]
      refine wd_nil ?_
      exact hcut g35 _ (Own.sub hO40 (.cons_cons _ (.cons_cons _ (.cons_cons _ (.cons_cons _ (List.Sublist.refl _))))))
  intro g35 w41 hO41
  show Code.wp _ _ _ _ _
  refine wp_seq ?_
  refine wp_seq ?_
  refine wl_region ?_
  refine wl_pure (.bool true) (by kernel_rfl) (by kernel_rfl) ?_
  try simp only [p0, p1, p2, p3]
  refine wl_pure (.bool false) (by kernel_rfl) (by kernel_rfl) ?_
  try simp only [p0, p1, p2, p3]
  refine wl_pure (.bool false) (by kernel_rfl) (by kernel_rfl) ?_
  try simp only [p0, p1, p2, p3]
  refine wl_pure (.bool true) (by kernel_rfl) (by kernel_rfl) ?_
  try simp only [p0, p1, p2, p3]
  refine wl_pure (.bool false) (by kernel_rfl) (by kernel_rfl) ?_
  try simp only [p0, p1, p2, p3]
  refine wl_pure (.bool false) (by kernel_rfl) (by kernel_rfl) ?_
  try simp only [p0, p1, p2, p3]
  refine wl_pure (.bool false) (by kernel_rfl) (by kernel_rfl) ?_
  try simp only [p0, p1, p2, p3]
  refine wl_pure (.agg (aF .u8 32 (n8 (Cv.XN a (Cv.XN b 9))))) (by kernel_rfl) (run_row (hO41.get (.tail _ (.head _))) Tryd.underlying22 rfl (by kernel_rfl) rfl (by kernel_rfl)) ?_
  try simp only [p0, p1, p2, p3]
  refine wl_pure (.agg (aF .u8 32 (n8 (Cv.XN a (Cv.XN b 9))))) (by kernel_rfl) (run_row (hO41.get (.head _)) Tryd.underlying22 rfl (by kernel_rfl) rfl (by kernel_rfl)) ?_
  try simp only [p0, p1, p2, p3]
  refine wl_pure (.bool false) (by kernel_rfl) (aneq_self (f := (n8 (Cv.XN a (Cv.XN b 9)))) rfl (by kernel_rfl) (by kernel_rfl) _) ?_
  try simp only [p0, p1, p2, p3]
  refine wl_pure (.bool false) (by kernel_rfl) (by kernel_rfl) ?_
  try simp only [p0, p1, p2, p3]
  refine wl_nil ?_
  show Code.wp _ _ _ _ _
  refine wp_cond_false rfl ?_
  refine wp_skip ?_
  show Code.wp _ _ _ _ _
  by_cases hl : 500 < l
  · skip
    refine wp_seq ?_
    refine wp_seq ?_
    refine wl_region ?_
    refine wl_pure (.slice qb l cb) rfl (by kernel_rfl) ?_
    try simp only [p0, p1, p2, p3]
    refine wl_pure (.int .i64 ((l : Nat) : Int)) rfl (by kernel_rfl) ?_
    try simp only [p0, p1, p2, p3]
    refine wl_pure (.bool true) rfl (i_gtr (k := .i64) ((l : Nat) : Int) 500 true (decide_eq_true (by omega)) rfl (by kernel_rfl) (by kernel_rfl) _) ?_
    try simp only [p0, p1, p2, p3]
    refine wl_nil ?_
    show Code.wp _ _ _ _ _
    refine wp_cond_true rfl ?_
    refine wp_seq ?_
    refine wl_region ?_
    refine wl_pure (.bool true) rfl (by kernel_rfl) ?_
    try simp only [p0, p1, p2, p3]
    refine wl_nil ?_
    show Code.wp _ _ _ _ _
    refine wp_ret ?_
    try simp only [Exit.then, Exit.inBlock]
    refine bodyPost_ret (results_tmp rfl _ _ _) rfl ?_
    exact ⟨rfl, hO41.bl⟩
  · skip
    refine wp_seq ?_
    refine wp_seq ?_
    refine wl_region ?_
    refine wl_pure (.slice qb l cb) rfl (by kernel_rfl) ?_
    try simp only [p0, p1, p2, p3]
    refine wl_pure (.int .i64 ((l : Nat) : Int)) rfl (by kernel_rfl) ?_
    try simp only [p0, p1, p2, p3]
    refine wl_pure (.bool false) rfl (i_gtr (k := .i64) ((l : Nat) : Int) 500 false (decide_eq_false (by omega)) rfl (by kernel_rfl) (by kernel_rfl) _) ?_
    try simp only [p0, p1, p2, p3]
    refine wl_nil ?_
    show Code.wp _ _ _ _ _
    refine wp_cond_false rfl ?_
    refine wp_skip ?_
    show Code.wp _ _ _ _ _
    refine wp_seq ?_
    refine wl_region ?_
    refine wl_pure (.agg (aF .u8 32 (n8 (Cv.XN a (Cv.XN b 9))))) rfl (run_row (hO41.get (.tail _ (.head _))) Tryd.underlying22 rfl (by kernel_rfl) rfl (by kernel_rfl)) ?_
    try simp only [p0, p1, p2, p3]
    refine wl_pure (.slice qb l cb) rfl (by kernel_rfl) ?_
    try simp only [p0, p1, p2, p3]
    refine wl_runs rfl (r_keys (args := #[.agg (aF .u8 32 (n8 (Cv.XN a (Cv.XN b 9)))), .slice qb l cb, .int .i64 2]) (by kernel_rfl) (keys_any (K := K) (S := S) (k := n8 (Cv.XN a (Cv.XN b 9))) (b := text) (t2 := t2) (t3 := t3) (hS.under hO41.bl) (hK.under hO41.bl) (hT.below hO41.bl) (by omega)) hO41) ?_
    rintro _ w42 ⟨q1x, c1x, t1x, s1x, rfl, hO42, hB1x⟩
    clear hO41
    try simp only [List.nil_append, List.cons_append] at hO42
    try simp only [p0, p1, p2, p3]
    refine wl_pure (.tuple #[.slice q1x 2 c1x, .int .i64 0]) rfl (by kernel_rfl) ?_
    try simp only [p0, p1, p2, p3]
    refine wl_pure (.slice q1x 2 c1x) rfl (by kernel_rfl) ?_
    try simp only [p0, p1, p2, p3]
    refine wl_pure (.int .i64 0) rfl (by kernel_rfl) ?_
    try simp only [p0, p1, p2, p3]
    refine wl_pure (.slice q1x 2 c1x) rfl (by kernel_rfl) ?_
    try simp only [p0, p1, p2, p3]
    refine wl_pure (.int .i64 0) rfl (by kernel_rfl) ?_
    try simp only [p0, p1, p2, p3]
    refine wl_nil ?_
    obtain ⟨gK, rfl, hcgK⟩ := hB1x.addr (by decide)
    show Code.wp _ _ _ _ _
    refine wp_seq ?_
    refine wl_region ?_
    refine wl_pure (.agg (aF .u8 32 (n8 (Cv.XN a (Cv.XN b 9))))) rfl (run_row (hO42.get (.head _)) Tryd.underlying22 rfl (by kernel_rfl) rfl (by kernel_rfl)) ?_
    try simp only [p0, p1, p2, p3]
    refine wl_pure (.slice qb l cb) rfl (by kernel_rfl) ?_
    try simp only [p0, p1, p2, p3]
    refine wl_runs rfl (r_keys (args := #[.agg (aF .u8 32 (n8 (Cv.XN a (Cv.XN b 9)))), .slice qb l cb, .int .i64 2]) (by kernel_rfl) (keys_any (K := K) (S := S) (k := n8 (Cv.XN a (Cv.XN b 9))) (b := text) (t2 := t2) (t3 := t3) (hS.under hO42.bl) (hK.under hO42.bl) (hT.below hO42.bl) (by omega)) hO42) ?_
    rintro _ w43 ⟨q2x, c2x, t2x, s2x, rfl, hO43, hB2x⟩
    clear hO42
    try simp only [List.nil_append, List.cons_append] at hO43
    try simp only [p0, p1, p2, p3]
    refine wl_pure (.tuple #[.slice q2x 2 c2x, .int .i64 0]) rfl (by kernel_rfl) ?_
    try simp only [p0, p1, p2, p3]
    refine wl_pure (.slice q2x 2 c2x) rfl (by kernel_rfl) ?_
    try simp only [p0, p1, p2, p3]
    refine wl_pure (.int .i64 0) rfl (by kernel_rfl) ?_
    try simp only [p0, p1, p2, p3]
    refine wl_pure (.slice q2x 2 c2x) rfl (by kernel_rfl) ?_
    try simp only [p0, p1, p2, p3]
    refine wl_pure (.int .i64 0) rfl (by kernel_rfl) ?_
    try simp only [p0, p1, p2, p3]
    refine wl_nil ?_
    obtain ⟨gL, rfl, hcgL⟩ := hB2x.addr (by decide)
    show Code.wp _ _ _ _ _
    refine wp_seq ?_
    refine wp_seq ?_
    refine wd_region [] (Tr.ofList [(0, 1), (1, 1), (2, 1), (3, 1), (4, 1), (5, 1), (6, 1), (7, 1), (8, 1), (9, 1), (10, 1), (11, 1), (12, 1), (13, 1), (14, 1), (15, 1), (16, 1), (17, 1), (18, 1), (19, 1), (20, 1), (21, 1), (22, 1), (23, 1), (24, 1), (25, 1), (26, 1), (27, 1), (28, 1), (29, 1), (30, 1), (31, 1), (32, 1), (33, 1)] .nil) (by decide) (by kernel_rfl) (by kernel_rfl) hO43 fun w44 hO44 => ?_
    simp only [Tr.ofList]
    try clear hO43
    refine wd_ld (.int .i64 0) rfl (some 61) (by kernel_rfl) (by kernel_rfl) (fun _ hw => by kernel_rfl) hO44 ?_
    try simp only [p0, p1, p2, p3]
    refine wd_ld (.bool false) rfl (some 62) (by kernel_rfl) (by kernel_rfl) (fun _ hw => by kernel_rfl) hO44 ?_
    try simp only [p0, p1, p2, p3]
    refine wd_ld (.bool false) rfl (some 63) (by kernel_rfl) (by kernel_rfl) (fun _ hw => by kernel_rfl) hO44 ?_
    try simp only [p0, p1, p2, p3]
    refine wd_ld (.int .i64 0) rfl (some 64) (by kernel_rfl) (by kernel_rfl) (fun _ hw => by kernel_rfl) hO44 ?_
    try simp only [p0, p1, p2, p3]
    refine wd_ld (.bool false) rfl (some 65) (by kernel_rfl) (by kernel_rfl) (fun _ hw => by kernel_rfl) hO44 ?_
    try simp only [p0, p1, p2, p3]
    refine wd_ld (.bool false) rfl (some 66) (by kernel_rfl) (by kernel_rfl) (fun _ hw => by kernel_rfl) hO44 ?_
    try simp only [p0, p1, p2, p3]
    refine wd_ld (.bool false) rfl (some 67) (by kernel_rfl) (by kernel_rfl) (fun _ hw => by kernel_rfl) hO44 ?_
    try simp only [p0, p1, p2, p3]
    refine wd_ld (.slice (some ⟨gK, 0, none⟩) 2 c1x) rfl (some 68) (by kernel_rfl) (by kernel_rfl) (fun _ hw => by kernel_rfl) hO44 ?_
    try simp only [p0, p1, p2, p3]
    refine wd_ld (.int .i64 2) rfl (some 69) (by kernel_rfl) (by kernel_rfl) (fun _ hw => by kernel_rfl) hO44 ?_
    try simp only [p0, p1, p2, p3]
    refine wd_ld (.bool false) rfl (some 70) (by kernel_rfl) (by kernel_rfl) (fun _ hw => by kernel_rfl) hO44 ?_
    try simp only [p0, p1, p2, p3]
    refine wd_ld (.bool false) rfl (some 71) (by kernel_rfl) (by kernel_rfl) (fun _ hw => by kernel_rfl) hO44 ?_
    try simp only [p0, p1, p2, p3]
    refine wd_ld (.bool false) rfl (some 72) (by kernel_rfl) (by kernel_rfl) (fun _ hw => by kernel_rfl) hO44 ?_
    try simp only [p0, p1, p2, p3]
    refine wd_ld (.slice (some ⟨gL, 0, none⟩) 2 c2x) rfl (some 73) (by kernel_rfl) (by kernel_rfl) (fun _ hw => by kernel_rfl) hO44 ?_
    try simp only [p0, p1, p2, p3]
    refine wd_ld (.int .i64 2) rfl (some 74) (by kernel_rfl) (by kernel_rfl) (fun _ hw => by kernel_rfl) hO44 ?_
    try simp only [p0, p1, p2, p3]
    refine wd_ld (.bool false) rfl (some 75) (by kernel_rfl) (by kernel_rfl) (fun _ hw => by kernel_rfl) hO44 ?_
    try simp only [p0, p1, p2, p3]
    refine wd_ld (.bool false) rfl (some 76) (by kernel_rfl) (by kernel_rfl) (fun _ hw => by kernel_rfl) hO44 ?_
    try simp only [p0, p1, p2, p3]
    refine wd_ld (.bool false) rfl (some 77) (by kernel_rfl) (by kernel_rfl) (fun _ hw => by kernel_rfl) hO44 ?_
    try simp only [p0, p1, p2, p3]
    refine wd_ld (.slice (some ⟨gK, 0, none⟩) 2 c1x) rfl (some 78) (by kernel_rfl) (by kernel_rfl) (fun _ hw => by kernel_rfl) hO44 ?_
    try simp only [p0, p1, p2, p3]
    refine wd_ld (.pointer (some ⟨gK, 0, none⟩)) rfl (some 79) (by kernel_rfl) (by kernel_rfl) (fun _ hw => by kernel_rfl) hO44 ?_
    try simp only [p0, p1, p2, p3]
    refine wd_ld (.agg (aF .u8 32 (keysF K S (n8 (Cv.XN a (Cv.XN b 9))) l text))) rfl (some 80) (by kernel_rfl) (by kernel_rfl) (fun _ hw => run_part (RdC.le (Buf.rdcM (t := t1x) hB1x hw (by simp [buf]) (by decide)) (by decide)) Tryd.underlying22 rfl (by kernel_rfl) rfl (by kernel_rfl)) hO44 ?_
    try simp only [p0, p1, p2, p3]
    refine wd_ld (.slice (some ⟨gL, 0, none⟩) 2 c2x) rfl (some 81) (by kernel_rfl) (by kernel_rfl) (fun _ hw => by kernel_rfl) hO44 ?_
    try simp only [p0, p1, p2, p3]
    refine wd_ld (.pointer (some ⟨gL, 0, none⟩)) rfl (some 82) (by kernel_rfl) (by kernel_rfl) (fun _ hw => by kernel_rfl) hO44 ?_
    try simp only [p0, p1, p2, p3]
    refine wd_ld (.agg (aF .u8 32 (keysF K S (n8 (Cv.XN a (Cv.XN b 9))) l text))) rfl (some 83) (by kernel_rfl) (by kernel_rfl) (fun _ hw => run_part (RdC.le (Buf.rdcM (t := t2x) hB2x hw (by simp [buf]) (by decide)) (by decide)) Tryd.underlying22 rfl (by kernel_rfl) rfl (by kernel_rfl)) hO44 ?_
    try simp only [p0, p1, p2, p3]
    refine wd_ld (.bool false) rfl (some 84) (by kernel_rfl) (by kernel_rfl) (fun _ hw => aneq_self (f := (keysF K S (n8 (Cv.XN a (Cv.XN b 9))) l text)) rfl (by kernel_rfl) (by kernel_rfl) _) hO44 ?_
    try simp only [p0, p1, p2, p3]
    refine wd_ld (.bool false) rfl (some 85) (by kernel_rfl) (by kernel_rfl) (fun _ hw => by kernel_rfl) hO44 ?_
    try simp only [p0, p1, p2, p3]
    refine wd_ld (.bool false) rfl (some 86) (by kernel_rfl) (by kernel_rfl) (fun _ hw => by kernel_rfl) hO44 ?_
    try simp only [p0, p1, p2, p3]
    refine wd_ld (.slice (some ⟨gK, 0, none⟩) 2 c1x) rfl (some 87) (by kernel_rfl) (by kernel_rfl) (fun _ hw => by kernel_rfl) hO44 ?_
    try simp only [p0, p1, p2, p3]
    refine wd_ld (.pointer (some ⟨gK, 32, none⟩)) rfl (some 88) (by kernel_rfl) (by kernel_rfl) (fun _ hw => by kernel_rfl) hO44 ?_
    try simp only [p0, p1, p2, p3]
    refine wd_ld (.agg (aF .u8 32 (fun zz => (keysF K S (n8 (Cv.XN a (Cv.XN b 9))) l text) (32 + zz)))) rfl (some 89) (by kernel_rfl) (by kernel_rfl) (fun _ hw => run_part (RdC.part (Buf.rdcM (t := t1x) hB1x hw (by simp [buf]) (by decide)) 32 32 (by decide)) Tryd.underlying22 rfl (by kernel_rfl) rfl (by kernel_rfl)) hO44 ?_
    try simp only [p0, p1, p2, p3]
    refine wd_ld (.slice (some ⟨gL, 0, none⟩) 2 c2x) rfl (some 90) (by kernel_rfl) (by kernel_rfl) (fun _ hw => by kernel_rfl) hO44 ?_
    try simp only [p0, p1, p2, p3]
    refine wd_ld (.pointer (some ⟨gL, 32, none⟩)) rfl (some 91) (by kernel_rfl) (by kernel_rfl) (fun _ hw => by kernel_rfl) hO44 ?_
    try simp only [p0, p1, p2, p3]
    refine wd_ld (.agg (aF .u8 32 (fun zz => (keysF K S (n8 (Cv.XN a (Cv.XN b 9))) l text) (32 + zz)))) rfl (some 92) (by kernel_rfl) (by kernel_rfl) (fun _ hw => run_part (RdC.part (Buf.rdcM (t := t2x) hB2x hw (by simp [buf]) (by decide)) 32 32 (by decide)) Tryd.underlying22 rfl (by kernel_rfl) rfl (by kernel_rfl)) hO44 ?_
    try simp only [p0, p1, p2, p3]
    refine wd_ld (.bool false) rfl (some 93) (by kernel_rfl) (by kernel_rfl) (fun _ hw => aneq_self (f := (fun zz => (keysF K S (n8 (Cv.XN a (Cv.XN b 9))) l text) (32 + zz))) rfl (by kernel_rfl) (by kernel_rfl) _) hO44 ?_
    try simp only [p0, p1, p2, p3]
    refine wd_ld (.bool false) rfl (some 94) (by kernel_rfl) (by kernel_rfl) (fun _ hw => by kernel_rfl) hO44 ?_
    try simp only [p0, p1, p2, p3]
    refine wd_nil ?_
    show Code.wp _ _ _ _ _
    refine wp_cond_false rfl ?_
    refine wp_skip ?_
    show Code.wp _ _ _ _ _
    refine wp_seq ?_
    refine wd_region [] (Tr.ofList [(0, 1), (1, 1), (2, 1), (3, 1), (4, 1), (5, 1), (6, 1), (7, 3), (8, 1), (9, 1), (10, 1), (11, 1), (12, 1)] .nil) (by decide) (by kernel_rfl) (by kernel_rfl) hO44 fun w45 hO45 => ?_
    simp only [Tr.ofList]
    try clear hO44
    refine wd_ld (.slice (some ⟨gK, 0, none⟩) 2 c1x) rfl (some 96) (by kernel_rfl) (by kernel_rfl) (fun _ hw => by kernel_rfl) hO45 ?_
    try simp only [p0, p1, p2, p3]
    refine wd_ld (.pointer (some ⟨gK, 0, none⟩)) rfl (some 97) (by kernel_rfl) (by kernel_rfl) (fun _ hw => by kernel_rfl) hO45 ?_
    try simp only [p0, p1, p2, p3]
    refine wd_ld (.agg (aF .u8 32 (keysF K S (n8 (Cv.XN a (Cv.XN b 9))) l text))) rfl (some 98) (by kernel_rfl) (by kernel_rfl) (fun _ hw => run_part (RdC.le (Buf.rdcM (t := t1x) hB1x hw (by simp [buf]) (by decide)) (by decide)) Tryd.underlying22 rfl (by kernel_rfl) rfl (by kernel_rfl)) hO45 ?_
    try simp only [p0, p1, p2, p3]
    refine wd_ld (.slice (some ⟨gK, 0, none⟩) 2 c1x) rfl (some 99) (by kernel_rfl) (by kernel_rfl) (fun _ hw => by kernel_rfl) hO45 ?_
    try simp only [p0, p1, p2, p3]
    refine wd_ld (.pointer (some ⟨gK, 32, none⟩)) rfl (some 100) (by kernel_rfl) (by kernel_rfl) (fun _ hw => by kernel_rfl) hO45 ?_
    try simp only [p0, p1, p2, p3]
    refine wd_ld (.slice (some ⟨gK, 32, none⟩) 32 32) rfl (some 101) (by kernel_rfl) (by kernel_rfl) (fun _ hw => by kernel_rfl) hO45 ?_
    try simp only [p0, p1, p2, p3]
    refine wd_ld (.slice qb l cb) rfl (some 102) (by kernel_rfl) (by kernel_rfl) (fun _ hw => by kernel_rfl) hO45 ?_
    try simp only [p0, p1, p2, p3]
    refine wd_runs rfl (some 103) (by kernel_rfl) rfl (r_txtE (args := #[.agg (aF .u8 32 (keysF K S (n8 (Cv.XN a (Cv.XN b 9))) l text)), .int .u64 7, .slice (some ⟨gK, 32, none⟩) 32 32, .slice qb l cb]) (by kernel_rfl) (seal_any (first := first) (key := (keysF K S (n8 (Cv.XN a (Cv.XN b 9))) l text)) (ad := (fun zz => (keysF K S (n8 (Cv.XN a (Cv.XN b 9))) l text) (32 + zz))) (b := text) (n := 7) (Bk.rdc0 (hF.under hO45.bl)) (RdC.part (Buf.rdcM (t := t1x) hB1x hO45 (by simp [buf]) (by decide)) 32 32 (by decide)) (hT.below hO45.bl) (by omega)) hO45) (by rintro _ _ ⟨q3x, c3x, t3x, s3x, rfl, h, hB3x⟩; exact (Own.sub h (.cons_cons _ (.cons_cons _ (.cons_cons _ (.cons_cons _ (List.sublist_append_left _ _))))))) ?_
    rintro _ w46 ⟨q3x, c3x, t3x, s3x, rfl, hO46, hB3x⟩
    clear hO45
    try simp only [List.nil_append, List.cons_append] at hO46
    try simp only [p0, p1, p2, p3]
    refine wd_ld (.tuple #[.slice q3x (l + 16) c3x, .int .i64 0]) rfl (some 95) (by kernel_rfl) (by kernel_rfl) (fun _ hw => by kernel_rfl) (Own.sub hO46 (.cons_cons _ (.cons_cons _ (.cons_cons _ (.cons_cons _ (List.sublist_append_left _ _)))))) ?_
    try simp only [p0, p1, p2, p3]
    refine wd_ld (.slice q3x (l + 16) c3x) rfl (some 104) (by kernel_rfl) (by kernel_rfl) (fun _ hw => by kernel_rfl) (Own.sub hO46 (.cons_cons _ (.cons_cons _ (.cons_cons _ (.cons_cons _ (List.sublist_append_left _ _)))))) ?_
    try simp only [p0, p1, p2, p3]
    refine wd_ld (.int .i64 0) rfl (some 105) (by kernel_rfl) (by kernel_rfl) (fun _ hw => by kernel_rfl) (Own.sub hO46 (.cons_cons _ (.cons_cons _ (.cons_cons _ (.cons_cons _ (List.sublist_append_left _ _)))))) ?_
    try simp only [p0, p1, p2, p3]
    refine wd_ld (.slice q3x (l + 16) c3x) rfl (some 15) (by kernel_rfl) (by kernel_rfl) (fun _ hw => by kernel_rfl) (Own.sub hO46 (.cons_cons _ (.cons_cons _ (.cons_cons _ (.cons_cons _ (List.sublist_append_left _ _)))))) ?_
    try simp only [p0, p1, p2, p3]
    refine wd_ld (.int .i64 0) rfl (some 16) (by kernel_rfl) (by kernel_rfl) (fun _ hw => by kernel_rfl) (Own.sub hO46 (.cons_cons _ (.cons_cons _ (.cons_cons _ (.cons_cons _ (List.sublist_append_left _ _)))))) ?_
    try simp only [p0, p1, p2, p3]
    refine wd_nil ?_
    show Code.wp _ _ _ _ _
    refine wp_seq ?_
    refine wd_region [] (Tr.ofList [(0, 1), (1, 1), (2, 1), (3, 1), (4, 1), (5, 1), (6, 1), (7, 3), (8, 1), (9, 1), (10, 1), (11, 1), (12, 1)] .nil) (by decide) (by kernel_rfl) (by kernel_rfl) hO46 fun w47 hO47 => ?_
    simp only [Tr.ofList]
    try clear hO46
    refine wd_ld (.slice (some ⟨gL, 0, none⟩) 2 c2x) rfl (some 107) (by kernel_rfl) (by kernel_rfl) (fun _ hw => by kernel_rfl) hO47 ?_
    try simp only [p0, p1, p2, p3]
    refine wd_ld (.pointer (some ⟨gL, 0, none⟩)) rfl (some 108) (by kernel_rfl) (by kernel_rfl) (fun _ hw => by kernel_rfl) hO47 ?_
    try simp only [p0, p1, p2, p3]
    refine wd_ld (.agg (aF .u8 32 (keysF K S (n8 (Cv.XN a (Cv.XN b 9))) l text))) rfl (some 109) (by kernel_rfl) (by kernel_rfl) (fun _ hw => run_part (RdC.le (Buf.rdcM (t := t2x) hB2x hw (by simp [buf]) (by decide)) (by decide)) Tryd.underlying22 rfl (by kernel_rfl) rfl (by kernel_rfl)) hO47 ?_
    try simp only [p0, p1, p2, p3]
    refine wd_ld (.slice (some ⟨gL, 0, none⟩) 2 c2x) rfl (some 110) (by kernel_rfl) (by kernel_rfl) (fun _ hw => by kernel_rfl) hO47 ?_
    try simp only [p0, p1, p2, p3]
    refine wd_ld (.pointer (some ⟨gL, 32, none⟩)) rfl (some 111) (by kernel_rfl) (by kernel_rfl) (fun _ hw => by kernel_rfl) hO47 ?_
    try simp only [p0, p1, p2, p3]
    refine wd_ld (.slice (some ⟨gL, 32, none⟩) 32 32) rfl (some 112) (by kernel_rfl) (by kernel_rfl) (fun _ hw => by kernel_rfl) hO47 ?_
    try simp only [p0, p1, p2, p3]
    refine wd_ld (.slice q3x (l + 16) c3x) rfl (some 113) (by kernel_rfl) (by kernel_rfl) (fun _ hw => by kernel_rfl) hO47 ?_
    try simp only [p0, p1, p2, p3]
    refine wd_runs rfl (some 114) (by kernel_rfl) rfl (r_txtE (args := #[.agg (aF .u8 32 (keysF K S (n8 (Cv.XN a (Cv.XN b 9))) l text)), .int .u64 7, .slice (some ⟨gL, 32, none⟩) 32 32, .slice q3x (l + 16) c3x]) (by kernel_rfl) (open_any (first := first) (key := (keysF K S (n8 (Cv.XN a (Cv.XN b 9))) l text)) (ad := (fun zz => (keysF K S (n8 (Cv.XN a (Cv.XN b 9))) l text) (32 + zz))) (b := text) (n := 7) (l := l) (Bk.rdc0 (hF.under hO47.bl)) (RdC.part (Buf.rdcM (t := t2x) hB2x hO47 (by simp [buf]) (by decide)) 32 32 (by decide)) (Rd.rdf (t := t3x) hB3x.rd hO47 (by intro g e; subst e; simp [buf])) (by omega)) hO47) (by rintro _ _ ⟨q4x, c4x, t4x, s4x, rfl, h, hB4x⟩; exact (Own.sub h (.cons_cons _ (.cons_cons _ (.cons_cons _ (.cons_cons _ (List.sublist_append_left _ _))))))) ?_
    rintro _ w48 ⟨q4x, c4x, t4x, s4x, rfl, hO48, hB4x⟩
    clear hO47
    try simp only [List.nil_append, List.cons_append] at hO48
    try simp only [p0, p1, p2, p3]
    refine wd_ld (.tuple #[.slice q4x l c4x, .int .i64 0]) rfl (some 106) (by kernel_rfl) (by kernel_rfl) (fun _ hw => by kernel_rfl) (Own.sub hO48 (.cons_cons _ (.cons_cons _ (.cons_cons _ (.cons_cons _ (List.sublist_append_left _ _)))))) ?_
    try simp only [p0, p1, p2, p3]
    refine wd_ld (.slice q4x l c4x) rfl (some 115) (by kernel_rfl) (by kernel_rfl) (fun _ hw => by kernel_rfl) (Own.sub hO48 (.cons_cons _ (.cons_cons _ (.cons_cons _ (.cons_cons _ (List.sublist_append_left _ _)))))) ?_
    try simp only [p0, p1, p2, p3]
    refine wd_ld (.int .i64 0) rfl (some 116) (by kernel_rfl) (by kernel_rfl) (fun _ hw => by kernel_rfl) (Own.sub hO48 (.cons_cons _ (.cons_cons _ (.cons_cons _ (.cons_cons _ (List.sublist_append_left _ _)))))) ?_
    try simp only [p0, p1, p2, p3]
    refine wd_ld (.slice q4x l c4x) rfl (some 17) (by kernel_rfl) (by kernel_rfl) (fun _ hw => by kernel_rfl) (Own.sub hO48 (.cons_cons _ (.cons_cons _ (.cons_cons _ (.cons_cons _ (List.sublist_append_left _ _)))))) ?_
    try simp only [p0, p1, p2, p3]
    refine wd_ld (.int .i64 0) rfl (some 18) (by kernel_rfl) (by kernel_rfl) (fun _ hw => by kernel_rfl) (Own.sub hO48 (.cons_cons _ (.cons_cons _ (.cons_cons _ (.cons_cons _ (List.sublist_append_left _ _)))))) ?_
    try simp only [p0, p1, p2, p3]
    refine wd_nil ?_
    show Code.wp _ _ _ _ _
    refine wp_seq ?_
    refine wl_region ?_
    refine wl_pure (.int .i64 0) (by kernel_rfl) (by kernel_rfl) ?_
    try simp only [p0, p1, p2, p3]
    refine wl_pure (.bool true) (by kernel_rfl) (by kernel_rfl) ?_
    try simp only [p0, p1, p2, p3]
    refine wl_pure (.bool true) (by kernel_rfl) (by kernel_rfl) ?_
    try simp only [p0, p1, p2, p3]
    refine wl_pure (.int .i64 0) (by kernel_rfl) (by kernel_rfl) ?_
    try simp only [p0, p1, p2, p3]
    refine wl_pure (.bool true) (by kernel_rfl) (by kernel_rfl) ?_
    try simp only [p0, p1, p2, p3]
    refine wl_pure (.bool true) (by kernel_rfl) (by kernel_rfl) ?_
    try simp only [p0, p1, p2, p3]
    refine wl_pure (.bool true) (by kernel_rfl) (by kernel_rfl) ?_
    try simp only [p0, p1, p2, p3]
    refine wl_pure (.slice q4x l c4x) (by kernel_rfl) (by kernel_rfl) ?_
    try simp only [p0, p1, p2, p3]
    refine wl_pure (.string (strF text l)) (by kernel_rfl) (conv_text (src := 23) (dst := 9) (RdF.congr (Rd.rdf (t := t4x) hB4x.rd hO48 (by intro g e; subst e; simp [buf])) (fun j hj => ix_twice _ (hr j hj))) (by kernel_rfl) Tryd.underlying23 Tryd.underlying5 Tryd.underlying9) ?_
    try simp only [p0, p1, p2, p3]
    refine wl_pure (.slice qb l cb) (by kernel_rfl) (by kernel_rfl) ?_
    try simp only [p0, p1, p2, p3]
    refine wl_pure (.string (strF text l)) (by kernel_rfl) (conv_text (src := 23) (dst := 9) (hT.below hO48.bl) (by kernel_rfl) Tryd.underlying23 Tryd.underlying5 Tryd.underlying9) ?_
    try simp only [p0, p1, p2, p3]
    refine wl_pure (.bool true) (by kernel_rfl) (s_eql (s := strF text l) rfl (by kernel_rfl) (by kernel_rfl)) ?_
    try simp only [p0, p1, p2, p3]
    refine wl_pure (.bool true) (by kernel_rfl) (by kernel_rfl) ?_
    try simp only [p0, p1, p2, p3]
    refine wl_pure (.bool true) (by kernel_rfl) (by kernel_rfl) ?_
    try simp only [p0, p1, p2, p3]
    refine wl_pure (.slice q3x (l + 16) c3x) (by kernel_rfl) (by kernel_rfl) ?_
    try simp only [p0, p1, p2, p3]
    refine wl_pure (.int .i64 (((l + 16) : Nat) : Int)) (by kernel_rfl) (by kernel_rfl) ?_
    try simp only [p0, p1, p2, p3]
    refine wl_pure (.slice qb l cb) (by kernel_rfl) (by kernel_rfl) ?_
    try simp only [p0, p1, p2, p3]
    refine wl_pure (.int .i64 ((l : Nat) : Int)) (by kernel_rfl) (by kernel_rfl) ?_
    try simp only [p0, p1, p2, p3]
    refine wl_pure (.int .i64 ((l + 16 : Nat) : Int)) (by kernel_rfl) (n_add (k := .i64) rfl l 16 (by omega) rfl (by kernel_rfl) (by kernel_rfl) _) ?_
    try simp only [p0, p1, p2, p3]
    refine wl_pure (.bool true) (by kernel_rfl) (i_eql (k := .i64) (((l + 16) : Nat) : Int) ((l + 16 : Nat) : Int) true (decide_eq_true (by omega)) rfl (by kernel_rfl) (by kernel_rfl) _) ?_
    try simp only [p0, p1, p2, p3]
    refine wl_pure (.bool true) (by kernel_rfl) (by kernel_rfl) ?_
    try simp only [p0, p1, p2, p3]
    refine wl_pure (.bool true) (by kernel_rfl) (by kernel_rfl) ?_
    try simp only [p0, p1, p2, p3]
    refine wl_nil ?_
    show Code.wp _ _ _ _ _
    refine wp_ret ?_
    refine bodyPost_ret (results_tmp rfl _ _ _) rfl ?_
    exact ⟨rfl, hO48.bl⟩
end Go.Proofs.YtkmgdpbmkbpkjaaDoor
