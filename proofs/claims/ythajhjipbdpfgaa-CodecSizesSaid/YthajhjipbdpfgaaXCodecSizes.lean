/- The function signetringlaw08.CodecSizes, as a plain function, with the proof that the program's call answers as it says. -/
import Derived.Test.YthajhjipbdpfgaaCx0
import Derived.Test.YthajhjipbdpfgaaCHand
import Derived.Test.YthajhjipbdpfgaaXAlive
import Derived.Test.YthajhjipbdpfgaaXFew
namespace Go.Proofs.Ythajhjipbdpfgaa.C
open Go.RowKit Go.Proofs.YthajhjipbdpfgaaW.PrintWords Go.Proofs.YthajhjipbdpfgaaW.PrintLast Go.Proofs.YthajhjipbdpfgaaW.PrintMore
attribute [local go_sem] max2_int min2_int max_two min_two max_three min_three max_four min_four   -- for this text's walks alone
set_option linter.unusedVariables false
set_option linter.unusedSimpArgs false

/-! ### signetringlaw08_CodecSizes: function 7 -/
def signetringlaw08_CodecSizes.l0 : Nat → Int → List ByteArray → ByteArray → Int → Int → Bool → List ByteArray → Int → Int → Option (Bool)
  | 0, _, _, _, _, _, _, _, _, _ => none
  | k + 1, x0, x1, x5, x6, x7, x8, x22, x23, x24 => if x24 < x23 then (if 0 ≤ x24 then (if x24 < (x22.length : Int) then (if x8 = true then (signetringlaw08_CodecSizes.l0 k x0 x1 x5 x6 (wrap64 (x7 + (wrap64 (2 + ((rdOf ByteArray.empty x22 x24).size : Int))))) true x22 x23 (wrap64 (x24 + 1))) else (signetringlaw08_CodecSizes.l0 k x0 x1 x5 x6 (wrap64 (x7 + (wrap64 (2 + ((rdOf ByteArray.empty x22 x24).size : Int))))) (decide (((rdOf ByteArray.empty x22 x24).size : Int) > 4000)) x22 x23 (wrap64 (x24 + 1)))) else (none)) else (none)) else (if x7 > 30000 then (if x6 = 3 then (some (x5.toList == ([] : List UInt8))) else (some false)) else (if x8 = true then (if x6 = 3 then (some (x5.toList == ([] : List UInt8))) else (some false)) else (if (x1.length : Int) > 255 then (if x6 = 3 then (some (x5.toList == ([] : List UInt8))) else (some false)) else (if x6 = 0 then (if (x5.size : Int) = x7 then (if 0 < (x5.size : Int) then (if (bt x5 0) = 1 then (if 1 < (x5.size : Int) then (if (bt x5 1) = x0 then (if 2 < (x5.size : Int) then (some ((wrap64 (bt x5 2)) == (x1.length : Int))) else (none)) else (some false)) else (none)) else (some false)) else (none)) else (some false)) else (some false)))))
def signetringlaw08_CodecSizes.f (k : Nat) (a0 : Int) (l1 : List ByteArray) : Option (Bool) := (signetringlaw08_alive.f k).bind fun t247 => (if t247 = true then ((signetringlaw08_few.f k l1).bind fun t248 => (if t248 = true then ((codec_Join.f k a0 l1).bind fun bt249 => (signetringlaw08_CodecSizes.l0 k a0 l1 bt249.1 bt249.2 3 false l1 (l1.length : Int) 0)) else (some true))) else (some false))
theorem signetringlaw08_CodecSizes.mono_l : ∀ k, (∀ y0 y1 y2 y3 y4 y5 y6 y7 y8, LeO (signetringlaw08_CodecSizes.l0 k y0 y1 y2 y3 y4 y5 y6 y7 y8) (signetringlaw08_CodecSizes.l0 (k + 1) y0 y1 y2 y3 y4 y5 y6 y7 y8))
  | 0 => fun _ _ _ _ _ _ _ _ _ r h => by simp [signetringlaw08_CodecSizes.l0] at h
  | k + 1 => by
    have ih0 := signetringlaw08_CodecSizes.mono_l k
    · intro y0 y1 y2 y3 y4 y5 y6 y7 y8
      unfold signetringlaw08_CodecSizes.l0
      repeat' first
      | (with_reducible exact ih0 _ _ _ _ _ _ _ _ _)
      | (with_reducible exact codec_Join.mono _ _ _)
      | (with_reducible exact signetringlaw08_alive.mono _)
      | (with_reducible exact signetringlaw08_few.mono _ _)
      | (with_reducible exact LeO.refl _)
      | (with_reducible exact LeO.none _)
      | (with_reducible refine LeO.ite ?_ ?_)
      | (with_reducible refine LeO.bind ?_ (fun _ => ?_))
      | exact ih0 _ _ _ _ _ _ _ _ _
      | exact codec_Join.mono _ _ _
      | exact signetringlaw08_alive.mono _
      | exact signetringlaw08_few.mono _ _
      | exact LeO.none _
      | refine LeO.ite ?_ ?_
      | refine LeO.bind ?_ (fun _ => ?_)
theorem signetringlaw08_CodecSizes.mono : ∀ a0 a1 k, LeO (signetringlaw08_CodecSizes.f k a0 a1) (signetringlaw08_CodecSizes.f (k + 1) a0 a1) := by
  intro a0 a1 k
  have ih0 := signetringlaw08_CodecSizes.mono_l k
  unfold signetringlaw08_CodecSizes.f
  repeat' first
      | (with_reducible exact ih0 _ _ _ _ _ _ _ _ _)
      | (with_reducible exact codec_Join.mono _ _ _)
      | (with_reducible exact signetringlaw08_alive.mono _)
      | (with_reducible exact signetringlaw08_few.mono _ _)
      | (with_reducible exact LeO.refl _)
      | (with_reducible exact LeO.none _)
      | (with_reducible refine LeO.ite ?_ ?_)
      | (with_reducible refine LeO.bind ?_ (fun _ => ?_))
      | exact ih0 _ _ _ _ _ _ _ _ _
      | exact codec_Join.mono _ _ _
      | exact signetringlaw08_alive.mono _
      | exact signetringlaw08_few.mono _ _
      | exact LeO.none _
      | refine LeO.ite ?_ ?_
      | refine LeO.bind ?_ (fun _ => ?_)
set_option maxHeartbeats 8000000 in
set_option maxRecDepth 100000 in
theorem signetringlaw08_CodecSizes.calls (k : Nat) (a0 : Int) (A1 : Option Addr) (c1 : Nat) (l1 : List ByteArray) (r : Bool) (w : World) (hr1 : Kd.C Kd.string w A1 l1.length l1) (hc1 : l1.length ≤ c1) (h : signetringlaw08_CodecSizes.f k a0 l1 = some r) :
    Calls Try.prog 7 #[.int .u8 a0, .slice A1 l1.length c1] w fun e w' => e = .returned (.bool r) ∧ Below w.heap.size w w' := by
  have HR1 := Aside0.mk hr1
  have HC1 := Aside0.mk hc1
  clear hr1 hc1
  have HB := Aside0.mk (Below.refl w.heap.size w)
  have H : ((signetringlaw08_alive.f k).bind fun t247 => (if t247 = true then ((signetringlaw08_few.f k l1).bind fun t248 => (if t248 = true then ((codec_Join.f k a0 l1).bind fun bt249 => (signetringlaw08_CodecSizes.l0 k a0 l1 bt249.1 bt249.2 3 false l1 (l1.length : Int) 0)) else (some true))) else (some false))) = some r := h
  clear h
  replace H := Option.bind_eq_some_iff.mp H
  obtain ⟨t247, A30, H⟩ := H
  replace H : (if t247 = true then ((signetringlaw08_few.f k l1).bind fun t248 => (if t248 = true then ((codec_Join.f k a0 l1).bind fun bt249 => (signetringlaw08_CodecSizes.l0 k a0 l1 bt249.1 bt249.2 3 false l1 (l1.length : Int) 0)) else (some true))) else (some false)) = some r := H
  have A3 := Aside0.mk A30
  clear A30
  by_cases c4 : t247 = true
  · subst c4
    have H1 : ((signetringlaw08_few.f k l1).bind fun t248 => (if t248 = true then ((codec_Join.f k a0 l1).bind fun bt249 => (signetringlaw08_CodecSizes.l0 k a0 l1 bt249.1 bt249.2 3 false l1 (l1.length : Int) 0)) else (some true))) = some r := by rw [if_pos rfl] at H; exact H
    clear H
    have H := H1
    clear H1
    replace H := Option.bind_eq_some_iff.mp H
    obtain ⟨t248, A50, H⟩ := H
    replace H : (if t248 = true then ((codec_Join.f k a0 l1).bind fun bt249 => (signetringlaw08_CodecSizes.l0 k a0 l1 bt249.1 bt249.2 3 false l1 (l1.length : Int) 0)) else (some true)) = some r := H
    have A5 := Aside0.mk A50
    clear A50
    by_cases c6 : t248 = true
    · subst c6
      have H1 : ((codec_Join.f k a0 l1).bind fun bt249 => (signetringlaw08_CodecSizes.l0 k a0 l1 bt249.1 bt249.2 3 false l1 (l1.length : Int) 0)) = some r := by rw [if_pos rfl] at H; exact H
      clear H
      have H := H1
      clear H1
      replace H := Option.bind_eq_some_iff.mp H
      obtain ⟨⟨t249, t250⟩, A70, H⟩ := H
      replace H : (signetringlaw08_CodecSizes.l0 k a0 l1 t249 t250 3 false l1 (l1.length : Int) 0) = some r := H
      have A7 := Aside0.mk A70
      clear A70
      have H' := Aside0.mk H
      clear H
      go_enter Try.func7, Try.ntmps7
      go_wp2_with (first | ((with_reducible refine gate_callee (f := 10) rfl ?_); refine goesL_ (some 11) rfl rfl Try.func10 (by kernel_rfl) rfl #[] rfl (by (try simp only [List.map_toArray, List.map_cons, List.map_nil]); first | done | rfl | (simp only [List.length_drop, List.length_take]; rfl)) ?_; (with_reducible refine (signetringlaw08_alive.calls k  true _ A3.out).mono ?_); rintro e w8 ⟨rfl, hb⟩; refine ⟨_, rfl, ?_⟩; have n0_ := Aside0.mk (below_step (by repeat (first | (with_reducible first | exact HB.out | apply below_alloc | apply pw_below_drewN | apply below_drew1) | exact HB.out)) hb); clear HB; have HB := n0_; clear n0_; (try clear hb); (try clear hb2); (try clear hk); (try clear hi)) | ((with_reducible refine gate_callee (f := 11) rfl ?_); refine goesL_ (some 14) rfl rfl Try.func11 (by kernel_rfl) rfl #[.slice A1 l1.length c1] rfl (by (try simp only [List.map_toArray, List.map_cons, List.map_nil]); first | done | rfl | (simp only [List.length_drop, List.length_take]; rfl)) ?_; (with_reducible refine (signetringlaw08_few.calls k _ _ l1 true _ ?side1 ?side2 A5.out).mono ?_); (case side1 => repeat (first | exact (Kd.C_below HR1.out HB.out) | (with_reducible refine Kd.C_alloc ?_ _) | (with_reducible refine Kd.C_drewN ?_ _) | (with_reducible refine Kd.C_drew ?_))); (case side2 => exact HC1.out); rintro e w' ⟨rfl, ⟨nd, rfl⟩⟩; refine ⟨_, rfl, ?_⟩) | ((with_reducible refine gate_callee (f := 12) rfl ?_); refine goesL_ (some 19) rfl rfl Try.func12 (by kernel_rfl) rfl #[.int .u8 a0, .slice A1 l1.length c1] rfl (by (try simp only [List.map_toArray, List.map_cons, List.map_nil]); first | done | rfl | (simp only [List.length_drop, List.length_take]; rfl)) ?_; (with_reducible refine (codec_Join.calls k a0 _ _ l1 t249 t250 _ ?side1 ?side2 A7.out).mono ?_); (case side1 => repeat (first | exact (Kd.C_below HR1.out (by repeat (first | (with_reducible first | exact HB.out | apply below_alloc | apply pw_below_drewN | apply below_drew1) | exact HB.out))) | (with_reducible refine Kd.C_alloc ?_ _) | (with_reducible refine Kd.C_drewN ?_ _) | (with_reducible refine Kd.C_drew ?_))); (case side2 => exact HC1.out); rintro e w9 ⟨rfl, hb⟩; refine ⟨_, rfl, ?_⟩; have n0_ := Aside0.mk (below_step (by repeat (first | (with_reducible first | exact HB.out | apply below_alloc | apply pw_below_drewN | apply below_drew1) | exact HB.out)) hb); clear HB; have HB := n0_; clear n0_; (try clear hb); (try clear hb2); (try clear hk); (try clear hi)))
      go_loopg [7, 8, 24] k (fun kq v7 v8 v24 w' => ∃ (x7_1 : Int) (x8_1 : Bool) (x24_1 : Int), v7 = .int .i64 x7_1 ∧ v8 = .bool x8_1 ∧ v24 = .int .i64 x24_1 ∧ Aside0 (signetringlaw08_CodecSizes.l0 kq a0 l1 t249 t250 x7_1 x8_1 l1 (l1.length : Int) x24_1 = some r) ∧ Aside0 (kq ≤ k) ∧ Aside0 (Below w.heap.size w w'))
      case atStart => exact ⟨(3), (false), (0), (by first | rfl | (simp; done) | (simp [*]; done)), (by first | rfl | (simp; done) | (simp [*]; done)), (by first | rfl | (simp; done) | (simp [*]; done)), H', ⟨Nat.le_refl _⟩, ⟨by repeat (first | (with_reducible first | exact HB.out | apply below_alloc | apply pw_below_drewN | apply below_drew1) | exact HB.out)⟩⟩
      case round =>
        clear H'
        try clear c1
        try clear p2
        try clear c4
        try clear c6
        try clear c7
        obtain ⟨x7_1, x8_1, x24_1, rfl, rfl, rfl, HA, HK1, HB⟩ := hrel
        cases gk with
        | zero => exact absurd HA.out (by simp [signetringlaw08_CodecSizes.l0])
        | succ k1 =>
          have H := HA.out
          clear HA
          simp only [signetringlaw08_CodecSizes.l0] at H
          by_cases c10 : x24_1 < (l1.length : Int)
          · rw [if_pos c10] at H
            have c10b0 : decide (x24_1 < (l1.length : Int)) = true := decide_eq_true c10
            clear c10
            by_cases c11 : 0 ≤ x24_1
            · rw [if_pos c11] at H
              have c11b0 : decide (0 ≤ x24_1) = true := decide_eq_true c11
              clear c11
              by_cases c12 : x24_1 < (l1.length : Int)
              · rw [if_pos c12] at H
                have c12b0 : decide (x24_1 < (l1.length : Int)) = true := decide_eq_true c12
                clear c12
                by_cases c13 : x8_1 = true
                · subst c13
                  have H1 : (signetringlaw08_CodecSizes.l0 k1 a0 l1 t249 t250 (wrap64 (x7_1 + (wrap64 (2 + ((rdOf ByteArray.empty l1 x24_1).size : Int))))) true l1 (l1.length : Int) (wrap64 (x24_1 + 1))) = some r := by rw [if_pos rfl] at H; exact H
                  clear H
                  have H := H1
                  clear H1
                  have H' := Aside0.mk H
                  clear H
                  have p251 : 0 ≤ (x24_1 : Int) := of_decide_eq_true (by first | (with_reducible assumption) | assumption)
                  have q251 : x24_1 < (l1.length : Int) := of_decide_eq_true (by first | (with_reducible assumption) | assumption)
                  obtain ⟨ad251, e251, hx251_0⟩ := Kd.at_string HR1.out x24_1 p251 q251
                  cases e251
                  replace hx251_0 := (HB.out.cell (World.block_lt_of_cell? w _ hx251_0)).trans hx251_0
                  replace p251 := eq_true p251
                  replace q251 := eq_true q251
                  go_wp2
                  go_roundg k1
                  case measure => have := HK1.out; omega
                  case rel => exact ⟨(wrap64 (x7_1 + (wrap64 (2 + ((rdOf ByteArray.empty l1 x24_1).size : Int))))), (true), (wrap64 (x24_1 + 1)), (by first | rfl | (simp; done) | (simp [*]; done)), (by first | rfl | (simp; done) | (simp [*]; done)), (by first | rfl | (simp; done) | (simp [*]; done)), H', ⟨by have := HK1.out; omega⟩, ⟨by repeat (first | (with_reducible first | exact HB.out | apply below_alloc | apply pw_below_drewN | apply below_drew1) | exact HB.out)⟩⟩
                · replace c13 := Bool.eq_false_iff.mpr c13
                  subst c13
                  have H1 : (signetringlaw08_CodecSizes.l0 k1 a0 l1 t249 t250 (wrap64 (x7_1 + (wrap64 (2 + ((rdOf ByteArray.empty l1 x24_1).size : Int))))) (decide (((rdOf ByteArray.empty l1 x24_1).size : Int) > 4000)) l1 (l1.length : Int) (wrap64 (x24_1 + 1))) = some r := by rw [if_neg (show ¬ (false = true) by decide)] at H; exact H
                  clear H
                  have H := H1
                  clear H1
                  have H' := Aside0.mk H
                  clear H
                  have p251 : 0 ≤ (x24_1 : Int) := of_decide_eq_true (by first | (with_reducible assumption) | assumption)
                  have q251 : x24_1 < (l1.length : Int) := of_decide_eq_true (by first | (with_reducible assumption) | assumption)
                  obtain ⟨ad251, e251, hx251_0⟩ := Kd.at_string HR1.out x24_1 p251 q251
                  cases e251
                  replace hx251_0 := (HB.out.cell (World.block_lt_of_cell? w _ hx251_0)).trans hx251_0
                  replace p251 := eq_true p251
                  replace q251 := eq_true q251
                  go_wp2
                  go_roundg k1
                  case measure => have := HK1.out; omega
                  case rel => exact ⟨(wrap64 (x7_1 + (wrap64 (2 + ((rdOf ByteArray.empty l1 x24_1).size : Int))))), (decide (((rdOf ByteArray.empty l1 x24_1).size : Int) > 4000)), (wrap64 (x24_1 + 1)), (by first | rfl | (simp; done) | (simp [*]; done)), (by first | rfl | (simp; done) | (simp [*]; done)), (by first | rfl | (simp; done) | (simp [*]; done)), H', ⟨by have := HK1.out; omega⟩, ⟨by repeat (first | (with_reducible first | exact HB.out | apply below_alloc | apply pw_below_drewN | apply below_drew1) | exact HB.out)⟩⟩
              · rw [if_neg c12] at H
                exact absurd H (by simp)
            · rw [if_neg c11] at H
              exact absurd H (by simp)
          · rw [if_neg c10] at H
            have c10b0 : decide (x24_1 < (l1.length : Int)) = false := decide_eq_false c10
            clear c10
            by_cases c14 : x7_1 > 30000
            · rw [if_pos c14] at H
              have c14b0 : decide (30000 < x7_1) = true := decide_eq_true c14
              clear c14
              by_cases c15 : t250 = 3
              · rw [if_pos c15] at H
                have c15b0 : (t250 == 3) = true := beq_iff_eq.mpr c15
                have c15b1 : (t250 != 3) = false := bne_eq_false_iff_eq.mpr c15
                clear c15
                obtain rfl := Option.some.inj H
                go_wp2
                go_ret
                exact ⟨by first | rfl | (simp [errW_none, errW_some] <;> rfl) | (simp [*, errW_none, errW_some] <;> rfl), by repeat (first | (with_reducible first | exact HB.out | apply below_alloc | apply pw_below_drewN | apply below_drew1) | exact HB.out)⟩
              · rw [if_neg c15] at H
                have c15b0 : (t250 == 3) = false := beq_eq_false_iff_ne.mpr c15
                have c15b1 : (t250 != 3) = true := bne_iff_ne.mpr c15
                obtain rfl := Option.some.inj H
                go_wp2
                go_ret
                exact ⟨by first | rfl | (simp [errW_none, errW_some] <;> rfl) | (simp [*, errW_none, errW_some] <;> rfl), by repeat (first | (with_reducible first | exact HB.out | apply below_alloc | apply pw_below_drewN | apply below_drew1) | exact HB.out)⟩
            · rw [if_neg c14] at H
              have c14b0 : decide (30000 < x7_1) = false := decide_eq_false c14
              clear c14
              by_cases c16 : x8_1 = true
              · subst c16
                have H1 : (if t250 = 3 then (some (t249.toList == ([] : List UInt8))) else (some false)) = some r := by rw [if_pos rfl] at H; exact H
                clear H
                have H := H1
                clear H1
                by_cases c17 : t250 = 3
                · rw [if_pos c17] at H
                  have c17b0 : (t250 == 3) = true := beq_iff_eq.mpr c17
                  have c17b1 : (t250 != 3) = false := bne_eq_false_iff_eq.mpr c17
                  clear c17
                  obtain rfl := Option.some.inj H
                  go_wp2
                  go_ret
                  exact ⟨by first | rfl | (simp [errW_none, errW_some] <;> rfl) | (simp [*, errW_none, errW_some] <;> rfl), by repeat (first | (with_reducible first | exact HB.out | apply below_alloc | apply pw_below_drewN | apply below_drew1) | exact HB.out)⟩
                · rw [if_neg c17] at H
                  have c17b0 : (t250 == 3) = false := beq_eq_false_iff_ne.mpr c17
                  have c17b1 : (t250 != 3) = true := bne_iff_ne.mpr c17
                  obtain rfl := Option.some.inj H
                  go_wp2
                  go_ret
                  exact ⟨by first | rfl | (simp [errW_none, errW_some] <;> rfl) | (simp [*, errW_none, errW_some] <;> rfl), by repeat (first | (with_reducible first | exact HB.out | apply below_alloc | apply pw_below_drewN | apply below_drew1) | exact HB.out)⟩
              · replace c16 := Bool.eq_false_iff.mpr c16
                subst c16
                have H1 : (if (l1.length : Int) > 255 then (if t250 = 3 then (some (t249.toList == ([] : List UInt8))) else (some false)) else (if t250 = 0 then (if (t249.size : Int) = x7_1 then (if 0 < (t249.size : Int) then (if (bt t249 0) = 1 then (if 1 < (t249.size : Int) then (if (bt t249 1) = a0 then (if 2 < (t249.size : Int) then (some ((wrap64 (bt t249 2)) == (l1.length : Int))) else (none)) else (some false)) else (none)) else (some false)) else (none)) else (some false)) else (some false))) = some r := by rw [if_neg (show ¬ (false = true) by decide)] at H; exact H
                clear H
                have H := H1
                clear H1
                by_cases c18 : (l1.length : Int) > 255
                · rw [if_pos c18] at H
                  have c18b0 : decide (255 < (l1.length : Int)) = true := decide_eq_true c18
                  have c18b1 : decide (255 < l1.length) = true := decide_eq_true (by omega)
                  clear c18
                  by_cases c19 : t250 = 3
                  · rw [if_pos c19] at H
                    have c19b0 : (t250 == 3) = true := beq_iff_eq.mpr c19
                    have c19b1 : (t250 != 3) = false := bne_eq_false_iff_eq.mpr c19
                    clear c19
                    obtain rfl := Option.some.inj H
                    go_wp2
                    go_ret
                    exact ⟨by first | rfl | (simp [errW_none, errW_some] <;> rfl) | (simp [*, errW_none, errW_some] <;> rfl), by repeat (first | (with_reducible first | exact HB.out | apply below_alloc | apply pw_below_drewN | apply below_drew1) | exact HB.out)⟩
                  · rw [if_neg c19] at H
                    have c19b0 : (t250 == 3) = false := beq_eq_false_iff_ne.mpr c19
                    have c19b1 : (t250 != 3) = true := bne_iff_ne.mpr c19
                    obtain rfl := Option.some.inj H
                    go_wp2
                    go_ret
                    exact ⟨by first | rfl | (simp [errW_none, errW_some] <;> rfl) | (simp [*, errW_none, errW_some] <;> rfl), by repeat (first | (with_reducible first | exact HB.out | apply below_alloc | apply pw_below_drewN | apply below_drew1) | exact HB.out)⟩
                · rw [if_neg c18] at H
                  have c18b0 : decide (255 < (l1.length : Int)) = false := decide_eq_false c18
                  have c18b1 : decide (255 < l1.length) = false := decide_eq_false (by omega)
                  clear c18
                  by_cases c20 : t250 = 0
                  · rw [if_pos c20] at H
                    have c20b0 : (t250 == 0) = true := beq_iff_eq.mpr c20
                    have c20b1 : (t250 != 0) = false := bne_eq_false_iff_eq.mpr c20
                    clear c20
                    by_cases c21 : (t249.size : Int) = x7_1
                    · rw [if_pos c21] at H
                      have c21b0 : ((t249.size : Int) == x7_1) = true := beq_iff_eq.mpr c21
                      have c21b1 : ((t249.size : Int) != x7_1) = false := bne_eq_false_iff_eq.mpr c21
                      clear c21
                      by_cases c22 : 0 < (t249.size : Int)
                      · rw [if_pos c22] at H
                        have c22b0 : decide (0 < (t249.size : Int)) = true := decide_eq_true c22
                        have c22b1 : decide (0 < t249.size) = true := decide_eq_true (by omega)
                        clear c22
                        by_cases c24 : (bt t249 0) = 1
                        · rw [if_pos c24] at H
                          have c24b0 : ((bt t249 0) == 1) = true := beq_iff_eq.mpr c24
                          have c24b1 : ((bt t249 0) != 1) = false := bne_eq_false_iff_eq.mpr c24
                          clear c24
                          by_cases c25 : 1 < (t249.size : Int)
                          · rw [if_pos c25] at H
                            have c25b0 : decide (1 < (t249.size : Int)) = true := decide_eq_true c25
                            have c25b1 : decide (1 < t249.size) = true := decide_eq_true (by omega)
                            clear c25
                            by_cases c27 : (bt t249 1) = a0
                            · rw [if_pos c27] at H
                              have c27b0 : ((bt t249 1) == a0) = true := beq_iff_eq.mpr c27
                              have c27b1 : ((bt t249 1) != a0) = false := bne_eq_false_iff_eq.mpr c27
                              clear c27
                              by_cases c28 : 2 < (t249.size : Int)
                              · rw [if_pos c28] at H
                                have c28b0 : decide (2 < (t249.size : Int)) = true := decide_eq_true c28
                                have c28b1 : decide (2 < t249.size) = true := decide_eq_true (by omega)
                                clear c28
                                obtain rfl := Option.some.inj H
                                have p23 : 0 ≤ (0 : Int) := (by omega)
                                have q23 : 0 < t249.size := (by have : (0 : Int) < (t249.size : Int) := of_decide_eq_true (by first | (with_reducible assumption) | assumption); omega)
                                have hx23 : ∀ h : 0 < t249.size, ((t249[0]'h).toNat : Int) = bt t249 0 := bt_at t249 0
                                clear p23
                                have qi23 : (0 < (t249.size : Int)) = True := eq_true (of_decide_eq_true (by first | (with_reducible assumption) | assumption))
                                replace q23 := eq_true q23
                                have p26 : 0 ≤ (1 : Int) := (by omega)
                                have q26 : 1 < t249.size := (by have : (1 : Int) < (t249.size : Int) := of_decide_eq_true (by first | (with_reducible assumption) | assumption); omega)
                                have hx26 : ∀ h : 1 < t249.size, ((t249[1]'h).toNat : Int) = bt t249 1 := bt_at t249 1
                                clear p26
                                have qi26 : (1 < (t249.size : Int)) = True := eq_true (of_decide_eq_true (by first | (with_reducible assumption) | assumption))
                                replace q26 := eq_true q26
                                have p29 : 0 ≤ (2 : Int) := (by omega)
                                have q29 : 2 < t249.size := (by have : (2 : Int) < (t249.size : Int) := of_decide_eq_true (by first | (with_reducible assumption) | assumption); omega)
                                have hx29 : ∀ h : 2 < t249.size, ((t249[2]'h).toNat : Int) = bt t249 2 := bt_at t249 2
                                clear p29
                                have qi29 : (2 < (t249.size : Int)) = True := eq_true (of_decide_eq_true (by first | (with_reducible assumption) | assumption))
                                replace q29 := eq_true q29
                                go_wp2
                                go_ret
                                exact ⟨by first | rfl | (simp [errW_none, errW_some] <;> rfl) | (simp [*, errW_none, errW_some] <;> rfl), by repeat (first | (with_reducible first | exact HB.out | apply below_alloc | apply pw_below_drewN | apply below_drew1) | exact HB.out)⟩
                              · rw [if_neg c28] at H
                                exact absurd H (by simp)
                            · rw [if_neg c27] at H
                              have c27b0 : ((bt t249 1) == a0) = false := beq_eq_false_iff_ne.mpr c27
                              have c27b1 : ((bt t249 1) != a0) = true := bne_iff_ne.mpr c27
                              obtain rfl := Option.some.inj H
                              have p23 : 0 ≤ (0 : Int) := (by omega)
                              have q23 : 0 < t249.size := (by have : (0 : Int) < (t249.size : Int) := of_decide_eq_true (by first | (with_reducible assumption) | assumption); omega)
                              have hx23 : ∀ h : 0 < t249.size, ((t249[0]'h).toNat : Int) = bt t249 0 := bt_at t249 0
                              clear p23
                              have qi23 : (0 < (t249.size : Int)) = True := eq_true (of_decide_eq_true (by first | (with_reducible assumption) | assumption))
                              replace q23 := eq_true q23
                              have p26 : 0 ≤ (1 : Int) := (by omega)
                              have q26 : 1 < t249.size := (by have : (1 : Int) < (t249.size : Int) := of_decide_eq_true (by first | (with_reducible assumption) | assumption); omega)
                              have hx26 : ∀ h : 1 < t249.size, ((t249[1]'h).toNat : Int) = bt t249 1 := bt_at t249 1
                              clear p26
                              have qi26 : (1 < (t249.size : Int)) = True := eq_true (of_decide_eq_true (by first | (with_reducible assumption) | assumption))
                              replace q26 := eq_true q26
                              go_wp2
                              go_ret
                              exact ⟨by first | rfl | (simp [errW_none, errW_some] <;> rfl) | (simp [*, errW_none, errW_some] <;> rfl), by repeat (first | (with_reducible first | exact HB.out | apply below_alloc | apply pw_below_drewN | apply below_drew1) | exact HB.out)⟩
                          · rw [if_neg c25] at H
                            exact absurd H (by simp)
                        · rw [if_neg c24] at H
                          have c24b0 : ((bt t249 0) == 1) = false := beq_eq_false_iff_ne.mpr c24
                          have c24b1 : ((bt t249 0) != 1) = true := bne_iff_ne.mpr c24
                          obtain rfl := Option.some.inj H
                          have p23 : 0 ≤ (0 : Int) := (by omega)
                          have q23 : 0 < t249.size := (by have : (0 : Int) < (t249.size : Int) := of_decide_eq_true (by first | (with_reducible assumption) | assumption); omega)
                          have hx23 : ∀ h : 0 < t249.size, ((t249[0]'h).toNat : Int) = bt t249 0 := bt_at t249 0
                          clear p23
                          have qi23 : (0 < (t249.size : Int)) = True := eq_true (of_decide_eq_true (by first | (with_reducible assumption) | assumption))
                          replace q23 := eq_true q23
                          go_wp2
                          go_ret
                          exact ⟨by first | rfl | (simp [errW_none, errW_some] <;> rfl) | (simp [*, errW_none, errW_some] <;> rfl), by repeat (first | (with_reducible first | exact HB.out | apply below_alloc | apply pw_below_drewN | apply below_drew1) | exact HB.out)⟩
                      · rw [if_neg c22] at H
                        exact absurd H (by simp)
                    · rw [if_neg c21] at H
                      have c21b0 : ((t249.size : Int) == x7_1) = false := beq_eq_false_iff_ne.mpr c21
                      have c21b1 : ((t249.size : Int) != x7_1) = true := bne_iff_ne.mpr c21
                      obtain rfl := Option.some.inj H
                      go_wp2
                      go_ret
                      exact ⟨by first | rfl | (simp [errW_none, errW_some] <;> rfl) | (simp [*, errW_none, errW_some] <;> rfl), by repeat (first | (with_reducible first | exact HB.out | apply below_alloc | apply pw_below_drewN | apply below_drew1) | exact HB.out)⟩
                  · rw [if_neg c20] at H
                    have c20b0 : (t250 == 0) = false := beq_eq_false_iff_ne.mpr c20
                    have c20b1 : (t250 != 0) = true := bne_iff_ne.mpr c20
                    obtain rfl := Option.some.inj H
                    go_wp2
                    go_ret
                    exact ⟨by first | rfl | (simp [errW_none, errW_some] <;> rfl) | (simp [*, errW_none, errW_some] <;> rfl), by repeat (first | (with_reducible first | exact HB.out | apply below_alloc | apply pw_below_drewN | apply below_drew1) | exact HB.out)⟩
    · replace c6 := Bool.eq_false_iff.mpr c6
      subst c6
      have H1 : (some true) = some r := by rw [if_neg (show ¬ (false = true) by decide)] at H; exact H
      clear H
      have H := H1
      clear H1
      obtain rfl := Option.some.inj H
      go_enter Try.func7, Try.ntmps7
      go_wp2_with (first | ((with_reducible refine gate_callee (f := 10) rfl ?_); refine goesL_ (some 11) rfl rfl Try.func10 (by kernel_rfl) rfl #[] rfl (by (try simp only [List.map_toArray, List.map_cons, List.map_nil]); first | done | rfl | (simp only [List.length_drop, List.length_take]; rfl)) ?_; (with_reducible refine (signetringlaw08_alive.calls k  true _ A3.out).mono ?_); rintro e w30 ⟨rfl, hb⟩; refine ⟨_, rfl, ?_⟩; have n0_ := Aside0.mk (below_step (by repeat (first | (with_reducible first | exact HB.out | apply below_alloc | apply pw_below_drewN | apply below_drew1) | exact HB.out)) hb); clear HB; have HB := n0_; clear n0_; (try clear hb); (try clear hb2); (try clear hk); (try clear hi)) | ((with_reducible refine gate_callee (f := 11) rfl ?_); refine goesL_ (some 14) rfl rfl Try.func11 (by kernel_rfl) rfl #[.slice A1 l1.length c1] rfl (by (try simp only [List.map_toArray, List.map_cons, List.map_nil]); first | done | rfl | (simp only [List.length_drop, List.length_take]; rfl)) ?_; (with_reducible refine (signetringlaw08_few.calls k _ _ l1 false _ ?side1 ?side2 A5.out).mono ?_); (case side1 => repeat (first | exact (Kd.C_below HR1.out HB.out) | (with_reducible refine Kd.C_alloc ?_ _) | (with_reducible refine Kd.C_drewN ?_ _) | (with_reducible refine Kd.C_drew ?_))); (case side2 => exact HC1.out); rintro e w' ⟨rfl, ⟨nd, rfl⟩⟩; refine ⟨_, rfl, ?_⟩))
      go_ret
      exact ⟨by first | rfl | (simp [errW_none, errW_some] <;> rfl) | (simp [*, errW_none, errW_some] <;> rfl), by repeat (first | (with_reducible first | exact HB.out | apply below_alloc | apply pw_below_drewN | apply below_drew1) | exact HB.out)⟩
  · replace c4 := Bool.eq_false_iff.mpr c4
    subst c4
    have H1 : (some false) = some r := by rw [if_neg (show ¬ (false = true) by decide)] at H; exact H
    clear H
    have H := H1
    clear H1
    obtain rfl := Option.some.inj H
    go_enter Try.func7, Try.ntmps7
    go_wp2_with (first | ((with_reducible refine gate_callee (f := 10) rfl ?_); refine goesL_ (some 11) rfl rfl Try.func10 (by kernel_rfl) rfl #[] rfl (by (try simp only [List.map_toArray, List.map_cons, List.map_nil]); first | done | rfl | (simp only [List.length_drop, List.length_take]; rfl)) ?_; (with_reducible refine (signetringlaw08_alive.calls k  false _ A3.out).mono ?_); rintro e w31 ⟨rfl, hb⟩; refine ⟨_, rfl, ?_⟩; have n0_ := Aside0.mk (below_step (by repeat (first | (with_reducible first | exact HB.out | apply below_alloc | apply pw_below_drewN | apply below_drew1) | exact HB.out)) hb); clear HB; have HB := n0_; clear n0_; (try clear hb); (try clear hb2); (try clear hk); (try clear hi)))
    go_ret
    exact ⟨by first | rfl | (simp [errW_none, errW_some] <;> rfl) | (simp [*, errW_none, errW_some] <;> rfl), by repeat (first | (with_reducible first | exact HB.out | apply below_alloc | apply pw_below_drewN | apply below_drew1) | exact HB.out)⟩

end Go.Proofs.Ythajhjipbdpfgaa.C
