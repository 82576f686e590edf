/-
  LadderBits: the statement, tied to the program's text.
-/
import Derived.Test.YtkmgdpbmkbpkjaaDoorRows
import Derived.Test.YtkmgdpbmkbpkjaaDoorCards
import Derived.Test.YtkmgdpbmkbpkjaaDoorTie
import Derived.Test.YtkmgdpbmkbpkjaaDoorLadG
import Derived.Test.YtkmgdpbmkbpkjaaDoorLBits
import Derived.WalkKit
import Derived.ProofKit
import Derived.ChangeReads
import Derived.ChangeSame
import Derived.SevenTiedAt
set_option linter.unusedVariables false
namespace Go.Proofs.YtkmgdpbmkbpkjaaDoor
open Go.ChangeShapes Go.WideShapes Go.ChangeAt Go.RowKit

section
variable {H : Type} {enc : TypeId × Value → H}
theorem trod_up {P : Program} {W : World} {b : Nat} {sp : Nat → Bool} {held : Bool} {t : TypeId} {cs : List Value} {x : DataW H × List MemPlace} {n : Nat} (h : DataW.trod enc P W b sp held n t cs = some x) : ∀ k, DataW.trod enc P W b sp held (n + k) t cs = some x
  | 0 => h
  | k + 1 => DataW.trod_succ _ _ _ _ (trod_up h k)
theorem u8_nat {a : Int} (h : (Lit.int .u8 a).wf = true) : ∃ n : Nat, a = n ∧ n < 256 := by
  have hb : 0 ≤ a ∧ a ≤ 255 := by simp [Lit.wf, IntKind.min, IntKind.max, IntKind.signed, IntKind.bits] at h; omega
  exact ⟨a.toNat, (Int.toNat_of_nonneg hb.1).symm, by omega⟩
theorem cut_list (cs : List Value) (h : cs.length = 66) (a b : Array Value) (x y : Value) (ha : cs.take 32 = a.toList) (hb : (cs.drop 32).take 32 = b.toList) (hx : (cs.drop 64).take 1 = [x]) (hy : (cs.drop 65).take 1 = [y]) : cs = a.toList ++ (b.toList ++ [x, y]) := by
  have e1 : cs = cs.take 32 ++ cs.drop 32 := (List.take_append_drop 32 cs).symm
  have e2 : cs.drop 32 = (cs.drop 32).take 32 ++ (cs.drop 32).drop 32 := (List.take_append_drop 32 _).symm
  have e3 : (cs.drop 32).drop 32 = cs.drop 64 := by rw [List.drop_drop]
  have e4 : cs.drop 64 = (cs.drop 64).take 1 ++ (cs.drop 64).drop 1 := (List.take_append_drop 1 _).symm
  have e5 : (cs.drop 64).drop 1 = cs.drop 65 := by rw [List.drop_drop]
  have e6 : cs.drop 65 = (cs.drop 65).take 1 := (List.take_of_length_le (by rw [List.length_drop]; omega)).symm
  rw [hy] at e6
  rw [e5, hx, e6] at e4
  rw [e3, hb, e4] at e2
  rw [ha, e2] at e1
  exact e1
theorem bitsC_list (k u l h : Nat) : (bitsC k u l h).toList = (c8 k).toList ++ ((c8 u).toList ++ [Value.int .u8 (l : Int), Value.int .u8 (h : Int)]) := by
  unfold bitsC
  simp [slab]
set_option maxRecDepth 100000 in
theorem open_bits {W : World} {base b : Nat} {sp : Nat → Bool} {held : Bool} {v : Value} {d : DataW H} {p : List MemPlace}
    (hval : Value.okWide Tryd.prog W .any base 41 v) (h : DataW.Trod enc Tryd.prog W b sp held 41 v d p) :
    ∃ k u l h, N256 k ∧ N256 u ∧ l < 256 ∧ h < 256 ∧ v = .agg (bitsC k u l h) ∧ p = [] ∧ ∀ (W' : World) (b' : Nat) (sp' : Nat → Bool) (held' : Bool), DataW.Trod enc Tryd.prog W' b' sp' held' 41 (.agg (bitsC k u l h)) d [] := by
  obtain ⟨cs, rfl⟩ : ∃ cs, v = .agg cs := by
    have := hval
    simp [Value.okWide, Tryd.underlying41] at this
    obtain ⟨cs, rfl, _⟩ := this
    exact ⟨cs, rfl⟩
  obtain ⟨fuel, hf⟩ := h
  have hf : DataW.trod enc Tryd.prog W b sp held fuel 41 cs.toList = some (d, p) := hf
  obtain ⟨xs, n, rfl, hx, hl, hxl, hfd⟩ := DataW.trod_struct Tryd.underlying41 hf
  have c66 : Tryd.prog.cellsOf 41 = 66 := by kernel_rfl
  have c32 : Tryd.prog.cellsOf 22 = 32 := by kernel_rfl
  have c1 : Tryd.prog.cellsOf 5 = 1 := by kernel_rfl
  rw [c66] at hl
  match xs, hxl with
  | [y0, y1, y2, y3], _ =>
    have e0 : DataW.trod enc Tryd.prog W b sp held n 22 ((cs.toList.drop 0).take (Tryd.prog.cellsOf 22)) = some y0 := hfd 0 _ rfl
    have e1 : DataW.trod enc Tryd.prog W b sp held n 22 ((cs.toList.drop 32).take (Tryd.prog.cellsOf 22)) = some y1 := hfd 1 _ rfl
    have e2 : DataW.trod enc Tryd.prog W b sp held n 5 ((cs.toList.drop 64).take (Tryd.prog.cellsOf 5)) = some y2 := hfd 2 _ rfl
    have e3 : DataW.trod enc Tryd.prog W b sp held n 5 ((cs.toList.drop 65).take (Tryd.prog.cellsOf 5)) = some y3 := hfd 3 _ rfl
    rw [c32] at e0 e1
    rw [c1] at e2 e3
    rw [List.drop_zero] at e0
    obtain ⟨k, hk, ek, ep0, s0⟩ := num_of (cs := (cs.toList.take 32).toArray) (d := y0.1) (p := y0.2) e0
    obtain ⟨u, hu, eu, ep1, s1⟩ := num_of (cs := ((cs.toList.drop 32).take 32).toArray) (d := y1.1) (p := y1.2) e1
    obtain ⟨l0, el, rfl, wl⟩ := DataW.trod_int Tryd.underlying5 e2
    obtain ⟨h0, eh, rfl, wh⟩ := DataW.trod_int Tryd.underlying5 e3
    obtain ⟨l, rfl, hl8⟩ := u8_nat wl
    obtain ⟨h, rfl, hh8⟩ := u8_nat wh
    have hcs : cs.toList = (bitsC k u l h).toList := by
      rw [bitsC_list]
      exact cut_list cs.toList hl (c8 k) (c8 u) _ _ (by rw [← ek]) (by rw [← eu]) el eh
    have hcs : cs = bitsC k u l h := Array.toList_inj.1 hcs
    subst hcs
    simp only [Prod.mk.injEq, List.map_cons, List.map_nil, List.flatMap_cons, List.flatMap_nil, ep0, ep1, List.append_nil] at hx
    obtain ⟨rfl, rfl⟩ := hx
    refine ⟨k, u, l, h, hk, hu, hl8, hh8, rfl, rfl, fun W' b' sp' held' => ⟨3, ?_⟩⟩
    show DataW.trod enc Tryd.prog W' b' sp' held' (2 + 1) 41 (bitsC k u l h).toList = _
    have := trod_struct_mk (enc := enc) (w := W') (base := b') (spare := sp') (held := held') (n := 2) (cs := (bitsC k u l h).toList)
      (xs := [(y0.1, []), (y1.1, []), (.lit (.int .u8 (l : Int)), []), (.lit (.int .u8 (h : Int)), [])]) Tryd.underlying41 (by rw [c66]; exact hl) ?_
    · simpa using this
    · have g0 : ((bitsC k u l h).toList.drop 0).take 32 = (c8 k).toList := by rw [List.drop_zero, ← ek]
      have g1 : ((bitsC k u l h).toList.drop 32).take 32 = (c8 u).toList := by rw [← eu]
      have t0 := s0 W' b' sp' held'
      have t1 := s1 W' b' sp' held'
      simp only [List.mapM_cons, List.mapM_nil, c32, c1, g0, g1, el, eh, t0, t1, trod_int_mk 1 Tryd.underlying5 wl, trod_int_mk 1 Tryd.underlying5 wh]
      rfl
end
theorem ladderBits_own : ownKnob Tryd.prog.godebug = none := by kernel_rfl
set_option maxRecDepth 100000 in
set_option maxHeartbeats 1000000 in
theorem ladderBits_lifted (os : Os) (started : os.Started) (H : Type) (enc : TypeId × Value → H) :
    ReturnsInHanded {} Tryd.checked os 7 .any (fun w args => (Rows.ladderBitsSpec.pre enc Tryd.prog Tryd.f7 [] false w args ∧ laidMetH Tryd.prog laid1 w) ∧ sizedMet enc Tryd.prog Tryd.f7 (OpenSpec.ofChange Rows.ladderBitsSpec) false w args) (Rows.ladderBitsSpec.post enc Tryd.prog Tryd.f7 false true false false) := by
  refine returnsInHanded_of_change_and (C := Tryd.checked) (X := fun w _ => laidMetH Tryd.prog laid1 w) (fun _ _ _ hh h => h.of_heap hh) ladderBits_own started (by kernel_rfl) Tryd.func7
    (ChangeSpec.witness_shaped (enc := enc) (C := Tryd.checked) (os := os) (X := fun w _ => laidMetH Tryd.prog laid1 w) false (World.doorLaid Tryd.prog 29 os) #[.agg #[.int .u8 0, .int .u8 0, .int .u8 0, .int .u8 0, .int .u8 0, .int .u8 0, .int .u8 0, .int .u8 0, .int .u8 0, .int .u8 0, .int .u8 0, .int .u8 0, .int .u8 0, .int .u8 0, .int .u8 0, .int .u8 0, .int .u8 0, .int .u8 0, .int .u8 0, .int .u8 0, .int .u8 0, .int .u8 0, .int .u8 0, .int .u8 0, .int .u8 0, .int .u8 0, .int .u8 0, .int .u8 0, .int .u8 0, .int .u8 0, .int .u8 0, .int .u8 0, .int .u8 0, .int .u8 0, .int .u8 0, .int .u8 0, .int .u8 0, .int .u8 0, .int .u8 0, .int .u8 0, .int .u8 0, .int .u8 0, .int .u8 0, .int .u8 0, .int .u8 0, .int .u8 0, .int .u8 0, .int .u8 0, .int .u8 0, .int .u8 0, .int .u8 0, .int .u8 0, .int .u8 0, .int .u8 0, .int .u8 0, .int .u8 0, .int .u8 0, .int .u8 0, .int .u8 0, .int .u8 0, .int .u8 0, .int .u8 0, .int .u8 0, .int .u8 0, .int .u8 0, .int .u8 0]] 8 rfl (World.shaped_of_RefB (by kernel_rfl) (by kernel_rfl)) (by kernel_rfl) (by kernel_rfl) (by kernel_rfl) (door_met os _)) ?_
  intro W base args ds gs before hval0 hW _ hsz0 hL _
  have hval : ∀ (j : Nat) t v, Tryd.f7.params[j]? = some t → args[j]? = some v → Value.okWide Tryd.prog W .any base t v := hval0
  have hW' := hW
  obtain ⟨p, q, hA0, hV, rfl, _, _⟩ := hW
  have hA : DataW.TrodAll enc Tryd.prog W 0 (fun _ => true) true Tryd.f7.params.toList args.toList ds p := hA0
  rw [Tryd.params7] at hA hval
  obtain ⟨v0, vs0, d0, ds0, p0, q0, hargs, rfl, rfl, h0, r0⟩ := trodAll_cons hA
  obtain ⟨rfl, rfl, rfl⟩ := trodAll_nil r0
  obtain rfl : args = #[v0] := by cases args; simp_all
  obtain ⟨rfl, rfl⟩ := trodVars_none hV
  obtain ⟨k0, u0, l0, h00, hk0, hu0, hl0, hh0, rfl, rfl, rd0⟩ := open_bits (hval 0 41 v0 rfl rfl) h0
  obtain ⟨tG, hG⟩ := glob_of hL
  clear hA0 hval0
  simp only [List.append_nil] at hW'
  have hC : Ret Tryd.prog 7 _ W (.bool true) := bits_any hk0 hu0 hl0 hh0 W hG
  refine Calls.mono hC fun e W' ⟨he, hb⟩ => ?_
  subst he
  exact ⟨_, rfl, ⟨_, _, _, [], _, [], hW', trodAll_mk1 (shut_bool Tryd.underlying4 _), (trodAll_cons_mk (rd0 _ _ _ _) trodAll_mk0), rfl, hb.frame _, fun h => by cases h⟩⟩
theorem ladderBits_row : Rows.LadderBitsSaid :=
  OpenClaim.holds_of_wide 7 Tryd.f7 rfl rfl rfl rfl rfl rfl rfl ⟨rfl, rfl, rfl, rfl, rfl⟩ rfl rfl rfl rfl rfl (by kernel_rfl) Tryd.func7 (by kernel_rfl)
    (of_decide_eq_true (by kernel_rfl)) (by unfold Func.isWrapper; first | (rw [if_pos (by decide +kernel)]; kernel_rfl) | (rw [if_neg (by decide +kernel)]; exact ⟨rfl, rfl⟩))
    (fun os started H enc _ => ladderBits_lifted os started H enc)
/-- The tied card. -/
theorem ladderBits_proved : Rows.LadderBitsCardSaid :=
  Claim7.holds_tied_plain_at .later [] [.data] true (true, "a35b22d4415b3bd6f4443cbe5a8a0dd8eaad9ce5eeecdd65ea5c2bd4a24017b5") false
    ladderBits_row (fun _ h => by cases h) (by kernel_rfl) (fun _ h => by cases h) ladderBits_row_tie rfl ⟨rfl, rfl⟩ (by kernel_rfl) rfl
    (fun f fn hf hfn => by
      obtain rfl : f = 7 := Option.some.inj ((show Tryd.prog.funcNamed "signetring/signetringlaw02.LadderBits" = some 7 by kernel_rfl).symm.trans hf) |>.symm
      obtain rfl : fn = Tryd.f7 := (Option.some.inj (Tryd.func7.symm.trans hfn)).symm
      exact ⟨by kernel_rfl, fun j t ht => by
        rw [Tryd.params7] at ht
        have hm : t ∈ [41] := by have := Array.mem_of_getElem? ht; simpa using this
        have hall : ([41].all fun u => !Tryd.prog.wantsStandIn u) = true := by kernel_rfl
        exact (show Tryd.prog.wantsStandIn t = false by simpa using List.all_eq_true.1 hall t hm)⟩)
    (by kernel_rfl)
end Go.Proofs.YtkmgdpbmkbpkjaaDoor
