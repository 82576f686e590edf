/-
  What the row's condition says of the four variables; a text as an argument.
-/
import Derived.Test.YtkmgdpbmkbpkjaaDoorLadG
import Derived.Test.YtkmgdpbmkbpkjaaDoorVg
import Derived.Deep.Slices
set_option linter.unusedVariables false
set_option linter.unusedSimpArgs false
namespace Go.Proofs.YtkmgdpbmkbpkjaaDoor
open Go.ChangeShapes Go.WideShapes Go.ChangeAt Go.RowKit Go.Deep

theorem gl1 : Tryd.prog.globalNamed "signetring/stream.first" = some 1 := by kernel_rfl
theorem tl1 : (Tryd.prog.globals[1]?).map (·.type) = some 98 := by kernel_rfl
theorem cells1 {W : World} {cs : Array Value} {fuel : Nat} {x : DataW Unit × List MemPlace} (h : DataW.trod (fun _ => ()) Tryd.prog W 0 (fun _ => true) false fuel 98 cs.toList = some x) : ∃ f, cs = aF .u32 4 f := by
  obtain ⟨xs, m, rfl, hx, hl, hxl, hel⟩ := DataW.trod_array Tryd.underlying98 h
  have hc : Tryd.prog.cellsOf 55 = 1 := by kernel_rfl
  have hc2 : Tryd.prog.cellsOf 98 = 4 := by kernel_rfl
  rw [hc] at hel
  rw [hc2, Array.length_toList] at hl
  have one : ∀ i, i < 4 → ∃ z : Int, cs[i]? = some (.int .u32 z) := by
    intro i hi
    have e := hel i hi
    have hg : (cs.toList.drop (i * 1)).take 1 = [cs[i]'(by omega)] := by
      rw [Nat.mul_one]
      have : i < cs.toList.length := by simpa using (by omega : i < cs.size)
      rw [List.drop_eq_getElem_cons this]
      simp
    have hxi : xs[i]? = some (xs[i]'(by omega)) := List.getElem?_eq_getElem _
    rw [hg, hxi] at e
    obtain ⟨z, hz, hx', wz⟩ := DataW.trod_int Tryd.underlying55 e
    simp at hz
    exact ⟨z, by rw [Array.getElem?_eq_getElem (by omega), hz]⟩
  refine ⟨fun i => if hi : i < 4 then (one i hi).choose else 0, aF_of hl fun i hi => ?_⟩
  simp only [hi, dif_pos]
  exact (one i hi).choose_spec
theorem gl2 : Tryd.prog.globalNamed "signetring/sha.start" = some 2 := by kernel_rfl
theorem tl2 : (Tryd.prog.globals[2]?).map (·.type) = some 89 := by kernel_rfl
theorem cells2 {W : World} {cs : Array Value} {fuel : Nat} {x : DataW Unit × List MemPlace} (h : DataW.trod (fun _ => ()) Tryd.prog W 0 (fun _ => true) false fuel 89 cs.toList = some x) : ∃ f, cs = aF .u32 8 f := by
  obtain ⟨xs, m, rfl, hx, hl, hxl, hel⟩ := DataW.trod_array Tryd.underlying89 h
  have hc : Tryd.prog.cellsOf 55 = 1 := by kernel_rfl
  have hc2 : Tryd.prog.cellsOf 89 = 8 := by kernel_rfl
  rw [hc] at hel
  rw [hc2, Array.length_toList] at hl
  have one : ∀ i, i < 8 → ∃ z : Int, cs[i]? = some (.int .u32 z) := by
    intro i hi
    have e := hel i hi
    have hg : (cs.toList.drop (i * 1)).take 1 = [cs[i]'(by omega)] := by
      rw [Nat.mul_one]
      have : i < cs.toList.length := by simpa using (by omega : i < cs.size)
      rw [List.drop_eq_getElem_cons this]
      simp
    have hxi : xs[i]? = some (xs[i]'(by omega)) := List.getElem?_eq_getElem _
    rw [hg, hxi] at e
    obtain ⟨z, hz, hx', wz⟩ := DataW.trod_int Tryd.underlying55 e
    simp at hz
    exact ⟨z, by rw [Array.getElem?_eq_getElem (by omega), hz]⟩
  refine ⟨fun i => if hi : i < 8 then (one i hi).choose else 0, aF_of hl fun i hi => ?_⟩
  simp only [hi, dif_pos]
  exact (one i hi).choose_spec
theorem gl3 : Tryd.prog.globalNamed "signetring/sha.constants" = some 3 := by kernel_rfl
theorem tl3 : (Tryd.prog.globals[3]?).map (·.type) = some 124 := by kernel_rfl
theorem cells3 {W : World} {cs : Array Value} {fuel : Nat} {x : DataW Unit × List MemPlace} (h : DataW.trod (fun _ => ()) Tryd.prog W 0 (fun _ => true) false fuel 124 cs.toList = some x) : ∃ f, cs = aF .u32 64 f := by
  obtain ⟨xs, m, rfl, hx, hl, hxl, hel⟩ := DataW.trod_array Tryd.underlying124 h
  have hc : Tryd.prog.cellsOf 55 = 1 := by kernel_rfl
  have hc2 : Tryd.prog.cellsOf 124 = 64 := by kernel_rfl
  rw [hc] at hel
  rw [hc2, Array.length_toList] at hl
  have one : ∀ i, i < 64 → ∃ z : Int, cs[i]? = some (.int .u32 z) := by
    intro i hi
    have e := hel i hi
    have hg : (cs.toList.drop (i * 1)).take 1 = [cs[i]'(by omega)] := by
      rw [Nat.mul_one]
      have : i < cs.toList.length := by simpa using (by omega : i < cs.size)
      rw [List.drop_eq_getElem_cons this]
      simp
    have hxi : xs[i]? = some (xs[i]'(by omega)) := List.getElem?_eq_getElem _
    rw [hg, hxi] at e
    obtain ⟨z, hz, hx', wz⟩ := DataW.trod_int Tryd.underlying55 e
    simp at hz
    exact ⟨z, by rw [Array.getElem?_eq_getElem (by omega), hz]⟩
  refine ⟨fun i => if hi : i < 64 then (one i hi).choose else 0, aF_of hl fun i hi => ?_⟩
  simp only [hi, dif_pos]
  exact (one i hi).choose_spec
/-- The four variables' data, as the row lists them. -/
def laid4 : List (String × DataW Unit) := [("signetring/ladder.a24", Rows.laid_signetring_ladder_a24), ("signetring/stream.first", Rows.laid_signetring_stream_first), ("signetring/sha.start", Rows.laid_signetring_sha_start), ("signetring/sha.constants", Rows.laid_signetring_sha_constants)]
theorem block_of {W : World} {ps : List MemPlace} {name : String} {g n : Nat} {cs : Array Value} (hg : Tryd.prog.globalNamed name = some g) (hv : W.var? Tryd.prog name = some cs) (hs : cs.size = n + 1) (hm : ∀ x ∈ MemPlace.row ⟨g, 0, none⟩ cs.size, x ∈ ps)
    (hfz : ∀ b off, MemPlace.cell b off ∈ ps → (∃ c t, W.heap[b]? = some (.cells c t (0, 0))) ∧ ∀ u v, W.cell? ⟨b, off, none⟩ = some (.iface u v) → Value.okWide Tryd.prog W .any 0 u v) : ∃ t, Bk W g t cs := by
  have h0 : MemPlace.cell g 0 ∈ ps := hm _ (by
    rw [hs]
    simp [MemPlace.row])
  obtain ⟨⟨c, t, hc⟩, _⟩ := hfz g 0 h0
  refine ⟨t, ?_⟩
  have := hv
  simp only [World.var?, hg, Option.bind_some, hc] at this
  rw [Option.some.injEq] at this
  rw [← this]
  exact hc
theorem glob4_of {W : World} (h : laidMetH Tryd.prog laid4 W) : ∃ (t0 t1 t2 t3 : Nat) (first S K : Nat → Int), Bk W 0 t0 (c8 121665) ∧ Bk W 1 t1 (aF .u32 4 first) ∧ Bk W 2 t2 (aF .u32 8 S) ∧ Bk W 3 t3 (aF .u32 64 K) := by
  rw [MakeChecks.laidMetH_plain _ _ _ (by kernel_rfl)] at h
  obtain ⟨ps, ⟨g0, ty0, cs0, f0, p0, q0, hg0, ht0, hv0, hd0, ⟨g1, ty1, cs1, f1, p1, q1, hg1, ht1, hv1, hd1, ⟨g2, ty2, cs2, f2, p2, q2, hg2, ht2, hv2, hd2, ⟨g3, ty3, cs3, f3, p3, q3, hg3, ht3, hv3, hd3, hr3, e3⟩, e2⟩, e1⟩, e0⟩, _, hfz⟩ := h
  obtain rfl := Option.some.inj (gA24.symm.trans hg0)
  obtain rfl := Option.some.inj (tA24.symm.trans ht0)
  obtain rfl := cells_of_laid hd0
  obtain rfl := Option.some.inj (gl1.symm.trans hg1)
  obtain rfl := Option.some.inj (tl1.symm.trans ht1)
  obtain ⟨F1, rfl⟩ := cells1 hd1
  obtain rfl := Option.some.inj (gl2.symm.trans hg2)
  obtain rfl := Option.some.inj (tl2.symm.trans ht2)
  obtain ⟨F2, rfl⟩ := cells2 hd2
  obtain rfl := Option.some.inj (gl3.symm.trans hg3)
  obtain rfl := Option.some.inj (tl3.symm.trans ht3)
  obtain ⟨F3, rfl⟩ := cells3 hd3
  obtain ⟨t0, h0⟩ := block_of (n := 31) hg0 hv0 (size_c8 _) (fun x hx => by rw [e0]; simp [hx]) hfz
  obtain ⟨t1, h1⟩ := block_of (n := 3) hg1 hv1 (size_aF _ _ _) (fun x hx => by rw [e0, e1]; simp [hx]) hfz
  obtain ⟨t2, h2⟩ := block_of (n := 7) hg2 hv2 (size_aF _ _ _) (fun x hx => by rw [e0, e1, e2]; simp [hx]) hfz
  obtain ⟨t3, h3⟩ := block_of (n := 63) hg3 hv3 (size_aF _ _ _) (fun x hx => by rw [e0, e1, e2, e3]; simp [hx]) hfz
  exact ⟨t0, t1, t2, t3, F1, F2, F3, h0, h1, h2, h3⟩
set_option maxRecDepth 100000 in
/-- The door's own heap meets the condition. -/
theorem door_met4 (os : Os) (args : Array Value) : laidMetH Tryd.prog laid4 ((World.doorLaid Tryd.prog 29 os).forCall (fun _ _ => 0) ⟨#[], args, []⟩).memory :=
  laidMetH_of_parts3 (fuel := 8) (laidMet_of_run' 8 (by kernel_rfl) (by kernel_rfl)) (by kernel_rfl) (by kernel_rfl)
variable {H : Type} {enc : TypeId × Value → H}
set_option maxRecDepth 100000 in
theorem open_bytes {W : World} {base : Nat} {v : Value} {d : DataW H} {p : List MemPlace}
    (hval : Value.okWide Tryd.prog W .any base 23 v) (h : DataW.Trod enc Tryd.prog W 0 (fun _ => true) true 23 v d p) :
    ∃ (q : Option Addr) (c l : Nat) (f : Nat → Int), v = .slice q l c ∧ RdF W (.slice q l c) l f ∧ ∀ j, j < l → 0 ≤ f j ∧ f j < 256 := by
  obtain ⟨a, len, cap, rfl⟩ := okWide_slice Tryd.underlying23 hval
  obtain ⟨fuel, hf⟩ := h
  rcases open_slice1 Tryd.underlying23 (by kernel_rfl) hf with ⟨hcs, _⟩ | ⟨x, l, c, m, n, V, D, Pl, hcs, _, hl, hm, hmm, hx, hel⟩
  · simp [Value.cells] at hcs
    obtain ⟨rfl, rfl, rfl⟩ := hcs
    exact ⟨none, 0, 0, zF, rfl, .inl ⟨rfl, none, 0, rfl⟩, fun j hj => by omega⟩
  · simp [Value.cells] at hcs
    obtain ⟨rfl, rfl, rfl⟩ := hcs
    have hlm : len ≤ m := by rw [hmm]; simpa using hl
    by_cases h0 : len = 0
    · subst h0
      exact ⟨some x, cap, 0, zF, rfl, .inl ⟨rfl, some x, cap, rfl⟩, fun j hj => by omega⟩
    have each : ∀ i, i < len → ∃ z : Int, 0 ≤ z ∧ z < 256 ∧ W.cell? (x.add i) = some (.int .u8 z) := by
      intro i hi
      obtain ⟨h1, h2⟩ := hel i (by omega)
      obtain ⟨z, hz, hx', wz⟩ := DataW.trod_int Tryd.underlying5 h2
      have hb : 0 ≤ z ∧ z ≤ 255 := by simp [Lit.wf, IntKind.min, IntKind.max, IntKind.signed, IntKind.bits] at wz; omega
      simp at hz
      exact ⟨z, hb.1, by omega, by rw [h1, hz]⟩
    have hsp : x.spot = none := by
      obtain ⟨z, _, _, hz⟩ := each 0 (by omega)
      have e : x.add 0 = x := by simp [Addr.add]
      rw [e] at hz
      unfold World.cell? at hz
      cases hs : x.spot with
      | none => rfl
      | some b => rw [hs] at hz; split at hz <;> simp at hz
    obtain ⟨g, o, sp⟩ := x
    obtain rfl : sp = none := hsp
    refine ⟨some ⟨g, o, none⟩, cap, len, fun i => if hi : i < len then (each i hi).choose else 0, rfl, .inr ⟨g, o, cap, rfl, hl, fun j hj => ?_⟩, fun j hj => ?_⟩
    · have e : (⟨g, o, none⟩ : Addr).add j = ⟨g, o + j, none⟩ := by unfold Addr.add; split <;> simp_all
      simp only [hj, dif_pos]
      rw [← e]
      exact (each j hj).choose_spec.2.2
    · simp only [hj, dif_pos]
      exact ⟨(each j hj).choose_spec.1, (each j hj).choose_spec.2.1⟩
end Go.Proofs.YtkmgdpbmkbpkjaaDoor
