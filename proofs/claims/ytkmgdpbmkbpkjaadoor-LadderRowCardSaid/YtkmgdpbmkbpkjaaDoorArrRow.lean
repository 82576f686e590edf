/-
  A slice of numbers as an argument, opened: its numbers as a list.
-/
import Derived.Test.YtkmgdpbmkbpkjaaDoorEngC
set_option linter.unusedVariables false
set_option linter.unusedSimpArgs false
namespace Go.Proofs.YtkmgdpbmkbpkjaaDoor
open Go.ChangeShapes Go.WideShapes Go.ChangeAt Go.RowKit Go.Deep

variable {H : Type} {enc : TypeId × Value → H}
theorem cells_num {W : World} {b : Nat} {sp : Nat → Bool} {held : Bool} {fuel : Nat} {cs : List Value} {x : DataW H × List MemPlace}
    (hf : DataW.trod enc Tryd.prog W b sp held fuel 22 cs = some x) : ∃ n, N256 n ∧ cs = (c8 n).toList := by
  obtain ⟨xs, m, rfl, hx, hl, hxl, hel⟩ := DataW.trod_array Tryd.underlying22 hf
  have hc : Tryd.prog.cellsOf 5 = 1 := by kernel_rfl
  have hcell : Tryd.prog.cellsOf 22 = 32 := by kernel_rfl
  rw [hcell] at hl
  rw [hc] at hel
  have one : ∀ i, i < 32 → ∃ y : Nat, y < 256 ∧ cs[i]? = some (.int .u8 (y : Int)) := by
    intro i hi
    have e := hel i hi
    have hg : (cs.drop (i * 1)).take 1 = [cs[i]'(by omega)] := by
      rw [Nat.mul_one, List.drop_eq_getElem_cons (by omega)]
      rfl
    have hxi : xs[i]? = some (xs[i]'(by omega)) := List.getElem?_eq_getElem _
    change DataW.trod enc Tryd.prog W b sp held m 5 ((cs.drop (i * 1)).take 1) = xs[i]? at e
    rw [hg, hxi] at e
    obtain ⟨z, hz, hx', wz⟩ := DataW.trod_int Tryd.underlying5 e
    simp at hz
    have hb : 0 ≤ z ∧ z ≤ 255 := by simp [Lit.wf, IntKind.min, IntKind.max, IntKind.signed, IntKind.bits] at wz; omega
    refine ⟨z.toNat, by omega, ?_⟩
    rw [List.getElem?_eq_getElem (by omega), hz, Int.toNat_of_nonneg hb.1]
  obtain ⟨f, hF⟩ : ∃ f : Nat → Nat, ∀ i, i < 32 → f i < 256 ∧ cs[i]? = some (.int .u8 (f i : Int)) := by
    refine ⟨fun i => if hi : i < 32 then (one i hi).choose else 0, fun i hi => ?_⟩
    simp only [hi, dif_pos]
    exact (one i hi).choose_spec
  obtain ⟨n, hn, hd⟩ := bytes_num 32 f (fun i hi => (hF i hi).1)
  refine ⟨n, by unfold N256; exact Nat.lt_of_lt_of_eq hn (by decide +kernel), ?_⟩
  refine List.ext_getElem? fun i => ?_
  by_cases hi : i < 32
  · rw [(hF i hi).2, Array.getElem?_toList, get_c8 n i hi, hd i hi]
  · rw [List.getElem?_eq_none (by omega), List.getElem?_eq_none (by rw [len_c8]; omega)]

set_option maxRecDepth 100000 in
theorem open_nums {W : World} {base : Nat} {v : Value} {d : DataW H} {p : List MemPlace}
    (hval : Value.okWide Tryd.prog W .any base 27 v) (h : DataW.Trod enc Tryd.prog W 0 (fun _ => true) true 27 v d p) :
    ∃ (ad : Option Addr) (c : Nat) (l : List Nat), v = .slice ad l.length c ∧ (∀ n ∈ l, N256 n) ∧ (0 < l.length → ∃ x, ad = some x ∧ Rows W x l) := by
  obtain ⟨a, len, cap, rfl⟩ := okWide_slice Tryd.underlying27 hval
  obtain ⟨fuel, hf⟩ := h
  rcases open_slice Tryd.underlying27 hf with ⟨hcs, _⟩ | ⟨x, l, c, m, n, D, Pl, hcs, _, hl, hm, hmm, hx, hel⟩
  · simp [Value.cells] at hcs
    obtain ⟨rfl, rfl, rfl⟩ := hcs
    exact ⟨none, 0, [], rfl, by simp, by simp⟩
  · simp [Value.cells] at hcs
    obtain ⟨rfl, rfl, rfl⟩ := hcs
    have hcell : Tryd.prog.cellsOf 22 = 32 := by kernel_rfl
    rw [hcell] at hel
    have hlm : len ≤ m := by rw [hmm]; simpa using hl
    have each : ∀ i, i < len → ∃ y : Nat, N256 y ∧ ∀ j, j < 32 → W.cell? ((x.add (i * 32)).add j) = some (.int .u8 ((y / 256 ^ j % 256 : Nat) : Int)) := by
      intro i hi
      obtain ⟨cs', h1, h2⟩ := hel i (by omega)
      obtain ⟨y, hy, rfl⟩ := cells_num h2
      obtain ⟨_, _, h3⟩ := World.cells?_some h1
      refine ⟨y, hy, fun j hj => ?_⟩
      rw [h3 j hj, Array.getElem?_toList, get_c8 y j hj]
    obtain ⟨f, hF⟩ : ∃ f : Nat → Nat, ∀ i, i < len → N256 (f i) ∧ ∀ j, j < 32 → W.cell? ((x.add (i * 32)).add j) = some (.int .u8 ((f i / 256 ^ j % 256 : Nat) : Int)) := by
      refine ⟨fun i => if hi : i < len then (each i hi).choose else 0, fun i hi => ?_⟩
      simp only [hi, dif_pos]
      exact (each i hi).choose_spec
    refine ⟨some x, cap, (List.range len).map f, by simp, ?_, fun _ => ⟨x, rfl, ?_⟩⟩
    · intro y hy
      obtain ⟨i, hi, rfl⟩ := List.mem_map.1 hy
      exact (hF i (List.mem_range.1 hi)).1
    · intro i y hi j hj
      have hlt : i < len := by
        have := (List.getElem?_eq_some_iff.1 hi).1
        simpa using this
      obtain rfl : f i = y := by simpa [hlt] using hi
      exact (hF i hlt).2 j hj
end Go.Proofs.YtkmgdpbmkbpkjaaDoor
