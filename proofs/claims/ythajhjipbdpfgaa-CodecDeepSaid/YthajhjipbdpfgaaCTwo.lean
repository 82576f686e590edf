/-
  Two kinds as an argument: an array of two bytes, opened; it reads as it did in every other world. And texts as an argument, with the finest bound on how many.
-/
import Derived.Test.YthajhjipbdpfgaaCx0
import Derived.SliceStrings
import Derived.SizedLaws
import Derived.ProofKit
import Derived.OpenShut
import Derived.ChangeOld
set_option linter.unusedVariables false
set_option linter.unusedSimpArgs false
namespace Go.Proofs.Ythajhjipbdpfgaa.C
open Go.RowKit Go.ChangeShapes Go.WideShapes Go.ChangeAt Go.Proofs.YthajhjipbdpfgaaW.PrintWords Go.Proofs.YthajhjipbdpfgaaW.PrintLast

theorem open_two {H : Type} {enc : TypeId × Value → H} {W : World} {base b : Nat} {sp : Nat → Bool} {held : Bool} {v : Value} {d : DataW H} {p : List MemPlace}
    (hval : Value.okWide Try.prog W .any base 49 v) (h : DataW.Trod enc Try.prog W b sp held 49 v d p) :
    ∃ x y : Nat, x < 256 ∧ y < 256 ∧ v = .agg #[.int .u8 (x : Int), .int .u8 (y : Int)] ∧ p = [] ∧ ∀ (W' : World) (b' : Nat) (sp' : Nat → Bool) (held' : Bool), DataW.Trod enc Try.prog W' b' sp' held' 49 (.agg #[.int .u8 (x : Int), .int .u8 (y : Int)]) d [] := by
  obtain ⟨cs, rfl, hsz⟩ : ∃ cs, v = .agg cs ∧ cs.size = 2 := by
    have := hval
    simp [Value.okWide, Try.underlying49] at this
    obtain ⟨cs, rfl, hsz, _⟩ := this
    exact ⟨cs, rfl, hsz.trans (by kernel_rfl)⟩
  obtain ⟨fuel, hf⟩ := h
  obtain ⟨xs, m, rfl, hx, hl, hxl, hel⟩ := DataW.trod_array Try.underlying49 hf
  have hc : Try.prog.cellsOf 5 = 1 := by kernel_rfl
  rw [hc] at hel
  have one : ∀ i, i < 2 → ∃ y : Nat, y < 256 ∧ cs[i]? = some (.int .u8 (y : Int)) ∧ xs[i]? = some (.lit (.int .u8 (y : Int)), []) := by
    intro i hi
    have e := hel i hi
    have hg : (cs.toList.drop (i * 1)).take 1 = [cs[i]'(by omega)] := by
      rw [Nat.mul_one]
      have : i < cs.toList.length := by simpa using (by omega : i < cs.size)
      rw [List.drop_eq_getElem_cons this]
      simp
    have hxi : xs[i]? = some (xs[i]'(by omega)) := List.getElem?_eq_getElem _
    change DataW.trod enc Try.prog W b sp held m 5 ((cs.toList.drop (i * 1)).take 1) = xs[i]? at e
    rw [hg, hxi] at e
    obtain ⟨z, hz, hx', wz⟩ := DataW.trod_int Try.underlying5 e
    simp at hz
    have hb : 0 ≤ z ∧ z ≤ 255 := by simp [Lit.wf, IntKind.min, IntKind.max, IntKind.signed, IntKind.bits] at wz; omega
    refine ⟨z.toNat, by omega, ?_, ?_⟩
    · rw [Array.getElem?_eq_getElem (by omega), hz, Int.toNat_of_nonneg hb.1]
    · rw [hxi, hx', Int.toNat_of_nonneg hb.1]
  obtain ⟨x, hx0, c0, x0⟩ := one 0 (by omega)
  obtain ⟨y, hy0, c1, x1⟩ := one 1 (by omega)
  have hcs : cs = #[.int .u8 (x : Int), .int .u8 (y : Int)] := by
    refine Array.ext_getElem? fun i => ?_
    match i with
    | 0 => exact c0
    | 1 => exact c1
    | i + 2 => rw [Array.getElem?_eq_none (by omega), Array.getElem?_eq_none (by simp)]
  have hxs : xs = [(.lit (.int .u8 (x : Int)), []), (.lit (.int .u8 (y : Int)), [])] := by
    refine List.ext_getElem? fun i => ?_
    match i with
    | 0 => exact x0
    | 1 => exact x1
    | i + 2 => rw [List.getElem?_eq_none (by omega), List.getElem?_eq_none (by simp)]
  simp only [Prod.mk.injEq] at hx
  obtain ⟨rfl, rfl⟩ := hx
  refine ⟨x, y, hx0, hy0, by rw [hcs], by rw [hxs]; simp, fun W' b' sp' held' => ⟨2, ?_⟩⟩
  have hcell : Try.prog.cellsOf 49 = 2 := by kernel_rfl
  have w0 : (Lit.int .u8 (x : Int)).wf = true := by simp [Lit.wf, IntKind.min, IntKind.max, IntKind.signed, IntKind.bits]; omega
  have w1 : (Lit.int .u8 (y : Int)).wf = true := by simp [Lit.wf, IntKind.min, IntKind.max, IntKind.signed, IntKind.bits]; omega
  have t0 : ∀ z : Nat, (Lit.int .u8 (z : Int)).wf = true → DataW.trod enc Try.prog W' b' sp' held' 1 5 [.int .u8 (z : Int)] = some ((DataW.lit (.int .u8 (z : Int)) : DataW H), ([] : List MemPlace)) := by
    intro z hz
    simp [DataW.trod, Try.underlying5, hz]
  show DataW.trod enc Try.prog W' b' sp' held' 2 49 [.int .u8 (x : Int), .int .u8 (y : Int)] = _
  unfold DataW.trod
  rw [Try.underlying49]
  simp only [hcell, hc]
  rw [if_pos (by simp)]
  have hm : ((List.range 2).mapM fun i => DataW.trod enc Try.prog W' b' sp' held' 1 5 (([Value.int .u8 (x : Int), .int .u8 (y : Int)].drop (i * 1)).take 1)) = some xs := by
    rw [hxs]
    show (List.mapM (fun i => DataW.trod enc Try.prog W' b' sp' held' 1 5 (([Value.int .u8 (x : Int), .int .u8 (y : Int)].drop (i * 1)).take 1)) [0, 1]) = _
    rw [List.mapM_cons, List.mapM_cons, List.mapM_nil]
    show (DataW.trod enc Try.prog W' b' sp' held' 1 5 [.int .u8 (x : Int)] >>= fun a => (DataW.trod enc Try.prog W' b' sp' held' 1 5 [.int .u8 (y : Int)] >>= fun b => pure [b]) >>= fun c => pure (a :: c)) = _
    rw [t0 x w0, t0 y w1]
    rfl
  rw [hm]
  simp [hxs]

/-- The two of them in a block of their own, as a row. -/
theorem two_reads (W : World) (x y : Nat) : Kd.C (Kd.int .u8) (W.alloc (.cells #[.int .u8 (x : Int), .int .u8 (y : Int)] 49)) (some ⟨W.heap.size, 0, none⟩) 2 [(x : Int), (y : Int)] := by
  have q : (W.alloc (.cells #[.int .u8 (x : Int), .int .u8 (y : Int)] 49)).heap[W.heap.size]? = some (.cells #[.int .u8 (x : Int), .int .u8 (y : Int)] 49 (0, 0)) := heap_alloc_new W _
  have hc : ∀ j, (W.alloc (.cells #[.int .u8 (x : Int), .int .u8 (y : Int)] 49)).cell? ⟨W.heap.size, j, none⟩ = (#[Value.int .u8 (x : Int), .int .u8 (y : Int)] : Array Value)[j]? := fun j => by
    unfold World.cell?
    rw [q]
    rfl
  refine ⟨rfl, by decide, fun _ => ⟨_, rfl, fun j p hj => ⟨[.int .u8 p], rfl, rfl, fun i u hu => ?_⟩⟩⟩
  have hi : i = 0 := by
    rcases Nat.eq_zero_or_pos i with h | h
    · exact h
    · rw [List.getElem?_eq_none (by simp; omega)] at hu; cases hu
  subst hi
  obtain rfl : Value.int .u8 p = u := by simpa using hu
  show World.cell? _ ((⟨W.heap.size, 0, none⟩ : Addr).add (j * 1 + 0)) = _
  match j, hj with
  | 0, hj =>
    obtain rfl : (x : Int) = p := by simpa using hj
    exact hc 0
  | 1, hj =>
    obtain rfl : (y : Int) = p := by simpa using hj
    exact hc 1

theorem open_strs_fine {H : Type} {enc : TypeId × Value → H} {W : World} {base : Nat} {v : Value} {d : DataW H} {p : List MemPlace} {ts : List TypeId} {ds : List (DataW H)} {j : Nat}
    (hsz : (DataW.weightsEach Try.prog ts ds).all (· ≤ reachBytes) = true) (ht : ts[j]? = some 22) (hd : ds[j]? = some d)
    (hval : Value.okWide Try.prog W .any base 22 v) (h : DataW.Trod enc Try.prog W 0 (fun _ => true) true 22 v d p) :
    ∃ (A : Option Addr) (c : Nat) (l : List ByteArray), v = .slice A l.length c ∧ l.length ≤ c ∧ Kd.C Kd.string W A l.length l ∧ l.length ≤ 8796093021952 := by
  obtain ⟨a, len, cap, rfl⟩ := okWide_slice Try.underlying22 hval
  obtain ⟨fuel, hf⟩ := h
  rcases open_strings Try.underlying22 Try.underlying9 (by kernel_rfl) hf with ⟨hcs, _⟩ | ⟨x, l, c, ss, hcs, _, hl, hm, hz, hx, hcell, _⟩
  · simp [Value.cells] at hcs
    obtain ⟨rfl, rfl, rfl⟩ := hcs
    exact ⟨none, 0, [], rfl, by simp, Kd.C_nil _ _, by simp⟩
  · simp [Value.cells] at hcs
    obtain ⟨rfl, rfl, rfl⟩ := hcs
    obtain ⟨hx, _⟩ := Prod.mk.inj hx
    subst hx
    have hz' : ss.length = cap := by simpa using hz
    have z := sized_slice hsz ht hd Try.underlying22
    rw [show Try.prog.bytesOf 9 = 16 by kernel_rfl] at z
    have hr : reachBytes = 140737488351232 := rfl
    rw [hr] at z
    have h1 : (strs (H := H) (ss.take len)).length + (strs (H := H) (ss.drop len)).length = ss.length := by
      simp [strs]
      omega
    rw [h1] at z
    have htl : (ss.take len).length = len := by rw [List.length_take]; omega
    refine ⟨some x, cap, ss.take len, by rw [htl], by omega, ?_, by omega⟩
    refine ⟨rfl, by omega, fun _ => ⟨x, rfl, fun j p hj => ⟨[.string p], rfl, rfl, fun i u hu => ?_⟩⟩⟩
    have hjl : j < (ss.take len).length := (List.getElem?_eq_some_iff.1 hj).1
    have hi : i = 0 := by
      rcases Nat.eq_zero_or_pos i with h | h
      · exact h
      · rw [List.getElem?_eq_none (by simp; omega)] at hu; cases hu
    subst hi
    obtain rfl : Value.string p = u := by simpa using hu
    have hc := hcell j (by rw [htl] at hjl; omega)
    have hp : ss.getD j ByteArray.empty = p := by
      rw [List.getElem?_take] at hj
      rw [htl] at hjl
      rw [if_pos hjl] at hj
      simp [List.getD, hj]
    rw [hp] at hc
    show W.cell? (x.add (j * 1 + 0)) = some (.string p)
    rw [Nat.mul_one, Nat.add_zero]
    exact hc

end Go.Proofs.Ythajhjipbdpfgaa.C
