/-
  A number as an argument: an array of 32 bytes, opened; it reads as it did in every other world.
-/
import Derived.Test.YtkmgdpbmkbpkjaaDoorGBase
import Derived.OpenShut
set_option linter.unusedVariables false
set_option linter.unusedSimpArgs false
namespace Go.Proofs.YtkmgdpbmkbpkjaaDoor
open Go.ChangeShapes Go.RowKit

theorem bytes_num : ∀ (k : Nat) (f : Nat → Nat), (∀ i, i < k → f i < 256) → ∃ n, n < 256 ^ k ∧ ∀ i, i < k → n / 256 ^ i % 256 = f i := by
  intro k
  induction k with
  | zero => intro f _; exact ⟨0, by simp, fun i hi => by omega⟩
  | succ k ih =>
    intro f hf
    obtain ⟨m, hm, hd⟩ := ih (fun i => f (i + 1)) (fun i hi => hf (i + 1) (by omega))
    have h0 := hf 0 (by omega)
    refine ⟨f 0 + 256 * m, ?_, ?_⟩
    · rw [Nat.pow_succ]; omega
    · intro i hi
      cases i with
      | zero => simp; omega
      | succ i =>
        rw [Nat.pow_succ, Nat.mul_comm (256 ^ i), ← Nat.div_div_eq_div_mul, Nat.add_mul_div_left _ _ (by omega : 0 < 256), Nat.div_eq_of_lt h0, Nat.zero_add]
        exact hd i (by omega)

variable {H : Type} {enc : TypeId × Value → H}
set_option maxRecDepth 100000 in
theorem num_of {W : World} {b : Nat} {sp : Nat → Bool} {held : Bool} {cs : Array Value} {d : DataW H} {p : List MemPlace} {fuel : Nat} (hf : DataW.trod enc Tryd.prog W b sp held fuel 22 cs.toList = some (d, p)) :
    ∃ n, N256 n ∧ cs = c8 n ∧ p = [] ∧ ∀ (W' : World) (b' : Nat) (sp' : Nat → Bool) (held' : Bool), DataW.trod enc Tryd.prog W' b' sp' held' 2 22 (c8 n).toList = some (d, []) := by
  obtain ⟨xs, m, rfl, hx, hl, hxl, hel⟩ := DataW.trod_array Tryd.underlying22 hf
  have hc : Tryd.prog.cellsOf 5 = 1 := by kernel_rfl
  have hc32 : Tryd.prog.cellsOf 22 = 32 := by kernel_rfl
  have hsz : cs.size = 32 := by rw [hc32, Array.length_toList] at hl; exact hl
  rw [hc] at hel
  have one : ∀ i, i < 32 → ∃ y : Nat, y < 256 ∧ cs[i]? = some (.int .u8 (y : Int)) ∧ xs[i]? = some (.lit (.int .u8 (y : Int)), []) := by
    intro i hi
    have e := hel i hi
    have hg : (cs.toList.drop (i * 1)).take 1 = [cs[i]'(by omega)] := by
      rw [Nat.mul_one]
      have : i < cs.toList.length := by simpa using (by omega : i < cs.size)
      rw [List.drop_eq_getElem_cons this]
      simp
    have hxi : xs[i]? = some (xs[i]'(by omega)) := List.getElem?_eq_getElem _
    change DataW.trod enc Tryd.prog W b sp held m 5 ((cs.toList.drop (i * 1)).take 1) = xs[i]? at e
    rw [hg, hxi] at e
    obtain ⟨z, hz, hx', wz⟩ := DataW.trod_int Tryd.underlying5 e
    simp at hz
    have hb : 0 ≤ z ∧ z ≤ 255 := by simp [Lit.wf, IntKind.min, IntKind.max, IntKind.signed, IntKind.bits] at wz; omega
    refine ⟨z.toNat, by omega, ?_, ?_⟩
    · rw [Array.getElem?_eq_getElem (by omega), hz, Int.toNat_of_nonneg hb.1]
    · rw [hxi, hx', Int.toNat_of_nonneg hb.1]
  obtain ⟨f, hF⟩ : ∃ f : Nat → Nat, ∀ i, i < 32 → f i < 256 ∧ cs[i]? = some (.int .u8 (f i : Int)) ∧ xs[i]? = some (.lit (.int .u8 (f i : Int)), []) := by
    refine ⟨fun i => if hi : i < 32 then (one i hi).choose else 0, fun i hi => ?_⟩
    simp only [hi, dif_pos]
    exact (one i hi).choose_spec
  obtain ⟨n, hn, hd⟩ := bytes_num 32 f (fun i hi => (hF i hi).1)
  have hcs : cs = c8 n := by
    refine Array.ext_getElem? fun i => ?_
    by_cases hi : i < 32
    · rw [get_c8 n i hi, (hF i hi).2.1, hd i hi]
    · rw [Array.getElem?_eq_none (by omega), Array.getElem?_eq_none (by rw [size_c8]; omega)]
  have hxs : xs = (List.range 32).map fun i => ((DataW.lit (.int .u8 (f i : Int)) : DataW H), ([] : List MemPlace)) := by
    refine List.ext_getElem? fun i => ?_
    by_cases hi : i < 32
    · rw [(hF i hi).2.2]; simp [hi]
    · rw [List.getElem?_eq_none (by omega), List.getElem?_eq_none (by simp; omega)]
  simp only [Prod.mk.injEq] at hx
  obtain ⟨rfl, rfl⟩ := hx
  have hp : xs.flatMap (·.2) = [] := by rw [hxs]; simp
  refine ⟨n, by unfold N256; exact Nat.lt_of_lt_of_eq hn (by decide +kernel), hcs, hp, fun W' b' sp' held' => ?_⟩
  have hcell : Tryd.prog.cellsOf 22 = 32 := by kernel_rfl
  show DataW.trod enc Tryd.prog W' b' sp' held' 2 22 (c8 n).toList = _
  unfold DataW.trod
  rw [Tryd.underlying22]
  simp only [hcell, hc]
  rw [if_pos (by simp [c8])]
  have hm : ((List.range 32).mapM fun i => DataW.trod enc Tryd.prog W' b' sp' held' 1 5 (((c8 n).toList.drop (i * 1)).take 1)) = some xs := by
    rw [hxs]
    have : ∀ i ∈ List.range 32, DataW.trod enc Tryd.prog W' b' sp' held' 1 5 (((c8 n).toList.drop (i * 1)).take 1) = some ((DataW.lit (.int .u8 (f i : Int)) : DataW H), ([] : List MemPlace)) := by
      intro i hi
      have hi : i < 32 := by simpa using hi
      have hg : ((c8 n).toList.drop (i * 1)).take 1 = [.int .u8 (f i : Int)] := by
        rw [Nat.mul_one]
        have hlt : i < (c8 n).toList.length := by simpa [size_c8] using hi
        rw [List.drop_eq_getElem_cons hlt]
        have := get_c8 n i hi
        rw [hd i hi, Array.getElem?_eq_getElem (by rw [size_c8]; exact hi)] at this
        simpa using this
      rw [hg]
      have h1 := (hF i hi).1
      simp [DataW.trod, Tryd.underlying5, Lit.wf, IntKind.min, IntKind.max, IntKind.signed, IntKind.bits]
      omega
    clear hel hf hxs
    generalize hr : List.range 32 = R at this
    clear hr
    induction R with
    | nil => rfl
    | cons r R ih =>
      rw [List.mapM_cons, this r (by simp), ih (fun i hi => this i (by simp [hi]))]
      rfl
  rw [hm]
  simp [hp]
set_option maxRecDepth 100000 in
theorem open_num {W : World} {base b : Nat} {sp : Nat → Bool} {held : Bool} {v : Value} {d : DataW H} {p : List MemPlace}
    (hval : Value.okWide Tryd.prog W .any base 22 v) (h : DataW.Trod enc Tryd.prog W b sp held 22 v d p) :
    ∃ n, N256 n ∧ v = .agg (c8 n) ∧ p = [] ∧ ∀ (W' : World) (b' : Nat) (sp' : Nat → Bool) (held' : Bool), DataW.Trod enc Tryd.prog W' b' sp' held' 22 (.agg (c8 n)) d [] := by
  obtain ⟨cs, rfl, _⟩ : ∃ cs, v = .agg cs ∧ cs.size = 32 := by
    have := hval
    simp [Value.okWide, Tryd.underlying22] at this
    obtain ⟨cs, rfl, hsz, _⟩ := this
    exact ⟨cs, rfl, hsz.trans (by kernel_rfl)⟩
  obtain ⟨fuel, hf⟩ := h
  obtain ⟨n, hn, rfl, hp, hs⟩ := num_of hf
  exact ⟨n, hn, rfl, hp, fun W' b' sp' held' => ⟨2, hs W' b' sp' held'⟩⟩
end Go.Proofs.YtkmgdpbmkbpkjaaDoor
