/-
  Three functions of package codec and the document's Join, each as a plain function, with the contract that the printed laws ask.
-/
import Derived.Test.YthajhjipbdpfgaaCx0
import Derived.Test.YthajhjipbdpfgaaCJoin
import Derived.Test.YthajhjipbdpfgaaCNum
import Derived.Test.YthajhjipbdpfgaaCRefJoin
set_option linter.unusedVariables false
set_option linter.unusedSimpArgs false
namespace Go.Proofs.Ythajhjipbdpfgaa.C
open Go.RowKit Go.Proofs.YthajhjipbdpfgaaW.PrintWords Go.Proofs.YthajhjipbdpfgaaW.PrintLast Go.Proofs.YthajhjipbdpfgaaW.PrintMore

def codec_Join.f (k : Nat) (a0 : Int) (l1 : List ByteArray) : Option (ByteArray × Int) := if 0 ≤ a0 ∧ a0 < 256 then some (joinA a0.toNat l1) else none
theorem codec_Join.mono : ∀ a0 a1 k, LeO (codec_Join.f k a0 a1) (codec_Join.f (k + 1) a0 a1) := fun _ _ _ => LeO.refl _
theorem codec_Join.calls (k : Nat) (a0 : Int) (A1 : Option Addr) (c1 : Nat) (l1 : List ByteArray) (r1 : ByteArray) (r2 : Int) (w : World) (hr1 : Kd.C Kd.string w A1 l1.length l1) (hc1 : l1.length ≤ c1) (h : codec_Join.f k a0 l1 = some (r1, r2)) :
    Calls Try.prog 12 #[.int .u8 a0, .slice A1 l1.length c1] w fun e w' => e = .returned (.tuple #[.string r1, .int .i64 r2]) ∧ Below w.heap.size w w' := by
  unfold codec_Join.f at h
  by_cases ha : 0 ≤ a0 ∧ a0 < 256
  · rw [if_pos ha] at h
    have hj := Option.some.inj h
    obtain ⟨n, rfl⟩ : ∃ n : Nat, a0 = n := ⟨a0.toNat, by omega⟩
    have := join_any n A1 c1 l1 w (by omega) (fun i hi => by
      obtain ⟨ad, e, hc⟩ := Kd.at_string hr1 i (by omega) (by omega)
      refine ⟨ad, e, ?_⟩
      rw [show rdOf ByteArray.empty l1 (i : Int) = l1[i] by simp [rdOf, hi]] at hc
      simpa using hc) hr1.2.1
    rw [show ((n : Int)).toNat = n by omega] at hj
    rw [hj] at this
    exact this
  · rw [if_neg ha] at h; cases h

def signetringref08_Join.f (k : Nat) (a0 : Int) (l1 : List ByteArray) : Option (ByteArray × Int) := if 0 ≤ a0 ∧ a0 < 256 then some (joinA a0.toNat l1) else none
theorem signetringref08_Join.mono : ∀ a0 a1 k, LeO (signetringref08_Join.f k a0 a1) (signetringref08_Join.f (k + 1) a0 a1) := fun _ _ _ => LeO.refl _
theorem signetringref08_Join.calls (k : Nat) (a0 : Int) (A1 : Option Addr) (c1 : Nat) (l1 : List ByteArray) (r1 : ByteArray) (r2 : Int) (w : World) (hr1 : Kd.C Kd.string w A1 l1.length l1) (hc1 : l1.length ≤ c1) (h : signetringref08_Join.f k a0 l1 = some (r1, r2)) :
    Calls Try.prog 13 #[.int .u8 a0, .slice A1 l1.length c1] w fun e w' => e = .returned (.tuple #[.string r1, .int .i64 r2]) ∧ Below w.heap.size w w' := by
  unfold signetringref08_Join.f at h
  by_cases ha : 0 ≤ a0 ∧ a0 < 256
  · rw [if_pos ha] at h
    have hj := Option.some.inj h
    obtain ⟨n, rfl⟩ : ∃ n : Nat, a0 = n := ⟨a0.toNat, by omega⟩
    have := refJoin_any n A1 c1 l1 w (by omega) (fun i hi => by
      obtain ⟨ad, e, hc⟩ := Kd.at_string hr1 i (by omega) (by omega)
      refine ⟨ad, e, ?_⟩
      rw [show rdOf ByteArray.empty l1 (i : Int) = l1[i] by simp [rdOf, hi]] at hc
      simpa using hc) hr1.2.1
    rw [show ((n : Int)).toNat = n by omega] at hj
    rw [hj] at this
    exact this
  · rw [if_neg ha] at h; cases h

def codec_Split.f (k : Nat) (a0 : ByteArray) : Option (Int × List ByteArray × Int) := some (match splitB a0 with
  | some (k, l) => ((k : Int), l, 0)
  | none => (0, [], 4))
theorem codec_Split.mono : ∀ a0 k, LeO (codec_Split.f k a0) (codec_Split.f (k + 1) a0) := fun _ _ => LeO.refl _
theorem codec_Split.calls (k : Nat) (a0 : ByteArray) (r1 : Int) (r2 : List ByteArray) (r3 : Int) (w : World) (h : codec_Split.f k a0 = some (r1, r2, r3)) :
    Calls Try.prog 14 #[.string a0] w fun e w' => ∃ v1_ : Value, e = .returned (.tuple #[.int .u8 r1, v1_, .int .i64 r3]) ∧ Kd.R Kd.string 9 w' w.heap.size (fun _ => True) v1_ r2 ∧ Below w.heap.size w w' := by
  refine (split_any a0 w).mono ?_
  rintro e w' ⟨hb, hs⟩
  unfold codec_Split.f at h
  have h' := Option.some.inj h
  cases hq : splitB a0 with
  | none =>
    rw [hq] at hs h'
    simp only [Prod.mk.injEq] at h'
    obtain ⟨rfl, rfl, rfl⟩ := h'
    exact ⟨_, hs, Kd.R_nil _ _ _ _ _, hb⟩
  | some p =>
    obtain ⟨k, l⟩ := p
    rw [hq] at hs h'
    simp only [Prod.mk.injEq] at h'
    obtain ⟨rfl, rfl, rfl⟩ := h'
    obtain ⟨v, he, ho⟩ := hs
    exact ⟨v, he, Kd.R_of_own ho (fun _ _ => trivial), hb⟩

def codec_Read.f (k : Nat) (a0 : ByteArray) : Option (Int × Int) := some (readA a0)
theorem codec_Read.mono : ∀ a0 k, LeO (codec_Read.f k a0) (codec_Read.f (k + 1) a0) := fun _ _ => LeO.refl _
theorem codec_Read.calls (k : Nat) (a0 : ByteArray) (r1 : Int) (r2 : Int) (w : World) (h : codec_Read.f k a0 = some (r1, r2)) :
    Calls Try.prog 18 #[.string a0] w fun e w' => e = .returned (.tuple #[.int .u64 r1, .int .i64 r2]) ∧ Below w.heap.size w w' := by
  have h' := Option.some.inj h
  have := readNum_any a0 w
  rw [h'] at this
  exact this

end Go.Proofs.Ythajhjipbdpfgaa.C
