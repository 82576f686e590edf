/-
  What codec.Read answers: the number of a text of at most eight bytes that does not begin with a zero, or the form's error.
-/
import Derived.Test.YthajhjipbdpfgaaCRead
import Derived.Lib.ConvBytes
import Derived.Laws.BitsLemmas
set_option linter.unusedVariables false
set_option linter.unusedSimpArgs false
namespace Go.Proofs.Ythajhjipbdpfgaa
open Go.RowKit

/-- What is answered. -/
def readA (s : ByteArray) : Int × Int := if s.size ≤ 8 ∧ s.data.toList.head? ≠ some 0 then ((val s.data.toList : Int), 0) else (0, 4)

theorem or_add (x k j : Nat) (hj : j < 2 ^ k) (hs : x * 2 ^ k + j < 18446744073709551616) : bits .or .u64 ((x * 2 ^ k : Nat) : Int) (j : Int) = ((x * 2 ^ k + j : Nat) : Int) := by
  rw [u64_or_nat _ _ (by omega) (by omega)]
  rw [Nat.mul_comm, Nat.two_pow_add_eq_or_of_lt hj]

theorem prefix_in (S : List UInt8) (w : World) :
    Calls Try.prog 33 #[.string ⟨S.toArray⟩, .string ⟨#[0]⟩] w fun e w' => e = .returned (.bool (decide (S.head? = some 0))) ∧ Below w.heap.size w w' := by
  cases S with
  | nil =>
    go_enter Try.func33, Try.ntmps33
    go_wp2
    go_ret
    exact ⟨rfl, Below.refl _ _⟩
  | cons a r =>
    have e0 : (⟨(a :: r).toArray⟩ : ByteArray).extract 0 1 = ⟨#[a]⟩ := by
      apply bytes_ext
      rw [ByteArray.data_extract]
      simp
    go_enter Try.func33, Try.ntmps33
    go_wp2
    all_goals (go_ret; exact ⟨by simp; rfl, Below.refl _ _⟩)

theorem prefix_any (S : List UInt8) (w : World) :
    Calls Try.prog 27 #[.string ⟨S.toArray⟩, .string ⟨#[0]⟩] w fun e w' => e = .returned (.bool (decide (S.head? = some 0))) ∧ Below w.heap.size w w' := by
  go_enter Try.func27, Try.ntmps27
  go_wp2_with (go_at_call 33; refine (prefix_in S _).mono ?_)
  rintro e w1 ⟨rfl, hb⟩
  go_wp2
  go_ret
  exact ⟨rfl, hb⟩

set_option maxRecDepth 100000 in
set_option maxHeartbeats 8000000 in
theorem readNum_list (S : List UInt8) (w : World) :
    Calls Try.prog 18 #[.string ⟨S.toArray⟩] w fun e w' => e = .returned (.tuple #[.int .u64 (readA ⟨S.toArray⟩).1, .int .i64 (readA ⟨S.toArray⟩).2]) ∧ Below w.heap.size w w' := by
  by_cases h8 : S.length ≤ 8
  rotate_left
  · have hr : readA ⟨S.toArray⟩ = (0, 4) := if_neg (fun h => h8 (by simpa [ByteArray.size] using h.1))
    rw [hr]
    have hd : (8 < (S.length : Int)) = True := eq_true (by omega)
    have hd2 : (8 < S.length) = True := eq_true (by omega)
    go_enter Try.func18, Try.ntmps18
    go_wp2
    go_ret2
    exact ⟨rfl, Below.refl _ _⟩
  have hd : (8 < (S.length : Int)) = False := eq_false (by omega)
  have hd2 : (8 < S.length) = False := eq_false (by omega)
  by_cases h0 : S.head? = some 0
  · have hr : readA ⟨S.toArray⟩ = (0, 4) := if_neg (fun h => h.2 (by simpa using h0))
    rw [hr]
    have hP : Calls Try.prog 27 #[.string ⟨S.toArray⟩, .string ⟨#[0]⟩] w fun e w' => e = .returned (.bool true) ∧ Below w.heap.size w w' := by
      have := prefix_any S w
      rw [decide_eq_true h0] at this
      exact this
    clear h0 hr
    go_enter Try.func18, Try.ntmps18
    go_wp2_with (go_at_call 27; refine hP.mono ?_)
    rintro e w1 ⟨rfl, hb⟩
    go_wp2
    go_ret2
    exact ⟨rfl, hb⟩
  · have hr : readA ⟨S.toArray⟩ = ((val S : Int), 0) := if_pos ⟨by simpa [ByteArray.size] using h8, by simpa using h0⟩
    rw [hr]
    have hP : Calls Try.prog 27 #[.string ⟨S.toArray⟩, .string ⟨#[0]⟩] w fun e w' => e = .returned (.bool false) ∧ Below w.heap.size w w' := by
      have := prefix_any S w
      rw [decide_eq_false h0] at this
      exact this
    clear h0 hr
    have hcv : ∀ w : World, (convert 9 46 (.string ⟨S.toArray⟩)).run Try.prog w = .ok (.slice (some ⟨w.heap.size, 0, none⟩) S.length (grownCap w S.length 0 5)) (Lib.bytesWorld w 5 ⟨S.toArray⟩) := fun w => by
      have := Lib.run_convert_string_bytes (P := Try.prog) w 9 46 5 ⟨S.toArray⟩ (u := .string) (by kernel_rfl) (by kernel_rfl) (by kernel_rfl)
      simpa [ByteArray.size] using this
    go_enter Try.func18, Try.ntmps18
    go_wp2_with (go_at_call 27; refine hP.mono ?_)
    rintro e w1 ⟨rfl, hb⟩
    clear hP
    go_wp2_with fail
    have hbW : Below w.heap.size w (Lib.bytesWorld w1 5 ⟨S.toArray⟩) := bl_call hb ⟨rfl, rfl, rfl, by rw [Lib.bytesWorld_size]; omega, fun k hk => Lib.bytesWorld_at_old w1 _ _ k hk⟩
    have hcW : ∀ j, (h : j < S.length) → (Lib.bytesWorld w1 5 ⟨S.toArray⟩).cell? ⟨w1.heap.size, j, none⟩ = some (.int .u8 (S[j].toNat : Int)) := fun j h => by
      have := Lib.bytesWorld_cell w1 5 ⟨S.toArray⟩ j (by simpa [ByteArray.size] using h)
      rw [this]
      simp [h]
    generalize hgW : Lib.bytesWorld w1 5 ⟨S.toArray⟩ = W at hbW hcW ⊢
    clear hgW hcv hb
    go_loopw [4, 17] (fun v c wr => ∃ i : Nat, i ≤ S.length ∧ c = .int .i64 i ∧ v = .int .u64 (val (S.take i) : Nat) ∧ wr = W) (fun _ c _ => S.length - (intOf c).toNat)
    case atStart => exact ⟨0, by omega, rfl, rfl, rfl⟩
    case round =>
      obtain ⟨i, hi, rfl, rfl, rfl⟩ := hrel
      by_cases hlt : i < S.length
      · have hc := hcW i hlt
        have hv : val (S.take i) * 256 < 18446744073709551616 := by
          have h1 := val_lt (S.take i)
          have h2 : (S.take i).length ≤ 7 := by rw [List.length_take]; omega
          have h3 := Nat.pow_le_pow_right (show 0 < 256 by omega) h2
          omega
        have hs := S[i].toNat_lt
        clear hcW
        have hnext : ((val (S.take (i + 1)) : Nat) : Int) = bits .or .u64 ((val (S.take i) : Int) * 256) (S[i].toNat : Int) := by
          have := or_add (val (S.take i)) 8 S[i].toNat (by omega) (by omega)
          rw [show ((val (S.take i) * 2 ^ 8 : Nat) : Int) = (val (S.take i) : Int) * 256 by omega] at this
          rw [this, List.take_succ_eq_append_getElem hlt, val_snoc]
        have hnx := Lib.hid hnext
        clear hnext
        generalize hn0 : val (S.take i) = n0 at hv hnx ⊢
        generalize hc0 : S[i].toNat = c0 at hs hc hnx ⊢
        clear hn0 hc0
        go_wp2_with fail
        go_roundw
        case rel => exact ⟨i + 1, by omega, by go_num, by rw [hnx.out], trivial⟩
        case measure => simp [intOf]; omega
      · obtain rfl : i = S.length := by omega
        rw [List.take_length]
        go_wp2
        go_ret2
        exact ⟨rfl, hbW⟩

theorem readNum_any (s : ByteArray) (w : World) :
    Calls Try.prog 18 #[.string s] w fun e w' => e = .returned (.tuple #[.int .u64 (readA s).1, .int .i64 (readA s).2]) ∧ Below w.heap.size w w' := by
  obtain ⟨S, rfl⟩ : ∃ S : List UInt8, s = ⟨S.toArray⟩ := ⟨s.data.toList, bytes_ext (by simp)⟩
  exact readNum_list S w

end Go.Proofs.Ythajhjipbdpfgaa
