/-
  The reader of package codec: need, take, byte: what each does, where the text is long enough and where it is not (a panic with the form's error).
-/
import Derived.Test.YthajhjipbdpfgaaProg
import Derived.WalkKit
import Derived.WalkSpells
import Derived.WalkLawsBesides
import Derived.Lib.Strings
import Derived.Lib.Slices
import Derived.Lib.Walk
import Derived.Below
import Derived.Laws.NewBlocks
import Derived.Test.YthajhjipbdpfgaaCPlain
set_option linter.unusedVariables false
set_option linter.unusedSimpArgs false
namespace Go.Proofs.Ythajhjipbdpfgaa
open Go.RowKit

/-- What is panicked with. -/
def EForm : List PanicEntry := [{ v := .iface 25 (.int .i64 4), recovered := false }]

theorem need_true (w : World) : Calls Try.prog 30 #[.bool true] w fun e w' => e = .returned (.tuple #[]) ∧ w' = w := by
  have hnot : ∀ (x : Bool) (w : World), (Op.unary .not (.bool x)).run Try.prog w = .ok (.bool (!x)) w := fun _ _ => rfl
  go_enter Try.func30, Try.ntmps30
  go_wp2
  go_end0
  exact ⟨rfl, rfl⟩

theorem need_false (w : World) : Calls Try.prog 30 #[.bool false] w fun e w' => e = .panicked EForm ∧ w' = w := by
  have hnot : ∀ (x : Bool) (w : World), (Op.unary .not (.bool x)).run Try.prog w = .ok (.bool (!x)) w := fun _ _ => rfl
  go_enter Try.func30, Try.ntmps30
  go_wp2
  exact ⟨rfl, rfl, rfl⟩

/-- A text of which n bytes are taken. -/
theorem take_fits (b n : Nat) (s : ByteArray) (w : World) (hc : w.cell? ⟨b, 0, none⟩ = some (.string s)) (hz : w.frozen? ⟨b, 0, none⟩ = false) (h : n ≤ s.size) :
    Calls Try.prog 32 #[.pointer (some ⟨b, 0, none⟩), .int .i64 n] w fun e w' => e = .returned (.string (s.extract 0 n)) ∧ w' = (w.setCell ⟨b, 0, none⟩ (.string (s.extract n s.size))).drew := by
  go_enter Try.func32, Try.ntmps32
  have hd : ((n : Int) ≤ (s.size : Int)) = True := eq_true (by omega)
  go_wp2
  first | go_end0 | refine bodyPost_ret (results_none rfl _ _ _) rfl ?_
  go_wp2
  go_region
  all_goals (go_wp2; go_ret; exact ⟨rfl, rfl⟩)

theorem take_short (b : Nat) (n : Nat) (s : ByteArray) (w : World) (hc : w.cell? ⟨b, 0, none⟩ = some (.string s)) (h : s.size < n) :
    Calls Try.prog 32 #[.pointer (some ⟨b, 0, none⟩), .int .i64 n] w fun e w' => e = .panicked EForm ∧ w' = w := by
  go_enter Try.func32, Try.ntmps32
  have hd : ((n : Int) ≤ (s.size : Int)) = False := eq_false (by omega)
  go_wp2_with (go_at_call 30; refine (need_false _).mono ?_)
  rintro e w1 ⟨rfl, rfl⟩
  exact ⟨rfl, rfl, rfl⟩

/-- The same of a text as a list. -/
theorem take_list (b n : Nat) (r : List UInt8) (w : World) (hc : w.cell? ⟨b, 0, none⟩ = some (.string ⟨r.toArray⟩)) (hz : w.frozen? ⟨b, 0, none⟩ = false) (h : n ≤ r.length) :
    Calls Try.prog 32 #[.pointer (some ⟨b, 0, none⟩), .int .i64 n] w fun e w' => e = .returned (.string ⟨(r.take n).toArray⟩) ∧ w' = (w.setCell ⟨b, 0, none⟩ (.string ⟨(r.drop n).toArray⟩)).drew := by
  have hT := take_fits b n ⟨r.toArray⟩ w hc hz (by show n ≤ r.toArray.size; simpa using h)
  have e0 : (⟨r.toArray⟩ : ByteArray).extract 0 n = ⟨(r.take n).toArray⟩ := by
    apply bytes_ext
    rw [ByteArray.data_extract]
    simp
  have e1 : (⟨r.toArray⟩ : ByteArray).extract n (⟨r.toArray⟩ : ByteArray).size = ⟨(r.drop n).toArray⟩ := by
    apply bytes_ext
    rw [ByteArray.data_extract]
    show (r.toArray.extract n r.toArray.size).toList = _
    simp
    exact List.take_of_length_le (by simp)
  rw [e0, e1] at hT
  exact hT
theorem take_list_short (b n : Nat) (r : List UInt8) (w : World) (hc : w.cell? ⟨b, 0, none⟩ = some (.string ⟨r.toArray⟩)) (h : r.length < n) :
    Calls Try.prog 32 #[.pointer (some ⟨b, 0, none⟩), .int .i64 n] w fun e w' => e = .panicked EForm ∧ w' = w :=
  take_short b n ⟨r.toArray⟩ w hc (by show r.toArray.size < n; simpa using h)

/-- The first byte. -/
theorem byte_fits (b : Nat) (c : UInt8) (r : List UInt8) (w : World) (hc : w.cell? ⟨b, 0, none⟩ = some (.string ⟨(c :: r).toArray⟩)) (hz : w.frozen? ⟨b, 0, none⟩ = false) :
    Calls Try.prog 31 #[.pointer (some ⟨b, 0, none⟩)] w fun e w' => e = .returned (.int .i64 c.toNat) ∧ w' = (w.setCell ⟨b, 0, none⟩ (.string ⟨r.toArray⟩)).drew := by
  have hT := take_list b 1 (c :: r) w hc hz (by simp)
  have e0 : (c :: r).take 1 = [c] := rfl
  have e1 : (c :: r).drop 1 = r := rfl
  rw [e0, e1] at hT
  go_enter Try.func31, Try.ntmps31
  go_wp2_with (go_at_call 32; refine hT.mono ?_)
  rintro e w1 ⟨rfl, rfl⟩
  go_wp2
  go_ret
  have hv : wrap64 (c.toNat : Int) = c.toNat := by have := c.toNat_lt; unfold wrap64; omega
  exact ⟨congrArg (fun z => Ending.returned (.int .i64 z)) hv, rfl⟩

theorem byte_short (b : Nat) (w : World) (hc : w.cell? ⟨b, 0, none⟩ = some (.string ⟨#[]⟩)) :
    Calls Try.prog 31 #[.pointer (some ⟨b, 0, none⟩)] w fun e w' => e = .panicked EForm ∧ w' = w := by
  have hT := take_short b 1 ⟨#[]⟩ w hc (by decide)
  go_enter Try.func31, Try.ntmps31
  go_wp2_with (go_at_call 32; refine hT.mono ?_)
  rintro e w1 ⟨rfl, rfl⟩
  exact ⟨rfl, rfl, rfl⟩

end Go.Proofs.Ythajhjipbdpfgaa
