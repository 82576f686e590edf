/-
  What the document's Join answers: the same as the program's.
-/
import Derived.Test.YthajhjipbdpfgaaCJoin
import Derived.Laws.BytesArg
import Derived.Laws.Concat
import Derived.BigRegion
set_option linter.unusedVariables false
set_option linter.unusedSimpArgs false
namespace Go.Proofs.Ythajhjipbdpfgaa
open Go.RowKit

theorem conv_bytes (W : World) (g : Nat) (xs : List Int) (n : Nat) (hn : xs.length = n) (q : Bk W g TU (xs.map (Value.int .u8)).toArray) : (convert 46 9 (.slice (some ⟨g, 0, none⟩) n n)).run Try.prog W = .ok (.string (strOfNums xs)) W :=
  run_convert_bytes_arg (P := Try.prog) W 46 TU undBs (by kernel_rfl) g 0 n n xs hn (fun i hi => by
    have := q.cell i
    rw [Nat.zero_add, this]
    have h : i < xs.length := by omega
    simp [h]) 9 undS

theorem cell_alloc_lt (w : World) (o : Obj) (a : Addr) (h : a.block < w.heap.size) : (w.alloc o).cell? a = w.cell? a :=
  World.cell?_of_block (Lib.alloc_old w o a.block h)

set_option maxRecDepth 100000 in
set_option maxHeartbeats 8000000 in
theorem refJoin_any (k : Nat) (A : Option Addr) (c : Nat) (l : List ByteArray) (w : World) (hk : k < 256) (hl : ∀ i (hi : i < l.length), ∃ ad, A = some ad ∧ w.cell? (ad.add i) = some (.string l[i])) (hm : l.length ≤ 9223372036854775807) :
    Calls Try.prog 13 #[.int .u8 k, .slice A l.length c] w fun e w' => e = .returned (.tuple #[.string (joinA k l).1, .int .i64 (joinA k l).2]) ∧ Below w.heap.size w w' := by
  by_cases h255 : l.length ≤ 255
  rotate_left
  · have hd : (255 < (l.length : Int)) = True := eq_true (by omega)
    have hd2 : (255 < l.length) = True := eq_true (by omega)
    rw [joinA_not (fun h => h255 h.1)]
    go_enter Try.func13, Try.ntmps13
    go_wp2
    go_ret2
    exact ⟨rfl, Below.refl _ _⟩
  have hd : (255 < (l.length : Int)) = False := eq_false (by omega)
  have hd2 : (255 < l.length) = False := eq_false (by omega)
  generalize hj : joinA k l = ja
  have hja := Lib.hid hj
  clear hj
  have hL := length_soFar k l
  have q1 : Bk (w.alloc (.cells #[.int .u8 1, .int .u8 k, .int .u8 l.length] TU)) w.heap.size TU #[.int .u8 1, .int .u8 k, .int .u8 l.length] := Bk.new _ _ _
  have hcv := conv_bytes (w.alloc (.cells #[.int .u8 1, .int .u8 k, .int .u8 l.length] TU)) w.heap.size [1, (k : Int), (l.length : Int)] 3 rfl q1
  rw [show strOfNums [1, (k : Int), (l.length : Int)] = ⟨(soFar k l 0).toArray⟩ by rw [soFar_zero]; simp [strOfNums]] at hcv
  go_enter Try.func13, Try.ntmps13
  go_wp2_with fail
  clear hcv q1
  go_loopw [6, 7] (fun sv iv wr => ∃ i : Nat, i ≤ l.length ∧ iv = .int .i64 i ∧ Hid (∀ s ∈ l.take i, s.size ≤ 4000) ∧ sv = .string ⟨(soFar k l i).toArray⟩ ∧ Below w.heap.size w wr) (fun _ iv _ => l.length - (intOf iv).toNat)
  case atStart => exact ⟨0, by omega, rfl, Lib.hid (by simp), rfl, bl_alloc (Below.refl _ _) _⟩
  case round =>
    obtain ⟨i, hi, rfl, hS, rfl, L⟩ := hrel
    by_cases hlt : i < l.length
    · obtain ⟨ad, rfl, hcw⟩ := hl i hlt
      have hcell := (L.cell (World.block_lt_of_cell? w _ hcw)).trans hcw
      by_cases hbig : l[i].size ≤ 4000
      · have hd : (4000 < (l[i].size : Int)) = False := eq_false (by omega)
        have hd2 : (4000 < l[i].size) = False := eq_false (by omega)
        have hlen := hL i h255 hS.out
        have q2 : Bk (wr.alloc (.cells #[.int .u8 ((l[i].size : Int) / 256), .int .u8 ((l[i].size : Int) % 256)] TU)) wr.heap.size TU #[.int .u8 ((l[i].size : Int) / 256), .int .u8 ((l[i].size : Int) % 256)] := Bk.new _ _ _
        have hcell2 : (wr.alloc (.cells #[.int .u8 ((l[i].size : Int) / 256), .int .u8 ((l[i].size : Int) % 256)] TU)).cell? (ad.add i) = some (.string l[i]) := (cell_alloc_lt wr _ (ad.add i) (World.block_lt_of_cell? wr _ hcell)).trans hcell
        have hcv2 := conv_bytes ((wr.alloc (.cells #[.int .u8 ((l[i].size : Int) / 256), .int .u8 ((l[i].size : Int) % 256)] TU)).drew) wr.heap.size [(l[i].size : Int) / 256, (l[i].size : Int) % 256] 2 rfl q2
        have hstr : strOfNums [(l[i].size : Int) / 256, (l[i].size : Int) % 256] = ⟨[UInt8.ofNat (l[i].size / 256), UInt8.ofNat (l[i].size % 256)].toArray⟩ := by
          unfold strOfNums
          have e1 : ((l[i].size : Int) / 256).toNat = l[i].size / 256 := by omega
          have e2 : ((l[i].size : Int) % 256).toNat = l[i].size % 256 := by omega
          simp [e1, e2]
        rw [hstr] at hcv2
        have a1 : ∀ W : World, (Op.stringOp .add ⟨(soFar k l i).toArray⟩ ⟨[UInt8.ofNat (l[i].size / 256), UInt8.ofNat (l[i].size % 256)].toArray⟩).run Try.prog W = .ok (.string ⟨(soFar k l i ++ [UInt8.ofNat (l[i].size / 256), UInt8.ofNat (l[i].size % 256)]).toArray⟩) W := fun W => by
          rw [run_string_add_sum W _ _ (by
            have g1 : (⟨(soFar k l i).toArray⟩ : ByteArray).size = (soFar k l i).length := by show (soFar k l i).toArray.size = _; simp
            have g2 : (⟨[UInt8.ofNat (l[i].size / 256), UInt8.ofNat (l[i].size % 256)].toArray⟩ : ByteArray).size = 2 := rfl
            rw [g1, g2]; omega)]
          exact congrArg (fun z => Result.ok (Value.string z) W) (bytes_ext (by simp))
        have a2 : ∀ W : World, (Op.stringOp .add ⟨(soFar k l i ++ [UInt8.ofNat (l[i].size / 256), UInt8.ofNat (l[i].size % 256)]).toArray⟩ l[i]).run Try.prog W = .ok (.string ⟨(soFar k l (i + 1)).toArray⟩) W := fun W => by
          rw [run_string_add_sum W _ _ (by
            have g1 : (⟨(soFar k l i ++ [UInt8.ofNat (l[i].size / 256), UInt8.ofNat (l[i].size % 256)]).toArray⟩ : ByteArray).size = (soFar k l i).length + 2 := by
              show (soFar k l i ++ [UInt8.ofNat (l[i].size / 256), UInt8.ofNat (l[i].size % 256)]).toArray.size = _; simp
            rw [g1]; omega)]
          exact congrArg (fun z => Result.ok (Value.string z) W) (bytes_ext (by simp [soFar_succ k l i hlt, one]))
        have hS2 : Hid (∀ s ∈ l.take (i + 1), s.size ≤ 4000) := Lib.hid (by
          intro s hs
          rw [List.take_succ_eq_append_getElem hlt] at hs
          rcases List.mem_append.1 hs with hs | hs
          · exact hS.out s hs
          · rw [List.mem_singleton.1 hs]; exact hbig)
        clear hS q2 hlen hL hstr
        go_wp2_with fail
        go_region
        all_goals
          go_wp2_with fail
          go_roundw
          case rel => exact ⟨i + 1, by omega, by go_num, hS2, rfl, (bl_alloc L _).drew⟩
          case measure => simp [intOf]; omega
      · have hd : (4000 < (l[i].size : Int)) = True := eq_true (by omega)
        have hd2 : (4000 < l[i].size) = True := eq_true (by omega)
        have hja' := hja.out
        rw [joinA_not (fun h => hbig (h.2.1 _ (List.getElem_mem hlt)))] at hja'
        subst hja'
        go_wp2
        go_ret2
        exact ⟨rfl, L⟩
    · obtain rfl : i = l.length := by omega
      clear hlt
      rw [soFar_all]
      have hS' := hS.out
      rw [List.take_length] at hS'
      have hsz : (⟨(joined k l).toArray⟩ : ByteArray).size = (joined k l).length := by show (joined k l).toArray.size = _; simp
      by_cases hall : (joined k l).length ≤ 30000
      · have hd : (30000 < ((joined k l).length : Int)) = False := eq_false (by omega)
        have hd2 : (30000 < (joined k l).length) = False := eq_false (by omega)
        have hja' := hja.out
        rw [show joinA k l = (joinedS k l, 0) from if_pos ⟨h255, hS', by simpa [joined] using hall⟩] at hja'
        subst hja'
        go_wp2
        go_ret2
        exact ⟨rfl, L⟩
      · have hd : (30000 < ((joined k l).length : Int)) = True := eq_true (by omega)
        have hd2 : (30000 < (joined k l).length) = True := eq_true (by omega)
        have hja' := hja.out
        rw [joinA_not (fun h => hall (by have := h.2.2; simpa [joined] using this))] at hja'
        subst hja'
        go_wp2
        go_ret2
        exact ⟨rfl, L⟩

end Go.Proofs.Ythajhjipbdpfgaa
