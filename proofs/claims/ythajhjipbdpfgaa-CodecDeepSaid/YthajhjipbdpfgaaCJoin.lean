/-
  What codec.Join answers: the texts behind their lengths, or that they are too big.
-/
import Derived.Test.YthajhjipbdpfgaaCBuild
import Derived.Test.YthajhjipbdpfgaaCBk
import Derived.Test.YthajhjipbdpfgaaCPlain
import Derived.LoopTactic
import Derived.Lib.Hide
set_option linter.unusedVariables false
set_option linter.unusedSimpArgs false
namespace Go.Proofs.Ythajhjipbdpfgaa
open Go.RowKit

instance (l : List ByteArray) : Decidable (Fits l) := inferInstanceAs (Decidable (_ ∧ _ ∧ _))
/-- What is answered. -/
def joinA (k : Nat) (l : List ByteArray) : ByteArray × Int := if Fits l then (joinedS k l, 0) else (⟨#[]⟩, 3)

theorem length_enc_le : ∀ l : List ByteArray, (∀ s ∈ l, s.size ≤ 4000) → (enc l).length ≤ l.length * 4002
  | [], _ => by simp [enc]
  | s :: l, h => by
    have h1 := h s (by simp)
    have h2 := length_enc_le l (fun x hx => h x (List.mem_cons_of_mem _ hx))
    simp only [enc, List.length_append, length_one, List.length_cons]
    omega
theorem bld_alloc {T e : TypeId} {B b : Nat} {p : Value} {bs : List Value} {w : World} (h : Lib.BuilderAt T e B b p bs w) (o : Obj) : Lib.BuilderAt T e B b p bs (w.alloc o) := by
  have hlt := h.lt
  obtain ⟨hB, v, hb, hown, hne⟩ := h
  exact ⟨hB, v, (Lib.alloc_old w o b hlt).trans hb, hown.alloc o, hne⟩
theorem isb_alloc {T e : TypeId} {B b : Nat} {bs : List Value} {w : World} (h : Lib.IsBuilder T e B b bs w) (o : Obj) : Lib.IsBuilder T e B b bs (w.alloc o) :=
  h.elim (fun h => .inl (bld_alloc h o)) (fun h => .inr (bld_alloc h o))
theorem cells_u8 (l : List UInt8) : ∀ u ∈ Lib.byteCells l, u.oneCell' = true := by
  intro u hu
  simp only [Lib.byteCells, List.mem_map] at hu
  obtain ⟨b, _, rfl⟩ := hu
  rfl
theorem joinA_not {k : Nat} {l : List ByteArray} (h : ¬ Fits l) : joinA k l = (⟨#[]⟩, 3) := if_neg h

theorem row_cells {W : World} {g : Nat} {t : TypeId} {cs : List Value} (q : Bk W g t cs.toArray) : ∀ j u, cs[j]? = some u → W.cell? ((⟨g, 0, none⟩ : Addr).add j) = some u := by
  intro j u h
  have hq := q.cell j
  have hj : cs.toArray[j]? = some u := by simpa using h
  rw [hj] at hq
  by_cases h0 : j = 0
  · subst h0
    simpa [Addr.add] using hq
  · simpa [Addr.add, h0] using hq
theorem cells3 {k n : Nat} (hk : k < 256) (hn : n < 256) : [Value.int .u8 1, .int .u8 k, .int .u8 n] = Lib.byteCells [1, UInt8.ofNat k, UInt8.ofNat n] := by
  simp [Lib.byteCells]
  omega
theorem cells2 {n : Nat} (hn : n ≤ 4000) : [Value.int .u8 ((n : Int) / 256), .int .u8 ((n : Int) % 256)] = Lib.byteCells [UInt8.ofNat (n / 256), UInt8.ofNat (n % 256)] := by
  simp [Lib.byteCells]
  omega
/-- What the builder holds behind i texts. -/
def soFar (k : Nat) (l : List ByteArray) (i : Nat) : List UInt8 := 1 :: UInt8.ofNat k :: UInt8.ofNat l.length :: enc (l.take i)
theorem soFar_zero (k : Nat) (l : List ByteArray) : soFar k l 0 = [1, UInt8.ofNat k, UInt8.ofNat l.length] := rfl
theorem soFar_succ (k : Nat) (l : List ByteArray) (i : Nat) (h : i < l.length) : soFar k l (i + 1) = soFar k l i ++ one l[i] := by
  simp only [soFar]
  rw [List.take_succ_eq_append_getElem h, enc_append]
  simp [enc]
theorem soFar_all (k : Nat) (l : List ByteArray) : soFar k l l.length = joined k l := by simp [soFar, joined]
theorem length_soFar (k : Nat) (l : List ByteArray) (i : Nat) (hl : l.length ≤ 255) (h : ∀ s ∈ l.take i, s.size ≤ 4000) : (soFar k l i).length ≤ 1048576 := by
  have h1 := length_enc_le (l.take i) h
  have h2 : (l.take i).length ≤ 255 := by rw [List.length_take]; omega
  simp only [soFar, List.length_cons]
  omega

set_option maxRecDepth 100000 in
set_option maxHeartbeats 8000000 in
theorem join_any (k : Nat) (A : Option Addr) (c : Nat) (l : List ByteArray) (w : World) (hk : k < 256) (hl : ∀ i (hi : i < l.length), ∃ ad, A = some ad ∧ w.cell? (ad.add i) = some (.string l[i])) (hm : l.length ≤ 9223372036854775807) :
    Calls Try.prog 12 #[.int .u8 k, .slice A l.length c] w fun e w' => e = .returned (.tuple #[.string (joinA k l).1, .int .i64 (joinA k l).2]) ∧ Below w.heap.size w w' := by
  by_cases h255 : l.length ≤ 255
  rotate_left
  · have hd : (255 < (l.length : Int)) = True := eq_true (by omega)
    have hd2 : (255 < l.length) = True := eq_true (by omega)
    rw [joinA_not (fun h => h255 h.1)]
    go_enter Try.func12, Try.ntmps12
    go_wp2
    go_ret2
    exact ⟨rfl, Below.refl _ _⟩
  have hd : (255 < (l.length : Int)) = False := eq_false (by omega)
  have hd2 : (255 < l.length) = False := eq_false (by omega)
  generalize hj : joinA k l = ja
  have hja := Lib.hid hj
  clear hj
  go_enter Try.func12, Try.ntmps12
  have hB : Lib.IsBuilder TB TU w.heap.size w.heap.size [] ((w.alloc (.cells #[.pointer none, .slice none 0 0] TB)).alloc (.cells #[.int .u8 1, .int .u8 k, .int .u8 l.length] TU)) := isb_alloc (Lib.fresh_isBuilder TB TU w) _
  have qn : Bk ((w.alloc (.cells #[.pointer none, .slice none 0 0] TB)).alloc (.cells #[.int .u8 1, .int .u8 k, .int .u8 l.length] TU)) (w.heap.size + 1) TU #[.int .u8 1, .int .u8 k, .int .u8 l.length] := Bk.at_ _ _ _ _ (by simp)
  have hL := length_soFar k l
  go_wp2_with (go_at_call 22; refine (bWrite_any w.heap.size w.heap.size [] ⟨w.heap.size + 1, 0, none⟩ 3 3 [.int .u8 1, .int .u8 k, .int .u8 l.length] _ hB rfl (row_cells qn) (by simp) (by simp [Value.oneCell']) (by simp) (by simp; omega)).mono ?_)
  rintro e w1 ⟨rfl, b1, hb1⟩
  have L1 : Below w.heap.size w w1 := (bl_alloc (bl_alloc (Below.refl _ _) _) _).trans hb1
  rw [List.nil_append, cells3 hk (by omega), ← soFar_zero] at b1
  clear hB qn hb1 hd hd2
  go_wp2_with fail
  go_loopw [23] (fun iv wr => ∃ i : Nat, i ≤ l.length ∧ iv = .int .i64 i ∧ Hid (∀ s ∈ l.take i, s.size ≤ 4000) ∧ Lib.BuilderAt TB TU w.heap.size w.heap.size (.pointer (some ⟨w.heap.size, 0, none⟩)) (Lib.byteCells (soFar k l i)) wr ∧ Below w.heap.size w wr) (fun iv _ => l.length - (intOf iv).toNat)
  case atStart => exact ⟨0, by omega, rfl, Lib.hid (by simp), b1, L1⟩
  case round =>
    clear b1 L1
    obtain ⟨i, hi, rfl, hS, bI, L⟩ := hrel
    by_cases hlt : i < l.length
    · obtain ⟨ad, rfl, hcw⟩ := hl i hlt
      have hcell := (L.cell (World.block_lt_of_cell? w _ hcw)).trans hcw
      by_cases hbig : l[i].size ≤ 4000
      · have hd : (4000 < (l[i].size : Int)) = False := eq_false (by omega)
        have hd2 : (4000 < l[i].size) = False := eq_false (by omega)
        have q2 : Bk (wr.alloc (.cells #[.int .u8 ((l[i].size : Int) / 256), .int .u8 ((l[i].size : Int) % 256)] TU)) wr.heap.size TU #[.int .u8 ((l[i].size : Int) / 256), .int .u8 ((l[i].size : Int) % 256)] := Bk.new _ _ _
        have hlen := hL i h255 hS.out
        have hlt2 := bI.lt
        have hS2 : Hid (∀ s ∈ l.take (i + 1), s.size ≤ 4000) := Lib.hid (by
          intro s hs
          rw [List.take_succ_eq_append_getElem hlt] at hs
          rcases List.mem_append.1 hs with hs | hs
          · exact hS.out s hs
          · rw [List.mem_singleton.1 hs]; exact hbig)
        go_wp2_with (go_at_call 22; refine (bWrite_any w.heap.size w.heap.size _ ⟨wr.heap.size, 0, none⟩ 2 2 [.int .u8 ((l[i].size : Int) / 256), .int .u8 ((l[i].size : Int) % 256)] _ (.inr (bld_alloc bI _)) rfl (row_cells q2) (by simp; omega) (by simp [Value.oneCell']) (by rw [Lib.byteCells_length]; omega) (by simp; omega)).mono ?_)
        rintro e w2 ⟨rfl, b2, hb2⟩
        have L2 : Below w.heap.size w w2 := (bl_alloc L _).trans hb2
        rw [cells2 hbig, ← Lib.byteCells_append] at b2
        clear hb2 q2 bI L
        have hlt3 := b2.lt
        go_wp2_with (go_at_call 23; refine (bWriteString_any w.heap.size w.heap.size _ l[i] _ (.inr b2) (by rw [Lib.byteCells_length, List.length_append, List.length_cons, List.length_singleton]; omega) (by omega)).mono ?_)
        rintro e w3 ⟨rfl, b3, hb3⟩
        have L3 : Below w.heap.size w w3 := L2.trans hb3
        have b4 : Lib.BuilderAt TB TU w.heap.size w.heap.size (.pointer (some ⟨w.heap.size, 0, none⟩)) (Lib.byteCells (soFar k l (i + 1))) w3 := by
          rw [soFar_succ k l i hlt]
          have : Lib.byteCells (soFar k l i ++ one l[i]) = Lib.byteCells (soFar k l i ++ [UInt8.ofNat (l[i].size / 256), UInt8.ofNat (l[i].size % 256)]) ++ Lib.strCells l[i] := by
            simp [one, Lib.byteCells, Lib.strCells]
          rw [this]
          exact b3
        clear b2 b3 hb3 L2
        go_wp2_with fail
        go_roundw
        case rel => exact ⟨i + 1, by omega, by go_num, hS2, b4, L3⟩
        case measure => simp [intOf]; omega
      · have hd : (4000 < (l[i].size : Int)) = True := eq_true (by omega)
        have hd2 : (4000 < l[i].size) = True := eq_true (by omega)
        have hja' := hja.out
        rw [joinA_not (fun h => hbig (h.2.1 _ (List.getElem_mem hlt)))] at hja'
        subst hja'
        go_wp2
        go_ret2
        exact ⟨rfl, L⟩
    · obtain rfl : i = l.length := by omega
      clear hlt
      rw [soFar_all] at bI
      have hS' := hS.out
      rw [List.take_length] at hS'
      go_wp2_with (go_at_call 24; refine (bLen_any w.heap.size w.heap.size _ _ (.inr bI)).mono ?_)
      rintro e w2 ⟨rfl, rfl⟩
      rw [Lib.byteCells_length]
      by_cases hall : (joined k l).length ≤ 30000
      · have hd : (30000 < ((joined k l).length : Int)) = False := eq_false (by omega)
        have hd2 : (30000 < (joined k l).length) = False := eq_false (by omega)
        have hja' := hja.out
        rw [show joinA k l = (joinedS k l, 0) from if_pos ⟨h255, hS', by simpa [joined] using hall⟩] at hja'
        subst hja'
        go_wp2_with (go_at_call 25; refine (bString_any w.heap.size w.heap.size _ _ (.inr bI) (by simp [joined])).mono ?_)
        rintro e w3 ⟨rfl, hb3⟩
        go_wp2
        go_ret2
        exact ⟨rfl, L.trans hb3⟩
      · have hd : (30000 < ((joined k l).length : Int)) = True := eq_true (by omega)
        have hd2 : (30000 < (joined k l).length) = True := eq_true (by omega)
        have hja' := hja.out
        rw [joinA_not (fun h => hall (by have := h.2.2; simpa [joined] using this))] at hja'
        subst hja'
        go_wp2
        go_ret2
        exact ⟨rfl, L⟩

end Go.Proofs.Ythajhjipbdpfgaa
