/-
  An array and itself; texts that are compared as strings; what is hidden twice.
-/
import Derived.Test.YtkmgdpbmkbpkjaaDoorVe
import Derived.Test.YtkmgdpbmkbpkjaaDoorLadC
import Derived.Test.YtkmgdpbmkbpkjaaDoorGCv
set_option linter.unusedVariables false
set_option linter.unusedSimpArgs false
namespace Go.Proofs.YtkmgdpbmkbpkjaaDoor
open Go.RowKit

theorem eqItems_self (d : Nat) (f : Nat → Int) (w : World) : ∀ is : List Nat, (∀ i ∈ is, i < 32) →
    (Op.eqItems (d + 1) 5 1 (aF .u8 32 f) (aF .u8 32 f) is).run Tryd.prog w = .ok true w
  | [], _ => rfl
  | i :: is, h => by
    have hi := h i (List.mem_cons_self ..)
    have ih := eqItems_self d f w is fun j hj => h j (List.mem_cons_of_mem _ hj)
    have px := run_part_plain (P := Tryd.prog) w (e := 5) (by kernel_rfl) (off := i * 1) ((by rw [Nat.mul_one]; exact get_aF .u8 32 f i hi) : (aF .u8 32 f)[i * 1]? = _)
    simp only [Op.eqItems, Sem.run_bind, px, Result.andThen_ok, run_equalIn_int w d 5 .u8 .u8 _ _ Tryd.underlying5, BEq.rfl, Bool.not_true, Bool.false_eq_true, if_false, ih]
set_option maxRecDepth 100000 in
theorem equalIn_self (f : Nat → Int) (w : World) : (Op.equalIn 10000 22 (.agg (aF .u8 32 f)) (.agg (aF .u8 32 f))).run Tryd.prog w = .ok true w := by
  have hi : ∃ i, Tryd.prog.info? 5 = some i := Option.isSome_iff_exists.1 (by kernel_rfl)
  obtain ⟨i, hi⟩ := hi
  rw [show (10000 : Nat) = 9998 + 1 + 1 from rfl, run_equalIn_array w (9998 + 1) (aF .u8 32 f) (aF .u8 32 f) Tryd.underlying22 hi, cells5, eqItems_self 9998 f w _ fun j hj => List.mem_range.1 hj]
theorem aneq_self {o : Oper} {a : Act} {f : Nat → Int} {p q : Operand} {z : TypeId} (ho : o.op = .binOp .neq 22 p q z) (hp : a.eval p = .agg (aF .u8 32 f)) (hq : a.eval q = .agg (aF .u8 32 f)) (w : World) :
    (execOp a.eval o).run Tryd.prog w = .ok (.value (.bool false)) w := by
  have e : (do eqGuard .neq 22 p q (.agg (aF .u8 32 f)) (.agg (aF .u8 32 f)); binOp .neq 22 (.agg (aF .u8 32 f)) (.agg (aF .u8 32 f)) : Sem Value).run Tryd.prog w = .ok (.bool false) w := by
    rw [Sem.run_bind, run_eqGuard_agg w .neq _ p q _ _ (by kernel_rfl), Result.andThen_ok, run_neq_struct, equalIn_self]
    rfl
  rw [Sem.run_bind] at e
  unfold execOp
  simp only [ho, hp, hq, Sem.run_bind]
  rw [e]
  rfl
theorem r_keys {P : Program} {o : Oper} {a : Act} {w w0 : World} {L : List (Nat × TypeId × Array Value)} {f : FuncId} {args : Array Value} {n : Nat} {s : Nat → Int} (hx : (execOp a.eval o).run P w = .ok (.enter f args) w) (hc : KeysA P f args w n s) (hO : Own w0 L w) :
    Runs P o a w (fun v : Value => v) fun v w' => ∃ q c t cs, v = .tuple #[.slice q n c, .int .i64 0] ∧ Own w0 (L ++ buf q t cs) w' ∧ Buf .u8 32 q n c cs s := fun K Q h => by
  unfold Oper.wp
  rw [hx]
  refine Calls.mono hc ?_
  rintro e w' ⟨b, rfl, q, c, t, cs, rfl, hO', hB⟩
  exact h _ w' ⟨q, c, t, cs, rfl, hO.merge hO', hB⟩
theorem Buf.rdcM {w w0 : World} {L : List (Nat × TypeId × Array Value)} {k : IntKind} {z g n c : Nat} {t : TypeId} {cs : Array Value} {f : Nat → Int} (h : Buf k z (some ⟨g, 0, none⟩) n c cs f) (hO : Own w0 L w) (hm : (g, t, cs) ∈ L) (h0 : 0 < n) : RdC w k g 0 (n * z) f := by
  rcases h with ⟨h, _⟩ | ⟨g', e, h2, h3, h4⟩
  · cases h
  · cases e
    exact fun j hj => by rw [Nat.zero_add, (hO.get hm).cell j]; exact h4 j hj
/-- A text as a string. -/
def strF (f : Nat → Int) (n : Nat) : ByteArray := strOfNums ((List.range n).map f)
theorem conv_text {P : Program} {o : Oper} {a : Act} {w : World} {src dst e : TypeId} {p : Option Addr} {n c : Nat} {f : Nat → Int} (h : RdF w (.slice p n c) n f)
    (hx : (execOp a.eval o).run P w = ((do let v ← convert src dst (.slice p n c); pure (Next.value v)) : Sem Next).run P w)
    (hs : P.underlying src = some (.slice e)) (he : P.underlying e = some (.int .u8)) (hd : P.underlying dst = some .string) : (execOp a.eval o).run P w = .ok (.value (.string (strF f n))) w := by
  rw [hx, Sem.run_bind]
  by_cases h0 : n = 0
  · subst h0
    rw [run_convert_bytes_string w src dst e _ 0 c hs he hd]
    cases p <;> simp [Conv.bytesToString, loadCells]
    all_goals rfl
  · obtain ⟨g, o', rfl, hc, hr⟩ := h.opened (by omega)
    rw [run_convert_bytes_arg w src e hs he g o' n c ((List.range n).map f) (by simp) (fun i hi => by rw [hr i hi]; simp [List.getD, hi]) dst hd]
    rfl
theorem s_eql {P : Program} {o : Oper} {a : Act} {w : World} {s : ByteArray} {p q : Operand} {z T : TypeId} (ho : o.op = .binOp .eql z p q T) (hp : a.eval p = .string s) (hq : a.eval q = .string s) : (execOp a.eval o).run P w = .ok (.value (.bool true)) w := by
  unfold execOp
  simp only [ho, hp, hq]
  simp [binOp_string_eql, Sem.run_bind, eqGuard]
/-- What is hidden twice is what it was. -/
theorem ix_twice {x : Int} (y : Int) (hx : 0 ≤ x ∧ x < 256) : ix .u8 (ix .u8 x y) y = x := by
  have e : ∀ a b : Int, ix .u8 a b = (((BitVec.ofInt 8 a ^^^ BitVec.ofInt 8 b).toNat : Nat) : Int) := fun a b => by
    unfold ix bits
    show IntKind.u8.wrap (((BitVec.ofInt 8 a ^^^ BitVec.ofInt 8 b).toNat : Nat) : Int) = _
    have := (BitVec.ofInt 8 a ^^^ BitVec.ofInt 8 b).isLt
    simp only [IntKind.wrap, IntKind.bits, IntKind.signed, Bool.false_and, Bool.false_eq_true, if_false]
    omega
  rw [e, e]
  have e2 : BitVec.ofInt 8 (((BitVec.ofInt 8 x ^^^ BitVec.ofInt 8 y).toNat : Nat) : Int) = BitVec.ofInt 8 x ^^^ BitVec.ofInt 8 y := by
    rw [BitVec.ofInt_natCast, BitVec.ofNat_toNat, BitVec.setWidth_eq]
  rw [e2, BitVec.xor_assoc, BitVec.xor_self, BitVec.xor_zero]
  obtain ⟨m, rfl⟩ := Int.eq_ofNat_of_zero_le hx.1
  rw [BitVec.ofInt_natCast, BitVec.toNat_ofNat]
  omega
def n8 (n : Nat) : Nat → Int := fun i => ((n / 256 ^ i % 256 : Nat) : Int)
theorem c8_n8 (n : Nat) : c8 n = aF .u8 32 (n8 n) := rfl
theorem clamp_again (k : Nat) : Cv.clampN (Cv.clampN k) = Cv.clampN k := by
  unfold Cv.clampN
  have : k % 2 ^ 254 < 2 ^ 254 := Nat.mod_lt _ (by decide)
  generalize k % 2 ^ 254 = x at *
  rw [e254] at *
  omega
theorem XN_clamp (k u : Nat) : Cv.XN (Cv.clampN k) u = Cv.XN k u := by unfold Cv.XN; rw [clamp_again]
theorem Bk.rdc0 {w : World} {g n : Nat} {t : TypeId} {k : IntKind} {f : Nat → Int} (h : Bk w g t (aF k n f)) : RdC w k g 0 n f := fun j hj => by rw [Nat.zero_add]; exact h.at j hj
end Go.Proofs.YtkmgdpbmkbpkjaaDoor
