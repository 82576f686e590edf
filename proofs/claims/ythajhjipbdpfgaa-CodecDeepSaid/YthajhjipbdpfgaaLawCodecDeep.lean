/-
  The statement's row, from the law's plain form: the arguments opened (texts as a list), the walk, the frame.
-/
import Derived.Test.YthajhjipbdpfgaaRows
import Derived.Test.YthajhjipbdpfgaaXCodecDeep
import Derived.Test.YthajhjipbdpfgaaCTwo
import Derived.Test.YthajhjipbdpfgaaPureCodecDeep
import Derived.WalkKit
import Derived.ProofKit
import Derived.OpenShut
import Derived.ShutString
import Derived.ChangeOld
import Derived.Below
import Derived.SizedLaws
namespace Go.Proofs.Ythajhjipbdpfgaa.codecDeep
open Go.ChangeShapes Go.WideShapes Go.ChangeAt Go.RowKit Go.Proofs.YthajhjipbdpfgaaW.PrintWords
set_option linter.unusedVariables false
theorem own : ownKnob Try.prog.godebug = none := by kernel_rfl
theorem laidOut : laidOutB Try.prog = true := by kernel_rfl
set_option maxRecDepth 100000 in
theorem lifted (os : Os) (started : os.Started) (H : Type) (enc : TypeId × Value → H) :
    ReturnsInHanded {} Try.checked os 8 .any (Rows.codecDeepSpec.pre6 enc Try.prog Try.f8 Rows.codecDeepRow.domain false) (Rows.codecDeepSpec.post enc Try.prog Try.f8 false true false false) := by
  refine returnsInHanded_of_change_sized (C := Try.checked) own started (by kernel_rfl) Try.func8
    (ChangeSpec.witness6 (enc := enc) (C := Try.checked) false ⟨#[], #[.slice none 0 0, .slice none 0 0, .agg #[.int .u8 0, .int .u8 0]], []⟩ 8 (by kernel_rfl) (by kernel_rfl) (by kernel_rfl) (by kernel_rfl)) ?_
  intro W base args ds gs before hval0 hW hcnd hsz0 _
  have hsz : (DataW.weightsEach Try.prog (Try.f8.params.toList ++ Rows.codecDeepSpec.plain.varTypes Try.prog) (ds ++ gs)).all (· ≤ reachBytes) = true := hsz0
  have hval : ∀ (j : Nat) t v, Try.f8.params[j]? = some t → args[j]? = some v → Value.okWide Try.prog W .any base t v := hval0
  have hW' := hW
  obtain ⟨p, q, hA0, hV, rfl, hfz, hnd⟩ := hW
  have hA : DataW.TrodAll enc Try.prog W 0 (fun _ => true) true Try.f8.params.toList args.toList ds p := hA0
  rw [Try.params8] at hA hval hsz
  obtain ⟨v0, vs0, d0, ds0, p0, q0, hargs, rfl, rfl, h0, r0⟩ := trodAll_cons hA
  obtain ⟨v1, vs1, d1, ds1, p1, q1, rfl, rfl, rfl, h1, r1⟩ := trodAll_cons r0
  obtain ⟨v2, vs2, d2, ds2, p2, q2, rfl, rfl, rfl, h2, r2⟩ := trodAll_cons r1
  obtain ⟨rfl, rfl, rfl⟩ := trodAll_nil r2
  obtain rfl : args = #[v0, v1, v2] := by cases args; simp_all
  obtain ⟨rfl, rfl⟩ := trodVars_none hV
  have k0 := h0
  have lt0 : ∀ x ∈ p0, x.block < W.heap.size := by obtain ⟨m, hm⟩ := k0; exact DataW.trod_lt m _ _ _ hm
  obtain ⟨A0, c0, l0, rfl, le0, C0, n0⟩ := C.open_strs_fine hsz (j := 0) rfl rfl (hval 0 22 v0 rfl rfl) h0
  have k1 := h1
  have lt1 : ∀ x ∈ p1, x.block < W.heap.size := by obtain ⟨m, hm⟩ := k1; exact DataW.trod_lt m _ _ _ hm
  obtain ⟨A1, c1, l1, rfl, le1, C1, n1⟩ := C.open_strs_fine hsz (j := 1) rfl rfl (hval 1 22 v1 rfl rfl) h1
  obtain ⟨x2, y2, hx2, hy2, rfl, rfl, rd2⟩ := C.open_two (hval 2 49 v2 rfl rfl) h2
  clear hA0 hval0 hsz0 hsz
  obtain ⟨k, hk⟩ := Pure.CodecDeep l0 l1 x2 y2 hx2 hy2 n0 n1
  have HB : Below W.heap.size W (W.alloc (.cells #[.int .u8 (x2 : Int), .int .u8 (y2 : Int)] 49)) := bl_alloc (Below.refl _ _) _
  have hcall : Calls Try.prog 8 #[.slice A0 l0.length c0, .slice A1 l1.length c1, .agg #[.int .u8 (x2 : Int), .int .u8 (y2 : Int)]] W fun e w' => e = .returned (.bool true) ∧ Below (W.alloc (.cells #[.int .u8 (x2 : Int), .int .u8 (y2 : Int)] 49)).heap.size (W.alloc (.cells #[.int .u8 (x2 : Int), .int .u8 (y2 : Int)] 49)) w' :=
    C.signetringlaw08_CodecDeep.calls k A0 c0 l0 A1 c1 l1 (some ⟨W.heap.size, 0, none⟩) [(x2 : Int), (y2 : Int)] true W (W.alloc (.cells #[.int .u8 (x2 : Int), .int .u8 (y2 : Int)] 49)) rfl rfl (Kd.C_below C0 HB) le0 (Kd.C_below C1 HB) le1 (C.two_reads W x2 y2) hk
  refine hcall.mono fun e W' ⟨he, bel0⟩ => ?_
  have bel : Below W.heap.size W W' := bl_call HB bel0
  subst he
  exact ⟨_, rfl, _, _, _, [], _, [], hW', trodAll_mk1 (shut_bool Try.underlying4 _), (trodAll_cons_mk (Below.trod laidOut (by kernel_rfl) (of_decide_eq_true (by kernel_rfl)) k0 bel lt0) (trodAll_cons_mk (Below.trod laidOut (by kernel_rfl) (of_decide_eq_true (by kernel_rfl)) k1 bel lt1) (trodAll_cons_mk (rd2 _ _ _ _) trodAll_mk0))), rfl, bel.frame _, fun h => by cases h⟩
theorem over : Rows.codecDeepRow.holds Try.pinned (OpenSpec.ofChange Rows.codecDeepSpec) :=
  OpenClaim.holds_of_wide 8 Try.f8 rfl rfl rfl rfl rfl rfl rfl ⟨rfl, rfl, rfl, rfl, rfl⟩ rfl rfl rfl rfl rfl (by kernel_rfl) Try.func8 (by kernel_rfl)
    (of_decide_eq_true (by kernel_rfl)) (by unfold Func.isWrapper; first | (rw [if_pos (by decide +kernel)]; kernel_rfl) | (rw [if_neg (by decide +kernel)]; exact ⟨rfl, rfl⟩))
    (fun os started H enc _ => lifted os started H enc)
theorem proved : Rows.CodecDeepSaid := over
#print axioms proved
end Go.Proofs.Ythajhjipbdpfgaa.codecDeep
namespace Go.Proofs.Ythajhjipbdpfgaa
/-- The row, under a short name, for the claim. -/
theorem codecDeep_holds : Rows.CodecDeepSaid := codecDeep.proved
end Go.Proofs.Ythajhjipbdpfgaa
