/-
  What codec.read answers for any text: its kind and its texts, or the form's error.
-/
import Derived.Test.YthajhjipbdpfgaaCCaught
import Derived.Test.YthajhjipbdpfgaaCBk
import Derived.Laws.AppendOwn
import Derived.LoopTactic
import Derived.Lib.Hide
set_option linter.unusedVariables false
set_option linter.unusedSimpArgs false
namespace Go.Proofs.Ythajhjipbdpfgaa
open Go.RowKit

/-- The call that is deferred. -/
def dfr (B : Nat) : List Deferred := [{ target := .fn (.func 29) #[], args := #[.pointer (some ⟨B, 0, none⟩)] }]

/-- A panic goes through the door: what is answered then. -/
theorem panic_out {R : Ending → World → Prop} {tmps : Array Value} {B : Nat} {x : Int} {w1 : World} (q : Bk w1 B 25 #[.int .i64 x]) (h4 : tmps.getD 4 undef = .pointer (some ⟨B, 0, none⟩))
    (hR : R (.returned (.tuple #[tmps.getD 2 undef, tmps.getD 3 undef, .int .i64 4])) (w1.setCell ⟨B, 0, none⟩ (.int .i64 4))) :
    bodyPostD Try.prog Try.f26 R (.panic EForm) { tmps := tmps, defers := dfr B } w1 := by
  show Leaves Try.prog Try.f26 tmps R (dfr B) (.panicking EForm) w1
  unfold dfr
  refine leaves_cons (f := 29) (args := #[.pointer (some ⟨B, 0, none⟩)]) (by simp) (by simp [go_sem]) ?_
  refine (caught_panicking ⟨B, 0, none⟩ x _ (q.cell 0) (q.frozen 0)).mono ?_
  rintro e u' w'' ⟨rfl, rfl, rfl⟩
  have hc : (w1.setCell ⟨B, 0, none⟩ (.int .i64 4)).cell? ⟨B, 0, none⟩ = some (.int .i64 4) := (q.put 0 (.int .i64 4)).cell 0
  have h4' : tmps[4]?.getD undef = .pointer (some ⟨B, 0, none⟩) := by simpa using h4
  simp [Leaves, settle, results, Try.results26, go_sem, h4', hc]
  simpa using hR

theorem return_out {R : Ending → World → Prop} {tmps : Array Value} {B : Nat} {x : Int} {w1 : World} (q : Bk w1 B 25 #[.int .i64 x]) (h4 : tmps.getD 4 undef = .pointer (some ⟨B, 0, none⟩))
    (hR : R (.returned (.tuple #[tmps.getD 2 undef, tmps.getD 3 undef, .int .i64 x])) w1) :
    bodyPostD Try.prog Try.f26 R .ret { tmps := tmps, defers := dfr B } w1 := by
  show Leaves Try.prog Try.f26 tmps R (dfr B) .returning w1
  unfold dfr
  refine leaves_cons (f := 29) (args := #[.pointer (some ⟨B, 0, none⟩)]) (by simp) (by simp [go_sem]) ?_
  refine (caught_idle ⟨B, 0, none⟩ _).mono ?_
  rintro e u' w'' ⟨rfl, rfl, rfl⟩
  have hc : w''.cell? ⟨B, 0, none⟩ = some (.int .i64 x) := q.cell 0
  have h4' : tmps[4]?.getD undef = .pointer (some ⟨B, 0, none⟩) := by simpa using h4
  simp [Leaves, settle, results, Try.results26, go_sem, h4', hc]
  simpa using hR

theorem undSs : Try.prog.underlying 22 = some (.slice 9) := by kernel_rfl
theorem undS' : Try.prog.underlying 9 = some .string := by kernel_rfl
theorem info9 : ∃ i : TypeInfo, Try.prog.info? 9 = some i ∧ i.zero = some (.string ⟨#[]⟩) ∧ i.size = 1 ∧ i.bytes = 16 := by
  have h : (Try.prog.info? 9).map (fun i => (i.zero, i.size, i.bytes)) = some (some (.string ⟨#[]⟩), 1, 16) := by kernel_rfl
  obtain ⟨i, h1, h2⟩ := Option.map_eq_some_iff.1 h
  simp only [Prod.mk.injEq] at h2
  exact ⟨i, h1, h2.1, h2.2.1, h2.2.2⟩

/-! ## The reader in a block of its own -/

theorem Bk.grown {w w' : World} {g : Nat} {t : TypeId} {cs : Array Value} {row : Nat} (h : Bk w g t cs) (hg : w.grownBy w' (some row)) (hne : g ≠ row) : Bk w' g t cs :=
  (hg.block g h.lt (by simpa using hne)).trans h
theorem bl_grown {w w1 w2 : World} {row : Nat} (L : Below w.heap.size w w1) (hg : w1.grownBy w2 (some row)) (h : w.heap.size ≤ row) : Below w.heap.size w w2 :=
  L.grown hg L.size (fun k hk => by injection hk with hk; omega)
theorem grownBy_put {w : World} {g i : Nat} (u : Value) : w.grownBy (w.setCell ⟨g, i, none⟩ u).drew (some g) :=
  ⟨rfl, rfl, rfl, by show _ ≤ (w.setCell ⟨g, i, none⟩ u).heap.size; simp [World.setCell], fun k hk hne => (heap_setCell_other w ⟨g, i, none⟩ k u (by simpa using hne))⟩
theorem own_ne {w : World} {base : Nat} {e : TypeId} {size n g : Nat} {v : Value} {xs : List Value} {t : TypeId} {cs : Array Value} (h : w.ownsRow base e size v n xs) (hb : Bk w g t cs) (ht : t ≠ e) : some g ≠ v.ownBlock := by
  intro hv
  rcases h.2 with ⟨rfl, _⟩ | ⟨g', cap, cur, rfl, _, hgb, _⟩
  · simp [Value.ownBlock] at hv
  · have : g = g' := by simpa [Value.ownBlock] using hv
    subst this
    rw [hb] at hgb
    injection hgb with hgb
    injection hgb with _ hgb
    exact ht hgb
theorem Bk.grownO {w w' : World} {g : Nat} {t : TypeId} {cs : Array Value} {row : Option Nat} (h : Bk w g t cs) (hg : w.grownBy w' row) (hne : some g ≠ row) : Bk w' g t cs :=
  (hg.block g h.lt hne).trans h
theorem grownBy_set {w : World} {g i : Nat} (u : Value) : w.grownBy (w.setCell ⟨g, i, none⟩ u) (some g) :=
  ⟨rfl, rfl, rfl, by simp [World.setCell], fun k hk hne => (heap_setCell_other w ⟨g, i, none⟩ k u (by simpa using hne))⟩
theorem own_kept {w w' : World} {base : Nat} {e : TypeId} {size n row : Nat} {v : Value} {xs : List Value} {t : TypeId} {cs : Array Value} (h : w.ownsRow base e size v n xs) (hg : w.grownBy w' (some row)) (hb : Bk w row t cs) (ht : t ≠ e) : w'.ownsRow base e size v n xs := by
  refine h.kept hg (Or.inr fun hv => ?_)
  rcases h.2 with ⟨rfl, _⟩ | ⟨g, cap, cur, rfl, _, hgb, _⟩
  · simp [Value.ownBlock] at hv
  · have : g = row := by simpa [Value.ownBlock] using hv
    subst this
    rw [hb] at hgb
    injection hgb with hgb
    injection hgb with _ hgb
    exact ht hgb

theorem byte_bk {rb : Nat} {c : UInt8} {r : List UInt8} {w : World} (q : Bk w rb 70 #[.string ⟨(c :: r).toArray⟩]) :
    Calls Try.prog 31 #[.pointer (some ⟨rb, 0, none⟩)] w fun e w' => e = .returned (.int .i64 c.toNat) ∧ Bk w' rb 70 #[.string ⟨r.toArray⟩] ∧ w.grownBy w' (some rb) := by
  refine (byte_fits rb c r w (q.cell 0) (q.frozen 0)).mono ?_
  rintro e w' ⟨rfl, rfl⟩
  exact ⟨rfl, (q.put 0 (.string ⟨r.toArray⟩)).drew, grownBy_put _⟩
theorem byte_bk_short {rb : Nat} {w : World} (q : Bk w rb 70 #[.string ⟨([] : List UInt8).toArray⟩]) :
    Calls Try.prog 31 #[.pointer (some ⟨rb, 0, none⟩)] w fun e w' => e = .panicked EForm ∧ w' = w := byte_short rb w (q.cell 0)
theorem take_bk {rb n : Nat} {r : List UInt8} {w : World} (q : Bk w rb 70 #[.string ⟨r.toArray⟩]) (h : n ≤ r.length) :
    Calls Try.prog 32 #[.pointer (some ⟨rb, 0, none⟩), .int .i64 n] w fun e w' => e = .returned (.string ⟨(r.take n).toArray⟩) ∧ Bk w' rb 70 #[.string ⟨(r.drop n).toArray⟩] ∧ w.grownBy w' (some rb) := by
  refine (take_list rb n r w (q.cell 0) (q.frozen 0) h).mono ?_
  rintro e w' ⟨rfl, rfl⟩
  exact ⟨rfl, (q.put 0 (.string ⟨(r.drop n).toArray⟩)).drew, grownBy_put _⟩
theorem take_bk_short {rb n : Nat} {r : List UInt8} {w : World} (q : Bk w rb 70 #[.string ⟨r.toArray⟩]) (h : r.length < n) :
    Calls Try.prog 32 #[.pointer (some ⟨rb, 0, none⟩), .int .i64 n] w fun e w' => e = .panicked EForm ∧ w' = w := take_list_short rb n r w (q.cell 0) h

/-- What codec.read says. -/
def ReadSays (s : ByteArray) (w : World) (e : Ending) (w' : World) : Prop :=
  Below w.heap.size w w' ∧ match splitB s with
    | some (k, l) => ∃ v, e = .returned (.tuple #[.int .u8 k, v, .int .i64 0]) ∧ w'.ownsRow w.heap.size 9 1 v l.length (l.map Value.string)
    | none => ∃ a b, e = .returned (.tuple #[a, b, .int .i64 4])

theorem ReadSays.none_ {s : ByteArray} {w : World} {B : Nat} {a b : Value} {w1 : World} (h : splitB s = none) (hb : Below w.heap.size w w1) (hB : w.heap.size ≤ B) (u : Value) : ReadSays s w (.returned (.tuple #[a, b, .int .i64 4])) (w1.setCell ⟨B, 0, none⟩ u) := by
  unfold ReadSays
  rw [h]
  exact ⟨bl_put hb hB u, a, b, rfl⟩

set_option maxRecDepth 100000 in
set_option maxHeartbeats 4000000 in
theorem read_big (S : List UInt8) (w : World) (hbig : ¬ S.length ≤ 30000) : Calls Try.prog 26 #[.string ⟨S.toArray⟩] w (ReadSays ⟨S.toArray⟩ w) := by
  have hn : splitB ⟨S.toArray⟩ = none := by
    unfold splitB
    exact if_neg (by show ¬ S.toArray.size ≤ 30000; simpa using hbig)
  have hd : ((S.length : Int) ≤ 30000) = False := eq_false (by omega)
  go_enter_defers Try.func26, Try.ntmps26
  go_wp2_with (go_at_call 30; refine (need_false _).mono ?_)
  rintro e w1 ⟨rfl, rfl⟩
  exact panic_out (x := 0) (Bk.new _ _ _) rfl (ReadSays.none_ hn (bl_alloc (Below.refl _ _) _) (Nat.le_refl _) _)

set_option maxRecDepth 100000 in
set_option maxHeartbeats 4000000 in
theorem read_0 (w : World) : Calls Try.prog 26 #[.string ⟨([] : List UInt8).toArray⟩] w (ReadSays ⟨([] : List UInt8).toArray⟩ w) := by
  have hn : splitB ⟨([] : List UInt8).toArray⟩ = none := by kernel_rfl
  go_enter_defers Try.func26, Try.ntmps26
  go_wp2_with (first | (go_at_call 30; refine (need_true _).mono ?_; rintro e w1 ⟨rfl, rfl⟩) | (go_at_call 31; refine (byte_short (w.heap.size + 1) _ ?_).mono ?_))
  · exact (Bk.at_ _ _ _ _ (by simp)).cell 0
  rintro e w1 ⟨rfl, rfl⟩
  exact panic_out (x := 0) ((Bk.new _ _ _).alloc _) rfl (ReadSays.none_ hn (bl_alloc (bl_alloc (Below.refl _ _) _) _) (Nat.le_refl _) _)

set_option maxRecDepth 100000 in
set_option maxHeartbeats 4000000 in
theorem read_1 (v : UInt8) (S : List UInt8) (w : World) (hs : (v :: S).length ≤ 30000) (hv : v ≠ 1) : Calls Try.prog 26 #[.string ⟨(v :: S).toArray⟩] w (ReadSays ⟨(v :: S).toArray⟩ w) := by
  have hn : splitB ⟨(v :: S).toArray⟩ = none := by
    unfold splitB
    rw [if_pos (by show (v :: S).toArray.size ≤ 30000; simpa using hs)]
    show splitL (v :: S) = none
    unfold splitL
    split
    · rename_i h; injection h with h1 h2; rw [← h1, if_neg hv]
    · rfl
  have hd : ((S.length : Int) + 1 ≤ 30000) = True := eq_true (by simp at hs; omega)
  have hvn : ((v.toNat : Int) = 1) = False := eq_false (by
    intro h; exact hv (UInt8.toNat_inj.mp (by have : v.toNat = 1 := by omega
                                              simpa using this)))
  have hvb : ((v.toNat : Int) == 1) = false := by simpa using hvn
  go_enter_defers Try.func26, Try.ntmps26
  go_wp2_with (first | (go_at_call 30; refine (need_true _).mono ?_; rintro e w1 ⟨rfl, rfl⟩) | (go_at_call 31; refine (byte_bk (rb := w.heap.size + 1) (Bk.at_ _ _ _ _ (by simp))).mono ?_))
  rintro e w1 ⟨rfl, q, hg⟩
  go_wp2_with (go_at_call 30; refine (need_false _).mono ?_)
  rintro e w2 ⟨rfl, rfl⟩
  exact panic_out (x := 0) (Bk.grown ((Bk.new _ _ _).alloc _) hg (by omega)) rfl (ReadSays.none_ hn (bl_grown (bl_alloc (bl_alloc (Below.refl _ _) _) _) hg (by omega)) (Nat.le_refl _) _)

set_option maxRecDepth 100000 in
set_option maxHeartbeats 4000000 in
theorem read_2 (w : World) : Calls Try.prog 26 #[.string ⟨[(1 : UInt8)].toArray⟩] w (ReadSays ⟨[(1 : UInt8)].toArray⟩ w) := by
  have hn : splitB ⟨[(1 : UInt8)].toArray⟩ = none := by kernel_rfl
  go_enter_defers Try.func26, Try.ntmps26
  go_wp2_with (first | (go_at_call 30; refine (need_true _).mono ?_; rintro e w1 ⟨rfl, rfl⟩) | (go_at_call 31; refine (byte_bk (rb := w.heap.size + 1) (c := 1) (r := []) (Bk.at_ _ _ _ _ (by simp))).mono ?_))
  rintro e w1 ⟨rfl, q, hg⟩
  go_wp2_with (first | (go_at_call 30; refine (need_true _).mono ?_; rintro e w2 ⟨rfl, rfl⟩) | (go_at_call 31; refine (byte_bk_short (rb := w.heap.size + 1) q).mono ?_))
  rintro e w2 ⟨rfl, rfl⟩
  exact panic_out (x := 0) (Bk.grown ((Bk.new _ _ _).alloc _) hg (by omega)) rfl (ReadSays.none_ hn (bl_grown (bl_alloc (bl_alloc (Below.refl _ _) _) _) hg (by omega)) (Nat.le_refl _) _)

set_option maxRecDepth 100000 in
set_option maxHeartbeats 4000000 in
theorem read_3 (k : UInt8) (w : World) : Calls Try.prog 26 #[.string ⟨[(1 : UInt8), k].toArray⟩] w (ReadSays ⟨[(1 : UInt8), k].toArray⟩ w) := by
  have hn : splitB ⟨[(1 : UInt8), k].toArray⟩ = none := by kernel_rfl
  go_enter_defers Try.func26, Try.ntmps26
  go_wp2_with (first | (go_at_call 30; refine (need_true _).mono ?_; rintro e w1 ⟨rfl, rfl⟩) | (go_at_call 31; refine (byte_bk (rb := w.heap.size + 1) (c := 1) (r := [k]) (Bk.at_ _ _ _ _ (by simp))).mono ?_))
  rintro e w1 ⟨rfl, q, hg⟩
  go_wp2_with (first | (go_at_call 30; refine (need_true _).mono ?_; rintro e w2 ⟨rfl, rfl⟩) | (go_at_call 31; refine (byte_bk (rb := w.heap.size + 1) q).mono ?_))
  rintro e w2 ⟨rfl, q2, hg2⟩
  go_wp2_with (go_at_call 31; refine (byte_bk_short (rb := w.heap.size + 1) q2).mono ?_)
  rintro e w3 ⟨rfl, rfl⟩
  exact panic_out (x := 0) (Bk.grown (Bk.grown ((Bk.new _ _ _).alloc _) hg (by omega)) hg2 (by omega)) rfl (ReadSays.none_ hn (bl_grown (bl_grown (bl_alloc (bl_alloc (Below.refl _ _) _) _) hg (by omega)) hg2 (by omega)) (Nat.le_refl _) _)

set_option maxRecDepth 100000 in
set_option maxHeartbeats 8000000 in
theorem read_all (k n : UInt8) (R : List UInt8) (w : World) (hs : R.length + 3 ≤ 30000) : Calls Try.prog 26 #[.string ⟨(1 :: k :: n :: R).toArray⟩] w (ReadSays ⟨(1 :: k :: n :: R).toArray⟩ w) := by
  have hn : splitB ⟨(1 :: k :: n :: R).toArray⟩ = (parse n.toNat R).map fun l => (k.toNat, l) := by
    unfold splitB
    rw [if_pos (by show (1 :: k :: n :: R).toArray.size ≤ 30000; simp; omega)]
    rfl
  have hd : ((R.length : Int) + 1 + 1 + 1 ≤ 30000) = True := eq_true (by omega)
  go_enter_defers Try.func26, Try.ntmps26
  go_wp2_with (first | (go_at_call 30; refine (need_true _).mono ?_; rintro e w1 ⟨rfl, rfl⟩) | (go_at_call 31; refine (byte_bk (rb := w.heap.size + 1) (c := 1) (r := k :: n :: R) (Bk.at_ _ _ _ _ (by simp))).mono ?_))
  rintro e w1 ⟨rfl, q, hg⟩
  go_wp2_with (first | (go_at_call 30; refine (need_true _).mono ?_; rintro e w2 ⟨rfl, rfl⟩) | (go_at_call 31; refine (byte_bk (rb := w.heap.size + 1) q).mono ?_))
  rintro e w2 ⟨rfl, q2, hg2⟩
  go_wp2_with (go_at_call 31; refine (byte_bk (rb := w.heap.size + 1) q2).mono ?_)
  rintro e w3 ⟨rfl, q3, hg3⟩
  have e3 : Bk w3 w.heap.size 25 #[.int .i64 0] := Bk.grown (Bk.grown (Bk.grown ((Bk.new _ _ _).alloc _) hg (by omega)) hg2 (by omega)) hg3 (by omega)
  have L3 : Below w.heap.size w w3 := bl_grown (bl_grown (bl_grown (bl_alloc (bl_alloc (Below.refl _ _) _) _) hg (by omega)) hg2 (by omega)) hg3 (by omega)
  clear q q2 hg hg2 hg3 hd
  have hn' := Lib.hid hn
  clear hn
  go_wp2_with fail
  go_loopw [3, 23] (fun v c wr => ∃ (i : Nat) (acc : List ByteArray) (r : List UInt8), i ≤ n.toNat ∧ c = .int .i64 i ∧ acc.length = i ∧ Hid (parse n.toNat R = (parse (n.toNat - i) r).map (acc ++ ·)) ∧ wr.ownsRow w.heap.size 9 1 v acc.length (acc.map Value.string) ∧ Bk wr w.heap.size 25 #[.int .i64 0] ∧ Bk wr (w.heap.size + 1) 70 #[.string ⟨r.toArray⟩] ∧ Below w.heap.size w wr) (fun _ c _ => n.toNat - (intOf c).toNat)
  case atStart =>
    exact ⟨0, [], R, by omega, rfl, rfl, Lib.hid (by simp), World.ownsRow_nil _ _ _ _, e3, q3, L3⟩
  case round =>
    clear e3 q3 L3
    obtain ⟨i, acc, r, hi, rfl, hacc, hP, hown, qe, qr, L⟩ := hrel
    have hnb := n.toNat_lt
    by_cases hlt : i < n.toNat
    · match r with
      | [] =>
        have hnone : splitB ⟨(1 :: k :: n :: R).toArray⟩ = none := by
          have h1 := hn'.out
          have h2 := hP.out
          obtain ⟨m, hm⟩ : ∃ m, n.toNat - i = m + 1 := ⟨n.toNat - i - 1, by omega⟩
          rw [h1, h2, hm]; rfl
        clear hn' hP
        go_wp2_with (go_at_call 31; refine (byte_bk_short (rb := w.heap.size + 1) qr).mono ?_)
        rintro e w4 ⟨rfl, rfl⟩
        exact panic_out (x := 0) qe rfl (ReadSays.none_ hnone L (Nat.le_refl _) _)
      | [a] =>
        have hnone : splitB ⟨(1 :: k :: n :: R).toArray⟩ = none := by
          have h1 := hn'.out
          have h2 := hP.out
          obtain ⟨m, hm⟩ : ∃ m, n.toNat - i = m + 1 := ⟨n.toNat - i - 1, by omega⟩
          rw [h1, h2, hm]; rfl
        clear hn' hP
        go_wp2_with (go_at_call 31; refine (byte_bk (rb := w.heap.size + 1) qr).mono ?_)
        rintro e w4 ⟨rfl, q4, hg4⟩
        go_wp2_with (go_at_call 31; refine (byte_bk_short (rb := w.heap.size + 1) q4).mono ?_)
        rintro e w5 ⟨rfl, rfl⟩
        exact panic_out (x := 0) (Bk.grown qe hg4 (by omega)) rfl (ReadSays.none_ hnone (bl_grown L hg4 (by omega)) (Nat.le_refl _) _)
      | a :: b :: r =>
        have ha := a.toNat_lt
        have hb := b.toNat_lt
        go_wp2_with (go_at_call 31; refine (byte_bk (rb := w.heap.size + 1) qr).mono ?_)
        rintro e w4 ⟨rfl, q4, hg4⟩
        go_wp2_with (go_at_call 31; refine (byte_bk (rb := w.heap.size + 1) q4).mono ?_)
        rintro e w5 ⟨rfl, q5, hg5⟩
        have qe5 := Bk.grown (Bk.grown qe hg4 (by omega)) hg5 (by omega)
        have L5 := bl_grown (bl_grown L hg4 (by omega)) hg5 (by omega)
        have hown5 := own_kept (own_kept hown hg4 qr (by decide)) hg5 q4 (by decide)
        clear qe L hown hg4 hg5 q4 qr
        obtain ⟨m, hm⟩ : ∃ m, n.toNat - i = m + 1 := ⟨n.toNat - i - 1, by omega⟩
        have ec : ((a.toNat * 256 + b.toNat : Nat) : Int) = (a.toNat : Int) * 256 + (b.toNat : Int) := by omega
        by_cases h1 : a.toNat * 256 + b.toNat ≤ 4000
        · have hd : ((a.toNat : Int) * 256 + (b.toNat : Int) ≤ 4000) = True := eq_true (by omega)
          by_cases h2 : a.toNat * 256 + b.toNat ≤ r.length
          · have hT := take_bk (n := a.toNat * 256 + b.toNat) q5 h2
            rw [ec] at hT
            have hP' : Hid (parse n.toNat R = (parse m (r.drop (a.toNat * 256 + b.toNat))).map ((acc ++ [⟨(r.take (a.toNat * 256 + b.toNat)).toArray⟩]) ++ ·)) := Lib.hid (by
              rw [hP.out, hm]
              simp only [parse]
              rw [if_pos h1, if_pos h2]
              cases parse m (r.drop (a.toNat * 256 + b.toNat)) <;> simp)
            clear hP ec
            go_wp2_with (first | (go_at_call 30; refine (need_true _).mono ?_; rintro e wn ⟨rfl, rfl⟩) | (go_at_call 32; refine hT.mono ?_))
            rintro e w6 ⟨rfl, q6, hg6⟩
            have qe6 := Bk.grown qe5 hg6 (by omega)
            have L6 := bl_grown L5 hg6 (by omega)
            have hown6 := own_kept hown5 hg6 q5 (by decide)
            clear hT hown5 L5 qe5 q5 hg6 hd
            obtain ⟨i9, hi9, hz9, hs9, hb9⟩ := info9
            go_wp2_with (at_builtin; refine wpList_append_own _ rfl _ _ 22 rfl w.heap.size 9 i9 (.string ⟨#[]⟩) 1 16 undSs hi9 hz9 hs9 hb9 rfl (by decide) _ _ _ rfl (hown6.alloc _) ⟨w6.heap.size, 0, none⟩ 1 1 [.string ⟨(r.take (a.toNat * 256 + b.toNat)).toArray⟩] rfl rfl ?c1 ?c2 ?c3 ?c4 ?c5 ?_)
            case c1 =>
              intro j u hj
              match j, hj with
              | 0, hj => simp at hj; subst hj; simp [Addr.add]
            case c2 => intro u hu; simp at hu; subst hu; rfl
            case c3 => unfold maxLen; omega
            case c4 => omega
            case c5 => have := L6.size; simp; omega
            intro v' w7 hown7 hgrow _
            have qe7 := (qe6.alloc (.cells #[.string ⟨(r.take (a.toNat * 256 + b.toNat)).toArray⟩] 9)).grownO hgrow (own_ne hown6 qe6 (by decide))
            have q7 := (q6.alloc (.cells #[.string ⟨(r.take (a.toNat * 256 + b.toNat)).toArray⟩] 9)).grownO hgrow (own_ne hown6 q6 (by decide))
            have L7 : Below w.heap.size w w7 := (bl_alloc L6 _).grown hgrow (bl_alloc L6 _).size (fun k hk => (hown6.lt k hk).1)
            clear hgrow q6 qe6 L6 hown6
            go_wp2_with fail
            go_roundw
            case rel =>
              refine ⟨i + 1, acc ++ [⟨(r.take (a.toNat * 256 + b.toNat)).toArray⟩], r.drop (a.toNat * 256 + b.toNat), by omega, by go_num, by simp [hacc], ?_, ?_, qe7, q7, L7⟩
              · rw [show n.toNat - (i + 1) = m by omega]; exact hP'
              · simpa [hacc] using hown7
            case measure => simp [intOf]; omega
          · have hT := take_bk_short (n := a.toNat * 256 + b.toNat) q5 (by omega)
            rw [ec] at hT
            have hnone : splitB ⟨(1 :: k :: n :: R).toArray⟩ = none := by
              have g1 := hn'.out
              have g2 := hP.out
              rw [g1, g2, hm]
              simp only [parse]
              rw [if_pos h1, if_neg h2]; rfl
            clear hn' hP
            go_wp2_with (first | (go_at_call 30; refine (need_true _).mono ?_; rintro e wn ⟨rfl, rfl⟩) | (go_at_call 32; refine hT.mono ?_))
            rintro e w6 ⟨rfl, rfl⟩
            exact panic_out (x := 0) qe5 rfl (ReadSays.none_ hnone L5 (Nat.le_refl _) _)
        · have hd : ((a.toNat : Int) * 256 + (b.toNat : Int) ≤ 4000) = False := eq_false (by omega)
          have hnone : splitB ⟨(1 :: k :: n :: R).toArray⟩ = none := by
            have g1 := hn'.out
            have g2 := hP.out
            rw [g1, g2, hm]
            simp only [parse]
            rw [if_neg h1]; rfl
          clear hn' hP
          go_wp2_with (go_at_call 30; refine (need_false _).mono ?_)
          rintro e w6 ⟨rfl, rfl⟩
          exact panic_out (x := 0) qe5 rfl (ReadSays.none_ hnone L5 (Nat.le_refl _) _)
    · obtain rfl : i = n.toNat := by omega
      have h0 : n.toNat - n.toNat = 0 := by omega
      cases r with
      | cons a r =>
        have hnone : splitB ⟨(1 :: k :: n :: R).toArray⟩ = none := by
          have g1 := hn'.out
          have g2 := hP.out
          rw [g1, g2, h0]; rfl
        have heq : (ByteArray.toList ⟨#[]⟩) = [] := by rw [ByteArray.toList_eq]
        clear hn' hP
        have cr := qr.cell 0
        have fr := qr.frozen 0
        go_wp2_with (go_at_call 30; refine (need_false _).mono ?_)
        rintro e w6 ⟨rfl, rfl⟩
        exact panic_out (x := 0) qe rfl (ReadSays.none_ hnone L (Nat.le_refl _) _)
      | nil =>
        have hsome : splitB ⟨(1 :: k :: n :: R).toArray⟩ = some (k.toNat, acc) := by
          have g1 := hn'.out
          have g2 := hP.out
          rw [g1, g2, h0]
          simp [parse]
        have heq : (ByteArray.toList ⟨#[]⟩) = [] := by rw [ByteArray.toList_eq]
        clear hn' hP
        have cr := qr.cell 0
        have ce := qe.cell 0
        have fe := qe.frozen 0
        go_wp2_with (go_at_call 30; refine (need_true _).mono ?_; rintro e wn ⟨rfl, rfl⟩)
        refine return_out (x := 0) (qe.put 0 (.int .i64 0)) rfl ?_
        have hk : ((k.toNat : Int) % 256) = k.toNat := by have := k.toNat_lt; omega
        unfold ReadSays
        rw [hsome]
        exact ⟨bl_put L (Nat.le_refl _) _, _, by simp [hk], own_kept hown (grownBy_set _) qe (by decide)⟩

theorem read_any (s : ByteArray) (w : World) : Calls Try.prog 26 #[.string s] w (ReadSays s w) := by
  obtain ⟨S, rfl⟩ : ∃ S : List UInt8, s = ⟨S.toArray⟩ := ⟨s.data.toList, bytes_ext (by simp)⟩
  by_cases hbig : S.length ≤ 30000
  · match S with
    | [] => exact read_0 w
    | [v] =>
      by_cases hv : v = 1
      · subst hv; exact read_2 w
      · exact read_1 v [] w hbig hv
    | [v, k] =>
      by_cases hv : v = 1
      · subst hv; exact read_3 k w
      · exact read_1 v [k] w hbig hv
    | v :: k :: n :: R =>
      by_cases hv : v = 1
      · subst hv; exact read_all k n R w (by simpa using hbig)
      · exact read_1 v (k :: n :: R) w hbig hv
  · exact read_big S w hbig

/-- What codec.Split says. -/
def SplitSays (s : ByteArray) (w : World) (e : Ending) (w' : World) : Prop :=
  Below w.heap.size w w' ∧ match splitB s with
    | some (k, l) => ∃ v, e = .returned (.tuple #[.int .u8 k, v, .int .i64 0]) ∧ w'.ownsRow w.heap.size 9 1 v l.length (l.map Value.string)
    | none => e = .returned (.tuple #[.int .u8 0, .slice none 0 0, .int .i64 4])

theorem split_any (s : ByteArray) (w : World) : Calls Try.prog 14 #[.string s] w (SplitSays s w) := by
  cases hs : splitB s with
  | none =>
    have hR : Calls Try.prog 26 #[.string s] w fun e w' => Below w.heap.size w w' ∧ ∃ a b, e = .returned (.tuple #[a, b, .int .i64 4]) := by
      have h := read_any s w
      unfold ReadSays at h
      rw [hs] at h
      exact h
    suffices h : Calls Try.prog 14 #[.string s] w fun e w' => Below w.heap.size w w' ∧ e = .returned (.tuple #[.int .u8 0, .slice none 0 0, .int .i64 4]) by
      unfold SplitSays
      rw [hs]
      exact h
    clear hs
    go_enter Try.func14, Try.ntmps14
    go_wp2_with (go_at_call 26; refine hR.mono ?_)
    rintro e w1 ⟨hb, a, b, rfl⟩
    go_wp2
    go_ret3
    exact ⟨hb, rfl⟩
  | some p =>
    obtain ⟨k, l⟩ := p
    have hR : Calls Try.prog 26 #[.string s] w fun e w' => Below w.heap.size w w' ∧ ∃ v, e = .returned (.tuple #[.int .u8 k, v, .int .i64 0]) ∧ w'.ownsRow w.heap.size 9 1 v l.length (l.map Value.string) := by
      have h := read_any s w
      unfold ReadSays at h
      rw [hs] at h
      exact h
    suffices h : Calls Try.prog 14 #[.string s] w fun e w' => Below w.heap.size w w' ∧ ∃ v, e = .returned (.tuple #[.int .u8 k, v, .int .i64 0]) ∧ w'.ownsRow w.heap.size 9 1 v l.length (l.map Value.string) by
      unfold SplitSays
      rw [hs]
      exact h
    clear hs
    go_enter Try.func14, Try.ntmps14
    go_wp2_with (go_at_call 26; refine hR.mono ?_)
    rintro e w1 ⟨hb, v, rfl, ho⟩
    go_wp2
    go_ret3
    exact ⟨hb, v, rfl, ho⟩

end Go.Proofs.Ythajhjipbdpfgaa
