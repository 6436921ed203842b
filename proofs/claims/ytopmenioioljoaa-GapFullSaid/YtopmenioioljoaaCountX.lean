/-
  THE WALKS OF PACKAGE count, on: Value, Take, Do.
-/
import Derived.Test.YtopmenioioljoaaCountW
namespace Go.Proofs.Ytopmenioioljoaa.CountW
open Go.RowKit Go.Proofs.Ytopmenioioljoaa.Base Go.Proofs.YtopmenioioljoaaW.PrintWords Go.Proofs.YtopmenioioljoaaW.PrintLast Go.Proofs.YtopmenioioljoaaW.PrintMore Go.Proofs.Ytopmenioioljoaa.KeyW

theorem eqA101 (d : Nat) (w : World) (x0 y0 x1 y1 x2 y2 : Bool) (x3 y3 : Int) :
    (Op.equalIn (d + 2) 101 (.agg #[.bool x0, .bool x1, .bool x2, .int .i64 x3]) (.agg #[.bool y0, .bool y1, .bool y2, .int .i64 y3])).run Try.prog w = .ok (x0 == y0 && (x1 == y1 && (x2 == y2 && (x3 == y3)))) w := by
  refine eqA_of Try.underlying101 (by kernel_rfl) ?_
  refine eqf_cons (by rfl) (by go_simp; rfl) (by go_simp; rfl) (by go_simp) ?_
  refine eqf_cons (by rfl) (by go_simp; rfl) (by go_simp; rfl) (by go_simp) ?_
  refine eqf_cons (by rfl) (by go_simp; rfl) (by go_simp; rfl) (by go_simp) ?_
  exact eqf_last (by rfl) (by go_simp; rfl) (by go_simp; rfl) (by go_simp)

theorem cells101 {w : World} {B : Nat} {x : Cn} (h : w.heap[B]? = some x.cells) :
    w.cell? ⟨B, 0, none⟩ = some (.bool x.b) ∧ w.cell? ⟨B, 1, none⟩ = some (.bool x.d) ∧ w.cell? ⟨B, 2, none⟩ = some (.bool x.m) ∧ w.cell? ⟨B, 3, none⟩ = some (.int .i64 x.n) ∧
    w.frozen? ⟨B, 0, none⟩ = false ∧ w.frozen? ⟨B, 1, none⟩ = false ∧ w.frozen? ⟨B, 2, none⟩ = false ∧ w.frozen? ⟨B, 3, none⟩ = false := by
  simp only [Cn.cells] at h
  refine ⟨?_, ?_, ?_, ?_, ?_, ?_, ?_, ?_⟩ <;> simp [World.cell?, World.frozen?, h]

/-- What a count says. -/
def value (x : Cn) : Int × Bool := if x.b = false ∧ x.d = false ∧ x.m = false ∧ x.n = 0 then (1, false) else (if x.m then -(if x.d then x.n else 1) else (if x.d then x.n else 1), true)

attribute [local go_sem high] eqA101

/-- Only block B has changed; what is new lies behind. -/
def Upd (B : Nat) (w w' : World) : Prop := w.grownBy w' (some B)
theorem Upd.refl (B : Nat) (w : World) : Upd B w w := ⟨rfl, rfl, rfl, Nat.le_refl _, fun _ _ _ => rfl⟩
theorem Upd.trans {B : Nat} {a b c : World} (h : Upd B a b) (k : Upd B b c) : Upd B a c :=
  ⟨k.os.trans h.os, k.tape.trans h.tape, k.output.trans h.output, Nat.le_trans h.size k.size, fun i hi hne => (k.block i (Nat.lt_of_lt_of_le hi h.size) hne).trans (h.block i hi hne)⟩
theorem Upd.of_below {B : Nat} {a b : World} (h : Below a.heap.size a b) : Upd B a b := ⟨h.os, h.tape, h.output, h.size, fun i hi _ => h.block i hi⟩
theorem Upd.setCell {B : Nat} {a b : World} (h : Upd B a b) (o : Nat) (u : Value) : Upd B a (b.setCell ⟨B, o, none⟩ u) :=
  h.trans ⟨rfl, rfl, rfl, by simp [World.setCell], fun k _ hne => Below.heap_setCell _ _ _ _ (fun e => hne (by rw [e]))⟩
theorem Upd.below {B : Nat} {w0 a b : World} (h : Upd B a b) (h0 : Below w0.heap.size w0 a) (hB : w0.heap.size ≤ B) : Below w0.heap.size w0 b :=
  h0.grown h h0.size (fun k hk => by cases hk; exact hB)

theorem set_at {w : World} {B o t : Nat} {c : Array Value} {u : Value} (h : w.heap[B]? = some (.cells c t (0, 0))) : (w.setCell ⟨B, o, none⟩ u).heap[B]? = some (.cells (c.setIfInBounds o u) t (0, 0)) := by
  have hlt := lt_of_block h
  have h' : w.heap[B] = .cells c t (0, 0) := by simpa [Array.getElem?_eq_getElem hlt] using h
  show (w.heap.modify B _)[B]? = _
  rw [Array.getElem?_eq_getElem (by simpa using hlt), Array.getElem_modify_self, h']
  rfl

theorem value27 (B : Nat) (x : Cn) (w : World) (h : w.heap[B]? = some x.cells) (h0 : 0 ≤ x.n) (h1 : x.n ≤ 9999) :
    Calls Try.prog 27 #[.pointer (some ⟨B, 0, none⟩)] w fun e w' => e = .returned (.tuple #[.int .i64 (value x).1, .bool (value x).2]) ∧ w = w' := by
  obtain ⟨c0, c1, c2, c3, _, _, _, _⟩ := cells101 h
  obtain ⟨b, d, m, n⟩ := x
  have H := Lib.hid h
  clear h
  go_enter Try.func27, Try.ntmps27
  go_wp2
  all_goals
    go_ret2
    refine ⟨?_, rfl⟩
    (simp_all [value]) <;> first | (unfold wrap64; omega) | (split <;> simp_all)

theorem value_nil (w : World) : Calls Try.prog 27 #[.pointer none] w fun e w' => e = .returned (.tuple #[.int .i64 1, .bool false]) ∧ w = w' := by
  go_enter Try.func27, Try.ntmps27
  go_wp2
  go_ret2
  exact ⟨rfl, rfl⟩
theorem take_nil (w : World) : Calls Try.prog 28 #[.pointer none] w fun e w' => e = .returned (.tuple #[.int .i64 1, .bool false]) ∧ w = w' := by
  go_enter Try.func28, Try.ntmps28
  go_wp2_with (go_at_call 27; refine (value_nil _).mono ?_; rintro e w' ⟨rfl, rfl⟩)
  go_ret2
  exact ⟨rfl, rfl⟩

theorem value_none {x : Cn} (h : (value x).2 = false) : x = zero := by
  obtain ⟨b, d, m, n⟩ := x
  unfold value at h
  split at h
  · rename_i h'; obtain ⟨h1, h2, h3, h4⟩ := h'; simp only at h1 h2 h3 h4; subst h1 h2 h3 h4; rfl
  · simp at h

theorem take28 (B : Nat) (x : Cn) (w : World) (h : w.heap[B]? = some x.cells) (h0 : 0 ≤ x.n) (h1 : x.n ≤ 9999) :
    Calls Try.prog 28 #[.pointer (some ⟨B, 0, none⟩)] w fun e w' => e = .returned (.tuple #[.int .i64 (value x).1, .bool (value x).2]) ∧ w'.heap[B]? = some zero.cells ∧ Upd B w w' := by
  obtain ⟨c0, c1, c2, c3, f0, f1, f2, f3⟩ := cells101 h
  have H := Lib.hid h
  have hv := fun w (h : w.heap[B]? = some x.cells) => value27 B x w h h0 h1
  obtain ⟨r, hr⟩ : ∃ r, value x = r := ⟨_, rfl⟩
  have HR := Lib.hid hr
  rw [hr] at hv ⊢
  obtain ⟨r1, r2⟩ := r
  have HV := Lib.hid hv
  clear h hv hr
  cases r2 with
  | true =>
    go_enter Try.func28, Try.ntmps28
    go_wp2_with (go_at_call 27; refine (HV.out _ H.out).mono ?_; rintro e w' ⟨rfl, rfl⟩)
    go_ret2
    refine ⟨rfl, ?_, ((((Upd.refl _ _).setCell _ _).setCell _ _).setCell _ _).setCell _ _⟩
    rw [set_at (set_at (set_at (set_at H.out)))]; rfl
  | false =>
    go_enter Try.func28, Try.ntmps28
    go_wp2_with (go_at_call 27; refine (HV.out _ H.out).mono ?_; rintro e w' ⟨rfl, rfl⟩)
    go_ret2
    refine ⟨rfl, ?_, Upd.refl _ _⟩
    rw [H.out, value_none (x := x) (by rw [HR.out])]

end Go.Proofs.Ytopmenioioljoaa.CountW
