/-
  THE REFERENCE'S MACRO (dactylref42): what its calls do to its rows; both macros side by side.
-/
import Derived.Test.YtopmenioioljoaaMacroR
namespace Go.Proofs.Ytopmenioioljoaa.MacroW
open Go.RowKit Go.Proofs.Ytopmenioioljoaa.Base Go.Proofs.YtopmenioioljoaaW.PrintWords Go.Proofs.YtopmenioioljoaaW.PrintLast Go.Proofs.YtopmenioioljoaaW.PrintMore Go.Proofs.Ytopmenioioljoaa.CountW Go.Proofs.Ytopmenioioljoaa.PMacroDoes Go.Proofs.Ytopmenioioljoaa.KeyW

theorem Row.own {w : World} {base : Nat} {v : Value} {xs : List S41} (h : Row w base v xs) : Kd.R k41 41 w base (fun j => v.ownBlock = some j) v xs :=
  ⟨fun _ hk => hk, h.r.2.imp_ (fun _ _ hp => by
    obtain rfl := k41_openM hp
    exact k41_mkM _ _ _ _)⟩
theorem Row.of {w : World} {base : Nat} {ok : Nat → Prop} {v : Value} {xs : List S41} (h : Kd.R k41 41 w base ok v xs) : Row w base v xs := ⟨Kd.R_mono h (fun _ _ => trivial)⟩

/-- A value's block is one of two others', or new. -/
def From (n : Nat) (a b v : Value) : Prop := ∀ j, v.ownBlock = some j → a.ownBlock = some j ∨ b.ownBlock = some j ∨ n ≤ j

/-- What a reference's call answers: two rows. -/
structure Two (w0 w w' : World) (a b v0 v1 : Value) (L N : List S41) : Prop where
  r0 : Row w' w0.heap.size v0 L
  r1 : Row w' w0.heap.size v1 N
  ap : Ap v0 v1
  f0 : From w.heap.size a b v0
  f1 : From w.heap.size a b v1
  bel : Below w0.heap.size w0 w'
  kept : Kept w w' (fun j => a.ownBlock = some j ∨ b.ownBlock = some j)

/-- What Turn leaves. -/
def turnL (b : Bool) (L N : List S41) : List S41 := if b = true ∧ 0 < N.length then N else L
theorem turn_f (L N : List S41) (b : Bool) : dactylref42_M_Turn.f L N b = some (turnL b L N, [], !b) := by
  unfold dactylref42_M_Turn.f turnL
  cases b with
  | false => simp
  | true =>
    by_cases h : 0 < N.length
    · simp [h]
    · have h0 : N = [] := List.length_eq_zero_iff.mp (by omega)
      simp [h0]

theorem rturn {w0 w : World} {a b : Value} {L N : List S41} (k : Bool) (hB : Below w0.heap.size w0 w) (h0 : Row w w0.heap.size a L) (h1 : Row w w0.heap.size b N) (hap : Ap a b) :
    Calls Try.prog 32 #[.agg #[a, b, .bool k]] w fun e w' => ∃ v0 v1, e = .returned (.agg #[v0, v1, .bool (!k)]) ∧ Two w0 w w' a b v0 v1 (turnL k L N) [] :=
  (dactylref42_M_Turn.calls (fun j => a.ownBlock = some j) a L (fun j => b.ownBlock = some j) b N k _ _ _ w0 w hB h0.own (fun j ha hb => hap j ha hb) h1.own (fun j hb ha => hap j ha hb) (turn_f L N k)).mono (by
    rintro e w' ⟨v0, v1, rfl, hr0, hr1, hb, hk⟩
    refine ⟨v0, v1, rfl, ⟨.of hr0, .of hr1, fun j hj he => (hr0.1 j hj).2 he.symm, fun j hj => ?_, fun j hj => ?_, hb, hk⟩⟩
    · exact (hr0.1 j hj).1.elim (fun h => h.elim .inl (fun h => .inr (.inl h))) (fun h => .inr (.inr h))
    · exact (hr1.1 j hj).1.elim (fun h => h.elim .inl (fun h => .inr (.inl h))) (fun h => .inr (.inr h)))

theorem do_f (L N : List S41) (b : Bool) (k v : Int) (t : ByteArray) (c : Bool) (most : Int) (hN : N.length ≤ 1000000) :
    dactylref42_M_Do.f 5 L N b k v t c most = some (L, doN b N most ⟨k, v, t, c⟩, b, doB b N most ⟨k, v, t, c⟩) := by
  cases b with
  | false => simp [dactylref42_M_Do.f, doN, doB]
  | true =>
    simp only [dactylref42_M_Do.f, rmay_f]
    cases hm : may k v t c with
    | false => simp [doN, doB, hm]
    | true =>
      by_cases hl : (N.length : Int) < most
      · simp only [if_true]
        rw [Option.bind_some, if_pos rfl, if_neg (by omega)]
        rw [Option.bind_some, if_pos (by simp; omega), Option.bind_some, Option.bind_some, if_pos (by simp; omega)]
        simp [doN, doB, hm, hl]
      · simp only [if_true]
        rw [Option.bind_some, if_pos rfl, if_pos (by omega)]
        simp [doN, doB, hm, hl]

theorem rdo {w0 w : World} {a b : Value} {L N : List S41} (kp : Bool) (hB : Below w0.heap.size w0 w) (h0 : Row w w0.heap.size a L) (h1 : Row w w0.heap.size b N) (hap : Ap a b) (k v : Int) (t : ByteArray) (c : Bool) (most : Int) (hN : N.length ≤ 1000000) :
    Calls Try.prog 33 #[.agg #[a, b, .bool kp], .agg #[.int .i64 k, .int .i64 v, .string t, .bool c], .int .i64 most] w fun e w' => ∃ v0 v1, e = .returned (.tuple #[.agg #[v0, v1, .bool kp], .bool (doB kp N most ⟨k, v, t, c⟩)]) ∧ Two w0 w w' a b v0 v1 L (doN kp N most ⟨k, v, t, c⟩) :=
  (dactylref42_M_Do.calls 5 (fun j => a.ownBlock = some j) a L (fun j => b.ownBlock = some j) b N kp k v t c most _ _ _ _ w0 w hB h0.own (fun j ha hb => hap j ha hb) h1.own (fun j hb ha => hap j ha hb) (do_f L N kp k v t c most hN)).mono (by
    rintro e w' ⟨v0, v1, rfl, hr0, hr1, hb, hk⟩
    refine ⟨v0, v1, rfl, ⟨.of hr0, .of hr1, fun j hj he => (hr0.1 j hj).2 he.symm, fun j hj => ?_, fun j hj => ?_, hb, hk⟩⟩
    · exact (hr0.1 j hj).1.elim (fun h => h.elim .inl (fun h => .inr (.inl h))) (fun h => .inr (.inr h))
    · exact (hr1.1 j hj).1.elim (fun h => h.elim .inl (fun h => .inr (.inl h))) (fun h => .inr (.inr h)))

theorem rplay {w : World} {b0 b1 : Nat} {a b : Value} {L N : List S41} (kp : Bool) (h0 : Row w b0 a L) (h1 : Row w b1 b N) (n : Int) (hL : L.length ≤ 1000000) :
    Calls Try.prog 36 #[.agg #[a, b, .bool kp], .int .i64 n] w fun e w' => ∃ v0, e = .returned (.tuple #[v0, .int .i64 (playf kp L n).2]) ∧ Row w' w.heap.size v0 (playf kp L n).1 ∧ Below w.heap.size w w' := by
  obtain ⟨A1, c1, rfl, hC1, hc1, _⟩ := h0.form
  obtain ⟨A2, c2, rfl, hC2, hc2, _⟩ := h1.form
  obtain ⟨K, hK⟩ := play_f L N kp n hL
  refine (dactylref42_M_Play.calls K A1 c1 L A2 c2 N kp n (playf kp L n).1 (playf kp L n).2 w hC1 hc1 hC2 hc2 hK).mono ?_
  rintro e w' ⟨v0, rfl, hr, hb⟩
  exact ⟨v0, rfl, ⟨hr⟩, hb⟩

end Go.Proofs.Ytopmenioioljoaa.MacroW
