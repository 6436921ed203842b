/-
  THE REFERENCE's May (dactylref13): it tells whether a key may be, as key.Check does.
-/
import Derived.Test.YtopmenioioljoaaKey
namespace Go.Proofs.Ytopmenioioljoaa.KeyW
open Go.RowKit Go.Proofs.Ytopmenioioljoaa.Base Go.Proofs.YtopmenioioljoaaW.PrintWords Go.Proofs.Ytopmenioioljoaa.PMacroDoes

theorem named_eq (k v : Int) : named k v = decide (k = 4 ∧ (v = 13 ∨ v = 10) ∨ 5 ≤ k ∧ k ≤ 13 ∧ v = 0 ∨ k = 14 ∧ (v = 0 ∨ v = 1)) := by
  rw [Bool.eq_iff_iff]
  simp only [named, tbl, hit, List.any_cons, List.any_nil, Bool.or_eq_true, Bool.and_eq_true, beq_iff_eq, decide_eq_true_eq, Bool.false_eq_true, or_false]
  omega

theorem rright_f (v : Int) : dactylref02_Right.f v = some (right v) := by
  unfold dactylref02_Right.f right
  repeat' split
  all_goals
    refine congrArg some ?_
    simp only [eq_comm (a := true), eq_comm (a := false), decide_eq_true_eq, decide_eq_false_iff_not, decide_eq_decide]
    omega

theorem rctl_f (v : Int) : dactylref13_Control.f v = some (ctl v) := by
  unfold dactylref13_Control.f ctl
  repeat' split
  all_goals
    refine congrArg some ?_
    rw [Bool.eq_iff_iff]
    simp only [bne_iff_ne, decide_eq_true_eq, Bool.false_eq_true, false_iff]
    omega

theorem rmay_f (k v : Int) (t : ByteArray) (c : Bool) : dactylref13_May.f 5 k v t c = some (may k v t c) := by
  have j0 : ∀ b : Bool, k ≠ 15 → dactylref13_May.j0 5 b k v t c = some (if b then false else fit k v) := by
    intro b hk
    simp only [dactylref13_May.j0]
    cases b with
    | true => rfl
    | false =>
      simp only [Bool.false_eq_true, if_false, rright_f, rctl_f, Option.bind_some]
      unfold fit
      rw [named_eq]
      by_cases h1 : k = 1
      · rw [if_pos h1, if_pos h1]
        repeat' split
        all_goals
          refine congrArg some ?_
          rw [Bool.eq_iff_iff]
          simp only [Bool.and_eq_true, decide_eq_true_eq, Bool.false_eq_true]
          first | omega | (constructor <;> intro h <;> first | exact h.elim | exact ⟨⟨h, by omega⟩, by omega⟩ | exact h.1.1 | (exfalso; have h8 := h.1.2; have h9 := h.2; omega))
      · rw [if_neg h1, if_neg h1]
        by_cases h2 : k = 2
        · rw [if_pos h2, if_pos h2]
        · rw [if_neg h2, if_neg h2]
          by_cases h3 : k = 3
          · rw [if_pos h3, if_pos h3]
            cases ctl v with
            | true => rfl
            | false =>
              simp only [Bool.false_eq_true, if_false, Bool.false_or]
              split
              · exact congrArg some (by rw [decide_eq_decide]; omega)
              · exact congrArg some (by rw [eq_comm, decide_eq_false_iff_not]; omega)
          · rw [if_neg h3, if_neg h3]
            repeat' split
            all_goals
              refine congrArg some ?_
              rw [Bool.eq_iff_iff]
              simp only [beq_iff_eq, decide_eq_true_eq, Bool.false_eq_true, false_iff, true_iff]
              omega
  unfold dactylref13_May.f may
  by_cases h15 : k = 15
  · rw [if_pos h15, if_pos h15]
    split
    · exact congrArg some (by rw [decide_eq_decide]; omega)
    · exact congrArg some (by rw [eq_comm, decide_eq_false_iff_not]; omega)
  · rw [if_neg h15, if_neg h15, j0 _ h15, j0 _ h15]
    by_cases ht : t.toList = []
    · rw [if_pos ht, ht]
      cases c <;> simp
    · rw [if_neg ht]
      simp [ht]

theorem rmay24 (k v : Int) (t : ByteArray) (c : Bool) (w : World) :
    Calls Try.prog 24 #[.agg #[.int .i64 k, .int .i64 v, .string t, .bool c]] w fun e w' => e = .returned (.bool (may k v t c)) ∧ Below w.heap.size w w' :=
  dactylref13_May.calls 5 k v t c _ w (rmay_f k v t c)

end Go.Proofs.Ytopmenioioljoaa.KeyW
