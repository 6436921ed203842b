/-
  THE LAW OF num's OPENING (awake of dactyllaw01): it returns true.
-/
import Derived.Test.YtopmenioioljoaaNumW
import Derived.Test.YtopmenioioljoaaBase
namespace Go.Proofs.Ytopmenioioljoaa.NumW
open Go.RowKit Go.Proofs.Ytopmenioioljoaa.NumA Go.Proofs.Ytopmenioioljoaa.Base

theorem dec_m12 : dec (-12) = [45, 49, 50] := by
  have h : digs 10 1 12 = [49, 50] := by
    rw [digs_step (by omega) (by omega), digs_step (by omega) (by omega)]
    simp only [Nat.reduceDiv, Nat.reduceMod, Nat.reduceSub]
    rw [digs_nil]; decide
  simp only [dec]
  rw [if_pos (by omega)]
  exact congrArg _ h
theorem hex_173 : hex 173 4 = [48, 48, 65, 68] := by
  have h : digs 16 4 173 = [48, 48, 65, 68] := by
    rw [digs_step (by omega) (by omega), digs_step (by omega) (by omega), digs_step (by omega) (by omega), digs_step (by omega) (by omega)]
    simp only [Nat.reduceDiv, Nat.reduceMod, Nat.reduceSub]
    rw [digs_nil]; decide
  simp only [hex]
  rw [if_neg (by omega)]
  exact h

theorem aw13 (w : World) : Calls Try.prog 13 #[.string ⟨#[45, 49, 50]⟩] w fun e w' => e = .returned (.tuple #[.int .i64 (-12), .int .i64 0]) ∧ Below w.heap.size w w' := by
  have h := undec13 ⟨#[45, 49, 50]⟩ w (by decide)
  have e : undec [45, 49, 50] = (-12, 0) := by rw [← dec_m12]; exact undec_dec _ (by omega) (by omega)
  exact h.mono fun _ _ ⟨he, hb⟩ => ⟨by rw [he]; show Ending.returned (.tuple #[.int .i64 (undec [45, 49, 50]).1, .int .i64 (undec [45, 49, 50]).2]) = _; rw [e], hb⟩
theorem aw19 (w : World) : Calls Try.prog 19 #[.string ⟨#[48, 48, 65, 68]⟩] w fun e w' => e = .returned (.tuple #[.int .i64 173, .int .i64 0]) ∧ w = w' := by
  have h := unhex19 ⟨#[48, 48, 65, 68]⟩ w
  have e : unhex [48, 48, 65, 68] = (173, 0) := by decide
  exact h.mono fun _ _ ⟨he, hb⟩ => ⟨by rw [he]; show Ending.returned (.tuple #[.int .i64 (unhex [48, 48, 65, 68]).1, .int .i64 (unhex [48, 48, 65, 68]).2]) = _; rw [e], hb.symm⟩
theorem aw12 (w : World) : Calls Try.prog 12 #[.int .i64 (-12)] w fun e w' => e = .returned (.string ⟨#[45, 49, 50]⟩) ∧ Below w.heap.size w w' := by
  have h := dec12 (-12) w (by omega) (by omega)
  rw [dec_m12] at h
  exact h
theorem aw15 (w : World) : Calls Try.prog 15 #[.int .i64 173, .int .i64 4] w fun e w' => e = .returned (.string ⟨#[48, 48, 65, 68]⟩) ∧ Below w.heap.size w w' := by
  have h := hex15 173 4 w (by omega) (by omega) (by omega) (by omega)
  rw [hex_173] at h
  exact h

theorem awake11 (w : World) : Calls Try.prog 11 #[] w fun e w' => e = .returned (.bool true) ∧ Below w.heap.size w w' := by
  go_enter Try.func11, Try.ntmps11
  go_wp2_with fail
  refine (aw13 _).mono ?_
  rintro e w1 ⟨rfl, hb1⟩
  go_wp2_with fail
  refine (aw19 _).mono ?_
  rintro e w2 ⟨rfl, rfl⟩
  go_wp2_with fail
  refine (aw12 _).mono ?_
  rintro e w2 ⟨rfl, hb2⟩
  go_wp2_with fail
  refine (aw15 _).mono ?_
  rintro e w3 ⟨rfl, hb3⟩
  go_wp2
  go_ret
  exact ⟨rfl, btr hb1 (btr hb2 hb3)⟩

end Go.Proofs.Ytopmenioioljoaa.NumW
