/-
  THE LAW MacroDoes (dactyllaw42): awake: it returns true.
-/
import Derived.Test.YtopmenioioljoaaMacroS
namespace Go.Proofs.Ytopmenioioljoaa.MacroW
open Go.RowKit Go.Proofs.Ytopmenioioljoaa.Base Go.Proofs.YtopmenioioljoaaW.PrintWords Go.Proofs.YtopmenioioljoaaW.PrintLast Go.Proofs.YtopmenioioljoaaW.PrintMore Go.Proofs.Ytopmenioioljoaa.CountW Go.Proofs.Ytopmenioioljoaa.PMacroDoes Go.Proofs.Ytopmenioioljoaa.KeyW

def keyA : S41 := ⟨1, 97, ⟨#[]⟩, false⟩
def keyB : S41 := ⟨7, 0, ⟨#[]⟩, false⟩

set_option maxRecDepth 100000 in
set_option maxHeartbeats 8000000 in
theorem awake29 (w : World) : Calls Try.prog 29 #[] w fun e w' => e = .returned (.bool true) ∧ Below w.heap.size w w' := by
  have e1 : doB true [] 2 ⟨1, 97, ⟨#[]⟩, false⟩ = true := by simp [doB, may, fit, right]
  have f7 : fit 7 0 = true := by kernel_rfl
  have e2 : doB true [keyA] 2 ⟨7, 0, ⟨#[]⟩, false⟩ = true := by simp [doB, may, f7]
  have e3 : doB true [keyA, keyB] 2 ⟨7, 0, ⟨#[]⟩, false⟩ = false := by simp [doB, may]
  have n1 : doN true [] 2 ⟨1, 97, ⟨#[]⟩, false⟩ = [keyA] := by simp only [doN, e1]; rfl
  have n2 : doN true [keyA] 2 ⟨7, 0, ⟨#[]⟩, false⟩ = [keyA, keyB] := by simp only [doN, e2]; rfl
  have n3 : doN true [keyA, keyB] 2 ⟨7, 0, ⟨#[]⟩, false⟩ = [keyA, keyB] := by simp only [doN, e3]; rfl
  have E1 := Lib.hid e1
  have E2 := Lib.hid e2
  have E3 := Lib.hid e3
  have N1 := Lib.hid n1
  have N2 := Lib.hid n2
  have N3 := Lib.hid n3
  clear f7 e1 e2 e3 n1 n2 n3
  go_enter Try.func29, Try.ntmps29
  go_wp2_with fail
  refine (mnew 2 w w (Below.refl _ _) (by decide) (by decide)).mono ?_
  rintro e w1 ⟨rfl, hM1, _⟩
  have M1 := Lib.hid hM1
  clear hM1
  go_wp2_with fail
  refine (mbegin M1.out).mono ?_
  rintro e w2 ⟨rfl, vN2, hM2, _, _⟩
  have M2 := Lib.hid hM2
  clear hM2
  go_wp2_with fail
  refine (mdo M2.out 1 97 ⟨#[]⟩ false (by decide) (by decide)).mono ?_
  rintro e w3 ⟨rfl, vN3, hM3, _, _⟩
  rw [show begS false ([] : List S41) = [] from rfl, N1.out] at hM3
  rw [show begS false ([] : List S41) = [] from rfl, E1.out]
  have M3 := Lib.hid hM3
  clear hM3
  go_wp2_with fail
  refine (mdo M3.out 7 0 ⟨#[]⟩ false (by decide) (by decide)).mono ?_
  rintro e w4 ⟨rfl, vN4, hM4, _, _⟩
  rw [N2.out] at hM4
  rw [E2.out]
  have M4 := Lib.hid hM4
  clear hM4
  go_wp2_with fail
  refine (mdo M4.out 7 0 ⟨#[]⟩ false (by decide) (by decide)).mono ?_
  rintro e w5 ⟨rfl, vN5, hM5, _, _⟩
  rw [N3.out] at hM5
  rw [E3.out]
  have M5 := Lib.hid hM5
  clear hM5
  go_wp2_with fail
  refine (mend M5.out).mono ?_
  rintro e w6 ⟨rfl, vL6, vN6, hM6, _, _, _⟩
  rw [show endS true [] [keyA, keyB] = [keyA, keyB] from rfl] at hM6
  have M6 := Lib.hid hM6
  clear hM6
  go_wp2_with fail
  refine (mplay M6.out 2 (by decide)).mono ?_
  rintro e w7 ⟨v7, rfl, hR7, hb7⟩
  rw [show playf false [keyA, keyB] 2 = ([keyA, keyB, keyA, keyB], 0) from rfl] at hR7 ⊢
  have M7 := Lib.hid (M6.out.below hb7)
  obtain ⟨A7, c7, rfl, hC7, hc7, _⟩ := hR7.form
  obtain ⟨ad, rfl, _, h1, _, _⟩ := at_T41 hC7 2 (by decide) (by decide)
  have h2 : w7.cell? ⟨ad.block, ad.off + 8 + 1, none⟩ = some (.int .i64 97) := h1
  have hc4 : (4 : Nat) ≤ c7 := hc7
  clear hR7 hb7 hC7 hc7 h1
  go_wp2_with (fail)
  refine (mkeys M7.out (by decide)).mono ?_
  rintro e w8 ⟨v8, rfl, hR8, hb8⟩
  have M8 := Lib.hid (M7.out.below hb8)
  obtain ⟨A8, c8, rfl, _⟩ := hR8.form
  clear hR8 hb8
  go_wp2_with fail
  refine (mkeeps M8.out).mono ?_
  rintro e w9 ⟨rfl, rfl⟩
  go_wp2_with fail
  go_ret
  exact ⟨rfl, M8.out.bel⟩

end Go.Proofs.Ytopmenioioljoaa.MacroW
