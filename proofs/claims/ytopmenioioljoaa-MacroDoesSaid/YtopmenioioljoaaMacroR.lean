/-
  THE REFERENCE'S MACRO (dactylref42): its state, its calls; the reference's Same (dactylref13).
-/
import Derived.Test.YtopmenioioljoaaMacroS
import Derived.Test.YtopmenioioljoaaMay
import Derived.Test.YtopmenioioljoaaPMacroDoesx2
import Derived.Test.YtopmenioioljoaaPMacroDoesx4
import Derived.Test.YtopmenioioljoaaPMacroDoesx5
namespace Go.Proofs.Ytopmenioioljoaa.MacroW
open Go.RowKit Go.Proofs.Ytopmenioioljoaa.Base Go.Proofs.YtopmenioioljoaaW.PrintWords Go.Proofs.YtopmenioioljoaaW.PrintLast Go.Proofs.YtopmenioioljoaaW.PrintMore Go.Proofs.Ytopmenioioljoaa.CountW Go.Proofs.Ytopmenioioljoaa.PMacroDoes Go.Proofs.Ytopmenioioljoaa.KeyW

theorem w64 {x : Int} (h0 : -9223372036854775808 ≤ x) (h1 : x ≤ 9223372036854775807) : wrap64 x = x := by unfold wrap64; omega

/-! ### Same -/
theorem same_l (xs : List S41) (hx : xs.length ≤ 1000000) : ∀ d i : Nat, i + d = xs.length → dactylref13_Same.l0 (d + 1) xs xs (i : Int) = some true
  | 0, i, h => by
    unfold dactylref13_Same.l0
    rw [if_neg (by omega)]
  | d + 1, i, h => by
    unfold dactylref13_Same.l0
    rw [if_pos (by omega), if_pos (by omega), if_pos (by omega), if_neg (by simp), w64 (by omega) (by omega)]
    exact same_l xs hx d (i + 1) (by omega)
theorem same_f (xs : List S41) (hx : xs.length ≤ 1000000) : dactylref13_Same.f (xs.length + 1) xs xs = some true := by
  unfold dactylref13_Same.f
  rw [if_pos rfl]
  exact same_l xs hx xs.length 0 (by omega)

theorem rsame {w : World} {b1 b2 : Nat} {v1 v2 : Value} {xs : List S41} (h1 : Row w b1 v1 xs) (h2 : Row w b2 v2 xs) (hx : xs.length ≤ 1000000) :
    Calls Try.prog 38 #[v1, v2] w fun e w' => e = .returned (.bool true) ∧ Below w.heap.size w w' := by
  obtain ⟨A1, c1, rfl, hC1, hc1, _⟩ := h1.form
  obtain ⟨A2, c2, rfl, hC2, hc2, _⟩ := h2.form
  refine (dactylref13_Same.calls (xs.length + 1) A1 c1 xs A2 c2 xs true w hC1 hc1 hC2 hc2 (same_f xs hx)).mono ?_
  rintro e w' ⟨rfl, hd⟩
  exact ⟨rfl, hd.below⟩

/-! ### Play -/
theorem flat_get {α : Type} (l : List α) : ∀ n i : Nat, i < n * l.length → (List.replicate n l).flatten[i]? = l[i % l.length]?
  | 0, i, h => by simp at h
  | n + 1, i, h => by
    rw [List.replicate_succ, List.flatten_cons]
    by_cases hi : i < l.length
    · rw [List.getElem?_append_left hi, Nat.mod_eq_of_lt hi]
    · rw [Nat.succ_mul] at h
      rw [List.getElem?_append_right (by omega), flat_get l n (i - l.length) (by omega), ← Nat.mod_eq_sub_mod (by omega)]
theorem flat_len {α : Type} (l : List α) (n : Nat) : (List.replicate n l).flatten.length = n * l.length := by simp [List.length_flatten]

theorem play_l (l N : List S41) (b : Bool) (n : Nat) (hl : 0 < l.length) (hT : n * l.length ≤ 9999) : ∀ d i : Nat, i + d = n * l.length → dactylref42_M_Play.l0 (d + 1) n ((List.replicate n l).flatten.take i) i l N b = some ((List.replicate n l).flatten, 0)
  | 0, i, h => by
    have hw : wrap64 ((n : Int) * (l.length : Int)) = ((n * l.length : Nat) : Int) := by rw [w64 (by rw [← Int.natCast_mul]; omega) (by rw [← Int.natCast_mul]; omega), Int.natCast_mul]
    unfold dactylref42_M_Play.l0
    rw [hw, if_neg (by omega), List.take_of_length_le (by rw [flat_len]; omega)]
  | d + 1, i, h => by
    have hw : wrap64 ((n : Int) * (l.length : Int)) = ((n * l.length : Nat) : Int) := by rw [w64 (by rw [← Int.natCast_mul]; omega) (by rw [← Int.natCast_mul]; omega), Int.natCast_mul]
    have ht : Int.tmod (i : Int) (l.length : Int) = ((i % l.length : Nat) : Int) := rfl
    have hlt : i % l.length < l.length := Nat.mod_lt _ hl
    have hg := flat_get l n i (by omega)
    have hrd : rd_T41 l ((i % l.length : Nat) : Int) = l[i % l.length] := by
      rw [rd_T41, Int.toNat_natCast, List.getD_eq_getElem?_getD, List.getElem?_eq_getElem hlt]; rfl
    have hlen : ((List.replicate n l).flatten.take i).length < 3518437208883 := by rw [List.length_take, flat_len]; omega
    unfold dactylref42_M_Play.l0
    rw [hw, if_pos (by omega), if_neg (by omega), ht, if_pos (by omega), if_pos (by omega), if_pos hlen, hrd, w64 (by omega) (by omega)]
    have hst : (List.replicate n l).flatten.take i ++ [(⟨(l[i % l.length]).f0, (l[i % l.length]).f1, (l[i % l.length]).f2, (l[i % l.length]).f3⟩ : S41)] = (List.replicate n l).flatten.take (i + 1) := by
      rw [List.take_add_one, hg, List.getElem?_eq_getElem hlt]; rfl
    rw [hst]
    exact play_l l N b n hl hT d (i + 1) (by omega)

theorem play_f (L N : List S41) (b : Bool) (n : Int) (hL : L.length ≤ 1000000) : ∃ K, dactylref42_M_Play.f K L N b n = some (playf b L n) := by
  cases b with
  | true => exact ⟨0, by simp [dactylref42_M_Play.f, playf]⟩
  | false =>
    by_cases h0 : L.length = 0
    · exact ⟨0, by simp [dactylref42_M_Play.f, playf, h0]⟩
    · by_cases h1 : n < 1
      · exact ⟨0, by simp [dactylref42_M_Play.f, playf, h0, h1]⟩
      · obtain ⟨m, rfl⟩ := Int.eq_ofNat_of_zero_le (show 0 ≤ n by omega)
        have hdiv : (9999 : Int) / (L.length : Int) = ((9999 / L.length : Nat) : Int) := by simp
        have hiff : (9999 / L.length < m) ↔ 9999 < m * L.length := Nat.div_lt_iff_lt_mul (by omega)
        by_cases h2 : (9999 : Int) < m
        · have h3 : (9999 : Int) / (L.length : Int) < m := by
            rw [hdiv]
            have : 9999 / L.length ≤ 9999 := Nat.div_le_self _ _
            omega
          refine ⟨1, ?_⟩
          simp only [dactylref42_M_Play.f, playf]
          rw [if_neg (by simp), if_neg (by omega), if_neg h1, if_pos (by omega), if_neg (by simp), if_neg h0, if_neg h1, if_pos h3]
          simp [dactylref42_M_Play.j0]
        · have hmul : (m : Int) * (L.length : Int) = ((m * L.length : Nat) : Int) := (Int.natCast_mul _ _).symm
          have hbd : m * L.length ≤ 9999 * 1000000 := Nat.mul_le_mul (by omega) hL
          have hw : wrap64 ((m : Int) * (L.length : Int)) = ((m * L.length : Nat) : Int) := by rw [hmul]; exact w64 (by omega) (by omega)
          by_cases h3 : 9999 < m * L.length
          · have h4 : (9999 : Int) / (L.length : Int) < m := by rw [hdiv]; have := hiff.2 h3; omega
            refine ⟨1, ?_⟩
            simp only [dactylref42_M_Play.f, playf]
            rw [if_neg (by simp), if_neg (by omega), if_neg h1, if_neg (by omega), if_neg (by simp), if_neg h0, if_neg h1, if_pos h4, hw, decide_eq_true (show ((m * L.length : Nat) : Int) > 9999 by omega)]
            simp [dactylref42_M_Play.j0]
          · have h4 : ¬ (9999 : Int) / (L.length : Int) < m := by
              rw [hdiv]; intro h; exact h3 (hiff.1 (by omega))
            refine ⟨m * L.length + 2, ?_⟩
            simp only [dactylref42_M_Play.f, playf]
            rw [if_neg (by simp), if_neg (by omega), if_neg h1, if_neg (by omega), if_neg (by simp), if_neg h0, if_neg h1, if_neg h4, hw, decide_eq_false (show ¬ ((m * L.length : Nat) : Int) > 9999 by omega)]
            have h5 := play_l L N false m (by omega) (by omega) (m * L.length) 0 (by omega)
            simp only [dactylref42_M_Play.j0]
            rw [if_neg (by simp)]
            simpa using h5

end Go.Proofs.Ytopmenioioljoaa.MacroW
