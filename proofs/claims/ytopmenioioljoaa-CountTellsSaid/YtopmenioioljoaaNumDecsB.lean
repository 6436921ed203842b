/-
  THE REFERENCE's Dec (dactylref01): it returns a number's digits.
-/
import Derived.Test.YtopmenioioljoaaNumLaw
import Derived.Test.YtopmenioioljoaaPNumDecsx1
namespace Go.Proofs.Ytopmenioioljoaa.NumW
open Go.RowKit Go.Proofs.Ytopmenioioljoaa.NumA Go.Proofs.Ytopmenioioljoaa.Base

theorem wrap64_in {n : Int} (h0 : -9223372036854775808 ≤ n) (h1 : n ≤ 9223372036854775807) : wrap64 n = n := by unfold wrap64; omega

theorem digit_f (d : Nat) (h : d < 16) : PNumDecs.dactylref01_Digit.f (d : Int) = some (str [dg d]) := by
  have hx0 : ∀ d : Nat, d < 16 → ((⟨#[48, 49, 50, 51, 52, 53, 54, 55, 56, 57, 65, 66, 67, 68, 69, 70]⟩ : ByteArray).extract d (d + 1)).data = (str [dg d]).data := by decide
  unfold PNumDecs.dactylref01_Digit.f
  rw [wrap64_in (by omega) (by omega), if_pos (by omega), if_pos (by omega), if_pos (by omega), show ((d : Int)).toNat = d from by omega, show ((d : Int) + 1).toNat = d + 1 from by omega]
  exact congrArg some (ByteArray.ext (hx0 d h))

theorem dec_small {n : Int} (h0 : 0 ≤ n) (h1 : n < 10) : dec n = [dg n.natAbs] := by
  unfold dec
  rw [if_neg (by omega), digs_step (by omega) (by omega), Nat.div_eq_of_lt (by omega), digs_nil, Nat.mod_eq_of_lt (by omega)]
  rfl
theorem dec_small_neg {n : Int} (h0 : n < 0) (h1 : -10 < n) : dec n = [45] ++ [dg n.natAbs] := by
  unfold dec
  rw [if_pos (by omega), digs_step (by omega) (by omega), Nat.div_eq_of_lt (by omega), digs_nil, Nat.mod_eq_of_lt (by omega)]
  rfl
theorem digs10 {u : Nat} (h : 10 ≤ u) : digs 10 1 u = digs 10 1 (u / 10) ++ [dg (u % 10)] := by
  have e : digs 10 0 (u / 10) = digs 10 1 (u / 10) := by rw [digs_step (least := 0) (by omega) (by omega), digs_step (least := 1) (by omega) (by omega)]
  rw [digs_step (by omega) (by omega), ← e]
theorem dec_great {n : Int} (h1 : 10 ≤ n) : dec n = dec (n.tdiv 10) ++ [dg (n.natAbs % 10)] := by
  have e : (n.tdiv 10).natAbs = n.natAbs / 10 := by rw [Int.tdiv_eq_ediv_of_nonneg (by omega)]; omega
  have e2 : ¬ n.tdiv 10 < 0 := by rw [Int.tdiv_eq_ediv_of_nonneg (by omega)]; omega
  unfold dec
  rw [if_neg (by omega), if_neg e2, e, digs10 (by omega)]
theorem tdiv_neg {n : Int} (h : n < 0) : n.tdiv 10 = -((-n) / 10) := by
  rw [← Int.tdiv_eq_ediv_of_nonneg (by omega : 0 ≤ -n), Int.neg_tdiv, Int.neg_neg]
theorem tmod_neg {n : Int} (h : n < 0) : n.tmod 10 = -((-n) % 10) := by
  rw [← Int.tmod_eq_emod_of_nonneg (by omega : 0 ≤ -n), Int.neg_tmod, Int.neg_neg]
theorem dec_great_neg {n : Int} (h1 : n ≤ -10) : dec n = dec (n.tdiv 10) ++ [dg (n.natAbs % 10)] := by
  have e : (n.tdiv 10).natAbs = n.natAbs / 10 := by rw [tdiv_neg (by omega)]; omega
  have e2 : n.tdiv 10 < 0 := by rw [tdiv_neg (by omega)]; omega
  unfold dec
  rw [if_pos (by omega), if_pos e2, e, digs10 (by omega)]
  rfl

theorem dec_len (n : Int) (h0 : -9223372036854775808 ≤ n) (h1 : n ≤ 9223372036854775807) : (dec n).length ≤ 21 := by
  have := digs_len_le (b := 10) (by omega) 20 1 n.natAbs (by omega) (by omega)
  unfold dec
  split <;> simp <;> omega

theorem dec_f : ∀ (m : Nat) (n : Int), n.natAbs ≤ m → -9223372036854775808 ≤ n → n ≤ 9223372036854775807 → ∃ k, PNumDecs.dactylref01_Dec.f k n = some (str (dec n)) := by
  intro m
  induction m with
  | zero =>
    intro n hm h0 h1
    obtain rfl : n = 0 := by omega
    refine ⟨2, ?_⟩
    rw [dec_small (by omega) (by omega)]
    simp only [PNumDecs.dactylref01_Dec.f]
    rw [if_neg (by omega)]
    simp only [PNumDecs.dactylref01_Dec.j0]
    rw [if_neg (by decide), if_neg (by omega), if_pos (by omega)]
    rw [show (0 : Int) = ((0 : Nat) : Int) from rfl, digit_f 0 (by omega)]; rfl
  | succ m ih =>
    intro n hm h0 h1
    by_cases hn : n < 0
    · by_cases hs : -10 < n
      · refine ⟨2, ?_⟩
        rw [dec_small_neg hn hs]
        simp only [PNumDecs.dactylref01_Dec.f]
        rw [if_pos hn]
        simp only [PNumDecs.dactylref01_Dec.j0]
        rw [if_pos (by simpa using hs), wrap64_in (by omega) (by omega), show -n = ((n.natAbs : Nat) : Int) from by omega, digit_f _ (by omega)]
        simp only [Option.bind_some, str_size, List.length_cons, List.length_nil]
        rw [if_pos (by omega), ← str_append]; rfl
      · have hd := tdiv_neg hn
        have hmd := tmod_neg hn
        obtain ⟨k, hk⟩ := ih (n.tdiv 10) (by rw [hd]; omega) (by rw [hd]; omega) (by rw [hd]; omega)
        have hl := dec_len (n.tdiv 10) (by rw [hd]; omega) (by rw [hd]; omega)
        refine ⟨k + 2, ?_⟩
        rw [dec_great_neg (by omega)]
        simp only [PNumDecs.dactylref01_Dec.f]
        rw [if_pos hn]
        simp only [PNumDecs.dactylref01_Dec.j0]
        rw [if_neg (by simpa using hs), if_pos hn, wrap64_in (by rw [hd]; omega) (by rw [hd]; omega), hk]
        simp only [Option.bind_some]
        rw [wrap64_in (by rw [hmd]; omega) (by rw [hmd]; omega), show -(n.tmod 10) = ((n.natAbs % 10 : Nat) : Int) from by rw [hmd]; omega, digit_f _ (by omega)]
        simp only [Option.bind_some, str_size, List.length_cons, List.length_nil]
        rw [if_pos (by omega), ← str_append]
    · by_cases hs : n < 10
      · refine ⟨2, ?_⟩
        rw [dec_small (by omega) hs]
        simp only [PNumDecs.dactylref01_Dec.f]
        rw [if_neg hn]
        simp only [PNumDecs.dactylref01_Dec.j0]
        rw [if_neg (by decide), if_neg hn, if_pos hs]
        obtain ⟨d, hd⟩ : ∃ d : Nat, n = d := ⟨n.natAbs, by omega⟩
        subst hd
        rw [digit_f d (by omega)]
        simp
      · have hd : n.tdiv 10 = n / 10 := Int.tdiv_eq_ediv_of_nonneg (by omega)
        have hmd : n.tmod 10 = n % 10 := Int.tmod_eq_emod_of_nonneg (by omega)
        obtain ⟨k, hk⟩ := ih (n.tdiv 10) (by rw [hd]; omega) (by rw [hd]; omega) (by rw [hd]; omega)
        have hl := dec_len (n.tdiv 10) (by rw [hd]; omega) (by rw [hd]; omega)
        refine ⟨k + 2, ?_⟩
        rw [dec_great (by omega)]
        simp only [PNumDecs.dactylref01_Dec.f]
        rw [if_neg hn]
        simp only [PNumDecs.dactylref01_Dec.j0]
        rw [if_neg (by decide), if_neg hn, if_neg hs, wrap64_in (by rw [hd]; omega) (by rw [hd]; omega), hk]
        simp only [Option.bind_some]
        rw [show (n.tmod 10) = ((n.natAbs % 10 : Nat) : Int) from by rw [hmd]; omega, digit_f _ (by omega)]
        simp only [Option.bind_some, str_size, List.length_cons, List.length_nil]
        rw [if_pos (by omega), ← str_append]

theorem rdec14 (n : Int) (w : World) (h0 : -9223372036854775808 ≤ n) (h1 : n ≤ 9223372036854775807) :
    Calls Try.prog 14 #[.int .i64 n] w fun e w' => e = .returned (.string (str (dec n))) ∧ Below w.heap.size w w' := by
  obtain ⟨k, hk⟩ := dec_f _ n (Nat.le_refl _) h0 h1
  exact (PNumDecs.dactylref01_Dec.calls k n _ w hk).mono fun _ _ ⟨h, hb⟩ => ⟨h, hb.below⟩

end Go.Proofs.Ytopmenioioljoaa.NumW
