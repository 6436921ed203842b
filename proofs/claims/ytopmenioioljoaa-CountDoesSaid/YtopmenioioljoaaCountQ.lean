/-
  THE REFERENCE's count (dactylref29): what it says.
-/
import Derived.Test.YtopmenioioljoaaCountP
import Derived.Test.YtopmenioioljoaaMay
namespace Go.Proofs.Ytopmenioioljoaa.CountW
open Go.RowKit Go.Proofs.Ytopmenioioljoaa.Base Go.Proofs.YtopmenioioljoaaW.PrintWords Go.Proofs.Ytopmenioioljoaa.KeyW

theorem low17w (a b : Int) (w : World) : Calls Try.prog 17 #[.int .i64 a, .int .i64 b] w fun e w' => e = .returned (.int .i64 (min a b)) ∧ w = w' := by
  by_cases h : a < b
  · have HM := Lib.hid (show min a b = a by omega)
    go_enter Try.func17, Try.ntmps17
    go_wp2
    go_ret
    exact ⟨by rw [HM.out]; rfl, rfl⟩
  · have HM := Lib.hid (show min a b = b by omega)
    go_enter Try.func17, Try.ntmps17
    go_wp2
    go_ret
    exact ⟨by rw [HM.out]; rfl, rfl⟩

theorem take_snoc' (z : ByteArray) (k : Nat) (h : k < z.size) : z.data.toList.take (k + 1) = z.data.toList.take k ++ [z[k]] := by
  rw [List.take_succ_eq_append_getElem (by simpa using h)]; rfl

theorem put_minus {x : Cn} {c : UInt8} (h : (c.toNat : Int) = 45) : put x c = ⟨true, x.d, !x.m, x.n⟩ := by
  unfold put
  rw [if_pos]
  apply UInt8.toNat.inj
  have : (45 : UInt8).toNat = 45 := rfl
  omega
theorem put_digit {x : Cn} {c : UInt8} (h : ¬ (c.toNat : Int) = 45) : put x c = ⟨true, true, x.m, min (10 * x.n + ((c.toNat : Int) - 48)) 9999⟩ := by
  unfold put
  rw [if_neg]
  rintro rfl
  exact h rfl

theorem value_abs {l : List UInt8} : value (abs l) = (if (abs l).m then -(if (abs l).d then (abs l).n else 1) else (if (abs l).d then (abs l).n else 1), !l.isEmpty) := by
  unfold value
  rw [abs_b]
  cases l with
  | nil => rfl
  | cons c t => rw [if_neg (by simp)]; simp

set_option maxHeartbeats 2000000 in
theorem value26 (z : ByteArray) (w : World) (hz : z.size ≤ 1000) (hg : Good z.data.toList) :
    Calls Try.prog 26 #[.agg #[.string z]] w fun e w' => e = .returned (.tuple #[.int .i64 (value (abs z.data.toList)).1, .bool (value (abs z.data.toList)).2]) ∧ Below w.heap.size w w' := by
  have HG := Lib.hid hg
  have hbA := balloc w (.cells #[.string z] 37)
  clear hg
  go_enter Try.func26, Try.ntmps26
  go_wp2
  go_loopw [4, 5, 6, 7] (fun vn vd vm vi wr => ∃ (k : Nat) (x : Cn), k ≤ z.size ∧ vi = .int .i64 k ∧ vn = .int .i64 x.n ∧ vd = .bool x.d ∧ vm = .bool x.m ∧ 0 ≤ x.n ∧ x.n ≤ 9999 ∧ Hid (abs (z.data.toList.take k) = x) ∧ wr = w.alloc (.cells #[.string z] 37)) (fun _ _ _ vi _ => z.size - (intOf vi).toNat)
  case atStart => exact ⟨0, zero, by omega, rfl, rfl, rfl, rfl, by decide, by decide, rfl, rfl⟩
  case round =>
    obtain ⟨k, x, hk, rfl, rfl, rfl, rfl, hn0, hn1, HX, rfl⟩ := hrel
    by_cases hlt : k < z.size
    · have hgc := HG.out z[k] (by
        have : z[k] = z.data.toList[k]'(by rw [← Lib.size_eq]; exact hlt) := by rw [Array.getElem_toList]; rfl
        rw [this]; exact List.getElem_mem _)
      have hsn : abs (z.data.toList.take (k + 1)) = put x z[k] := by rw [take_snoc' z k hlt, abs_snoc, HX.out]
      by_cases hc : (z[k].toNat : Int) = 45
      · have e1 : ((z[k].toNat : Int) == 45) = true := by simpa using hc
        have HS : Hid (abs (z.data.toList.take (k + 1)) = ⟨true, x.d, !x.m, x.n⟩) := by show _ = _; rw [hsn, put_minus hc]
        clear hsn hgc hc
        go_wp2
        go_roundw
        case rel => exact ⟨k + 1, ⟨true, x.d, !x.m, x.n⟩, by omega, by go_num, rfl, rfl, rfl, hn0, hn1, HS, trivial⟩
        case measure => simp [intOf]; omega
      · have e1 : ((z[k].toNat : Int) == 45) = false := by simpa using hc
        have hr : 48 ≤ (z[k].toNat : Int) ∧ (z[k].toNat : Int) ≤ 57 := by
          rcases hgc with hgc | hgc
          · exact absurd (by rw [hgc]; rfl) hc
          · omega
        obtain ⟨hr0, hr1⟩ := hr
        have HS : Hid (abs (z.data.toList.take (k + 1)) = ⟨true, true, x.m, min (10 * x.n + ((z[k].toNat : Int) - 48)) 9999⟩) := by show _ = _; rw [hsn, put_digit hc]
        have HN : Hid (min (x.n * 10 + (z[k].toNat : Int) - 48) 9999 = min (10 * x.n + ((z[k].toNat : Int) - 48)) 9999) := by show _ = _; omega
        clear hsn hgc hc
        go_wp2_with (go_at_call 17; refine (low17w _ _ _).mono ?_; rintro e w' ⟨rfl, rfl⟩)
        go_roundw
        case rel => exact ⟨k + 1, ⟨true, true, x.m, min (10 * x.n + ((z[k].toNat : Int) - 48)) 9999⟩, by omega, by go_num, by rw [HN.out], rfl, rfl, by show (0 : Int) ≤ min _ _; omega, by show min _ _ ≤ (9999 : Int); omega, HS, trivial⟩
        case measure => simp [intOf]; omega
    · have hX : abs z.data.toList = x := by rw [← HX.out, List.take_of_length_le (by rw [← Lib.size_eq]; omega)]
      have hV : value (abs z.data.toList) = (if x.m then -(if x.d then x.n else 1) else (if x.d then x.n else 1), !z.data.toList.isEmpty) := by rw [value_abs, hX]
      have hE : z.toList.isEmpty = z.data.toList.isEmpty := by rw [Lib.toList_data]
      have HV := Lib.hid hV
      have HE := Lib.hid hE
      clear hX hV hE
      cases hd : x.d
      all_goals
        cases hm : x.m
        all_goals
          go_wp2
          go_quiet (fail)
          go_wp2
          go_ret2
          refine ⟨?_, btr hbA (bdrewN _ _)⟩
          rw [HV.out, hd, hm, ← HE.out]
          rfl

end Go.Proofs.Ytopmenioioljoaa.CountW
