/-
  THE LAW OF count's OPENING (awake of dactyllaw29): it returns true.
-/
import Derived.Test.YtopmenioioljoaaCountY
namespace Go.Proofs.Ytopmenioioljoaa.CountW
open Go.RowKit Go.Proofs.Ytopmenioioljoaa.Base Go.Proofs.Ytopmenioioljoaa.KeyW

theorem empty_toList : (⟨#[]⟩ : ByteArray).toList = [] := by rw [Lib.toList_data]

theorem may_plain {k v : Int} (hk : (k == 15) = false) : may k v ⟨#[]⟩ false = fit k v := by
  unfold may
  rw [if_neg (by simpa using hk), empty_toList]
  simp

/-- A key without bytes. -/
theorem do_plain (B : Nat) (x : Cn) (k v : Int) (y : Cn) (r : Bool) (w : World) (h : w.heap[B]? = some x.cells) (h0 : 0 ≤ x.n) (h1 : x.n ≤ 9999) (hs : step x k v ⟨#[]⟩ false = (y, r)) :
    Calls Try.prog 25 #[.pointer (some ⟨B, 0, none⟩), .agg #[.int .i64 k, .int .i64 v, .string ⟨#[]⟩, .bool false]] w
      fun e w' => e = .returned (.bool r) ∧ w'.heap[B]? = some y.cells ∧ Upd B w w' := by
  have := do25 B x k v ⟨#[]⟩ false w h h0 h1 (by decide)
  rw [hs] at this
  exact this

theorem s1 : step zero 3 45 ⟨#[]⟩ false = (⟨true, false, true, 0⟩, true) := by
  unfold step; rw [may_plain rfl, empty_toList]; rfl
theorem s2 : step ⟨true, false, true, 0⟩ 3 49 ⟨#[]⟩ false = (⟨true, true, true, 1⟩, true) := by
  unfold step; rw [may_plain rfl, empty_toList]; rfl
theorem s3 : step ⟨true, true, true, 1⟩ 1 50 ⟨#[]⟩ false = (⟨true, true, true, 12⟩, true) := by
  unfold step; rw [may_plain rfl, empty_toList]; rfl
theorem s4 : step ⟨true, true, true, 12⟩ 1 120 ⟨#[]⟩ false = (⟨true, true, true, 12⟩, false) := by
  unfold step; rw [may_plain rfl, empty_toList]; rfl

theorem awake21 (w : World) : Calls Try.prog 21 #[] w fun e w' => e = .returned (.bool true) ∧ Below w.heap.size w w' := by
  have hB := heap_alloc_new w zero.cells
  have hU := Upd.refl w.heap.size (w.alloc zero.cells)
  have HB := Lib.hid hB
  clear hB
  go_enter Try.func21, Try.ntmps21
  go_wp2_with fail
  refine (new22 _).mono ?_
  rintro e w' ⟨rfl, rfl⟩
  go_wp2_with fail
  refine (do_plain _ _ _ _ _ _ _ HB.out (by decide) (by decide) s1).mono ?_
  rintro e w1 ⟨rfl, h1, u1⟩
  have H1 := Lib.hid h1
  clear h1
  go_wp2_with fail
  refine (do_plain _ _ _ _ _ _ _ H1.out (by decide) (by decide) s2).mono ?_
  rintro e w2 ⟨rfl, h2, u2⟩
  have H2 := Lib.hid h2
  clear h2
  go_wp2_with fail
  refine (do_plain _ _ _ _ _ _ _ H2.out (by decide) (by decide) s3).mono ?_
  rintro e w3 ⟨rfl, h3, u3⟩
  have H3 := Lib.hid h3
  clear h3
  go_wp2_with fail
  refine (do_plain _ _ _ _ _ _ _ H3.out (by decide) (by decide) s4).mono ?_
  rintro e w4 ⟨rfl, h4, u4⟩
  have H4 := Lib.hid h4
  clear h4
  go_wp2_with fail
  refine (take28 _ _ _ H4.out (by decide) (by decide)).mono ?_
  rintro e w5 ⟨rfl, h5, u5⟩
  have H5 := Lib.hid h5
  clear h5
  rw [show value ⟨true, true, true, 12⟩ = (-12, true) from rfl]
  go_wp2_with fail
  refine (value27 _ _ _ H5.out (by decide) (by decide)).mono ?_
  rintro e w6 ⟨rfl, rfl⟩
  rw [show value zero = (1, false) from rfl]
  go_wp2
  go_ret
  exact ⟨rfl, (((((hU.trans u1).trans u2).trans u3).trans u4).trans u5).below (balloc _ _) (Nat.le_refl _)⟩

end Go.Proofs.Ytopmenioioljoaa.CountW
