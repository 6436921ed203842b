/-
  dactyllaw01.NumDecs returns true for every number and every text, and leaves its input as it was. Conditions: none.
  (The frame of this text was written by proof-skeleton.mjs; the walk is ours.)
-/
import Derived.Test.YtopmenioioljoaaRows
import Derived.Test.YtopmenioioljoaaNumDecsB
import Derived.WalkKit
import Derived.ProofKit
import Derived.OpenShut
import Derived.ShutString
namespace Go.Proofs.Ytopmenioioljoaa.numDecs
open Go.ChangeShapes Go.WideShapes Go.ChangeAt Go.RowKit
open Go.ChangeMaps (open_string shut_string)
set_option linter.unusedVariables false      -- a walk need not use every 'w<i>' (that an integer argument fits its kind)

theorem own : ownKnob Try.prog.godebug = none := by kernel_rfl

open Go.Proofs.Ytopmenioioljoaa.NumA Go.Proofs.Ytopmenioioljoaa.NumW Go.Proofs.Ytopmenioioljoaa.Base

theorem undec_cases (s : List UInt8) : (∃ k, undec s = (k, 0) ∧ dec k = s ∧ -9223372036854775808 ≤ k ∧ k ≤ 9223372036854775807) ∨ undec s = (0, 6) := by
  unfold undec
  split
  · rename_i h; exact Or.inl ⟨_, rfl, h, tried_bd s⟩
  · exact Or.inr rfl

set_option maxHeartbeats 1000000 in
theorem walk (a0 : Int) (a1 : ByteArray) (w0 : (Lit.int .i64 a0).wf = true) (w1 : a1.size ≤ maxLen) (w : World) :
    Calls Try.prog 3 #[.int .i64 a0, .string a1] w fun e w' => e = .returned (.bool true) ∧ Below w.heap.size w w' := by
  have hb0 : -9223372036854775808 ≤ a0 ∧ a0 ≤ 9223372036854775807 := by
    have h := w0
    have hmin : IntKind.i64.min = -9223372036854775808 := rfl
    have hmax : IntKind.i64.max = 9223372036854775807 := rfl
    simp only [Lit.wf, Bool.and_eq_true, decide_eq_true_eq] at h
    omega
  obtain ⟨hlo, hhi⟩ := hb0
  clear w0
  unfold maxLen at w1
  by_cases hl : 100 < a1.size
  · go_enter Try.func3, Try.ntmps3
    go_wp2_with fail
    refine (awake11 _).mono ?_
    rintro e w1 ⟨rfl, hb1⟩
    go_wp2
    go_ret
    exact ⟨rfl, hb1⟩
  · have hlen := dec_len a0 hlo hhi
    have HU := Lib.hid (undec_dec a0 hlo hhi)
    rcases undec_cases a1.data.toList with ⟨k, hk, hd, hk0, hk1⟩ | hk
    · have htest : ((str (dec k)).toList == a1.toList) = true := by rw [Lib.toList_data, Lib.toList_data, str_toList]; simpa using hd
      have HK := Lib.hid hk
      clear hk hd
      go_enter Try.func3, Try.ntmps3
      go_wp2_with fail
      refine (dec12 _ _ hlo hhi).mono ?_
      rintro e w1 ⟨rfl, hb1⟩
      go_wp2_with fail
      refine (undec13 _ _ (by rw [str_size]; omega)).mono ?_
      rintro e w2 ⟨rfl, hb2⟩
      rw [str_toList, HU.out]
      go_wp2_with fail
      refine (undec13 _ _ (by omega)).mono ?_
      rintro e w3 ⟨rfl, hb3⟩
      rw [HK.out]
      go_wp2_with fail
      refine (awake11 _).mono ?_
      rintro e w4 ⟨rfl, hb4⟩
      go_wp2_with fail
      refine (rdec14 _ _ hlo hhi).mono ?_
      rintro e w5 ⟨rfl, hb5⟩
      go_wp2_with fail
      refine (rdec14 _ _ hk0 hk1).mono ?_
      rintro e w6 ⟨rfl, hb6⟩
      go_wp2
      go_ret
      exact ⟨rfl, btr hb1 (btr hb2 (btr hb3 (btr hb4 (btr hb5 hb6))))⟩
    · have HK := Lib.hid hk
      clear hk
      go_enter Try.func3, Try.ntmps3
      go_wp2_with fail
      refine (dec12 _ _ hlo hhi).mono ?_
      rintro e w1 ⟨rfl, hb1⟩
      go_wp2_with fail
      refine (undec13 _ _ (by rw [str_size]; omega)).mono ?_
      rintro e w2 ⟨rfl, hb2⟩
      rw [str_toList, HU.out]
      go_wp2_with fail
      refine (undec13 _ _ (by omega)).mono ?_
      rintro e w3 ⟨rfl, hb3⟩
      rw [HK.out]
      go_wp2_with fail
      refine (awake11 _).mono ?_
      rintro e w4 ⟨rfl, hb4⟩
      go_wp2_with fail
      refine (rdec14 _ _ hlo hhi).mono ?_
      rintro e w5 ⟨rfl, hb5⟩
      go_wp2
      go_ret
      exact ⟨rfl, btr hb1 (btr hb2 (btr hb3 (btr hb4 hb5)))⟩

/-! ### THE ROW's STEP: WRITTEN OUT: LEAVE IT -/
set_option maxRecDepth 100000 in
theorem lifted (os : Os) (started : os.Started) (H : Type) (enc : TypeId × Value → H) :
    ReturnsInHanded {} Try.checked os 3 .any (Rows.numDecsSpec.pre6 enc Try.prog Try.f3 Rows.numDecsRow.domain false) (Rows.numDecsSpec.post enc Try.prog Try.f3 false true false false) := by
  refine returnsInHanded_of_change (C := Try.checked) own started (by kernel_rfl) Try.func3
    (ChangeSpec.witness6 (enc := enc) (C := Try.checked) false ⟨#[], #[.int .i64 0, .string ByteArray.empty], []⟩ 8 (by kernel_rfl) (by kernel_rfl) (by kernel_rfl) (by kernel_rfl)) ?_
  intro W base args ds gs before hval0 hW hcnd _
  have hval : ∀ (j : Nat) t v, Try.f3.params[j]? = some t → args[j]? = some v → Value.okWide Try.prog W .any base t v := hval0
  have hW' := hW
  obtain ⟨p, q, hA0, hV, rfl, hfz, hnd⟩ := hW
  have hA : DataW.TrodAll enc Try.prog W 0 (fun _ => true) true Try.f3.params.toList args.toList ds p := hA0
  rw [Try.params3] at hA hval
  obtain ⟨v0, vs0, d0, ds0, p0, q0, hargs, rfl, rfl, h0, r0⟩ := trodAll_cons hA
  obtain ⟨v1, vs1, d1, ds1, p1, q1, rfl, rfl, rfl, h1, r1⟩ := trodAll_cons r0
  obtain ⟨rfl, rfl, rfl⟩ := trodAll_nil r1
  obtain rfl : args = #[v0, v1] := by cases args; simp_all
  obtain ⟨rfl, rfl⟩ := trodVars_none hV
  obtain ⟨a0, rfl, rfl, rfl, w0⟩ := open_int Try.underlying3 (hval 0 3 v0 rfl rfl) h0
  obtain ⟨a1, rfl, rfl, rfl, w1⟩ := open_string Try.underlying9 (hval 1 9 v1 rfl rfl) h1
  clear hA0 hval0
  simp only [List.append_nil] at hW'
  refine (walk a0 a1 w0 w1 W).mono fun e W' ⟨he, hg⟩ => ?_
  subst he
  exact ⟨_, rfl, Base.post_of_below (pa := []) (pv := []) hW' (fun _ _ _ => (trodAll_cons_mk (shut_bool Try.underlying4 _) trodAll_mk0)) (fun sp _ => (trodAll_cons_mk (shut_int Try.underlying3 w0) (trodAll_cons_mk (shut_string Try.underlying9 w1) trodAll_mk0))) (fun _ _ => rfl) rfl
    hg (ok_one (by kernel_rfl) rfl (okWide_bool_mk Try.underlying4 _))⟩

theorem over : Rows.numDecsRow.holds Try.pinned (OpenSpec.ofChange Rows.numDecsSpec) :=
  OpenClaim.holds_of_wide 3 Try.f3 rfl rfl rfl rfl rfl rfl rfl ⟨rfl, rfl, rfl, rfl, rfl⟩ rfl rfl rfl rfl rfl (by kernel_rfl) Try.func3 (by kernel_rfl)
    (of_decide_eq_true (by kernel_rfl)) (by unfold Func.isWrapper; first | (rw [if_pos (by decide +kernel)]; kernel_rfl) | (rw [if_neg (by decide +kernel)]; exact ⟨rfl, rfl⟩))
    (fun os started H enc _ => lifted os started H enc)

/-- ████ THE STATEMENT ████ -/
theorem proved : Rows.NumDecsSaid :=
  over
#print axioms proved
end Go.Proofs.Ytopmenioioljoaa.numDecs
