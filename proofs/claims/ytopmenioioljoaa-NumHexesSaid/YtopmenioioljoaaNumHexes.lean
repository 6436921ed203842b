/-
  dactyllaw01.NumHexes returns true for every number, every least count of digits and every text, and leaves its input as it was. Conditions: none.
  (The frame of this text was written by proof-skeleton.mjs; the walk is ours.)
-/
import Derived.Test.YtopmenioioljoaaRows
import Derived.Test.YtopmenioioljoaaNumHexesB
import Derived.WalkKit
import Derived.ProofKit
import Derived.OpenShut
import Derived.ShutString
namespace Go.Proofs.Ytopmenioioljoaa.numHexes
open Go.ChangeShapes Go.WideShapes Go.ChangeAt Go.RowKit
open Go.ChangeMaps (open_string shut_string)
set_option linter.unusedVariables false      -- a walk need not use every 'w<i>' (that an integer argument fits its kind)

theorem own : ownKnob Try.prog.godebug = none := by kernel_rfl

open Go.Proofs.Ytopmenioioljoaa.NumA Go.Proofs.Ytopmenioioljoaa.NumW Go.Proofs.Ytopmenioioljoaa.Base

theorem bd {a : Int} (h : (Lit.int .i64 a).wf = true) : -9223372036854775808 ≤ a ∧ a ≤ 9223372036854775807 := by
  have hmin : IntKind.i64.min = -9223372036854775808 := rfl
  have hmax : IntKind.i64.max = 9223372036854775807 := rfl
  simp only [Lit.wf, Bool.and_eq_true, decide_eq_true_eq] at h
  omega

theorem hex_neg {n l : Int} (h : n < 0) : hex n l = [] := by unfold hex; rw [if_pos h]
theorem hex_pos {n l : Int} (h : ¬ n < 0) : hex n l = digs 16 (min (max l 1) 16).toNat n.natAbs := by unfold hex; rw [if_neg h]

set_option maxHeartbeats 2000000 in
/-- A number below 0. -/
theorem walk_neg (a0 a1 : Int) (a2 : ByteArray) (hlo : -9223372036854775808 ≤ a0) (hhi : a0 ≤ 9223372036854775807) (hlo1 : -9223372036854775808 ≤ a1) (hhi1 : a1 ≤ 9223372036854775807) (hl : ¬ 100 < a2.size) (hn : a0 < 0) (w : World) :
    Calls Try.prog 4 #[.int .i64 a0, .int .i64 a1, .string a2] w fun e w' => e = .returned (.bool true) ∧ Below w.heap.size w w' := by
  have HX := Lib.hid (hex_neg (l := a1) hn)
  have hu0 : unhex [] = (0, 6) := rfl
  have HU := Lib.hid hu0
  clear hu0
  have hE0 : (str []).toList = [] := by rw [Lib.toList_data, str_toList]
  rcases unhex_cases a2.data.toList with ⟨u, hk, hr, hu⟩ | ⟨hk, hr⟩
  all_goals
    have HK := Lib.hid hk
    have HR := Lib.hid hr
    clear hk hr
    go_enter Try.func4, Try.ntmps4
    go_wp2_with fail
    refine (hex15 _ _ _ hlo hhi hlo1 hhi1).mono ?_
    rintro e w1 ⟨rfl, hb1⟩
    rw [HX.out]
    go_wp2_with fail
    refine (unhex19 _ _).mono ?_
    rintro e w2 ⟨rfl, rfl⟩
    rw [str_toList, HU.out]
    go_wp2_with fail
    refine (unhex19 _ _).mono ?_
    rintro e w2 ⟨rfl, rfl⟩
    rw [HK.out]
    go_wp2_with fail
    refine (runhex20 _ _).mono ?_
    rintro e w3 ⟨rfl, hb3⟩
    rw [HR.out]
    go_wp2_with fail
    refine (awake11 _).mono ?_
    rintro e w4 ⟨rfl, hb4⟩
    go_wp2
    go_ret
    exact ⟨rfl, btr hb1 (btr hb3 hb4)⟩

set_option maxHeartbeats 4000000 in
theorem walk (a0 a1 : Int) (a2 : ByteArray) (w0 : (Lit.int .i64 a0).wf = true) (w1 : (Lit.int .i64 a1).wf = true) (w2 : a2.size ≤ maxLen) (w : World) :
    Calls Try.prog 4 #[.int .i64 a0, .int .i64 a1, .string a2] w fun e w' => e = .returned (.bool true) ∧ Below w.heap.size w w' := by
  obtain ⟨hlo, hhi⟩ := bd w0
  obtain ⟨hlo1, hhi1⟩ := bd w1
  clear w0 w1
  unfold maxLen at w2
  by_cases hl : 100 < a2.size
  · go_enter Try.func4, Try.ntmps4
    go_wp2_with fail
    refine (awake11 _).mono ?_
    rintro e w1 ⟨rfl, hb1⟩
    go_wp2
    go_ret
    exact ⟨rfl, hb1⟩
  · by_cases hn : a0 < 0
    · exact walk_neg a0 a1 a2 hlo hhi hlo1 hhi1 hl hn w
    · have h0 : 0 ≤ a0 := by omega
      obtain ⟨hx1, hx2⟩ := hex_len a0 a1 h0 hhi
      have HX := Lib.hid (hex_pos (l := a1) hn)
      have HM := Lib.hid (show min (max a1 1) 16 = min (max a1 1) 16 from rfl)
      obtain ⟨X, hX⟩ : ∃ X, X = hex a0 a1 := ⟨_, rfl⟩
      rw [← hX] at hx1 hx2
      have HXX := Lib.hid hX
      clear hX
      rcases unhex_cases a2.data.toList with ⟨u, hk, hr, hu⟩ | ⟨hk, hr⟩
      all_goals
        have HK := Lib.hid hk
        have HR := Lib.hid hr
        clear hk hr
        by_cases h15 : X.length ≤ 15
        · have HU := Lib.hid (unhex_hex (l := a1) h0 (by rw [← HXX.out]; exact h15))
          rw [← HXX.out] at HU
          go_enter Try.func4, Try.ntmps4
          go_wp2_with fail
          refine (hex15 _ _ _ hlo hhi hlo1 hhi1).mono ?_
          rintro e w1 ⟨rfl, hb1⟩
          rw [← HXX.out]
          go_wp2_with fail
          refine (high18 _ _ _).mono ?_
          rintro e w2 ⟨rfl, hb2⟩
          go_wp2_with fail
          refine (low17 _ _ _).mono ?_
          rintro e w3 ⟨rfl, hb3⟩
          go_wp2_with fail
          refine (rhex16 _ _ _ h0 hhi (by omega) (by omega)).mono ?_
          rintro e w4 ⟨rfl, hb4⟩
          rw [← HX.out, ← HXX.out]
          go_wp2_with fail
          refine (unhex19 _ _).mono ?_
          rintro e w5 ⟨rfl, rfl⟩
          rw [str_toList, HU.out]
          go_wp2_with fail
          refine (unhex19 _ _).mono ?_
          rintro e w5 ⟨rfl, rfl⟩
          rw [HK.out]
          go_wp2_with fail
          refine (runhex20 _ _).mono ?_
          rintro e w6 ⟨rfl, hb6⟩
          rw [HR.out]
          go_wp2_with fail
          refine (awake11 _).mono ?_
          rintro e w7 ⟨rfl, hb7⟩
          go_wp2
          go_ret
          exact ⟨rfl, btr hb1 (btr hb2 (btr hb3 (btr hb4 (btr hb6 hb7))))⟩
        · go_enter Try.func4, Try.ntmps4
          go_wp2_with fail
          refine (hex15 _ _ _ hlo hhi hlo1 hhi1).mono ?_
          rintro e w1 ⟨rfl, hb1⟩
          rw [← HXX.out]
          go_wp2_with fail
          refine (high18 _ _ _).mono ?_
          rintro e w2 ⟨rfl, hb2⟩
          go_wp2_with fail
          refine (low17 _ _ _).mono ?_
          rintro e w3 ⟨rfl, hb3⟩
          go_wp2_with fail
          refine (rhex16 _ _ _ h0 hhi (by omega) (by omega)).mono ?_
          rintro e w4 ⟨rfl, hb4⟩
          rw [← HX.out, ← HXX.out]
          go_wp2_with fail
          refine (unhex19 _ _).mono ?_
          rintro e w5 ⟨rfl, rfl⟩
          rw [str_toList]
          go_wp2_with fail
          refine (unhex19 _ _).mono ?_
          rintro e w5 ⟨rfl, rfl⟩
          rw [HK.out]
          go_wp2_with fail
          refine (runhex20 _ _).mono ?_
          rintro e w6 ⟨rfl, hb6⟩
          rw [HR.out]
          go_wp2_with fail
          refine (awake11 _).mono ?_
          rintro e w7 ⟨rfl, hb7⟩
          go_wp2
          go_ret
          exact ⟨rfl, btr hb1 (btr hb2 (btr hb3 (btr hb4 (btr hb6 hb7))))⟩

/-! ### THE ROW's STEP: WRITTEN OUT: LEAVE IT -/
set_option maxRecDepth 100000 in
theorem lifted (os : Os) (started : os.Started) (H : Type) (enc : TypeId × Value → H) :
    ReturnsInHanded {} Try.checked os 4 .any (Rows.numHexesSpec.pre6 enc Try.prog Try.f4 Rows.numHexesRow.domain false) (Rows.numHexesSpec.post enc Try.prog Try.f4 false true false false) := by
  refine returnsInHanded_of_change (C := Try.checked) own started (by kernel_rfl) Try.func4
    (ChangeSpec.witness6 (enc := enc) (C := Try.checked) false ⟨#[], #[.int .i64 0, .int .i64 0, .string ByteArray.empty], []⟩ 8 (by kernel_rfl) (by kernel_rfl) (by kernel_rfl) (by kernel_rfl)) ?_
  intro W base args ds gs before hval0 hW hcnd _
  have hval : ∀ (j : Nat) t v, Try.f4.params[j]? = some t → args[j]? = some v → Value.okWide Try.prog W .any base t v := hval0
  have hW' := hW
  obtain ⟨p, q, hA0, hV, rfl, hfz, hnd⟩ := hW
  have hA : DataW.TrodAll enc Try.prog W 0 (fun _ => true) true Try.f4.params.toList args.toList ds p := hA0
  rw [Try.params4] at hA hval
  obtain ⟨v0, vs0, d0, ds0, p0, q0, hargs, rfl, rfl, h0, r0⟩ := trodAll_cons hA
  obtain ⟨v1, vs1, d1, ds1, p1, q1, rfl, rfl, rfl, h1, r1⟩ := trodAll_cons r0
  obtain ⟨v2, vs2, d2, ds2, p2, q2, rfl, rfl, rfl, h2, r2⟩ := trodAll_cons r1
  obtain ⟨rfl, rfl, rfl⟩ := trodAll_nil r2
  obtain rfl : args = #[v0, v1, v2] := by cases args; simp_all
  obtain ⟨rfl, rfl⟩ := trodVars_none hV
  obtain ⟨a0, rfl, rfl, rfl, w0⟩ := open_int Try.underlying3 (hval 0 3 v0 rfl rfl) h0
  obtain ⟨a1, rfl, rfl, rfl, w1⟩ := open_int Try.underlying3 (hval 1 3 v1 rfl rfl) h1
  obtain ⟨a2, rfl, rfl, rfl, w2⟩ := open_string Try.underlying9 (hval 2 9 v2 rfl rfl) h2
  clear hA0 hval0
  simp only [List.append_nil] at hW'
  refine (walk a0 a1 a2 w0 w1 w2 W).mono fun e W' ⟨he, hg⟩ => ?_
  subst he
  exact ⟨_, rfl, Base.post_of_below (pa := []) (pv := []) hW' (fun _ _ _ => (trodAll_cons_mk (shut_bool Try.underlying4 _) trodAll_mk0)) (fun sp _ => (trodAll_cons_mk (shut_int Try.underlying3 w0) (trodAll_cons_mk (shut_int Try.underlying3 w1) (trodAll_cons_mk (shut_string Try.underlying9 w2) trodAll_mk0)))) (fun _ _ => rfl) rfl
    hg (ok_one (by kernel_rfl) rfl (okWide_bool_mk Try.underlying4 _))⟩

theorem over : Rows.numHexesRow.holds Try.pinned (OpenSpec.ofChange Rows.numHexesSpec) :=
  OpenClaim.holds_of_wide 4 Try.f4 rfl rfl rfl rfl rfl rfl rfl ⟨rfl, rfl, rfl, rfl, rfl⟩ rfl rfl rfl rfl rfl (by kernel_rfl) Try.func4 (by kernel_rfl)
    (of_decide_eq_true (by kernel_rfl)) (by unfold Func.isWrapper; first | (rw [if_pos (by decide +kernel)]; kernel_rfl) | (rw [if_neg (by decide +kernel)]; exact ⟨rfl, rfl⟩))
    (fun os started H enc _ => lifted os started H enc)

/-- ████ THE STATEMENT ████ -/
theorem proved : Rows.NumHexesSaid :=
  over
#print axioms proved
end Go.Proofs.Ytopmenioioljoaa.numHexes
